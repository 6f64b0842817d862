import PyProof.Rows.All
import Wide.All
import OpenK.AllK
import Wide.FinOn
import HandS.ForMost
import HandS.IsInst
import HandS.Walk
import HandS.Conv
import HandS.FStr
import HandS.Lambda
import HandS.Defaults
import HandS.Head0
import HandS.Head1
import HandS.Head2
import HandS.HeadEnd
import HandS.HeadHook1
import HandS.HeadHook2
import HandS.HeadHook3
import HandS.HeadHook4
import KE.GoesMore
import HandS.TupAny
import HandS.TupMul
import HandS.SortInts
import KE.LtData
import HandS.WordsExc
import HandS.ExcInit
import HandS.ExcField
import HandS.ExcIs
import KE.KExcIs
import HandS.HeadWalk
import PySem.Challenge.RW_faruplink_k19_sturdy_by_trying_all
set_option Elab.async false
set_option linter.all false
set_option maxRecDepth 100000
set_option maxHeartbeats 2000000
/-! FL: a calculus over plain data. A state is: the slots' data (G), and the mutable cells (M). What is immutable has no address here. -/
namespace FL
open PySem PySem.Spec PyProof.Rows L2
/-- plain data -/
inductive D where
  | non | bl (b : Bool) | int (i : Int) | str (x : Str) | ref (a : Addr) | ty (n : String)
  | tup (ds : List D) | lst (ds : List D) | fzl (ds : List D)
  | dK (kvs : List (Key × D)) | dT (kvs : List (List Key × D))
mutual
/-- in the heap of what stays, F, the value is that data -/
inductive Rp (K : PySem.W.Frag) (F : Hp) : V → D → Prop
  | non : Rp K F .non .non
  | bl (b : Bool) : Rp K F (.bl b) (.bl b)
  | int (i : Int) : Rp K F (.int i) (.int i)
  | str (x : Str) : Rp K F (.str x) (.str x)
  | ref (a : Addr) : Rp K F (.ref a) (.ref a)
  | ty (n : String) : Rp K F (.ty n) (.ty n)
  | tup {a : Addr} {xs : List V} {ds : List D} : SqT K F a xs → RpAll K F xs ds → Rp K F (.ref a) (.tup ds)
  | lst {a : Addr} {xs : List V} {ds : List D} : F a = some (.lst xs) → RpAll K F xs ds → Rp K F (.ref a) (.lst ds)
  | fzl {a : Addr} {xs : List V} {ds : List D} : SqL K F a xs → RpAll K F xs ds → Rp K F (.ref a) (.fzl ds)
  | dK {a : Addr} {kvs : List (Key × V)} {kds : List (Key × D)} : F a = some (.dK kvs) → RpKey K F kvs kds → Rp K F (.ref a) (.dK kds)
  | dT {a : Addr} {kvs : List (List Key × V)} {kds : List (List Key × D)} : F a = some (.dT kvs) → RpTup K F kvs kds → Rp K F (.ref a) (.dT kds)
inductive RpAll (K : PySem.W.Frag) (F : Hp) : List V → List D → Prop
  | nil : RpAll K F [] []
  | cons {v : V} {vs : List V} {d : D} {ds : List D} : Rp K F v d → RpAll K F vs ds → RpAll K F (v :: vs) (d :: ds)
inductive RpKey (K : PySem.W.Frag) (F : Hp) : List (Key × V) → List (Key × D) → Prop
  | nil : RpKey K F [] []
  | cons {k : Key} {v : V} {vs : List (Key × V)} {d : D} {ds : List (Key × D)} : Rp K F v d → RpKey K F vs ds → RpKey K F ((k, v) :: vs) ((k, d) :: ds)
inductive RpTup (K : PySem.W.Frag) (F : Hp) : List (List Key × V) → List (List Key × D) → Prop
  | nil : RpTup K F [] []
  | cons {k : List Key} {v : V} {vs : List (List Key × V)} {d : D} {ds : List (List Key × D)} : Rp K F v d → RpTup K F vs ds → RpTup K F ((k, v) :: vs) ((k, d) :: ds)
end
theorem sq_same {K : PySem.W.Frag} {F F' : Hp} {a : Addr} {xs : List V} (e : Same F F') (h : SqT K F a xs) : SqT K F' a xs := by
  rcases h with (h | ⟨o, h⟩) | h
  · exact .inl (.inl (e _ _ h))
  · exact .inl (.inr ⟨o, e _ _ h⟩)
  · exact .inr h
mutual
theorem Rp.mono {K : PySem.W.Frag} {F F' : Hp} (e : Same F F') : ∀ {v : V} {d : D}, Rp K F v d → Rp K F' v d
  | _, _, .non => .non
  | _, _, .bl b => .bl b
  | _, _, .int i => .int i
  | _, _, .str x => .str x
  | _, _, .ref a => .ref a
  | _, _, .ty n => .ty n
  | _, _, .tup h r => .tup (sq_same e h) (RpAll.mono e r)
  | _, _, .lst h r => .lst (e _ _ h) (RpAll.mono e r)
  | _, _, .fzl h r => .fzl (e.seq h) (RpAll.mono e r)
  | _, _, .dK h r => .dK (e _ _ h) (RpKey.mono e r)
  | _, _, .dT h r => .dT (e _ _ h) (RpTup.mono e r)
theorem RpAll.mono {K : PySem.W.Frag} {F F' : Hp} (e : Same F F') : ∀ {vs : List V} {ds : List D}, RpAll K F vs ds → RpAll K F' vs ds
  | _, _, .nil => .nil
  | _, _, .cons h r => .cons (Rp.mono e h) (RpAll.mono e r)
theorem RpKey.mono {K : PySem.W.Frag} {F F' : Hp} (e : Same F F') : ∀ {vs : List (Key × V)} {ds : List (Key × D)}, RpKey K F vs ds → RpKey K F' vs ds
  | _, _, .nil => .nil
  | _, _, .cons h r => .cons (Rp.mono e h) (RpKey.mono e r)
theorem RpTup.mono {K : PySem.W.Frag} {F F' : Hp} (e : Same F F') : ∀ {vs : List (List Key × V)} {ds : List (List Key × D)}, RpTup K F vs ds → RpTup K F' vs ds
  | _, _, .nil => .nil
  | _, _, .cons h r => .cons (Rp.mono e h) (RpTup.mono e r)
end
section
variable {K : PySem.W.Frag} {F : Hp}
theorem RpAll.length : ∀ {vs : List V} {ds : List D}, RpAll K F vs ds → vs.length = ds.length
  | _, _, .nil => rfl
  | _, _, .cons _ r => by rw [List.length_cons, List.length_cons, RpAll.length r]
theorem RpAll.get : ∀ {vs : List V} {ds : List D} {i : Nat} {d : D}, RpAll K F vs ds → ds[i]? = some d → ∃ v, vs[i]? = some v ∧ Rp K F v d
  | _, _, _, _, .nil, h => by simp at h
  | _, _, 0, _, .cons r _, h => by
    simp at h; subst h; exact ⟨_, rfl, r⟩
  | _, _, i + 1, d, .cons _ r, h => by
    obtain ⟨v, h1, h2⟩ := RpAll.get (i := i) (d := d) r (by simpa using h)
    exact ⟨v, by simpa using h1, h2⟩
theorem RpAll.getV : ∀ {vs : List V} {ds : List D} {i : Nat} {v : V}, RpAll K F vs ds → vs[i]? = some v → ∃ d, ds[i]? = some d ∧ Rp K F v d
  | _, _, _, _, .nil, h => by simp at h
  | _, _, 0, _, .cons r _, h => by
    simp at h; subst h; exact ⟨_, rfl, r⟩
  | _, _, i + 1, v, .cons _ r, h => by
    obtain ⟨d, h1, h2⟩ := RpAll.getV (i := i) (v := v) r (by simpa using h)
    exact ⟨d, by simpa using h1, h2⟩
theorem RpAll.append : ∀ {vs ws : List V} {ds es : List D}, RpAll K F vs ds → RpAll K F ws es → RpAll K F (vs ++ ws) (ds ++ es)
  | _, _, _, _, .nil, s => s
  | _, _, _, _, .cons h r, s => .cons h (RpAll.append r s)
theorem RpAll.set : ∀ {vs : List V} {ds : List D} (i : Nat) {v : V} {d : D}, RpAll K F vs ds → Rp K F v d → RpAll K F (vs.set i v) (ds.set i d)
  | _, _, _, _, _, .nil, _ => .nil
  | _, _, 0, _, _, .cons _ r, h => .cons h r
  | _, _, i + 1, _, _, .cons q r, h => .cons q (RpAll.set i r h)
theorem RpAll.take : ∀ {vs : List V} {ds : List D} (n : Nat), RpAll K F vs ds → RpAll K F (vs.take n) (ds.take n)
  | _, _, 0, _ => .nil
  | _, _, _ + 1, .nil => .nil
  | _, _, n + 1, .cons h r => .cons h (RpAll.take n r)
theorem RpAll.drop : ∀ {vs : List V} {ds : List D} (n : Nat), RpAll K F vs ds → RpAll K F (vs.drop n) (ds.drop n)
  | _, _, 0, r => r
  | _, _, _ + 1, .nil => .nil
  | _, _, n + 1, .cons _ r => RpAll.drop n r
theorem RpAll.ints : ∀ {ns : List Int}, RpAll K F (ns.map V.int) (ns.map D.int)
  | [] => .nil
  | _ :: _ => .cons (.int _) RpAll.ints
end
/-- what stands in a mutable cell -/
inductive MO where
  | lst (ds : List D) | ins (C : Addr) (fs : List (Str × D)) | dK (kvs : List (Key × D)) | dT (kvs : List (List Key × D))
  | tbl (q : Str) | xd (f : Str) (n : Int)
abbrev Mem := Addr → Option MO
def mupd (M : Mem) (a : Addr) (o : MO) : Mem := fun b => if b = a then some o else M b
theorem mupd_same {M : Mem} {a : Addr} {o : MO} : mupd M a o a = some o := by unfold mupd; rw [if_pos rfl]
theorem mupd_ne {M : Mem} {a b : Addr} {o : MO} (h : b ≠ a) : mupd M a o b = M b := by unfold mupd; rw [if_neg h]
theorem mupd_mupd {M : Mem} {a : Addr} {o u : MO} : mupd (mupd M a o) a u = mupd M a u := by
  funext b; unfold mupd; split <;> rfl
/-- the cell is forgotten -/
def mdel (M : Mem) (a : Addr) : Mem := fun b => if b = a then none else M b
theorem mdel_mupd {M : Mem} {a : Addr} {o : MO} (h : M a = none) : mdel (mupd M a o) a = M := by
  funext b
  unfold mdel mupd
  by_cases e : b = a
  · subst e; rw [if_pos rfl, h]
  · rw [if_neg e, if_neg e]
theorem mne {M : Mem} {a b : Addr} {o : MO} (h : M a = some o) (h' : M b = none) : a ≠ b := by
  intro e; subst e; rw [h] at h'; cases h'
theorem mnes {M : Mem} {a b : Addr} {o : MO} (h : M a = some o) (h' : M b = none) : b ≠ a := fun e => mne h h' e.symm
/-- fields by name, in order -/
inductive FsRp (K : PySem.W.Frag) (F : Hp) : List (Str × V) → List (Str × D) → Prop
  | nil : FsRp K F [] []
  | cons {k : Str} {v : V} {vs : List (Str × V)} {d : D} {ds : List (Str × D)} : Rp K F v d → FsRp K F vs ds → FsRp K F ((k, v) :: vs) ((k, d) :: ds)
theorem FsRp.mono {K : PySem.W.Frag} {F F' : Hp} (e : Same F F') : ∀ {vs : List (Str × V)} {ds : List (Str × D)}, FsRp K F vs ds → FsRp K F' vs ds
  | _, _, .nil => .nil
  | _, _, .cons h r => .cons (h.mono e) (FsRp.mono e r)
def MRp (K : PySem.W.Frag) (F H : Hp) (a : Addr) : MO → Prop
  | .lst ds => ∃ xs, H a = some (.lst xs) ∧ RpAll K F xs ds
  | .ins C fs => ∃ dx vs, H a = some (.ins C dx vs) ∧ FsRp K F vs fs
  | .dK kvs => ∃ vs, H a = some (.dK vs) ∧ RpKey K F vs kvs
  | .dT kvs => ∃ vs, H a = some (.dT vs) ∧ RpTup K F vs kvs
  | .tbl q => ∃ ps : Array Value, H a = some (.tbl ps) ∧ TriplesOk ps.toList ∧ ∀ (pos : Pos) (cv : Value), codeAmong pos ps.toList = some cv → ∃ c, cv = .ref c ∧ F c = some (LamX.CodeO c q)
  | .xd f n => H a = some (.xd [(f, .int n)])
def MemOk (K : PySem.W.Frag) (F H : Hp) (M : Mem) : Prop := ∀ a o, M a = some o → F a = none ∧ MRp K F H a o
def SlotsOk (K : PySem.W.Frag) (F : Hp) (s : L2.St) (G : List (Option D)) : Prop := G.length = s.length ∧ ∀ (i : Nat) (d : D), G[i]? = some (some d) → ∃ v, s[i]? = some (some v) ∧ Rp K F v d
/-- where a piece of code began: what stays, the cells, the heap -/
structure Bs where
  F : Hp
  M : Mem
  H : Hp
/-- what was no cell is as it was -/
def Kp (M : Mem) (H : Hp) (M' : Mem) (H' : Hp) : Prop := ∀ a u, H a = some u → M a = none → H' a = some u ∧ M' a = none
theorem Kp.refl (M : Mem) (H : Hp) : Kp M H M H := fun _ _ h m => ⟨h, m⟩
theorem Kp.trans {M M1 M2 : Mem} {H H1 H2 : Hp} (a : Kp M H M1 H1) (b : Kp M1 H1 M2 H2) : Kp M H M2 H2 := fun x u h m => b x u (a x u h m).1 (a x u h m).2
theorem Kp.heap {M : Mem} {H H' : Hp} (e : Same H H') : Kp M H M H' := fun a u h m => ⟨e a u h, m⟩
theorem Kp.less {M M' : Mem} {H : Hp} (h : ∀ a o, M' a = some o → M a = some o) : Kp M H M' H := fun a u e m => ⟨e, by
  cases q : M' a with
  | none => rfl
  | some o => rw [h a o q] at m; cases m⟩
structure R (B : Bs) (K : PySem.W.Frag) (F : Hp) (s : L2.St) (H : Hp) (G : List (Option D)) (M : Mem) : Prop where
  slots : SlotsOk K F s G
  ex : Same F H
  mem : MemOk K F H M
  bf : Same B.F F
  bk : Kp B.M B.H M H
section
variable {B : Bs} {K : PySem.W.Frag} {F F' H H' : Hp} {s : L2.St} {G : List (Option D)} {M M' : Mem}
theorem MRp.mono {a : Addr} (e : Same F F') : ∀ {o : MO}, MRp K F H a o → MRp K F' H a o
  | .lst _, ⟨xs, h, r⟩ => ⟨xs, h, r.mono e⟩
  | .ins _ _, ⟨dx, vs, h, r⟩ => ⟨dx, vs, h, r.mono e⟩
  | .dK _, ⟨xs, h, r⟩ => ⟨xs, h, r.mono e⟩
  | .dT _, ⟨xs, h, r⟩ => ⟨xs, h, r.mono e⟩
  | .tbl _, ⟨ps, h, t, r⟩ => ⟨ps, h, t, fun pos cv z => by
    obtain ⟨c, e1, e2⟩ := r pos cv z
    exact ⟨c, e1, e _ _ e2⟩⟩
  | .xd _ _, h => h
theorem MRp.there {a : Addr} : ∀ {o : MO}, MRp K F H a o → ∃ u, H a = some u ∧ ∀ xs, u ≠ .tup xs
  | .lst _, ⟨xs, h, r⟩ => ⟨_, h, fun _ e => nomatch e⟩
  | .ins _ _, ⟨dx, vs, h, r⟩ => ⟨_, h, fun _ e => nomatch e⟩
  | .dK _, ⟨xs, h, r⟩ => ⟨_, h, fun _ e => nomatch e⟩
  | .dT _, ⟨xs, h, r⟩ => ⟨_, h, fun _ e => nomatch e⟩
  | .tbl _, ⟨ps, h, _⟩ => ⟨_, h, fun _ e => nomatch e⟩
  | .xd _ _, h => ⟨_, h, fun _ e => nomatch e⟩
theorem MRp.heap {a : Addr} (e : ∀ u, H a = some u → H' a = some u) : ∀ {o : MO}, MRp K F H a o → MRp K F H' a o
  | .lst _, ⟨xs, h, r⟩ => ⟨xs, e _ h, r⟩
  | .ins _ _, ⟨dx, vs, h, r⟩ => ⟨dx, vs, e _ h, r⟩
  | .dK _, ⟨xs, h, r⟩ => ⟨xs, e _ h, r⟩
  | .dT _, ⟨xs, h, r⟩ => ⟨xs, e _ h, r⟩
  | .tbl _, ⟨ps, h, r⟩ => ⟨ps, e _ h, r⟩
  | .xd _ _, h => e _ h
theorem SlotsOk.mono (e : Same F F') (h : SlotsOk K F s G) : SlotsOk K F' s G := ⟨h.1, fun i d q => by
  obtain ⟨v, h1, h2⟩ := h.2 i d q
  exact ⟨v, h1, h2.mono e⟩⟩
theorem SlotsOk.set {i : Nat} {v : V} {d : D} (h : SlotsOk K F s G) (r : Rp K F v d) : SlotsOk K F (s.set i (some v)) (G.set i (some d)) := by
  refine ⟨by simpa using h.1, fun j e q => ?_⟩
  by_cases hj : i = j
  · subst hj
    by_cases hi : i < G.length
    · rw [List.getElem?_set_self hi] at q
      cases q
      exact ⟨v, by rw [List.getElem?_set_self (by rw [← h.1]; exact hi)], r⟩
    · rw [List.getElem?_eq_none (by simpa using hi)] at q
      cases q
  · rw [List.getElem?_set_ne hj] at q ⊢
    exact h.2 j e q
theorem SlotsOk.setNone {i : Nat} {u : Option V} (h : SlotsOk K F s G) : SlotsOk K F (s.set i u) (G.set i none) := by
  refine ⟨by simpa using h.1, fun j e q => ?_⟩
  by_cases hj : i = j
  · subst hj
    by_cases hi : i < G.length
    · rw [List.getElem?_set_self hi] at q
      cases q
    · rw [List.getElem?_eq_none (by simpa using hi)] at q
      cases q
  · rw [List.getElem?_set_ne hj] at q ⊢
    exact h.2 j e q
/-- a new thing of the heap, nothing known of it -/
theorem MemOk.heap (e : Same H H') (h : MemOk K F H M) : MemOk K F H' M := fun a o q => ⟨(h a o q).1, (h a o q).2.heap fun u => e a u⟩
theorem Same.upd_new {p : Addr} {o : HO} (h : H p = none) : Same H (upd H p o) := fun b u q => by rw [upd_ne (ne_of_none q h)]; exact q
theorem R.heap (e : Same H H') (r : R B K F s H G M) : R B K F s H' G M := ⟨r.slots, r.ex.trans e, r.mem.heap e, r.bf, r.bk.trans (Kp.heap e)⟩
theorem R.freeF {p : Addr} (r : R B K F s H G M) (h : H p = none) : F p = none := r.ex.free h
theorem R.freeM {p : Addr} (r : R B K F s H G M) (h : H p = none) : M p = none := by
  cases q : M p with
  | none => rfl
  | some o =>
    obtain ⟨u, hu, _⟩ := (r.mem p o q).2.there
    rw [h] at hu; cases hu
/-- F may know more of the heap: what is no cell of M -/
theorem R.grow (e : Same F F') (e2 : Same F' H) (hm : ∀ a o, M a = some o → F' a = none) (r : R B K F s H G M) : R B K F' s H G M :=
  ⟨r.slots.mono e, e2, fun a o q => ⟨hm a o q, (r.mem a o q).2.mono e⟩, r.bf.trans e, r.bk⟩
/-- a new frozen thing at p -/
theorem R.new {p : Addr} {o : HO} (r : R B K F s H G M) (h : H p = none) : Same F (upd F p o) ∧ R B K (upd F p o) s (upd H p o) G M := by
  have e : Same F (upd F p o) := Same.upd_new (r.freeF h)
  have hp : M p = none := r.freeM h
  refine ⟨e, ?_⟩
  refine R.grow e (fun b u q => ?_) (fun a u q => ?_) (r.heap (Same.upd_new h))
  · by_cases hb : b = p
    · subst hb; rw [upd_same] at q ⊢; exact q
    · rw [upd_ne hb] at q ⊢; exact r.ex b u q
  · rw [upd_ne (mne q hp)]; exact (r.mem a u q).1
/-- a new cell at p -/
theorem R.newCell {p : Addr} {ho : HO} {o : MO} (r : R B K F s H G M) (h : H p = none) (k : MRp K F (upd H p ho) p o) : R B K F s (upd H p ho) G (mupd M p o) := by
  refine ⟨r.slots, r.ex.trans (Same.upd_new h), fun a u q => ?_, r.bf, r.bk.trans fun a u e m => ⟨Same.upd_new h a u e, by rw [mupd_ne (ne_of_none e h)]; exact m⟩⟩
  by_cases ha : a = p
  · subst ha; rw [mupd_same] at q; cases q; exact ⟨r.freeF h, k⟩
  · rw [mupd_ne ha] at q
    exact ⟨(r.mem a u q).1, (r.mem a u q).2.heap fun v e => by rw [upd_ne ha]; exact e⟩
/-- a cell is written -/
theorem R.write {p : Addr} {ho : HO} {o o' : MO} (r : R B K F s H G M) (h : M p = some o) (k : MRp K F (upd H p ho) p o') : R B K F s (upd H p ho) G (mupd M p o') := by
  have fp := (r.mem p o h).1
  refine ⟨r.slots, fun b u q => ?_, fun a u q => ?_, r.bf, r.bk.trans fun a u e m => ⟨by rw [upd_ne (fun z => by rw [z, h] at m; cases m)]; exact e, by rw [mupd_ne (fun z => by rw [z, h] at m; cases m)]; exact m⟩⟩
  · rw [upd_ne (ne_of_none q fp)]; exact r.ex b u q
  by_cases ha : a = p
  · subst ha; rw [mupd_same] at q; cases q; exact ⟨fp, k⟩
  · rw [mupd_ne ha] at q
    exact ⟨(r.mem a u q).1, (r.mem a u q).2.heap fun v e => by rw [upd_ne ha]; exact e⟩
/-- less is known of the cells -/
theorem R.less (r : R B K F s H G M) (h : ∀ a o, M' a = some o → M a = some o) : R B K F s H G M' := ⟨r.slots, r.ex, fun a o q => r.mem a o (h a o q), r.bf, r.bk.trans (Kp.less h)⟩
/-- a list cell is frozen -/
theorem R.freeze {p : Addr} {ds : List D} (r : R B K F s H G M) (h : M p = some (.lst ds)) : ∃ F', Same F F' ∧ R B K F' s H G (mdel M p) ∧ Rp K F' (.ref p) (.lst ds) := by
  obtain ⟨fp, xs, hx, rx⟩ := r.mem p _ h
  have e : Same F (upd F p (.lst xs)) := Same.upd_new fp
  refine ⟨upd F p (.lst xs), e, ?_, .lst upd_same (rx.mono e)⟩
  have r2 : R B K F s H G (mdel M p) := r.less fun a o q => by
    unfold mdel at q
    split at q
    · cases q
    · exact q
  refine R.grow e (fun b u q => ?_) (fun a u q => ?_) r2
  · by_cases hb : b = p
    · subst hb; rw [upd_same] at q; cases q; exact hx
    · rw [upd_ne hb] at q; exact r.ex b u q
  · unfold mdel at q
    split at q
    · cases q
    · rename_i hb
      rw [upd_ne hb]; exact (r.mem a u q).1
end
end FL
namespace FL
open PySem PySem.Spec PyProof.Rows L2
abbrev Sl := List (Option D)
/-! ### the weakest readings -/
section
variable {B : Bs} {X : Cx} {e : Expr}
def WE (X : Cx) (e : Expr) : TE := fun σ H Q => ∀ (pins : List (Addr × Obj)) (s : Shared), Inv X pins σ H s → wpAny (model X.prog X.w) X.A (eval e X.env) (EP X pins σ Q) X.xe s
theorem pe_we : PE X e (WE X e) := ⟨fun pins s _ _ _ I h => h pins s I⟩
theorem WE.of {t : TE} {σ : L2.St} {H : Hp} {Q : VK} (h : PE X e t) (q : t σ H Q) : WE X e σ H Q := fun pins s I => h.run pins s σ H Q I q
def WT (X : Cx) (e : Expr) : TT := fun σ H Q => ∀ (pins : List (Addr × Obj)) (s : Shared), Inv X pins σ H s → wpAny (model X.prog X.w) X.A (isTrue e X.env (eval e X.env)) (TP X pins σ Q) X.xe s
theorem pt_wt : PT X e (WT X e) := ⟨fun pins s _ _ _ I h => h pins s I⟩
theorem WT.of {t : TT} {σ : L2.St} {H : Hp} {Q : Bool → Hp → Prop} (h : PT X e t) (q : t σ H Q) : WT X e σ H Q := fun pins s I => h.run pins s σ H Q I q
def WW (X : Cx) (e : Expr) : TT := fun σ H Q => ∀ (whole : Sem Value) (pins : List (Addr × Obj)) (s : Shared), Inv X pins σ H s → wpAny (model X.prog X.w) X.A (isTrue e X.env whole) (TP X pins σ Q) X.xe s
theorem pw_ww : PW X e (WW X e) := ⟨fun wh pins s _ _ _ I h => h wh pins s I⟩
theorem WW.of {t : TT} {σ : L2.St} {H : Hp} {Q : Bool → Hp → Prop} (h : PW X e t) (q : t σ H Q) : WW X e σ H Q := fun wh pins s I => h.run wh pins s σ H Q I q
def WA (X : Cx) (es : List Expr) : TA := fun σ H Q => ∀ (pos : Pos) (pins : List (Addr × Obj)) (s : Shared), Inv X pins σ H s → wpAny (model X.prog X.w) X.A (spliced (backTo pos (starEach es X.env))) (AP X pins σ Q) X.xe s
theorem pa_wa {es : List Expr} : PA X es (WA X es) := ⟨fun pos pins s _ _ _ I h => h pos pins s I⟩
theorem WA.of {es : List Expr} {t : TA} {σ : L2.St} {H : Hp} {Q : List V → Hp → Prop} (h : PA X es t) (q : t σ H Q) : WA X es σ H Q := fun pos pins s I => h.run pos pins s σ H Q I q
def WO (X : Cx) (f : Value → Value → Sem Value) : R2 := fun x y H Q => ∀ (pins : List (Addr × Obj)) (s : Shared) (σ : L2.St) (v u : Value), Inv X pins σ H s → RelV x v → RelV y u → wpAny (model X.prog X.w) X.A (f v u) (EP X pins σ Q) X.xe s
theorem op_wo {f : Value → Value → Sem Value} : OpR X f (WO X f) := fun pins s σ _ _ _ v u _ I r1 r2 h => h pins s σ v u I r1 r2
theorem WO.of {f : Value → Value → Sem Value} {r : R2} {x y : V} {H : Hp} {Q : VK} (h : OpR X f r) (q : r x y H Q) : WO X f x y H Q := fun pins s σ v u I r1 r2 => h pins s σ H x y v u Q I r1 r2 q
def WU (X : Cx) (f : Value → Sem Value) : V → Hp → VK → Prop := fun x H Q => ∀ (pins : List (Addr × Obj)) (s : Shared) (σ : L2.St) (v : Value), Inv X pins σ H s → RelV x v → wpAny (model X.prog X.w) X.A (f v) (EP X pins σ Q) X.xe s
theorem un_wu {f : Value → Sem Value} : UnR X f (WU X f) := fun pins s σ _ _ v _ I r1 h => h pins s σ v I r1
theorem WU.of {f : Value → Sem Value} {r : V → Hp → VK → Prop} {x : V} {H : Hp} {Q : VK} (h : UnR X f r) (q : r x H Q) : WU X f x H Q := fun pins s σ v I r1 => h pins s σ H x v Q I r1 q
def WC (X : Cx) (f : Value) : List V → Hp → VK → Prop := fun xs H Q => ∀ (pins : List (Addr × Obj)) (s : Shared) (σ : L2.St) (us : List Value), Inv X pins σ H s → Vals xs us → wpAny (model X.prog X.w) X.A (call f us) (EP X pins σ Q) X.xe s
theorem call_wc {f : Value} : CallR X f (WC X f) := fun pins s σ _ _ us _ I r h => h pins s σ us I r
theorem WC.of {f : Value} {r : List V → Hp → VK → Prop} {xs : List V} {H : Hp} {Q : VK} (h : CallR X f r) (q : r xs H Q) : WC X f xs H Q := fun pins s σ us I rr => h pins s σ H xs us Q I rr q
def WI (X : Cx) : R2 := fun x y H Q => ∀ (value slice : Expr) (pins : List (Addr × Obj)) (s : Shared) (σ : L2.St) (v u : Value), Inv X pins σ H s → RelV x v → RelV y u →
  subscripted slice false v u = operate [v, u] (getItem v u) → wpAny (model X.prog X.w) X.A (subscriptTail value slice v u) (EP X pins σ Q) X.xe s
theorem ix_wi : IxR X (WI X) := fun a b pins s σ _ _ _ v u _ I r1 r2 h hs => h a b pins s σ v u I r1 r2 hs
theorem WI.of {r : R2} {x y : V} {H : Hp} {Q : VK} (h : IxR X r) (q : r x y H Q) : WI X x y H Q := fun a b pins s σ v u I r1 r2 hs => h a b pins s σ H x y v u Q I r1 r2 q hs
def WM (X : Cx) (id : String) : V → List V → Hp → VK → Prop := fun x xs H Q => ∀ (pins : List (Addr × Obj)) (s : Shared) (σ : L2.St) (v : Value) (us : List Value), Inv X pins σ H s → RelV x v → Vals xs us →
  wpAny (model X.prog X.w) X.A (call (.builtin id) (v :: us)) (EP X pins σ Q) X.xe s
theorem mt_wm {id : String} : MtR X id (WM X id) := fun pins s σ _ _ _ v us _ I r1 r2 h => h pins s σ v us I r1 r2
theorem WM.of {id : String} {r : V → List V → Hp → VK → Prop} {x : V} {xs : List V} {H : Hp} {Q : VK} (h : MtR X id r) (q : r x xs H Q) : WM X id x xs H Q := fun pins s σ v us I r1 r2 => h pins s σ H x xs v us Q I r1 r2 q
def WS (X : Cx) (st : Stmt) : TS := fun D σ H => ∀ (pins : List (Addr × Obj)) (s : Shared), Inv X pins σ H s → wpAny (model X.prog X.w) X.A (exec st X.env) (SP X pins D) X.xe s
theorem ps_ws {st : Stmt} : PS X st (WS X st) := ⟨fun pins s _ _ _ I h => h pins s I⟩
theorem WS.of {st : Stmt} {t : TS} {σ : L2.St} {H : Hp} {E : Ends} (h : PS X st t) (q : t E σ H) : WS X st E σ H := fun pins s I => h.run pins s σ H E I q
def WSs (X : Cx) (st : List Stmt) : TS := fun D σ H => ∀ (pins : List (Addr × Obj)) (s : Shared), Inv X pins σ H s → wpAny (model X.prog X.w) X.A (execs st X.env) (SP X pins D) X.xe s
theorem pss_wss {st : List Stmt} : PSs X st (WSs X st) := ⟨fun pins s _ _ _ I h => h pins s I⟩
theorem WSs.of {st : List Stmt} {t : TS} {σ : L2.St} {H : Hp} {E : Ends} (h : PSs X st t) (q : t E σ H) : WSs X st E σ H := fun pins s I => h.run pins s σ H E I q
def WG (X : Cx) (tg : Expr) : TG := fun v σ H Q => ∀ (pins : List (Addr × Obj)) (s : Shared) (u : Value), Inv X pins σ H s → RelV v u →
  wpAny (model X.prog X.w) X.A (assign tg X.env u) (fun _ s' => ∃ σ' H', Inv X pins σ' H' s' ∧ Q σ' H') X.xe s
theorem pg_wg {tg : Expr} : PG X tg (WG X tg) := ⟨fun pins s _ _ _ u _ I r h => h pins s u I r⟩
theorem WG.of {tg : Expr} {t : TG} {v : V} {σ : L2.St} {H : Hp} {Q : L2.St → Hp → Prop} (h : PG X tg t) (q : t v σ H Q) : WG X tg v σ H Q := fun pins s u I r => h.run pins s σ H v u Q I r q
end
/-! ### what is handed on -/
def KE (B : Bs) (X : Cx) (F : Hp) (σ : L2.St) (G : Sl) (Q : D → Mem → Prop) (Q' : VK) : Prop := ∀ v H' F' d M', Q d M' → Same F F' → R B X.K F' σ H' G M' → Rp X.K F' v d → Q' v H'
def KT (B : Bs) (X : Cx) (F : Hp) (σ : L2.St) (G : Sl) (Q : Bool → Mem → Prop) (Q' : Bool → Hp → Prop) : Prop := ∀ b H' F' M', Q b M' → Same F F' → R B X.K F' σ H' G M' → Q' b H'
def KA (B : Bs) (X : Cx) (F : Hp) (σ : L2.St) (G : Sl) (Q : List D → Mem → Prop) (Q' : List V → Hp → Prop) : Prop := ∀ vs H' F' ds M', Q ds M' → Same F F' → R B X.K F' σ H' G M' → RpAll X.K F' vs ds → Q' vs H'
def EX (B : Bs) (X : Cx) (e : Expr) (G : Sl) (M : Mem) (Q : D → Mem → Prop) : Prop := ∀ F σ H Q', R B X.K F σ H G M → KE B X F σ G Q Q' → WE X e σ H Q'
def TX (B : Bs) (X : Cx) (e : Expr) (G : Sl) (M : Mem) (Q : Bool → Mem → Prop) : Prop := ∀ F σ H Q', R B X.K F σ H G M → KT B X F σ G Q Q' → WT X e σ H Q'
def TW (B : Bs) (X : Cx) (e : Expr) (G : Sl) (M : Mem) (Q : Bool → Mem → Prop) : Prop := ∀ F σ H Q', R B X.K F σ H G M → KT B X F σ G Q Q' → WW X e σ H Q'
def AX (B : Bs) (X : Cx) (es : List Expr) (G : Sl) (M : Mem) (Q : List D → Mem → Prop) : Prop := ∀ F σ H Q', R B X.K F σ H G M → KA B X F σ G Q Q' → WA X es σ H Q'
def OX (B : Bs) (X : Cx) (f : Value → Value → Sem Value) (x y : D) (G : Sl) (M : Mem) (Q : D → Mem → Prop) : Prop := ∀ F σ H Q' v w, R B X.K F σ H G M → Rp X.K F v x → Rp X.K F w y → KE B X F σ G Q Q' → WO X f v w H Q'
def UX (B : Bs) (X : Cx) (f : Value → Sem Value) (x : D) (G : Sl) (M : Mem) (Q : D → Mem → Prop) : Prop := ∀ F σ H Q' v, R B X.K F σ H G M → Rp X.K F v x → KE B X F σ G Q Q' → WU X f v H Q'
def IX (B : Bs) (X : Cx) (x y : D) (G : Sl) (M : Mem) (Q : D → Mem → Prop) : Prop := ∀ F σ H Q' v w, R B X.K F σ H G M → Rp X.K F v x → Rp X.K F w y → KE B X F σ G Q Q' → WI X v w H Q'
def BX (B : Bs) (X : Cx) (f : Value) (xs : List D) (G : Sl) (M : Mem) (Q : D → Mem → Prop) : Prop := ∀ F σ H Q' vs, R B X.K F σ H G M → RpAll X.K F vs xs → KE B X F σ G Q Q' → WC X f vs H Q'
def MX (B : Bs) (X : Cx) (id : String) (x : D) (xs : List D) (G : Sl) (M : Mem) (Q : D → Mem → Prop) : Prop := ∀ F σ H Q' v vs, R B X.K F σ H G M → Rp X.K F v x → RpAll X.K F vs xs → KE B X F σ G Q Q' → WM X id v vs H Q'
section
variable {B : Bs} {X : Cx} {a b c e : Expr} {es : List Expr} {G : Sl} {M : Mem} {Q Q2 : D → Mem → Prop} {pos p pos' : Pos} {d : D} {F F1 : Hp} {σ : L2.St}
theorem KE.mono {Q' : VK} (e : Same F F1) (k : KE B X F σ G Q Q') : KE B X F1 σ G Q Q' := fun v H' F' d M' q s r rp => k v H' F' d M' q (e.trans s) r rp
theorem KT.mono {Q : Bool → Mem → Prop} {Q' : Bool → Hp → Prop} (e : Same F F1) (k : KT B X F σ G Q Q') : KT B X F1 σ G Q Q' := fun b H' F' M' q s r => k b H' F' M' q (e.trans s) r
theorem KA.mono {Q : List D → Mem → Prop} {Q' : List V → Hp → Prop} (e : Same F F1) (k : KA B X F σ G Q Q') : KA B X F1 σ G Q Q' := fun vs H' F' ds M' q s r rp => k vs H' F' ds M' q (e.trans s) r rp
theorem EX.imp (h : EX B X e G M Q) (k : ∀ d M', Q d M' → Q2 d M') : EX B X e G M Q2 := fun F σ H Q' r kk => h F σ H Q' r fun v H' F' d M' q => kk v H' F' d M' (k d M' q)
theorem TX.imp {Q Q2 : Bool → Mem → Prop} (h : TX B X e G M Q) (k : ∀ b M', Q b M' → Q2 b M') : TX B X e G M Q2 := fun F σ H Q' r kk => h F σ H Q' r fun b H' F' M' q => kk b H' F' M' (k b M' q)
/-- done at once, the state as it is -/
theorem KE.at {Q' : VK} {H : Hp} {v : V} (k : KE B X F σ G Q Q') (r : R B X.K F σ H G M) (q : Q d M) (rp : Rp X.K F v d) : Q' v H := k v H F d M q (Same.refl F) r rp
/-- .. with a new frozen thing -/
theorem KE.new {Q' : VK} {H : Hp} {p : Addr} {o : HO} (k : KE B X F σ G Q Q') (r : R B X.K F σ H G M) (hp : H p = none) (q : Q d M) (rp : Rp X.K (upd F p o) (.ref p) d) : Q' (.ref p) (upd H p o) :=
  k (.ref p) _ (upd F p o) d M q (r.new hp).1 (r.new hp).2 rp
theorem KE.cell {Q' : VK} {H : Hp} {p : Addr} {ho : HO} {o : MO} (k : KE B X F σ G Q Q') (r : R B X.K F σ H G M) (hp : H p = none) (q : Q (.ref p) (mupd M p o)) (m : MRp X.K F (upd H p ho) p o) : Q' (.ref p) (upd H p ho) :=
  k (.ref p) _ F (.ref p) _ q (Same.refl F) (r.newCell hp m) (.ref p)
/-! ### names, constants -/
/-- the i-th slot's name -/
structure At (X : Cx) (i : Nat) (x : Str) : Prop where
  n : X.N[i]? = some x
  v : Vis X.env.scope x
  d : (x == ("__debug__" : Str)) = false
  c : (x == ("__classdict__" : Str)) = false
theorem ex_var {i : Nat} {x : Str} (h : At X i x) (g : G[i]? = some (some d)) (q : Q d M) : EX B X (.Name x pos) G M Q := fun F σ H Q' r k => by
  obtain ⟨v, hv, rp⟩ := r.slots.2 i d g
  exact WE.of (pe_var h.n h.v h.d h.c) ⟨v, hv, k.at r q rp⟩
theorem ex_int {i : Int} {j} (q : Q (.int i) M) : EX B X (.Constant (.int i) j pos) G M Q := fun F σ H Q' r k => WE.of pe_int (k.at r q (.int i))
theorem ex_bl {b : Bool} {j} (q : Q (.bl b) M) : EX B X (.Constant (.bool b) j pos) G M Q := fun F σ H Q' r k => WE.of pe_bl (k.at r q (.bl b))
theorem ex_non {j} (q : Q .non M) : EX B X (.Constant .none j pos) G M Q := fun F σ H Q' r k => WE.of pe_non (k.at r q .non)
theorem ex_str {x : Str} {j} (q : Q (.str x) M) : EX B X (.Constant (.str x) j pos) G M Q := fun F σ H Q' r k => WE.of pe_str (k.at r q (.str x))
/-- a name of the module -/
structure Gb (X : Cx) (x : Str) (d : D) : Prop where
  g : Gl X x
  m : ∃ u v, X.mg x = some u ∧ RelV v u ∧ ∀ F, Rp X.K F v d
  d : (x == ("__debug__" : Str)) = false
theorem ex_glob {x : Str} (h : Gb X x d) (q : Q d M) : EX B X (.Name x pos) G M Q := fun F σ H Q' r k => by
  obtain ⟨u, v, hm, rv, rp⟩ := h.m
  exact WE.of (pe_glob h.g hm rv h.d) (k.at r q (rp F))
/-! ### operators -/
theorem ex_bin {op : Operator} (h : EX B X a G M fun x M1 => EX B X b G M1 fun y M2 => OX B X (binaryOp op) x y G M2 Q) : EX B X (.BinOp a op b pos) G M Q := fun F σ H Q' r k =>
  WE.of (pe_op op_wo pe_we pe_we) (h F σ H _ r fun v1 H1 F1 d1 M1 q1 s1 r1 p1 => q1 F1 σ H1 _ r1 fun v2 H2 F2 d2 M2 q2 s2 r2 p2 => q2 F2 σ H2 Q' v1 v2 r2 (p1.mono s2) p2 (k.mono (s1.trans s2)))
theorem ex_un {op : UnaryOp} (h : EX B X a G M fun x M1 => UX B X (unaryOp op) x G M1 Q) : EX B X (.UnaryOp op a pos) G M Q := fun F σ H Q' r k =>
  WE.of (pe_un un_wu pe_we) (h F σ H _ r fun v1 H1 F1 d1 M1 q1 s1 r1 p1 => q1 F1 σ H1 Q' v1 r1 p1 (k.mono s1))
theorem ex_cmp {op : CmpOp} (hm : behindInMarks op b = false) (h : EX B X a G M fun x M1 => EX B X b G M1 fun y M2 => OX B X (compareOp op) x y G M2 Q) : EX B X (.Compare a [op] [b] pos) G M Q := fun F σ H Q' r k =>
  WE.of (pe_cmpR op_wo pe_we pe_we hm) (h F σ H _ r fun v1 H1 F1 d1 M1 q1 s1 r1 p1 => q1 F1 σ H1 _ r1 fun v2 H2 F2 d2 M2 q2 s2 r2 p2 => q2 F2 σ H2 Q' v1 v2 r2 (p1.mono s2) p2 (k.mono (s1.trans s2)))
/-- what a value must be to be a test's answer -/
def AsB (Q : Bool → Mem → Prop) : D → Mem → Prop
  | .bl b, M => Q b M
  | _, _ => False
theorem KT.asB {Q : Bool → Mem → Prop} {Q' : Bool → Hp → Prop} (k : KT B X F σ G Q Q') : KE B X F σ G (AsB Q) (fun x H' => ∃ b, x = .bl b ∧ Q' b H') := fun v H' F' d M' q s r rp => by
  cases d with
  | bl b => cases rp; exact ⟨b, rfl, k b H' F' M' q s r⟩
  | _ => exact False.elim q
theorem tx_cmp {Q : Bool → Mem → Prop} {op : CmpOp} (hm : behindInMarks op b = false) (h : EX B X a G M fun x M1 => EX B X b G M1 fun y M2 => OX B X (compareOp op) x y G M2 (AsB Q)) : TX B X (.Compare a [op] [b] pos) G M Q := fun F σ H Q' r k =>
  WT.of (pt_cmpR op_wo pe_we pe_we hm) (h F σ H _ r fun v1 H1 F1 d1 M1 q1 s1 r1 p1 => q1 F1 σ H1 _ r1 fun v2 H2 F2 d2 M2 q2 s2 r2 p2 => q2 F2 σ H2 _ v1 v2 r2 (p1.mono s2) p2 (k.mono (s1.trans s2)).asB)
theorem tx_val {Q : Bool → Mem → Prop} (he : ∀ whole, isTrue e X.env whole = (do let v ← whole; standAt e.pos; holding [v] (truthy v))) (h : EX B X e G M (AsB Q)) : TX B X e G M Q := fun F σ H Q' r k =>
  WT.of (pt_val pe_we he) (h F σ H _ r k.asB)
theorem chain_k {Q' : VK} {op op' : CmpOp} {c : Expr} {H : Hp} {v1 v2 : V} {d1 d2 : D} (k : KE B X F σ G Q Q') (r : R B X.K F σ H G M) (p1 : Rp X.K F v1 d1) (p2 : Rp X.K F v2 d2)
    (q : OX B X (compareOp op) d1 d2 G M (AsB fun b M3 => if b = true then EX B X c G M3 fun w M4 => OX B X (compareOp op') d2 w G M4 Q else Q (.bl false) M3)) :
    WO X (compareOp op) v1 v2 H (fun z H3 => ∃ k, z = .bl k ∧ (if k = true then WE X c σ H3 (fun w' H4 => WO X (compareOp op') v2 w' H4 Q') else Q' (.bl false) H3)) := by
  refine q F σ H _ v1 v2 r p1 p2 fun z H3 F3 d3 M3 q3 s3 r3 p3 => ?_
  cases d3 with
  | bl b =>
    cases p3
    refine ⟨b, rfl, ?_⟩
    cases b with
    | true =>
      rw [if_pos rfl]
      have q3' : EX B X c G M3 fun w M4 => OX B X (compareOp op') d2 w G M4 Q := q3
      exact q3' F3 σ H3 _ r3 fun v4 H4 F4 d4 M4 q4 s4 r4 p4 => q4 F4 σ H4 Q' v2 v4 r4 (p2.mono (s3.trans s4)) p4 (k.mono (s3.trans s4))
    | false =>
      rw [if_neg Bool.false_ne_true]
      have q3' : Q (.bl false) M3 := q3
      exact (k.mono s3).at r3 q3' (.bl false)
  | _ => exact False.elim q3
theorem ex_chain {op op' : CmpOp} (hm : lastMarks [op, op'] [b, c] = false)
    (h : EX B X a G M fun x M1 => EX B X b G M1 fun y M2 => OX B X (compareOp op) x y G M2 (AsB fun t M3 => if t = true then EX B X c G M3 fun w M4 => OX B X (compareOp op') y w G M4 Q else Q (.bl false) M3)) :
    EX B X (.Compare a [op, op'] [b, c] pos) G M Q := fun F σ H Q' r k =>
  WE.of (pe_chain op_wo op_wo pe_we pe_we pe_we hm) (h F σ H _ r fun v1 H1 F1 d1 M1 q1 s1 r1 p1 => q1 F1 σ H1 _ r1 fun v2 H2 F2 d2 M2 q2 s2 r2 p2 => chain_k (k.mono (s1.trans s2)) r2 (p1.mono s2) p2 q2)
theorem tx_chain {Q : Bool → Mem → Prop} {op op' : CmpOp} (hm : lastMarks [op, op'] [b, c] = false)
    (h : EX B X a G M fun x M1 => EX B X b G M1 fun y M2 => OX B X (compareOp op) x y G M2 (AsB fun t M3 => if t = true then EX B X c G M3 fun w M4 => OX B X (compareOp op') y w G M4 (AsB Q) else Q false M3)) :
    TX B X (.Compare a [op, op'] [b, c] pos) G M Q := fun F σ H Q' r k =>
  WT.of (pt_chain op_wo op_wo pe_we pe_we pe_we hm) (h F σ H _ r fun v1 H1 F1 d1 M1 q1 s1 r1 p1 => q1 F1 σ H1 _ r1 fun v2 H2 F2 d2 M2 q2 s2 r2 p2 => chain_k (k.mono (s1.trans s2)).asB r2 (p1.mono s2) p2 q2)
/-! ### and, or, not -/
theorem ite_mono {c A B A' B' : Prop} [Decidable c] (h : if c then A else B) (h1 : A → A') (h2 : B → B') : if c then A' else B' := by
  by_cases e : c
  · rw [if_pos e] at h ⊢; exact h1 h
  · rw [if_neg e] at h ⊢; exact h2 h
theorem TW.tx {Q : Bool → Mem → Prop} (h : TW B X e G M Q) : TX B X e G M Q := fun F σ H Q' r k => WT.of pw_ww.pt (h F σ H Q' r k)
theorem tw_and1 {Q : Bool → Mem → Prop} (h : TX B X a G M Q) : TW B X (.BoolOp .And [a] pos) G M Q := fun F σ H Q' r k => WW.of (pw_and1 pt_wt) (h F σ H Q' r k)
theorem tw_or1 {Q : Bool → Mem → Prop} (h : TX B X a G M Q) : TW B X (.BoolOp .Or [a] pos) G M Q := fun F σ H Q' r k => WW.of (pw_or1 pt_wt) (h F σ H Q' r k)
theorem tw_and {Q : Bool → Mem → Prop} {rest : List Expr} (h : TX B X a G M fun c M1 => if c = true then TW B X (.BoolOp .And (b :: rest) pos) G M1 Q else Q false M1) : TW B X (.BoolOp .And (a :: b :: rest) pos) G M Q := fun F σ H Q' r k =>
  WW.of (pw_and pt_wt pw_ww) (h F σ H _ r fun c H1 F1 M1 q1 s1 r1 => ite_mono q1 (fun q => q F1 σ H1 Q' r1 (k.mono s1)) fun q => k false H1 F1 M1 q s1 r1)
theorem tw_or {Q : Bool → Mem → Prop} {rest : List Expr} (h : TX B X a G M fun c M1 => if c = true then Q true M1 else TW B X (.BoolOp .Or (b :: rest) pos) G M1 Q) : TW B X (.BoolOp .Or (a :: b :: rest) pos) G M Q := fun F σ H Q' r k =>
  WW.of (pw_or pt_wt pw_ww) (h F σ H _ r fun c H1 F1 M1 q1 s1 r1 => ite_mono q1 (fun q => k true H1 F1 M1 q s1 r1) fun q => q F1 σ H1 Q' r1 (k.mono s1))
theorem tx_not {Q : Bool → Mem → Prop} (h : TX B X a G M fun c M1 => Q (!c) M1) : TX B X (.UnaryOp .Not a pos) G M Q := fun F σ H Q' r k =>
  WT.of (pt_not pt_wt) (h F σ H _ r fun c H1 F1 M1 q1 s1 r1 => k (!c) H1 F1 M1 q1 s1 r1)
theorem asB_k {Q : Bool → Mem → Prop} {Q' : VK} (k : ∀ b H' F' M', Q b M' → Same F F' → R B X.K F' σ H' G M' → Q' (.bl b) H') : KE B X F σ G (AsB Q) Q' := fun v H' F' d M' q s r rp => by
  cases d with
  | bl b => cases rp; exact k b H' F' M' q s r
  | _ => exact False.elim q
theorem ex_one {op} (h : EX B X a G M Q) : EX B X (.BoolOp op [a] pos) G M Q := fun F σ H Q' r k => WE.of (pe_one pe_we) (h F σ H Q' r k)
theorem ex_and {rest : List Expr} (h : EX B X a G M (AsB fun c M1 => if c = true then EX B X (.BoolOp .And (b :: rest) pos) G M1 Q else Q (.bl false) M1)) : EX B X (.BoolOp .And (a :: b :: rest) pos) G M Q := fun F σ H Q' r k =>
  WE.of (pe_and pe_we pe_we) (h F σ H _ r (asB_k fun c H1 F1 M1 q1 s1 r1 => ⟨c, rfl, ite_mono q1 (fun q => q F1 σ H1 Q' r1 (k.mono s1)) fun q => (k.mono s1).at r1 q (.bl false)⟩))
theorem ex_or {rest : List Expr} (h : EX B X a G M (AsB fun c M1 => if c = true then Q (.bl true) M1 else EX B X (.BoolOp .Or (b :: rest) pos) G M1 Q)) : EX B X (.BoolOp .Or (a :: b :: rest) pos) G M Q := fun F σ H Q' r k =>
  WE.of (pe_or pe_we pe_we) (h F σ H _ r (asB_k fun c H1 F1 M1 q1 s1 r1 => ⟨c, rfl, ite_mono q1 (fun q => (k.mono s1).at r1 q (.bl true)) fun q => q F1 σ H1 Q' r1 (k.mono s1)⟩))
theorem ex_not (h : EX B X a G M (AsB fun c M1 => Q (.bl (!c)) M1)) : EX B X (.UnaryOp .Not a pos) G M Q := fun F σ H Q' r k =>
  WE.of (pe_not pe_we) (h F σ H _ r (asB_k fun c H1 F1 M1 q1 s1 r1 => ⟨c, rfl, (k.mono s1).at r1 q1 (.bl (!c))⟩))
theorem ex_if (h : TX B X c G M fun t M1 => if t = true then EX B X a G M1 Q else EX B X b G M1 Q) : EX B X (.IfExp c a b pos) G M Q := fun F σ H Q' r k =>
  WE.of (pe_ifExp pt_wt pe_we pe_we) (h F σ H _ r fun t H1 F1 M1 q1 s1 r1 => ite_mono q1 (fun q => q F1 σ H1 Q' r1 (k.mono s1)) fun q => q F1 σ H1 Q' r1 (k.mono s1))
/-! ### arguments, tuples, lists, subscripts -/
theorem ax_nil {Q : List D → Mem → Prop} (q : Q [] M) : AX B X [] G M Q := fun F σ H Q' r k => WA.of pa_nil (k [] H F [] M q (Same.refl F) r .nil)
theorem ax_cons {Q : List D → Mem → Prop} (hs : starEach (e :: es) X.env = (false, eval e X.env) :: starEach es X.env) (h : EX B X e G M fun x M1 => AX B X es G M1 fun xs M2 => Q (x :: xs) M2) : AX B X (e :: es) G M Q := fun F σ H Q' r k =>
  WA.of (pa_cons pe_we pa_wa hs) (h F σ H _ r fun v1 H1 F1 d1 M1 q1 s1 r1 p1 => q1 F1 σ H1 _ r1 fun vs H2 F2 ds M2 q2 s2 r2 p2 => k _ H2 F2 _ M2 q2 (s1.trans s2) r2 (.cons (p1.mono s2) p2))
theorem sq_upd {K : PySem.W.Frag} {F : Hp} {p : Addr} {xs : List V} : SqT K (upd F p (.tup xs)) p xs := .inl (.inl upd_same)
theorem ex_tup {x1} (h : AX B X es G M fun xs M1 => xs.length ≤ sizeLine ∧ Q (.tup xs) M1) : EX B X (.Tuple es x1 pos) G M Q := fun F σ H Q' r k =>
  WE.of (pe_tup pa_wa) (h F σ H _ r fun vs H1 F1 ds M1 q1 s1 r1 p1 => ⟨by rw [p1.length]; exact q1.1, fun p hp => (k.mono s1).new r1 hp q1.2 (.tup sq_upd (p1.mono (r1.new hp).1))⟩)
theorem ex_lst (h : AX B X es G M fun xs M1 => xs.length ≤ sizeLine ∧ Q (.lst xs) M1) : EX B X (.List es pos) G M Q := fun F σ H Q' r k =>
  WE.of (pe_lst pa_wa) (h F σ H _ r fun vs H1 F1 ds M1 q1 s1 r1 p1 => ⟨by rw [p1.length]; exact q1.1, fun p hp => (k.mono s1).new r1 hp q1.2 (.lst upd_same (p1.mono (r1.new hp).1))⟩)
/-- a list that will be changed: a cell -/
theorem ex_lstM (h : AX B X es G M fun xs M1 => xs.length ≤ sizeLine ∧ ∀ p, M1 p = none → Q (.ref p) (mupd M1 p (.lst xs))) : EX B X (.List es pos) G M Q := fun F σ H Q' r k =>
  WE.of (pe_lst pa_wa) (h F σ H _ r fun vs H1 F1 ds M1 q1 s1 r1 p1 => ⟨by rw [p1.length]; exact q1.1, fun p hp => (k.mono s1).cell r1 hp (q1.2 p (r1.freeM hp)) ⟨vs, upd_same, p1⟩⟩)
theorem ex_sub (hs : PlainIx b) (h : EX B X a G M fun x M1 => EX B X b G M1 fun y M2 => IX B X x y G M2 Q) : EX B X (.Subscript a b pos) G M Q := fun F σ H Q' r k =>
  WE.of (pe_ix ix_wi pe_we pe_we hs) (h F σ H _ r fun v1 H1 F1 d1 M1 q1 s1 r1 p1 => q1 F1 σ H1 _ r1 fun v2 H2 F2 d2 M2 q2 s2 r2 p2 => q2 F2 σ H2 Q' v1 v2 r2 (p1.mono s2) p2 (k.mono (s1.trans s2)))
end
/-! ### by values -/
section
variable {B : Bs} {X : Cx} {G : Sl} {M : Mem} {Q : D → Mem → Prop} {i j : Int} {x y : Str}
theorem atI_rp {K : PySem.W.Frag} {F : Hp} {vs : List V} {ds : List D} {i : Int} {d : D} (r : RpAll K F vs ds) (h : atI ds i = some d) : ∃ v, atI vs i = some v ∧ Rp K F v d := by
  unfold atI at h ⊢
  rw [r.length]
  cases e : ixN ds.length i with
  | none => rw [e] at h; cases h
  | some k =>
    rw [e] at h
    exact r.get (i := k) h
theorem ix_t {ds : List D} {d : D} (h : atI ds i = some d) (q : Q d M) : IX B X (.tup ds) (.int i) G M Q := fun F σ H Q' v w r p1 p2 k => by
  cases p2
  cases p1 with
  | @tup a xs _ hs rs =>
    obtain ⟨u, hu, ru⟩ := atI_rp rs h
    exact WI.of ix_tup ⟨a, xs, i, u, rfl, rfl, sq_same r.ex hs, hu, k.at r q ru⟩
theorem ix_l {ds : List D} {d : D} (h : atI ds i = some d) (q : Q d M) : IX B X (.lst ds) (.int i) G M Q := fun F σ H Q' v w r p1 p2 k => by
  cases p2
  cases p1 with
  | @lst a xs _ hs rs =>
    obtain ⟨u, hu, ru⟩ := atI_rp rs h
    exact WI.of ix_list ⟨a, xs, i, u, rfl, rfl, SqL.of (r.ex _ _ hs), hu, k.at r q ru⟩
theorem ix_f {ds : List D} {d : D} (h : atI ds i = some d) (q : Q d M) : IX B X (.fzl ds) (.int i) G M Q := fun F σ H Q' v w r p1 p2 k => by
  cases p2
  cases p1 with
  | @fzl a xs _ hs rs =>
    obtain ⟨u, hu, ru⟩ := atI_rp rs h
    exact WI.of ix_list ⟨a, xs, i, u, rfl, rfl, r.ex.seq hs, hu, k.at r q ru⟩
/-- a cell's item -/
theorem ix_c {a : Addr} {ds : List D} {d : D} (hm : M a = some (.lst ds)) (h : atI ds i = some d) (q : Q d M) : IX B X (.ref a) (.int i) G M Q := fun F σ H Q' v w r p1 p2 k => by
  cases p2; cases p1
  obtain ⟨_, xs, hx, rs⟩ := r.mem a _ hm
  obtain ⟨u, hu, ru⟩ := atI_rp rs h
  exact WI.of ix_list ⟨a, xs, i, u, rfl, rfl, .inl (.inl hx), hu, k.at r q ru⟩
theorem ox_add (q : Q (.int (i + j)) M) : OX B X (binaryOp .Add) (.int i) (.int j) G M Q := fun F σ H Q' v w r p1 p2 k => by
  cases p1; cases p2; exact WO.of op_add ⟨i, j, rfl, rfl, k.at r q (.int _)⟩
theorem ox_sub (q : Q (.int (i - j)) M) : OX B X (binaryOp .Sub) (.int i) (.int j) G M Q := fun F σ H Q' v w r p1 p2 k => by
  cases p1; cases p2; exact WO.of op_sub ⟨i, j, rfl, rfl, k.at r q (.int _)⟩
theorem ox_mul (h : CMul i j) (q : Q (.int (i * j)) M) : OX B X (binaryOp .Mult) (.int i) (.int j) G M Q := fun F σ H Q' v w r p1 p2 k => by
  cases p1; cases p2; exact WO.of op_mul ⟨i, j, rfl, rfl, h, k.at r q (.int _)⟩
theorem ox_fdiv (h : CDiv i j) (q : Q (.int (i / j)) M) : OX B X (binaryOp .FloorDiv) (.int i) (.int j) G M Q := fun F σ H Q' v w r p1 p2 k => by
  cases p1; cases p2; exact WO.of op_fdiv ⟨i, j, rfl, rfl, h, k.at r q (.int _)⟩
theorem ox_mod (h : 0 < j) (q : Q (.int (i % j)) M) : OX B X (binaryOp .Mod) (.int i) (.int j) G M Q := fun F σ H Q' v w r p1 p2 k => by
  cases p1; cases p2; exact WO.of op_mod ⟨i, j, rfl, rfl, h, k.at r q (.int _)⟩
theorem ox_lt (q : Q (.bl (decide (i < j))) M) : OX B X (compareOp .Lt) (.int i) (.int j) G M Q := fun F σ H Q' v w r p1 p2 k => by
  cases p1; cases p2; exact WO.of op_lt ⟨i, j, rfl, rfl, k.at r q (.bl _)⟩
theorem ox_le (q : Q (.bl (decide (i ≤ j))) M) : OX B X (compareOp .LtE) (.int i) (.int j) G M Q := fun F σ H Q' v w r p1 p2 k => by
  cases p1; cases p2; exact WO.of op_le ⟨i, j, rfl, rfl, k.at r q (.bl _)⟩
theorem ox_gt (q : Q (.bl (decide (j < i))) M) : OX B X (compareOp .Gt) (.int i) (.int j) G M Q := fun F σ H Q' v w r p1 p2 k => by
  cases p1; cases p2; exact WO.of op_gt ⟨i, j, rfl, rfl, k.at r q (.bl _)⟩
theorem ox_ge (q : Q (.bl (decide (j ≤ i))) M) : OX B X (compareOp .GtE) (.int i) (.int j) G M Q := fun F σ H Q' v w r p1 p2 k => by
  cases p1; cases p2; exact WO.of op_ge ⟨i, j, rfl, rfl, k.at r q (.bl _)⟩
theorem dec_of {p q : Prop} [Decidable p] [Decidable q] (h : p ↔ q) : decide p = decide q := by
  by_cases hp : p
  · rw [decide_eq_true hp, decide_eq_true (h.mp hp)]
  · rw [decide_eq_false hp, decide_eq_false fun z => hp (h.mpr z)]
theorem ox_eqI (q : Q (.bl (decide (i = j))) M) : OX B X (compareOp .Eq) (.int i) (.int j) G M Q := fun F σ H Q' v w r p1 p2 k => by
  cases p1; cases p2; exact WO.of op_eq ⟨rfl, by rw [dec_of (⟨fun e => V.int.inj e, fun e => congrArg V.int e⟩ : V.int i = V.int j ↔ i = j)]; exact k.at r q (.bl _)⟩
theorem ox_neI (q : Q (.bl (!decide (i = j))) M) : OX B X (compareOp .NotEq) (.int i) (.int j) G M Q := fun F σ H Q' v w r p1 p2 k => by
  cases p1; cases p2; exact WO.of op_ne ⟨rfl, by rw [dec_of (⟨fun e => V.int.inj e, fun e => congrArg V.int e⟩ : V.int i = V.int j ↔ i = j)]; exact k.at r q (.bl _)⟩
theorem ox_eqS (q : Q (.bl (decide (x = y))) M) : OX B X (compareOp .Eq) (.str x) (.str y) G M Q := fun F σ H Q' v w r p1 p2 k => by
  cases p1; cases p2; exact WO.of op_eq ⟨rfl, by rw [dec_of (⟨fun e => V.str.inj e, fun e => congrArg V.str e⟩ : V.str x = V.str y ↔ x = y)]; exact k.at r q (.bl _)⟩
theorem ox_neS (q : Q (.bl (!decide (x = y))) M) : OX B X (compareOp .NotEq) (.str x) (.str y) G M Q := fun F σ H Q' v w r p1 p2 k => by
  cases p1; cases p2; exact WO.of op_ne ⟨rfl, by rw [dec_of (⟨fun e => V.str.inj e, fun e => congrArg V.str e⟩ : V.str x = V.str y ↔ x = y)]; exact k.at r q (.bl _)⟩
theorem ox_eqB {x y : Bool} (q : Q (.bl (decide (x = y))) M) : OX B X (compareOp .Eq) (.bl x) (.bl y) G M Q := fun F σ H Q' v w r p1 p2 k => by
  cases p1; cases p2; exact WO.of op_eq ⟨rfl, by rw [dec_of (⟨fun e => V.bl.inj e, fun e => congrArg V.bl e⟩ : V.bl x = V.bl y ↔ x = y)]; exact k.at r q (.bl _)⟩
theorem ox_neB {x y : Bool} (q : Q (.bl (!decide (x = y))) M) : OX B X (compareOp .NotEq) (.bl x) (.bl y) G M Q := fun F σ H Q' v w r p1 p2 k => by
  cases p1; cases p2; exact WO.of op_ne ⟨rfl, by rw [dec_of (⟨fun e => V.bl.inj e, fun e => congrArg V.bl e⟩ : V.bl x = V.bl y ↔ x = y)]; exact k.at r q (.bl _)⟩
/-- is None -/
def D.isN : D → Bool
  | .non => true
  | _ => false
theorem Rp.isN {K : PySem.W.Frag} {F : Hp} {v : V} {d : D} (r : Rp K F v d) : decide (v = .non) = d.isN := by
  cases r <;> first | rfl | exact decide_eq_false (fun e => nomatch e)
theorem ox_is {d : D} (q : Q (.bl d.isN) M) : OX B X (compareOp .Is) d .non G M Q := fun F σ H Q' v w r p1 p2 k => by
  cases p2; exact WO.of op_isN ⟨rfl, by rw [p1.isN]; exact k.at r q (.bl _)⟩
theorem ox_isnot {d : D} (q : Q (.bl (!d.isN)) M) : OX B X (compareOp .IsNot) d .non G M Q := fun F σ H Q' v w r p1 p2 k => by
  cases p2; exact WO.of op_notN ⟨rfl, by rw [p1.isN]; exact k.at r q (.bl _)⟩
end
end FL
namespace FL
open PySem PySem.Spec PyProof.Rows L2
structure En where
  nx : Sl → Mem → Prop
  rt : D → Mem → Prop
  bk : Sl → Mem → Prop := fun _ _ => False
  ct : Sl → Mem → Prop := fun _ _ => False
/-- then n -/
abbrev En.sq (E : En) (n : Sl → Mem → Prop) : En := ⟨n, E.rt, E.bk, E.ct⟩
/-- a loop's turn, then n -/
abbrev En.lp (E : En) (n : Sl → Mem → Prop) : En := ⟨n, E.rt, E.nx, n⟩
/-- a def's own ends -/
abbrev En.df (Q : D → Mem → Prop) : En := ⟨fun _ M' => Q .non M', Q, fun _ _ => False, fun _ _ => False⟩
def KN (B : Bs) (X : Cx) (F : Hp) (n : Sl → Mem → Prop) (n' : L2.St → Hp → Prop) : Prop := ∀ σ' H' F' G' M', n G' M' → Same F F' → R B X.K F' σ' H' G' M' → n' σ' H'
def KR (B : Bs) (X : Cx) (F : Hp) (q : D → Mem → Prop) (q' : VK) : Prop := ∀ v H' F' d M', q d M' → Same F F' → (∃ σ' G', R B X.K F' σ' H' G' M') → Rp X.K F' v d → q' v H'
structure KS (B : Bs) (X : Cx) (F : Hp) (E : En) (D' : Ends) : Prop where
  nx : KN B X F E.nx D'.nx
  rt : KR B X F E.rt D'.rt
  bk : KN B X F E.bk D'.bk
  ct : KN B X F E.ct D'.ct
def SX (B : Bs) (X : Cx) (st : Stmt) (E : En) (G : Sl) (M : Mem) : Prop := ∀ F σ H D', R B X.K F σ H G M → KS B X F E D' → WS X st D' σ H
def SXs (B : Bs) (X : Cx) (st : List Stmt) (E : En) (G : Sl) (M : Mem) : Prop := ∀ F σ H D', R B X.K F σ H G M → KS B X F E D' → WSs X st D' σ H
def GX (B : Bs) (X : Cx) (tg : Expr) (d : D) (G : Sl) (M : Mem) (Q : Sl → Mem → Prop) : Prop := ∀ F σ H Q' v, R B X.K F σ H G M → Rp X.K F v d → KN B X F Q Q' → WG X tg v σ H Q'
def WGs (X : Cx) (ts : List Expr) : TGs := fun vs σ H Q => ∀ (pins : List (Addr × Obj)) (s : Shared) (us : List Value), Inv X pins σ H s → Vals vs us →
  wpAny (model X.prog X.w) X.A (assignInOrder ((assignEach ts X.env).map (·.2)) us) (fun _ s' => ∃ σ' H', Inv X pins σ' H' s' ∧ Q σ' H') X.xe s
theorem pgs_wgs {X : Cx} {ts : List Expr} : PGs X ts (WGs X ts) := ⟨fun pins s _ _ _ us _ I r h => h pins s us I r⟩
theorem WGs.of {X : Cx} {ts : List Expr} {t : TGs} {vs : List V} {σ : L2.St} {H : Hp} {Q : L2.St → Hp → Prop} (h : PGs X ts t) (q : t vs σ H Q) : WGs X ts vs σ H Q := fun pins s us I r => h.run pins s σ H vs us Q I r q
def GXs (B : Bs) (X : Cx) (ts : List Expr) (ds : List D) (G : Sl) (M : Mem) (Q : Sl → Mem → Prop) : Prop := ∀ F σ H Q' vs, R B X.K F σ H G M → RpAll X.K F vs ds → KN B X F Q Q' → WGs X ts vs σ H Q'
section
variable {B : Bs} {X : Cx} {a b c e o tg : Expr} {es : List Expr} {G G' : Sl} {M M' : Mem} {Q Q2 : D → Mem → Prop} {E : En} {pos p pos' : Pos} {d : D} {F F1 : Hp} {σ : L2.St} {st : Stmt} {sts rest : List Stmt}
theorem KN.mono {n : Sl → Mem → Prop} {n' : L2.St → Hp → Prop} (e : Same F F1) (k : KN B X F n n') : KN B X F1 n n' := fun σ' H' F' G' M' q s r => k σ' H' F' G' M' q (e.trans s) r
theorem KR.mono {q : D → Mem → Prop} {q' : VK} (e : Same F F1) (k : KR B X F q q') : KR B X F1 q q' := fun v H' F' d M' h s => k v H' F' d M' h (e.trans s)
theorem KS.mono {D' : Ends} (e : Same F F1) (k : KS B X F E D') : KS B X F1 E D' := ⟨k.nx.mono e, k.rt.mono e, k.bk.mono e, k.ct.mono e⟩
theorem SXs.imp {E2 : En} (h : SXs B X sts E G M) (h1 : ∀ G M, E.nx G M → E2.nx G M) (h2 : ∀ d M, E.rt d M → E2.rt d M) (h3 : ∀ G M, E.bk G M → E2.bk G M) (h4 : ∀ G M, E.ct G M → E2.ct G M) : SXs B X sts E2 G M := fun F σ H D' r k =>
  h F σ H D' r ⟨fun _ _ _ _ _ q => k.nx _ _ _ _ _ (h1 _ _ q), fun _ _ _ _ _ q => k.rt _ _ _ _ _ (h2 _ _ q), fun _ _ _ _ _ q => k.bk _ _ _ _ _ (h3 _ _ q), fun _ _ _ _ _ q => k.ct _ _ _ _ _ (h4 _ _ q)⟩
/-! ### blocks -/
theorem sxs_nil (q : E.nx G M) : SXs B X [] E G M := fun F σ H D' r k => WSs.of pss_nil (k.nx σ H F G M q (Same.refl F) r)
theorem sxs_cons (h : SX B X st (E.sq (SXs B X rest E)) G M) : SXs B X (st :: rest) E G M := fun F σ H D' r k =>
  WSs.of (pss_cons ps_ws pss_wss) (h F σ H _ r ⟨fun σ1 H1 F1 G1 M1 q1 s1 r1 => q1 F1 σ1 H1 D' r1 (k.mono s1), k.rt, k.bk, k.ct⟩)
theorem sxs_one (h : SX B X st E G M) : SXs B X [st] E G M := fun F σ H D' r k => WSs.of (pss_one ps_ws) (h F σ H D' r k)
/-- a list cell that is handed on frozen -/
theorem ex_freeze (h : EX B X e G M fun d M1 => ∃ p ds, d = .ref p ∧ M1 p = some (.lst ds) ∧ Q (.lst ds) (mdel M1 p)) : EX B X e G M Q := fun F σ H Q' r k =>
  h F σ H Q' r fun v H1 F1 d1 M1 ⟨p, ds, e, hm, q⟩ s1 r1 p1 => by
    subst e; cases p1
    obtain ⟨F2, s2, r2, p2⟩ := r1.freeze hm
    exact k _ H1 F2 _ _ q (s1.trans s2) r2 p2
/-- a slot's list cell is frozen -/
theorem sxs_freeze {i : Nat} {p : Addr} {ds : List D} (hG : G[i]? = some (some (.ref p))) (hM : M p = some (.lst ds)) (h : SXs B X sts E (G.set i (some (.lst ds))) (mdel M p)) : SXs B X sts E G M := fun F σ H D' r k => by
  obtain ⟨F2, s2, r2, p2⟩ := r.freeze hM
  refine h F2 σ H D' ⟨?_, r2.ex, r2.mem, r2.bf, r2.bk⟩ (k.mono s2)
  obtain ⟨v, hv, pv⟩ := r2.slots.2 i _ hG
  cases pv
  have z := r2.slots.set (i := i) p2
  have e : σ.set i (some (.ref p)) = σ := by
    apply List.ext_getElem?
    intro j
    by_cases hj : i = j
    · subst hj
      rw [List.getElem?_set_self (List.getElem?_eq_some_iff.mp hv).1, hv]
    · rw [List.getElem?_set_ne hj]
  rw [e] at z
  exact z
/-! ### small statements -/
theorem sx_expr (hs : swapsWith e none pos.line X.env = pure false) (h : EX B X e G M fun _ M1 => E.nx G M1) : SX B X (.Expr e pos) E G M := fun F σ H D' r k =>
  WS.of (ps_expr pe_we hs) (h F σ H _ r fun v H1 F1 d1 M1 q1 s1 r1 p1 => k.nx σ H1 F1 G M1 q1 s1 r1)
theorem sx_ret (h : EX B X e G M E.rt) : SX B X (.Return (some e) pos) E G M := fun F σ H D' r k =>
  WS.of (ps_ret pe_we) (h F σ H _ r fun v H1 F1 d1 M1 q1 s1 r1 p1 => k.rt v H1 F1 d1 M1 q1 s1 ⟨_, _, r1⟩ p1)
theorem sx_retN (q : E.rt .non M) : SX B X (.Return none pos) E G M := fun F σ H D' r k => WS.of ps_retN (k.rt .non H F .non M q (Same.refl F) ⟨_, _, r⟩ .non)
theorem sx_if {A1 B1 : List Stmt} (h : TX B X c G M fun t M1 => if t = true then SXs B X A1 E G M1 else SXs B X B1 E G M1) : SX B X (.If c A1 B1 pos) E G M := fun F σ H D' r k =>
  WS.of (ps_if pt_wt pss_wss pss_wss) (h F σ H _ r fun t H1 F1 M1 q1 s1 r1 => ite_mono q1 (fun q => q F1 σ H1 D' r1 (k.mono s1)) fun q => q F1 σ H1 D' r1 (k.mono s1))
/-! ### targets -/
/-- a name to which is stored -/
structure Lc (X : Cx) (i : Nat) (x : Str) : Prop where
  nd : X.N.Nodup
  n : X.N[i]? = some x
  l : Loc X.env.scope x
  f : X.fn x = true ∨ X.env.scope.names.lookup x = some .local
theorem R.set {K : PySem.W.Frag} {H : Hp} {i : Nat} {v : V} (r : R B K F σ H G M) (p : Rp K F v d) : R B K F (σ.set i (some v)) H (G.set i (some d)) M := ⟨r.slots.set p, r.ex, r.mem, r.bf, r.bk⟩
theorem gx_name {i : Nat} {x : Str} {Q : Sl → Mem → Prop} (h : Lc X i x) (q : Q (G.set i (some d)) M) : GX B X (.Name x pos) d G M Q := fun F σ H Q' v r p k =>
  WG.of (pg_name h.nd h.n h.l h.f) (k _ H F _ M q (Same.refl F) (r.set p))
theorem gxs_nil {Q : Sl → Mem → Prop} (q : Q G M) : GXs B X [] [] G M Q := fun F σ H Q' vs r p k => by
  cases p
  exact WGs.of pgs_nil ⟨rfl, k σ H F G M q (Same.refl F) r⟩
theorem gxs_cons {Q : Sl → Mem → Prop} {t : Expr} {ts : List Expr} {ds : List D} (hs : (assignEach (t :: ts) X.env).map (·.2) = assign t X.env :: (assignEach ts X.env).map (·.2))
    (h : GX B X t d G M fun G1 M1 => GXs B X ts ds G1 M1 Q) : GXs B X (t :: ts) (d :: ds) G M Q := fun F σ H Q' vs r p k => by
  cases p with
  | cons p1 p2 => exact WGs.of (pgs_cons pg_wg pgs_wgs hs) ⟨_, _, rfl, h F σ H _ _ r p1 fun σ1 H1 F1 G1 M1 q1 s1 r1 => q1 F1 σ1 H1 Q' _ r1 (p2.mono s1) (k.mono s1)⟩
theorem gx_tup {Q : Sl → Mem → Prop} {ts : List Expr} {kk : Nat} {ds : List D} {n : Nat} (hc : X.calm = true) (hl : ds.length = n) (hn : (assignEach ts X.env).length = n) (hst : (assignEach ts X.env).findIdx? (·.1) = none)
    (h : GXs B X ts ds G M Q) : GX B X (.Tuple ts kk pos) (.tup ds) G M Q := fun F σ H Q' v r p k => by
  cases p with
  | @tup a xs _ hq ra => exact WG.of (pg_tup hc pgs_wgs hn hst) ⟨a, xs, rfl, sq_same r.ex hq, by rw [ra.length, hl], h F σ H Q' xs r ra k⟩
theorem sx_asg (hs : swapsWithSole [tg] e pos.line X.env = pure false) (hw : swappedStores [tg] e X.env = pure none) (h1 : (assignEach [tg] X.env).map (·.2) = [assign tg X.env])
    (h : EX B X e G M fun d M1 => GX B X tg d G M1 E.nx) : SX B X (.Assign [tg] e pos) E G M := fun F σ H D' r k =>
  WS.of (ps_asg pe_we pg_wg hs hw h1) (h F σ H _ r fun v H1 F1 d1 M1 q1 s1 r1 p1 => q1 F1 σ H1 _ v r1 p1 (k.nx.mono s1))
theorem sx_set {i : Nat} {x : Str} (h : Lc X i x) (hs : swapsWith e (some (.Name x pos')) pos.line X.env = pure false) (q : EX B X e G M fun d M1 => E.nx (G.set i (some d)) M1) : SX B X (.Assign [.Name x pos'] e pos) E G M := fun F σ H D' r k =>
  WS.of (ps_set h.nd h.n h.l pe_we hs h.f) (q F σ H _ r fun v H1 F1 d1 M1 q1 s1 r1 p1 => k.nx _ H1 F1 _ M1 q1 s1 (r1.set p1))
/-- a, b = x, y with plain local names -/
theorem sx_par {i j : Nat} {x y : Str} {px py pt : Pos} {kt k2 pt2} (hc : X.calm = true) (hN : X.N.Nodup) (hi : X.N[i]? = some x) (hj : X.N[j]? = some y) (hij : i ≠ j) (hx : X.env.scope.names.lookup x = some .local) (hy : X.env.scope.names.lookup y = some .local)
    (hw : swappedStores [.Tuple [.Name x px, .Name y py] kt pt] (.Tuple [a, b] k2 pt2) X.env = pure (some [x, y])) (hs : swapsWithSole [.Tuple [.Name x px, .Name y py] kt pt] (.Tuple [a, b] k2 pt2) pos.line X.env = pure false)
    (ha : starEach [a, b] X.env = (false, eval a X.env) :: starEach [b] X.env) (hb : starEach [b] X.env = (false, eval b X.env) :: starEach [] X.env)
    (h : EX B X a G M fun d1 M1 => EX B X b G M1 fun d2 M2 => E.nx ((G.set i (some d1)).set j (some d2)) M2) : SX B X (.Assign [.Tuple [.Name x px, .Name y py] kt pt] (.Tuple [a, b] k2 pt2) pos) E G M := fun F σ H D' r k =>
  WS.of (ps_par hc hN hi hj hij hx hy (pa_cons pe_we (pa_cons pe_we pa_nil hb) ha) hw hs) (h F σ H _ r fun v1 H1 F1 d1 M1 q1 s1 r1 p1 => q1 F1 σ H1 _ r1 fun v2 H2 F2 d2 M2 q2 s2 r2 p2 =>
    ⟨v1, v2, rfl, k.nx _ H2 F2 _ M2 q2 (s1.trans s2) ((r2.set (p1.mono s2)).set p2)⟩)
/-- a cell's item is stored -/
theorem gx_sub {Q : Sl → Mem → Prop} {i : Expr} (ha : ∀ v, assign (.Subscript o i pos) X.env v = (do
      let ov ← holding [v] (eval o X.env)
      let iv ← holding [v, ov] (eval i X.env)
      standAt pos
      holding [v, ov, iv] (setItem ov iv v)
      release [v, ov, iv] []))
    (h : EX B X o G M fun x M1 => EX B X i G M1 fun y M2 => ∃ l ds k j, x = .ref l ∧ y = .int k ∧ M2 l = some (.lst ds) ∧ ixN ds.length k = some j ∧ Q G (mupd M2 l (.lst (ds.set j d)))) : GX B X (.Subscript o i pos) d G M Q := fun F σ H Q' v r p k =>
  WG.of (pg_sub pe_we pe_we set_list ha) (h F σ H _ r fun v1 H1 F1 d1 M1 q1 s1 r1 p1 => q1 F1 σ H1 _ r1 fun v2 H2 F2 d2 M2 q2 s2 r2 p2 => by
    obtain ⟨l, ds, kk, j, e1, e2, hm, hj, q⟩ := q2
    subst e1; subst e2; cases p1; cases p2
    obtain ⟨f0, xs, hx, rx⟩ := r2.mem l _ hm
    refine ⟨l, xs, kk, j, rfl, rfl, hx, by rw [rx.length]; exact hj, ?_⟩
    exact k σ _ F2 G _ q (s1.trans s2) (r2.write hm ⟨_, upd_same, rx.set j (p.mono (s1.trans s2))⟩))
/-! ### while -/
theorem sx_while {body : List Stmt} (hp : PassesOwn (model X.prog X.w) X.A X.env X.xe) (I : Nat → Sl → Mem → Prop) {m : Nat} (h0 : I m G M)
    (h : ∀ m G' M', I m G' M' → TX B X c G' M' fun t M1 => if t = true then SXs B X body (E.lp fun G2 M2 => ∃ m', m' < m ∧ I m' G2 M2) G' M1 else E.nx G' M1) :
    SX B X (.While c body [] pos) E G M := fun F σ H D' r k =>
  WS.of (ps_while hp pt_wt pss_wss) ⟨fun m σ' H' => ∃ F' G' M', Same F F' ∧ R B X.K F' σ' H' G' M' ∧ I m G' M', ⟨m, F, G, M, Same.refl F, r, h0⟩, fun m σ' H' ⟨F', G', M', s', r', i'⟩ =>
    h m G' M' i' F' σ' H' _ r' fun t H1 F1 M1 q1 s1 r1 => by
      cases t with
      | true =>
        rw [if_pos rfl] at q1 ⊢
        refine ⟨fun σ2 H2 => ∃ m', m' < m ∧ ∃ F' G' M', Same F F' ∧ R B X.K F' σ2 H2 G' M' ∧ I m' G' M', fun _ _ z => z, q1 F1 σ' H1 _ r1 ⟨?_, (k.mono (s'.trans s1)).rt, (k.mono (s'.trans s1)).nx, ?_⟩⟩
        · intro σ2 H2 F2 G2 M2 ⟨m', hm, i2⟩ s2 r2
          exact ⟨m', hm, F2, G2, M2, (s'.trans s1).trans s2, r2, i2⟩
        · intro σ2 H2 F2 G2 M2 ⟨m', hm, i2⟩ s2 r2
          exact ⟨m', hm, F2, G2, M2, (s'.trans s1).trans s2, r2, i2⟩
      | false =>
        rw [if_neg Bool.false_ne_true] at q1 ⊢
        exact k.nx _ _ _ _ _ q1 (s'.trans s1) r1⟩
end
/-! ### what is walked -/
/-- while F stands, J gives the data ds, one by one -/
structure Wk (K : PySem.W.Frag) (F : Hp) (J : It) (ds : List D) : Prop where
  goes : ∀ i H, i < ds.length → Same F H → J.go i H
  stops : ∀ H, Same F H → J.stop ds.length H
  yields : ∀ i H x H', i < ds.length → Same F H → J.yld i H x H' → ∃ d, ds[i]? = some d ∧ ∀ B F1 σ G M, Same F F1 → R B K F1 σ H G M → ∃ F2, Same F1 F2 ∧ R B K F2 σ H' G M ∧ Rp K F2 x d
def WIt (X : Cx) (tg iter : Expr) : TI := fun σ H Rr => ∀ (pins : List (Addr × Obj)) (s : Shared), Inv X pins σ H s →
  wpAny (model X.prog X.w) X.A (eval iter X.env) (fun v s1 => wpAny (model X.prog X.w) X.A (pyIter v) (PIE X pins σ tg Rr) X.xe s1) X.xe s
theorem pi_wi {X : Cx} {tg iter : Expr} : PI X tg iter (WIt X tg iter) := ⟨fun pins s _ _ _ I h => h pins s I⟩
theorem WIt.of {X : Cx} {tg iter : Expr} {t : TI} {σ : L2.St} {H : Hp} {Rr : It → Hp → Prop} (h : PI X tg iter t) (q : t σ H Rr) : WIt X tg iter σ H Rr := fun pins s I => h.run pins s σ H Rr I q
/-- an iterable that gives ds -/
def LX (B : Bs) (X : Cx) (tg iter : Expr) (G : Sl) (M : Mem) (Q : List D → Mem → Prop) : Prop := ∀ F σ H (R' : It → Hp → Prop), R B X.K F σ H G M →
  (∀ J H' F' ds M', Q ds M' → Same F F' → R B X.K F' σ H' G M' → Wk X.K F' J ds → R' J H') → WIt X tg iter σ H R'
section
variable {B : Bs} {X : Cx} {a b c e o tg iter : Expr} {es : List Expr} {G G' : Sl} {M M' : Mem} {Q : List D → Mem → Prop} {E : En} {pos p pos' : Pos} {F F1 : Hp} {σ : L2.St} {st : Stmt} {sts rest : List Stmt}
theorem wk_list {K : PySem.W.Frag} {a : Addr} {xs : List V} {ds : List D} (h : SqL K F a xs) (r : RpAll K F xs ds) : Wk K F (Itl K a) ds where
  goes := fun i H hi s => ⟨xs, xs[i]'(by rw [r.length]; exact hi), s.seq h, by simp [r.length, hi]⟩
  stops := fun H s => ⟨xs, s.seq h, by rw [r.length]; exact Nat.le_refl _⟩
  yields := fun i H x H' hi s y => by
    obtain ⟨e, y⟩ := y
    subst e
    obtain ⟨d, hd, rd⟩ := r.getV (y xs (s.seq h))
    exact ⟨d, hd, fun B F1 σ G M s1 r1 => ⟨F1, Same.refl F1, r1, rd.mono s1⟩⟩
theorem wk_tup {K : PySem.W.Frag} {a : Addr} {xs : List V} {ds : List D} (h : SqT K F a xs) (r : RpAll K F xs ds) : Wk K F (Itt K a) ds where
  goes := fun i H hi s => ⟨xs, xs[i]'(by rw [r.length]; exact hi), sq_same s h, by simp [r.length, hi]⟩
  stops := fun H s => ⟨xs, sq_same s h, by rw [r.length]; exact Nat.le_refl _⟩
  yields := fun i H x H' hi s y => by
    obtain ⟨e, y⟩ := y
    subst e
    obtain ⟨d, hd, rd⟩ := r.getV (y xs (sq_same s h))
    exact ⟨d, hd, fun B F1 σ G M s1 r1 => ⟨F1, Same.refl F1, r1, rd.mono s1⟩⟩
/-- the ints that range gives -/
def rangeD (lo : Int) (n : Nat) : List D := (List.range n).map fun (i : Nat) => D.int (lo + (i : Int))
theorem rangeD_len {lo : Int} {n : Nat} : (rangeD lo n).length = n := by simp [rangeD]
theorem rangeD_at {lo : Int} {n i : Nat} {d : D} (h : (rangeD lo n)[i]? = some d) : i < n ∧ d = .int (lo + (i : Int)) := by
  have hi : i < n := by
    have := (List.getElem?_eq_some_iff.mp h).1
    rwa [rangeD_len] at this
  refine ⟨hi, ?_⟩
  unfold rangeD at h
  rw [List.getElem?_map, List.getElem?_range hi] at h
  exact (Option.some.inj h).symm
theorem wk_range {K : PySem.W.Frag} {lo : Int} {n : Nat} : Wk K F (Itr lo n) (rangeD lo n) where
  goes := fun i H hi s => by rw [rangeD_len] at hi; exact hi
  stops := fun H s => by
    show n ≤ _
    rw [rangeD_len]
    exact Nat.le_refl n
  yields := fun i H x H' hi s y => by
    obtain ⟨e, y⟩ := y
    subst e; subst y
    have hi' : i < n := by rw [rangeD_len] at hi; exact hi
    exact ⟨.int (lo + i), by unfold rangeD; rw [List.getElem?_map, List.getElem?_range hi']; rfl, fun B F1 σ G M s1 r1 => ⟨F1, Same.refl F1, r1, .int _⟩⟩
theorem lx_list (h : EX B X e G M fun d M1 => ∃ ds, d = .lst ds ∧ Q ds M1) : LX B X tg e G M Q := fun F σ H R' r k =>
  WIt.of (pi_list pe_we) (h F σ H _ r fun v H1 F1 d1 M1 ⟨ds, e1, q⟩ s1 r1 p1 => by
    subst e1
    cases p1 with
    | @lst a xs _ hs rs => exact ⟨a, rfl, ⟨xs, SqL.of (r1.ex _ _ hs)⟩, k _ _ F1 ds M1 q s1 r1 (wk_list (SqL.of hs) rs)⟩)
theorem lx_tup (h : EX B X e G M fun d M1 => ∃ ds, d = .tup ds ∧ Q ds M1) : LX B X tg e G M Q := fun F σ H R' r k =>
  WIt.of (pi_tup pe_we) (h F σ H _ r fun v H1 F1 d1 M1 ⟨ds, e1, q⟩ s1 r1 p1 => by
    subst e1
    cases p1 with
    | @tup a xs _ hs rs => exact ⟨a, rfl, ⟨xs, sq_same r1.ex hs⟩, k _ _ F1 ds M1 q s1 r1 (wk_tup hs rs)⟩)
theorem lx_range1 (hg : Gl X "range") (hm : X.mg "range" = none) (hs : starEach [a] X.env = [(false, eval a X.env)])
    (h : EX B X a G M fun d M1 => ∃ n : Int, d = .int n ∧ -(2 ^ 62) ≤ n ∧ n < 2 ^ 62 ∧ Q (rangeD 0 n.toNat) M1) : LX B X tg (.Call (.Name "range" p) [a] [] pos) G M Q := fun F σ H R' r k =>
  WIt.of (pi_range1 hg hm (pa_cons pe_we pa_nil (by rw [hs]; rfl)) hs) (h F σ H _ r fun v H1 F1 d1 M1 ⟨n, e1, h1, h2, q⟩ s1 r1 p1 => by
    subst e1; cases p1
    exact ⟨n, rfl, h1, h2, k _ _ F1 _ M1 q s1 r1 wk_range⟩)
theorem lx_range2 (hg : Gl X "range") (hm : X.mg "range" = none) (hs : starEach [a, b] X.env = [(false, eval a X.env), (false, eval b X.env)]) (hs2 : starEach [b] X.env = [(false, eval b X.env)])
    (h : EX B X a G M fun d M1 => EX B X b G M1 fun d2 M2 => ∃ m n : Int, d = .int m ∧ d2 = .int n ∧ (-(2 ^ 62) ≤ m ∧ m < 2 ^ 62 ∧ -(2 ^ 62) ≤ n ∧ n < 2 ^ 62) ∧ Q (rangeD m (n - m).toNat) M2) : LX B X tg (.Call (.Name "range" p) [a, b] [] pos) G M Q := fun F σ H R' r k =>
  WIt.of (pi_range2 hg hm (pa_cons pe_we (pa_cons pe_we pa_nil (by rw [hs2]; rfl)) (by rw [hs, hs2])) hs hs2) (h F σ H _ r fun v H1 F1 d1 M1 q1 s1 r1 p1 => q1 F1 σ H1 _ r1 fun v2 H2 F2 d2 M2 q2 s2 r2 p2 => by
    obtain ⟨m, n, e1, e2, hh, q⟩ := q2
    subst e1; subst e2; cases p1; cases p2
    exact ⟨m, n, rfl, hh, k _ _ F2 _ M2 q (s1.trans s2) r2 wk_range⟩)
/-- the pairs that enumerate gives -/
def enumD (ds : List D) : List D := (List.range ds.length).map fun i => D.tup [.int (i : Nat), ds.getD i .non]
theorem enumD_get {ds : List D} {i : Nat} {d : D} (h : ds[i]? = some d) : (enumD ds)[i]? = some (.tup [.int (i : Nat), d]) := by
  unfold enumD
  have hi := (List.getElem?_eq_some_iff.mp h).1
  rw [List.getElem?_map, List.getElem?_range hi]
  show some (D.tup [.int (i : Nat), ds.getD i .non]) = _
  rw [List.getD_eq_getElem?_getD, h]
  rfl
theorem enumD_len {ds : List D} : (enumD ds).length = ds.length := by simp [enumD]
theorem enumD_at {ds : List D} {i : Nat} {d : D} (h : (enumD ds)[i]? = some d) : ∃ x, ds[i]? = some x ∧ d = .tup [.int (i : Nat), x] := by
  have hi : i < ds.length := by rw [← enumD_len]; exact (List.getElem?_eq_some_iff.mp h).1
  have e : ds[i]? = some ds[i] := by simp
  rw [enumD_get e] at h
  exact ⟨ds[i], e, (Option.some.inj h).symm⟩
/-- a new pair -/
theorem pair_new {K : PySem.W.Frag} {F1 H : Hp} {G : Sl} {M : Mem} {T : Addr} {x y : V} {d e : D} (r : R B K F1 σ H G M) (hT : H T = none) (rx : Rp K F1 x d) (ry : Rp K F1 y e) :
    ∃ F2, Same F1 F2 ∧ R B K F2 σ (upd H T (.tup [x, y])) G M ∧ Rp K F2 (.ref T) (.tup [d, e]) :=
  ⟨upd F1 T (.tup [x, y]), (r.new hT).1, (r.new hT).2, .tup sq_upd (.cons (rx.mono (r.new hT).1) (.cons (ry.mono (r.new hT).1) .nil))⟩
theorem wk_enum {K : PySem.W.Frag} {a : Addr} {xs : List V} {ds : List D} (h : SqL K F a xs) (r : RpAll K F xs ds) : Wk K F (Ite K a) (enumD ds) where
  goes := fun i H hi s => by
    rw [enumD_len] at hi
    exact ⟨xs, xs[i]'(by rw [r.length]; exact hi), s.seq h, by simp [r.length, hi]⟩
  stops := fun H s => ⟨xs, s.seq h, by rw [r.length, enumD_len]; exact Nat.le_refl _⟩
  yields := fun i H x H' hi s y => by
    obtain ⟨T, u, h1, h2, h3, h4⟩ := y
    subst h1; subst h3
    obtain ⟨d, hd, rd⟩ := r.getV (h4 xs (s.seq h))
    exact ⟨_, enumD_get hd, fun B F1 σ G M s1 r1 => pair_new r1 h2 (.int _) (rd.mono s1)⟩
theorem lx_enum (hg : Gl X "enumerate") (hm : X.mg "enumerate" = none) (hs : starEach [e] X.env = [(false, eval e X.env)]) (ht : ∃ es k pp, tg = .Tuple es k pp)
    (h : EX B X e G M fun d M1 => ∃ ds, d = .lst ds ∧ Q (enumD ds) M1) : LX B X tg (.Call (.Name "enumerate" p) [e] [] pos) G M Q := fun F σ H R' r k => by
  obtain ⟨es, kk, pp, rfl⟩ := ht
  refine WIt.of (pi_enum hg hm (pa_cons pe_we pa_nil (by rw [hs]; rfl)) hs) (h F σ H _ r fun v H1 F1 d1 M1 ⟨ds, e1, q⟩ s1 r1 p1 => ?_)
  subst e1
  cases p1 with
  | @lst a xs _ hs rs => exact ⟨a, xs, rfl, SqL.of (r1.ex _ _ hs), k _ _ F1 _ M1 q s1 r1 (wk_enum (SqL.of hs) rs)⟩
end
end FL
namespace FL
open PySem PySem.Spec PyProof.Rows L2
section
variable {B : Bs} {X : Cx} {a b c e o tg iter elt : Expr} {es : List Expr} {G G' : Sl} {M M' : Mem} {Q : D → Mem → Prop} {E : En} {pos p pos' : Pos} {F F1 : Hp} {σ : L2.St} {st : Stmt} {sts rest body : List Stmt}
/-! ### for -/
theorem sx_for (hp : PassesOwn (model X.prog X.w) X.A X.env X.xe) (hc : X.calm = true) (hs : ∀ x, foldedSetIterable iter X.env x = pure x)
    (h : LX B X tg iter G M fun ds M1 => ∃ I : Nat → Sl → Mem → Prop, I 0 G M1 ∧
      (∀ i d G' M', ds[i]? = some d → I i G' M' → GX B X tg d G' M' fun G2 M2 => SXs B X body (E.lp (I (i + 1))) G2 M2) ∧ ∀ G' M', I ds.length G' M' → E.nx G' M') :
    SX B X (.For tg iter body [] pos) E G M := fun F σ H D' r k =>
  WS.of (ps_for hp hc pi_wi pg_wg pss_wss hs) (h F σ H _ r fun J H1 F1 ds M1 ⟨I, i0, turn, fin⟩ s1 r1 w => by
    refine ⟨fun i m σ' H' => m = ds.length - i ∧ i ≤ ds.length ∧ ∃ F' G' M', Same F1 F' ∧ R B X.K F' σ' H' G' M' ∧ I i G' M', ⟨_, rfl, Nat.zero_le _, F1, G, M1, Same.refl F1, r1, i0⟩, ?_⟩
    rintro i m σ' H' ⟨rfl, hi, F', G', M', s', r', hI⟩
    by_cases hlt : i < ds.length
    · refine .inr ⟨w.goes i H' hlt (s'.trans r'.ex), fun σ2 H2 => ∃ F' G' M', Same F1 F' ∧ R B X.K F' σ2 H2 G' M' ∧ I (i + 1) G' M', fun σ2 H2 z => ⟨ds.length - (i + 1), by omega, rfl, hlt, z⟩, fun x H2 y => ?_⟩
      obtain ⟨d, hd, yy⟩ := w.yields i H' x H2 hlt (s'.trans r'.ex) y
      obtain ⟨F2, s2, r2, p2⟩ := yy B F' σ' G' M' s' r'
      refine turn i d G' M' hd hI F2 σ' H2 _ x r2 p2 fun σ3 H3 F3 G3 M3 q3 s3 r3 => q3 F3 σ3 H3 _ r3 ?_
      have s03 : Same F F3 := s1.trans (s'.trans (s2.trans s3))
      refine ⟨?_, k.rt.mono s03, k.nx.mono s03, ?_⟩
      · exact fun σ4 H4 F4 G4 M4 q4 s4 r4 => ⟨F4, G4, M4, (s'.trans (s2.trans s3)).trans s4, r4, q4⟩
      · exact fun σ4 H4 F4 G4 M4 q4 s4 r4 => ⟨F4, G4, M4, (s'.trans (s2.trans s3)).trans s4, r4, q4⟩
    · have e : i = ds.length := by omega
      subst e
      exact .inl ⟨w.stops H' (s'.trans r'.ex), k.nx σ' H' F' G' M' (fin G' M' hI) (s1.trans s') r'⟩)
/-! ### comprehensions -/
def gwipe (G : Sl) : List Nat → Sl
  | [] => G
  | v :: vs => (gwipe G vs).set v none
theorem R.wipe {K : PySem.W.Frag} {H : Hp} (r : R B K F σ H G M) : ∀ vs : List Nat, R B K F (L2.wipe σ vs) H (gwipe G vs) M
  | [] => r
  | v :: vs => by
    have ih := R.wipe r vs
    exact ⟨ih.slots.setNone, ih.ex, ih.mem, ih.bf, ih.bk⟩
theorem wipe_in {σ : L2.St} {i : Nat} (hl : i < σ.length) : ∀ {vs : List Nat}, i ∈ vs → (L2.wipe σ vs)[i]? = some none
  | [], h => nomatch h
  | v :: vs, h => by
    unfold L2.wipe
    by_cases e : v = i
    · subst e
      rw [List.getElem?_set_self (by rw [wipe_length]; exact hl)]
    · rw [List.getElem?_set_ne e]
      exact wipe_in hl ((List.mem_cons.mp h).resolve_left fun z => e z.symm)
theorem wipe_out' {σ : L2.St} {i : Nat} : ∀ {vs : List Nat}, i ∉ vs → (L2.wipe σ vs)[i]? = σ[i]?
  | [], _ => rfl
  | v :: vs, h => by
    unfold L2.wipe
    rw [List.getElem?_set_ne (fun e => h (by simp [e]))]
    exact wipe_out' fun z => h (List.mem_cons_of_mem _ z)
theorem wipe_eq {σ τ : L2.St} {vs : List Nat} (hl : σ.length = τ.length) (h : ∀ i, i ∉ vs → σ[i]? = τ[i]?) : L2.wipe σ vs = L2.wipe τ vs := by
  apply List.ext_getElem?
  intro i
  by_cases hi : i ∈ vs
  · by_cases hb : i < σ.length
    · rw [wipe_in hb hi, wipe_in (by rw [← hl]; exact hb) hi]
    · rw [List.getElem?_eq_none (by rw [wipe_length]; omega), List.getElem?_eq_none (by rw [wipe_length]; omega)]
  · rw [wipe_out' hi, wipe_out' hi, h i hi]
/-- names to which a comprehension's item goes: one name, or a tuple of names -/
abbrev Tg := Sum Nat (List Nat)
def Tg.slots : Tg → List Nat
  | .inl i => [i]
  | .inr is => is
def gNs : List Nat → TGs
  | [] => gNil
  | i :: r => gCons (gName i) (gNs r)
def gTg (K : PySem.W.Frag) : Tg → TG
  | .inl i => gName i
  | .inr is => gTup K is.length (gNs is)
def setAll (σ : L2.St) : List Nat → List V → L2.St
  | i :: is, v :: vs => setAll (σ.set i (some v)) is vs
  | _, _ => σ
def gsetAll (G : Sl) : List Nat → List D → Sl
  | i :: is, v :: vs => gsetAll (G.set i (some v)) is vs
  | _, _ => G
theorem gNs_of {H : Hp} {Q : L2.St → Hp → Prop} : ∀ {is : List Nat} {vs : List V} {σ : L2.St}, vs.length = is.length → Q (setAll σ is vs) H → gNs is vs σ H Q
  | [], [], _, _, h => ⟨rfl, h⟩
  | [], _ :: _, _, e, _ => by simp at e
  | _ :: _, [], _, e, _ => by simp at e
  | i :: is, v :: vs, σ, e, h => ⟨v, vs, rfl, gNs_of (is := is) (vs := vs) (by simpa using e) h⟩
theorem R.setAll {K : PySem.W.Frag} {F H : Hp} {M : Mem} : ∀ {is : List Nat} {vs : List V} {ds : List D} {σ : L2.St} {G : Sl}, R B K F σ H G M → RpAll K F vs ds → R B K F (FL.setAll σ is vs) H (gsetAll G is ds) M
  | [], _, _, _, _, r, p => by cases p <;> exact r
  | _ :: _, [], _, _, _, r, p => by cases p; exact r
  | i :: is, v :: vs, d :: ds, σ, G, r, .cons p1 p2 => R.setAll (is := is) (vs := vs) (ds := ds) (σ := σ.set i (some v)) (G := G.set i (some d)) (R.set r p1) p2
theorem setAll_len : ∀ {is : List Nat} {vs : List V} {σ : L2.St}, (FL.setAll σ is vs).length = σ.length
  | [], _, _ => by unfold FL.setAll; rfl
  | _ :: _, [], _ => by unfold FL.setAll; rfl
  | i :: is, v :: vs, σ => by
    show (FL.setAll (σ.set i (some v)) is vs).length = σ.length
    rw [setAll_len, List.length_set]
theorem setAll_out {j : Nat} : ∀ {is : List Nat} {vs : List V} {σ : L2.St}, j ∉ is → (FL.setAll σ is vs)[j]? = σ[j]?
  | [], _, _, _ => by unfold FL.setAll; rfl
  | _ :: _, [], _, _ => by unfold FL.setAll; rfl
  | i :: is, v :: vs, σ, h => by
    show (FL.setAll (σ.set i (some v)) is vs)[j]? = σ[j]?
    rw [setAll_out (fun z => h (List.mem_cons_of_mem _ z)), List.getElem?_set_ne (fun e => h (by simp [e]))]
theorem wipe_setAll {σ : L2.St} {is : List Nat} {vs : List V} {own : List Nat} (h : ∀ i ∈ is, i ∈ own) : L2.wipe (FL.setAll (L2.wipe σ own) is vs) own = L2.wipe σ own := by
  refine wipe_eq (by rw [setAll_len, wipe_length]) fun i hi => ?_
  rw [setAll_out fun z => hi (h i z), wipe_out' hi]
/-- a clause's tests: none, or one -/
def TXs (B : Bs) (X : Cx) (ifs : List Expr) (G : Sl) (M : Mem) (Q : Bool → Mem → Prop) : Prop := match ifs with
  | [] => Q true M
  | [c] => TX B X c G M Q
  | _ => False
def WTs (X : Cx) (ifs : List Expr) : TT := fun σ H Q => ∀ (pins : List (Addr × Obj)) (s : Shared), Inv X pins σ H s →
  wpAny (model X.prog X.w) X.A (forIn ifs true fun c r => if r = true then do let ok ← isTrue c X.env (eval c X.env); pure (ForInStep.yield ok) else pure (ForInStep.yield r)) (TP X pins σ Q) X.xe s
theorem txs_ok {ifs : List Expr} {H : Hp} {Q : Bool → Mem → Prop} {Q' : Bool → Hp → Prop} (h : TXs B X ifs G M Q) (r : R B X.K F σ H G M) (k : KT B X F σ G Q Q') : WTs X ifs σ H Q' := by
  match ifs, h with
  | [], h => exact fun pins s I => pts_nil.run pins s σ H Q' I (k true H F M h (Same.refl F) r)
  | [c], h => exact fun pins s I => (pts_one pt_wt).run pins s σ H Q' I (h F σ H Q' r k)
/-- in every context of the block -/
abbrev Bk (X : Cx) (scope : Scope) (P : Cx → Prop) : Prop := ∀ (s : Shared) (H : Hp) (C : Addr) (cl : List (Str × Addr)) (fp : List Addr), P (X.blk s H scope (compEnvC scope cl C X.env) fp)
def WTb (X : Cx) (scope : Scope) (ifs : List Expr) : TT := fun σ H Q => Bk X scope fun X' => WTs X' ifs σ H Q
def WEb (X : Cx) (scope : Scope) (e : Expr) : TE := fun σ H Q => Bk X scope fun X' => WE X' e σ H Q
theorem pts_wtb {scope : Scope} {ifs : List Expr} : Bk X scope fun X' => PTs X' ifs (WTb X scope ifs) := fun s0 H0 C cl fp => ⟨fun pins s _ _ _ I h => h s0 H0 C cl fp pins s I⟩
theorem pe_web {scope : Scope} : Bk X scope fun X' => PE X' e (WEb X scope e) := fun s0 H0 C cl fp => ⟨fun pins s _ _ _ I h => h s0 H0 C cl fp pins s I⟩
/-- an item of data, for the target -/
def TgD (t : Tg) (d : D) (Q : List D → Prop) : Prop := match t with
  | .inl _ => Q [d]
  | .inr is => ∃ ds, d = .tup ds ∧ ds.length = is.length ∧ Q ds
/-- what a comprehension asks: L the new list; I by the turn, what is gathered, and the cells -/
def LcX (B : Bs) (X : Cx) (scope : Scope) (own : List Nat) (t : Tg) (ifs : List Expr) (elt : Expr) (G : Sl) (ds : List D) (M1 : Mem) (fin : Addr → List D → Mem → Prop) : Prop :=
  ∀ L, M1 L = none → ∃ I : Nat → List D → Mem → Prop, I 0 [] (mupd M1 L (.lst [])) ∧
    (∀ i d acc M', ds[i]? = some d → I i acc M' → M' L = some (.lst acc) → TgD t d fun dvs => Bk X scope fun X' => TXs B X' ifs (gsetAll (gwipe G own) t.slots dvs) M' fun b M3 =>
      if b = true then Bk X scope fun X2 => EX B X2 elt (gsetAll (gwipe G own) t.slots dvs) M3 fun y M4 => M4 L = some (.lst acc) ∧ acc.length < sizeLine ∧ I (i + 1) (acc ++ [y]) (mupd M4 L (.lst (acc ++ [y])))
      else M3 L = some (.lst acc) ∧ I (i + 1) acc M3) ∧
    ∀ acc M', I ds.length acc M' → M' L = some (.lst acc) → fin L acc M'
theorem lc_data {scope : Scope} {own : List (Str × Nat)} {t : Tg} {ifs : List Expr} {fin : Addr → List D → Mem → Prop} {Q' : VK} {H : Hp} (ht : ∀ i ∈ t.slots, i ∈ own.map (·.2)) (r : R B X.K F σ H G M)
    (h : LX B X tg iter G M fun ds M1 => LcX B X scope (own.map (·.2)) t ifs elt G ds M1 fin)
    (k : ∀ L acc H' F' M', fin L acc M' → M' L = some (.lst acc) → Same F F' → R B X.K F' σ H' G M' → Q' (.ref L) H') :
    tLc (WIt X tg iter) (gTg X.K t) (WTb X scope ifs) (WEb X scope elt) (own.map (·.2)) σ H Q' := by
  refine h F σ H _ r fun J H1 F1 ds M1 lc s1 r1 w => ?_
  intro L hL
  obtain ⟨I, i0, turn, fn⟩ := lc L (r1.freeM hL)
  refine ⟨fun i m H' => m = ds.length - i ∧ i ≤ ds.length ∧ ∃ F' acc M', Same F1 F' ∧ R B X.K F' σ H' G M' ∧ M' L = some (.lst acc) ∧ I i acc M', ⟨_, rfl, Nat.zero_le _, F1, [], _, Same.refl F1, r1.newCell (o := .lst []) hL ⟨[], upd_same, .nil⟩, mupd_same, i0⟩, ?_⟩
  rintro i m H' ⟨rfl, hi, F', acc, M', s', r', hM, hI⟩
  by_cases hlt : i < ds.length
  · refine .inr ⟨w.goes i H' hlt (s'.trans r'.ex), fun H2 => ∃ F' acc M', Same F1 F' ∧ R B X.K F' σ H2 G M' ∧ M' L = some (.lst acc) ∧ I (i + 1) acc M', fun H2 z => ⟨ds.length - (i + 1), by omega, rfl, hlt, z⟩, fun x H2 y => ?_⟩
    obtain ⟨d, hd, yy⟩ := w.yields i H' x H2 hlt (s'.trans r'.ex) y
    obtain ⟨F2, s2, r2, p2⟩ := yy B F' σ G M' s' r'
    have tt := turn i d acc M' hd hI hM
    have main : ∀ (vs : List V) (dvs : List D), RpAll X.K F2 vs dvs → (Bk X scope fun X' => TXs B X' ifs (gsetAll (gwipe G (own.map (·.2))) t.slots dvs) M' fun b M3 =>
        if b = true then Bk X scope fun X2 => EX B X2 elt (gsetAll (gwipe G (own.map (·.2))) t.slots dvs) M3 fun y M4 => M4 L = some (.lst acc) ∧ acc.length < sizeLine ∧ I (i + 1) (acc ++ [y]) (mupd M4 L (.lst (acc ++ [y])))
        else M3 L = some (.lst acc) ∧ I (i + 1) acc M3) →
        L2.wipe (FL.setAll (L2.wipe σ (own.map (·.2))) t.slots vs) (own.map (·.2)) = L2.wipe σ (own.map (·.2)) ∧ WTb X scope ifs (FL.setAll (L2.wipe σ (own.map (·.2))) t.slots vs) H2 fun b H3 =>
          if b = true then WEb X scope elt (FL.setAll (L2.wipe σ (own.map (·.2))) t.slots vs) H3 fun y H4 => ∃ acc, H4 L = some (.lst acc) ∧ acc.length < sizeLine ∧ (∃ F' acc' M', Same F1 F' ∧ R B X.K F' σ (upd H4 L (.lst (acc ++ [y]))) G M' ∧ M' L = some (.lst acc') ∧ I (i + 1) acc' M')
          else ∃ F' acc M', Same F1 F' ∧ R B X.K F' σ H3 G M' ∧ M' L = some (.lst acc) ∧ I (i + 1) acc M' := by
      intro vs dvs pv hb
      refine ⟨wipe_setAll ht, fun s0 H0 C cl fp => ?_⟩
      have rw0 : R B X.K F2 (FL.setAll (L2.wipe σ (own.map (·.2))) t.slots vs) H2 (gsetAll (gwipe G (own.map (·.2))) t.slots dvs) M' := R.setAll (R.wipe r2 (own.map (·.2))) pv
      refine txs_ok (X := X.blk s0 H0 scope (compEnvC scope cl C X.env) fp) (hb s0 H0 C cl fp) rw0 fun b H3 F3 M3 q3 s3 r3 => ?_
      have back : ∀ {Hx Fx : Hp} {Mx : Mem}, Same F2 Fx → R B X.K Fx (FL.setAll (L2.wipe σ (own.map (·.2))) t.slots vs) Hx (gsetAll (gwipe G (own.map (·.2))) t.slots dvs) Mx → R B X.K Fx σ Hx G Mx := fun sx rx => ⟨r2.slots.mono sx, rx.ex, rx.mem, rx.bf, rx.bk⟩
      cases b with
      | true =>
        rw [if_pos rfl] at q3 ⊢
        intro s5 H5 C5 cl5 fp5
        refine q3 s5 H5 C5 cl5 fp5 F3 _ H3 _ r3 fun y H4 F4 d4 M4 ⟨m4, l4, i4⟩ s4 r4 p4 => ?_
        obtain ⟨_, xs, hx, rx⟩ := r4.mem L _ m4
        refine ⟨xs, hx, by rw [rx.length]; exact l4, F4, acc ++ [d4], _, ((s'.trans s2).trans s3).trans s4, ?_, mupd_same, i4⟩
        exact (back (s3.trans s4) r4).write m4 ⟨_, upd_same, rx.append (.cons p4 .nil)⟩
      | false =>
        rw [if_neg Bool.false_ne_true] at q3 ⊢
        exact ⟨F3, acc, M3, (s'.trans s2).trans s3, back s3 r3, q3.1, q3.2⟩
    cases t with
    | inl j => exact main [x] [d] (.cons p2 .nil) tt
    | inr js =>
      obtain ⟨dvs, e, hl, hb⟩ := tt
      subst e
      cases p2 with
      | @tup a xs _ hq ra => exact ⟨a, xs, rfl, sq_same r2.ex hq, by rw [ra.length, hl], gNs_of (by rw [ra.length, hl]) (main xs dvs ra hb)⟩
  · have e : i = ds.length := by omega
    subst e
    exact .inl ⟨w.stops H' (s'.trans r'.ex), k L acc H' F' M' (fn acc M' hI hM) hM (s1.trans s') r'⟩
/-- a comprehension, its list frozen -/
theorem ex_lc {scope : Scope} {own : List (Str × Nat)} {t : Tg} {ifs : List Expr} (hc : X.calm = true) (hN : X.N.Nodup) (ok : BlkOk X.N X.env.scope scope own) (ht : ∀ i ∈ t.slots, i ∈ own.map (·.2))
    (hg : Bk X scope fun X' => PG X' tg (gTg X.K t)) (hs : ∀ x, foldedSetIterable iter X.env x = pure x)
    (h : LX B X tg iter G M fun ds M1 => LcX B X scope (own.map (·.2)) t ifs elt G ds M1 fun L acc M' => Q (.lst acc) (mdel M' L)) : EX B X (.ListComp elt [⟨tg, iter, ifs, 0⟩] scope pos) G M Q := fun F σ H Q' r k =>
  WE.of (pe_lc hc hN pi_wi ok hg pts_wtb pe_web hs) (lc_data ht r h fun L acc H' F' M' q hm s' r' => by
    obtain ⟨F2, s2, r2, p2⟩ := r'.freeze hm
    exact k _ H' F2 _ _ q (s'.trans s2) r2 p2)
/-- .. its list a cell -/
theorem ex_lcM {scope : Scope} {own : List (Str × Nat)} {t : Tg} {ifs : List Expr} (hc : X.calm = true) (hN : X.N.Nodup) (ok : BlkOk X.N X.env.scope scope own) (ht : ∀ i ∈ t.slots, i ∈ own.map (·.2))
    (hg : Bk X scope fun X' => PG X' tg (gTg X.K t)) (hs : ∀ x, foldedSetIterable iter X.env x = pure x)
    (h : LX B X tg iter G M fun ds M1 => LcX B X scope (own.map (·.2)) t ifs elt G ds M1 fun L acc M' => Q (.ref L) M') : EX B X (.ListComp elt [⟨tg, iter, ifs, 0⟩] scope pos) G M Q := fun F σ H Q' r k =>
  WE.of (pe_lc hc hN pi_wi ok hg pts_wtb pe_web hs) (lc_data ht r h fun L acc H' F' M' q hm s' r' => k _ H' F' _ _ q s' r' (.ref L))
/-- name = a comprehension -/
theorem sx_setLc {i : Nat} {y : Str} {py spos : Pos} {scope : Scope} {own : List (Str × Nat)} {t : Tg} {ifs : List Expr} (hc : X.calm = true) (hN : X.N.Nodup) (hy : X.N[i]? = some y) (hyl : X.env.scope.names.lookup y = some .local)
    (hsw : swapsWith (.ListComp elt [⟨tg, iter, ifs, 0⟩] scope pos) (some (.Name y py)) spos.line X.env = pure true) (ok : BlkOk X.N X.env.scope scope own) (ht : ∀ i ∈ t.slots, i ∈ own.map (·.2))
    (hg : Bk X scope fun X' => PG X' tg (gTg X.K t)) (hs : ∀ x, foldedSetIterable iter X.env x = pure x)
    (h : LX B X tg iter G M fun ds M1 => LcX B X scope (own.map (·.2)) t ifs elt G ds M1 fun L acc M' => E.nx (G.set i (some (.lst acc))) (mdel M' L)) : SX B X (.Assign [.Name y py] (.ListComp elt [⟨tg, iter, ifs, 0⟩] scope pos) spos) E G M := fun F σ H D' r k =>
  WS.of (ps_setLc hc hN hy hyl hsw pi_wi ok hg pts_wtb pe_web hs) (lc_data ht r h fun L acc H' F' M' q hm s' r' => by
    obtain ⟨F2, s2, r2, p2⟩ := r'.freeze hm
    exact k.nx _ H' F2 _ _ q (s'.trans s2) (R.set r2 p2))
theorem sx_setLcM {i : Nat} {y : Str} {py spos : Pos} {scope : Scope} {own : List (Str × Nat)} {t : Tg} {ifs : List Expr} (hc : X.calm = true) (hN : X.N.Nodup) (hy : X.N[i]? = some y) (hyl : X.env.scope.names.lookup y = some .local)
    (hsw : swapsWith (.ListComp elt [⟨tg, iter, ifs, 0⟩] scope pos) (some (.Name y py)) spos.line X.env = pure true) (ok : BlkOk X.N X.env.scope scope own) (ht : ∀ i ∈ t.slots, i ∈ own.map (·.2))
    (hg : Bk X scope fun X' => PG X' tg (gTg X.K t)) (hs : ∀ x, foldedSetIterable iter X.env x = pure x)
    (h : LX B X tg iter G M fun ds M1 => LcX B X scope (own.map (·.2)) t ifs elt G ds M1 fun L acc M' => E.nx (G.set i (some (.ref L))) M') : SX B X (.Assign [.Name y py] (.ListComp elt [⟨tg, iter, ifs, 0⟩] scope pos) spos) E G M := fun F σ H D' r k =>
  WS.of (ps_setLc hc hN hy hyl hsw pi_wi ok hg pts_wtb pe_web hs) (lc_data ht r h fun L acc H' F' M' q hm s' r' => k.nx _ H' F' _ _ q s' (R.set r' (.ref L)))
/-- a comprehension that changes no cell: f tells what an item comes to -/
theorem lc_pure {scope : Scope} {own : List Nat} {t : Tg} {ifs : List Expr} {ds : List D} {fin : List D → Mem → Prop} (f : D → Option D) (hl : ds.length < sizeLine)
    (h : ∀ (i : Nat) (d : D) (M' : Mem), ds[i]? = some d → (∀ a o, M a = some o → M' a = some o) → TgD t d fun dvs => Bk X scope fun X' => TXs B X' ifs (gsetAll (gwipe G own) t.slots dvs) M' fun b M3 =>
      if b = true then Bk X scope fun X2 => EX B X2 elt (gsetAll (gwipe G own) t.slots dvs) M3 fun y M4 => M4 = M' ∧ f d = some y else M3 = M' ∧ f d = none)
    (q : fin (ds.filterMap f) M) : LcX B X scope own t ifs elt G ds M fun L acc M' => fin acc (mdel M' L) := by
  intro L hL
  refine ⟨fun i acc M' => acc = (ds.take i).filterMap f ∧ M' = mupd M L (.lst acc), ⟨rfl, rfl⟩, ?_, ?_⟩
  · rintro i d acc M' hd ⟨ea, eM⟩ hM
    have hle : ∀ a o, M a = some o → M' a = some o := fun a o e => by rw [eM, mupd_ne (mne e hL)]; exact e
    have tk : (ds.take (i + 1)).filterMap f = (ds.take i).filterMap f ++ (f d).toList := by
      rw [List.take_add_one, hd, List.filterMap_append]
      cases e : f d <;> simp [e]
    have ln : acc.length < sizeLine := by
      have h1 : ((ds.take i).filterMap f).length ≤ (ds.take i).length := List.length_filterMap_le f _
      have h2 : (ds.take i).length ≤ ds.length := by rw [List.length_take]; omega
      rw [ea]; omega
    have step : ∀ dvs, (Bk X scope fun X' => TXs B X' ifs (gsetAll (gwipe G own) t.slots dvs) M' fun b M3 =>
        if b = true then Bk X scope fun X2 => EX B X2 elt (gsetAll (gwipe G own) t.slots dvs) M3 fun y M4 => M4 = M' ∧ f d = some y else M3 = M' ∧ f d = none) →
        Bk X scope fun X' => TXs B X' ifs (gsetAll (gwipe G own) t.slots dvs) M' fun b M3 =>
          if b = true then Bk X scope fun X2 => EX B X2 elt (gsetAll (gwipe G own) t.slots dvs) M3 fun y M4 => M4 L = some (.lst acc) ∧ acc.length < sizeLine ∧ (acc ++ [y] = (ds.take (i + 1)).filterMap f ∧ mupd M4 L (.lst (acc ++ [y])) = mupd M L (.lst (acc ++ [y])))
          else M3 L = some (.lst acc) ∧ (acc = (ds.take (i + 1)).filterMap f ∧ M3 = mupd M L (.lst acc)) := by
      intro dvs hb s0 H0 C cl fp
      have post : ∀ (b : Bool) (M3 : Mem), (if b = true then Bk X scope fun X2 => EX B X2 elt (gsetAll (gwipe G own) t.slots dvs) M3 fun y M4 => M4 = M' ∧ f d = some y else M3 = M' ∧ f d = none) →
          if b = true then Bk X scope fun X2 => EX B X2 elt (gsetAll (gwipe G own) t.slots dvs) M3 fun y M4 => M4 L = some (.lst acc) ∧ acc.length < sizeLine ∧ (acc ++ [y] = (ds.take (i + 1)).filterMap f ∧ mupd M4 L (.lst (acc ++ [y])) = mupd M L (.lst (acc ++ [y])))
          else M3 L = some (.lst acc) ∧ (acc = (ds.take (i + 1)).filterMap f ∧ M3 = mupd M L (.lst acc)) := fun b M3 z =>
        ite_mono z (fun z s1 H1 C1 cl1 fp1 => (z s1 H1 C1 cl1 fp1).imp fun y M4 ⟨e4, ef⟩ => by
          subst e4
          refine ⟨hM, ln, ?_, ?_⟩
          · rw [tk, ef, ← ea]; rfl
          · rw [eM, mupd_mupd]) fun ⟨e3, ef⟩ => by
          subst e3
          refine ⟨hM, ?_, eM⟩
          rw [tk, ef, ← ea]; simp
      have z := hb s0 H0 C cl fp
      match ifs, z with
      | [], z => exact post true M' z
      | [c], z => exact TX.imp z post
    have hh := h i d M' hd hle
    cases t with
    | inl j => exact step [d] hh
    | inr js =>
      obtain ⟨dvs, e, hl', hb⟩ := hh
      exact ⟨dvs, e, hl', step dvs hb⟩
  · rintro acc M' ⟨ea, eM⟩ hM
    rw [List.take_length] at ea
    rw [eM, mdel_mupd hL, ea]
    exact q
end
end FL
namespace FL
open PySem PySem.Spec PyProof.Rows L2
/-- a promise over data: arguments, cells, what is wanted of the answer and the cells -/
abbrev DSp := List D → Mem → (D → Mem → Prop) → Prop
def lift (K : PySem.W.Frag) (sp : DSp) : Sp := fun vs H Q _ => ∃ F ds M Qd, RpAll K F vs ds ∧ Same F H ∧ MemOk K F H M ∧ sp ds M Qd ∧ ∀ d M', Qd d M' → ∀ v H' F', Same F F' → Kp M H M' H' → Same F' H' → MemOk K F' H' M' → Rp K F' v d → Q v H'
/-- a def of the module, by its name -/
structure Dfn (P : Program) (w : World) (K : PySem.W.Frag) (mg : Str → Option Value) (base : Heap) (k : Nat) (x : Str) (sp : DSp) : Prop where
  ex : ∃ (f : Addr) (fd : FuncData) (ps : List Str), FnOk P w K mg base CX0 k f fd ps (lift K sp) ∧ mg x = some (.ref f) ∧ PySem.W.keepIn K (.ref f) = true ∧ Binds K fd ps []
section
variable {B : Bs} {X : Cx} {a b c e o tg iter elt : Expr} {es : List Expr} {G G' : Sl} {M M' : Mem} {Q : D → Mem → Prop} {E : En} {pos p pos' apos : Pos} {F F1 : Hp} {σ : L2.St} {k : Nat} {x m : Str} {sp : DSp}
theorem lift_use {H1 : Hp} {vs : List V} {ds : List D} {Q' : VK} {E0' : XK} (r1 : R B X.K F1 σ H1 G M) (p1 : RpAll X.K F1 vs ds) (q : sp ds M Q) (kk : KE B X F1 σ G Q Q') : lift X.K sp vs H1 Q' E0' :=
  ⟨F1, ds, M, Q, p1, r1.ex, r1.mem, q, fun d M' qd v H' F' s' k' e' m' rp => kk v H' F' d M' qd s' ⟨r1.slots.mono s', e', m', r1.bf.trans s', r1.bk.trans k'⟩ rp⟩
theorem ex_call (c : Dfn X.prog X.w X.K X.mg X.base k x sp) (hr : Room k X.A) (hg : Gl X x) (hdb : (x == ("__debug__" : Str)) = false)
    (he : starEach (e :: es) X.env = (false, eval e X.env) :: starEach es X.env) (hpl : (backTo pos (starEach es X.env)).any (·.1) = false)
    (h : AX B X (e :: es) G M fun ds M1 => sp ds M1 Q) : EX B X (.Call (.Name x p) (e :: es) [] pos) G M Q := fun F σ H Q' r kk => by
  obtain ⟨f, fd, ps, Fo, mgx, kp, bd⟩ := c.ex
  refine WE.of (pe_call Fo hr hg mgx kp bd .nil pass0 pa_wa hdb he hpl) (h F σ H _ r fun vs H1 F1 ds M1 q1 s1 r1 p1 => ?_)
  rw [List.append_nil]
  exact lift_use r1 p1 q1 (kk.mono s1)
/-! ### a def's body -/
def startD (N : List Str) (ds : List D) : Sl := ds.map some ++ List.replicate (N.length - ds.length) none
theorem start_ok {K : PySem.W.Frag} {N : List Str} {vs : List V} {ds : List D} (h : RpAll K F vs ds) : SlotsOk K F (L2.start N vs) (startD N ds) := by
  refine ⟨by unfold L2.start startD; simp [h.length], fun i d q => ?_⟩
  unfold startD at q
  unfold L2.start
  by_cases hi : i < ds.length
  · rw [List.getElem?_append_left (by simpa using hi), List.getElem?_map] at q
    rw [List.getElem?_append_left (by simpa [h.length] using hi), List.getElem?_map]
    cases e : ds[i]? with
    | none => rw [e] at q; cases q
    | some d' =>
      rw [e] at q
      have e2 : d' = d := by simpa using q
      subst e2
      obtain ⟨v, hv, rv⟩ := h.get e
      exact ⟨v, by rw [hv]; rfl, rv⟩
  · rw [List.getElem?_append_right (by simpa using hi)] at q
    rw [List.getElem?_replicate] at q
    split at q <;> cases q
theorem fun_ok {P : Program} {w : World} {K : PySem.W.Frag} {mg : Str → Option Value} {base : Heap} {x qual : Str} {st : Stmt} {f : Addr} {fd : FuncData} {N ps : List Str} {k : Nat} {sp : DSp} (Fn : Fun K x qual st f fd) (S : FnScope N ps (defScope st))
    (len : ∀ ds M Q, sp ds M Q → ds.length = ps.length)
    (body : ∀ (cdv : Value) (A : Around) (outer : List Env) (s : Shared) (H : Hp) (E : XK), Room k (A.deeper (envOfC qual (defScope st) s.heap.objs.size f cdv)) → ∀ ds M Q, sp ds M Q → ∀ B : Bs,
      SXs B (cxOf CX0 P w K mg base N qual (defScope st) f cdv A outer s H E).nox (defBody st) (En.df Q) (startD N ds) M) : FnOk P w K mg base CX0 (k + 1) f fd ps (lift K sp) := by
  refine Fn.ok S (fun vs H Q E ⟨F, ds, M, Qd, p, _, _, h, _⟩ => by rw [p.length]; exact len ds M Qd h) fun cdv A outer s H vs Q E hr ⟨F, ds, M, Qd, p, ex, me, h, kk⟩ => ?_
  refine ⟨_, pss_wss, body cdv A outer s H E hr ds M Qd h ⟨F, M, H⟩ F _ H _ ⟨start_ok p, ex, me, Same.refl F, Kp.refl M H⟩ ⟨?_, ?_, ?_, ?_⟩⟩
  · exact fun σ' H' F' G' M' q s' r' => kk .non M' q .non H' F' s' r'.bk r'.ex r'.mem .non
  · exact fun v H' F' d M' q s' ⟨_, _, r'⟩ rp => kk d M' q v H' F' s' r'.bk r'.ex r'.mem rp
  · exact fun _ _ _ _ _ q => False.elim q
  · exact fun _ _ _ _ _ q => False.elim q
/-! ### built-ins by name -/
/-- a built-in function or class, by its name -/
structure Blt (X : Cx) (x : Str) (f : Value) : Prop where
  g : Gl X x
  m : X.mg x = none
  v : bootBuiltins x = some f
  n : x ≠ "__name__"
  d : (x == ("__debug__" : Str)) = false
theorem ex_callB {id : String} (c : Blt X x (.builtin id)) (he : starEach (e :: es) X.env = (false, eval e X.env) :: starEach es X.env) (hpl : (backTo pos (starEach es X.env)).any (·.1) = false)
    (h : AX B X (e :: es) G M fun ds M1 => BX B X (.builtin id) ds G M1 Q) : EX B X (.Call (.Name x p) (e :: es) [] pos) G M Q := fun F σ H Q' r kk =>
  WE.of (pe_callB call_wc c.g c.m c.v pa_wa c.n c.d he hpl) (h F σ H _ r fun vs H1 F1 ds M1 q1 s1 r1 p1 => q1 F1 σ H1 Q' vs r1 p1 (kk.mono s1))
theorem ex_callTy {T : String} (c : Blt X x (.type T)) (he : starEach (e :: es) X.env = (false, eval e X.env) :: starEach es X.env) (hpl : (backTo pos (starEach es X.env)).any (·.1) = false)
    (h : AX B X (e :: es) G M fun ds M1 => BX B X (.type T) ds G M1 Q) : EX B X (.Call (.Name x p) (e :: es) [] pos) G M Q := fun F σ H Q' r kk =>
  WE.of (pe_callTy call_wc c.g c.m c.v pa_wa c.n c.d he hpl) (h F σ H _ r fun vs H1 F1 ds M1 q1 s1 r1 p1 => q1 F1 σ H1 Q' vs r1 p1 (kk.mono s1))
/-- a built-in as a value -/
theorem ex_ty {T : String} (c : Blt X x (.type T)) (q : Q (.ty T) M) : EX B X (.Name x pos) G M Q := fun F σ H Q' r kk =>
  WE.of (pe_bltn c.g c.m c.v (v := .ty T) rfl c.n c.d) (kk.at r q (.ty T))
theorem rp1 {K : PySem.W.Frag} {vs : List V} {d : D} (h : RpAll K F vs [d]) : ∃ v, vs = [v] ∧ Rp K F v d := by
  cases h with
  | cons p t => cases t; exact ⟨_, rfl, p⟩
theorem rp2 {K : PySem.W.Frag} {vs : List V} {d d2 : D} (h : RpAll K F vs [d, d2]) : ∃ v v2, vs = [v, v2] ∧ Rp K F v d ∧ Rp K F v2 d2 := by
  cases h with
  | cons p t =>
    obtain ⟨v, e, q⟩ := rp1 t
    subst e
    exact ⟨_, v, rfl, p, q⟩
theorem bx_lenL {ds : List D} (q : Q (.int (ds.length : Nat)) M) : BX B X (.builtin "len") [.lst ds] G M Q := fun F σ H Q' vs r pa kk => by
  obtain ⟨v, rfl, rp⟩ := rp1 pa
  cases rp with
  | @lst a xs _ hs rs => exact WC.of call_len_seq ⟨a, xs, rfl, .inl (SqL.of (r.ex _ _ hs)), by rw [rs.length]; exact kk.at r q (.int _)⟩
theorem bx_lenF {ds : List D} (q : Q (.int (ds.length : Nat)) M) : BX B X (.builtin "len") [.fzl ds] G M Q := fun F σ H Q' vs r pa kk => by
  obtain ⟨v, rfl, rp⟩ := rp1 pa
  cases rp with
  | @fzl a xs _ hs rs => exact WC.of call_len_seq ⟨a, xs, rfl, .inl (r.ex.seq hs), by rw [rs.length]; exact kk.at r q (.int _)⟩
theorem bx_lenT {ds : List D} (q : Q (.int (ds.length : Nat)) M) : BX B X (.builtin "len") [.tup ds] G M Q := fun F σ H Q' vs r pa kk => by
  obtain ⟨v, rfl, rp⟩ := rp1 pa
  cases rp with
  | @tup a xs _ hs rs => exact WC.of call_len_seq ⟨a, xs, rfl, .inr (sq_same r.ex hs), by rw [rs.length]; exact kk.at r q (.int _)⟩
theorem bx_lenC {l : Addr} {ds : List D} (hm : M l = some (.lst ds)) (q : Q (.int (ds.length : Nat)) M) : BX B X (.builtin "len") [.ref l] G M Q := fun F σ H Q' vs r pa kk => by
  obtain ⟨v, rfl, rp⟩ := rp1 pa
  cases rp
  obtain ⟨_, xs, hx, rx⟩ := r.mem l _ hm
  exact WC.of call_len_seq ⟨l, xs, rfl, .inl (.inl (.inl hx)), by rw [rx.length]; exact kk.at r q (.int _)⟩
/-- the built-in type of data -/
def D.tyN : D → String
  | .non => "NoneType" | .bl _ => "bool" | .int _ => "int" | .str _ => "str" | .tup _ => "tuple" | .lst _ => "list" | .dK _ => "dict" | .dT _ => "dict" | .ty _ => "type" | .ref _ => "object" | .fzl _ => "list"
def D.tyd : D → Bool
  | .ty _ => false | .ref _ => false | .fzl _ => false | _ => true
theorem Rp.tyx {K : PySem.W.Frag} {F H : Hp} {v : V} {d : D} (e : Same F H) (r : Rp K F v d) (h : d.tyd = true) : TyX K H v (.type d.tyN) := by
  cases r with
  | non => exact .base .non
  | bl b => exact .base (.bl b)
  | int i => exact .base (.int i)
  | str x => exact .base (.str x)
  | ref a => cases h
  | ty n => cases h
  | tup hs _ =>
    rcases hs with (hs | ⟨ob, hs⟩) | ⟨ob, _, _, hk, hc, _⟩
    · exact .base (.tup (e _ _ hs))
    · exact .fTuple (e _ _ hs)
    · exact .kTuple hk hc
  | lst hs _ => exact .base (.lst (e _ _ hs))
  | fzl _ _ => cases h
  | dK hs _ => exact .base (.dK (e _ _ hs))
  | dT hs _ => exact .base (.dT (e _ _ hs))
theorem bx_isi {d : D} {T : String} {b : Bool} (hd : d.tyd = true) (hk : kitB d.tyN T = some b) (q : Q (.bl b) M) : BX B X (.builtin "isinstance") [d, .ty T] G M Q := fun F σ H Q' vs r pa kk => by
  obtain ⟨v, v2, rfl, rp, r2⟩ := rp2 pa
  cases r2
  exact WC.of call_isi ⟨v, .ty T, _, _, b, rfl, .ty T, rp.tyx r.ex hd, kit_ty hk, kk.at r q (.bl b)⟩
/-- the classes of a tuple -/
def tyNs : List D → Option (List String)
  | [] => some []
  | .ty T :: r => (tyNs r).map (T :: ·)
  | _ => none
def kitBs (a : String) : List String → Option Bool
  | [] => some false
  | T :: r => match kitB a T with
    | some true => some true
    | some false => kitBs a r
    | none => none
theorem tyNs_cls {K : PySem.W.Frag} : ∀ {ds : List D} {vs : List V} {Ts : List String}, tyNs ds = some Ts → RpAll K F vs ds → Paired ClsV vs (Ts.map Value.type)
  | [], _, Ts, h, p => by cases p; cases h; exact .nil
  | .ty T :: ds, _, Ts, h, .cons p r => by
    cases p
    unfold tyNs at h
    cases e : tyNs ds with
    | none => rw [e] at h; cases h
    | some Us =>
      rw [e] at h
      cases h
      exact .cons (.ty T) (tyNs_cls e r)
theorem kitBs_any {K : PySem.W.Frag} {a : String} {b : Bool} : ∀ {Ts : List String}, kitBs a Ts = some b → PySem.W.kitAny K (.type a) (Ts.map Value.type) = some b
  | [], h => by cases h; exact kitAny_nil
  | T :: Ts, h => by
    unfold kitBs at h
    split at h
    · rename_i e
      cases h
      exact kitAny_cons (kit_ty e) (fun z => nomatch z) (fun _ => rfl)
    · rename_i e
      exact kitAny_cons (kit_ty e) (fun _ => kitBs_any h) (fun z => nomatch z)
    · cases h
theorem call_isiS : CallR X (.builtin "isinstance") (fun xs H Q => ∃ (x : V) (tp : Addr) (cs : List V) (t : Value) (us : List Value) (b : Bool), xs = [x, .ref tp] ∧ SqT X.K H tp cs ∧ Paired ClsV cs us ∧ TyX X.K H x t ∧ PySem.W.kitAny X.K t us = some b ∧ Q (.bl b) H) := by
  intro pins s σ H xs us Q I r h
  obtain ⟨x, tp, cs, t, ws, b, rfl, hT, k, ty, e, q⟩ := h
  obtain ⟨u1, u2, rfl, r1, r2⟩ := vals2 r
  cases (show u2 = Value.ref tp from r2)
  obtain ⟨P, Z, p, hx⟩ := kit_of I r1 ty
  obtain ⟨its, rv, ⟨o, h1, h2, n, h3⟩, _⟩ := I.tuple hT
  have e3 := ClsV.all k rv
  subst e3
  obtain ⟨oc, od, dt, sl⟩ := o
  simp only at h2 h3
  subst h2 h3
  exact PySem.W.kia_tup Z I.kIn p h1 e hx fun tk => ⟨.bl b, H, I.tok tk, rfl, q⟩
theorem bx_isiT {d : D} {ts : List D} {Ts : List String} {b : Bool} (hd : d.tyd = true) (ht : tyNs ts = some Ts) (hk : kitBs d.tyN Ts = some b) (q : Q (.bl b) M) : BX B X (.builtin "isinstance") [d, .tup ts] G M Q := fun F σ H Q' vs r pa kk => by
  obtain ⟨v, v2, rfl, rp, r2⟩ := rp2 pa
  cases r2 with
  | @tup a xs _ hs rs => exact WC.of call_isiS ⟨v, a, xs, _, _, b, rfl, sq_same r.ex hs, tyNs_cls ht rs, rp.tyx r.ex hd, kitBs_any hk, kk.at r q (.bl b)⟩
end
end FL
namespace FL
open PySem PySem.Spec PyProof.Rows L2
def atB (N : List Str) (sc : Scope) (i : Nat) (x : Str) : Bool := decide (N[i]? = some x) && ((match sc.names.lookup x with | some .local => true | some .cell => true | _ => false) && (!(x == ("__debug__" : Str)) && !(x == ("__classdict__" : Str))))
section
variable {X : Cx} {N : List Str} {sc : Scope} {i : Nat} {x : Str}
theorem atB_parts (h : atB N sc i x = true) : N[i]? = some x ∧ (sc.names.lookup x = some .local ∨ sc.names.lookup x = some .cell) ∧ (x == ("__debug__" : Str)) = false ∧ (x == ("__classdict__" : Str)) = false := by
  unfold atB at h
  obtain ⟨h1, h⟩ := Bool.and_eq_true_iff.mp h
  obtain ⟨h2, h⟩ := Bool.and_eq_true_iff.mp h
  obtain ⟨h3, h4⟩ := Bool.and_eq_true_iff.mp h
  refine ⟨of_decide_eq_true h1, ?_, by simpa using h3, by simpa using h4⟩
  split at h2
  · left; assumption
  · right; assumption
  · cases h2
theorem At.of (hN : X.N = N) (hs : X.env.scope = sc) (h : atB N sc i x = true) : At X i x := by
  obtain ⟨h1, h2, h3, h4⟩ := atB_parts h
  refine ⟨by rw [hN]; exact h1, ?_, h3, h4⟩
  rw [hs]
  rcases h2 with h2 | h2
  · exact .inl h2
  · exact .inr (.inl h2)
theorem Lc.of (nd : N.Nodup) (hN : X.N = N) (hs : X.env.scope = sc) (hf : X.fn x = true ∨ X.env.scope.names.lookup x = some .local) (h : atB N sc i x = true) : Lc X i x := by
  obtain ⟨h1, h2, h3, h4⟩ := atB_parts h
  refine ⟨by rw [hN]; exact nd, by rw [hN]; exact h1, ?_, hf⟩
  rw [hs]
  exact h2
theorem At.b (hN : X.N[i]? = some x) (hv : Vis X.env.scope x) (hd : (x == ("__debug__" : Str)) = false := by decide) (hc : (x == ("__classdict__" : Str)) = false := by decide) : At X i x := ⟨hN, hv, hd, hc⟩
theorem Gb.of {d : D} {u : Value} {v : V} (g : Gl X x) (m : X.mg x = some u) (r : RelV v u) (h : ∀ F, Rp X.K F v d) (hd : (x == ("__debug__" : Str)) = false := by decide) : Gb X x d := ⟨g, ⟨u, v, m, r, h⟩, hd⟩
end
/-- a constant of the module -/
def Cst (K : PySem.W.Frag) (mg : Str → Option Value) (x : Str) (d : D) : Prop := ∃ u v, mg x = some u ∧ RelV v u ∧ ∀ F, Rp K F v d
theorem Gb.ofC {X : Cx} {x : Str} {d : D} (g : Gl X x) (h : Cst X.K X.mg x d) (hd : (x == ("__debug__" : Str)) = false := by decide) : Gb X x d := ⟨g, h, hd⟩
theorem Blt.blk {X : Cx} {x : Str} {f : Value} {s : Shared} {H : Hp} {scope : Scope} {cenv : Env} {fp : List Addr} (h : Blt X x f) (g : Gl (X.blk s H scope cenv fp) x) : Blt (X.blk s H scope cenv fp) x f := ⟨g, h.m, h.v, h.n, h.d⟩
theorem Gb.blk {X : Cx} {x : Str} {d : D} {s : Shared} {H : Hp} {scope : Scope} {cenv : Env} {fp : List Addr} (h : Gb X x d) (g : Gl (X.blk s H scope cenv fp) x) : Gb (X.blk s H scope cenv fp) x d := ⟨g, h.m, h.d⟩
theorem ite_dec {p A B : Prop} [Decidable p] (h1 : p → A) (h2 : ¬ p → B) : if decide p = true then A else B := by
  by_cases h : p
  · rw [decide_eq_true h]; exact iteT (h1 h)
  · rw [decide_eq_false h]; exact iteF (h2 h)
theorem ite_ndec {p A B : Prop} [Decidable p] (h1 : ¬ p → A) (h2 : p → B) : if (!decide p) = true then A else B := by
  by_cases h : p
  · rw [decide_eq_true h]; exact iteF (h2 h)
  · rw [decide_eq_false h]; exact iteT (h1 h)
theorem ite_b {b : Bool} {A B : Prop} (h1 : b = true → A) (h2 : b = false → B) : if b = true then A else B := by
  cases b with
  | true => exact iteT (h1 rfl)
  | false => exact iteF (h2 rfl)
theorem ite_nb {b : Bool} {A B : Prop} (h1 : b = false → A) (h2 : b = true → B) : if (!b) = true then A else B := by
  cases b with
  | true => exact iteF (h2 rfl)
  | false => exact iteT (h1 rfl)
theorem iteT' {c : Bool} {A B : Prop} (e : c = true) (h : A) : if c = true then A else B := by rw [if_pos e]; exact h
theorem iteF' {c : Bool} {A B : Prop} (e : c = false) (h : B) : if c = true then A else B := by rw [e]; exact iteF h
theorem asB_bl {Q : Bool → Mem → Prop} {b : Bool} {M : Mem} (h : Q b M) : AsB Q (.bl b) M := h
theorem ixN_nat {n j : Nat} (h : j < n) : ixN n (j : Int) = some j := by
  unfold ixN
  rw [if_pos (by omega), if_pos (by omega)]
  rfl
theorem atI_of {ds : List D} {i : Int} {j : Nat} {d : D} (e : i = (j : Int)) (h : ds[j]? = some d) : atI ds i = some d := by rw [e]; exact atI_nat h
end FL
namespace FL
open PySem PySem.Spec PyProof.Rows L2
section
variable {B : Bs} {X : Cx} {a b c e o tg iter elt : Expr} {es : List Expr} {G G' : Sl} {M M' : Mem} {Q : D → Mem → Prop} {E : En} {pos p pos' apos : Pos} {F F1 : Hp} {σ : L2.St} {k : Nat} {x y : Str} {i : Int}
/-! ### flat data -/
def D.toV : D → V
  | .bl b => .bl b | .int i => .int i | .str x => .str x | _ => .non
def D.flat : D → Bool
  | .non => true | .bl _ => true | .int _ => true | .str _ => true | _ => false
theorem Rp.flat {K : PySem.W.Frag} {v : V} {d : D} (r : Rp K F v d) (h : d.flat = true) : v = d.toV ∧ flatV d.toV = true := by
  cases r <;> first | exact ⟨rfl, rfl⟩ | cases h
theorem RpAll.flat {K : PySem.W.Frag} : ∀ {vs : List V} {ds : List D}, RpAll K F vs ds → ds.all D.flat = true → vs = ds.map D.toV ∧ (ds.map D.toV).all flatV = true
  | _, _, .nil, _ => ⟨rfl, rfl⟩
  | _, _, .cons r t, h => by
    obtain ⟨h1, h2⟩ := Bool.and_eq_true_iff.mp (show (_ && _) = true from h)
    obtain ⟨e1, f1⟩ := r.flat h1
    obtain ⟨e2, f2⟩ := RpAll.flat t h2
    refine ⟨by rw [e1, e2]; rfl, ?_⟩
    show (_ && _) = true
    rw [f1]; exact f2
def inD (d : D) (ds : List D) : Bool := inV d.toV (ds.map D.toV)
theorem in_core {neg : Bool} {op : CmpOp} {d : D} {ds : List D} {v : V} {pa : Addr} {H : Hp} {Q' : VK} (ho : OpR X (compareOp op) (rIn X.K neg)) (r : R B X.K F σ H G M) (p1 : Rp X.K F v d) (hf : d.flat = true) (ha : ds.all D.flat = true) (xs : List V) (hs : SqL X.K H pa xs ∨ SqT X.K H pa xs) (rs : RpAll X.K F xs ds)
    (q : Q (.bl (if neg then !inD d ds else inD d ds)) M) (kk : KE B X F σ G Q Q') : WO X (compareOp op) v (.ref pa) H Q' := by
  obtain ⟨e1, f1⟩ := p1.flat hf
  obtain ⟨e2, f2⟩ := rs.flat ha
  subst e1; subst e2
  exact WO.of ho ⟨pa, _, rfl, hs, f1, f2, kk.at r q (.bl _)⟩
theorem ox_inT {d : D} {ds : List D} (hf : d.flat = true) (ha : ds.all D.flat = true) (q : Q (.bl (inD d ds)) M) : OX B X (compareOp .In) d (.tup ds) G M Q := fun F σ H Q' v w r p1 p2 kk => by
  cases p2 with
  | @tup a xs _ hs rs => exact in_core op_in_seq r p1 hf ha xs (.inr (sq_same r.ex hs)) rs q kk
theorem ox_inL {d : D} {ds : List D} (hf : d.flat = true) (ha : ds.all D.flat = true) (q : Q (.bl (inD d ds)) M) : OX B X (compareOp .In) d (.lst ds) G M Q := fun F σ H Q' v w r p1 p2 kk => by
  cases p2 with
  | @lst a xs _ hs rs => exact in_core op_in_seq r p1 hf ha xs (.inl (SqL.of (r.ex _ _ hs))) rs q kk
theorem ox_notInL {d : D} {ds : List D} (hf : d.flat = true) (ha : ds.all D.flat = true) (q : Q (.bl (!inD d ds)) M) : OX B X (compareOp .NotIn) d (.lst ds) G M Q := fun F σ H Q' v w r p1 p2 kk => by
  cases p2 with
  | @lst a xs _ hs rs => exact in_core op_notIn_seq r p1 hf ha xs (.inl (SqL.of (r.ex _ _ hs))) rs q kk
theorem ox_notInC {d : D} {l : Addr} {ds : List D} (hm : M l = some (.lst ds)) (hf : d.flat = true) (ha : ds.all D.flat = true) (q : Q (.bl (!inD d ds)) M) : OX B X (compareOp .NotIn) d (.ref l) G M Q := fun F σ H Q' v w r p1 p2 kk => by
  cases p2
  obtain ⟨_, xs, hx, rx⟩ := r.mem l _ hm
  exact in_core op_notIn_seq r p1 hf ha xs (.inl (.inl (.inl hx))) rx q kk
theorem str_beq_iff {x y : Str} : (x == y) = decide (x = y) := Bool.beq_eq_decide_eq x y
theorem inD_str : ∀ {xs : List Str}, inD (.str x) (xs.map D.str) = decide (x ∈ xs)
  | [] => by simp [inD, inV]
  | y :: ys => by
    have ih : inD (.str x) (ys.map D.str) = decide (x ∈ ys) := inD_str
    have e : inD (.str x) ((y :: ys).map D.str) = ((y == x) || inD (.str x) (ys.map D.str)) := rfl
    rw [e, ih, str_beq_iff]
    by_cases h : y = x
    · subst h; simp
    · have h' : ¬ x = y := fun z => h z.symm
      simp [h, h']
theorem inD_int {n : Int} : ∀ {xs : List Int}, inD (.int n) (xs.map D.int) = decide (n ∈ xs)
  | [] => by simp [inD, inV]
  | y :: ys => by
    have ih : inD (.int n) (ys.map D.int) = decide (n ∈ ys) := inD_int
    have e : inD (.int n) ((y :: ys).map D.int) = ((y == n) || inD (.int n) (ys.map D.int)) := rfl
    rw [e, ih, Bool.beq_eq_decide_eq]
    by_cases h : y = n
    · subst h; simp
    · have h' : ¬ n = y := fun z => h z.symm
      simp [h, h']
/-! ### built-in names -/
theorem bb_len : bootBuiltins "len" = some (.builtin "len") := by decide +kernel
theorem bb_isinstance : bootBuiltins "isinstance" = some (.builtin "isinstance") := by decide +kernel
theorem bb_max : bootBuiltins "max" = some (.builtin "max") := by decide +kernel
theorem bb_min : bootBuiltins "min" = some (.builtin "min") := by decide +kernel
theorem bb_sorted : bootBuiltins "sorted" = some (.builtin "sorted") := by decide +kernel
theorem bb_int : bootBuiltins "int" = some (.type "int") := by decide +kernel
theorem bb_bool : bootBuiltins "bool" = some (.type "bool") := by decide +kernel
theorem bb_str : bootBuiltins "str" = some (.type "str") := by decide +kernel
theorem bb_tuple : bootBuiltins "tuple" = some (.type "tuple") := by decide +kernel
theorem bb_list : bootBuiltins "list" = some (.type "list") := by decide +kernel
theorem bb_dict : bootBuiltins "dict" = some (.type "dict") := by decide +kernel
theorem bb_set : bootBuiltins "set" = some (.type "set") := by decide +kernel
/-! ### isinstance -/
def D.isI : D → Bool
  | .int _ => true | .bl _ => true | _ => false
def D.isB : D → Bool
  | .bl _ => true | _ => false
def D.isS : D → Bool
  | .str _ => true | _ => false
def D.isT : D → Bool
  | .tup _ => true | _ => false
def D.isL : D → Bool
  | .lst _ => true | _ => false
theorem kitI {d : D} (hd : d.tyd = true) : kitB d.tyN "int" = some d.isI := by
  cases d with
  | non => exact (by decide +kernel : kitB "NoneType" "int" = some false)
  | bl => exact (by decide +kernel : kitB "bool" "int" = some true)
  | int => exact (by decide +kernel : kitB "int" "int" = some true)
  | str => exact (by decide +kernel : kitB "str" "int" = some false)
  | tup => exact (by decide +kernel : kitB "tuple" "int" = some false)
  | lst => exact (by decide +kernel : kitB "list" "int" = some false)
  | dK => exact (by decide +kernel : kitB "dict" "int" = some false)
  | dT => exact (by decide +kernel : kitB "dict" "int" = some false)
  | ref _ => cases hd
  | fzl _ => cases hd
  | ty _ => cases hd
theorem kitBo {d : D} (hd : d.tyd = true) : kitB d.tyN "bool" = some d.isB := by
  cases d with
  | non => exact (by decide +kernel : kitB "NoneType" "bool" = some false)
  | bl => exact (by decide +kernel : kitB "bool" "bool" = some true)
  | int => exact (by decide +kernel : kitB "int" "bool" = some false)
  | str => exact (by decide +kernel : kitB "str" "bool" = some false)
  | tup => exact (by decide +kernel : kitB "tuple" "bool" = some false)
  | lst => exact (by decide +kernel : kitB "list" "bool" = some false)
  | dK => exact (by decide +kernel : kitB "dict" "bool" = some false)
  | dT => exact (by decide +kernel : kitB "dict" "bool" = some false)
  | ref _ => cases hd
  | fzl _ => cases hd
  | ty _ => cases hd
theorem kitS {d : D} (hd : d.tyd = true) : kitB d.tyN "str" = some d.isS := by
  cases d with
  | non => exact (by decide +kernel : kitB "NoneType" "str" = some false)
  | bl => exact (by decide +kernel : kitB "bool" "str" = some false)
  | int => exact (by decide +kernel : kitB "int" "str" = some false)
  | str => exact (by decide +kernel : kitB "str" "str" = some true)
  | tup => exact (by decide +kernel : kitB "tuple" "str" = some false)
  | lst => exact (by decide +kernel : kitB "list" "str" = some false)
  | dK => exact (by decide +kernel : kitB "dict" "str" = some false)
  | dT => exact (by decide +kernel : kitB "dict" "str" = some false)
  | ref _ => cases hd
  | fzl _ => cases hd
  | ty _ => cases hd
theorem kitT {d : D} (hd : d.tyd = true) : kitB d.tyN "tuple" = some d.isT := by
  cases d with
  | non => exact (by decide +kernel : kitB "NoneType" "tuple" = some false)
  | bl => exact (by decide +kernel : kitB "bool" "tuple" = some false)
  | int => exact (by decide +kernel : kitB "int" "tuple" = some false)
  | str => exact (by decide +kernel : kitB "str" "tuple" = some false)
  | tup => exact (by decide +kernel : kitB "tuple" "tuple" = some true)
  | lst => exact (by decide +kernel : kitB "list" "tuple" = some false)
  | dK => exact (by decide +kernel : kitB "dict" "tuple" = some false)
  | dT => exact (by decide +kernel : kitB "dict" "tuple" = some false)
  | ref _ => cases hd
  | fzl _ => cases hd
  | ty _ => cases hd
theorem kitL {d : D} (hd : d.tyd = true) : kitB d.tyN "list" = some d.isL := by
  cases d with
  | non => exact (by decide +kernel : kitB "NoneType" "list" = some false)
  | bl => exact (by decide +kernel : kitB "bool" "list" = some false)
  | int => exact (by decide +kernel : kitB "int" "list" = some false)
  | str => exact (by decide +kernel : kitB "str" "list" = some false)
  | tup => exact (by decide +kernel : kitB "tuple" "list" = some false)
  | lst => exact (by decide +kernel : kitB "list" "list" = some true)
  | dK => exact (by decide +kernel : kitB "dict" "list" = some false)
  | dT => exact (by decide +kernel : kitB "dict" "list" = some false)
  | ref _ => cases hd
  | fzl _ => cases hd
  | ty _ => cases hd
theorem kitTL {d : D} (hd : d.tyd = true) : kitBs d.tyN ["tuple", "list"] = some (d.isT || d.isL) := by
  cases d with
  | non => exact (by decide +kernel : kitBs "NoneType" ["tuple", "list"] = some false)
  | bl => exact (by decide +kernel : kitBs "bool" ["tuple", "list"] = some false)
  | int => exact (by decide +kernel : kitBs "int" ["tuple", "list"] = some false)
  | str => exact (by decide +kernel : kitBs "str" ["tuple", "list"] = some false)
  | tup => exact (by decide +kernel : kitBs "tuple" ["tuple", "list"] = some true)
  | lst => exact (by decide +kernel : kitBs "list" ["tuple", "list"] = some true)
  | dK => exact (by decide +kernel : kitBs "dict" ["tuple", "list"] = some false)
  | dT => exact (by decide +kernel : kitBs "dict" ["tuple", "list"] = some false)
  | ref _ => cases hd
  | fzl _ => cases hd
  | ty _ => cases hd
theorem bx_isiI {d : D} (hd : d.tyd = true) (q : Q (.bl d.isI) M) : BX B X (.builtin "isinstance") [d, .ty "int"] G M Q := bx_isi hd (kitI hd) q
theorem bx_isiB {d : D} (hd : d.tyd = true) (q : Q (.bl d.isB) M) : BX B X (.builtin "isinstance") [d, .ty "bool"] G M Q := bx_isi hd (kitBo hd) q
theorem bx_isiSt {d : D} (hd : d.tyd = true) (q : Q (.bl d.isS) M) : BX B X (.builtin "isinstance") [d, .ty "str"] G M Q := bx_isi hd (kitS hd) q
theorem bx_isiTu {d : D} (hd : d.tyd = true) (q : Q (.bl d.isT) M) : BX B X (.builtin "isinstance") [d, .ty "tuple"] G M Q := bx_isi hd (kitT hd) q
theorem bx_isiLi {d : D} (hd : d.tyd = true) (q : Q (.bl d.isL) M) : BX B X (.builtin "isinstance") [d, .ty "list"] G M Q := bx_isi hd (kitL hd) q
theorem bx_isiTL {d : D} (hd : d.tyd = true) (q : Q (.bl (d.isT || d.isL)) M) : BX B X (.builtin "isinstance") [d, .tup [.ty "tuple", .ty "list"]] G M Q := bx_isiT hd rfl (kitTL hd) q
/-! ### list(..), tuple(..), int(..), str(..) -/
theorem bx_listTM {ds : List D} (q : ∀ l, M l = none → Q (.ref l) (mupd M l (.lst ds))) : BX B X (.type "list") [.tup ds] G M Q := fun F σ H Q' vs r pa kk => by
  obtain ⟨v, rfl, rp⟩ := rp1 pa
  cases rp with
  | @tup a xs _ hs rs => exact WC.of call_list_of ⟨a, xs, rfl, .inr (sq_same r.ex hs), fun l hl => kk.cell r hl (q l (r.freeM hl)) ⟨xs, upd_same, rs⟩⟩
theorem bx_tupL {ds : List D} (q : Q (.tup ds) M) : BX B X (.type "tuple") [.lst ds] G M Q := fun F σ H Q' vs r pa kk => by
  obtain ⟨v, rfl, rp⟩ := rp1 pa
  cases rp with
  | @lst a xs _ hs rs => exact WC.of call_tuple_of ⟨a, xs, rfl, .inl ⟨SqL.of (r.ex _ _ hs), fun l hl => kk.new r hl q (.tup sq_upd (rs.mono (r.new hl).1))⟩⟩
theorem bx_tupC {l : Addr} {ds : List D} (hm : M l = some (.lst ds)) (q : Q (.tup ds) M) : BX B X (.type "tuple") [.ref l] G M Q := fun F σ H Q' vs r pa kk => by
  obtain ⟨v, rfl, rp⟩ := rp1 pa
  cases rp
  obtain ⟨_, xs, hx, rx⟩ := r.mem l _ hm
  exact WC.of call_tuple_of ⟨l, xs, rfl, .inl ⟨.inl (.inl hx), fun l hl => kk.new r hl q (.tup sq_upd (rx.mono (r.new hl).1))⟩⟩
theorem bx_intB {t : Bool} (q : Q (.int (if t then 1 else 0)) M) : BX B X (.type "int") [.bl t] G M Q := fun F σ H Q' vs r pa kk => by
  obtain ⟨v, rfl, rp⟩ := rp1 pa
  cases rp
  exact WC.of call_int1 (.inr ⟨t, rfl, kk.at r q (.int _)⟩)
theorem bx_max2 {i j : Int} (hc : X.calm = true) (q : Q (.int (if j > i then j else i)) M) : BX B X (.builtin "max") [.int i, .int j] G M Q := fun F σ H Q' vs r pa kk => by
  obtain ⟨v, v2, rfl, rp, rp2⟩ := rp2 pa
  cases rp; cases rp2
  exact WC.of (call_max2 hc) ⟨i, j, rfl, kk.at r q (.int _)⟩
theorem bx_min2 {i j : Int} (hc : X.calm = true) (q : Q (.int (if j < i then j else i)) M) : BX B X (.builtin "min") [.int i, .int j] G M Q := fun F σ H Q' vs r pa kk => by
  obtain ⟨v, v2, rfl, rp, rp2⟩ := rp2 pa
  cases rp; cases rp2
  exact WC.of (call_min2 hc) ⟨i, j, rfl, kk.at r q (.int _)⟩
/-! ### methods of texts -/
theorem RpAll.ints_of {K : PySem.W.Frag} : ∀ {zs : List Int} {vs : List V}, RpAll K F vs (zs.map D.int) → vs = zs.map V.int
  | [], _, h => by cases h; rfl
  | z :: zs, _, h => by
    cases h with
    | cons p t =>
      cases p
      rw [RpAll.ints_of t]; rfl
/-! ### f-strings -/
end
/-! ### equality of data -/
mutual
def D.py : D → PyData
  | .non => .none | .bl b => .bool b | .int i => .int i | .str x => .str x | .tup ds => .tuple (pys ds) | .lst ds => .list (pys ds)
  | .ref _ => .none | .ty _ => .none | .dK _ => .none | .dT _ => .none | .fzl _ => .none
def pys : List D → List PyData
  | [] => []
  | d :: ds => d.py :: pys ds
end
mutual
def D.isPy : D → Bool
  | .non => true | .bl _ => true | .int _ => true | .str _ => true | .tup ds => arePy ds | .lst ds => arePy ds
  | .ref _ => false | .ty _ => false | .dK _ => false | .dT _ => false | .fzl _ => false
def arePy : List D → Bool
  | [] => true
  | d :: ds => d.isPy && arePy ds
end
mutual
theorem Rp.dp {K : PySem.W.Frag} {F H : Hp} (s : Same F H) : ∀ {v : V} {d : D}, Rp K F v d → d.isPy = true → Dp K H v d.py
  | _, _, .non, _ => by unfold D.py; exact .non
  | _, _, .bl b, _ => by unfold D.py; exact .bl b
  | _, _, .int i, _ => by unfold D.py; exact .int i
  | _, _, .str x, _ => by unfold D.py; exact .str x
  | _, _, .ref _, h => by unfold D.isPy at h; cases h
  | _, _, .ty _, h => by unfold D.isPy at h; cases h
  | _, _, .tup hs r, h => by unfold D.isPy at h; unfold D.py; exact .tup (sq_same s hs) (RpAll.dp s r h)
  | _, _, .lst hs r, h => by unfold D.isPy at h; unfold D.py; exact .lst (SqL.of (s _ _ hs)) (RpAll.dp s r h)
  | _, _, .fzl _ _, h => by unfold D.isPy at h; cases h
  | _, _, .dK _ _, h => by unfold D.isPy at h; cases h
  | _, _, .dT _ _, h => by unfold D.isPy at h; cases h
theorem RpAll.dp {K : PySem.W.Frag} {F H : Hp} (s : Same F H) : ∀ {vs : List V} {ds : List D}, RpAll K F vs ds → arePy ds = true → DpAll K H vs (pys ds)
  | _, _, .nil, _ => by unfold pys; exact .nil
  | _, _, .cons p r, h => by
    unfold arePy at h
    obtain ⟨h1, h2⟩ := Bool.and_eq_true_iff.mp h
    unfold pys
    exact .cons (Rp.dp s p h1) (RpAll.dp s r h2)
end
def D.okEq (d : D) : Bool := d.isPy && SeqAt.shaped d.py
def eqD (d e : D) : Bool := PyData.eqv d.py e.py
section
variable {B : Bs} {X : Cx} {G : Sl} {M : Mem} {Q : D → Mem → Prop} {d d2 : D}
theorem ox_eqD (hu : X.A.units + 64 < cLine) (h1 : d.okEq = true) (h2 : d2.okEq = true) (q : Q (.bl (eqD d d2)) M) : OX B X (compareOp .Eq) d d2 G M Q := fun F σ H Q' v w r p1 p2 kk => by
  obtain ⟨a1, a2⟩ := Bool.and_eq_true_iff.mp h1
  obtain ⟨b1, b2⟩ := Bool.and_eq_true_iff.mp h2
  exact WO.of (op_eqD hu) ⟨_, _, p1.dp r.ex a1, p2.dp r.ex b1, a2, b2, kk.at r q (.bl _)⟩
theorem ox_neD (hu : X.A.units + 64 < cLine) (h1 : d.okEq = true) (h2 : d2.okEq = true) (q : Q (.bl (!eqD d d2)) M) : OX B X (compareOp .NotEq) d d2 G M Q := fun F σ H Q' v w r p1 p2 kk => by
  obtain ⟨a1, a2⟩ := Bool.and_eq_true_iff.mp h1
  obtain ⟨b1, b2⟩ := Bool.and_eq_true_iff.mp h2
  exact WO.of (op_neD hu) ⟨_, _, p1.dp r.ex a1, p2.dp r.ex b1, a2, b2, kk.at r q (.bl _)⟩
end
end FL
/-! cells that are only read by a callee; what is told is immutable -/
namespace FL
open PySem PySem.Spec PyProof.Rows L2
mutual
/-- the data with the list cells' contents in their places -/
inductive Deep (M : Mem) : D → D → Prop
  | self (d : D) : Deep M d d
  | cell {l : Addr} {ds es : List D} : M l = some (.lst ds) → DeepAll M ds es → Deep M (.ref l) (.lst es)
  | lst {ds es : List D} : DeepAll M ds es → Deep M (.lst ds) (.lst es)
  | tup {ds es : List D} : DeepAll M ds es → Deep M (.tup ds) (.tup es)
inductive DeepAll (M : Mem) : List D → List D → Prop
  | nil : DeepAll M [] []
  | cons {d e : D} {ds es : List D} : Deep M d e → DeepAll M ds es → DeepAll M (d :: ds) (e :: es)
end
theorem DeepAll.self {M : Mem} : ∀ ds : List D, DeepAll M ds ds
  | [] => .nil
  | d :: ds => .cons (.self d) (DeepAll.self ds)
section
variable {B : Bs} {K : PySem.W.Frag} {F H : Hp} {σ : L2.St} {G : Sl} {M : Mem}
mutual
theorem Deep.rp (r : R B K F σ H G M) : ∀ {d e : D}, Deep M d e → ∀ {v : V}, Rp K F v d → Rp K H v e
  | _, _, .self d, _, p => p.mono r.ex
  | _, _, .cell hm ha, _, p => by
    cases p
    obtain ⟨_, xs, hx, rx⟩ := r.mem _ _ hm
    exact .lst hx (DeepAll.rp r ha rx)
  | _, _, .lst ha, _, p => by
    cases p with
    | lst hs rs => exact .lst (r.ex _ _ hs) (DeepAll.rp r ha rs)
  | _, _, .tup ha, _, p => by
    cases p with
    | tup hs rs => exact .tup (sq_same r.ex hs) (DeepAll.rp r ha rs)
theorem DeepAll.rp (r : R B K F σ H G M) : ∀ {ds es : List D}, DeepAll M ds es → ∀ {vs : List V}, RpAll K F vs ds → RpAll K H vs es
  | _, _, .nil, _, p => by cases p; exact .nil
  | _, _, .cons h t, _, p => by
    cases p with
    | cons p1 p2 => exact .cons (Deep.rp r h p1) (DeepAll.rp r t p2)
end
end
mutual
def D.imm : D → Bool
  | .non => true | .bl _ => true | .int _ => true | .str _ => true | .ty _ => true | .tup ds => imms ds
  | .lst _ => false | .ref _ => false | .dK _ => false | .dT _ => false | .fzl _ => false
def imms : List D → Bool
  | [] => true
  | d :: ds => d.imm && imms ds
end
theorem MRp.kind {K : PySem.W.Frag} {F H : Hp} {a : Addr} : ∀ {o : MO}, MRp K F H a o → ∃ u, H a = some u ∧ (∀ xs, u ≠ .tup xs) ∧ ∀ ob w, u ≠ .frz ob w
  | .lst _, ⟨xs, h, r⟩ => ⟨_, h, (fun _ e => by cases e), (fun _ _ e => by cases e)⟩
  | .ins _ _, ⟨dx, vs, h, r⟩ => ⟨_, h, (fun _ e => by cases e), (fun _ _ e => by cases e)⟩
  | .dK _, ⟨xs, h, r⟩ => ⟨_, h, (fun _ e => by cases e), (fun _ _ e => by cases e)⟩
  | .dT _, ⟨xs, h, r⟩ => ⟨_, h, (fun _ e => by cases e), (fun _ _ e => by cases e)⟩
  | .tbl _, ⟨ps, h, _⟩ => ⟨_, h, (fun _ e => by cases e), (fun _ _ e => by cases e)⟩
  | .xd _ _, h => ⟨_, h, (fun _ e => by cases e), (fun _ _ e => by cases e)⟩
section
variable {B : Bs} {K : PySem.W.Frag} {F H F0 : Hp} {σ : L2.St} {G : Sl} {M : Mem}
/-- one more thing of the heap is known to stay -/
theorem R.know {a : Addr} {u : HO} (r : R B K F σ H G M) (h : H a = some u) (hu : (∃ xs, u = .tup xs) ∨ ∃ ob w, u = .frz ob w) : ∃ F2, Same F F2 ∧ R B K F2 σ H G M ∧ F2 a = some u := by
  cases e : F a with
  | some w =>
    have h2 := r.ex a w e
    rw [h] at h2
    cases h2
    exact ⟨F, Same.refl F, r, e⟩
  | none =>
    refine ⟨upd F a u, Same.upd_new e, R.grow (Same.upd_new e) (fun b w q => ?_) (fun b o q => ?_) r, upd_same⟩
    · by_cases hb : b = a
      · subst hb; rw [upd_same] at q; cases q; exact h
      · rw [upd_ne hb] at q; exact r.ex b w q
    · have hb : b ≠ a := fun z => by
        subst z
        obtain ⟨w, hw, k1, k2⟩ := (r.mem b o q).2.kind
        rw [h] at hw; cases hw
        rcases hu with ⟨xs, z⟩ | ⟨ob, w, z⟩
        · exact k1 xs z
        · exact k2 ob w z
      rw [upd_ne hb]; exact (r.mem b o q).1
mutual
theorem Rp.take_in (s : Same F0 H) : ∀ {v : V} {d : D}, Rp K F0 v d → d.imm = true → ∀ {F : Hp}, R B K F σ H G M → ∃ F2, Same F F2 ∧ R B K F2 σ H G M ∧ Rp K F2 v d
  | _, _, .non, _, F, r => ⟨F, Same.refl F, r, .non⟩
  | _, _, .bl b, _, F, r => ⟨F, Same.refl F, r, .bl b⟩
  | _, _, .int b, _, F, r => ⟨F, Same.refl F, r, .int b⟩
  | _, _, .str b, _, F, r => ⟨F, Same.refl F, r, .str b⟩
  | _, _, .ty b, _, F, r => ⟨F, Same.refl F, r, .ty b⟩
  | _, _, .ref _, h, _, _ => by unfold D.imm at h; cases h
  | _, _, .lst _ _, h, _, _ => by unfold D.imm at h; cases h
  | _, _, .fzl _ _, h, _, _ => by unfold D.imm at h; cases h
  | _, _, .dK _ _, h, _, _ => by unfold D.imm at h; cases h
  | _, _, .dT _ _, h, _, _ => by unfold D.imm at h; cases h
  | _, _, .tup hs rs, h, F, r => by
    unfold D.imm at h
    obtain ⟨F1, s1, r1, p1⟩ := RpAll.take_in s rs h r
    rcases hs with (hs | ⟨ob, hs⟩) | hs
    · obtain ⟨F2, s2, r2, e2⟩ := r1.know (s _ _ hs) (.inl ⟨_, rfl⟩)
      exact ⟨F2, s1.trans s2, r2, .tup (.inl (.inl e2)) (p1.mono s2)⟩
    · obtain ⟨F2, s2, r2, e2⟩ := r1.know (s _ _ hs) (.inr ⟨_, _, rfl⟩)
      exact ⟨F2, s1.trans s2, r2, .tup (.inl (.inr ⟨ob, e2⟩)) (p1.mono s2)⟩
    · exact ⟨F1, s1, r1, .tup (.inr hs) p1⟩
theorem RpAll.take_in (s : Same F0 H) : ∀ {vs : List V} {ds : List D}, RpAll K F0 vs ds → imms ds = true → ∀ {F : Hp}, R B K F σ H G M → ∃ F2, Same F F2 ∧ R B K F2 σ H G M ∧ RpAll K F2 vs ds
  | _, _, .nil, _, F, r => ⟨F, Same.refl F, r, .nil⟩
  | _, _, .cons p t, h, F, r => by
    unfold imms at h
    obtain ⟨h1, h2⟩ := Bool.and_eq_true_iff.mp h
    obtain ⟨F1, s1, r1, p1⟩ := Rp.take_in s p h1 r
    obtain ⟨F2, s2, r2, p2⟩ := RpAll.take_in s t h2 r1
    exact ⟨F2, s1.trans s2, r2, .cons (p1.mono s2) p2⟩
end
end
abbrev noM : Mem := fun _ => none
section
variable {B : Bs} {X : Cx} {a b c e o : Expr} {es : List Expr} {G : Sl} {M : Mem} {Q : D → Mem → Prop} {pos p : Pos} {F F1 : Hp} {σ : L2.St} {k : Nat} {x : Str} {sp : DSp}
/-- append to a list cell -/
theorem mx_append {l : Addr} {ds : List D} {d : D} (hm : M l = some (.lst ds)) (hl : ds.length < sizeLine) (q : Q .non (mupd M l (.lst (ds ++ [d])))) : MX B X "list.append" (.ref l) [d] G M Q := fun F σ H Q' v vs r p1 pa kk => by
  obtain ⟨v2, rfl, rp⟩ := rp1 pa
  cases p1
  obtain ⟨_, xs, hx, rx⟩ := r.mem l _ hm
  exact WM.of mt_append ⟨l, xs, v2, rfl, rfl, hx, by rw [rx.length]; exact hl, kk _ _ F _ _ q (Same.refl F) (r.write hm ⟨_, upd_same, rx.append (.cons rp .nil)⟩) .non⟩
/-- a method of a built-in list, with arguments; the receiver a cell -/
theorem ex_bmC {name : Str} {id : String} {apos : Pos} (slot : Slot "list" name id) (hty : typeOf (.builtin id) = pure (.type "method_descriptor"))
    (hbase : attributeBase o name X.env (eval o X.env) = eval o X.env)
    (hfew : ((backTo pos (starEach (e :: es) X.env)).all (fun x => !x.1) && (backToKw pos (keywordEach [] X.env)).all (fun x => x.1.isSome)
      && decide ((e :: es).length + ([] : List Keyword).length + (if ([] : List Keyword).isEmpty then 0 else 1) < 30)) = true)
    (hline : (apos.endLine == pos.line) = true) (hs : starEach (e :: es) X.env = (false, eval e X.env) :: starEach es X.env) (hplain : (backTo pos (starEach es X.env)).any (·.1) = false)
    (h : EX B X o G M fun d M1 => ∃ l ds, d = .ref l ∧ M1 l = some (.lst ds) ∧ AX B X (e :: es) G M1 fun xs M2 => MX B X id (.ref l) xs G M2 Q) : EX B X (.Call (.Attribute o name apos) (e :: es) [] pos) G M Q := fun F σ H Q' r kk =>
  WE.of (pe_bm PySem.F.plainAttrs_list slot hty mt_wm pe_we pa_wa hbase hfew hline hs hplain) (h F σ H _ r fun v1 H1 F1 d1 M1 ⟨l, ds, e1, hm, q1⟩ s1 r1 p1 => by
    subst e1
    cases p1
    obtain ⟨_, xs, hx, rx⟩ := r1.mem l _ hm
    exact ⟨.inl ⟨rfl, xs, .inl (.inl hx)⟩, q1 F1 σ H1 _ r1 fun vs H2 F2 ds2 M2 q2 s2 r2 p2 => q2 F2 σ H2 Q' _ vs r2 (.ref l) p2 (kk.mono (s1.trans s2))⟩)
/-- l.append(e), l a cell -/
theorem ex_append {apos : Pos} (hbase : attributeBase o "append" X.env (eval o X.env) = eval o X.env)
    (hfew : ((backTo pos (starEach [e] X.env)).all (fun x => !x.1) && (backToKw pos (keywordEach [] X.env)).all (fun x => x.1.isSome)
      && decide ([e].length + ([] : List Keyword).length + (if ([] : List Keyword).isEmpty then 0 else 1) < 30)) = true)
    (hline : (apos.endLine == pos.line) = true) (hs : starEach [e] X.env = (false, eval e X.env) :: starEach [] X.env) (hplain : (backTo pos (starEach [] X.env)).any (·.1) = false)
    (h : EX B X o G M fun d M1 => ∃ l ds0, d = .ref l ∧ M1 l = some (.lst ds0) ∧ EX B X e G M1 fun y M2 => ∃ ds, M2 l = some (.lst ds) ∧ ds.length < sizeLine ∧ Q .non (mupd M2 l (.lst (ds ++ [y])))) : EX B X (.Call (.Attribute o "append" apos) [e] [] pos) G M Q :=
  ex_bmC PySem.F.slot_list_append PySem.F.type_list_append hbase hfew hline hs hplain (h.imp fun d M1 ⟨l, ds0, e1, hm, q⟩ => ⟨l, ds0, e1, hm, ax_cons hs (q.imp fun y M2 ⟨ds, h2, hl, q2⟩ => ax_nil (mx_append h2 hl q2))⟩)
end
end FL
namespace FL
open PySem PySem.Spec PyProof.Rows L2
section
variable {B : Bs} {X : Cx} {a b c e o tg iter elt : Expr} {es : List Expr} {G G' : Sl} {M M' : Mem} {Q : D → Mem → Prop} {E : En} {pos p pos' : Pos} {F F1 : Hp} {σ : L2.St}
/-- a comprehension that changes no cell: f tells what an item comes to -/
def LcP (B : Bs) (X : Cx) (scope : Scope) (own : List Nat) (t : Tg) (ifs : List Expr) (elt : Expr) (G : Sl) (ds : List D) (M1 : Mem) (f : D → Option D) : Prop :=
  ds.length < sizeLine ∧ ∀ (d : D) (M' : Mem), d ∈ ds → (∀ a o, M1 a = some o → M' a = some o) → TgD t d fun dvs => Bk X scope fun X' => TXs B X' ifs (gsetAll (gwipe G own) t.slots dvs) M' fun b M3 =>
      if b = true then Bk X scope fun X2 => EX B X2 elt (gsetAll (gwipe G own) t.slots dvs) M3 fun y M4 => M4 = M' ∧ f d = some y else M3 = M' ∧ f d = none
theorem ex_lcp {scope : Scope} {own : List (Str × Nat)} {t : Tg} {ifs : List Expr} (f : D → Option D) (hc : X.calm = true) (hN : X.N.Nodup) (ok : BlkOk X.N X.env.scope scope own) (ht : ∀ i ∈ t.slots, i ∈ own.map (·.2))
    (hg : Bk X scope fun X' => PG X' tg (gTg X.K t)) (hs : ∀ x, foldedSetIterable iter X.env x = pure x)
    (h : LX B X tg iter G M fun ds M1 => LcP B X scope (own.map (·.2)) t ifs elt G ds M1 f ∧ Q (.lst (ds.filterMap f)) M1) : EX B X (.ListComp elt [⟨tg, iter, ifs, 0⟩] scope pos) G M Q :=
  ex_lc (Q := Q) hc hN ok ht hg hs fun F σ H R' r k => h F σ H R' r fun J H' F' ds M1 ⟨lp, q⟩ s r' w => k J H' F' ds M1 (lc_pure (fin := fun acc M2 => Q (.lst acc) M2) f lp.1 (fun i d M' hd hm => lp.2 d M' (List.mem_of_getElem? hd) hm) q) s r' w
/-- .. its list a cell -/
theorem ex_lcpM {scope : Scope} {own : List (Str × Nat)} {t : Tg} {ifs : List Expr} (f : D → Option D) (hc : X.calm = true) (hN : X.N.Nodup) (ok : BlkOk X.N X.env.scope scope own) (ht : ∀ i ∈ t.slots, i ∈ own.map (·.2))
    (hg : Bk X scope fun X' => PG X' tg (gTg X.K t)) (hs : ∀ x, foldedSetIterable iter X.env x = pure x)
    (h : LX B X tg iter G M fun ds M1 => LcP B X scope (own.map (·.2)) t ifs elt G ds M1 f ∧ ∀ l, M1 l = none → Q (.ref l) (mupd M1 l (.lst (ds.filterMap f)))) : EX B X (.ListComp elt [⟨tg, iter, ifs, 0⟩] scope pos) G M Q :=
  ex_lcM (Q := Q) hc hN ok ht hg hs fun F σ H R' r k => h F σ H R' r fun J H' F' ds M1 ⟨lp, q⟩ s r' w => k J H' F' ds M1 (fun L hL => by
    obtain ⟨I, i0, turn, fin⟩ := lc_pure (fin := fun acc M2 => acc = ds.filterMap f ∧ M2 = M1) f lp.1 (fun i d M' hd hm => lp.2 d M' (List.mem_of_getElem? hd) hm) ⟨rfl, rfl⟩ L hL
    refine ⟨I, i0, turn, fun acc M' hI hM => ?_⟩
    obtain ⟨ea, eM⟩ := fin acc M' hI hM
    have e2 : M' = mupd M1 L (.lst acc) := by
      funext b
      unfold mupd
      by_cases hb : b = L
      · subst hb; rw [if_pos rfl]; exact hM
      · rw [if_neg hb, ← eM]; unfold mdel; rw [if_neg hb]
    rw [e2, ea]
    exact q L hL) s r' w
/-- name = a comprehension that changes no cell -/
theorem sx_setLcp {i : Nat} {y : Str} {py spos : Pos} {scope : Scope} {own : List (Str × Nat)} {t : Tg} {ifs : List Expr} (f : D → Option D) (hc : X.calm = true) (hN : X.N.Nodup) (hy : X.N[i]? = some y) (hyl : X.env.scope.names.lookup y = some .local)
    (hsw : swapsWith (.ListComp elt [⟨tg, iter, ifs, 0⟩] scope pos) (some (.Name y py)) spos.line X.env = pure true) (ok : BlkOk X.N X.env.scope scope own) (ht : ∀ i ∈ t.slots, i ∈ own.map (·.2))
    (hg : Bk X scope fun X' => PG X' tg (gTg X.K t)) (hs : ∀ x, foldedSetIterable iter X.env x = pure x)
    (h : LX B X tg iter G M fun ds M1 => LcP B X scope (own.map (·.2)) t ifs elt G ds M1 f ∧ E.nx (G.set i (some (.lst (ds.filterMap f)))) M1) : SX B X (.Assign [.Name y py] (.ListComp elt [⟨tg, iter, ifs, 0⟩] scope pos) spos) E G M :=
  sx_setLc hc hN hy hyl hsw ok ht hg hs fun F σ H R' r k => h F σ H R' r fun J H' F' ds M1 ⟨lp, q⟩ s r' w => k J H' F' ds M1 (lc_pure (fin := fun acc M2 => E.nx (G.set i (some (.lst acc))) M2) f lp.1 (fun i d M' hd hm => lp.2 d M' (List.mem_of_getElem? hd) hm) q) s r' w
end
theorem txs_nil {B : Bs} {X : Cx} {G : Sl} {M : Mem} {Q : Bool → Mem → Prop} (h : Q true M) : TXs B X [] G M Q := h
theorem txs_one {B : Bs} {X : Cx} {c : Expr} {G : Sl} {M : Mem} {Q : Bool → Mem → Prop} (h : TX B X c G M Q) : TXs B X [c] G M Q := h
/-! ### typed lists -/
theorem filterMap_enc {α : Type} {enc : α → D} {f : D → Option D} {g : α → D} : ∀ {xs : List α}, (∀ x ∈ xs, f (enc x) = some (g x)) → (xs.map enc).filterMap f = xs.map g
  | [], _ => rfl
  | x :: xs, h => by
    rw [List.map_cons, List.filterMap_cons, h x (by simp), List.map_cons, filterMap_enc fun y hy => h y (List.mem_cons_of_mem _ hy)]
end FL
/-! == of data that may be laid -/
namespace FL
open PySem PySem.Spec PyProof.Rows L2
mutual
def D.okE : D → Bool
  | .non => true | .bl _ => true | .int _ => true | .str x => PyData.strOk x | .tup ds => okEs ds | .lst ds => okEs ds
  | .ref _ => false | .ty _ => false | .dK _ => false | .dT _ => false | .fzl _ => false
def okEs : List D → Bool
  | [] => true
  | d :: ds => d.okE && okEs ds
end
mutual
def D.dep : D → Nat
  | .tup ds => deps ds + 1 | .lst ds => deps ds + 1
  | .non => 0 | .bl _ => 0 | .int _ => 0 | .str _ => 0 | .ref _ => 0 | .ty _ => 0 | .dK _ => 0 | .dT _ => 0 | .fzl _ => 0
def deps : List D → Nat
  | [] => 0
  | d :: ds => max d.dep (deps ds)
end
mutual
theorem okE_py : ∀ d : D, d.okE = true → d.isPy = true ∧ d.py.canLay0 = true
  | .non, _ => ⟨by unfold D.isPy; rfl, by unfold D.py; rfl⟩
  | .bl _, _ => ⟨by unfold D.isPy; rfl, by unfold D.py; rfl⟩
  | .int _, _ => ⟨by unfold D.isPy; rfl, by unfold D.py; rfl⟩
  | .str x, h => ⟨by unfold D.isPy; rfl, by unfold D.okE at h; unfold D.py PyData.canLay0; exact h⟩
  | .tup ds, h => by
    unfold D.okE at h
    unfold D.isPy D.py PyData.canLay0
    exact okEs_py ds h
  | .lst ds, h => by
    unfold D.okE at h
    unfold D.isPy D.py PyData.canLay0
    exact okEs_py ds h
  | .ref _, h => by unfold D.okE at h; cases h
  | .fzl _, h => by unfold D.okE at h; cases h
  | .ty _, h => by unfold D.okE at h; cases h
  | .dK _, h => by unfold D.okE at h; cases h
  | .dT _, h => by unfold D.okE at h; cases h
theorem okEs_py : ∀ ds : List D, okEs ds = true → arePy ds = true ∧ PyData.canLayAll0 (pys ds) = true
  | [], _ => ⟨by unfold arePy; rfl, by unfold pys PyData.canLayAll0; rfl⟩
  | d :: ds, h => by
    unfold okEs at h
    obtain ⟨h1, h2⟩ := Bool.and_eq_true_iff.mp h
    obtain ⟨a1, a2⟩ := okE_py d h1
    obtain ⟨b1, b2⟩ := okEs_py ds h2
    unfold arePy pys PyData.canLayAll0
    rw [a1, b1, a2, b2]
    exact ⟨rfl, rfl⟩
end
mutual
theorem dep_py : ∀ d : D, d.py.depth ≤ d.dep
  | .non => by unfold D.py PyData.depth; exact Nat.zero_le _
  | .bl _ => by unfold D.py PyData.depth; exact Nat.zero_le _
  | .int _ => by unfold D.py PyData.depth; exact Nat.zero_le _
  | .str _ => by unfold D.py PyData.depth; exact Nat.zero_le _
  | .ref _ => by unfold D.py PyData.depth; exact Nat.zero_le _
  | .fzl _ => by unfold D.py PyData.depth; exact Nat.zero_le _
  | .ty _ => by unfold D.py PyData.depth; exact Nat.zero_le _
  | .dK _ => by unfold D.py PyData.depth; exact Nat.zero_le _
  | .dT _ => by unfold D.py PyData.depth; exact Nat.zero_le _
  | .tup ds => by unfold D.py PyData.depth D.dep; exact Nat.succ_le_succ (deps_py ds)
  | .lst ds => by unfold D.py PyData.depth D.dep; exact Nat.succ_le_succ (deps_py ds)
theorem deps_py : ∀ ds : List D, PyData.depthAll (pys ds) ≤ deps ds
  | [] => by unfold pys PyData.depthAll; exact Nat.zero_le _
  | d :: ds => by
    have h1 := dep_py d
    have h2 := deps_py ds
    unfold pys PyData.depthAll deps
    omega
end
theorem okEq_of {d : D} (h : d.okE = true) (hd : d.dep ≤ 64) : d.okEq = true := by
  obtain ⟨h1, h2⟩ := okE_py d h
  have h3 := dep_py d
  unfold D.okEq SeqAt.shaped
  rw [h1, h2, decide_eq_true (Nat.le_trans h3 hd)]
  rfl
theorem okEs_all {ds : List D} : okEs ds = true ↔ ∀ d ∈ ds, d.okE = true := by
  induction ds with
  | nil => unfold okEs; simp
  | cons d ds ih => unfold okEs; rw [Bool.and_eq_true_iff, ih]; simp
theorem deps_le {ds : List D} {n : Nat} : deps ds ≤ n ↔ ∀ d ∈ ds, d.dep ≤ n := by
  induction ds with
  | nil => unfold deps; simp
  | cons d ds ih =>
    unfold deps
    rw [Nat.max_le, ih]
    simp
theorem okEq_lst {ds : List D} {n : Nat} (h : ∀ d ∈ ds, d.okE = true ∧ d.dep ≤ n) (hn : n < 64) : (D.lst ds).okEq = true := by
  refine okEq_of ?_ ?_
  · unfold D.okE; exact okEs_all.mpr fun d hd => (h d hd).1
  · unfold D.dep
    have := deps_le.mpr fun d hd => (h d hd).2
    omega
theorem okEq_tup {ds : List D} {n : Nat} (h : ∀ d ∈ ds, d.okE = true ∧ d.dep ≤ n) (hn : n < 64) : (D.tup ds).okEq = true := by
  refine okEq_of ?_ ?_
  · unfold D.okE; exact okEs_all.mpr fun d hd => (h d hd).1
  · unfold D.dep
    have := deps_le.mpr fun d hd => (h d hd).2
    omega
theorem okEq_nil : (D.lst []).okEq = true := okEq_lst (n := 0) (by simp) (by decide)
def eqDs (ds es : List D) : Bool := PyData.eqvAll (pys ds) (pys es)
theorem eqD_lst (ds es : List D) : eqD (.lst ds) (.lst es) = eqDs ds es := by unfold eqD D.py PyData.eqv; rfl
theorem eqD_tup (ds es : List D) : eqD (.tup ds) (.tup es) = eqDs ds es := by unfold eqD D.py PyData.eqv; rfl
theorem eqD_str (x y : Str) : eqD (.str x) (.str y) = (x == y) := by unfold eqD D.py PyData.eqv; rfl
theorem eqDs_nil : eqDs [] [] = true := by unfold eqDs pys PyData.eqvAll; rfl
theorem eqDs_cons (d e : D) (ds es : List D) : eqDs (d :: ds) (e :: es) = (eqD d e && eqDs ds es) := by unfold eqDs; rw [pys, pys, PyData.eqvAll]; rfl
theorem eqDs_cn (d : D) (ds : List D) : eqDs (d :: ds) [] = false := by unfold eqDs; rw [pys, pys, PyData.eqvAll]
theorem eqDs_nc (d : D) (ds : List D) : eqDs [] (d :: ds) = false := by unfold eqDs; rw [pys, pys, PyData.eqvAll]
theorem eqDs_nil_r : ∀ ds : List D, eqDs ds [] = ds.isEmpty
  | [] => eqDs_nil
  | d :: ds => eqDs_cn d ds
theorem eqDs_enc {α : Type} [DecidableEq α] {enc : α → D} (h : ∀ x y, eqD (enc x) (enc y) = decide (x = y)) : ∀ xs ys : List α, eqDs (xs.map enc) (ys.map enc) = decide (xs = ys)
  | [], [] => eqDs_nil
  | [], y :: ys => by rw [List.map_cons]; exact (eqDs_nc _ _).trans (decide_eq_false (by simp)).symm
  | x :: xs, [] => by rw [List.map_cons]; exact (eqDs_cn _ _).trans (decide_eq_false (by simp)).symm
  | x :: xs, y :: ys => by
    rw [List.map_cons, List.map_cons, eqDs_cons, h, eqDs_enc h xs ys]
    by_cases e1 : x = y
    · by_cases e2 : xs = ys <;> simp [e1, e2]
    · simp [e1]
theorem eqD_str' (x y : Str) : eqD (.str x) (.str y) = decide (x = y) := by rw [eqD_str]; exact Bool.beq_eq_decide_eq x y
section
variable {B : Bs} {X : Cx} {G : Sl} {M : Mem} {Q : D → Mem → Prop} {d : D} {pos : Pos}
/-- compared with [] -/
theorem ex_cmp0 {op : CmpOp} (h : OX B X (compareOp op) d (.lst []) G M Q) : EX B X (.List [] pos) G M fun y M2 => OX B X (compareOp op) d y G M2 Q := ex_lst (ax_nil ⟨Nat.zero_le _, h⟩)
theorem ox_ne0 {ds : List D} {n : Nat} (hu : X.A.units + 64 < cLine) (h : ∀ d ∈ ds, d.okE = true ∧ d.dep ≤ n) (hn : n < 64) (q : Q (.bl (!ds.isEmpty)) M) : OX B X (compareOp .NotEq) (.lst ds) (.lst []) G M Q :=
  ox_neD hu (okEq_lst h hn) okEq_nil (by rw [eqD_lst, eqDs_nil_r]; exact q)
theorem ox_eq0 {ds : List D} {n : Nat} (hu : X.A.units + 64 < cLine) (h : ∀ d ∈ ds, d.okE = true ∧ d.dep ≤ n) (hn : n < 64) (q : Q (.bl ds.isEmpty) M) : OX B X (compareOp .Eq) (.lst ds) (.lst []) G M Q :=
  ox_eqD hu (okEq_lst h hn) okEq_nil (by rw [eqD_lst, eqDs_nil_r]; exact q)
end
end FL
/-! the head by facts, over data -/
namespace FL
open PySem PySem.Spec PyProof.Rows L2
theorem fun_of {K : PySem.W.Frag} {x qual : Str} {st : Stmt} {f : Addr} {fd : FuncData} (F : FunD K x qual (defArgs st) (defBody st) (defScope st) [] [] f fd) : Fun K x qual st f fd := by
  obtain ⟨oc, od, dV, kV, doc, pm, an, cdv, ct, osl, e, lk, hcd, hD, hK⟩ := F.ex
  rcases hD with ⟨_, rfl⟩ | ⟨z, _⟩
  · exact ⟨⟨oc, od, kV, doc, pm, an, cdv, ct, osl, e, lk, hcd⟩, F.kp⟩
  · exact absurd rfl z
def defAt (p : Str × Option Str) (name qual : Str) (st : Stmt) : He.DefD := ⟨p, name, qual, defArgs st, defBody st, defScope st, [], []⟩
section
variable {K : PySem.W.Frag} {h : Heap} {mg : Str → Option Value} (X : K.In h) (G : h.Ns mainGlobals mg)
include X G
theorem cst_int {x : Str} {i : Int} (c : (He.Fa.int x i).ok K = true) : Cst K mg x (.int i) := by
  obtain ⟨t, e⟩ := He.int_ok X G c
  exact ⟨_, .int i, e, ⟨t, rfl⟩, fun F => .int i⟩
end
theorem dfn_mk {P : Program} {w : World} {K : PySem.W.Frag} {mg : Str → Option Value} {base : Heap} {k : Nat} {x : Str} {sp : DSp} {f : Addr} {fd : FuncData} {ps : List Str} (h : FnOk P w K mg base CX0 k f fd ps (lift K sp)) (g : mg x = some (.ref f)) (kp : PySem.W.keepIn K (.ref f) = true) (b : Binds K fd ps []) : Dfn P w K mg base k x sp := ⟨f, fd, ps, h, g, kp, b⟩
end FL
namespace FL
open PySem PySem.Spec PyProof.Rows L2
theorem dep_tup {ds : List D} {n : Nat} : (D.tup ds).dep ≤ n ↔ 1 ≤ n ∧ ∀ d ∈ ds, d.dep ≤ n - 1 := by
  have e : (D.tup ds).dep = deps ds + 1 := by unfold D.dep; rfl
  rw [e, ← deps_le]
  omega
theorem dep_lst {ds : List D} {n : Nat} : (D.lst ds).dep ≤ n ↔ 1 ≤ n ∧ ∀ d ∈ ds, d.dep ≤ n - 1 := by
  have e : (D.lst ds).dep = deps ds + 1 := by unfold D.dep; rfl
  rw [e, ← deps_le]
  omega
theorem filterMap_none {ds : List D} : ds.filterMap (fun _ => (none : Option D)) = [] := by
  induction ds with
  | nil => rfl
  | cons d ds ih => simpa using ih
section
variable {CX : CXT} {P : Program} {w : World} {K : PySem.W.Frag} {mg : Str → Option Value} {base : Heap} {N : List Str} {qual : Str} {sc : Scope} {f : Addr} {cdv : Value} {A : Around} {outer : List Env} {s : Shared} {H : Hp} {E : XK} {x : Str}
theorem Blt.fn {v : Value} (m : mg x = none) (g : Gl (cxOf CX P w K mg base N qual sc f cdv A outer s H E).nox x) (b : bootBuiltins x = some v) (n : x ≠ "__name__" := by decide) (d : (x == ("__debug__" : Str)) = false := by decide) : Blt (cxOf CX P w K mg base N qual sc f cdv A outer s H E).nox x v := ⟨g, m, b, n, d⟩
theorem Gb.fn {d : D} (m : Cst K mg x d) (g : Gl (cxOf CX P w K mg base N qual sc f cdv A outer s H E).nox x) (hd : (x == ("__debug__" : Str)) = false := by decide) : Gb (cxOf CX P w K mg base N qual sc f cdv A outer s H E).nox x d := ⟨g, m, hd⟩
theorem Dfn.fn {k : Nat} {sp : DSp} (h : Dfn P w K mg base k x sp) : Dfn (cxOf CX P w K mg base N qual sc f cdv A outer s H E).nox.prog (cxOf CX P w K mg base N qual sc f cdv A outer s H E).nox.w (cxOf CX P w K mg base N qual sc f cdv A outer s H E).nox.K (cxOf CX P w K mg base N qual sc f cdv A outer s H E).nox.mg (cxOf CX P w K mg base N qual sc f cdv A outer s H E).nox.base k x sp := h
variable {s1 : Shared} {H1 : Hp} {sc1 : Scope} {cenv : Env} {fp : List Addr}
theorem Blt.fnb {v : Value} (m : mg x = none) (g : Gl ((cxOf CX P w K mg base N qual sc f cdv A outer s H E).nox.blk s1 H1 sc1 cenv fp) x) (b : bootBuiltins x = some v) (n : x ≠ "__name__" := by decide) (d : (x == ("__debug__" : Str)) = false := by decide) : Blt ((cxOf CX P w K mg base N qual sc f cdv A outer s H E).nox.blk s1 H1 sc1 cenv fp) x v := ⟨g, m, b, n, d⟩
theorem Gb.fnb {d : D} (m : Cst K mg x d) (g : Gl ((cxOf CX P w K mg base N qual sc f cdv A outer s H E).nox.blk s1 H1 sc1 cenv fp) x) (hd : (x == ("__debug__" : Str)) = false := by decide) : Gb ((cxOf CX P w K mg base N qual sc f cdv A outer s H E).nox.blk s1 H1 sc1 cenv fp) x d := ⟨g, m, hd⟩
theorem Dfn.fnb {k : Nat} {sp : DSp} (h : Dfn P w K mg base k x sp) : Dfn ((cxOf CX P w K mg base N qual sc f cdv A outer s H E).nox.blk s1 H1 sc1 cenv fp).prog ((cxOf CX P w K mg base N qual sc f cdv A outer s H E).nox.blk s1 H1 sc1 cenv fp).w ((cxOf CX P w K mg base N qual sc f cdv A outer s H E).nox.blk s1 H1 sc1 cenv fp).K ((cxOf CX P w K mg base N qual sc f cdv A outer s H E).nox.blk s1 H1 sc1 cenv fp).mg ((cxOf CX P w K mg base N qual sc f cdv A outer s H E).nox.blk s1 H1 sc1 cenv fp).base k x sp := h
end
theorem Dfn.blk {X : Cx} {k : Nat} {x : Str} {sp : DSp} {s : Shared} {H : Hp} {scope : Scope} {cenv : Env} {fp : List Addr} (h : Dfn X.prog X.w X.K X.mg X.base k x sp) : Dfn (X.blk s H scope cenv fp).prog (X.blk s H scope cenv fp).w (X.blk s H scope cenv fp).K (X.blk s H scope cenv fp).mg (X.blk s H scope cenv fp).base k x sp := h
section
variable {B : Bs} {X : Cx} {G : Sl} {M : Mem} {Q : D → Mem → Prop}
theorem ex_subL {es : List Expr} {b : Expr} {p pos : Pos} (hs : PlainIx b) (h : AX B X es G M fun xs M1 => xs.length ≤ sizeLine ∧ EX B X b G M1 fun y M2 => IX B X (.lst xs) y G M2 Q) : EX B X (.Subscript (.List es p) b pos) G M Q := ex_sub hs (ex_lst h)
/-- an item at a drawn place -/
theorem ix_lm {ds : List D} {i : Int} (h0 : 0 ≤ i) (h1 : i < ds.length) (q : ∀ d, d ∈ ds → Q d M) : IX B X (.lst ds) (.int i) G M Q := by
  obtain ⟨j, rfl⟩ : ∃ j : Nat, i = (j : Int) := ⟨i.toNat, by omega⟩
  have hj : j < ds.length := by omega
  exact ix_l (d := ds[j]) (atI_of rfl (List.getElem?_eq_getElem hj)) (q _ (List.getElem_mem hj))
theorem ix_li {ns : List Int} {i : Int} (h0 : 0 ≤ i) (h1 : i < ns.length) (q : ∀ n, n ∈ ns → Q (.int n) M) : IX B X (.lst (ns.map D.int)) (.int i) G M Q :=
  ix_lm h0 (by rw [List.length_map]; exact h1) fun d hd => by
    obtain ⟨n, hn, rfl⟩ := List.mem_map.mp hd
    exact q n hn
end
end FL
namespace FL
open PySem PySem.Spec PyProof.Rows L2
/-- the promise of a def that only reads the cells, and tells what is immutable -/
def roSp (sp : DSp) : DSp := fun ds M Q => ∃ es Qd, DeepAll M ds es ∧ sp es noM Qd ∧ ∀ d M', Qd d M' → d.imm = true ∧ Q d M
theorem lift_roSp {K : PySem.W.Frag} {sp : DSp} {vs : List V} {H : Hp} {Q : VK} {E : XK} (h : lift K (roSp sp) vs H Q E) : lift K sp vs H Q E := by
  obtain ⟨F, ds, M, Qd, p, ex, me, ⟨es, Qe, dp, q, hq⟩, kk⟩ := h
  have r : R ⟨F, M, H⟩ K F [] H [] M := ⟨⟨rfl, by simp⟩, ex, me, Same.refl F, Kp.refl M H⟩
  refine ⟨H, es, noM, Qe, dp.rp r p, Same.refl H, (fun _ _ z => by cases z), q, fun d M' qd v H' F' s' k' e' m' rp => ?_⟩
  obtain ⟨hi, hd⟩ := hq d M' qd
  have hs : Same H H' := fun a u h => (k' a u h rfl).1
  obtain ⟨F2, s2, r2, p2⟩ := rp.take_in e' hi (r.heap hs)
  exact kk d M hd v H' F2 r2.bf r2.bk r2.ex r2.mem p2
theorem Dfn.ro {P : Program} {w : World} {K : PySem.W.Frag} {mg : Str → Option Value} {base : Heap} {k : Nat} {x : Str} {sp : DSp} (h : Dfn P w K mg base k x sp) : Dfn P w K mg base k x (roSp sp) := by
  obtain ⟨f, fd, ps, F, m, kp, b⟩ := h.ex
  exact ⟨f, fd, ps, F.imp fun vs H Q E h => lift_roSp h, m, kp, b⟩
theorem ro1 {sp : DSp} {ds es : List D} {M : Mem} {Q : D → Mem → Prop} (d0 : D) (dp : DeepAll M ds es) (q : sp es noM fun d _ => d = d0) (hi : d0.imm = true) (k : Q d0 M) : roSp sp ds M Q :=
  ⟨es, _, dp, q, fun d M' e => by subst e; exact ⟨hi, k⟩⟩
theorem eqD_self {d : D} (h : d.okE = true) : eqD d d = true := SeqAt.eqv_refl _ (okE_py d h).2
end FL
/-! enumerate over a tuple -/
namespace FL
open PySem PySem.Spec PyProof.Rows L2
set_option maxHeartbeats 1000000 in
theorem newEnum1 {v : Value} {ob : Obj} {Hh : Heap → Prop} (Bg : Begins v ob Hh) :
    Meets (Builtin.«enumerate.__new__» ⟨[.type "enumerate", v], []⟩) (fun _ R s => Hh s.heap ∧
      R (.ok (.ret (.ref (s.heap.push ob).objs.size))) { s with heap := (s.heap.push ob).push { cls := .type "enumerate", data := .fields #[.none, .bool false, .ref s.heap.objs.size, rawInt 0, .none, .none] } }) :=
  .of_wp fun prog w A R s h => by
    obtain ⟨hp, g, d, tk, os⟩ := s
    obtain ⟨h1, h⟩ := h
    have hsub := sub_enumerate
    have q1 : ∀ {A' : Around} {E : Value → Shared → Prop} {Q : Value → Shared → Prop}, Q (.ref hp.objs.size) ⟨hp.push ob, g, d, tk, os⟩ → wpAny (model prog w) A' (pyIter v) Q E ⟨hp, g, d, tk, os⟩ := fun q => Bg.iter prog w _ _ ⟨hp, g, d, tk, os⟩ _ h1 q
    wp_walk using q1
    refine wpAny_stack_any fun st => wpAny_pure ?_
    split
    · rename_i c _ _ _ _ _
      cases (c == Value.type "enumerate") <;> (wp_walk using q1; exact ⟨_, rfl, h⟩)
    · wp_walk using q1; exact ⟨_, rfl, h⟩
theorem callEnum1 {prog : Program} {w : World} {A : Around} {E : Value → Shared → Prop} {s : Shared} {v : Value} {ob : Obj} {Hh : Heap → Prop} {Q : Value → Shared → Prop} (Bg : Begins v ob Hh) (h1 : Hh s.heap)
    (h : ∀ h', IsEnum h' (s.heap.objs.size + 1) s.heap.objs.size 0 .none → h'.get? s.heap.objs.size = some ob → h'.objs.size = s.heap.objs.size + 2 → (∀ b o, s.heap.get? b = some o → h'.get? b = some o) → Q (.ref (s.heap.objs.size + 1)) { s with heap := h' }) :
    wpAny (model prog w) A (call (.type "enumerate") [v]) Q E s := by
  refine callType_new F.called_enumerate (by decide) (F.typeCall_enumerate_1 _) (F.newCall_enumerate_1 _) (fun obj => F.args_object_init_2 obj _) F.entry_enumerate_new (newEnum1 Bg) ⟨h1, ?_⟩
  have hz : (s.heap.push ob).objs.size = s.heap.objs.size + 1 := Heap.size_push ..
  show _ ∧ _
  rw [hz]
  have he : IsEnum ((s.heap.push ob).push { cls := .type "enumerate", data := .fields #[.none, .bool false, .ref s.heap.objs.size, rawInt 0, .none, .none] }) (s.heap.objs.size + 1) s.heap.objs.size 0 .none := by
    have z := Heap.get?_push_size (s.heap.push ob) (o := { cls := .type "enumerate", data := .fields #[.none, .bool false, .ref s.heap.objs.size, rawInt 0, .none, .none] }) rfl
    rw [hz] at z
    exact z
  exact ⟨⟨_, he, rfl⟩, h _ he (Heap.get?_push_of_some _ (Heap.get?_push_size _ Bg.free)) (by rw [Heap.size_push, hz]) fun b o x => Heap.get?_push_of_some _ (Heap.get?_push_of_some _ x)⟩
/-- a tuple at a, each item in a new pair -/
def IteT (K : PySem.W.Frag) (a : Addr) : It :=
  ⟨fun i H => ∃ (xs : List V) (x : V), SqT K H a xs ∧ xs[i]? = some x, fun i H v H' => ∃ T x, v = .ref T ∧ H T = none ∧ H' = upd H T (.tup [.int (i : Nat), x]) ∧ ∀ xs, SqT K H a xs → xs[i]? = some x, fun i H => ∃ xs : List V, SqT K H a xs ∧ xs.length ≤ i⟩
theorem tup_ne_iter {h : Heap} {a it t : Addr} {items : Array Value} {i : Nat} (p : h.IsTuple a items) (q : h.IsTupleIter it t i) : a ≠ it := fun e => by
  obtain ⟨o, h1, c1, _⟩ := p
  obtain ⟨u, h2, c2, _⟩ := q
  rw [e, h2] at h1
  cases h1
  rw [c2] at c1
  exact absurd (Value.type.inj c1) (by decide)
theorem tup_ne_enum {h : Heap} {a e it : Addr} {items : Array Value} {i : Int} {old : Value} (p : h.IsTuple a items) (q : IsEnum h e it i old) : a ≠ e := fun z => by
  obtain ⟨o, h1, c1, _⟩ := p
  rw [z, q] at h1
  cases h1
  exact absurd (Value.type.inj c1) (by decide)
theorem turn_enumT {P : Program} {w : World} {K : PySem.W.Frag} {elts : List Expr} {kk : Nat} {tpos : Pos} (a e it : Addr) :
    Turn P w K (.Tuple elts kk tpos) (IteT K a) [e, it] e (fun i h => (∃ old, IsEnum h e it ((i : Nat) : Int) old) ∧ h.IsTupleIter it a i ∧ e ≠ it) where
  mem := by simp
  obj := fun i h st b hb => by
    obtain ⟨⟨old, he⟩, ⟨o, ho, hc, hd⟩, _⟩ := st
    rcases (by simpa using hb : b = e ∨ b = it) with z | z
    · rw [z]; exact ⟨_, he, fun v q => nomatch q⟩
    · rw [z]; exact ⟨o, ho, fun v q => by rw [hd] at q; cases q⟩
  keep := fun i h h' st k => by
    obtain ⟨⟨old, he⟩, hi, hne⟩ := st
    exact ⟨⟨old, k e (by simp) _ he⟩, hi.at fun o q => k it (by simp) o q, hne⟩
  item := by
    intro X hP hw hK hc i pins s σ H E I hf st hg
    subst hP; subst hw; subst hK
    obtain ⟨⟨old, he⟩, hit, hne⟩ := st
    obtain ⟨xs, x, hq, hx⟩ := hg
    obtain ⟨its, rv, p, hz⟩ := I.tuple hq
    have p' : s.heap.IsTuple a its.toArray := p
    obtain ⟨u, hu, ru⟩ := rv.get hx
    have hel : e < s.heap.objs.size := Heap.lt_size he
    have hil : it < s.heap.objs.size := by obtain ⟨_, q, _⟩ := hit; exact Heap.lt_size q
    have n1 := tup_ne_iter p' hit
    have n2 := tup_ne_enum p' he
    have hlt : i < its.toArray.size := by
      have := (List.getElem?_eq_some_iff.mp hu).1
      simpa using this
    refine wpAny_pyNext_enum_itemD (Draws.tuple (prog := X.prog) (w := X.w) (A := X.A.in1) (I.ok.hd hc) it a n1 its.toArray) he ⟨hit, p'⟩ hlt hne (by simp only [List.mem_cons, List.not_mem_nil, or_false, not_or]; exact ⟨hne, Ne.symm n2⟩) fun y h' tk hy ho st2 hT hsz hk => ?_
    have ey : y = u := by
      have z : its.toArray[i]? = some u := by simpa using hu
      rw [z] at hy
      exact (Option.some.inj hy).symm
    subst ey
    refine ⟨_, rfl, wpAny_letOwnedTupleGo_enum (s := { s with heap := h', toks := tk + 1 }) ho fun h'' he' sb => ?_⟩
    have hT2 : h''.get? s.heap.objs.size = some { cls := .type "tuple", data := .seq #[.int i tk, y] } := (sb.2 _ (Nat.ne_of_gt hel)).trans hT
    have new : ObjOk X.prog X.w (upd H s.heap.objs.size (.tup [.int (i : Nat), x])) h'' s.heap.objs.size (.tup [.int (i : Nat), x]) :=
      ⟨(by show 2 ≤ sizeLine; decide), [.int i tk, y], .cons ⟨_, rfl⟩ (.cons ru .nil), ⟨_, hT2, rfl, _, rfl⟩⟩
    have I1 : Inv X pins σ (upd H s.heap.objs.size (.tup [.int (i : Nat), x])) { s with heap := h'', toks := tk + 1 } :=
      I.turnedNew (ch := [e, it]) (fun b ob hb q => (sb.2 b (fun z => hb (by simp [z]))).trans (hk b ob (fun z => hb (by simp [z])) (fun z => hb (by simp [z])) q)) hf (Nat.le_refl _) new
    refine ⟨.ref s.heap.objs.size, _, I1, rfl, ⟨_, x, rfl, I.hok.fresh (Nat.le_refl _), rfl, fun ys hy => by rw [I.tuple_inj hy hq]; exact hx⟩, ⟨⟨y, ?_⟩, st2.1.at fun o q => (sb.2 it (Ne.symm hne)).trans q, hne⟩, fun b hb => ?_⟩
    · have e1 : ((i + 1 : Nat) : Int) = (i : Int) + 1 := by omega
      rw [e1]; exact he'
    · have hb' : b < s.heap.objs.size := by
        rcases (by simpa using hb : b = e ∨ b = it) with z | z
        · rw [z]; exact hel
        · rw [z]; exact hil
      rw [upd_ne (Nat.ne_of_lt hb')]
      exact (hf b hb).1
  done := by
    intro X hP hw hK hc i pins s σ H E I hf st hg
    subst hP; subst hw; subst hK
    obtain ⟨⟨old, he⟩, hit, hne⟩ := st
    obtain ⟨xs, hq, hx⟩ := hg
    obtain ⟨its, rv, p, hz⟩ := I.tuple hq
    have p' : s.heap.IsTuple a its.toArray := p
    obtain ⟨f0, f1, f2, f3, f4, f5⟩ := hf it (by simp)
    have hl := rv.length
    have n1 := tup_ne_iter p' hit
    have hT : s.TypeIs (.ref e) "enumerate" := ⟨_, he, rfl⟩
    unfold pyNext
    refine wpAny_bind (wpAny_attempt (wpAny_callSpecial?_slot (name := Str.ofString "__next__") hT F.slot_enumerate_next (wpAny_call_entry F.slot_enumerate_next hT F.entry_enumerate_next ?_ (F.args_enumerate_next_1 _))))
    show wpAny _ _ (field (.ref e) 2 >>= _) _ _ _
    refine wpAny_bind (wpAny_field he rfl (x := .ref it) rfl ?_)
    refine wpAny_bind (wpAny_nextOf_tuple_end (I.ok.hd hc) hit p' (by simp; omega) fun h' x he' hx' => ?_)
    obtain ⟨o, ho, hc2⟩ := hx'
    refine wpAny_bind (wpAny_isInstance (T := "StopIteration") (b := true) ⟨o, ho, hc2⟩ isSubtype_stop ?_)
    exact wpAny_pure ⟨rfl, I.turned (t' := s.toks) (fun b o hb q => he' b o hb q) f0 f1 f3 f4 f5⟩
  self := fun A i s Q E st h => by
    obtain ⟨⟨_, he⟩, _⟩ := st
    exact wpAny_pyIter_enum he h
def iEnumT (K : PySem.W.Frag) (ta : TA) : TI := fun σ H R => ta σ H fun vs H1 => ∃ a xs, vs = [.ref a] ∧ SqT K H1 a xs ∧ R (IteT K a) H1
theorem pi_enumT {X : Cx} {e : Expr} {ta : TA} {p pos tpos : Pos} {elts : List Expr} {kk : Nat} (hg : Gl X "enumerate") (hm : X.mg "enumerate" = none) (ha : PA X [e] ta) (hs : starEach [e] X.env = [(false, eval e X.env)]) :
    PI X (.Tuple elts kk tpos) (.Call (.Name "enumerate" p) [e] [] pos) (iEnumT X.K ta) := by
  refine ⟨fun pins s σ H R I h => ?_⟩
  refine Call_ (ld_blt I hg hm boot_enumerate (PyProof.Rows.callWith_type1 (thn (ha.run pos pins s σ H _ I h) fun us s1 ⟨vs, H1, I1, r1, q1⟩ => ?_) hs rfl))
  obtain ⟨a, xs, ex, hq, q⟩ := q1
  subst ex
  cases r1 with
  | cons r rr =>
    cases rr
    cases r
    obtain ⟨its, rv, p', hz⟩ := I1.tuple hq
    refine callEnum1 (begins_tuple a its.toArray) p' fun h' he hit hsz hk => wpAny_pyIter_enum he ?_
    have I2 : Inv X pins σ H1 { s1 with heap := h' } := I1.kept (t' := s1.toks) hk
    refine ⟨s1.heap.objs.size + 1, [s1.heap.objs.size + 1, s1.heap.objs.size], _, _, H1, rfl, I2, turn_enumT a (s1.heap.objs.size + 1) s1.heap.objs.size, ⟨⟨.none, he⟩, ⟨_, hit, rfl, rfl⟩, Nat.succ_ne_self _⟩, fun b hb => ?_, q⟩
    have hle : s1.heap.objs.size ≤ b := by
      rcases (by simpa using hb : b = s1.heap.objs.size + 1 ∨ b = s1.heap.objs.size) with z | z
      · rw [z]; exact Nat.le_add_right _ _
      · rw [z]; exact Nat.le_refl _
    exact I1.fpOk hle (I1.hok.fresh hle)
section
variable {B : Bs} {X : Cx} {e tg : Expr} {G : Sl} {M : Mem} {Q : List D → Mem → Prop} {pos p : Pos} {F : Hp} {σ : L2.St}
theorem wk_enumT {K : PySem.W.Frag} {a : Addr} {xs : List V} {ds : List D} (h : SqT K F a xs) (r : RpAll K F xs ds) : Wk K F (IteT K a) (enumD ds) where
  goes := fun i H hi s => by
    rw [enumD_len] at hi
    exact ⟨xs, xs[i]'(by rw [r.length]; exact hi), sq_same s h, by simp [r.length, hi]⟩
  stops := fun H s => ⟨xs, sq_same s h, by rw [r.length, enumD_len]; exact Nat.le_refl _⟩
  yields := fun i H x H' hi s y => by
    obtain ⟨T, u, h1, h2, h3, h4⟩ := y
    subst h1; subst h3
    obtain ⟨d, hd, rd⟩ := r.getV (h4 xs (sq_same s h))
    exact ⟨_, enumD_get hd, fun B F1 σ G M s1 r1 => pair_new r1 h2 (.int _) (rd.mono s1)⟩
theorem lx_enumT (hg : Gl X "enumerate") (hm : X.mg "enumerate" = none) (hs : starEach [e] X.env = [(false, eval e X.env)]) (ht : ∃ es k pp, tg = .Tuple es k pp)
    (h : EX B X e G M fun d M1 => ∃ ds, d = .tup ds ∧ Q (enumD ds) M1) : LX B X tg (.Call (.Name "enumerate" p) [e] [] pos) G M Q := fun F σ H R' r k => by
  obtain ⟨es, kk, pp, rfl⟩ := ht
  refine WIt.of (pi_enumT hg hm (pa_cons pe_we pa_nil (by rw [hs]; rfl)) hs) (h F σ H _ r fun v H1 F1 d1 M1 ⟨ds, e1, q⟩ s1 r1 p1 => ?_)
  subst e1
  cases p1 with
  | @tup a xs _ hs rs => exact ⟨a, xs, rfl, sq_same r1.ex hs, k _ _ F1 _ M1 q s1 r1 (wk_enumT hs rs)⟩
end
end FL
/-! sequences: +, *, slices, max, methods of lists -/
namespace FL
open PySem PySem.Spec PyProof.Rows L2
/-- a list of ds: frozen, or a cell -/
def IsL (M : Mem) (d : D) (ds : List D) : Prop := d = .lst ds ∨ ∃ l, d = .ref l ∧ M l = some (.lst ds)
theorem IsL.fz {M : Mem} {ds : List D} : IsL M (.lst ds) ds := .inl rfl
theorem IsL.ce {M : Mem} {l : Addr} {ds : List D} (h : M l = some (.lst ds)) : IsL M (.ref l) ds := .inr ⟨l, rfl, h⟩
/-- the cells are there as they were -/
def Ext (M M' : Mem) : Prop := ∀ a o, M a = some o → M' a = some o
theorem Ext.refl (M : Mem) : Ext M M := fun _ _ h => h
theorem Ext.trans {M M1 M2 : Mem} (h : Ext M M1) (g : Ext M1 M2) : Ext M M2 := fun a o e => g a o (h a o e)
theorem Ext.new {M : Mem} {l : Addr} {o : MO} (h : M l = none) : Ext M (mupd M l o) := fun a u e => by rw [mupd_ne (mne e h)]; exact e
theorem Ext.del {M M' : Mem} {l : Addr} (h : M l = none) (e : Ext M M') : Ext M (mdel M' l) := fun a u q => by
  unfold mdel
  rw [if_neg (mne q h)]
  exact e a u q
theorem Ext.free {M M' : Mem} {l : Addr} (e : Ext M M') (h : M' l = none) : M l = none := by
  cases q : M l with
  | none => rfl
  | some o => rw [e l o q] at h; cases h
section
variable {B : Bs} {X : Cx} {G : Sl} {M : Mem} {Q : D → Mem → Prop} {F H : Hp} {σ : L2.St} {d d2 : D} {ds es : List D} {v : V} {e : Expr} {pos p2 apos : Pos} {lo hi : Option Expr} {K : PySem.W.Frag}
theorem IsL.at (h : IsL M d ds) (r : R B K F σ H G M) (p : Rp K F v d) : ∃ a xs, v = .ref a ∧ H a = some (.lst xs) ∧ RpAll K F xs ds := by
  rcases h with rfl | ⟨l, rfl, hm⟩
  · cases p with
    | @lst a xs _ hs rs => exact ⟨a, xs, rfl, r.ex _ _ hs, rs⟩
  · cases p
    obtain ⟨_, xs, hx, rx⟩ := r.mem l _ hm
    exact ⟨l, xs, rfl, hx, rx⟩
/-! ### + -/
theorem ox_catL (h1 : IsL M d ds) (h2 : IsL M d2 es) (hl : ds.length + es.length ≤ sizeLine) (q : Q (.lst (ds ++ es)) M) : OX B X (binaryOp .Add) d d2 G M Q := fun F σ H Q' v w r p1 p2 k => by
  obtain ⟨a, xs, rfl, hx, rx⟩ := h1.at r p1
  obtain ⟨b, ys, rfl, hy, ry⟩ := h2.at r p2
  exact WO.of op_cat ⟨a, b, xs, ys, rfl, rfl, hx, hy, by rw [rx.length, ry.length]; exact hl, fun p hp => k.new r hp q (.lst upd_same ((rx.append ry).mono (r.new hp).1))⟩
theorem ox_catLM (h1 : IsL M d ds) (h2 : IsL M d2 es) (hl : ds.length + es.length ≤ sizeLine) (q : ∀ l, M l = none → Q (.ref l) (mupd M l (.lst (ds ++ es)))) : OX B X (binaryOp .Add) d d2 G M Q := fun F σ H Q' v w r p1 p2 k => by
  obtain ⟨a, xs, rfl, hx, rx⟩ := h1.at r p1
  obtain ⟨b, ys, rfl, hy, ry⟩ := h2.at r p2
  exact WO.of op_cat ⟨a, b, xs, ys, rfl, rfl, hx, hy, by rw [rx.length, ry.length]; exact hl, fun p hp => k.cell r hp (q p (r.freeM hp)) ⟨_, upd_same, rx.append ry⟩⟩
theorem RpAll.nil_iff {xs : List V} (r : RpAll K F xs ds) : xs = [] ↔ ds = [] := by cases r <;> simp
theorem ox_catT (hl : ds.length + es.length ≤ sizeLine) (q : Q (.tup (ds ++ es)) M) : OX B X (binaryOp .Add) (.tup ds) (.tup es) G M Q := fun F σ H Q' v w r p1 p2 k => by
  cases p1 with
  | @tup a xs _ ha ra =>
    cases p2 with
    | @tup b ys _ hb rb =>
      refine WO.of op_catA ⟨a, b, xs, ys, rfl, rfl, sq_same r.ex ha, sq_same r.ex hb, by rw [ra.length, rb.length]; exact hl, fun z => ?_, fun z z2 => ?_, fun z z2 p hp => ?_⟩
      · have e := ra.nil_iff.mp z
        subst e
        exact k.at r q (.tup hb rb)
      · have e := rb.nil_iff.mp z2
        subst e
        rw [List.append_nil] at q
        exact k.at r q (.tup ha ra)
      · exact k.new r hp q (.tup sq_upd ((ra.append rb).mono (r.new hp).1))
/-! ### * -/
theorem RpAll.rep {n : Nat} {x : V} (h : Rp K F x d) : RpAll K F (List.replicate n [x]).flatten (List.replicate n d) := by
  induction n with
  | zero => exact .nil
  | succ n ih => exact .cons h ih
theorem ox_repL {n : Int} (h1 : n < 100000) (q : Q (.lst (List.replicate n.toNat d)) M) (h0 : 0 ≤ n) : OX B X (binaryOp .Mult) (.lst [d]) (.int n) G M Q := fun F σ H Q' v w r p1 p2 k => by
  cases p2
  obtain ⟨a, xs, rfl, hx, rx⟩ := IsL.fz.at r p1
  obtain ⟨x, rfl, px⟩ := rp1 rx
  refine WO.of op_rep ⟨a, n, [x], rfl, rfl, hx, by omega, by omega, ?_, fun p hp => k.new r hp q (.lst upd_same ((RpAll.rep px).mono (r.new hp).1))⟩
  have : (sizeLine : Nat) ≥ 100000 := by decide
  simp; omega
theorem ox_repLM {n : Int} (h1 : n < 100000) (h0 : 0 ≤ n) (q : ∀ l, M l = none → Q (.ref l) (mupd M l (.lst (List.replicate n.toNat d)))) : OX B X (binaryOp .Mult) (.lst [d]) (.int n) G M Q := fun F σ H Q' v w r p1 p2 k => by
  cases p2
  obtain ⟨a, xs, rfl, hx, rx⟩ := IsL.fz.at r p1
  obtain ⟨x, rfl, px⟩ := rp1 rx
  refine WO.of op_rep ⟨a, n, [x], rfl, rfl, hx, by omega, by omega, ?_, fun p hp => k.cell r hp (q p (r.freeM hp)) ⟨_, upd_same, RpAll.rep px⟩⟩
  have : (sizeLine : Nat) ≥ 100000 := by decide
  simp; omega
theorem tuple_mul1 (l : Addr) (items : Array Value) (n : Nat) (dd : Option Addr) (sl : Array (Option Value)) (u : Tok) :
    Meets (Builtin.«tuple.__mul__» ⟨[.ref l, .int 1 u], []⟩) (fun _ R s => s.heap.get? l = some { cls := .type "tuple", dict := dd, data := .seq items n, slots := sl } ∧ R (.ok (.ret (Value.ref l))) s) :=
  .of_wp fun prog w A R s h => by
    obtain ⟨hp, g, d, tk, os⟩ := s
    obtain ⟨hl, h⟩ := h
    have f1 := AutoSeq1.idx_int
    have c1 : (items.isEmpty || (1 : Int) == 1) = true := by simp
    wp_walk using AutoSeq1.wpAny_loadPart' hl
    repeat (first
      | (refine wpAny_ite_false (decide_eq_false (by decide)) ?_; wp_walk using AutoSeq1.wpAny_loadPart' hl)
      | (refine wpAny_ite_true (decide_eq_true c1) ?_; wp_walk using AutoSeq1.wpAny_loadPart' hl))
    exact ⟨_, rfl, h⟩
theorem op_rep1 : OpR X (binaryOp .Mult) (fun x y H Q => ∃ l xs, x = .ref l ∧ y = .int 1 ∧ SqT X.K H l xs ∧ Q (.ref l) H) := by
  intro pins s σ H x y v u Q I rx ry h
  obtain ⟨l, xs, rfl, rfl, hT, q⟩ := h
  cases rx
  obtain ⟨t, rfl⟩ := ry
  obtain ⟨its, r, ⟨⟨cls, dd, data, sl⟩, ho, hc, n, hd⟩, hs⟩ := I.tuple hT
  simp only at hc hd
  subst hc
  subst hd
  exact wpAny_binaryOp_repeat_ref (T := "tuple") (U := "int") (by decide) ⟨_, ho, rfl⟩ (fun s' => typeIs_int s' 1 t) noFill_tuple_mul F.fills_int_mul F.slot_int_rmul repeat_tuple F.slot_int_index.lookup
    (call_meets F.slot_int_rmul (typeIs_int s 1 t) F.entry_int_rmul (F.args_int_rmul_2 _ _) (int_rmul_tuple 1 t l its.toArray n dd sl)
      ⟨ho, rfl, ⟨_, ho, rfl⟩, call_meets F.slot_tuple_mul ⟨_, ho, rfl⟩ F.entry_tuple_mul (F.args_tuple_mul_2 _ _) (tuple_mul1 l its.toArray n dd sl t) ⟨ho, .ref l, H, I, rfl, q⟩⟩)
theorem ox_repT {n : Int} (h0 : 1 ≤ n) (h1 : n ≤ 1000) (q : Q (.tup (List.replicate n.toNat d)) M) : OX B X (binaryOp .Mult) (.tup [d]) (.int n) G M Q := fun F σ H Q' v w r p1 p2 k => by
  cases p2
  cases p1 with
  | @tup a xs _ ha ra =>
    obtain ⟨x, rfl, px⟩ := rp1 ra
    by_cases hn : n = 1
    · subst hn
      exact WO.of op_rep1 ⟨a, [x], rfl, rfl, sq_same r.ex ha, k.at r q (.tup ha ra)⟩
    · exact WO.of op_repT ⟨a, n, [x], rfl, rfl, sq_same r.ex ha, by simp, by omega, h1, by simp, fun p hp => k.new r hp q (.tup sq_upd ((RpAll.rep px).mono (r.new hp).1))⟩
theorem ex_binL {es : List Expr} {b : Expr} {op : Operator} {p : Pos} (h : AX B X es G M fun xs M1 => xs.length ≤ sizeLine ∧ EX B X b G M1 fun y M2 => OX B X (binaryOp op) (.lst xs) y G M2 Q) : EX B X (.BinOp (.List es p) op b pos) G M Q := ex_bin (ex_lst h)
theorem ex_binR {es : List Expr} {a : Expr} {op : Operator} {p : Pos} (h : EX B X a G M fun x M1 => AX B X es G M1 fun ys M2 => ys.length ≤ sizeLine ∧ OX B X (binaryOp op) x (.lst ys) G M2 Q) : EX B X (.BinOp a op (.List es p) pos) G M Q := ex_bin (h.imp fun _ _ h => ex_lst h)
theorem ux_neg {i : Int} (q : Q (.int (-i)) M) : UX B X (unaryOp .USub) (.int i) G M Q := fun F σ H Q' v r p k => by
  cases p
  exact WU.of un_neg ⟨i, rfl, k.at r q (.int _)⟩
/-! ### slices -/
def cutD (ds : List D) (lo hi : Option Int) : List D := (ds.drop (HT.sIx ds.length 0 lo)).take (HT.sIx ds.length ds.length hi - HT.sIx ds.length 0 lo)
theorem cut_rp {xs : List V} {l u : Option Int} (r : RpAll K F xs ds) : RpAll K F (cutV xs l u) (cutD ds l u) := by
  unfold cutV cutD
  rw [r.length]
  exact (r.drop _).take _
def WSl (X : Cx) : V → Option Int → Option Int → Hp → VK → Prop := fun x lo hi H Q => ∀ (pins : List (Addr × Obj)) (s : Shared) (σ : L2.St) (v vl vu : Value) (sl : Addr), Inv X pins σ H s → RelV x v → s.heap.IsSliceOf sl vl vu .none → IsPart vl lo → IsPart vu hi →
    ∃ T id, typeLookup (.type T) "__getitem__" = pure (some (.builtin id)) ∧ s.TypeIs v T ∧ wpAny (model X.prog X.w) X.A (getItem v (.ref sl)) (EP X pins σ Q) X.xe s
theorem sl_wsl : SlR X (WSl X) := fun pins s σ _ _ v vl vu _ _ sl _ I rx hs pl pu h => h pins s σ v vl vu sl I rx hs pl pu
theorem WSl.of {r : V → Option Int → Option Int → Hp → VK → Prop} {x : V} {l u : Option Int} {H : Hp} {Q : VK} (h : SlR X r) (q : r x l u H Q) : WSl X x l u H Q := fun pins s σ v vl vu sl I rx hs pl pu => h pins s σ H x v vl vu l u sl Q I rx hs pl pu q
def WPO (X : Cx) : Option Expr → TO
  | none => tNoPart
  | some e => tPart (WE X e)
theorem po_wpo : ∀ {p : Option Expr}, PO X p (WPO X p)
  | none => po_none
  | some _ => po_some pe_we
def POX (B : Bs) (X : Cx) : Option Expr → Sl → Mem → (Option Int → Mem → Prop) → Prop
  | none, _, M, Q => Q none M
  | some e, G, M, Q => EX B X e G M fun d M1 => ∃ i, d = .int i ∧ Q (some i) M1
theorem pox_none {Q : Option Int → Mem → Prop} (q : Q none M) : POX B X none G M Q := q
theorem pox_some {Q : Option Int → Mem → Prop} (h : EX B X e G M fun d M1 => ∃ i, d = .int i ∧ Q (some i) M1) : POX B X (some e) G M Q := h
theorem pox_ok {Q : Option Int → Mem → Prop} {Q' : Option Int → Hp → Prop} : ∀ {p : Option Expr}, POX B X p G M Q → R B X.K F σ H G M → (∀ o H' F' M', Q o M' → Same F F' → R B X.K F' σ H' G M' → Q' o H') → WPO X p σ H Q'
  | none, h, r, k => k none H F M h (Same.refl F) r
  | some e, h, r, k => h F σ H _ r fun v H1 F1 d1 M1 ⟨i, e1, q⟩ s1 r1 p1 => by
    subst e1
    cases p1
    exact ⟨i, rfl, k (some i) H1 F1 M1 q s1 r1⟩
def SLX (B : Bs) (X : Cx) (d : D) (lo hi : Option Int) (G : Sl) (M : Mem) (Q : D → Mem → Prop) : Prop := ∀ F σ H Q' v, R B X.K F σ H G M → Rp X.K F v d → KE B X F σ G Q Q' → WSl X v lo hi H Q'
theorem ex_slice (h : EX B X e G M fun d M1 => POX B X lo G M1 fun l M2 => POX B X hi G M2 fun u M3 => SLX B X d l u G M3 Q) : EX B X (.Subscript e (.Slice lo hi none p2) pos) G M Q := fun F σ H Q' r k =>
  WE.of (pe_slice sl_wsl pe_we po_wpo po_wpo) (h F σ H _ r fun v1 H1 F1 d1 M1 q1 s1 r1 p1 => pox_ok q1 r1 fun l H2 F2 M2 q2 s2 r2 => pox_ok q2 r2 fun u H3 F3 M3 q3 s3 r3 =>
    q3 F3 σ H3 Q' v1 r3 (p1.mono (s2.trans s3)) (k.mono (s1.trans (s2.trans s3))))
theorem slx_t {l u : Option Int} (q : Q (.tup (cutD ds l u)) M) : SLX B X (.tup ds) l u G M Q := fun F σ H Q' v r p k => by
  cases p with
  | @tup a xs _ ha ra =>
    refine WSl.of sl_tupA ⟨a, xs, rfl, sq_same r.ex ha, fun z => ?_, fun z p hp => k.new r hp q (.tup sq_upd ((cut_rp ra).mono (r.new hp).1))⟩
    rw [ra.length] at z
    have e : cutD ds l u = ds := by
      unfold cutD
      rw [z.1, z.2]; simp
    rw [e] at q
    exact k.at r q (.tup ha ra)
theorem slx_l {l u : Option Int} (hL : IsL M d ds) (q : Q (.lst (cutD ds l u)) M) : SLX B X d l u G M Q := fun F σ H Q' v r p k => by
  obtain ⟨a, xs, rfl, hx, rx⟩ := hL.at r p
  exact WSl.of sl_list ⟨a, xs, rfl, SqL.of hx, fun p hp => k.new r hp q (.lst upd_same ((cut_rp rx).mono (r.new hp).1))⟩
/-! ### max, min of lists of ints -/
theorem bx_maxL {ns : List Int} (hc : X.calm = true) (hL : IsL M d (ns.map D.int)) (hn : ns ≠ []) (q : ∀ m, m ∈ ns → (∀ y ∈ ns, y ≤ m) → Q (.int m) M) : BX B X (.builtin "max") [d] G M Q := fun F σ H Q' vs r pa kk => by
  obtain ⟨v, rfl, rp⟩ := rp1 pa
  obtain ⟨a, xs, rfl, hx, rx⟩ := hL.at r rp
  have e := RpAll.ints_of rx
  subst e
  exact WC.of (cr_max hc) ⟨a, ns, rfl, SqL.of hx, List.length_pos_iff.mpr hn, fun m h1 h2 => kk.at r (q m h1 h2) (.int m)⟩
/-! ### methods of list cells -/
theorem mx_extend {l : Addr} (hm : M l = some (.lst ds)) (hL : IsL M d es) (hne : d ≠ .ref l) (hl : ds.length + es.length ≤ sizeLine) (q : Q .non (mupd M l (.lst (ds ++ es)))) : MX B X "list.extend" (.ref l) [d] G M Q := fun F σ H Q' v vs r p1 pa kk => by
  obtain ⟨v2, rfl, rp⟩ := rp1 pa
  cases p1
  obtain ⟨_, xs, hx, rx⟩ := r.mem l _ hm
  obtain ⟨a, ys, rfl, hy, ry⟩ := hL.at r rp
  exact WM.of mt_extend ⟨l, a, xs, ys, rfl, rfl, hx, hy, by rw [rx.length, ry.length]; exact hl, kk _ _ F _ _ q (Same.refl F) (r.write hm ⟨_, upd_same, rx.append ry⟩) .non⟩
/-- index of a flat item -/
theorem mx_index {j : Nat} (hL : IsL M d es) (hf : d2.flat = true) (ha : es.all D.flat = true) (hj : ∃ z, es[j]? = some z ∧ eqV z.toV d2.toV = true) (hno : ∀ m z, m < j → es[m]? = some z → eqV z.toV d2.toV = false) (q : Q (.int (j : Nat)) M) : MX B X "list.index" d [d2] G M Q := fun F σ H Q' v vs r p1 pa kk => by
  obtain ⟨v2, rfl, rp⟩ := rp1 pa
  obtain ⟨a, ys, rfl, hy, ry⟩ := hL.at r p1
  obtain ⟨e1, f1⟩ := rp.flat hf
  obtain ⟨e2, f2⟩ := ry.flat ha
  subst e1; subst e2
  obtain ⟨z, hz, hzz⟩ := hj
  refine WM.of mt_index ⟨a, es.map D.toV, d2.toV, j, z.toV, rfl, rfl, SqL.of hy, f1, f2, by rw [List.getElem?_map, hz]; rfl, hzz, fun m z' hm hz' => ?_, kk.at r q (.int _)⟩
  rw [List.getElem?_map] at hz'
  obtain ⟨z0, h0, rfl⟩ := Option.map_eq_some_iff.mp hz'
  exact hno m z0 hm h0
/-- a method of a built-in list; the receiver a list, frozen or a cell -/
theorem ex_bmL {o : Expr} {es : List Expr} {name : Str} {id : String} (slot : Slot "list" name id) (hty : typeOf (.builtin id) = pure (.type "method_descriptor"))
    (hbase : attributeBase o name X.env (eval o X.env) = eval o X.env)
    (hfew : ((backTo pos (starEach (e :: es) X.env)).all (fun x => !x.1) && (backToKw pos (keywordEach [] X.env)).all (fun x => x.1.isSome)
      && decide ((e :: es).length + ([] : List Keyword).length + (if ([] : List Keyword).isEmpty then 0 else 1) < 30)) = true)
    (hline : (apos.endLine == pos.line) = true) (hs : starEach (e :: es) X.env = (false, eval e X.env) :: starEach es X.env) (hplain : (backTo pos (starEach es X.env)).any (·.1) = false)
    (h : EX B X o G M fun d M1 => ∃ ds, IsL M1 d ds ∧ AX B X (e :: es) G M1 fun xs M2 => MX B X id d xs G M2 Q) : EX B X (.Call (.Attribute o name apos) (e :: es) [] pos) G M Q := fun F σ H Q' r kk =>
  WE.of (pe_bm PySem.F.plainAttrs_list slot hty mt_wm pe_we pa_wa hbase hfew hline hs hplain) (h F σ H _ r fun v1 H1 F1 d1 M1 ⟨ds, hL, q1⟩ s1 r1 p1 => by
    obtain ⟨a, xs, rfl, hx, rx⟩ := hL.at r1 p1
    exact ⟨.inl ⟨rfl, xs, .inl (.inl hx)⟩, q1 F1 σ H1 _ r1 fun vs H2 F2 ds2 M2 q2 s2 r2 p2 => q2 F2 σ H2 Q' _ vs r2 (p1.mono s2) p2 (kk.mono (s1.trans s2))⟩)
end
end FL
/-! < of data -/
namespace FL
open PySem PySem.Spec PyProof.Rows L2
end FL
/-! slices of lists with a step -/
namespace FL
open PySem PySem.Spec PyProof.Rows L2
def pickOf {α : Type} (xs : List α) (lo hi st : Option Int) : List α := (sliceRange (sliceBounds lo hi st xs.length).1 (sliceBounds lo hi st xs.length).2.1 (sliceBounds lo hi st xs.length).2.2).filterMap (xs[·]?)
theorem pickOf_len {α : Type} (xs : List α) (lo hi st : Option Int) : (pickOf xs lo hi st).length ≤ xs.length := by
  unfold pickOf
  refine Nat.le_trans (List.length_filterMap_le _ _) (sliceRange_length_le _ _ _ _ (fun hc => ?_) fun hc => ?_)
  · simp only [sliceBounds] at hc ⊢
    simp only [hc, if_true]
    constructor
    · cases lo with
      | none => simp
      | some i => dsimp only; omega
    · cases hi with
      | none => simp
      | some i => dsimp only; omega
  · simp only [sliceBounds] at hc ⊢
    simp only [hc, if_false]
    constructor
    · cases lo with
      | none => simp
      | some i => dsimp only; omega
    · cases hi with
      | none => simp
      | some i => dsimp only; omega
theorem vals_pick {xs : List V} {us : List Value} (r : Vals xs us) : ∀ l : List Nat, Vals (l.filterMap (xs[·]?)) (l.filterMap (us[·]?))
  | [] => .nil
  | i :: l => by
    rw [List.filterMap_cons, List.filterMap_cons]
    have e := r.length
    by_cases h : i < xs.length
    · obtain ⟨u, hu, ru⟩ := r.get (List.getElem?_eq_getElem h)
      rw [List.getElem?_eq_getElem h, hu]
      exact .cons ru (vals_pick r l)
    · rw [List.getElem?_eq_none (by omega), List.getElem?_eq_none (by omega)]
      exact vals_pick r l
theorem rp_pick {K : PySem.W.Frag} {F : Hp} {xs : List V} {ds : List D} (r : RpAll K F xs ds) : ∀ l : List Nat, RpAll K F (l.filterMap (xs[·]?)) (l.filterMap (ds[·]?))
  | [] => .nil
  | i :: l => by
    rw [List.filterMap_cons, List.filterMap_cons]
    have e := r.length
    by_cases h : i < xs.length
    · obtain ⟨u, hu, ru⟩ := r.getV (List.getElem?_eq_getElem h)
      rw [List.getElem?_eq_getElem h, hu]
      exact .cons ru (rp_pick r l)
    · rw [List.getElem?_eq_none (by omega), List.getElem?_eq_none (by omega)]
      exact rp_pick r l
section
variable {B : Bs} {X : Cx} {G : Sl} {M : Mem} {Q : D → Mem → Prop} {e st : Expr} {te : TE} {lo hi : Option Expr} {tl th ts : TO} {pos p2 : Pos} {ds : List D}
def tSt (K : PySem.W.Frag) (te : TE) (tl th ts : TO) : TE := fun σ H Q => te σ H fun x H1 => tl σ H1 fun l H2 => th σ H2 fun u H3 => ts σ H3 fun k H4 =>
  ∃ a xs, x = .ref a ∧ SqL K H4 a xs ∧ k ≠ some 0 ∧ ∀ p, H4 p = none → Q (.ref p) (upd H4 p (.lst (pickOf xs l u k)))
theorem pe_sliceSt (he : PE X e te) (hl : PO X lo tl) (hu : PO X hi th) (hs : PO X (some st) ts) : PE X (.Subscript e (.Slice lo hi (some st) p2) pos) (tSt X.K te tl th ts) := by
  refine ⟨fun pins s σ H Q I h => ?_⟩
  refine Subscript_ (thn (he.run pins s σ H _ I h) fun v s1 ⟨x, H1, I1, r1, q1⟩ => ?_)
  refine wpAny_Slice (thn (hl.run pins s1 σ H1 _ I1 q1) fun vl s2 ⟨l, H2, I2, pl, q2⟩ => thn (hu.run pins s2 σ H2 _ I2 q2) fun vu s3 ⟨u, H3, I3, pu, q3⟩ => thn (hs.run pins s3 σ H3 _ I3 q3) fun vs s4 ⟨k, H4, I4, pk, q4⟩ => ?_)
  obtain ⟨a, xs, rfl, hx, hk, q⟩ := q4
  cases r1
  have I5 : Inv X pins σ H4 { s4 with heap := s4.heap.push { cls := .type "slice", data := .fields #[vl, vu, vs] } } := I4.kept (t' := s4.toks) fun b ob q => Heap.get?_push_of_some _ q
  obtain ⟨its, r, ht, hz⟩ := I5.list hx
  have hlen := r.length
  have hg : wpAny (model X.prog X.w) X.A (getItem (.ref a) (.ref s4.heap.objs.size)) (EP X pins σ Q) X.xe { s4 with heap := s4.heap.push { cls := .type "slice", data := .fields #[vl, vu, vs] } } := by
    refine wpAny_getItem_list_slice ht.isList (Heap.IsSliceOf.new ..) pl pu pk hk ?_ (by rw [List.size_toArray]; omega)
    have e1 : slicePick its.toArray l u k = (pickOf its l u k).toArray := by
      unfold slicePick pickOf
      rw [List.size_toArray]
      congr 1
      refine congrArg (fun f => List.filterMap f _) (funext fun i => ?_)
      simp
    rw [e1]
    have e2 : Vals (pickOf xs l u k) (pickOf its l u k) := by
      unfold pickOf
      rw [hlen]
      exact vals_pick r _
    refine ⟨.ref _, _, I5.laid (t' := s4.toks) (o := .lst (pickOf xs l u k)) (fun b ob q => Heap.get?_push_of_some _ q) (Nat.le_refl _) ?_, rfl, q _ (I5.hok.fresh (Nat.le_refl _))⟩
    exact ⟨Nat.le_trans (pickOf_len xs l u k) hz, _, 0, e2, Heap.get?_push_size _ rfl⟩
  show wpAny (model X.prog X.w) X.A (subscriptTail e (.Slice lo hi (some st) p2) (.ref a) (.ref s4.heap.objs.size)) (EP X pins σ Q) X.xe _
  exact tail_any (ops := [.ref a, .ref s4.heap.objs.size]) ht.isList.typeIs slot_list_getitem.lookup hg (by with_unfolding_all rfl)
theorem ex_sliceSt (h : EX B X e G M fun d M1 => POX B X lo G M1 fun l M2 => POX B X hi G M2 fun u M3 => EX B X st G M3 fun k M4 => ∃ (ds : List D) (j : Int), IsL M4 d ds ∧ k = .int j ∧ j ≠ 0 ∧ Q (.lst (pickOf ds l u (some j))) M4) : EX B X (.Subscript e (.Slice lo hi (some st) p2) pos) G M Q := fun F σ H Q' r k =>
  WE.of (pe_sliceSt pe_we po_wpo po_wpo (po_some pe_we)) (h F σ H _ r fun v1 H1 F1 d1 M1 q1 s1 r1 p1 => pox_ok q1 r1 fun l H2 F2 M2 q2 s2 r2 => pox_ok q2 r2 fun u H3 F3 M3 q3 s3 r3 => q3 F3 σ H3 _ r3 fun v4 H4 F4 d4 M4 q4 s4 r4 p4 => by
    obtain ⟨ds, j, hL, e4, hj, q⟩ := q4
    subst e4
    cases p4
    obtain ⟨a, xs, rfl, hx, rx⟩ := hL.at r4 (p1.mono (s2.trans (s3.trans s4)))
    refine ⟨j, rfl, a, xs, rfl, SqL.of hx, fun z => hj (Option.some.inj z), fun p hp => ?_⟩
    refine (k.mono (s1.trans (s2.trans (s3.trans s4)))).new r4 hp q (.lst upd_same ?_)
    unfold pickOf
    rw [rx.length]
    exact (rp_pick rx _).mono (r4.new hp).1)
/-- from a place on, each so manieth -/
theorem pick_from {α : Type} {xs : List α} {n o j : Nat} (ho : 0 < o) (hj : j < o) (hl : xs.length = o * n) : pickOf xs (some (j : Int)) none (some (o : Int)) = (List.range n).filterMap fun k => xs[j + o * k]? := by
  unfold pickOf
  have e1 : (sliceBounds (some (j : Int)) none (some (o : Int)) xs.length) = ((min (j : Int) (xs.length : Int)), (xs.length : Int), (o : Int)) := by
    simp only [sliceBounds, Option.getD_some]
    have h1 : (o : Int) > 0 := by omega
    have h2 : ¬ ((j : Int) < 0) := by omega
    simp only [h1, h2, if_true, if_false]
    congr 1
    omega
  rw [e1]
  unfold sliceRange
  have h1 : (o : Int) > 0 := by omega
  simp only [h1, if_true]
  cases n with
  | zero =>
    have hx : xs = [] := List.eq_nil_of_length_eq_zero (by simpa using hl)
    subst hx
    simp
  | succ n =>
    have hjl : j < xs.length := by
      rw [hl, Nat.mul_succ]; omega
    rw [Int.min_eq_left (by omega), if_pos (by omega)]
    have ec : ((((xs.length : Nat) : Int) - (j : Int) + (o : Int) - 1) / (o : Int)).toNat = n + 1 := by
      have e2 : ((xs.length : Nat) : Int) - (j : Int) + (o : Int) - 1 = ((o : Int) - 1 - (j : Int)) + (o : Int) * ((n : Int) + 1) := by
        rw [hl, Nat.mul_succ]
        have : ((o * n + o : Nat) : Int) = (o : Int) * (n : Int) + (o : Int) := by simp
        rw [this, Int.mul_add, Int.mul_one]; omega
      rw [e2, Int.add_mul_ediv_left _ _ (by omega), Int.ediv_eq_zero_of_lt (by omega) (by omega)]
      omega
    rw [ec, List.filterMap_map]
    refine congrArg (fun f => List.filterMap f (List.range (n + 1))) (funext fun k => ?_)
    show xs[((j : Int) + (o : Int) * (k : Int)).toNat]? = _
    have : ((j : Int) + (o : Int) * (k : Int)).toNat = j + o * k := by
      have : (j : Int) + (o : Int) * (k : Int) = ((j + o * k : Nat) : Int) := by simp
      rw [this, Int.toNat_natCast]
    rw [this]
end
end FL
/-! list(range(..)) -/
namespace FL
open PySem PySem.Spec PyProof.Rows L2
section
variable {B : Bs} {X : Cx} {G : Sl} {M : Mem} {Q : D → Mem → Prop} {a : Expr} {p p2 pos pos2 : Pos}
theorem rps_rg {K : PySem.W.Frag} {F : Hp} {n : Int} : RpAll K F (rgV 0 n) (rangeD 0 n.toNat) := by
  unfold rgV rangeD
  rw [Int.sub_zero]
  generalize List.range n.toNat = l
  induction l with
  | nil => exact .nil
  | cons x l ih => exact .cons (.int _) ih
theorem ex_listRg (hc : X.calm = true) (hl : Gl X "list") (hlm : X.mg "list" = none) (hg : Gl X "range") (hm : X.mg "range" = none) (n1 : starEach [a] X.env = (false, eval a X.env) :: starEach [] X.env)
    (n2 : starEach [Expr.Call (.Name "range" p2) [a] [] pos2] X.env = (false, eval (Expr.Call (.Name "range" p2) [a] [] pos2) X.env) :: starEach [] X.env)
    (h : EX B X a G M fun d M1 => ∃ n : Int, d = .int n ∧ 0 ≤ n ∧ n ≤ 16777216 ∧ Q (.lst (rangeD 0 n.toNat)) M1) : EX B X (.Call (.Name "list" p) [.Call (.Name "range" p2) [a] [] pos2] [] pos) G M Q := fun F σ H Q' r k =>
  WE.of (pe_listRg hc hl hlm (prg_1 hg hm pe_we n1) n2) (h F σ H _ r fun v H1 F1 d1 M1 ⟨n, e1, h0, h1, q⟩ s1 r1 p1 => by
    subst e1; cases p1
    exact ⟨n, rfl, RgOk.of_le (Int.le_refl 0) h1 (by decide) h0, fun l hl => (k.mono s1).new r1 hl q (.lst upd_same rps_rg)⟩)
end
end FL
/-! instances: fields, methods, making -/
namespace FL
open PySem PySem.Spec PyProof.Rows L2
/-- a field is set -/
def putD (f : Str) (d : D) : List (Str × D) → List (Str × D)
  | [] => [(f, d)]
  | (g, x) :: r => if g = f then (g, d) :: r else (g, x) :: putD f d r
section
variable {K : PySem.W.Frag} {F : Hp} {f : Str}
theorem FsRp.get {d : D} : ∀ {vs : List (Str × V)} {ds : List (Str × D)}, FsRp K F vs ds → ds.lookup f = some d → ∃ v, vs.lookup f = some v ∧ Rp K F v d
  | _, _, .nil, h => by cases h
  | _, _, @FsRp.cons _ _ k v vs e ds p r, h => by
    rw [List.lookup_cons] at h ⊢
    split at h
    · rename_i q
      cases h
      exact ⟨v, rfl, p⟩
    · exact r.get h
theorem FsRp.none : ∀ {vs : List (Str × V)} {ds : List (Str × D)}, FsRp K F vs ds → ds.lookup f = none → vs.lookup f = none
  | _, _, .nil, h => rfl
  | _, _, @FsRp.cons _ _ k v vs e ds p r, h => by
    rw [List.lookup_cons] at h ⊢
    split at h
    · cases h
    · exact r.none h
theorem FsRp.len : ∀ {vs : List (Str × V)} {ds : List (Str × D)}, FsRp K F vs ds → vs.length = ds.length
  | _, _, .nil => rfl
  | _, _, .cons _ r => by rw [List.length_cons, List.length_cons, r.len]
theorem FsRp.put {v : V} {d : D} (q : Rp K F v d) : ∀ {vs : List (Str × V)} {ds : List (Str × D)}, FsRp K F vs ds → FsRp K F (putF f v vs) (putD f d ds)
  | _, _, .nil => .cons q .nil
  | _, _, @FsRp.cons _ _ k w vs e ds p r => by
    unfold putF putD
    by_cases h : k = f
    · rw [if_pos h, if_pos h]; exact .cons q r
    · rw [if_neg h, if_neg h]; exact .cons p (r.put q)
end
/-- a method of the class at C -/
structure Mth (P : Program) (w : World) (K : PySem.W.Frag) (mg : Str → Option Value) (base : Heap) (k : Nat) (C : Addr) (m : Str) (sp : DSp) : Prop where
  ex : ∃ (f : Addr) (fd : FuncData) (ps : List Str), FnOk P w K mg base CX0 k f fd ps (lift K sp) ∧ Cls K C ∧ Meth K C m f ∧ Binds K fd ps []
/-- the class by its name, and its __init__ -/
structure Mkr (P : Program) (w : World) (K : PySem.W.Frag) (mg : Str → Option Value) (base : Heap) (k : Nat) (x : Str) (C : Addr) (sp : DSp) : Prop where
  ex : ∃ (f : Addr) (fd : FuncData) (ps : List Str), FnOk P w K mg base CX0 k f fd ps (lift K sp) ∧ Mk K C f ∧ mg x = some (.ref C) ∧ Binds K fd ps []
section
variable {B : Bs} {X : Cx} {a b c e o value : Expr} {es : List Expr} {G G' : Sl} {M M' : Mem} {Q : D → Mem → Prop} {E : En} {pos p pos' apos : Pos} {k : Nat} {x m f : Str} {sp : DSp} {C : Addr}
theorem ex_fld (hb : attributeBase e f X.env (eval e X.env) = eval e X.env) (h : EX B X e G M fun d M1 => ∃ a C fs v, d = .ref a ∧ M1 a = some (.ins C fs) ∧ Cls X.K C ∧ NoAttr X.K C f ∧ fs.lookup f = some v ∧ Q v M1) : EX B X (.Attribute e f pos) G M Q := fun F σ H Q' r kk =>
  WE.of (pe_fld pe_we hb) (h F σ H _ r fun v H1 F1 d1 M1 ⟨a, C, fs, y, e1, hm, c, n, l, q⟩ s1 r1 p1 => by
    subst e1; cases p1
    obtain ⟨_, dx, vs, hx, rx⟩ := r1.mem a _ hm
    obtain ⟨u, hu, ru⟩ := rx.get l
    exact ⟨a, C, dx, vs, u, rfl, hx, c, n, hu, (kk.mono s1).at r1 q ru⟩)
theorem make_use {F1 H1 : Hp} {σ : L2.St} {vs : List V} {ds : List D} {Q' : VK} {E0' : XK} (r1 : R B X.K F1 σ H1 G M) (p1 : RpAll X.K F1 vs ds) (q : ∀ x, M x = none → sp (.ref x :: ds) (mupd M x (.ins C [])) fun d M2 => d = .non ∧ Q (.ref x) M2) (kk : KE B X F1 σ G Q Q') :
    ∀ x dx, H1 x = none → H1 dx = none → dx ≠ x → lift X.K sp (.ref x :: vs) (upd (upd H1 dx (.own x)) x (.ins C dx [])) (fun v H2 => v = .non ∧ Q' (.ref x) H2) E0' := by
  intro x dx hx hd hne
  have r2 : R B X.K F1 σ (upd H1 dx (.own x)) G M := r1.heap (Same.upd_new hd)
  have hx2 : (upd H1 dx (.own x)) x = none := by rw [upd_ne (Ne.symm hne)]; exact hx
  have r3 : R B X.K F1 σ (upd (upd H1 dx (.own x)) x (.ins C dx [])) G (mupd M x (.ins C [])) := r2.newCell hx2 ⟨dx, [], upd_same, .nil⟩
  exact ⟨F1, _, _, _, .cons (.ref x) p1, r3.ex, r3.mem, q x (r1.freeM hx), fun d M' ⟨e, qd⟩ v H' F' s' k' e' m' rp => by
    subst e; cases rp
    exact ⟨rfl, kk (.ref x) H' F' (.ref x) M' qd s' ⟨r3.slots.mono s', e', m', r3.bf.trans s', r3.bk.trans k'⟩ (.ref x)⟩⟩
theorem ex_make (c : Mkr X.prog X.w X.K X.mg X.base k x C sp) (hr : Room (k + 1) X.A) (hg : Gl X x) (hdb : (x == ("__debug__" : Str)) = false)
    (he : starEach (e :: es) X.env = (false, eval e X.env) :: starEach es X.env) (hpl : (backTo pos (starEach es X.env)).any (·.1) = false)
    (h : AX B X (e :: es) G M fun ds M1 => ∀ x, M1 x = none → sp (.ref x :: ds) (mupd M1 x (.ins C [])) fun d M2 => d = .non ∧ Q (.ref x) M2) : EX B X (.Call (.Name x p) (e :: es) [] pos) G M Q := fun F σ H Q' r kk => by
  obtain ⟨f, fd, ps, Fo, mk, mgx, bd⟩ := c.ex
  refine WE.of (pe_make mk Fo hr hg mgx bd .nil pass0 pa_wa hdb he hpl) (h F σ H _ r fun vs H1 F1 ds M1 q1 s1 r1 p1 => ?_)
  intro y dx hx hd hne
  rw [List.append_nil]
  exact make_use r1 p1 q1 (kk.mono s1) y dx hx hd hne
end
end FL
/-! walks over lists that may be cells: the cell is known to stay as it is -/
namespace FL
open PySem PySem.Spec PyProof.Rows L2
section
variable {B : Bs} {X : Cx} {a b c e o tg iter elt : Expr} {es : List Expr} {G G' : Sl} {M M' : Mem} {Q : D → Mem → Prop} {E : En} {pos p pos' : Pos} {F F1 : Hp} {σ : L2.St} {st : Stmt} {sts rest body : List Stmt}
/-! ### comprehensions over such -/
theorem Ext.isL {M M' : Mem} {d : D} {ds : List D} (e : Ext M M') (h : IsL M d ds) : IsL M' d ds := by
  rcases h with h | ⟨l, h1, h2⟩
  · exact .inl h
  · exact .inr ⟨l, h1, e _ _ h2⟩
end
/-! ### fields -/
/-- the class at C, and names that it has not -/
structure Ki (K : PySem.W.Frag) (C : Addr) (l : List Str) : Prop where
  cls : Cls K C
  no : ∀ f ∈ l, NoAttr K C f
theorem lk_hit {k : Str} {d : D} {r : List (Str × D)} : List.lookup k ((k, d) :: r) = some d := by simp [List.lookup]
theorem lk_skip {k k' : Str} {d e : D} {r : List (Str × D)} (h : (k == k') = false) (q : List.lookup k r = some e) : List.lookup k ((k', d) :: r) = some e := by simp [List.lookup, h, q]
theorem lk_nil {k : Str} : List.lookup k ([] : List (Str × D)) = none := rfl
theorem lk_none {k k' : Str} {d : D} {r : List (Str × D)} (h : (k == k') = false) (q : List.lookup k r = none) : List.lookup k ((k', d) :: r) = none := by simp [List.lookup, h, q]
theorem put_hit {k : Str} {d e : D} {r : List (Str × D)} : putD k d ((k, e) :: r) = (k, d) :: r := by simp [putD]
theorem put_skip {k k' : Str} {d e : D} {r r' : List (Str × D)} (h : (k' == k) = false) (q : putD k d r = r') : putD k d ((k', e) :: r) = (k', e) :: r' := by
  have h' : ¬ k' = k := by simpa using h
  rw [putD, if_neg h', q]
theorem put_nil {k : Str} {d : D} : putD k d [] = [(k, d)] := rfl
section
variable {B : Bs} {X : Cx} {a b c e o value : Expr} {es : List Expr} {G G' : Sl} {M M' : Mem} {Q : D → Mem → Prop} {E : En} {pos p pos' apos : Pos} {f : Str}
theorem sx_fldK (hs : swapsWith value (some (.Attribute o f pos')) pos.line X.env = pure false) (h : EX B X value G M fun d M1 => EX B X o G M1 fun d2 M2 => ∃ x C fs fs' l, d2 = .ref x ∧ M2 x = some (.ins C fs) ∧ Ki X.K C l ∧ f ∈ l ∧ fs.length < 1000 ∧ putD f d fs = fs' ∧ E.nx G (mupd M2 x (.ins C fs'))) :
    SX B X (.Assign [.Attribute o f pos'] value pos) E G M :=
  fun F σ H D' r k =>
  WS.of (ps_fld pe_we pe_we hs) (h F σ H _ r fun v1 H1 F1 d1 M1 q1 s1 r1 p1 => q1 F1 σ H1 _ r1 fun v2 H2 F2 d2 M2 ⟨a, C, fs, fs', l, e2, hm, kk, hf, hl, hput, q⟩ s2 r2 p2 => by
    subst e2; cases p2; subst hput
    obtain ⟨_, dx, vs, hx, rx⟩ := r2.mem a _ hm
    refine ⟨a, C, dx, vs, rfl, hx, kk.cls, kk.no f hf, by rw [rx.len]; exact hl, k.nx _ _ F2 _ _ q (s1.trans s2) (r2.write hm ⟨dx, _, upd_same, rx.put (p1.mono s2)⟩)⟩)
/-- o.m(e, ..), the class by the receiver -/
theorem ex_methV {pl : Sem Bool} {m : Str} (hst : starEach (e :: es) X.env = (false, eval e X.env) :: starEach es X.env) (hpl : (backTo pos (starEach es X.env)).any (·.1) = false)
    (ht : eval (.Call (.Attribute o m apos) (e :: es) [] pos) X.env = (do
      let ov ← eval o X.env
      standAt apos.atName
      let (f, first) ← holding [ov] (getMethod ov m pl)
      callWith pos f first (backTo pos (starEach (e :: es) X.env)) (backToKw pos (keywordEach [] X.env))))
    (h : EX B X o G M fun d M1 => ∃ a C fs k sp, d = .ref a ∧ M1 a = some (.ins C fs) ∧ Mth X.prog X.w X.K X.mg X.base k C m sp ∧ Room k X.A ∧ fs.lookup m = none ∧ AX B X (e :: es) G M1 fun ds M2 => sp (.ref a :: ds) M2 Q) : EX B X (.Call (.Attribute o m apos) (e :: es) [] pos) G M Q := fun F σ H Q' r kk => by
  intro pins s I
  refine PySem.W.methodCall_KW (pl := pl) (thn (h F σ H (fun x H1 => ∃ a C dx fs f fd ps sp k, x = .ref a ∧ H1 a = some (.ins C dx fs) ∧ fs.lookup m = none ∧ FnOk X.prog X.w X.K X.mg X.base CX0 k f fd ps (lift X.K sp) ∧ Cls X.K C ∧ Meth X.K C m f ∧ Binds X.K fd ps [] ∧ Room k X.A ∧ WA X (e :: es) σ H1 fun vs H2 => lift X.K sp (.ref a :: vs) H2 Q' E0) r ?_ pins s I) fun u s1 ⟨x, H1, I1, rx, a, C, dx, fs, f, fd, ps, sp, k, ex, ea, l, Fo, cl, me, bd, hr, q⟩ => ?_) ht
  · rintro v H1 F1 d1 M1 ⟨a, C, fs, k, sp, e1, hm, c, hr, l, q⟩ s1 r1 p1
    subst e1; cases p1
    obtain ⟨f, fd, ps, Fo, cl, me, bd⟩ := c.ex
    obtain ⟨_, dx, vs, hx, rx⟩ := r1.mem a _ hm
    refine ⟨a, C, dx, vs, f, fd, ps, sp, k, rfl, hx, rx.none l, Fo, cl, me, bd, hr, q F1 σ H1 _ r1 fun us H2 F2 ds M2 q2 s2 r2 p2 => ?_⟩
    exact lift_use r2 (.cons (.ref a) p2) q2 (kk.mono (s1.trans s2))
  · subst ex
    obtain rfl : u = Value.ref a := rx
    refine getmeth_ok I1 ea cl me l ?_
    refine PySem.W.callWith_K (first := [.ref a]) (h₀ := X.base) I.ok.mod.kin me.kp (thn (q pos pins s1 I1) fun us s2 ⟨vs, H2, I2, r, q2⟩ => ⟨I2.kIn, ?_⟩) hst hpl
    exact run_fn (us := .ref a :: us) (vs := .ref a :: vs) (dvs := []) (ds := []) Fo hr bd .nil pass0 I2 (.cons rfl r) (by rw [List.append_nil]; exact q2)
theorem ex_methV0 {pl : Sem Bool} {m : Str}
    (ht : eval (.Call (.Attribute o m apos) [] [] pos) X.env = (do
      let ov ← eval o X.env
      standAt apos.atName
      let (f, first) ← holding [ov] (getMethod ov m pl)
      callWith pos f first (backTo pos (starEach [] X.env)) (backToKw pos (keywordEach [] X.env))))
    (h : EX B X o G M fun d M1 => ∃ a C fs k sp, d = .ref a ∧ M1 a = some (.ins C fs) ∧ Mth X.prog X.w X.K X.mg X.base k C m sp ∧ Room k X.A ∧ fs.lookup m = none ∧ sp [.ref a] M1 Q) : EX B X (.Call (.Attribute o m apos) [] [] pos) G M Q := fun F σ H Q' r kk => by
  intro pins s I
  refine PySem.W.methodCall_KW (pl := pl) (thn (h F σ H (fun x H1 => ∃ a C dx fs f fd ps sp k, x = .ref a ∧ H1 a = some (.ins C dx fs) ∧ fs.lookup m = none ∧ FnOk X.prog X.w X.K X.mg X.base CX0 k f fd ps (lift X.K sp) ∧ Cls X.K C ∧ Meth X.K C m f ∧ Binds X.K fd ps [] ∧ Room k X.A ∧ lift X.K sp [.ref a] H1 Q' E0) r ?_ pins s I) fun u s1 ⟨x, H1, I1, rx, a, C, dx, fs, f, fd, ps, sp, k, ex, ea, l, Fo, cl, me, bd, hr, q⟩ => ?_) ht
  · rintro v H1 F1 d1 M1 ⟨a, C, fs, k, sp, e1, hm, c, hr, l, q⟩ s1 r1 p1
    subst e1; cases p1
    obtain ⟨f, fd, ps, Fo, cl, me, bd⟩ := c.ex
    obtain ⟨_, dx, vs, hx, rx⟩ := r1.mem a _ hm
    exact ⟨a, C, dx, vs, f, fd, ps, sp, k, rfl, hx, rx.none l, Fo, cl, me, bd, hr, lift_use r1 (.cons (.ref a) .nil) q (kk.mono s1)⟩
  · subst ex
    obtain rfl : u = Value.ref a := rx
    refine getmeth_ok I1 ea cl me l ?_
    exact PySem.W.callWith_K0 (first := [.ref a]) I1.kIn me.kp (run_fn (us := [.ref a]) (vs := [.ref a]) (dvs := []) (ds := []) Fo hr bd .nil pass0 I1 (.cons rfl .nil) q)
end
end FL
/-! dicts by numbers and texts: displays, get -/
namespace FL
open PySem PySem.Spec PyProof.Rows L2
def valD (kds : List (Key × D)) (k : Key) : Option D := (kds.find? fun kd => decide (kd.1 = k)).map (·.2)
/-- a dict of kds: frozen, or a cell -/
def IsK (M : Mem) (d : D) (kds : List (Key × D)) : Prop := d = .dK kds ∨ ∃ l, d = .ref l ∧ M l = some (.dK kds)
section
variable {K : PySem.W.Frag} {F : Hp}
theorem RpKey.val {k : Key} : ∀ {kvs : List (Key × V)} {kds : List (Key × D)}, RpKey K F kvs kds → (valV kvs k = none ∧ valD kds k = none) ∨ ∃ v d, valV kvs k = some v ∧ valD kds k = some d ∧ Rp K F v d
  | _, _, .nil => .inl ⟨rfl, rfl⟩
  | _, _, @RpKey.cons _ _ k' v vs d ds p r => by
    by_cases e : k' = k
    · exact .inr ⟨v, d, valV_pos (p := (k', v)) e, by unfold valD; simp [e], p⟩
    · have e1 : valV ((k', v) :: vs) k = valV vs k := valV_neg (p := (k', v)) e
      have e2 : valD ((k', d) :: ds) k = valD ds k := by unfold valD; simp [e]
      rw [e1, e2]
      exact r.val
end
inductive RpP (K : PySem.W.Frag) (F : Hp) : List (V × V) → List (D × D) → Prop
  | nil : RpP K F [] []
  | cons {v w : V} {d e : D} {vs : List (V × V)} {ds : List (D × D)} : Rp K F v d → Rp K F w e → RpP K F vs ds → RpP K F ((v, w) :: vs) ((d, e) :: ds)
theorem RpP.mono {K : PySem.W.Frag} {F F' : Hp} (s : Same F F') : ∀ {vs : List (V × V)} {ds : List (D × D)}, RpP K F vs ds → RpP K F' vs ds
  | _, _, .nil => .nil
  | _, _, .cons a b r => .cons (a.mono s) (b.mono s) (RpP.mono s r)
def PX (B : Bs) (X : Cx) : List (Option Expr) → List Expr → Sl → Mem → (List (D × D) → Mem → Prop) → Prop
  | some k :: ks, v :: vs, G, M, Q => EX B X k G M fun x M1 => EX B X v G M1 fun y M2 => PX B X ks vs G M2 fun ps M3 => Q ((x, y) :: ps) M3
  | [], [], _, M, Q => Q [] M
  | _, _, _, _, _ => False
section
variable {B : Bs} {X : Cx} {a b c e o f : Expr} {G : Sl} {M : Mem} {Q : D → Mem → Prop} {pos apos : Pos}
/-- a test that comes out so, and changes nothing -/
theorem sx_ifF {A1 B1 : List Stmt} {E : En} (h : TX B X c G M fun t M1 => t = false ∧ M1 = M) (q : SXs B X B1 E G M) : SX B X (.If c A1 B1 pos) E G M := sx_if (h.imp fun t M1 ⟨e1, e2⟩ => by subst e1; subst e2; exact iteF q)
theorem sx_ifT {A1 B1 : List Stmt} {E : En} (h : TX B X c G M fun t M1 => t = true ∧ M1 = M) (q : SXs B X A1 E G M) : SX B X (.If c A1 B1 pos) E G M := sx_if (h.imp fun t M1 ⟨e1, e2⟩ => by subst e1; subst e2; exact iteT q)
theorem px_cons {ks : List (Option Expr)} {vs : List Expr} {Q : List (D × D) → Mem → Prop} (h : EX B X a G M fun x M1 => EX B X b G M1 fun y M2 => PX B X ks vs G M2 fun ps M3 => Q ((x, y) :: ps) M3) : PX B X (some a :: ks) (b :: vs) G M Q := h
theorem px_nil {Q : List (D × D) → Mem → Prop} (h : Q [] M) : PX B X [] [] G M Q := h
theorem IsK.at {K : PySem.W.Frag} {F H : Hp} {σ : L2.St} {d : D} {kds : List (Key × D)} {v : V} (h : IsK M d kds) (r : R B K F σ H G M) (p : Rp K F v d) : ∃ a kvs, v = .ref a ∧ H a = some (.dK kvs) ∧ RpKey K F kvs kds := by
  rcases h with rfl | ⟨l, rfl, hm⟩
  · cases p with
    | @dK a kvs _ hs rs => exact ⟨a, kvs, rfl, r.ex _ _ hs, rs⟩
  · cases p
    obtain ⟨_, kvs, hx, rx⟩ := r.mem l _ hm
    exact ⟨l, kvs, rfl, hx, rx⟩
end
end FL
/-! errors: raised, let out, caught -/
namespace FL
open PySem PySem.Spec PyProof.Rows L2
theorem Blt.any {X : Cx} {x : Str} {v : Value} (m : X.mg x = none) (g : Gl X x) (b : bootBuiltins x = some v) (n : x ≠ "__name__" := by decide) (d : (x == ("__debug__" : Str)) = false := by decide) : Blt X x v := ⟨g, m, b, n, d⟩
theorem bb_VE : bootBuiltins "ValueError" = some (.type "ValueError") := by decide +kernel
/-- an error as data: its class, and its field, a number -/
structure XD where
  C : Addr
  fl : Option (Str × Int)
def XRp (M : Mem) (cls : Value) (d : Option Addr) (x : XD) : Prop := cls = .ref x.C ∧ match x.fl with
  | none => d = none
  | some (f, n) => ∃ dd, d = some dd ∧ M dd = some (.xd f n)
/-- as R, of no slots -/
structure Rn (B : Bs) (K : PySem.W.Frag) (F H : Hp) (M : Mem) : Prop where
  ex : Same F H
  mem : MemOk K F H M
  bf : Same B.F F
  bk : Kp B.M B.H M H
abbrev XQ := XD → Mem → Prop
def XKd (B : Bs) (K : PySem.W.Frag) (Ex : XQ) : XK := fun cls d H => ∃ F M x, Rn B K F H M ∧ XRp M cls d x ∧ Ex x M
def TakesD (B : Bs) (X : Cx) (Ex : XQ) : Prop := Takes X (fun cls d _ H => XKd B X.K Ex cls d H)
/-- a promise to raise -/
abbrev DSpX := List D → Mem → XQ → Prop
def liftX (K : PySem.W.Frag) (sp : DSpX) : Sp := fun vs H _ E => ∃ F ds M Ex, RpAll K F vs ds ∧ Same F H ∧ MemOk K F H M ∧ sp ds M Ex ∧ ∀ x M', Ex x M' → ∀ cls d H' F', Same F F' → Kp M H M' H' → Same F' H' → MemOk K F' H' M' → XRp M' cls d x → E cls d H'
structure DfX (P : Program) (w : World) (K : PySem.W.Frag) (mg : Str → Option Value) (base : Heap) (k : Nat) (x : Str) (sp : DSpX) : Prop where
  ex : ∃ (f : Addr) (fd : FuncData) (ps : List Str), FnOk P w K mg base (L2.CX P w) k f fd ps (liftX K sp) ∧ mg x = some (.ref f) ∧ PySem.W.keepIn K (.ref f) = true ∧ Binds K fd ps []
section
variable {B : Bs} {X : Cx} {a b c e o : Expr} {es : List Expr} {G G' : Sl} {M M' : Mem} {Q : D → Mem → Prop} {E : En} {pos p pos' apos : Pos} {F F1 : Hp} {σ : L2.St} {k : Nat} {x m : Str} {sp : DSpX} {Ex : XQ} {C : Addr}
theorem R.rn {H : Hp} {K : PySem.W.Frag} (r : R B K F σ H G M) : Rn B K F H M := ⟨r.ex, r.mem, r.bf, r.bk⟩
theorem liftX_use {H1 : Hp} {vs : List V} {ds : List D} {Q' : VK} (r1 : R B X.K F1 σ H1 G M) (p1 : RpAll X.K F1 vs ds) (q : sp ds M Ex) : liftX X.K sp vs H1 Q' (XKd B X.K Ex) :=
  ⟨F1, ds, M, Ex, p1, r1.ex, r1.mem, q, fun x M' qd cls d H' F' s' k' e' m' rp => ⟨F', M', x, ⟨e', m', r1.bf.trans s', r1.bk.trans k'⟩, rp, qd⟩⟩
theorem ex_callX (c : DfX X.prog X.w X.K X.mg X.base k x sp) (tk : TakesD B X Ex) (hr : Room k X.A) (hg : Gl X x) (hdb : (x == ("__debug__" : Str)) = false)
    (he : starEach (e :: es) X.env = (false, eval e X.env) :: starEach es X.env) (hpl : (backTo pos (starEach es X.env)).any (·.1) = false)
    (h : AX B X (e :: es) G M fun ds M1 => sp ds M1 Ex) : EX B X (.Call (.Name x p) (e :: es) [] pos) G M Q := fun F σ H Q' r kk => by
  obtain ⟨f, fd, ps, Fo, mgx, kp, bd⟩ := c.ex
  refine WE.of (pe_call (E := XKd B X.K Ex) Fo hr hg mgx kp bd .nil (passes_call tk fun _ _ _ _ h => h) pa_wa hdb he hpl) (h F σ H _ r fun vs H1 F1 ds M1 q1 s1 r1 p1 => ?_)
  rw [List.append_nil]
  exact liftX_use r1 p1 q1
/-- nothing is gone on with -/
abbrev En.no : En := ⟨fun _ _ => False, fun _ _ => False, fun _ _ => False, fun _ _ => False⟩
theorem fun_okX {P : Program} {w : World} {K : PySem.W.Frag} {mg : Str → Option Value} {base : Heap} {x qual : Str} {st : Stmt} {f : Addr} {fd : FuncData} {N ps : List Str} {k : Nat} {sp : DSpX} (Fn : Fun K x qual st f fd) (S : FnScope N ps (defScope st))
    (len : ∀ ds M Ex, sp ds M Ex → ds.length = ps.length)
    (body : ∀ (cdv : Value) (A : Around) (outer : List Env) (s : Shared) (H : Hp) (E : XK), Room k (A.deeper (envOfC qual (defScope st) s.heap.objs.size f cdv)) → ∀ ds M Ex, sp ds M Ex → ∀ B : Bs,
      TakesD B (cxOf (L2.CX P w) P w K mg base N qual (defScope st) f cdv A outer s H E) Ex →
      SXs B (cxOf (L2.CX P w) P w K mg base N qual (defScope st) f cdv A outer s H E) (defBody st) En.no (startD N ds) M) : FnOk P w K mg base (L2.CX P w) (k + 1) f fd ps (liftX K sp) := by
  refine Fn.okX S (fun vs H Q E ⟨F, ds, M, Ex, p, _, _, h, _⟩ => by rw [p.length]; exact len ds M Ex h) fun cdv A outer s H vs Q E hr ⟨F, ds, M, Ex, p, ex, me, h, kk⟩ => ?_
  have tk : TakesD ⟨F, M, H⟩ (cxOf (L2.CX P w) P w K mg base N qual (defScope st) f cdv A outer s H E) Ex := by
    refine Takes.imp (takes_of (E := E) rfl rfl rfl rfl) fun cls d σ H' ⟨F', M', x, r, rp, q⟩ => ?_
    exact kk x M' q cls d H' F' r.bf r.bk r.ex r.mem rp
  refine ⟨_, pss_wss, body cdv A outer s H E hr ds M Ex h ⟨F, M, H⟩ tk F _ H _ ⟨start_ok p, ex, me, Same.refl F, Kp.refl M H⟩ ⟨?_, ?_, ?_, ?_⟩⟩
  · exact fun _ _ _ _ _ q => False.elim q
  · exact fun _ _ _ _ _ q => False.elim q
  · exact fun _ _ _ _ _ q => False.elim q
  · exact fun _ _ _ _ _ q => False.elim q
/-- an error class without __init__ -/
structure XcT (K : PySem.W.Frag) (mg : Str → Option Value) (x : Str) (C : Addr) : Prop where
  q : ∃ bmB, ExcBaseFacts "ValueError" "ValueError.__new__" "ValueError.__init__" bmB ∧ PySem.W.excIn K C bmB "ValueError.__new__" = true
  g : mg x = some (.ref C)
  k : PySem.W.keepIn K (.ref C) = true
  sb : PySem.W.subIn K (.ref C) (.type "BaseException") = some true
  ty : PySem.W.typeIn K (.ref C) = some (.type "type")
theorem sx_raiseT {j : Nat} {p2 : Pos} {t : Str} (c : XcT X.K X.mg x C) (tk : TakesD B X Ex) (hc : X.calm = true) (hg : Gl X x) (hdb : (x == ("__debug__" : Str)) = false) (q : Ex ⟨C, none⟩ M) : SX B X (.Raise (some (.Call (.Name x p) [.Constant (.str t) j p2] [] pos)) none pos') E G M := fun F σ H D' r kk => by
  obtain ⟨bmB, FB, hq⟩ := c.q
  exact WS.of (ps_raise hc tk (pmk_own FB hq c.g c.k (raises_own c.sb c.ty) hg hdb)) ⟨F, M, ⟨C, none⟩, r.rn, ⟨rfl, rfl⟩, q⟩
end
end FL
/-! errors: their making, what an except suite asks of them -/
namespace FL
open PySem PySem.Spec PyProof.Rows L2
/-- Base.__init__(self, ..), Base an own class over ValueError without __init__ -/
structure UpC (K : PySem.W.Frag) (mg : Str → Option Value) (x : Str) (L : Addr) : Prop where
  g : mg x = some (.ref L)
  rd : PySem.W.readsIn K L (.type "type") = true
  ga : PySem.W.specialIn K (.ref L) "__getattribute__" = some (some (.builtin "type.__getattribute__"))
  fc : PySem.W.findCls K (.ref L) (.type "type") "__init__" = some (.val (.builtin "ValueError.__init__"))
/-! ### count of flat items -/
section
variable {X : Cx}
def rCntF (K : PySem.W.Frag) : V → List V → Hp → VK → Prop := fun x xs H Q => ∃ (a : Addr) (ys : List V) (y : V), x = V.ref a ∧ xs = [y] ∧ SqL K H a ys ∧ flatV y = true ∧ ys.all flatV = true ∧ Q (.int (ys.countP fun z => eqV z y : Nat)) H
theorem count_rel {y : V} : ∀ {ys : List V} {us : List Value}, Vals ys us → ys.all flatV = true → us.countP (eqU y) = ys.countP fun z => eqV z y
  | _, _, .nil, _ => rfl
  | _, _, .cons r rs, h => by
    rw [List.all_cons, Bool.and_eq_true] at h
    rw [List.countP_cons, List.countP_cons, count_rel rs h.2, eqU_of r h.1]
theorem mt_cntF : MtR X "list.count" (rCntF X.K) := by
  intro pins s σ H x xs v us Q I rx rxs hh
  obtain ⟨a, ys, y, rfl, rfl, hs, fy, fys, q⟩ := hh
  cases rx
  obtain ⟨uy, rfl, ry⟩ := rxs.one
  obtain ⟨its, rv, ⟨⟨cls, dd, data, sl⟩, n, ho, hc, hdn, hd⟩, hlen⟩ := I.list hs
  simp only at hc hd
  subst hc hd
  refine call_meets PySem.F.slot_list_count ⟨_, ho, rfl⟩ PySem.F.entry_list_count (PySem.F.args_list_count_2 _ _) (SeqAt.list_countAt a its.toArray n dd sl uy (eqU y)) ⟨ho, fun u' hu' => mem_eqAt ry fy rv fys u' (by simpa using hu'), ?_⟩
  have ec : its.toArray.toList.countP (eqU y) = ys.countP fun z => eqV z y := count_rel rv fys
  rw [ec]
  exact ⟨.int (ys.countP fun z => eqV z y : Nat), H, I.tok _, ⟨s.toks, rfl⟩, q⟩
end
section
variable {B : Bs} {X : Cx} {G : Sl} {M : Mem} {Q : D → Mem → Prop} {d d2 : D} {es : List D}
theorem mx_count (hL : IsL M d es) (hf : d2.flat = true) (ha : es.all D.flat = true) {n : Nat} (hn : (es.countP fun z => eqV z.toV d2.toV) = n) (q : Q (.int (n : Nat)) M) : MX B X "list.count" d [d2] G M Q := fun F σ H Q' v vs r p1 pa kk => by
  obtain ⟨v2, rfl, rp⟩ := rp1 pa
  obtain ⟨a, ys, rfl, hy, ry⟩ := hL.at r p1
  obtain ⟨e1, f1⟩ := rp.flat hf
  obtain ⟨e2, f2⟩ := ry.flat ha
  subst e1; subst e2
  refine WM.of mt_cntF ⟨a, es.map D.toV, d2.toV, rfl, rfl, SqL.of hy, f1, f2, ?_⟩
  rw [List.countP_map]
  subst hn
  exact kk.at r q (.int _)
end
/-! ### an except suite -/
section
variable {B : Bs} {X : Cx} {a C D0 : Addr} {oe : Obj} {cls : Value} {dx : Option Addr} {pn : List (Addr × Obj)} {G : Sl} {M : Mem} {Q : D → Mem → Prop} {e : Expr} {pos : Pos} {f : Str}
/-- the error's dict is known -/
def DxK (M : Mem) : Option Addr → Prop
  | none => True
  | some p => ∃ f n, M p = some (.xd f n)
/-- isinstance(e, c), e the error that is held -/
def rIsX (K : PySem.W.Frag) (D0 a : Addr) (dx : Option Addr) : List V → Hp → VK → Prop := fun xs H Q => ∃ (c : V) (cv : Value) (b : Bool), xs = [.ref a, c] ∧ (∀ u, RelV c u → u = cv) ∧ PySem.W.kitOne K (.ref D0) cv = some b ∧ (∀ p, dx = some p → ∃ fs, H p = some (.xd fs)) ∧ Q (.bl b) H
theorem call_isX (T : ExcC X.K D0) (hz : Zc (.ref D0) dx oe) (hf : ∃ vs, oe.data = .fields vs) : CallR (X.suite a ((a, oe) :: pn)) (.builtin "isinstance") (rIsX X.K D0 a dx) := by
  intro pins s σ H xs us Q I r hh
  obtain ⟨c, cv, b, rfl, hcv, ek, hdx, q⟩ := hh
  obtain ⟨u1, u2, rfl, r1, r2⟩ := vals2 r
  cases (show u1 = Value.ref a from r1)
  have ec := hcv _ r2
  subst ec
  obtain ⟨hget, _⟩ := I.pin (a, oe) (List.mem_append.mpr (.inl List.mem_cons_self))
  obtain ⟨vs, hv⟩ := hf
  have J : ∃ od, PySem.W.InstAt s.heap a oe D0 od := by
    have nc : PySem.W.notCls oe = true := by unfold PySem.W.notCls; rw [hv]
    cases dx with
    | none => exact ⟨none, hget, hz.1, nc, by rw [hz.2]; trivial⟩
    | some p =>
      obtain ⟨fs, hp⟩ := hdx p rfl
      obtain ⟨o, ho⟩ := objOk_get (I.hok p _ hp)
      exact ⟨some o, hget, hz.1, nc, by rw [hz.2]; exact ho⟩
  obtain ⟨od, J⟩ := J
  have hcl : (PySem.W.clsIn X.K D0).isSome = true := by
    obtain ⟨cd, hc, _⟩ := PySem.W.any_some T.hd
    rw [hc]; rfl
  exact PySem.W.kia_one (PySem.W.kitx_exc hcl T.hg T.hk T.hs T.ha T.hn T.ht T.hm) I.kIn J ek (fun z => nomatch z) fun tk => ⟨.bl b, H, I.kept (t' := tk) fun _ _ z => z, rfl, q⟩
theorem DxK.at {F H : Hp} {σ : L2.St} {K : PySem.W.Frag} (r : R B K F σ H G M) (h : DxK M dx) : ∀ p, dx = some p → ∃ fs, H p = some (.xd fs) := fun p e => by
  subst e
  obtain ⟨f, n, hm⟩ := h
  exact ⟨_, (r.mem p _ hm).2⟩
theorem bx_isX {b : Bool} (T : ExcC X.K D0) (hz : Zc (.ref D0) dx oe) (hf : ∃ vs, oe.data = .fields vs) (hd : DxK M dx) (hk : PySem.W.kitOne X.K (.ref D0) (.ref C) = some b) (q : Q (.bl b) M) : BX B (X.suite a ((a, oe) :: pn)) (.builtin "isinstance") [.ref a, .ref C] G M Q := fun F σ H Q' vs r pa kk => by
  obtain ⟨v, v2, rfl, p1, p2⟩ := rp2 pa
  cases p1; cases p2
  exact WC.of (call_isX T hz hf) ⟨.ref C, .ref C, b, rfl, fun u h => h, hk, hd.at r, kk.at r q (.bl b)⟩
theorem bx_isXT {b : Bool} {t : String} (T : ExcC X.K D0) (hz : Zc (.ref D0) dx oe) (hf : ∃ vs, oe.data = .fields vs) (hd : DxK M dx) (hk : PySem.W.kitOne X.K (.ref D0) (.type t) = some b) (q : Q (.bl b) M) : BX B (X.suite a ((a, oe) :: pn)) (.builtin "isinstance") [.ref a, .ty t] G M Q := fun F σ H Q' vs r pa kk => by
  obtain ⟨v, v2, rfl, p1, p2⟩ := rp2 pa
  cases p1; cases p2
  exact WC.of (call_isX T hz hf) ⟨.ty t, .type t, b, rfl, fun u h => h, hk, hd.at r, kk.at r q (.bl b)⟩
end
/-! ### try: body / except x as n: suite, where the body raises -/
section
variable {B : Bs} {X : Cx} {x n : Str} {c : Value} {i : Nat} {body suite : List Stmt} {b₀ : Stmt} {np pos pos' : Pos} {G : Sl} {M : Mem} {E : En}
theorem takes_len {W W' : WX} (t : Takes X W) (h : ∀ c d σ H, σ.length = X.N.length → W' c d σ H → W c d σ H) : Takes X W' := fun u s' ⟨a, B, sI, pins, σ, H, cls, d, e, I, nb, up, sky, na, os, ag, w⟩ =>
  t u s' ⟨a, B, sI, pins, σ, H, cls, d, e, I, nb, up, sky, na, os, ag, h _ _ _ _ I.len w⟩
theorem slots_one {K : PySem.W.Frag} {F : Hp} {σ : L2.St} {m : Nat} {a : Addr} (h : σ.length = m) : SlotsOk K F (σ.set i (some (.ref a))) ((List.replicate m none).set i (some (.ref a))) := by
  refine SlotsOk.set (d := .ref a) ⟨by simp [h], fun j d q => ?_⟩ (.ref a)
  rw [List.getElem?_replicate] at q
  split at q <;> cases q
theorem sx_tryX (Ex : XQ) (hs : X.stack = X.env :: X.outer) (hf : X.env.frame = some X.env.locals) (hN : X.N.Nodup) (hi : X.N[i]? = some n) (hln : X.env.kindOf n = some .local) (hc : Names X x c)
    (hcls : ∀ y M', Ex y M' → PySem.W.exmOne X.K (.ref y.C) c = some true)
    (hb : ∀ (B' : Bs) (pn : List (Addr × Obj)) (xe : Value → Shared → Prop), Same B.F B'.F → TakesD B' (X.tr pn xe) Ex → SXs B' (X.tr pn xe) body En.no G M)
    (hsu : ∀ (a : Addr) (oe : Obj) (cls : Value) (d : Option Addr) (pn : List (Addr × Obj)) (y : XD) (M' : Mem), Zc cls d oe → (∃ vs, oe.data = .fields vs) → XRp M' cls d y → Ex y M' →
      SXs B (X.suite a ((a, oe) :: pn)) (b₀ :: suite) ⟨fun G1 M1 => E.nx (G1.set i none) M1, E.rt, fun G1 M1 => E.bk (G1.set i none) M1, fun G1 M1 => E.ct (G1.set i none) M1⟩ ((List.replicate X.N.length none).set i (some (.ref a))) M') :
    SX B X (.Try body [.ExceptHandler (some (.Name x np)) (some n) (b₀ :: suite) pos'] [] [] pos) E G M := fun F σ H D' r kk => by
  refine FL.WS.of (ps_try_as (Wout := fun _ _ _ _ => False) (tb := fun W D σ H => ∀ (pn : List (Addr × Obj)) (xe : Value → Shared → Prop), Takes (X.tr pn xe) W → WSs (X.tr pn xe) body D σ H)
    (ts := fun a cls d D σ H => ∀ (oe : Obj) (pn : List (Addr × Obj)), Zc cls d oe → (∃ vs, oe.data = .fields vs) → WSs (X.suite a ((a, oe) :: pn)) (b₀ :: suite) D σ H)
    hs hf hN hi hln hc LamX.takes0 (fun W pn xe tk _ => ⟨fun pins s σ H D I h => h pn xe tk pins s I⟩) (fun a oe cls d pn hz hfl => ⟨fun pins s σ H D I h => h oe pn hz hfl pins s I⟩)) ?_
  intro pn xe tk
  refine hb ⟨F, M, H⟩ pn xe r.bf (takes_len tk fun cls d σ1 H1 hl ⟨F1, M1, y, rn, xr, ex⟩ => ⟨true, ?_, fun _ a na oe pn1 hz hfl => ?_, fun z => nomatch z⟩) F σ H D' ⟨r.slots, r.ex, r.mem, Same.refl F, Kp.refl M H⟩ ⟨fun _ _ _ _ _ z => z.elim, fun _ _ _ _ _ z => z.elim, fun _ _ _ _ _ z => z.elim, fun _ _ _ _ _ z => z.elim⟩
  · rw [xr.1]; exact hcls y M1 ex
  · refine hsu a oe cls d pn1 y M1 hz hfl xr ex F1 _ H1 _ ⟨slots_one hl, rn.ex, rn.mem, r.bf.trans rn.bf, r.bk.trans rn.bk⟩ ?_
    have k2 := kk.mono (F1 := F1) rn.bf
    refine ⟨fun σ2 H2 F2 G2 M2 q s2 r2 => k2.nx _ H2 F2 _ M2 q s2 ⟨r2.slots.setNone, r2.ex, r2.mem, r2.bf, r2.bk⟩, k2.rt, fun σ2 H2 F2 G2 M2 q s2 r2 => k2.bk _ H2 F2 _ M2 q s2 ⟨r2.slots.setNone, r2.ex, r2.mem, r2.bf, r2.bk⟩, fun σ2 H2 F2 G2 M2 q s2 r2 => k2.ct _ H2 F2 _ M2 q s2 ⟨r2.slots.setNone, r2.ex, r2.mem, r2.bf, r2.bk⟩⟩
end
/-! ### tuple(range(..)) -/
end FL
set_option maxHeartbeats 2000000
/-! a lambda handed to a def that calls it -/
namespace FL
open PySem PySem.Spec PyProof.Rows L2
section
variable {X : Cx} {pins : List (Addr × Obj)} {σ : L2.St} {H : Hp} {s : Shared}
/-- as the library's making of a lambda, of one table: all but that table is kept -/
theorem lam_mk {q : Str} {c P : Addr} {params : Arguments} {body : Expr} {scope : Scope} {pos : Pos} {E : Value → Shared → Prop} {Q : Value → Shared → Prop} (I : Inv X pins σ H s) (TB : LamX.TabB X.base X.mg c P) (hcode : X.env.code = .ref c)
    (hq : q = X.env.qual ++ "<lambda>") (hT : LamX.TabS H P q) (hdef : defaultsOf params X.env = ([], [])) (hfree : ∀ y ∈ scope.names, y.2 = .free → ∃ c, X.env.cells.lookup y.1 = some c)
    (h : ∀ (f c' : Addr) (pm ctv : Value) (H1 : Hp) (s' : Shared), Inv X pins σ H1 s' → (∀ b o, b ≠ P → H b = some o → H1 b = some o) → LamX.TabS H1 P q →
      s'.heap.get? f = some (PySem.W.kla_obj "<lambda>" (X.env.qual ++ "<lambda>") params body scope (cloFrom X.env.cells scope.names []) pm c' ctv) → H1 f = none → f ∉ frs X.stack → H1 c' = some (LamX.CodeO c' q) → Q (.ref f) s') :
    wpAny (model X.prog X.w) X.A (eval (.Lambda params body scope pos) X.env) Q E s := by
  subst hq
  have hP' : s.heap.get? P = some { cls := .none, data := .fields hT.choose } := I.hok P _ hT.choose_spec.1
  obtain ⟨hP, ht, ha⟩ := hT.choose_spec
  generalize hT.choose = ps at hP ht ha hP'
  refine PySem.W.kla_eval hdef ?_
  have bP := TB.bm.keeps I.bk
  have far : ∀ f, s.heap.objs.size ≤ f → f ∉ frs X.stack := by
    intro f hf z
    rcases List.mem_cons.mp (I.stkSub _ z) with e | e
    · have h1 := I.lt
      rw [← e] at h1
      exact absurd h1 (Nat.not_lt.mpr hf)
    · exact I.nofs hf e
  cases hc : codeAmong pos ps.toList with
  | some cv =>
    obtain ⟨c', e, hco⟩ := ha pos cv hc
    subst e
    refine PySem.W.kla_makeFunctionHit (mg := X.mg) (c := c) (P := P) (ps := ps) (closure_ok hfree) I.ok.glob (I.mod.glob.keeps I.bk) hcode (TB.code.keeps I.bk) hP' ht hc bP ?_
    intro ctv h' tk hx hsz
    exact h h'.objs.size c' ((X.mg "__name__").getD .none) ctv H _ (I.kept fun b o e => Heap.get?_push_of_some _ (hx b o e)) (fun _ _ _ e => e) ⟨ps, hP, ht, ha⟩ (Heap.get?_push_size _ rfl) (I.hok.fresh hsz) (far _ hsz) hco
  | none =>
    refine PySem.W.kla_makeFunction (mg := X.mg) (c := c) (P := P) (ps := ps) (closure_ok hfree) I.ok.glob (I.mod.glob.keeps I.bk) hcode (TB.code.keeps I.bk) hP' ht hc TB.gP bP ?_
    intro c' ctv h' tk hx hge hlt hrec htb
    obtain ⟨c2, oc, vs, t, e2, hoc, hd, hv⟩ := hrec
    cases e2
    have nC : H c' = none := I.hok.fresh hge
    have hsz : s.heap.objs.size ≤ h'.objs.size := by omega
    have I1 := LamX.inv_table (t' := tk) (more := #[rawInt pos.line, rawInt pos.col, .ref c']) (h' := h'.push (PySem.W.kla_obj "<lambda>" (X.env.qual ++ "<lambda>") params body scope (cloFrom X.env.cells scope.names []) ((X.mg "__name__").getD .none) c' ctv)) I hP
      (fun b o hb e => Heap.get?_push_of_some _ (hx b o hb e)) (Heap.get?_push_of_some _ htb) hge ⟨oc, vs, t, Heap.get?_push_of_some _ hoc, hd, hv⟩
    have hPc : P ≠ c' := ne_of_none hP nC
    have hE : ∀ b o, b ≠ P → H b = some o → upd (upd H P (.tbl (ps ++ #[rawInt pos.line, rawInt pos.col, .ref c']))) c' (LamX.CodeO c' (X.env.qual ++ "<lambda>")) b = some o := by
      intro b o hb e
      rw [upd_ne (ne_of_none e nC), upd_ne hb]
      exact e
    have eL : (ps ++ #[rawInt pos.line, rawInt pos.col, .ref c']).toList = ps.toList ++ [rawInt pos.line, rawInt pos.col, .ref c'] := by simp
    refine h h'.objs.size c' ((X.mg "__name__").getD .none) ctv _ _ I1 hE ⟨_, by rw [upd_ne hPc, upd_same], by rw [eL]; exact PySem.TriplesOk_snoc _ _ _ _ ht, ?_⟩ (Heap.get?_push_size _ rfl) ?_ (far _ hsz) upd_same
    · intro p' cv hcv
      rw [eL] at hcv
      rcases LamX.among_app _ ht hcv with z | z
      · obtain ⟨c0, e1, e2⟩ := ha p' cv z
        refine ⟨c0, e1, hE _ _ (fun w => ?_) e2⟩
        rw [w, hP] at e2
        exact LamX.codeO_ne ps (Option.some.inj e2).symm
      · exact ⟨c', z, upd_same⟩
    · rw [upd_ne (Nat.ne_of_gt hlt), upd_ne (Nat.ne_of_gt (Nat.lt_of_lt_of_le (Heap.lt_size hP') hsz))]
      exact I.hok.fresh hsz
end
/-- the table's cell: what of the heap stays may grow by its code objects -/
theorem R.lam {B : Bs} {K : PySem.W.Frag} {F H H1 : Hp} {σ : L2.St} {G : Sl} {M : Mem} {P : Addr} {q : Str} (r : R B K F σ H G M) (hm : M P = some (.tbl q)) (hk : ∀ b o, b ≠ P → H b = some o → H1 b = some o) (hT : LamX.TabS H1 P q) :
    ∃ F1, Same F F1 ∧ R B K F1 σ H1 G M ∧ ∀ c, H1 c = some (LamX.CodeO c q) → F1 c = some (LamX.CodeO c q) := by
  classical
  have fP := (r.mem P _ hm).1
  have kF : ∀ b u, F b = some u → H1 b = some u := fun b u e => hk b u (fun z => by rw [z, fP] at e; cases e) (r.ex b u e)
  have noC : ∀ c, H1 c = some (LamX.CodeO c q) → M c = none := fun c hc => by
    cases e : M c with
    | none => rfl
    | some o =>
      exfalso
      have hne : c ≠ P := fun z => by
        obtain ⟨ps, h1, _⟩ := hT
        rw [z, h1] at hc
        exact LamX.codeO_ne ps (Option.some.inj hc).symm
      have hh := (r.mem c o e).2
      unfold LamX.CodeO at hc
      cases o with
      | lst ds => obtain ⟨xs, h1, _⟩ := hh; rw [hk _ _ hne h1] at hc; cases hc
      | ins C fs => obtain ⟨dx, xs, h1, _⟩ := hh; rw [hk _ _ hne h1] at hc; cases hc
      | dK fs => obtain ⟨xs, h1, _⟩ := hh; rw [hk _ _ hne h1] at hc; cases hc
      | dT fs => obtain ⟨xs, h1, _⟩ := hh; rw [hk _ _ hne h1] at hc; cases hc
      | tbl q' => obtain ⟨xs, h1, _⟩ := hh; rw [hk _ _ hne h1] at hc; cases hc
      | xd f n => rw [hk _ _ hne (show H c = _ from hh)] at hc; cases hc
  let F1 : Hp := fun b => if H1 b = some (LamX.CodeO b q) then H1 b else F b
  have s1 : Same F F1 := fun b u e => by
    show (if H1 b = some (LamX.CodeO b q) then H1 b else F b) = some u
    split
    · exact kF b u e
    · exact e
  have fc : ∀ c, H1 c = some (LamX.CodeO c q) → F1 c = some (LamX.CodeO c q) := fun c hc => by
    show (if H1 c = some (LamX.CodeO c q) then H1 c else F c) = _
    rw [if_pos hc]; exact hc
  refine ⟨F1, s1, ⟨r.slots.mono s1, fun b u e => ?_, fun a o e => ?_, r.bf.trans s1, r.bk.trans fun a u e m => ⟨hk a u (fun z => by rw [z, hm] at m; cases m) e, m⟩⟩, fc⟩
  · have e' : (if H1 b = some (LamX.CodeO b q) then H1 b else F b) = some u := e
    split at e'
    · exact e'
    · exact kF b u e'
  · constructor
    · show (if H1 a = some (LamX.CodeO a q) then H1 a else F a) = none
      rw [if_neg (fun z => by rw [noC a z] at e; cases e)]
      exact (r.mem a o e).1
    · by_cases ha : a = P
      · subst ha
        rw [hm] at e; cases e
        obtain ⟨ps, h1, h2, h3⟩ := hT
        refine ⟨ps, h1, h2, fun pos cv hc => ?_⟩
        obtain ⟨c, e1, e2⟩ := h3 pos cv hc
        exact ⟨c, e1, fc c e2⟩
      · exact ((r.mem a o e).2.mono s1).heap fun u hu => hk a u ha hu
/-- a def that calls what it is handed, which raises, and tells it by Wd -/
structure WordF (P : Program) (w : World) (K : PySem.W.Frag) (mg : Str → Option Value) (base : Heap) (x : Str) (Wd : XD → D → Prop) : Prop where
  ex : ∃ (g : Addr) (a : Str) (Ng : List Str) (pg : Arguments) (bg : List Stmt) (sg : Scope) (dV kV doc pm cdv ct oc : Value) (an od : Option Addr) (osl : Array (Option Value)), mg x = some (.ref g) ∧ PySem.W.keepIn K (.ref g) = true ∧
    K.lookup g = some ⟨oc, od, .func (PySem.W.fnOf x x pg bg sg dV kV doc pm an cdv ct), osl⟩ ∧ PySem.W.codeIn K cdv x = true ∧ L2.Binds K (PySem.W.fnOf x x pg bg sg dV kV doc pm an cdv ct) [a] [] ∧ FnScope Ng [a] sg ∧ Ng[0]? = some a ∧ Vis sg a ∧
    (a == ("__debug__" : Str)) = false ∧ (a == ("__classdict__" : Str)) = false ∧
    ∀ (A : Around) (outer : List Env) (s : Shared) (H : Hp) (B : Bs), Room 1 (A.deeper (envOfC x sg s.heap.objs.size g cdv)) → ∀ (f : Addr) (M : Mem) (Ex : XQ) (Q : D → Mem → Prop),
      (∀ y M', Ex y M' → ∃ d, Wd y d ∧ Q d M') →
      (∀ (B' : Bs) (pn : List (Addr × Obj)) (xe : Value → Shared → Prop) (G : Sl) (Q' : D → Mem → Prop) (p1 p2 : Pos), Same B.F B'.F → TakesD B' ((cxOf CX0 P w K mg base Ng x sg g cdv A outer s H E0).tr pn xe) Ex → G[0]? = some (some (.ref f)) →
        EX B' ((cxOf CX0 P w K mg base Ng x sg g cdv A outer s H E0).tr pn xe) (.Call (.Name a p1) [] [] p2) G M Q') →
      SXs B (cxOf CX0 P w K mg base Ng x sg g cdv A outer s H E0).nox bg (En.df Q) (startD Ng [.ref f]) M
section
variable {B : Bs} {X : Cx} {G : Sl} {M : Mem} {Q : D → Mem → Prop} {x : Str} {c P : Addr} {k : Nat} {params : Arguments} {body : Expr} {scope : Scope} {p lpos pos : Pos} {Wd : XD → D → Prop}
theorem ex_lam (Ex : XQ) (wd : WordF X.prog X.w X.K X.mg X.base x Wd) (hg : Gl X x) (hdb : (x == ("__debug__" : Str)) = false) (hP : M P = some (.tbl (X.env.qual ++ "<lambda>"))) (TB : LamX.TabB X.base X.mg c P) (hcode : X.env.code = .ref c) (hr : Room (k + 2) X.A)
    (L : LamX.LamS X.env.scope scope) (hdef : defaultsOf params X.env = ([], []))
    (hbind : ∀ (q : Str) (cl : List (Str × Addr)) (pm cv ctv : Value), bindArgs (PySem.W.kla_fn "<lambda>" q params body scope cl pm cv ctv) ⟨[], []⟩ = pure [])
    (hbody : ∀ (A : Around) (outer : List Env) (s : Shared) (H : Hp) (E : XK) (f c' : Addr) (B' : Bs), Room k (A.deeper (LamX.lamEnv X scope s.heap.objs.size f c')) → TakesD B' (LamX.lamCx X A outer s H E scope f c') Ex → EX B' (LamX.lamCx X A outer s H E scope f c') body G M (fun _ _ => False))
    (hQ : ∀ y M', Ex y M' → (∀ a o, M a = some o → M' a = some o) ∧ ∃ d, Wd y d ∧ Q d M) : EX B X (.Call (.Name x p) [.Lambda params body scope lpos] [] pos) G M Q := fun F σ H Q' r kk => by
  obtain ⟨g, a, Ng, pg, bg, sg, dV, kV, doc, pm, cdv, ct, oc, an, od, osl, hm, hkp, lk, hcg, hb, Sg, hNg, hva, hd, hcd, hw⟩ := wd.ex
  intro pins s I
  refine wpAny_Call_Name_kw (ld_glob I hg hm ?_ hdb)
  refine PySem.W.callWith_K (h₀ := X.base) I.ok.mod.kin hkp ?_ (by rfl) (by rfl)
  show wpAny _ _ (spliced ((false, eval (.Lambda params body scope lpos) X.env) :: backTo pos (starEach [] X.env))) _ _ s
  have hT : LamX.TabS H P (X.env.qual ++ "<lambda>") := by
    obtain ⟨_, ps, h1, h2, h3⟩ := r.mem P _ hP
    refine ⟨ps, h1, h2, fun pos cv hc => ?_⟩
    obtain ⟨c, e1, e2⟩ := h3 pos cv hc
    exact ⟨c, e1, r.ex _ _ e2⟩
  refine Calls.spliced_cons (lam_mk I TB hcode rfl hT hdef (L.has I.ok) fun f c' pm' ctv H1 s' I1 eN T1 hf hfn hfr hco => ?_)
  refine Calls.spliced_nil ⟨I1.kIn, ?_⟩
  obtain ⟨F1, sF, r1, fc⟩ := r.lam hP eN T1
  have rc : codeAny (model X.prog X.w) X.A (.call (.ref g) ⟨[.ref f], []⟩) (CR CX0 X.stack X.prog X.w H1 s' Q' E0) s' := by
    refine LamX.run_ofS (N := Ng) (ps := [a]) (us := [.ref f]) (vs := [.ref f]) lk hcg Sg hr I1.env0 (hb s' [.ref f] I1.kIn rfl) (.cons rfl .nil) rfl fun hr' => ?_
    refine ⟨_, (pss_wss (X := (cxOf CX0 X.prog X.w X.K X.mg X.base Ng x sg g cdv X.A X.stack s' H1 E0).nox) (st := bg)).nox, ?_⟩
    refine hw X.A X.stack s' H1 ⟨F1, M, H1⟩ (Room.mono hr' (by omega)) f M Ex (fun d M2 => (∀ a o, M a = some o → M2 a = some o) ∧ Q d M) (fun y M' hy => ?_) (fun B' pn xe G' Q2 p1 p2 sB tk hG => ?_) F1 _ H1 _ ⟨start_ok (.cons (.ref f) .nil), r1.ex, r1.mem, Same.refl F1, Kp.refl M H1⟩ ⟨?_, ?_, ?_, ?_⟩
    · obtain ⟨h1, d, h2, h3⟩ := hQ y M' hy
      exact ⟨d, h2, h1, h3⟩
    · intro FZ σZ HZ QZ rZ kZ
      have hact := LamX.pe_act (i := 0) (k := k) (E := XKd B' X.K Ex) (W := fun cls d _ H => XKd B' X.K Ex cls d H) (tb := fun σ2 H2 Q3 => ∀ (A : Around) (outer : List Env) (s : Shared) (H : Hp), Room k (A.deeper (LamX.lamEnv X scope s.heap.objs.size f c')) → FL.WE (LamX.lamCx X A outer s H (XKd B' X.K Ex) scope f c') body σ2 H2 Q3)
        (p1 := p1) (p2 := p2) I1 L hf hfn hfr (hbind _ _ _ _ _) tk (fun _ _ _ _ h => h) hr' (fun A outer s H hr2 => ⟨fun pins s3 σ3 H3 Q3 I3 h3 => h3 A outer s H hr2 pins s3 I3⟩) hNg hva hd hcd
      refine FL.WE.of hact ⟨?_, ?_, fun A outer s3 H3 hr3 => ?_⟩
      · obtain ⟨v, hv, rv⟩ := rZ.slots.2 0 _ hG
        cases rv
        exact hv
      · exact rZ.ex _ _ (rZ.bf _ _ (sB _ _ (fc c' hco)))
      · refine hbody A outer s3 H3 (XKd B' X.K Ex) f c' B' hr3 (takes_of rfl rfl rfl rfl) FZ σ HZ QZ ⟨r.slots.mono (sF.trans (sB.trans rZ.bf)), rZ.ex, rZ.mem, rZ.bf, rZ.bk⟩ fun _ _ _ _ _ z => z.elim
    · exact fun σ2 H2 F2 G2 M2 ⟨hx, q⟩ s2 r2 => kk .non H2 F2 .non M q (sF.trans s2) ⟨r1.slots.mono s2, r2.ex, fun a o e => r2.mem a o (hx a o e), r1.bf.trans s2, r1.bk.trans (r2.bk.trans (Kp.less hx))⟩ .non
    · exact fun v H2 F2 d M2 ⟨hx, q⟩ s2 ⟨_, _, r2⟩ rp => kk v H2 F2 d M q (sF.trans s2) ⟨r1.slots.mono s2, r2.ex, fun a o e => r2.mem a o (hx a o e), r1.bf.trans s2, r1.bk.trans (r2.bk.trans (Kp.less hx))⟩ rp
    · exact fun _ _ _ _ _ z => z.elim
    · exact fun _ _ _ _ _ z => z.elim
  refine wpAny_call (codeAny_mono rc fun r s2 hq => ?_)
  cases r with
  | error e => exact (show False from hq).elim
  | ok fl =>
    cases fl with
    | ret u => exact I1.after hq
    | next => exact False.elim hq
    | brk => exact False.elim hq
    | cont => exact False.elim hq
end
/-! ### a def whose code object is known -/
def CodeAt (K : PySem.W.Frag) (f : Addr) (cdv : Value) : Prop := ∃ (oc : Value) (od : Option Addr) (fd : FuncData) (osl : Array (Option Value)), K.lookup f = some ⟨oc, od, .func fd, osl⟩ ∧ fd.code = cdv
theorem CodeAt.one {K : PySem.W.Frag} {f : Addr} {u v : Value} (h : CodeAt K f u) (g : CodeAt K f v) : u = v := by
  obtain ⟨_, _, fd, _, e1, e2⟩ := h
  obtain ⟨_, _, fd', _, e3, e4⟩ := g
  rw [e1] at e3
  injection e3 with e3
  injection e3 with _ _ e3 _
  injection e3 with e3
  rw [← e2, ← e4, e3]
theorem fun_okC {P : Program} {w : World} {K : PySem.W.Frag} {mg : Str → Option Value} {base : Heap} {x qual : Str} {st : Stmt} {f : Addr} {fd : FuncData} {N ps : List Str} {k : Nat} {sp : DSp} (Fn : Fun K x qual st f fd) (S : FnScope N ps (defScope st))
    (len : ∀ ds M Q, sp ds M Q → ds.length = ps.length)
    (body : ∀ (cdv : Value) (A : Around) (outer : List Env) (s : Shared) (H : Hp) (E : XK), CodeAt K f cdv → Room k (A.deeper (envOfC qual (defScope st) s.heap.objs.size f cdv)) → ∀ ds M Q, sp ds M Q → ∀ B : Bs,
      SXs B (cxOf CX0 P w K mg base N qual (defScope st) f cdv A outer s H E).nox (defBody st) (En.df Q) (startD N ds) M) : FnOk P w K mg base CX0 (k + 1) f fd ps (lift K sp) := by
  obtain ⟨oc, od, kV, doc, pm, an, cdv, ct, osl, rfl, lk, hcd⟩ := Fn.ex
  refine fn_of lk hcd S (fun vs H Q E ⟨F, ds, M, Qd, p, _, _, h, _⟩ => by rw [p.length]; exact len ds M Qd h) fun A outer s H vs Q E hr ⟨F, ds, M, Qd, p, ex, me, h, kk⟩ => ?_
  refine ⟨_, (pss_wss (X := (cxOf CX0 P w K mg base N qual (defScope st) f cdv A outer s H E).nox)).nox, body cdv A outer s H E ⟨_, _, _, _, lk, rfl⟩ hr ds M Qd h ⟨F, M, H⟩ F _ H _ ⟨start_ok p, ex, me, Same.refl F, Kp.refl M H⟩ ⟨?_, ?_, ?_, ?_⟩⟩
  · exact fun σ' H' F' G' M' q s' r' => kk .non M' q .non H' F' s' r'.bk r'.ex r'.mem .non
  · exact fun v H' F' d M' q s' ⟨_, _, r'⟩ rp => kk d M' q v H' F' s' r'.bk r'.ex r'.mem rp
  · exact fun _ _ _ _ _ q => False.elim q
  · exact fun _ _ _ _ _ q => False.elim q
/-- the law, its table empty at first: at every script it tells True -/
def spTrueL (T : Addr) (q : Str) : DSp := fun ds M Q => ∃ ns : List Int, ds = [.fzl (ns.map D.int)] ∧ ns.length ≤ 63 ∧ M = mupd noM T (.tbl q) ∧ ∀ M', Q (.bl true) M'
theorem law_spL {K : PySem.W.Frag} {H : Hp} {a T : Addr} {q : Str} {ns : List Int} {E : XK} (hl : ns.length ≤ 63) (hT : H T = some (.tbl #[])) (hS : SqL K H a (ns.map V.int)) : lift K (spTrueL T q) [.ref a] H (fun v _ => v = .bl true) E := by
  have hS' : SqL K (L2.del H T) a (ns.map V.int) := by
    rcases hS with (h | ⟨o, h⟩) | h
    · refine .inl (.inl ?_)
      rw [L2.del_ne (fun z => by rw [z, hT] at h; cases h)]; exact h
    · refine .inl (.inr ⟨o, ?_⟩)
      rw [L2.del_ne (fun z => by rw [z, hT] at h; cases h)]; exact h
    · exact .inr h
  refine ⟨L2.del H T, [.fzl (ns.map D.int)], mupd noM T (.tbl q), fun d _ => d = .bl true, .cons (.fzl hS' RpAll.ints) .nil, fun b u e => ?_, fun b o e => ?_, ⟨ns, rfl, hl, rfl, fun _ => rfl⟩, fun d M' e v H' F' _ _ _ _ rp => by subst e; cases rp; rfl⟩
  · by_cases hb : b = T
    · rw [hb, L2.del_same] at e; cases e
    · rw [L2.del_ne hb] at e; exact e
  · by_cases hb : b = T
    · subst hb
      rw [mupd_same] at e; cases e
      refine ⟨L2.del_same, #[], hT, True.intro, fun pos cv hc => ?_⟩
      have z : codeAmong pos [] = some cv := hc
      simp [codeAmong] at z
    · rw [mupd_ne hb] at e; cases e
end FL
/-! what the head looks at for error classes -/
namespace FL
open PySem PySem.Spec PyProof.Rows L2
def excB (K : PySem.W.Frag) (C : Addr) : Bool := decide (PySem.W.findIn K (.ref C) "__getattribute__" = some (some (.builtin "BaseException.__getattribute__"))) && (decide (PySem.W.findIn K (.ref C) "__getattr__" = some none) && (decide (PySem.W.subIn K (.ref C) (.type "BaseException") = some true) && (PySem.W.hasDictIn K C && (decide (PySem.W.findIn K (.ref C) "__class__" = some (some (.builtin "object.__class__"))) && (decide (PySem.W.specialIn K (.builtin "object.__class__") "__get__" = some (some (.builtin "getset_descriptor.__get__"))) &&
  (decide (PySem.W.takesIn K (.builtin "object.__class__") = some true) && decide (PySem.W.mroIn K C (.type "object") = some true)))))))
theorem excB_ok {K : PySem.W.Frag} {C : Addr} (h : excB K C = true) : ExcC K C := by
  unfold excB at h
  obtain ⟨h1, h⟩ := Bool.and_eq_true_iff.mp h
  obtain ⟨h2, h⟩ := Bool.and_eq_true_iff.mp h
  obtain ⟨h3, h⟩ := Bool.and_eq_true_iff.mp h
  obtain ⟨h4, h⟩ := Bool.and_eq_true_iff.mp h
  obtain ⟨h5, h⟩ := Bool.and_eq_true_iff.mp h
  obtain ⟨h6, h⟩ := Bool.and_eq_true_iff.mp h
  obtain ⟨h7, h8⟩ := Bool.and_eq_true_iff.mp h
  exact ⟨of_decide_eq_true h1, of_decide_eq_true h2, of_decide_eq_true h3, h4, of_decide_eq_true h5, of_decide_eq_true h6, of_decide_eq_true h7, of_decide_eq_true h8⟩
def upB (K : PySem.W.Frag) (L : Addr) : Bool := PySem.W.readsIn K L (.type "type") && (decide (PySem.W.specialIn K (.ref L) "__getattribute__" = some (some (.builtin "type.__getattribute__"))) && (match PySem.W.findCls K (.ref L) (.type "type") "__init__" with
  | some (.val (.builtin n)) => n == "ValueError.__init__"
  | _ => false))
theorem upB_ok {K : PySem.W.Frag} {mg : Str → Option Value} {x : Str} {L : Addr} (g : mg x = some (.ref L)) (h : upB K L = true) : UpC K mg x L := by
  unfold upB at h
  obtain ⟨h1, h⟩ := Bool.and_eq_true_iff.mp h
  obtain ⟨h2, h3⟩ := Bool.and_eq_true_iff.mp h
  refine ⟨g, h1, of_decide_eq_true h2, ?_⟩
  split at h3
  · rename_i n e
    rw [e, beq_iff_eq.mp h3]
  · cases h3
theorem xcT_of {K : PySem.W.Frag} {mg : Str → Option Value} {x : Str} (g : mg x = some (.ref (He.ga K x))) (c : (He.Fa.exc x).ok K = true) : XcT K mg x (He.ga K x) := by
  obtain ⟨h1, h2, h3, h4⟩ := He.exc_ok c
  exact ⟨⟨_, PySem.F.excBase_ValueError, h1⟩, g, h2, h3, h4⟩
theorem cst_ref {K : PySem.W.Frag} {mg : Str → Option Value} {x : Str} {C : Addr} (g : mg x = some (.ref C)) : Cst K mg x (.ref C) := ⟨_, .ref C, g, rfl, fun F => .ref C⟩
/-- the law's code object, by the head's facts -/
theorem codeAt_of {K : PySem.W.Frag} {x qual : Str} {st : Stmt} {fd : FuncData} {p : He.Defn} (F : Fun K x qual st (He.fAd K p) fd) : CodeAt K (He.fAd K p) (.ref (He.cT K p).1) := by
  obtain ⟨oc, od, kV, doc, pm, an, cdv, ct, osl, rfl, lk, hcd⟩ := F.ex
  obtain ⟨c, rfl⟩ := He.codeIn_ref hcd
  exact ⟨oc, od, _, osl, lk, by rw [show (He.cT K p).1 = c from He.codeOf_eq lk rfl]⟩
/-! ### the Hook, with the table of the interpreter's own statics -/
def asS (g : Addr → Option Obj) (n : Nat) : List Addr := He.asD g n ++ [cStatics]
def obsY (n : Nat) (fa : List He.Fa) (fn : List He.DefD) (tf : List He.Defn) (ex : PySem.W.Frag → Bool) (g : Addr → Option Obj) : He.AlX :=
  (He.obsT fa fn [] (He.frT g (asS g n)), ex (He.frT g (asS g n)) && He.tabsB g tf (He.frT g (asS g n)))
theorem saysY {n : Nat} {fa : List He.Fa} {fn : List He.DefD} {tf : List He.Defn} {ex : PySem.W.Frag → Bool} {w : World} {h : Heap} (e : obsY n fa fn tf ex h.get? = He.valX fn [] w) : He.SaysX fa fn [] tf ex w h (He.frT h.get? (asS h.get? n)) := by
  have e1 := congrArg Prod.fst e
  have e2 : (ex (He.frT h.get? (asS h.get? n)) && He.tabsB h.get? tf (He.frT h.get? (asS h.get? n))) = true := congrArg Prod.snd e
  obtain ⟨h1, h2⟩ := Bool.and_eq_true_iff.mp e2
  have key := fun p hp => List.all_eq_true.mp (show (tf.all _) = true from h2) p hp
  have one : ∀ p ∈ tf, PySem.W.codeHdIn (He.frT h.get? (asS h.get? n)) (He.cT (He.frT h.get? (asS h.get? n)) p).1 (He.cT (He.frT h.get? (asS h.get? n)) p).2 = true ∧ ∃ o, h.get? (He.cT (He.frT h.get? (asS h.get? n)) p).2 = some o ∧ He.emptyTab o = true := by
    intro p hp
    obtain ⟨h3, h4⟩ := Bool.and_eq_true_iff.mp (key p hp)
    refine ⟨h3, ?_⟩
    cases q : h.get? (He.cT (He.frT h.get? (asS h.get? n)) p).2 with
    | none => rw [q] at h4; cases h4
    | some o => rw [q] at h4; exact ⟨o, rfl, h4⟩
  refine ⟨e1, h1, fun p hp => (one p hp).1, fun p hp => ?_, fun p hp => ?_⟩
  · obtain ⟨o, q, z⟩ := (one p hp).2
    exact He.frT_none q z
  · obtain ⟨o, q, z⟩ := (one p hp).2
    rw [q, He.emptyTab_eq z]
def hookY (n : Nat) (fa : List He.Fa) (fn : List He.DefD) (tf : List He.Defn) (ex : PySem.W.Frag → Bool) : PySem.W.Hook where
  α := He.AlX
  obs := fun s => obsY n fa fn tf ex s.heap.get?
  val := fun w => He.valX fn [] w
  says := fun w h => ∃ K : PySem.W.Frag, K.In h ∧ He.SaysX fa fn [] tf ex w h K
  of := fun _ _ e => ⟨_, He.frT_in, saysY e⟩
  keeps := fun _ _ _ ⟨K, i, c⟩ k => ⟨K, i.keeps k, c.t, c.more, c.hd, c.out, fun p hp => k _ _ (c.empty p hp)⟩
theorem obsY_eq {n : Nat} {fa : List He.Fa} {fn : List He.DefD} {tf : List He.Defn} {ex : PySem.W.Frag → Bool} {g : Addr → Option Obj} {s : Shared} (h : ∀ a, g a = s.heap.get? a) : obsY n fa fn tf ex g = (hookY n fa fn tf ex).obs s := by
  obtain rfl : g = s.heap.get? := funext h
  rfl
end FL
/-! range with a step; sorted -/
namespace FL
open PySem PySem.Spec PyProof.Rows L2
def rangeC (lo c : Int) (n : Nat) : List D := (List.range n).map fun i : Nat => D.int (lo + (i : Nat) * c)
theorem rangeC_len {lo c : Int} {n : Nat} : (rangeC lo c n).length = n := by simp [rangeC]
theorem rangeC_at {lo c : Int} {n i : Nat} {d : D} (h : (rangeC lo c n)[i]? = some d) : i < n ∧ d = .int (lo + (i : Nat) * c) := by
  unfold rangeC at h
  rw [List.getElem?_map] at h
  obtain ⟨j, hj, rfl⟩ := Option.map_eq_some_iff.mp h
  obtain ⟨h1, h2⟩ := List.getElem?_eq_some_iff.mp hj
  rw [List.getElem_range] at h2
  subst h2
  exact ⟨by simpa using h1, rfl⟩
section
variable {B : Bs} {X : Cx} {a b c e tg : Expr} {G : Sl} {M : Mem} {F : Hp} {p pos : Pos}
theorem wk_rangeC {K : PySem.W.Frag} {lo s : Int} {n : Nat} : Wk K F (Itc lo s n) (rangeC lo s n) where
  goes := fun i H hi _ => by rw [rangeC_len] at hi; exact hi
  stops := fun H _ => by
    show n ≤ _
    rw [rangeC_len]
    exact Nat.le_refl n
  yields := fun i H x H' hi _ y => by
    obtain ⟨e, y⟩ := y
    subst e; subst y
    have hi' : i < n := by rw [rangeC_len] at hi; exact hi
    exact ⟨.int (lo + (i : Nat) * s), by unfold rangeC; rw [List.getElem?_map, List.getElem?_range hi']; rfl, fun B F1 σ G M s1 r1 => ⟨F1, Same.refl F1, r1, .int _⟩⟩
theorem lx_range3 {Q : List D → Mem → Prop} (hg : Gl X "range") (hm : X.mg "range" = none) (hs : starEach [a, b, c] X.env = (false, eval a X.env) :: starEach [b, c] X.env) (hpl : (backTo pos (starEach [b, c] X.env)).any (·.1) = false)
    (h : AX B X [a, b, c] G M fun ds M1 => ∃ (i j s : Int) (n : Nat), ds = [.int i, .int j, .int s] ∧ RgC i j s n ∧ Q (rangeC i s n) M1) : LX B X tg (.Call (.Name "range" p) [a, b, c] [] pos) G M Q := fun F σ H R' r k =>
  WIt.of (pi_range3 hg hm pa_wa hs hpl) (h F σ H _ r fun vs H1 F1 ds M1 ⟨i, j, s, n, e1, hR, q⟩ s1 r1 p1 => by
    subst e1
    cases p1 with
    | cons x1 t1 =>
      cases t1 with
      | cons x2 t2 =>
        cases t2 with
        | cons x3 t3 =>
          cases t3
          cases x1; cases x2; cases x3
          exact ⟨i, j, s, n, rfl, hR, k _ _ F1 _ M1 q s1 r1 wk_rangeC⟩)
theorem bx_sortedL {Q : D → Mem → Prop} {d : D} {ns : List Int} (hL : IsL M d (ns.map D.int)) (hn : ns.length < 64) (q : ∀ ns' : List Int, ns'.Perm ns → ns'.Pairwise (· ≤ ·) → Q (.lst (ns'.map D.int)) M) : BX B X (.builtin "sorted") [d] G M Q := fun F σ H Q' vs r pa kk => by
  obtain ⟨v, rfl, rp⟩ := rp1 pa
  obtain ⟨a, xs, rfl, hx, rx⟩ := hL.at r rp
  have e := RpAll.ints_of rx
  subst e
  exact WC.of cr_sorted ⟨a, ns, rfl, SqL.of hx, hn, fun ns' p h1 h2 hp => kk.new r hp (q ns' h1 h2) (.lst upd_same RpAll.ints)⟩
end
theorem rgC_small {n lost : Nat} (h : n ≤ 6) (g : lost ≤ 3) : RgC 0 (((lost + 1) * n : Nat) : Int) ((lost : Int) + 1) n := by
  have key : ∀ n, n < 7 → ∀ l, l < 4 → ((((l : Nat) : Int) + 1) ≠ 0 ∧ (((l : Nat) : Int) + 1).natAbs < 1073741824 ∧ Builtin.Range.small 0 (((l + 1) * n : Nat) : Int) (((l : Nat) : Int) + 1) = true ∧ Builtin.Range.rangeSize 0 (((l + 1) * n : Nat) : Int) (((l : Nat) : Int) + 1) = n) := by decide +kernel
  exact key n (by omega) lost (by omega)
end FL
namespace Lw
open PySem PySem.Spec PyProof.Rows L2 FL
/-! the text by places -/
def top (i : Nat) : Stmt := PySem.Challenge.pw_faruplink_k19_sturdy_by_trying_all.main.body.getD i (.Pass ⟨0, 0, 0, 0⟩)
abbrev s_is_number : Stmt := top 19
abbrev n_is_number : List Str := ["part", "low", "high"]
theorem sc_is_number : FnScope n_is_number ["part", "low", "high"] (defScope s_is_number) := ⟨rfl, rfl, rfl, by decide +kernel, rfl, by decide +kernel, by decide +kernel⟩
theorem a_is_number_0 : atB n_is_number (defScope s_is_number) 0 "part" = true := by decide +kernel
theorem a_is_number_1 : atB n_is_number (defScope s_is_number) 1 "low" = true := by decide +kernel
theorem a_is_number_2 : atB n_is_number (defScope s_is_number) 2 "high" = true := by decide +kernel
abbrev X_is_number (P : Program) (w : World) (K : PySem.W.Frag) (mg : Str → Option Value) (base : Heap) (f : Addr) (cdv : Value) (A : Around) (outer : List Env) (s : Shared) (H : Hp) (E : XK) : Cx := (cxOf CX0 P w K mg base n_is_number "is_number" (defScope s_is_number) f cdv A outer s H E).nox
abbrev s_is_command : Stmt := top 20
abbrev n_is_command : List Str := ["part", "number", "wants", "one", "k"]
theorem sc_is_command : FnScope n_is_command ["part", "number"] (defScope s_is_command) := ⟨rfl, rfl, rfl, by decide +kernel, rfl, by decide +kernel, by decide +kernel⟩
theorem a_is_command_0 : atB n_is_command (defScope s_is_command) 0 "part" = true := by decide +kernel
theorem a_is_command_1 : atB n_is_command (defScope s_is_command) 1 "number" = true := by decide +kernel
theorem a_is_command_2 : atB n_is_command (defScope s_is_command) 2 "wants" = true := by decide +kernel
abbrev s_need_book : Stmt := top 21
abbrev n_need_book : List Str := ["book", "number", "command"]
theorem sc_need_book : FnScope n_need_book ["book"] (defScope s_need_book) := ⟨rfl, rfl, rfl, by decide +kernel, rfl, by decide +kernel, by decide +kernel⟩
theorem a_need_book_0 : atB n_need_book (defScope s_need_book) 0 "book" = true := by decide +kernel
theorem a_need_book_1 : atB n_need_book (defScope s_need_book) 1 "number" = true := by decide +kernel
theorem a_need_book_2 : atB n_need_book (defScope s_need_book) 2 "command" = true := by decide +kernel
abbrev s_need_delay : Stmt := top 22
abbrev n_need_delay : List Str := ["delay"]
theorem sc_need_delay : FnScope n_need_delay ["delay"] (defScope s_need_delay) := ⟨rfl, rfl, rfl, by decide +kernel, rfl, by decide +kernel, by decide +kernel⟩
theorem a_need_delay_0 : atB n_need_delay (defScope s_need_delay) 0 "delay" = true := by decide +kernel
abbrev s_need_windows : Stmt := top 23
abbrev n_need_windows : List Str := ["windows", "last", "pair"]
theorem sc_need_windows : FnScope n_need_windows ["windows"] (defScope s_need_windows) := ⟨rfl, rfl, rfl, by decide +kernel, rfl, by decide +kernel, by decide +kernel⟩
theorem a_need_windows_0 : atB n_need_windows (defScope s_need_windows) 0 "windows" = true := by decide +kernel
theorem a_need_windows_1 : atB n_need_windows (defScope s_need_windows) 1 "last" = true := by decide +kernel
theorem a_need_windows_2 : atB n_need_windows (defScope s_need_windows) 2 "pair" = true := by decide +kernel
abbrev s_is_open : Stmt := top 24
abbrev n_is_open : List Str := ["windows", "beat", "pair"]
theorem sc_is_open : FnScope n_is_open ["windows", "beat"] (defScope s_is_open) := ⟨rfl, rfl, rfl, by decide +kernel, rfl, by decide +kernel, by decide +kernel⟩
theorem a_is_open_0 : atB n_is_open (defScope s_is_open) 0 "windows" = true := by decide +kernel
theorem a_is_open_1 : atB n_is_open (defScope s_is_open) 1 "beat" = true := by decide +kernel
abbrev s_done_at : Stmt := top 28
abbrev n_done_at : List Str := ["book", "comes", "found", "number", "command", "when", "until", "wants", "some", "beat", "one"]
theorem sc_done_at : FnScope n_done_at ["book", "comes"] (defScope s_done_at) := ⟨rfl, rfl, rfl, by decide +kernel, rfl, by decide +kernel, by decide +kernel⟩
theorem a_done_at_0 : atB n_done_at (defScope s_done_at) 0 "book" = true := by decide +kernel
theorem a_done_at_1 : atB n_done_at (defScope s_done_at) 1 "comes" = true := by decide +kernel
theorem a_done_at_2 : atB n_done_at (defScope s_done_at) 2 "found" = true := by decide +kernel
theorem a_done_at_3 : atB n_done_at (defScope s_done_at) 3 "number" = true := by decide +kernel
theorem a_done_at_4 : atB n_done_at (defScope s_done_at) 4 "command" = true := by decide +kernel
theorem a_done_at_5 : atB n_done_at (defScope s_done_at) 5 "when" = true := by decide +kernel
theorem a_done_at_6 : atB n_done_at (defScope s_done_at) 6 "until" = true := by decide +kernel
theorem a_done_at_7 : atB n_done_at (defScope s_done_at) 7 "wants" = true := by decide +kernel
theorem a_done_at_8 : atB n_done_at (defScope s_done_at) 8 "some" = true := by decide +kernel
theorem a_done_at_9 : atB n_done_at (defScope s_done_at) 9 "beat" = true := by decide +kernel
abbrev s_orders : Stmt := top 29
abbrev n_orders : List Str := ["many", "found", "turn", "longer", "order", "number"]
theorem sc_orders : FnScope n_orders ["many"] (defScope s_orders) := ⟨rfl, rfl, rfl, by decide +kernel, rfl, by decide +kernel, by decide +kernel⟩
theorem a_orders_0 : atB n_orders (defScope s_orders) 0 "many" = true := by decide +kernel
theorem a_orders_1 : atB n_orders (defScope s_orders) 1 "found" = true := by decide +kernel
theorem a_orders_2 : atB n_orders (defScope s_orders) 2 "turn" = true := by decide +kernel
theorem a_orders_3 : atB n_orders (defScope s_orders) 3 "longer" = true := by decide +kernel
theorem a_orders_4 : atB n_orders (defScope s_orders) 4 "order" = true := by decide +kernel
abbrev s_open_beats : Stmt := top 30
abbrev n_open_beats : List Str := ["windows", "many", "beat"]
theorem sc_open_beats : FnScope n_open_beats ["windows", "many"] (defScope s_open_beats) := ⟨rfl, rfl, rfl, by decide +kernel, rfl, by decide +kernel, by decide +kernel⟩
theorem a_open_beats_0 : atB n_open_beats (defScope s_open_beats) 0 "windows" = true := by decide +kernel
theorem a_open_beats_1 : atB n_open_beats (defScope s_open_beats) 1 "many" = true := by decide +kernel
abbrev s_best_order : Stmt := top 31
abbrev n_best_order : List Str := ["book", "delay", "beats", "best", "order", "comes", "done", "number"]
theorem sc_best_order : FnScope n_best_order ["book", "delay", "beats"] (defScope s_best_order) := ⟨rfl, rfl, rfl, by decide +kernel, rfl, by decide +kernel, by decide +kernel⟩
theorem a_best_order_0 : atB n_best_order (defScope s_best_order) 0 "book" = true := by decide +kernel
theorem a_best_order_1 : atB n_best_order (defScope s_best_order) 1 "delay" = true := by decide +kernel
theorem a_best_order_2 : atB n_best_order (defScope s_best_order) 2 "beats" = true := by decide +kernel
theorem a_best_order_3 : atB n_best_order (defScope s_best_order) 3 "best" = true := by decide +kernel
theorem a_best_order_4 : atB n_best_order (defScope s_best_order) 4 "order" = true := by decide +kernel
theorem a_best_order_5 : atB n_best_order (defScope s_best_order) 5 "comes" = true := by decide +kernel
theorem a_best_order_6 : atB n_best_order (defScope s_best_order) 6 "done" = true := by decide +kernel
abbrev s_soonest : Stmt := top 32
abbrev n_soonest : List Str := ["book", "delay", "windows"]
theorem sc_soonest : FnScope n_soonest ["book", "delay", "windows"] (defScope s_soonest) := ⟨rfl, rfl, rfl, by decide +kernel, rfl, by decide +kernel, by decide +kernel⟩
theorem a_soonest_0 : atB n_soonest (defScope s_soonest) 0 "book" = true := by decide +kernel
theorem a_soonest_1 : atB n_soonest (defScope s_soonest) 1 "delay" = true := by decide +kernel
theorem a_soonest_2 : atB n_soonest (defScope s_soonest) 2 "windows" = true := by decide +kernel
abbrev s_sturdy : Stmt := top 33
abbrev n_sturdy : List Str := ["book", "delay", "windows", "lost", "often", "beats", "best", "k"]
theorem sc_sturdy : FnScope n_sturdy ["book", "delay", "windows", "lost"] (defScope s_sturdy) := ⟨rfl, rfl, rfl, by decide +kernel, rfl, by decide +kernel, by decide +kernel⟩
theorem a_sturdy_0 : atB n_sturdy (defScope s_sturdy) 0 "book" = true := by decide +kernel
theorem a_sturdy_1 : atB n_sturdy (defScope s_sturdy) 1 "delay" = true := by decide +kernel
theorem a_sturdy_2 : atB n_sturdy (defScope s_sturdy) 2 "windows" = true := by decide +kernel
theorem a_sturdy_3 : atB n_sturdy (defScope s_sturdy) 3 "lost" = true := by decide +kernel
theorem a_sturdy_4 : atB n_sturdy (defScope s_sturdy) 4 "often" = true := by decide +kernel
theorem a_sturdy_5 : atB n_sturdy (defScope s_sturdy) 5 "beats" = true := by decide +kernel
theorem a_sturdy_6 : atB n_sturdy (defScope s_sturdy) 6 "best" = true := by decide +kernel
abbrev s_need_sends : Stmt := top 36
abbrev n_need_sends : List Str := ["book", "sends", "last", "at", "pair"]
theorem sc_need_sends : FnScope n_need_sends ["book", "sends"] (defScope s_need_sends) := ⟨rfl, rfl, rfl, by decide +kernel, rfl, by decide +kernel, by decide +kernel⟩
theorem a_need_sends_0 : atB n_need_sends (defScope s_need_sends) 0 "book" = true := by decide +kernel
theorem a_need_sends_1 : atB n_need_sends (defScope s_need_sends) 1 "sends" = true := by decide +kernel
theorem a_need_sends_2 : atB n_need_sends (defScope s_need_sends) 2 "last" = true := by decide +kernel
theorem a_need_sends_3 : atB n_need_sends (defScope s_need_sends) 3 "at" = true := by decide +kernel
theorem a_need_sends_4 : atB n_need_sends (defScope s_need_sends) 4 "pair" = true := by decide +kernel
abbrev s_all_done : Stmt := top 37
abbrev n_all_done : List Str := ["book", "delay", "sends", "comes", "beat", "number"]
theorem sc_all_done : FnScope n_all_done ["book", "delay", "sends"] (defScope s_all_done) := ⟨rfl, rfl, rfl, by decide +kernel, rfl, by decide +kernel, by decide +kernel⟩
theorem a_all_done_0 : atB n_all_done (defScope s_all_done) 0 "book" = true := by decide +kernel
theorem a_all_done_1 : atB n_all_done (defScope s_all_done) 1 "delay" = true := by decide +kernel
theorem a_all_done_2 : atB n_all_done (defScope s_all_done) 2 "sends" = true := by decide +kernel
theorem a_all_done_3 : atB n_all_done (defScope s_all_done) 3 "comes" = true := by decide +kernel
theorem a_all_done_4 : atB n_all_done (defScope s_all_done) 4 "beat" = true := by decide +kernel
theorem a_all_done_5 : atB n_all_done (defScope s_all_done) 5 "number" = true := by decide +kernel
abbrev s_choices : Stmt := top 38
abbrev n_choices : List Str := ["many", "size", "low", "found", "number", "rest"]
theorem sc_choices : FnScope n_choices ["many", "size", "low"] (defScope s_choices) := ⟨rfl, rfl, rfl, by decide +kernel, rfl, by decide +kernel, by decide +kernel⟩
theorem a_choices_0 : atB n_choices (defScope s_choices) 0 "many" = true := by decide +kernel
theorem a_choices_1 : atB n_choices (defScope s_choices) 1 "size" = true := by decide +kernel
theorem a_choices_2 : atB n_choices (defScope s_choices) 2 "low" = true := by decide +kernel
theorem a_choices_3 : atB n_choices (defScope s_choices) 3 "found" = true := by decide +kernel
theorem a_choices_4 : atB n_choices (defScope s_choices) 4 "number" = true := by decide +kernel
abbrev s_weak : Stmt := top 39
abbrev n_weak : List Str := ["book", "delay", "sends", "most", "size", "lost", "k"]
theorem sc_weak : FnScope n_weak ["book", "delay", "sends", "most"] (defScope s_weak) := ⟨rfl, rfl, rfl, by decide +kernel, rfl, by decide +kernel, by decide +kernel⟩
theorem a_weak_0 : atB n_weak (defScope s_weak) 0 "book" = true := by decide +kernel
theorem a_weak_1 : atB n_weak (defScope s_weak) 1 "delay" = true := by decide +kernel
theorem a_weak_2 : atB n_weak (defScope s_weak) 2 "sends" = true := by decide +kernel
theorem a_weak_3 : atB n_weak (defScope s_weak) 3 "most" = true := by decide +kernel
theorem a_weak_4 : atB n_weak (defScope s_weak) 4 "size" = true := by decide +kernel
theorem a_weak_5 : atB n_weak (defScope s_weak) 5 "lost" = true := by decide +kernel
abbrev s_L_taken : Stmt := top 41
abbrev n_L_taken : List Str := ["_law_row", "_law_many", "_law_cell"]
theorem sc_L_taken : FnScope n_L_taken ["_law_row", "_law_many"] (defScope s_L_taken) := ⟨rfl, rfl, rfl, by decide +kernel, rfl, by decide +kernel, by decide +kernel⟩
theorem a_L_taken_0 : atB n_L_taken (defScope s_L_taken) 0 "_law_row" = true := by decide +kernel
theorem a_L_taken_1 : atB n_L_taken (defScope s_L_taken) 1 "_law_many" = true := by decide +kernel
theorem a_L_taken_2 : atB n_L_taken (defScope s_L_taken) 2 "_law_cell" = true := by decide +kernel
abbrev X_L_taken (P : Program) (w : World) (K : PySem.W.Frag) (mg : Str → Option Value) (base : Heap) (f : Addr) (cdv : Value) (A : Around) (outer : List Env) (s : Shared) (H : Hp) (E : XK) : Cx := (cxOf CX0 P w K mg base n_L_taken "_law_taken" (defScope s_L_taken) f cdv A outer s H E).nox
abbrev s_L_alike : Stmt := top 42
abbrev n_L_alike : List Str := ["_law_found", "_law_due", "_law_k"]
theorem sc_L_alike : FnScope n_L_alike ["_law_found", "_law_due"] (defScope s_L_alike) := ⟨rfl, rfl, rfl, by decide +kernel, rfl, by decide +kernel, by decide +kernel⟩
theorem a_L_alike_0 : atB n_L_alike (defScope s_L_alike) 0 "_law_found" = true := by decide +kernel
theorem a_L_alike_1 : atB n_L_alike (defScope s_L_alike) 1 "_law_due" = true := by decide +kernel
abbrev s_L_word : Stmt := top 43
abbrev n_L_word : List Str := ["_law_work", "e", "_law_kinds", "_law_words", "_law_word_here"]
theorem sc_L_word : FnScope n_L_word ["_law_work"] (defScope s_L_word) := ⟨rfl, rfl, rfl, by decide +kernel, rfl, by decide +kernel, by decide +kernel⟩
theorem a_L_word_0 : atB n_L_word (defScope s_L_word) 0 "_law_work" = true := by decide +kernel
theorem a_L_word_1 : atB n_L_word (defScope s_L_word) 1 "e" = true := by decide +kernel
theorem a_L_word_2 : atB n_L_word (defScope s_L_word) 2 "_law_kinds" = true := by decide +kernel
theorem a_L_word_3 : atB n_L_word (defScope s_L_word) 3 "_law_words" = true := by decide +kernel
theorem a_L_word_4 : atB n_L_word (defScope s_L_word) 4 "_law_word_here" = true := by decide +kernel
abbrev s_L_book : Stmt := top 44
abbrev n_L_book : List Str := ["_law_row", "_law_most", "_law_far", "_law_found", "_law_number", "_law_when", "_law_until", "_law_wants", "_law_one"]
theorem sc_L_book : FnScope n_L_book ["_law_row", "_law_most", "_law_far"] (defScope s_L_book) := ⟨rfl, rfl, rfl, by decide +kernel, rfl, by decide +kernel, by decide +kernel⟩
theorem a_L_book_0 : atB n_L_book (defScope s_L_book) 0 "_law_row" = true := by decide +kernel
theorem a_L_book_1 : atB n_L_book (defScope s_L_book) 1 "_law_most" = true := by decide +kernel
theorem a_L_book_2 : atB n_L_book (defScope s_L_book) 2 "_law_far" = true := by decide +kernel
theorem a_L_book_3 : atB n_L_book (defScope s_L_book) 3 "_law_found" = true := by decide +kernel
theorem a_L_book_4 : atB n_L_book (defScope s_L_book) 4 "_law_number" = true := by decide +kernel
theorem a_L_book_5 : atB n_L_book (defScope s_L_book) 5 "_law_when" = true := by decide +kernel
theorem a_L_book_6 : atB n_L_book (defScope s_L_book) 6 "_law_until" = true := by decide +kernel
theorem a_L_book_7 : atB n_L_book (defScope s_L_book) 7 "_law_wants" = true := by decide +kernel
abbrev s_L_windows : Stmt := top 45
abbrev n_L_windows : List Str := ["_law_row", "_law_far", "_law_found", "_law_last", "_law_begin", "_law_end"]
theorem sc_L_windows : FnScope n_L_windows ["_law_row", "_law_far"] (defScope s_L_windows) := ⟨rfl, rfl, rfl, by decide +kernel, rfl, by decide +kernel, by decide +kernel⟩
theorem a_L_windows_0 : atB n_L_windows (defScope s_L_windows) 0 "_law_row" = true := by decide +kernel
theorem a_L_windows_1 : atB n_L_windows (defScope s_L_windows) 1 "_law_far" = true := by decide +kernel
theorem a_L_windows_2 : atB n_L_windows (defScope s_L_windows) 2 "_law_found" = true := by decide +kernel
theorem a_L_windows_3 : atB n_L_windows (defScope s_L_windows) 3 "_law_last" = true := by decide +kernel
theorem a_L_windows_4 : atB n_L_windows (defScope s_L_windows) 4 "_law_begin" = true := by decide +kernel
theorem a_L_windows_5 : atB n_L_windows (defScope s_L_windows) 5 "_law_end" = true := by decide +kernel
abbrev s_L_open : Stmt := top 46
abbrev n_L_open : List Str := ["_law_windows_here", "_law_beat", "_law_one"]
theorem sc_L_open : FnScope n_L_open ["_law_windows_here", "_law_beat"] (defScope s_L_open) := ⟨rfl, rfl, rfl, by decide +kernel, rfl, by decide +kernel, by decide +kernel⟩
theorem a_L_open_0 : atB n_L_open (defScope s_L_open) 0 "_law_windows_here" = true := by decide +kernel
theorem a_L_open_1 : atB n_L_open (defScope s_L_open) 1 "_law_beat" = true := by decide +kernel
abbrev s_L_beaten : Stmt := top 47
abbrev n_L_beaten : List Str := ["_law_book_here", "_law_state", "_law_letters", "_law_beat", "_law_found", "_law_word_here", "_law_number", "_law_when", "_law_until", "_law_wants", "_law_one"]
theorem sc_L_beaten : FnScope n_L_beaten ["_law_book_here", "_law_state", "_law_letters", "_law_beat"] (defScope s_L_beaten) := ⟨rfl, rfl, rfl, by decide +kernel, rfl, by decide +kernel, by decide +kernel⟩
theorem a_L_beaten_0 : atB n_L_beaten (defScope s_L_beaten) 0 "_law_book_here" = true := by decide +kernel
theorem a_L_beaten_1 : atB n_L_beaten (defScope s_L_beaten) 1 "_law_state" = true := by decide +kernel
theorem a_L_beaten_2 : atB n_L_beaten (defScope s_L_beaten) 2 "_law_letters" = true := by decide +kernel
theorem a_L_beaten_3 : atB n_L_beaten (defScope s_L_beaten) 3 "_law_beat" = true := by decide +kernel
theorem a_L_beaten_4 : atB n_L_beaten (defScope s_L_beaten) 4 "_law_found" = true := by decide +kernel
theorem a_L_beaten_5 : atB n_L_beaten (defScope s_L_beaten) 5 "_law_word_here" = true := by decide +kernel
theorem a_L_beaten_6 : atB n_L_beaten (defScope s_L_beaten) 6 "_law_number" = true := by decide +kernel
theorem a_L_beaten_7 : atB n_L_beaten (defScope s_L_beaten) 7 "_law_when" = true := by decide +kernel
theorem a_L_beaten_8 : atB n_L_beaten (defScope s_L_beaten) 8 "_law_until" = true := by decide +kernel
theorem a_L_beaten_9 : atB n_L_beaten (defScope s_L_beaten) 9 "_law_wants" = true := by decide +kernel
abbrev s_L_slots : Stmt := top 48
abbrev n_L_slots : List Str := ["_law_windows_here", "_law_many", "_law_found", "_law_beat"]
theorem sc_L_slots : FnScope n_L_slots ["_law_windows_here", "_law_many"] (defScope s_L_slots) := ⟨rfl, rfl, rfl, by decide +kernel, rfl, by decide +kernel, by decide +kernel⟩
theorem a_L_slots_0 : atB n_L_slots (defScope s_L_slots) 0 "_law_windows_here" = true := by decide +kernel
theorem a_L_slots_1 : atB n_L_slots (defScope s_L_slots) 1 "_law_many" = true := by decide +kernel
theorem a_L_slots_2 : atB n_L_slots (defScope s_L_slots) 2 "_law_found" = true := by decide +kernel
theorem a_L_slots_3 : atB n_L_slots (defScope s_L_slots) 3 "_law_beat" = true := by decide +kernel
abbrev s_L_done_at : Stmt := top 49
abbrev n_L_done_at : List Str := ["_law_book_here", "_law_comes", "_law_state", "_law_found", "_law_last", "_law_beat", "_law_k", "_law_letters", "_law_after", "_law_one", "_law_command"]
theorem sc_L_done_at : FnScope n_L_done_at ["_law_book_here", "_law_comes"] (defScope s_L_done_at) := ⟨rfl, rfl, rfl, by decide +kernel, rfl, by decide +kernel, by decide +kernel⟩
theorem a_L_done_at_0 : atB n_L_done_at (defScope s_L_done_at) 0 "_law_book_here" = true := by decide +kernel
theorem a_L_done_at_1 : atB n_L_done_at (defScope s_L_done_at) 1 "_law_comes" = true := by decide +kernel
theorem a_L_done_at_2 : atB n_L_done_at (defScope s_L_done_at) 2 "_law_state" = true := by decide +kernel
theorem a_L_done_at_3 : atB n_L_done_at (defScope s_L_done_at) 3 "_law_found" = true := by decide +kernel
theorem a_L_done_at_4 : atB n_L_done_at (defScope s_L_done_at) 4 "_law_last" = true := by decide +kernel
theorem a_L_done_at_5 : atB n_L_done_at (defScope s_L_done_at) 5 "_law_beat" = true := by decide +kernel
theorem a_L_done_at_6 : atB n_L_done_at (defScope s_L_done_at) 6 "_law_k" = true := by decide +kernel
theorem a_L_done_at_7 : atB n_L_done_at (defScope s_L_done_at) 7 "_law_letters" = true := by decide +kernel
theorem a_L_done_at_8 : atB n_L_done_at (defScope s_L_done_at) 8 "_law_after" = true := by decide +kernel
abbrev s_L_rows : Stmt := top 50
abbrev n_L_rows : List Str := ["_law_numbers", "_law_often", "_law_many", "_law_found", "_law_turn", "_law_longer", "_law_some", "_law_one"]
theorem sc_L_rows : FnScope n_L_rows ["_law_numbers", "_law_often", "_law_many"] (defScope s_L_rows) := ⟨rfl, rfl, rfl, by decide +kernel, rfl, by decide +kernel, by decide +kernel⟩
theorem a_L_rows_0 : atB n_L_rows (defScope s_L_rows) 0 "_law_numbers" = true := by decide +kernel
theorem a_L_rows_1 : atB n_L_rows (defScope s_L_rows) 1 "_law_often" = true := by decide +kernel
theorem a_L_rows_2 : atB n_L_rows (defScope s_L_rows) 2 "_law_many" = true := by decide +kernel
theorem a_L_rows_3 : atB n_L_rows (defScope s_L_rows) 3 "_law_found" = true := by decide +kernel
theorem a_L_rows_4 : atB n_L_rows (defScope s_L_rows) 4 "_law_turn" = true := by decide +kernel
theorem a_L_rows_5 : atB n_L_rows (defScope s_L_rows) 5 "_law_longer" = true := by decide +kernel
theorem a_L_rows_6 : atB n_L_rows (defScope s_L_rows) 6 "_law_some" = true := by decide +kernel
abbrev s_L_is_sturdy : Stmt := top 51
abbrev n_L_is_sturdy : List Str := ["_law_book_here", "_law_delay", "_law_found", "_law_slots_here", "_law_lost", "_law_beat", "_law_sends", "_law_often", "_law_order", "_law_last", "_law_done", "_law_k", "_law_one"]
theorem sc_L_is_sturdy : FnScope n_L_is_sturdy ["_law_book_here", "_law_delay", "_law_found", "_law_slots_here", "_law_lost"] (defScope s_L_is_sturdy) := ⟨rfl, rfl, rfl, by decide +kernel, rfl, by decide +kernel, by decide +kernel⟩
theorem a_L_is_sturdy_0 : atB n_L_is_sturdy (defScope s_L_is_sturdy) 0 "_law_book_here" = true := by decide +kernel
theorem a_L_is_sturdy_1 : atB n_L_is_sturdy (defScope s_L_is_sturdy) 1 "_law_delay" = true := by decide +kernel
theorem a_L_is_sturdy_2 : atB n_L_is_sturdy (defScope s_L_is_sturdy) 2 "_law_found" = true := by decide +kernel
theorem a_L_is_sturdy_3 : atB n_L_is_sturdy (defScope s_L_is_sturdy) 3 "_law_slots_here" = true := by decide +kernel
theorem a_L_is_sturdy_4 : atB n_L_is_sturdy (defScope s_L_is_sturdy) 4 "_law_lost" = true := by decide +kernel
theorem a_L_is_sturdy_5 : atB n_L_is_sturdy (defScope s_L_is_sturdy) 5 "_law_beat" = true := by decide +kernel
theorem a_L_is_sturdy_6 : atB n_L_is_sturdy (defScope s_L_is_sturdy) 6 "_law_sends" = true := by decide +kernel
theorem a_L_is_sturdy_7 : atB n_L_is_sturdy (defScope s_L_is_sturdy) 7 "_law_often" = true := by decide +kernel
theorem a_L_is_sturdy_8 : atB n_L_is_sturdy (defScope s_L_is_sturdy) 8 "_law_order" = true := by decide +kernel
theorem a_L_is_sturdy_9 : atB n_L_is_sturdy (defScope s_L_is_sturdy) 9 "_law_last" = true := by decide +kernel
theorem a_L_is_sturdy_10 : atB n_L_is_sturdy (defScope s_L_is_sturdy) 10 "_law_done" = true := by decide +kernel
abbrev s_law : Stmt := top 52
abbrev n_law : List Str := ["_law_script", "_law_row", "_law_book_here", "_law_lost", "_law_many", "_law_slots_here", "_law_best", "_law_order", "_law_last", "_law_done", "_law_again", "_law_found", "_law_more", "_law_bad", "_law_delay", "_law_eight", "_law_windows_here", "_law_one", "_law_k"]
theorem sc_law : FnScope n_law ["_law_script"] (defScope s_law) := ⟨rfl, rfl, rfl, by decide +kernel, rfl, by decide +kernel, by decide +kernel⟩
theorem a_law_0 : atB n_law (defScope s_law) 0 "_law_script" = true := by decide +kernel
theorem a_law_1 : atB n_law (defScope s_law) 1 "_law_row" = true := by decide +kernel
theorem a_law_2 : atB n_law (defScope s_law) 2 "_law_book_here" = true := by decide +kernel
theorem a_law_3 : atB n_law (defScope s_law) 3 "_law_lost" = true := by decide +kernel
theorem a_law_4 : atB n_law (defScope s_law) 4 "_law_many" = true := by decide +kernel
theorem a_law_5 : atB n_law (defScope s_law) 5 "_law_slots_here" = true := by decide +kernel
theorem a_law_6 : atB n_law (defScope s_law) 6 "_law_best" = true := by decide +kernel
theorem a_law_7 : atB n_law (defScope s_law) 7 "_law_order" = true := by decide +kernel
theorem a_law_8 : atB n_law (defScope s_law) 8 "_law_last" = true := by decide +kernel
theorem a_law_9 : atB n_law (defScope s_law) 9 "_law_done" = true := by decide +kernel
theorem a_law_10 : atB n_law (defScope s_law) 10 "_law_again" = true := by decide +kernel
theorem a_law_11 : atB n_law (defScope s_law) 11 "_law_found" = true := by decide +kernel
theorem a_law_12 : atB n_law (defScope s_law) 12 "_law_more" = true := by decide +kernel
theorem a_law_13 : atB n_law (defScope s_law) 13 "_law_bad" = true := by decide +kernel
theorem a_law_14 : atB n_law (defScope s_law) 14 "_law_delay" = true := by decide +kernel
theorem a_law_15 : atB n_law (defScope s_law) 15 "_law_eight" = true := by decide +kernel
theorem a_law_16 : atB n_law (defScope s_law) 16 "_law_windows_here" = true := by decide +kernel
/-! ### what is looked at of an error class -/
def kinds : List Str := ["BadBook", "BadLetters", "BadStep", "BadText", "BadDelay", "BadWindows", "NoCommand", "NoWindow", "NoLetter", "BadReport", "TooMany", "BadCount", "Over"]
/-- what is known of an error class by its name -/
structure ErrK (K : PySem.W.Frag) (cl : Str → Addr) (N : Str) : Prop where
  ec : ExcC K (cl N)
  ki : ∀ x ∈ kinds, PySem.W.kitOne K (.ref (cl N)) (.ref (cl x)) = some (decide (x = N))
  kv : PySem.W.kitOne K (.ref (cl N)) (.type "ValueError") = some true
  ex : PySem.W.exmOne K (.ref (cl N)) (.ref (cl "LinkError")) = some true
def errB (K : PySem.W.Frag) (N : Str) : Bool := excB K (He.ga K N) && (kinds.all (fun x => decide (PySem.W.kitOne K (.ref (He.ga K N)) (.ref (He.ga K x)) = some (decide (x = N)))) && (decide (PySem.W.kitOne K (.ref (He.ga K N)) (.type "ValueError") = some true) && decide (PySem.W.exmOne K (.ref (He.ga K N)) (.ref (He.ga K "LinkError")) = some true)))
theorem errB_ok {K : PySem.W.Frag} {N : Str} (h : errB K N = true) : ErrK K (He.ga K) N := by
  unfold errB at h
  obtain ⟨h1, h⟩ := Bool.and_eq_true_iff.mp h
  obtain ⟨h2, h⟩ := Bool.and_eq_true_iff.mp h
  obtain ⟨h3, h4⟩ := Bool.and_eq_true_iff.mp h
  exact ⟨excB_ok h1, fun x hx => of_decide_eq_true (List.all_eq_true.mp h2 x hx), of_decide_eq_true h3, of_decide_eq_true h4⟩
def hfn : List He.DefD := [defAt ("is_number", none) "is_number" "is_number" s_is_number,
  defAt ("is_command", none) "is_command" "is_command" s_is_command,
  defAt ("need_book", none) "need_book" "need_book" s_need_book,
  defAt ("need_delay", none) "need_delay" "need_delay" s_need_delay,
  defAt ("need_windows", none) "need_windows" "need_windows" s_need_windows,
  defAt ("is_open", none) "is_open" "is_open" s_is_open,
  defAt ("open_beats", none) "open_beats" "open_beats" s_open_beats,
  defAt ("done_at", none) "done_at" "done_at" s_done_at,
  defAt ("orders", none) "orders" "orders" s_orders,
  defAt ("best_order", none) "best_order" "best_order" s_best_order,
  defAt ("sturdy", none) "sturdy" "sturdy" s_sturdy,
  defAt ("soonest", none) "soonest" "soonest" s_soonest,
  defAt ("_law_taken", none) "_law_taken" "_law_taken" s_L_taken,
  defAt ("_law_book", none) "_law_book" "_law_book" s_L_book,
  defAt ("_law_open", none) "_law_open" "_law_open" s_L_open,
  defAt ("_law_slots", none) "_law_slots" "_law_slots" s_L_slots,
  defAt ("_law_windows", none) "_law_windows" "_law_windows" s_L_windows,
  defAt ("_law_alike", none) "_law_alike" "_law_alike" s_L_alike,
  defAt ("_law_beaten", none) "_law_beaten" "_law_beaten" s_L_beaten,
  defAt ("_law_done_at", none) "_law_done_at" "_law_done_at" s_L_done_at,
  defAt ("need_sends", none) "need_sends" "need_sends" s_need_sends,
  defAt ("all_done", none) "all_done" "all_done" s_all_done,
  defAt ("choices", none) "choices" "choices" s_choices,
  defAt ("weak", none) "weak" "weak" s_weak,
  defAt ("_law_rows", none) "_law_rows" "_law_rows" s_L_rows,
  defAt ("_law_is_sturdy", none) "_law_is_sturdy" "_law_is_sturdy" s_L_is_sturdy,
  defAt ("law", none) "law" "law" s_law,
  defAt ("_law_word", none) "_law_word" "_law_word" s_L_word]
def hfa0 : List He.Fa := [.glo "is_number", .glo "is_command", .glo "need_book", .glo "need_delay", .glo "need_windows", .glo "is_open", .glo "open_beats", .glo "done_at", .glo "orders", .glo "best_order", .glo "sturdy", .glo "soonest", .glo "_law_taken", .glo "_law_book", .glo "_law_open", .glo "_law_slots", .glo "_law_windows", .glo "_law_alike", .glo "_law_beaten", .glo "_law_done_at", .glo "need_sends", .glo "all_done", .glo "choices", .glo "weak", .glo "_law_rows", .glo "_law_is_sturdy", .glo "law", .glo "_law_word", .glo "LinkError", .glo "BadBook"]
def hfa1 : List He.Fa := [.glo "BadLetters", .glo "BadStep", .glo "BadText", .glo "BadDelay", .glo "BadWindows", .glo "NoCommand", .glo "NoWindow", .glo "NoLetter", .glo "BadReport", .glo "TooMany", .glo "BadCount", .glo "Over", .exc "BadCount", .free "ValueError", .free "bool", .free "enumerate", .free "int", .free "isinstance", .free "len", .free "list", .free "max", .free "min", .free "range", .free "sorted", .free "str", .free "tuple", .int "MOST_BEAT" 200, .int "MOST_COMMANDS" 8, .int "MOST_DELAY" 9, .int "MOST_LOST" 3]
def hfa2 : List He.Fa := [.int "MOST_ORDERED" 6, .int "MOST_SENDS" 12]
def hfa : List He.Fa := hfa0 ++ hfa1 ++ hfa2
def hloose0 : List Str := ["__name__", "LinkError", "BadBook", "BadDelay", "BadWindows", "NoCommand", "NoWindow", "NoLetter", "BadLetters", "BadReport", "TooMany", "BadCount", "Over", "BadStep", "BadText", "MOST_COMMANDS", "MOST_BEAT", "MOST_DELAY", "is_number", "is_command", "need_book", "need_delay", "need_windows", "is_open", "MOST_ORDERED", "MOST_LOST", "done_at", "orders", "open_beats", "best_order"]
def hloose1 : List Str := ["soonest", "sturdy", "MOST_SENDS", "need_sends", "all_done", "choices", "weak", "_law_taken", "_law_alike", "_law_word", "_law_book", "_law_windows", "_law_open", "_law_beaten", "_law_slots", "_law_done_at", "_law_rows", "_law_is_sturdy"]
def hloose : List Str := hloose0 ++ hloose1
def hexB (K : PySem.W.Frag) : Bool := (upB K (He.ga K "LinkError")) && (errB K "BadCount") && true
abbrev hR : PySem.W.OpenRow := PySem.W.OpenLaw.row PySem.Challenge.rw_faruplink_k19_sturdy_by_trying_all
abbrev hk : PySem.W.Hook := hookY 6 hfa hfn [("law", none)] hexB
def hob (s : PySem.W.SharedT) : He.AlX := obsY 6 hfa hfn [("law", none)] hexB (HandSHeadRun.getT s)
theorem hob_eq (s : PySem.W.SharedT) : hob s = hk.obs s.abs := obsY_eq (HandSHeadRun.getT_eq s)
set_option maxHeartbeats 0 in
theorem hrun (w : World) : HandSHeadRun.RunEq hR (PySem.W.view hR.prog [52]) hk hob 4000 hloose w := by
  intro os
  kernel_rfl
end Lw
section
open PySem PySem.W PySem.Calls PyProof.Rows
set_option maxHeartbeats 0 in
theorem Lw.hholds (F : ∀ (w : World) (mg : PySem.Str → Option Value) (fa : Addr) (h : Heap) (K : PySem.W.Frag), K.In h → h.Ns mainGlobals mg → mg ("law" : PySem.Str) = some (.ref fa) → He.SaysX Lw.hfa Lw.hfn [] [("law", none)] Lw.hexB w h K → LamX.LawAtS PySem.Challenge.rw_faruplink_k19_sturdy_by_trying_all w K L2.CX0 8 63 "_law_script" mg fa h) : PySem.Challenge.rw_faruplink_k19_sturdy_by_trying_all.Holds := by
  w_on; o_law
  refine HandSHeadRun.head_any (r := OpenLaw.row PySem.Challenge.rw_faruplink_k19_sturdy_by_trying_all) (q := view (OpenLaw.row PySem.Challenge.rw_faruplink_k19_sturdy_by_trying_all).prog [52]) (H := Lw.hk) (ob := Lw.hob) (M := 4000) (loose := Lw.hloose) (d := HandSHeadRun.topDef (OpenLaw.row PySem.Challenge.rw_faruplink_k19_sturdy_by_trying_all).prog 52) (kwd := []) Lw.hob_eq
    (by kernel_rfl) (fun s => by kernel_rfl) Lw.hrun (by kernel_rfl) (by kernel_rfl) (by kernel_rfl) (by rfl) (by first | assumption | decide +kernel) (by decide +kernel) ⟨rfl, rfl, rfl, rfl, rfl, by decide +kernel⟩ ?hw ?hc
  case hw => w_witness2
  case hc =>
    refine LamX.walk_ofTsE (l := PySem.Challenge.rw_faruplink_k19_sturdy_by_trying_all) (n := 63) (k := 8) (x := "_law_script") (CX := fun _ => L2.CX0) rfl (by decide) (by kernel_rfl) ⟨rfl, by decide, by decide⟩ ?F (fun _ _ _ _ _ z => z)
    intro w mg fa h Y G hmg0
    obtain ⟨K, KX, c⟩ := Y
    have hmg : mg ("law" : PySem.Str) = some (.ref fa) := by
      have e : (HandSHeadRun.topDef (OpenLaw.row PySem.Challenge.rw_faruplink_k19_sturdy_by_trying_all).prog 52).name = ("law" : PySem.Str) := by kernel_rfl
      rw [← e]
      exact hmg0
    exact ⟨K, KX, F w mg fa h K KX G hmg c⟩
end
namespace Lw
open PySem PySem.Spec PyProof.Rows L2 FL
local macro_rules | `(tactic| wtm_at "c") => `(tactic| first
  | ((with_reducible refine' ex_listRg ?c ?l ?lm ?g ?gm ?s ?t ?q); (case c => rfl); (case l => rfl); (case lm => assumption); (case g => rfl); (case gm => assumption); (case s => rfl); (case t => rfl))
  | ((with_reducible refine' ex_callB ?c ?he ?hp ?q); (case c => first | with_reducible assumption | exact Blt.fn (by with_reducible assumption) rfl (by first | with_reducible exact bb_len | with_reducible exact bb_isinstance | with_reducible exact bb_max | with_reducible exact bb_min)); (case he => rfl); (case hp => rfl))
  | ((with_reducible refine' ex_callTy ?c ?he ?hp ?q); (case c => first | with_reducible assumption | exact Blt.fn (by with_reducible assumption) rfl (by first | with_reducible exact bb_int | with_reducible exact bb_bool | with_reducible exact bb_str | with_reducible exact bb_tuple | with_reducible exact bb_list | with_reducible exact bb_dict)); (case he => rfl); (case hp => rfl))
  | ((with_reducible refine' ex_call ?c ?hr ?hg ?hd ?he ?hp ?q); (case c => first | with_reducible assumption | exact Dfn.fn (by with_reducible assumption)); (case hr => first | assumption | exact Room.mono (by assumption) (by decide)); (case hg => rfl); (case hd => rfl); (case he => rfl); (case hp => rfl))
  | ((with_reducible refine' ex_ty ?c ?q); (case c => first | with_reducible assumption | exact Blt.fn (by with_reducible assumption) rfl (by first | with_reducible exact bb_int | with_reducible exact bb_bool | with_reducible exact bb_str | with_reducible exact bb_tuple | with_reducible exact bb_list | with_reducible exact bb_dict)))
  | ((with_reducible refine' ex_glob ?c ?q); (case c => first | with_reducible assumption | exact Gb.fn (by with_reducible assumption) rfl)))
local macro_rules | `(tactic| wtm_at "cb") => `(tactic| first
  | ((with_reducible refine' ex_callB ?c ?he ?hp ?q); (case c => first | exact Blt.blk (by with_reducible assumption) rfl | exact Blt.fnb (by with_reducible assumption) rfl (by first | with_reducible exact bb_len | with_reducible exact bb_isinstance | with_reducible exact bb_max | with_reducible exact bb_min)); (case he => rfl); (case hp => rfl))
  | ((with_reducible refine' ex_callTy ?c ?he ?hp ?q); (case c => first | exact Blt.blk (by with_reducible assumption) rfl | exact Blt.fnb (by with_reducible assumption) rfl (by first | with_reducible exact bb_int | with_reducible exact bb_bool | with_reducible exact bb_str | with_reducible exact bb_tuple | with_reducible exact bb_list | with_reducible exact bb_dict)); (case he => rfl); (case hp => rfl))
  | ((with_reducible refine' ex_call ?c ?hr ?hg ?hd ?he ?hp ?q); (case c => first | exact Dfn.blk (by with_reducible assumption) | exact Dfn.fnb (by with_reducible assumption)); (case hr => first | assumption | exact Room.mono (by assumption) (by decide)); (case hg => rfl); (case hd => rfl); (case he => rfl); (case hp => rfl))
  | ((with_reducible refine' ex_ty ?c ?q); (case c => first | exact Blt.blk (by with_reducible assumption) rfl | exact Blt.fnb (by with_reducible assumption) rfl (by first | with_reducible exact bb_int | with_reducible exact bb_bool | with_reducible exact bb_str | with_reducible exact bb_tuple | with_reducible exact bb_list | with_reducible exact bb_dict)))
  | ((with_reducible refine' ex_glob ?c ?q); (case c => first | exact Gb.blk (by with_reducible assumption) rfl | exact Gb.fnb (by with_reducible assumption) rfl)))
local macro_rules | `(tactic| wtm_at "e") => `(tactic| first
  | (with_reducible refine ex_int ?_) | (with_reducible refine ex_str ?_) | (with_reducible refine ex_bl ?_) | (with_reducible refine ex_non ?_)
  | (with_reducible refine ex_bin ?_) | (with_reducible refine asB_bl ?_)
  | ((with_reducible show (ite (_ = true) _ _)); first | refine iteT' rfl ?_ | refine iteF' rfl ?_)
  | ((with_reducible refine ex_sub ?h ?q); (case h => exact fun _ _ => rfl))
  | ((with_reducible refine tx_cmp ?h ?q); (case h => first | exact nomark _ | rfl))
  | ((with_reducible refine tx_chain ?h ?q); (case h => with_unfolding_all rfl))
  | ((with_reducible refine ex_cmp ?h ?q); (case h => first | exact nomark _ | rfl))
  | ((with_reducible refine ex_chain ?h ?q); (case h => with_unfolding_all rfl))
  | (with_reducible refine tx_not ?_) | (with_reducible refine tw_and ?_) | (with_reducible refine tw_and1 ?_) | (with_reducible refine tw_or ?_) | (with_reducible refine tw_or1 ?_)
  | ((with_reducible show TX _ _ (.BoolOp _ _ _) _ _ _); refine TW.tx ?_)
  | ((with_reducible show TX _ _ (.Call _ _ _ _) _ _ _); refine tx_val (fun _ => rfl) ?_)
  | ((with_reducible show TX _ _ (.Name _ _) _ _ _); refine tx_val (fun _ => rfl) ?_)
  | (with_reducible refine ex_one ?_) | (with_reducible refine ex_and ?_) | (with_reducible refine ex_or ?_) | (with_reducible refine ex_not ?_)
  | (with_reducible refine ex_if ?_)
  | ((with_reducible refine ax_cons ?h ?q); (case h => rfl))
  | (with_reducible refine ax_nil ?_)
  | (with_reducible refine ox_add ?_) | (with_reducible refine ox_sub ?_)
  | (with_reducible refine ox_lt ?_) | (with_reducible refine ox_le ?_) | (with_reducible refine ox_gt ?_) | (with_reducible refine ox_ge ?_)
  | (with_reducible refine ox_eqI ?_) | (with_reducible refine ox_neI ?_) | (with_reducible refine ox_eqS ?_) | (with_reducible refine ox_neS ?_) | (with_reducible refine ox_eqB ?_) | (with_reducible refine ox_neB ?_)
  | (with_reducible refine ox_is ?_) | (with_reducible refine ox_isnot ?_)
  | (with_reducible refine bx_lenF ?_) | (with_reducible refine bx_lenL ?_) | (with_reducible refine bx_lenT ?_)
  | ((with_reducible refine bx_isiI ?h ?q); (case h => first | rfl | assumption))
  | ((with_reducible refine bx_isiB ?h ?q); (case h => first | rfl | assumption))
  | ((with_reducible refine bx_isiSt ?h ?q); (case h => first | rfl | assumption))
  | ((with_reducible refine bx_isiTu ?h ?q); (case h => first | rfl | assumption))
  | ((with_reducible refine bx_isiLi ?h ?q); (case h => first | rfl | assumption))
  | ((with_reducible refine bx_isiTL ?h ?q); (case h => first | rfl | assumption))
  | ((with_reducible refine ex_tup ?q)) | (with_reducible refine ex_cmp0 ?_)
  | (with_reducible refine sx_ret ?_) | (with_reducible refine sx_retN ?_)
  | ((with_reducible refine sx_expr ?h ?q); (case h => rfl))
  | ((with_reducible refine ex_fld ?h ?q); (case h => rfl))
  | ((with_reducible refine sx_fldK ?h ?q); (case h => rfl))
  | ((with_reducible refine gxs_cons ?h ?q); (case h => rfl)) | (with_reducible refine gxs_nil ?_)
  | ((with_reducible refine' gx_tup ?c ?l ?h ?g ?q); (case c => rfl); (case l => rfl); (case h => rfl); (case g => rfl))
  | (with_reducible refine sxs_one ?_) | (with_reducible refine sxs_cons ?_) | (with_reducible refine sxs_nil ?_)
  | ((with_reducible refine sx_asg ?h ?g ?i ?q); (case h => rfl); (case g => rfl); (case i => rfl)))
local macro_rules | `(tactic| wtm_at "b") => `(tactic| first | (refine sxs_one ?_) | (refine sxs_cons ?_))
local macro_rules | `(tactic| wtm_at "e2") => `(tactic| first
  | (with_reducible refine px_cons ?_) | (with_reducible refine px_nil ?_) | (with_reducible refine ex_binL ?_) | (with_reducible refine ex_binR ?_) | (with_reducible refine ex_slice ?_) | (with_reducible refine ex_sliceSt ?_) | (with_reducible refine pox_none ?_) | (with_reducible refine pox_some ?_) | (with_reducible refine slx_t ?_)
  | ((with_reducible refine ex_subL ?h ?q); (case h => exact fun _ _ => rfl))
  | ((with_reducible show (List.length _ ≤ sizeLine ∧ _)); refine And.intro (Nat.le_of_ble_eq_true rfl) ?_)
  | ((with_reducible show (ite ((!decide (_ = _)) = true) _ _)); (with_reducible refine ite_ndec (fun h => absurd rfl h) (fun _ => ?_)))
  | ((with_reducible show (ite (decide (_ = _) = true) _ _)); (with_reducible refine ite_dec (fun _ => ?_) (fun h => absurd rfl h)))
  | ((with_reducible show (IX _ _ (.tup _) (.int _) _ _ _)); refine ix_t rfl ?_)
  | ((with_reducible show (IX _ _ (.lst _) (.int _) _ _ _)); refine ix_l rfl ?_)
  | ((with_reducible show (IX _ _ (.ref _) (.int _) _ _ _)); refine ix_c (by first | with_reducible assumption | exact mupd_same) rfl ?_)
  | (refine ⟨_, (rfl : D.int _ = D.int _), (?_ : SLX _ _ _ _ _ _ _ _)⟩) | (refine ⟨_, (rfl : D.int _ = D.int _), (?_ : POX _ _ _ _ _ _)⟩)
  | (refine ⟨_, _, _, _, (rfl : D.ref _ = D.ref _), (by wtm_at "me"), Ki.cls (by assumption), Ki.no (by assumption) _ (by decide +kernel), (by wtm_at "lk"), ?_⟩)
  | (refine ⟨_, _, _, _, _, (rfl : D.ref _ = D.ref _), (by wtm_at "me"), (by assumption : Ki _ _ _), (by decide +kernel), (Nat.le_of_ble_eq_true rfl), (by wtm_at "put"), ?_⟩)
  | (refine ⟨_, _, _, _, _, (rfl : D.ref _ = D.ref _), (by wtm_at "me"), (by assumption : Mth _ _ _ _ _ _ _ _ _), (by first | assumption | exact Room.mono (by assumption) (by decide)), (by wtm_at "ln"), ?_⟩))
local macro_rules | `(tactic| wtm_at "lk") => `(tactic| repeat (first | exact lk_hit | apply lk_skip (by decide +kernel)))
local macro_rules | `(tactic| wtm_at "ln") => `(tactic| repeat (first | exact lk_nil | apply lk_none (by decide +kernel)))
local macro_rules | `(tactic| wtm_at "put") => `(tactic| repeat (first | exact put_hit | exact put_nil | apply put_skip (by decide +kernel)))
local macro_rules | `(tactic| wtm_at "me") => `(tactic| first | with_reducible assumption | exact mupd_same | (rw [mupd_ne (by assumption)]; with_reducible assumption))
local macro_rules | `(tactic| wtm_at "m") => `(tactic| first
  | ((with_reducible refine' ex_methV ?hs ?hp ?ht ?q); (case hs => rfl); (case hp => rfl); (case ht => rfl))
  | ((with_reducible refine' ex_methV0 ?ht ?q); (case ht => rfl)))
local macro_rules | `(tactic| wtm_at "mk") => `(tactic| (with_reducible refine' ex_make ?c ?hr ?hg ?hd ?he ?hp ?q); (case c => assumption); (case hr => first | assumption | exact Room.mono (by assumption) (by decide)); (case hg => rfl); (case hd => rfl); (case he => rfl); (case hp => rfl))
local macro_rules | `(tactic| wtm_at "ei") => `(tactic| with_reducible refine sx_if ?_)
local macro_rules | `(tactic| wtm_at "ss") => `(tactic| (with_reducible refine' ex_sortedSet ?h1 ?h2 ?h3 ?h4 ?h5 ?h6 ?h7 ?q); (case h1 => rfl); (case h2 => exact Blt.fn (by with_reducible assumption) rfl bb_sorted); (case h3 => exact Blt.fn (by with_reducible assumption) rfl bb_set); (case h4 => rfl); (case h5 => rfl); (case h6 => rfl); (case h7 => rfl))
local macro_rules | `(tactic| wtm_at "cx") => `(tactic| first
  | ((with_reducible refine' ex_callB ?c ?he ?hp ?q); (case c => exact Blt.any (by assumption) rfl (by first | with_reducible exact bb_len | with_reducible exact bb_isinstance | with_reducible exact bb_max | with_reducible exact bb_min)); (case he => rfl); (case hp => rfl))
  | ((with_reducible refine' ex_callTy ?c ?he ?hp ?q); (case c => exact Blt.any (by assumption) rfl (by first | with_reducible exact bb_int | with_reducible exact bb_bool | with_reducible exact bb_str | with_reducible exact bb_tuple | with_reducible exact bb_list | with_reducible exact bb_dict)); (case he => rfl); (case hp => rfl))
  | ((with_reducible refine' ex_call ?c ?hr ?hg ?hd ?he ?hp ?q); (case c => assumption); (case hr => first | assumption | exact Room.mono (by assumption) (by decide)); (case hg => rfl); (case hd => rfl); (case he => rfl); (case hp => rfl))
  | ((with_reducible refine' ex_ty ?c ?q); (case c => exact Blt.any (by assumption) rfl (by first | with_reducible exact bb_int | with_reducible exact bb_bool | with_reducible exact bb_str | with_reducible exact bb_tuple | with_reducible exact bb_list | with_reducible exact bb_dict | with_reducible exact bb_VE)))
  | ((with_reducible refine' ex_glob ?c ?q); (case c => exact Gb.ofC rfl (by assumption) (by decide))))
local macro_rules | `(tactic| wtm_at "v is_number") => `(tactic| first
  | ((with_reducible refine' ex_var (i := 0) (x := "part") ?h ?g ?q); (case h => exact At.of rfl rfl a_is_number_0); (case g => rfl))
  | ((with_reducible refine' ex_var (i := 1) (x := "low") ?h ?g ?q); (case h => exact At.of rfl rfl a_is_number_1); (case g => rfl))
  | ((with_reducible refine' ex_var (i := 2) (x := "high") ?h ?g ?q); (case h => exact At.of rfl rfl a_is_number_2); (case g => rfl))
  | ((with_reducible refine sx_set (i := 0) (x := "part") ?h ?s ?q); (case h => exact Lc.of sc_is_number.nd rfl rfl (.inl rfl) a_is_number_0); (case s => rfl))
  | ((with_reducible refine gx_name (i := 0) (x := "part") ?h ?q); (case h => exact Lc.of sc_is_number.nd rfl rfl (.inl rfl) a_is_number_0))
  | ((with_reducible refine sx_set (i := 1) (x := "low") ?h ?s ?q); (case h => exact Lc.of sc_is_number.nd rfl rfl (.inl rfl) a_is_number_1); (case s => rfl))
  | ((with_reducible refine gx_name (i := 1) (x := "low") ?h ?q); (case h => exact Lc.of sc_is_number.nd rfl rfl (.inl rfl) a_is_number_1))
  | ((with_reducible refine sx_set (i := 2) (x := "high") ?h ?s ?q); (case h => exact Lc.of sc_is_number.nd rfl rfl (.inl rfl) a_is_number_2); (case s => rfl))
  | ((with_reducible refine gx_name (i := 2) (x := "high") ?h ?q); (case h => exact Lc.of sc_is_number.nd rfl rfl (.inl rfl) a_is_number_2)))
local macro_rules | `(tactic| wtm_at "vb is_number") => `(tactic| first
  | ((with_reducible refine' ex_var (i := 0) (x := "part") ?h ?g ?q); (case h => exact At.b rfl (by first | exact Or.inl rfl | exact Or.inr (Or.inl rfl) | exact Or.inr (Or.inr rfl))); (case g => rfl))
  | ((with_reducible refine' ex_var (i := 1) (x := "low") ?h ?g ?q); (case h => exact At.b rfl (by first | exact Or.inl rfl | exact Or.inr (Or.inl rfl) | exact Or.inr (Or.inr rfl))); (case g => rfl))
  | ((with_reducible refine' ex_var (i := 2) (x := "high") ?h ?g ?q); (case h => exact At.b rfl (by first | exact Or.inl rfl | exact Or.inr (Or.inl rfl) | exact Or.inr (Or.inr rfl))); (case g => rfl)))
local macro_rules | `(tactic| wtm_at "w is_number") => `(tactic| repeat (first | wtm_at "v is_number" | wtm_at "e" | wtm_at "ei" | wtm_at "c"))
local macro_rules | `(tactic| wtm_at "wb is_number") => `(tactic| repeat (first | wtm_at "vb is_number" | wtm_at "e" | wtm_at "cb"))
local macro_rules | `(tactic| wtm_at "g is_number") => `(tactic| repeat (first | wtm_at "v is_number" | wtm_at "e2" | wtm_at "e" | wtm_at "ei" | wtm_at "c"))
local macro_rules | `(tactic| wtm_at "gb is_number") => `(tactic| repeat (first | wtm_at "vb is_number" | wtm_at "e2" | wtm_at "e" | wtm_at "cb"))
local macro_rules | `(tactic| wtm_at "h is_number") => `(tactic| repeat (first | wtm_at "v is_number" | wtm_at "e2" | wtm_at "e" | wtm_at "c"))
local macro_rules | `(tactic| wtm_at "gx is_number") => `(tactic| repeat (first | wtm_at "v is_number" | wtm_at "e2" | wtm_at "e" | wtm_at "ei" | wtm_at "cx"))
local macro_rules | `(tactic| wtm_at "hx is_number") => `(tactic| repeat (first | wtm_at "v is_number" | wtm_at "e2" | wtm_at "e" | wtm_at "cx"))
local macro_rules | `(tactic| wtm_at "gy is_number") => `(tactic| repeat (first | wtm_at "vb is_number" | wtm_at "e2" | wtm_at "e" | wtm_at "cx"))
local macro_rules | `(tactic| wtm_at "hx1 is_number") => `(tactic| first | wtm_at "v is_number" | wtm_at "e2" | wtm_at "e" | wtm_at "cx")
local macro_rules | `(tactic| wtm_at "v is_command") => `(tactic| first
  | ((with_reducible refine' ex_var (i := 0) (x := "part") ?h ?g ?q); (case h => exact At.of rfl rfl a_is_command_0); (case g => rfl))
  | ((with_reducible refine' ex_var (i := 1) (x := "number") ?h ?g ?q); (case h => exact At.of rfl rfl a_is_command_1); (case g => rfl))
  | ((with_reducible refine' ex_var (i := 2) (x := "wants") ?h ?g ?q); (case h => exact At.of rfl rfl a_is_command_2); (case g => rfl))
  | ((with_reducible refine sx_set (i := 0) (x := "part") ?h ?s ?q); (case h => exact Lc.of sc_is_command.nd rfl rfl (.inl rfl) a_is_command_0); (case s => rfl))
  | ((with_reducible refine gx_name (i := 0) (x := "part") ?h ?q); (case h => exact Lc.of sc_is_command.nd rfl rfl (.inl rfl) a_is_command_0))
  | ((with_reducible refine sx_set (i := 1) (x := "number") ?h ?s ?q); (case h => exact Lc.of sc_is_command.nd rfl rfl (.inl rfl) a_is_command_1); (case s => rfl))
  | ((with_reducible refine gx_name (i := 1) (x := "number") ?h ?q); (case h => exact Lc.of sc_is_command.nd rfl rfl (.inl rfl) a_is_command_1))
  | ((with_reducible refine sx_set (i := 2) (x := "wants") ?h ?s ?q); (case h => exact Lc.of sc_is_command.nd rfl rfl (.inl rfl) a_is_command_2); (case s => rfl))
  | ((with_reducible refine gx_name (i := 2) (x := "wants") ?h ?q); (case h => exact Lc.of sc_is_command.nd rfl rfl (.inl rfl) a_is_command_2)))
local macro_rules | `(tactic| wtm_at "vb is_command") => `(tactic| first
  | ((with_reducible refine' ex_var (i := 0) (x := "part") ?h ?g ?q); (case h => exact At.b rfl (by first | exact Or.inl rfl | exact Or.inr (Or.inl rfl) | exact Or.inr (Or.inr rfl))); (case g => rfl))
  | ((with_reducible refine' ex_var (i := 1) (x := "number") ?h ?g ?q); (case h => exact At.b rfl (by first | exact Or.inl rfl | exact Or.inr (Or.inl rfl) | exact Or.inr (Or.inr rfl))); (case g => rfl))
  | ((with_reducible refine' ex_var (i := 2) (x := "wants") ?h ?g ?q); (case h => exact At.b rfl (by first | exact Or.inl rfl | exact Or.inr (Or.inl rfl) | exact Or.inr (Or.inr rfl))); (case g => rfl))
  | ((with_reducible refine' ex_var (i := 3) (x := "one") ?h ?g ?q); (case h => exact At.b rfl (by first | exact Or.inl rfl | exact Or.inr (Or.inl rfl) | exact Or.inr (Or.inr rfl))); (case g => rfl))
  | ((with_reducible refine' ex_var (i := 4) (x := "k") ?h ?g ?q); (case h => exact At.b rfl (by first | exact Or.inl rfl | exact Or.inr (Or.inl rfl) | exact Or.inr (Or.inr rfl))); (case g => rfl)))
local macro_rules | `(tactic| wtm_at "w is_command") => `(tactic| repeat (first | wtm_at "v is_command" | wtm_at "e" | wtm_at "ei" | wtm_at "c"))
local macro_rules | `(tactic| wtm_at "wb is_command") => `(tactic| repeat (first | wtm_at "vb is_command" | wtm_at "e" | wtm_at "cb"))
local macro_rules | `(tactic| wtm_at "g is_command") => `(tactic| repeat (first | wtm_at "v is_command" | wtm_at "e2" | wtm_at "e" | wtm_at "ei" | wtm_at "c"))
local macro_rules | `(tactic| wtm_at "gb is_command") => `(tactic| repeat (first | wtm_at "vb is_command" | wtm_at "e2" | wtm_at "e" | wtm_at "cb"))
local macro_rules | `(tactic| wtm_at "h is_command") => `(tactic| repeat (first | wtm_at "v is_command" | wtm_at "e2" | wtm_at "e" | wtm_at "c"))
local macro_rules | `(tactic| wtm_at "gx is_command") => `(tactic| repeat (first | wtm_at "v is_command" | wtm_at "e2" | wtm_at "e" | wtm_at "ei" | wtm_at "cx"))
local macro_rules | `(tactic| wtm_at "hx is_command") => `(tactic| repeat (first | wtm_at "v is_command" | wtm_at "e2" | wtm_at "e" | wtm_at "cx"))
local macro_rules | `(tactic| wtm_at "gy is_command") => `(tactic| repeat (first | wtm_at "vb is_command" | wtm_at "e2" | wtm_at "e" | wtm_at "cx"))
local macro_rules | `(tactic| wtm_at "hx1 is_command") => `(tactic| first | wtm_at "v is_command" | wtm_at "e2" | wtm_at "e" | wtm_at "cx")
local macro_rules | `(tactic| wtm_at "lc is_command 0") => `(tactic| refine' ex_lc (own := [("one", 3)]) (t := .inl 3)  rfl sc_is_command.nd (blkOk_by (N := n_is_command) (sc := defScope s_is_command) (by decide +kernel)) (by decide) (fun _ _ _ _ _ => pg_name (i := 3) sc_is_command.nd rfl (by first | exact Or.inl rfl | exact Or.inr rfl)) (fun _ => rfl) ?_)
local macro_rules | `(tactic| wtm_at "lcM is_command 0") => `(tactic| refine' ex_lcM (own := [("one", 3)]) (t := .inl 3)  rfl sc_is_command.nd (blkOk_by (N := n_is_command) (sc := defScope s_is_command) (by decide +kernel)) (by decide) (fun _ _ _ _ _ => pg_name (i := 3) sc_is_command.nd rfl (by first | exact Or.inl rfl | exact Or.inr rfl)) (fun _ => rfl) ?_)
local macro_rules | `(tactic| wtm_at "lcp is_command 0") => `(tactic| refine' ex_lcp (own := [("one", 3)]) (t := .inl 3) ?f rfl sc_is_command.nd (blkOk_by (N := n_is_command) (sc := defScope s_is_command) (by decide +kernel)) (by decide) (fun _ _ _ _ _ => pg_name (i := 3) sc_is_command.nd rfl (by first | exact Or.inl rfl | exact Or.inr rfl)) (fun _ => rfl) ?_)
local macro_rules | `(tactic| wtm_at "lcpM is_command 0") => `(tactic| refine' ex_lcpM (own := [("one", 3)]) (t := .inl 3) ?f rfl sc_is_command.nd (blkOk_by (N := n_is_command) (sc := defScope s_is_command) (by decide +kernel)) (by decide) (fun _ _ _ _ _ => pg_name (i := 3) sc_is_command.nd rfl (by first | exact Or.inl rfl | exact Or.inr rfl)) (fun _ => rfl) ?_)
local macro_rules | `(tactic| wtm_at "lc is_command 1") => `(tactic| refine' ex_lc (own := [("k", 4)]) (t := .inl 4)  rfl sc_is_command.nd (blkOk_by (N := n_is_command) (sc := defScope s_is_command) (by decide +kernel)) (by decide) (fun _ _ _ _ _ => pg_name (i := 4) sc_is_command.nd rfl (by first | exact Or.inl rfl | exact Or.inr rfl)) (fun _ => rfl) ?_)
local macro_rules | `(tactic| wtm_at "lcM is_command 1") => `(tactic| refine' ex_lcM (own := [("k", 4)]) (t := .inl 4)  rfl sc_is_command.nd (blkOk_by (N := n_is_command) (sc := defScope s_is_command) (by decide +kernel)) (by decide) (fun _ _ _ _ _ => pg_name (i := 4) sc_is_command.nd rfl (by first | exact Or.inl rfl | exact Or.inr rfl)) (fun _ => rfl) ?_)
local macro_rules | `(tactic| wtm_at "lcp is_command 1") => `(tactic| refine' ex_lcp (own := [("k", 4)]) (t := .inl 4) ?f rfl sc_is_command.nd (blkOk_by (N := n_is_command) (sc := defScope s_is_command) (by decide +kernel)) (by decide) (fun _ _ _ _ _ => pg_name (i := 4) sc_is_command.nd rfl (by first | exact Or.inl rfl | exact Or.inr rfl)) (fun _ => rfl) ?_)
local macro_rules | `(tactic| wtm_at "lcpM is_command 1") => `(tactic| refine' ex_lcpM (own := [("k", 4)]) (t := .inl 4) ?f rfl sc_is_command.nd (blkOk_by (N := n_is_command) (sc := defScope s_is_command) (by decide +kernel)) (by decide) (fun _ _ _ _ _ => pg_name (i := 4) sc_is_command.nd rfl (by first | exact Or.inl rfl | exact Or.inr rfl)) (fun _ => rfl) ?_)
local macro_rules | `(tactic| wtm_at "v need_book") => `(tactic| first
  | ((with_reducible refine' ex_var (i := 0) (x := "book") ?h ?g ?q); (case h => exact At.of rfl rfl a_need_book_0); (case g => rfl))
  | ((with_reducible refine' ex_var (i := 1) (x := "number") ?h ?g ?q); (case h => exact At.of rfl rfl a_need_book_1); (case g => rfl))
  | ((with_reducible refine' ex_var (i := 2) (x := "command") ?h ?g ?q); (case h => exact At.of rfl rfl a_need_book_2); (case g => rfl))
  | ((with_reducible refine sx_set (i := 0) (x := "book") ?h ?s ?q); (case h => exact Lc.of sc_need_book.nd rfl rfl (.inl rfl) a_need_book_0); (case s => rfl))
  | ((with_reducible refine gx_name (i := 0) (x := "book") ?h ?q); (case h => exact Lc.of sc_need_book.nd rfl rfl (.inl rfl) a_need_book_0))
  | ((with_reducible refine sx_set (i := 1) (x := "number") ?h ?s ?q); (case h => exact Lc.of sc_need_book.nd rfl rfl (.inl rfl) a_need_book_1); (case s => rfl))
  | ((with_reducible refine gx_name (i := 1) (x := "number") ?h ?q); (case h => exact Lc.of sc_need_book.nd rfl rfl (.inl rfl) a_need_book_1))
  | ((with_reducible refine sx_set (i := 2) (x := "command") ?h ?s ?q); (case h => exact Lc.of sc_need_book.nd rfl rfl (.inl rfl) a_need_book_2); (case s => rfl))
  | ((with_reducible refine gx_name (i := 2) (x := "command") ?h ?q); (case h => exact Lc.of sc_need_book.nd rfl rfl (.inl rfl) a_need_book_2)))
local macro_rules | `(tactic| wtm_at "vb need_book") => `(tactic| first
  | ((with_reducible refine' ex_var (i := 0) (x := "book") ?h ?g ?q); (case h => exact At.b rfl (by first | exact Or.inl rfl | exact Or.inr (Or.inl rfl) | exact Or.inr (Or.inr rfl))); (case g => rfl))
  | ((with_reducible refine' ex_var (i := 1) (x := "number") ?h ?g ?q); (case h => exact At.b rfl (by first | exact Or.inl rfl | exact Or.inr (Or.inl rfl) | exact Or.inr (Or.inr rfl))); (case g => rfl))
  | ((with_reducible refine' ex_var (i := 2) (x := "command") ?h ?g ?q); (case h => exact At.b rfl (by first | exact Or.inl rfl | exact Or.inr (Or.inl rfl) | exact Or.inr (Or.inr rfl))); (case g => rfl)))
local macro_rules | `(tactic| wtm_at "w need_book") => `(tactic| repeat (first | wtm_at "v need_book" | wtm_at "e" | wtm_at "ei" | wtm_at "c"))
local macro_rules | `(tactic| wtm_at "wb need_book") => `(tactic| repeat (first | wtm_at "vb need_book" | wtm_at "e" | wtm_at "cb"))
local macro_rules | `(tactic| wtm_at "g need_book") => `(tactic| repeat (first | wtm_at "v need_book" | wtm_at "e2" | wtm_at "e" | wtm_at "ei" | wtm_at "c"))
local macro_rules | `(tactic| wtm_at "gb need_book") => `(tactic| repeat (first | wtm_at "vb need_book" | wtm_at "e2" | wtm_at "e" | wtm_at "cb"))
local macro_rules | `(tactic| wtm_at "h need_book") => `(tactic| repeat (first | wtm_at "v need_book" | wtm_at "e2" | wtm_at "e" | wtm_at "c"))
local macro_rules | `(tactic| wtm_at "gx need_book") => `(tactic| repeat (first | wtm_at "v need_book" | wtm_at "e2" | wtm_at "e" | wtm_at "ei" | wtm_at "cx"))
local macro_rules | `(tactic| wtm_at "hx need_book") => `(tactic| repeat (first | wtm_at "v need_book" | wtm_at "e2" | wtm_at "e" | wtm_at "cx"))
local macro_rules | `(tactic| wtm_at "gy need_book") => `(tactic| repeat (first | wtm_at "vb need_book" | wtm_at "e2" | wtm_at "e" | wtm_at "cx"))
local macro_rules | `(tactic| wtm_at "hx1 need_book") => `(tactic| first | wtm_at "v need_book" | wtm_at "e2" | wtm_at "e" | wtm_at "cx")
local macro_rules | `(tactic| wtm_at "v need_delay") => `(tactic| first
  | ((with_reducible refine' ex_var (i := 0) (x := "delay") ?h ?g ?q); (case h => exact At.of rfl rfl a_need_delay_0); (case g => rfl))
  | ((with_reducible refine sx_set (i := 0) (x := "delay") ?h ?s ?q); (case h => exact Lc.of sc_need_delay.nd rfl rfl (.inl rfl) a_need_delay_0); (case s => rfl))
  | ((with_reducible refine gx_name (i := 0) (x := "delay") ?h ?q); (case h => exact Lc.of sc_need_delay.nd rfl rfl (.inl rfl) a_need_delay_0)))
local macro_rules | `(tactic| wtm_at "vb need_delay") => `(tactic| first
  | ((with_reducible refine' ex_var (i := 0) (x := "delay") ?h ?g ?q); (case h => exact At.b rfl (by first | exact Or.inl rfl | exact Or.inr (Or.inl rfl) | exact Or.inr (Or.inr rfl))); (case g => rfl)))
local macro_rules | `(tactic| wtm_at "w need_delay") => `(tactic| repeat (first | wtm_at "v need_delay" | wtm_at "e" | wtm_at "ei" | wtm_at "c"))
local macro_rules | `(tactic| wtm_at "wb need_delay") => `(tactic| repeat (first | wtm_at "vb need_delay" | wtm_at "e" | wtm_at "cb"))
local macro_rules | `(tactic| wtm_at "g need_delay") => `(tactic| repeat (first | wtm_at "v need_delay" | wtm_at "e2" | wtm_at "e" | wtm_at "ei" | wtm_at "c"))
local macro_rules | `(tactic| wtm_at "gb need_delay") => `(tactic| repeat (first | wtm_at "vb need_delay" | wtm_at "e2" | wtm_at "e" | wtm_at "cb"))
local macro_rules | `(tactic| wtm_at "h need_delay") => `(tactic| repeat (first | wtm_at "v need_delay" | wtm_at "e2" | wtm_at "e" | wtm_at "c"))
local macro_rules | `(tactic| wtm_at "gx need_delay") => `(tactic| repeat (first | wtm_at "v need_delay" | wtm_at "e2" | wtm_at "e" | wtm_at "ei" | wtm_at "cx"))
local macro_rules | `(tactic| wtm_at "hx need_delay") => `(tactic| repeat (first | wtm_at "v need_delay" | wtm_at "e2" | wtm_at "e" | wtm_at "cx"))
local macro_rules | `(tactic| wtm_at "gy need_delay") => `(tactic| repeat (first | wtm_at "vb need_delay" | wtm_at "e2" | wtm_at "e" | wtm_at "cx"))
local macro_rules | `(tactic| wtm_at "hx1 need_delay") => `(tactic| first | wtm_at "v need_delay" | wtm_at "e2" | wtm_at "e" | wtm_at "cx")
local macro_rules | `(tactic| wtm_at "v need_windows") => `(tactic| first
  | ((with_reducible refine' ex_var (i := 0) (x := "windows") ?h ?g ?q); (case h => exact At.of rfl rfl a_need_windows_0); (case g => rfl))
  | ((with_reducible refine' ex_var (i := 1) (x := "last") ?h ?g ?q); (case h => exact At.of rfl rfl a_need_windows_1); (case g => rfl))
  | ((with_reducible refine' ex_var (i := 2) (x := "pair") ?h ?g ?q); (case h => exact At.of rfl rfl a_need_windows_2); (case g => rfl))
  | ((with_reducible refine sx_set (i := 0) (x := "windows") ?h ?s ?q); (case h => exact Lc.of sc_need_windows.nd rfl rfl (.inl rfl) a_need_windows_0); (case s => rfl))
  | ((with_reducible refine gx_name (i := 0) (x := "windows") ?h ?q); (case h => exact Lc.of sc_need_windows.nd rfl rfl (.inl rfl) a_need_windows_0))
  | ((with_reducible refine sx_set (i := 1) (x := "last") ?h ?s ?q); (case h => exact Lc.of sc_need_windows.nd rfl rfl (.inl rfl) a_need_windows_1); (case s => rfl))
  | ((with_reducible refine gx_name (i := 1) (x := "last") ?h ?q); (case h => exact Lc.of sc_need_windows.nd rfl rfl (.inl rfl) a_need_windows_1))
  | ((with_reducible refine sx_set (i := 2) (x := "pair") ?h ?s ?q); (case h => exact Lc.of sc_need_windows.nd rfl rfl (.inl rfl) a_need_windows_2); (case s => rfl))
  | ((with_reducible refine gx_name (i := 2) (x := "pair") ?h ?q); (case h => exact Lc.of sc_need_windows.nd rfl rfl (.inl rfl) a_need_windows_2)))
local macro_rules | `(tactic| wtm_at "vb need_windows") => `(tactic| first
  | ((with_reducible refine' ex_var (i := 0) (x := "windows") ?h ?g ?q); (case h => exact At.b rfl (by first | exact Or.inl rfl | exact Or.inr (Or.inl rfl) | exact Or.inr (Or.inr rfl))); (case g => rfl))
  | ((with_reducible refine' ex_var (i := 1) (x := "last") ?h ?g ?q); (case h => exact At.b rfl (by first | exact Or.inl rfl | exact Or.inr (Or.inl rfl) | exact Or.inr (Or.inr rfl))); (case g => rfl))
  | ((with_reducible refine' ex_var (i := 2) (x := "pair") ?h ?g ?q); (case h => exact At.b rfl (by first | exact Or.inl rfl | exact Or.inr (Or.inl rfl) | exact Or.inr (Or.inr rfl))); (case g => rfl)))
local macro_rules | `(tactic| wtm_at "w need_windows") => `(tactic| repeat (first | wtm_at "v need_windows" | wtm_at "e" | wtm_at "ei" | wtm_at "c"))
local macro_rules | `(tactic| wtm_at "wb need_windows") => `(tactic| repeat (first | wtm_at "vb need_windows" | wtm_at "e" | wtm_at "cb"))
local macro_rules | `(tactic| wtm_at "g need_windows") => `(tactic| repeat (first | wtm_at "v need_windows" | wtm_at "e2" | wtm_at "e" | wtm_at "ei" | wtm_at "c"))
local macro_rules | `(tactic| wtm_at "gb need_windows") => `(tactic| repeat (first | wtm_at "vb need_windows" | wtm_at "e2" | wtm_at "e" | wtm_at "cb"))
local macro_rules | `(tactic| wtm_at "h need_windows") => `(tactic| repeat (first | wtm_at "v need_windows" | wtm_at "e2" | wtm_at "e" | wtm_at "c"))
local macro_rules | `(tactic| wtm_at "gx need_windows") => `(tactic| repeat (first | wtm_at "v need_windows" | wtm_at "e2" | wtm_at "e" | wtm_at "ei" | wtm_at "cx"))
local macro_rules | `(tactic| wtm_at "hx need_windows") => `(tactic| repeat (first | wtm_at "v need_windows" | wtm_at "e2" | wtm_at "e" | wtm_at "cx"))
local macro_rules | `(tactic| wtm_at "gy need_windows") => `(tactic| repeat (first | wtm_at "vb need_windows" | wtm_at "e2" | wtm_at "e" | wtm_at "cx"))
local macro_rules | `(tactic| wtm_at "hx1 need_windows") => `(tactic| first | wtm_at "v need_windows" | wtm_at "e2" | wtm_at "e" | wtm_at "cx")
local macro_rules | `(tactic| wtm_at "v is_open") => `(tactic| first
  | ((with_reducible refine' ex_var (i := 0) (x := "windows") ?h ?g ?q); (case h => exact At.of rfl rfl a_is_open_0); (case g => rfl))
  | ((with_reducible refine' ex_var (i := 1) (x := "beat") ?h ?g ?q); (case h => exact At.of rfl rfl a_is_open_1); (case g => rfl))
  | ((with_reducible refine sx_set (i := 0) (x := "windows") ?h ?s ?q); (case h => exact Lc.of sc_is_open.nd rfl rfl (.inl rfl) a_is_open_0); (case s => rfl))
  | ((with_reducible refine gx_name (i := 0) (x := "windows") ?h ?q); (case h => exact Lc.of sc_is_open.nd rfl rfl (.inl rfl) a_is_open_0))
  | ((with_reducible refine sx_set (i := 1) (x := "beat") ?h ?s ?q); (case h => exact Lc.of sc_is_open.nd rfl rfl (.inl rfl) a_is_open_1); (case s => rfl))
  | ((with_reducible refine gx_name (i := 1) (x := "beat") ?h ?q); (case h => exact Lc.of sc_is_open.nd rfl rfl (.inl rfl) a_is_open_1)))
local macro_rules | `(tactic| wtm_at "vb is_open") => `(tactic| first
  | ((with_reducible refine' ex_var (i := 0) (x := "windows") ?h ?g ?q); (case h => exact At.b rfl (by first | exact Or.inl rfl | exact Or.inr (Or.inl rfl) | exact Or.inr (Or.inr rfl))); (case g => rfl))
  | ((with_reducible refine' ex_var (i := 1) (x := "beat") ?h ?g ?q); (case h => exact At.b rfl (by first | exact Or.inl rfl | exact Or.inr (Or.inl rfl) | exact Or.inr (Or.inr rfl))); (case g => rfl))
  | ((with_reducible refine' ex_var (i := 2) (x := "pair") ?h ?g ?q); (case h => exact At.b rfl (by first | exact Or.inl rfl | exact Or.inr (Or.inl rfl) | exact Or.inr (Or.inr rfl))); (case g => rfl)))
local macro_rules | `(tactic| wtm_at "w is_open") => `(tactic| repeat (first | wtm_at "v is_open" | wtm_at "e" | wtm_at "ei" | wtm_at "c"))
local macro_rules | `(tactic| wtm_at "wb is_open") => `(tactic| repeat (first | wtm_at "vb is_open" | wtm_at "e" | wtm_at "cb"))
local macro_rules | `(tactic| wtm_at "g is_open") => `(tactic| repeat (first | wtm_at "v is_open" | wtm_at "e2" | wtm_at "e" | wtm_at "ei" | wtm_at "c"))
local macro_rules | `(tactic| wtm_at "gb is_open") => `(tactic| repeat (first | wtm_at "vb is_open" | wtm_at "e2" | wtm_at "e" | wtm_at "cb"))
local macro_rules | `(tactic| wtm_at "h is_open") => `(tactic| repeat (first | wtm_at "v is_open" | wtm_at "e2" | wtm_at "e" | wtm_at "c"))
local macro_rules | `(tactic| wtm_at "gx is_open") => `(tactic| repeat (first | wtm_at "v is_open" | wtm_at "e2" | wtm_at "e" | wtm_at "ei" | wtm_at "cx"))
local macro_rules | `(tactic| wtm_at "hx is_open") => `(tactic| repeat (first | wtm_at "v is_open" | wtm_at "e2" | wtm_at "e" | wtm_at "cx"))
local macro_rules | `(tactic| wtm_at "gy is_open") => `(tactic| repeat (first | wtm_at "vb is_open" | wtm_at "e2" | wtm_at "e" | wtm_at "cx"))
local macro_rules | `(tactic| wtm_at "hx1 is_open") => `(tactic| first | wtm_at "v is_open" | wtm_at "e2" | wtm_at "e" | wtm_at "cx")
local macro_rules | `(tactic| wtm_at "lc is_open 0") => `(tactic| refine' ex_lc (own := [("pair", 2)]) (t := .inl 2)  rfl sc_is_open.nd (blkOk_by (N := n_is_open) (sc := defScope s_is_open) (by decide +kernel)) (by decide) (fun _ _ _ _ _ => pg_name (i := 2) sc_is_open.nd rfl (by first | exact Or.inl rfl | exact Or.inr rfl)) (fun _ => rfl) ?_)
local macro_rules | `(tactic| wtm_at "lcM is_open 0") => `(tactic| refine' ex_lcM (own := [("pair", 2)]) (t := .inl 2)  rfl sc_is_open.nd (blkOk_by (N := n_is_open) (sc := defScope s_is_open) (by decide +kernel)) (by decide) (fun _ _ _ _ _ => pg_name (i := 2) sc_is_open.nd rfl (by first | exact Or.inl rfl | exact Or.inr rfl)) (fun _ => rfl) ?_)
local macro_rules | `(tactic| wtm_at "lcp is_open 0") => `(tactic| refine' ex_lcp (own := [("pair", 2)]) (t := .inl 2) ?f rfl sc_is_open.nd (blkOk_by (N := n_is_open) (sc := defScope s_is_open) (by decide +kernel)) (by decide) (fun _ _ _ _ _ => pg_name (i := 2) sc_is_open.nd rfl (by first | exact Or.inl rfl | exact Or.inr rfl)) (fun _ => rfl) ?_)
local macro_rules | `(tactic| wtm_at "lcpM is_open 0") => `(tactic| refine' ex_lcpM (own := [("pair", 2)]) (t := .inl 2) ?f rfl sc_is_open.nd (blkOk_by (N := n_is_open) (sc := defScope s_is_open) (by decide +kernel)) (by decide) (fun _ _ _ _ _ => pg_name (i := 2) sc_is_open.nd rfl (by first | exact Or.inl rfl | exact Or.inr rfl)) (fun _ => rfl) ?_)
local macro_rules | `(tactic| wtm_at "v done_at") => `(tactic| first
  | ((with_reducible refine' ex_var (i := 0) (x := "book") ?h ?g ?q); (case h => exact At.of rfl rfl a_done_at_0); (case g => rfl))
  | ((with_reducible refine' ex_var (i := 1) (x := "comes") ?h ?g ?q); (case h => exact At.of rfl rfl a_done_at_1); (case g => rfl))
  | ((with_reducible refine' ex_var (i := 2) (x := "found") ?h ?g ?q); (case h => exact At.of rfl rfl a_done_at_2); (case g => rfl))
  | ((with_reducible refine' ex_var (i := 3) (x := "number") ?h ?g ?q); (case h => exact At.of rfl rfl a_done_at_3); (case g => rfl))
  | ((with_reducible refine' ex_var (i := 4) (x := "command") ?h ?g ?q); (case h => exact At.of rfl rfl a_done_at_4); (case g => rfl))
  | ((with_reducible refine' ex_var (i := 5) (x := "when") ?h ?g ?q); (case h => exact At.of rfl rfl a_done_at_5); (case g => rfl))
  | ((with_reducible refine' ex_var (i := 6) (x := "until") ?h ?g ?q); (case h => exact At.of rfl rfl a_done_at_6); (case g => rfl))
  | ((with_reducible refine' ex_var (i := 7) (x := "wants") ?h ?g ?q); (case h => exact At.of rfl rfl a_done_at_7); (case g => rfl))
  | ((with_reducible refine' ex_var (i := 8) (x := "some") ?h ?g ?q); (case h => exact At.of rfl rfl a_done_at_8); (case g => rfl))
  | ((with_reducible refine' ex_var (i := 9) (x := "beat") ?h ?g ?q); (case h => exact At.of rfl rfl a_done_at_9); (case g => rfl))
  | ((with_reducible refine sx_set (i := 0) (x := "book") ?h ?s ?q); (case h => exact Lc.of sc_done_at.nd rfl rfl (.inl rfl) a_done_at_0); (case s => rfl))
  | ((with_reducible refine gx_name (i := 0) (x := "book") ?h ?q); (case h => exact Lc.of sc_done_at.nd rfl rfl (.inl rfl) a_done_at_0))
  | ((with_reducible refine sx_set (i := 1) (x := "comes") ?h ?s ?q); (case h => exact Lc.of sc_done_at.nd rfl rfl (.inl rfl) a_done_at_1); (case s => rfl))
  | ((with_reducible refine gx_name (i := 1) (x := "comes") ?h ?q); (case h => exact Lc.of sc_done_at.nd rfl rfl (.inl rfl) a_done_at_1))
  | ((with_reducible refine sx_set (i := 2) (x := "found") ?h ?s ?q); (case h => exact Lc.of sc_done_at.nd rfl rfl (.inl rfl) a_done_at_2); (case s => rfl))
  | ((with_reducible refine gx_name (i := 2) (x := "found") ?h ?q); (case h => exact Lc.of sc_done_at.nd rfl rfl (.inl rfl) a_done_at_2))
  | ((with_reducible refine sx_set (i := 3) (x := "number") ?h ?s ?q); (case h => exact Lc.of sc_done_at.nd rfl rfl (.inl rfl) a_done_at_3); (case s => rfl))
  | ((with_reducible refine gx_name (i := 3) (x := "number") ?h ?q); (case h => exact Lc.of sc_done_at.nd rfl rfl (.inl rfl) a_done_at_3))
  | ((with_reducible refine sx_set (i := 4) (x := "command") ?h ?s ?q); (case h => exact Lc.of sc_done_at.nd rfl rfl (.inl rfl) a_done_at_4); (case s => rfl))
  | ((with_reducible refine gx_name (i := 4) (x := "command") ?h ?q); (case h => exact Lc.of sc_done_at.nd rfl rfl (.inl rfl) a_done_at_4))
  | ((with_reducible refine sx_set (i := 5) (x := "when") ?h ?s ?q); (case h => exact Lc.of sc_done_at.nd rfl rfl (.inl rfl) a_done_at_5); (case s => rfl))
  | ((with_reducible refine gx_name (i := 5) (x := "when") ?h ?q); (case h => exact Lc.of sc_done_at.nd rfl rfl (.inl rfl) a_done_at_5))
  | ((with_reducible refine sx_set (i := 6) (x := "until") ?h ?s ?q); (case h => exact Lc.of sc_done_at.nd rfl rfl (.inl rfl) a_done_at_6); (case s => rfl))
  | ((with_reducible refine gx_name (i := 6) (x := "until") ?h ?q); (case h => exact Lc.of sc_done_at.nd rfl rfl (.inl rfl) a_done_at_6))
  | ((with_reducible refine sx_set (i := 7) (x := "wants") ?h ?s ?q); (case h => exact Lc.of sc_done_at.nd rfl rfl (.inl rfl) a_done_at_7); (case s => rfl))
  | ((with_reducible refine gx_name (i := 7) (x := "wants") ?h ?q); (case h => exact Lc.of sc_done_at.nd rfl rfl (.inl rfl) a_done_at_7))
  | ((with_reducible refine sx_set (i := 8) (x := "some") ?h ?s ?q); (case h => exact Lc.of sc_done_at.nd rfl rfl (.inl rfl) a_done_at_8); (case s => rfl))
  | ((with_reducible refine gx_name (i := 8) (x := "some") ?h ?q); (case h => exact Lc.of sc_done_at.nd rfl rfl (.inl rfl) a_done_at_8))
  | ((with_reducible refine sx_set (i := 9) (x := "beat") ?h ?s ?q); (case h => exact Lc.of sc_done_at.nd rfl rfl (.inl rfl) a_done_at_9); (case s => rfl))
  | ((with_reducible refine gx_name (i := 9) (x := "beat") ?h ?q); (case h => exact Lc.of sc_done_at.nd rfl rfl (.inl rfl) a_done_at_9)))
local macro_rules | `(tactic| wtm_at "vb done_at") => `(tactic| first
  | ((with_reducible refine' ex_var (i := 0) (x := "book") ?h ?g ?q); (case h => exact At.b rfl (by first | exact Or.inl rfl | exact Or.inr (Or.inl rfl) | exact Or.inr (Or.inr rfl))); (case g => rfl))
  | ((with_reducible refine' ex_var (i := 1) (x := "comes") ?h ?g ?q); (case h => exact At.b rfl (by first | exact Or.inl rfl | exact Or.inr (Or.inl rfl) | exact Or.inr (Or.inr rfl))); (case g => rfl))
  | ((with_reducible refine' ex_var (i := 2) (x := "found") ?h ?g ?q); (case h => exact At.b rfl (by first | exact Or.inl rfl | exact Or.inr (Or.inl rfl) | exact Or.inr (Or.inr rfl))); (case g => rfl))
  | ((with_reducible refine' ex_var (i := 3) (x := "number") ?h ?g ?q); (case h => exact At.b rfl (by first | exact Or.inl rfl | exact Or.inr (Or.inl rfl) | exact Or.inr (Or.inr rfl))); (case g => rfl))
  | ((with_reducible refine' ex_var (i := 4) (x := "command") ?h ?g ?q); (case h => exact At.b rfl (by first | exact Or.inl rfl | exact Or.inr (Or.inl rfl) | exact Or.inr (Or.inr rfl))); (case g => rfl))
  | ((with_reducible refine' ex_var (i := 5) (x := "when") ?h ?g ?q); (case h => exact At.b rfl (by first | exact Or.inl rfl | exact Or.inr (Or.inl rfl) | exact Or.inr (Or.inr rfl))); (case g => rfl))
  | ((with_reducible refine' ex_var (i := 6) (x := "until") ?h ?g ?q); (case h => exact At.b rfl (by first | exact Or.inl rfl | exact Or.inr (Or.inl rfl) | exact Or.inr (Or.inr rfl))); (case g => rfl))
  | ((with_reducible refine' ex_var (i := 7) (x := "wants") ?h ?g ?q); (case h => exact At.b rfl (by first | exact Or.inl rfl | exact Or.inr (Or.inl rfl) | exact Or.inr (Or.inr rfl))); (case g => rfl))
  | ((with_reducible refine' ex_var (i := 8) (x := "some") ?h ?g ?q); (case h => exact At.b rfl (by first | exact Or.inl rfl | exact Or.inr (Or.inl rfl) | exact Or.inr (Or.inr rfl))); (case g => rfl))
  | ((with_reducible refine' ex_var (i := 9) (x := "beat") ?h ?g ?q); (case h => exact At.b rfl (by first | exact Or.inl rfl | exact Or.inr (Or.inl rfl) | exact Or.inr (Or.inr rfl))); (case g => rfl))
  | ((with_reducible refine' ex_var (i := 10) (x := "one") ?h ?g ?q); (case h => exact At.b rfl (by first | exact Or.inl rfl | exact Or.inr (Or.inl rfl) | exact Or.inr (Or.inr rfl))); (case g => rfl)))
local macro_rules | `(tactic| wtm_at "w done_at") => `(tactic| repeat (first | wtm_at "v done_at" | wtm_at "e" | wtm_at "ei" | wtm_at "c"))
local macro_rules | `(tactic| wtm_at "wb done_at") => `(tactic| repeat (first | wtm_at "vb done_at" | wtm_at "e" | wtm_at "cb"))
local macro_rules | `(tactic| wtm_at "g done_at") => `(tactic| repeat (first | wtm_at "v done_at" | wtm_at "e2" | wtm_at "e" | wtm_at "ei" | wtm_at "c"))
local macro_rules | `(tactic| wtm_at "gb done_at") => `(tactic| repeat (first | wtm_at "vb done_at" | wtm_at "e2" | wtm_at "e" | wtm_at "cb"))
local macro_rules | `(tactic| wtm_at "h done_at") => `(tactic| repeat (first | wtm_at "v done_at" | wtm_at "e2" | wtm_at "e" | wtm_at "c"))
local macro_rules | `(tactic| wtm_at "gx done_at") => `(tactic| repeat (first | wtm_at "v done_at" | wtm_at "e2" | wtm_at "e" | wtm_at "ei" | wtm_at "cx"))
local macro_rules | `(tactic| wtm_at "hx done_at") => `(tactic| repeat (first | wtm_at "v done_at" | wtm_at "e2" | wtm_at "e" | wtm_at "cx"))
local macro_rules | `(tactic| wtm_at "gy done_at") => `(tactic| repeat (first | wtm_at "vb done_at" | wtm_at "e2" | wtm_at "e" | wtm_at "cx"))
local macro_rules | `(tactic| wtm_at "hx1 done_at") => `(tactic| first | wtm_at "v done_at" | wtm_at "e2" | wtm_at "e" | wtm_at "cx")
local macro_rules | `(tactic| wtm_at "lc done_at 0") => `(tactic| refine' ex_lc (own := [("one", 10)]) (t := .inl 10)  rfl sc_done_at.nd (blkOk_by (N := n_done_at) (sc := defScope s_done_at) (by decide +kernel)) (by decide) (fun _ _ _ _ _ => pg_name (i := 10) sc_done_at.nd rfl (by first | exact Or.inl rfl | exact Or.inr rfl)) (fun _ => rfl) ?_)
local macro_rules | `(tactic| wtm_at "lcM done_at 0") => `(tactic| refine' ex_lcM (own := [("one", 10)]) (t := .inl 10)  rfl sc_done_at.nd (blkOk_by (N := n_done_at) (sc := defScope s_done_at) (by decide +kernel)) (by decide) (fun _ _ _ _ _ => pg_name (i := 10) sc_done_at.nd rfl (by first | exact Or.inl rfl | exact Or.inr rfl)) (fun _ => rfl) ?_)
local macro_rules | `(tactic| wtm_at "lcp done_at 0") => `(tactic| refine' ex_lcp (own := [("one", 10)]) (t := .inl 10) ?f rfl sc_done_at.nd (blkOk_by (N := n_done_at) (sc := defScope s_done_at) (by decide +kernel)) (by decide) (fun _ _ _ _ _ => pg_name (i := 10) sc_done_at.nd rfl (by first | exact Or.inl rfl | exact Or.inr rfl)) (fun _ => rfl) ?_)
local macro_rules | `(tactic| wtm_at "lcpM done_at 0") => `(tactic| refine' ex_lcpM (own := [("one", 10)]) (t := .inl 10) ?f rfl sc_done_at.nd (blkOk_by (N := n_done_at) (sc := defScope s_done_at) (by decide +kernel)) (by decide) (fun _ _ _ _ _ => pg_name (i := 10) sc_done_at.nd rfl (by first | exact Or.inl rfl | exact Or.inr rfl)) (fun _ => rfl) ?_)
local macro_rules | `(tactic| wtm_at "v orders") => `(tactic| first
  | ((with_reducible refine' ex_var (i := 0) (x := "many") ?h ?g ?q); (case h => exact At.of rfl rfl a_orders_0); (case g => rfl))
  | ((with_reducible refine' ex_var (i := 1) (x := "found") ?h ?g ?q); (case h => exact At.of rfl rfl a_orders_1); (case g => rfl))
  | ((with_reducible refine' ex_var (i := 2) (x := "turn") ?h ?g ?q); (case h => exact At.of rfl rfl a_orders_2); (case g => rfl))
  | ((with_reducible refine' ex_var (i := 3) (x := "longer") ?h ?g ?q); (case h => exact At.of rfl rfl a_orders_3); (case g => rfl))
  | ((with_reducible refine' ex_var (i := 4) (x := "order") ?h ?g ?q); (case h => exact At.of rfl rfl a_orders_4); (case g => rfl))
  | ((with_reducible refine sx_set (i := 0) (x := "many") ?h ?s ?q); (case h => exact Lc.of sc_orders.nd rfl rfl (.inl rfl) a_orders_0); (case s => rfl))
  | ((with_reducible refine gx_name (i := 0) (x := "many") ?h ?q); (case h => exact Lc.of sc_orders.nd rfl rfl (.inl rfl) a_orders_0))
  | ((with_reducible refine sx_set (i := 1) (x := "found") ?h ?s ?q); (case h => exact Lc.of sc_orders.nd rfl rfl (.inl rfl) a_orders_1); (case s => rfl))
  | ((with_reducible refine gx_name (i := 1) (x := "found") ?h ?q); (case h => exact Lc.of sc_orders.nd rfl rfl (.inl rfl) a_orders_1))
  | ((with_reducible refine sx_set (i := 2) (x := "turn") ?h ?s ?q); (case h => exact Lc.of sc_orders.nd rfl rfl (.inl rfl) a_orders_2); (case s => rfl))
  | ((with_reducible refine gx_name (i := 2) (x := "turn") ?h ?q); (case h => exact Lc.of sc_orders.nd rfl rfl (.inl rfl) a_orders_2))
  | ((with_reducible refine sx_set (i := 3) (x := "longer") ?h ?s ?q); (case h => exact Lc.of sc_orders.nd rfl rfl (.inl rfl) a_orders_3); (case s => rfl))
  | ((with_reducible refine gx_name (i := 3) (x := "longer") ?h ?q); (case h => exact Lc.of sc_orders.nd rfl rfl (.inl rfl) a_orders_3))
  | ((with_reducible refine sx_set (i := 4) (x := "order") ?h ?s ?q); (case h => exact Lc.of sc_orders.nd rfl rfl (.inl rfl) a_orders_4); (case s => rfl))
  | ((with_reducible refine gx_name (i := 4) (x := "order") ?h ?q); (case h => exact Lc.of sc_orders.nd rfl rfl (.inl rfl) a_orders_4)))
local macro_rules | `(tactic| wtm_at "vb orders") => `(tactic| first
  | ((with_reducible refine' ex_var (i := 0) (x := "many") ?h ?g ?q); (case h => exact At.b rfl (by first | exact Or.inl rfl | exact Or.inr (Or.inl rfl) | exact Or.inr (Or.inr rfl))); (case g => rfl))
  | ((with_reducible refine' ex_var (i := 1) (x := "found") ?h ?g ?q); (case h => exact At.b rfl (by first | exact Or.inl rfl | exact Or.inr (Or.inl rfl) | exact Or.inr (Or.inr rfl))); (case g => rfl))
  | ((with_reducible refine' ex_var (i := 2) (x := "turn") ?h ?g ?q); (case h => exact At.b rfl (by first | exact Or.inl rfl | exact Or.inr (Or.inl rfl) | exact Or.inr (Or.inr rfl))); (case g => rfl))
  | ((with_reducible refine' ex_var (i := 3) (x := "longer") ?h ?g ?q); (case h => exact At.b rfl (by first | exact Or.inl rfl | exact Or.inr (Or.inl rfl) | exact Or.inr (Or.inr rfl))); (case g => rfl))
  | ((with_reducible refine' ex_var (i := 4) (x := "order") ?h ?g ?q); (case h => exact At.b rfl (by first | exact Or.inl rfl | exact Or.inr (Or.inl rfl) | exact Or.inr (Or.inr rfl))); (case g => rfl))
  | ((with_reducible refine' ex_var (i := 5) (x := "number") ?h ?g ?q); (case h => exact At.b rfl (by first | exact Or.inl rfl | exact Or.inr (Or.inl rfl) | exact Or.inr (Or.inr rfl))); (case g => rfl)))
local macro_rules | `(tactic| wtm_at "w orders") => `(tactic| repeat (first | wtm_at "v orders" | wtm_at "e" | wtm_at "ei" | wtm_at "c"))
local macro_rules | `(tactic| wtm_at "wb orders") => `(tactic| repeat (first | wtm_at "vb orders" | wtm_at "e" | wtm_at "cb"))
local macro_rules | `(tactic| wtm_at "g orders") => `(tactic| repeat (first | wtm_at "v orders" | wtm_at "e2" | wtm_at "e" | wtm_at "ei" | wtm_at "c"))
local macro_rules | `(tactic| wtm_at "gb orders") => `(tactic| repeat (first | wtm_at "vb orders" | wtm_at "e2" | wtm_at "e" | wtm_at "cb"))
local macro_rules | `(tactic| wtm_at "h orders") => `(tactic| repeat (first | wtm_at "v orders" | wtm_at "e2" | wtm_at "e" | wtm_at "c"))
local macro_rules | `(tactic| wtm_at "gx orders") => `(tactic| repeat (first | wtm_at "v orders" | wtm_at "e2" | wtm_at "e" | wtm_at "ei" | wtm_at "cx"))
local macro_rules | `(tactic| wtm_at "hx orders") => `(tactic| repeat (first | wtm_at "v orders" | wtm_at "e2" | wtm_at "e" | wtm_at "cx"))
local macro_rules | `(tactic| wtm_at "gy orders") => `(tactic| repeat (first | wtm_at "vb orders" | wtm_at "e2" | wtm_at "e" | wtm_at "cx"))
local macro_rules | `(tactic| wtm_at "hx1 orders") => `(tactic| first | wtm_at "v orders" | wtm_at "e2" | wtm_at "e" | wtm_at "cx")
local macro_rules | `(tactic| wtm_at "lc orders 0") => `(tactic| refine' ex_lc (own := [("number", 5)]) (t := .inl 5)  rfl sc_orders.nd (blkOk_by (N := n_orders) (sc := defScope s_orders) (by decide +kernel)) (by decide) (fun _ _ _ _ _ => pg_name (i := 5) sc_orders.nd rfl (by first | exact Or.inl rfl | exact Or.inr rfl)) (fun _ => rfl) ?_)
local macro_rules | `(tactic| wtm_at "lcM orders 0") => `(tactic| refine' ex_lcM (own := [("number", 5)]) (t := .inl 5)  rfl sc_orders.nd (blkOk_by (N := n_orders) (sc := defScope s_orders) (by decide +kernel)) (by decide) (fun _ _ _ _ _ => pg_name (i := 5) sc_orders.nd rfl (by first | exact Or.inl rfl | exact Or.inr rfl)) (fun _ => rfl) ?_)
local macro_rules | `(tactic| wtm_at "lcp orders 0") => `(tactic| refine' ex_lcp (own := [("number", 5)]) (t := .inl 5) ?f rfl sc_orders.nd (blkOk_by (N := n_orders) (sc := defScope s_orders) (by decide +kernel)) (by decide) (fun _ _ _ _ _ => pg_name (i := 5) sc_orders.nd rfl (by first | exact Or.inl rfl | exact Or.inr rfl)) (fun _ => rfl) ?_)
local macro_rules | `(tactic| wtm_at "lcpM orders 0") => `(tactic| refine' ex_lcpM (own := [("number", 5)]) (t := .inl 5) ?f rfl sc_orders.nd (blkOk_by (N := n_orders) (sc := defScope s_orders) (by decide +kernel)) (by decide) (fun _ _ _ _ _ => pg_name (i := 5) sc_orders.nd rfl (by first | exact Or.inl rfl | exact Or.inr rfl)) (fun _ => rfl) ?_)
local macro_rules | `(tactic| wtm_at "v open_beats") => `(tactic| first
  | ((with_reducible refine' ex_var (i := 0) (x := "windows") ?h ?g ?q); (case h => exact At.of rfl rfl a_open_beats_0); (case g => rfl))
  | ((with_reducible refine' ex_var (i := 1) (x := "many") ?h ?g ?q); (case h => exact At.of rfl rfl a_open_beats_1); (case g => rfl))
  | ((with_reducible refine sx_set (i := 0) (x := "windows") ?h ?s ?q); (case h => exact Lc.of sc_open_beats.nd rfl rfl (.inl rfl) a_open_beats_0); (case s => rfl))
  | ((with_reducible refine gx_name (i := 0) (x := "windows") ?h ?q); (case h => exact Lc.of sc_open_beats.nd rfl rfl (.inl rfl) a_open_beats_0))
  | ((with_reducible refine sx_set (i := 1) (x := "many") ?h ?s ?q); (case h => exact Lc.of sc_open_beats.nd rfl rfl (.inl rfl) a_open_beats_1); (case s => rfl))
  | ((with_reducible refine gx_name (i := 1) (x := "many") ?h ?q); (case h => exact Lc.of sc_open_beats.nd rfl rfl (.inl rfl) a_open_beats_1)))
local macro_rules | `(tactic| wtm_at "vb open_beats") => `(tactic| first
  | ((with_reducible refine' ex_var (i := 0) (x := "windows") ?h ?g ?q); (case h => exact At.b rfl (by first | exact Or.inl rfl | exact Or.inr (Or.inl rfl) | exact Or.inr (Or.inr rfl))); (case g => rfl))
  | ((with_reducible refine' ex_var (i := 1) (x := "many") ?h ?g ?q); (case h => exact At.b rfl (by first | exact Or.inl rfl | exact Or.inr (Or.inl rfl) | exact Or.inr (Or.inr rfl))); (case g => rfl))
  | ((with_reducible refine' ex_var (i := 2) (x := "beat") ?h ?g ?q); (case h => exact At.b rfl (by first | exact Or.inl rfl | exact Or.inr (Or.inl rfl) | exact Or.inr (Or.inr rfl))); (case g => rfl)))
local macro_rules | `(tactic| wtm_at "w open_beats") => `(tactic| repeat (first | wtm_at "v open_beats" | wtm_at "e" | wtm_at "ei" | wtm_at "c"))
local macro_rules | `(tactic| wtm_at "wb open_beats") => `(tactic| repeat (first | wtm_at "vb open_beats" | wtm_at "e" | wtm_at "cb"))
local macro_rules | `(tactic| wtm_at "g open_beats") => `(tactic| repeat (first | wtm_at "v open_beats" | wtm_at "e2" | wtm_at "e" | wtm_at "ei" | wtm_at "c"))
local macro_rules | `(tactic| wtm_at "gb open_beats") => `(tactic| repeat (first | wtm_at "vb open_beats" | wtm_at "e2" | wtm_at "e" | wtm_at "cb"))
local macro_rules | `(tactic| wtm_at "h open_beats") => `(tactic| repeat (first | wtm_at "v open_beats" | wtm_at "e2" | wtm_at "e" | wtm_at "c"))
local macro_rules | `(tactic| wtm_at "gx open_beats") => `(tactic| repeat (first | wtm_at "v open_beats" | wtm_at "e2" | wtm_at "e" | wtm_at "ei" | wtm_at "cx"))
local macro_rules | `(tactic| wtm_at "hx open_beats") => `(tactic| repeat (first | wtm_at "v open_beats" | wtm_at "e2" | wtm_at "e" | wtm_at "cx"))
local macro_rules | `(tactic| wtm_at "gy open_beats") => `(tactic| repeat (first | wtm_at "vb open_beats" | wtm_at "e2" | wtm_at "e" | wtm_at "cx"))
local macro_rules | `(tactic| wtm_at "hx1 open_beats") => `(tactic| first | wtm_at "v open_beats" | wtm_at "e2" | wtm_at "e" | wtm_at "cx")
local macro_rules | `(tactic| wtm_at "lc open_beats 0") => `(tactic| refine' ex_lc (own := [("beat", 2)]) (t := .inl 2)  rfl sc_open_beats.nd (blkOk_by (N := n_open_beats) (sc := defScope s_open_beats) (by decide +kernel)) (by decide) (fun _ _ _ _ _ => pg_name (i := 2) sc_open_beats.nd rfl (by first | exact Or.inl rfl | exact Or.inr rfl)) (fun _ => rfl) ?_)
local macro_rules | `(tactic| wtm_at "lcM open_beats 0") => `(tactic| refine' ex_lcM (own := [("beat", 2)]) (t := .inl 2)  rfl sc_open_beats.nd (blkOk_by (N := n_open_beats) (sc := defScope s_open_beats) (by decide +kernel)) (by decide) (fun _ _ _ _ _ => pg_name (i := 2) sc_open_beats.nd rfl (by first | exact Or.inl rfl | exact Or.inr rfl)) (fun _ => rfl) ?_)
local macro_rules | `(tactic| wtm_at "lcp open_beats 0") => `(tactic| refine' ex_lcp (own := [("beat", 2)]) (t := .inl 2) ?f rfl sc_open_beats.nd (blkOk_by (N := n_open_beats) (sc := defScope s_open_beats) (by decide +kernel)) (by decide) (fun _ _ _ _ _ => pg_name (i := 2) sc_open_beats.nd rfl (by first | exact Or.inl rfl | exact Or.inr rfl)) (fun _ => rfl) ?_)
local macro_rules | `(tactic| wtm_at "lcpM open_beats 0") => `(tactic| refine' ex_lcpM (own := [("beat", 2)]) (t := .inl 2) ?f rfl sc_open_beats.nd (blkOk_by (N := n_open_beats) (sc := defScope s_open_beats) (by decide +kernel)) (by decide) (fun _ _ _ _ _ => pg_name (i := 2) sc_open_beats.nd rfl (by first | exact Or.inl rfl | exact Or.inr rfl)) (fun _ => rfl) ?_)
local macro_rules | `(tactic| wtm_at "v best_order") => `(tactic| first
  | ((with_reducible refine' ex_var (i := 0) (x := "book") ?h ?g ?q); (case h => exact At.of rfl rfl a_best_order_0); (case g => rfl))
  | ((with_reducible refine' ex_var (i := 1) (x := "delay") ?h ?g ?q); (case h => exact At.of rfl rfl a_best_order_1); (case g => rfl))
  | ((with_reducible refine' ex_var (i := 2) (x := "beats") ?h ?g ?q); (case h => exact At.of rfl rfl a_best_order_2); (case g => rfl))
  | ((with_reducible refine' ex_var (i := 3) (x := "best") ?h ?g ?q); (case h => exact At.of rfl rfl a_best_order_3); (case g => rfl))
  | ((with_reducible refine' ex_var (i := 4) (x := "order") ?h ?g ?q); (case h => exact At.of rfl rfl a_best_order_4); (case g => rfl))
  | ((with_reducible refine' ex_var (i := 5) (x := "comes") ?h ?g ?q); (case h => exact At.of rfl rfl a_best_order_5); (case g => rfl))
  | ((with_reducible refine' ex_var (i := 6) (x := "done") ?h ?g ?q); (case h => exact At.of rfl rfl a_best_order_6); (case g => rfl))
  | ((with_reducible refine sx_set (i := 0) (x := "book") ?h ?s ?q); (case h => exact Lc.of sc_best_order.nd rfl rfl (.inl rfl) a_best_order_0); (case s => rfl))
  | ((with_reducible refine gx_name (i := 0) (x := "book") ?h ?q); (case h => exact Lc.of sc_best_order.nd rfl rfl (.inl rfl) a_best_order_0))
  | ((with_reducible refine sx_set (i := 1) (x := "delay") ?h ?s ?q); (case h => exact Lc.of sc_best_order.nd rfl rfl (.inl rfl) a_best_order_1); (case s => rfl))
  | ((with_reducible refine gx_name (i := 1) (x := "delay") ?h ?q); (case h => exact Lc.of sc_best_order.nd rfl rfl (.inl rfl) a_best_order_1))
  | ((with_reducible refine sx_set (i := 2) (x := "beats") ?h ?s ?q); (case h => exact Lc.of sc_best_order.nd rfl rfl (.inl rfl) a_best_order_2); (case s => rfl))
  | ((with_reducible refine gx_name (i := 2) (x := "beats") ?h ?q); (case h => exact Lc.of sc_best_order.nd rfl rfl (.inl rfl) a_best_order_2))
  | ((with_reducible refine sx_set (i := 3) (x := "best") ?h ?s ?q); (case h => exact Lc.of sc_best_order.nd rfl rfl (.inl rfl) a_best_order_3); (case s => rfl))
  | ((with_reducible refine gx_name (i := 3) (x := "best") ?h ?q); (case h => exact Lc.of sc_best_order.nd rfl rfl (.inl rfl) a_best_order_3))
  | ((with_reducible refine sx_set (i := 4) (x := "order") ?h ?s ?q); (case h => exact Lc.of sc_best_order.nd rfl rfl (.inl rfl) a_best_order_4); (case s => rfl))
  | ((with_reducible refine gx_name (i := 4) (x := "order") ?h ?q); (case h => exact Lc.of sc_best_order.nd rfl rfl (.inl rfl) a_best_order_4))
  | ((with_reducible refine sx_set (i := 5) (x := "comes") ?h ?s ?q); (case h => exact Lc.of sc_best_order.nd rfl rfl (.inl rfl) a_best_order_5); (case s => rfl))
  | ((with_reducible refine gx_name (i := 5) (x := "comes") ?h ?q); (case h => exact Lc.of sc_best_order.nd rfl rfl (.inl rfl) a_best_order_5))
  | ((with_reducible refine sx_set (i := 6) (x := "done") ?h ?s ?q); (case h => exact Lc.of sc_best_order.nd rfl rfl (.inl rfl) a_best_order_6); (case s => rfl))
  | ((with_reducible refine gx_name (i := 6) (x := "done") ?h ?q); (case h => exact Lc.of sc_best_order.nd rfl rfl (.inl rfl) a_best_order_6)))
local macro_rules | `(tactic| wtm_at "vb best_order") => `(tactic| first
  | ((with_reducible refine' ex_var (i := 0) (x := "book") ?h ?g ?q); (case h => exact At.b rfl (by first | exact Or.inl rfl | exact Or.inr (Or.inl rfl) | exact Or.inr (Or.inr rfl))); (case g => rfl))
  | ((with_reducible refine' ex_var (i := 1) (x := "delay") ?h ?g ?q); (case h => exact At.b rfl (by first | exact Or.inl rfl | exact Or.inr (Or.inl rfl) | exact Or.inr (Or.inr rfl))); (case g => rfl))
  | ((with_reducible refine' ex_var (i := 2) (x := "beats") ?h ?g ?q); (case h => exact At.b rfl (by first | exact Or.inl rfl | exact Or.inr (Or.inl rfl) | exact Or.inr (Or.inr rfl))); (case g => rfl))
  | ((with_reducible refine' ex_var (i := 3) (x := "best") ?h ?g ?q); (case h => exact At.b rfl (by first | exact Or.inl rfl | exact Or.inr (Or.inl rfl) | exact Or.inr (Or.inr rfl))); (case g => rfl))
  | ((with_reducible refine' ex_var (i := 4) (x := "order") ?h ?g ?q); (case h => exact At.b rfl (by first | exact Or.inl rfl | exact Or.inr (Or.inl rfl) | exact Or.inr (Or.inr rfl))); (case g => rfl))
  | ((with_reducible refine' ex_var (i := 5) (x := "comes") ?h ?g ?q); (case h => exact At.b rfl (by first | exact Or.inl rfl | exact Or.inr (Or.inl rfl) | exact Or.inr (Or.inr rfl))); (case g => rfl))
  | ((with_reducible refine' ex_var (i := 6) (x := "done") ?h ?g ?q); (case h => exact At.b rfl (by first | exact Or.inl rfl | exact Or.inr (Or.inl rfl) | exact Or.inr (Or.inr rfl))); (case g => rfl))
  | ((with_reducible refine' ex_var (i := 7) (x := "number") ?h ?g ?q); (case h => exact At.b rfl (by first | exact Or.inl rfl | exact Or.inr (Or.inl rfl) | exact Or.inr (Or.inr rfl))); (case g => rfl)))
local macro_rules | `(tactic| wtm_at "w best_order") => `(tactic| repeat (first | wtm_at "v best_order" | wtm_at "e" | wtm_at "ei" | wtm_at "c"))
local macro_rules | `(tactic| wtm_at "wb best_order") => `(tactic| repeat (first | wtm_at "vb best_order" | wtm_at "e" | wtm_at "cb"))
local macro_rules | `(tactic| wtm_at "g best_order") => `(tactic| repeat (first | wtm_at "v best_order" | wtm_at "e2" | wtm_at "e" | wtm_at "ei" | wtm_at "c"))
local macro_rules | `(tactic| wtm_at "gb best_order") => `(tactic| repeat (first | wtm_at "vb best_order" | wtm_at "e2" | wtm_at "e" | wtm_at "cb"))
local macro_rules | `(tactic| wtm_at "h best_order") => `(tactic| repeat (first | wtm_at "v best_order" | wtm_at "e2" | wtm_at "e" | wtm_at "c"))
local macro_rules | `(tactic| wtm_at "gx best_order") => `(tactic| repeat (first | wtm_at "v best_order" | wtm_at "e2" | wtm_at "e" | wtm_at "ei" | wtm_at "cx"))
local macro_rules | `(tactic| wtm_at "hx best_order") => `(tactic| repeat (first | wtm_at "v best_order" | wtm_at "e2" | wtm_at "e" | wtm_at "cx"))
local macro_rules | `(tactic| wtm_at "gy best_order") => `(tactic| repeat (first | wtm_at "vb best_order" | wtm_at "e2" | wtm_at "e" | wtm_at "cx"))
local macro_rules | `(tactic| wtm_at "hx1 best_order") => `(tactic| first | wtm_at "v best_order" | wtm_at "e2" | wtm_at "e" | wtm_at "cx")
local macro_rules | `(tactic| wtm_at "lc best_order 0") => `(tactic| refine' ex_lc (own := [("number", 7)]) (t := .inl 7)  rfl sc_best_order.nd (blkOk_by (N := n_best_order) (sc := defScope s_best_order) (by decide +kernel)) (by decide) (fun _ _ _ _ _ => pg_name (i := 7) sc_best_order.nd rfl (by first | exact Or.inl rfl | exact Or.inr rfl)) (fun _ => rfl) ?_)
local macro_rules | `(tactic| wtm_at "lcM best_order 0") => `(tactic| refine' ex_lcM (own := [("number", 7)]) (t := .inl 7)  rfl sc_best_order.nd (blkOk_by (N := n_best_order) (sc := defScope s_best_order) (by decide +kernel)) (by decide) (fun _ _ _ _ _ => pg_name (i := 7) sc_best_order.nd rfl (by first | exact Or.inl rfl | exact Or.inr rfl)) (fun _ => rfl) ?_)
local macro_rules | `(tactic| wtm_at "lcp best_order 0") => `(tactic| refine' ex_lcp (own := [("number", 7)]) (t := .inl 7) ?f rfl sc_best_order.nd (blkOk_by (N := n_best_order) (sc := defScope s_best_order) (by decide +kernel)) (by decide) (fun _ _ _ _ _ => pg_name (i := 7) sc_best_order.nd rfl (by first | exact Or.inl rfl | exact Or.inr rfl)) (fun _ => rfl) ?_)
local macro_rules | `(tactic| wtm_at "lcpM best_order 0") => `(tactic| refine' ex_lcpM (own := [("number", 7)]) (t := .inl 7) ?f rfl sc_best_order.nd (blkOk_by (N := n_best_order) (sc := defScope s_best_order) (by decide +kernel)) (by decide) (fun _ _ _ _ _ => pg_name (i := 7) sc_best_order.nd rfl (by first | exact Or.inl rfl | exact Or.inr rfl)) (fun _ => rfl) ?_)
local macro_rules | `(tactic| wtm_at "slc best_order 0") => `(tactic| refine' sx_setLc (i := 5) (own := [("number", 7)]) (t := .inl 7)  rfl sc_best_order.nd rfl rfl (sw_true rfl rfl rfl (by decide +kernel)) (blkOk_by (N := n_best_order) (sc := defScope s_best_order) (by decide +kernel)) (by decide) (fun _ _ _ _ _ => pg_name (i := 7) sc_best_order.nd rfl (by first | exact Or.inl rfl | exact Or.inr rfl)) (fun _ => rfl) ?_)
local macro_rules | `(tactic| wtm_at "slcM best_order 0") => `(tactic| refine' sx_setLcM (i := 5) (own := [("number", 7)]) (t := .inl 7)  rfl sc_best_order.nd rfl rfl (sw_true rfl rfl rfl (by decide +kernel)) (blkOk_by (N := n_best_order) (sc := defScope s_best_order) (by decide +kernel)) (by decide) (fun _ _ _ _ _ => pg_name (i := 7) sc_best_order.nd rfl (by first | exact Or.inl rfl | exact Or.inr rfl)) (fun _ => rfl) ?_)
local macro_rules | `(tactic| wtm_at "slcp best_order 0") => `(tactic| refine' sx_setLcp (i := 5) (own := [("number", 7)]) (t := .inl 7) ?f rfl sc_best_order.nd rfl rfl (sw_true rfl rfl rfl (by decide +kernel)) (blkOk_by (N := n_best_order) (sc := defScope s_best_order) (by decide +kernel)) (by decide) (fun _ _ _ _ _ => pg_name (i := 7) sc_best_order.nd rfl (by first | exact Or.inl rfl | exact Or.inr rfl)) (fun _ => rfl) ?_)
local macro_rules | `(tactic| wtm_at "v soonest") => `(tactic| first
  | ((with_reducible refine' ex_var (i := 0) (x := "book") ?h ?g ?q); (case h => exact At.of rfl rfl a_soonest_0); (case g => rfl))
  | ((with_reducible refine' ex_var (i := 1) (x := "delay") ?h ?g ?q); (case h => exact At.of rfl rfl a_soonest_1); (case g => rfl))
  | ((with_reducible refine' ex_var (i := 2) (x := "windows") ?h ?g ?q); (case h => exact At.of rfl rfl a_soonest_2); (case g => rfl))
  | ((with_reducible refine sx_set (i := 0) (x := "book") ?h ?s ?q); (case h => exact Lc.of sc_soonest.nd rfl rfl (.inl rfl) a_soonest_0); (case s => rfl))
  | ((with_reducible refine gx_name (i := 0) (x := "book") ?h ?q); (case h => exact Lc.of sc_soonest.nd rfl rfl (.inl rfl) a_soonest_0))
  | ((with_reducible refine sx_set (i := 1) (x := "delay") ?h ?s ?q); (case h => exact Lc.of sc_soonest.nd rfl rfl (.inl rfl) a_soonest_1); (case s => rfl))
  | ((with_reducible refine gx_name (i := 1) (x := "delay") ?h ?q); (case h => exact Lc.of sc_soonest.nd rfl rfl (.inl rfl) a_soonest_1))
  | ((with_reducible refine sx_set (i := 2) (x := "windows") ?h ?s ?q); (case h => exact Lc.of sc_soonest.nd rfl rfl (.inl rfl) a_soonest_2); (case s => rfl))
  | ((with_reducible refine gx_name (i := 2) (x := "windows") ?h ?q); (case h => exact Lc.of sc_soonest.nd rfl rfl (.inl rfl) a_soonest_2)))
local macro_rules | `(tactic| wtm_at "vb soonest") => `(tactic| first
  | ((with_reducible refine' ex_var (i := 0) (x := "book") ?h ?g ?q); (case h => exact At.b rfl (by first | exact Or.inl rfl | exact Or.inr (Or.inl rfl) | exact Or.inr (Or.inr rfl))); (case g => rfl))
  | ((with_reducible refine' ex_var (i := 1) (x := "delay") ?h ?g ?q); (case h => exact At.b rfl (by first | exact Or.inl rfl | exact Or.inr (Or.inl rfl) | exact Or.inr (Or.inr rfl))); (case g => rfl))
  | ((with_reducible refine' ex_var (i := 2) (x := "windows") ?h ?g ?q); (case h => exact At.b rfl (by first | exact Or.inl rfl | exact Or.inr (Or.inl rfl) | exact Or.inr (Or.inr rfl))); (case g => rfl)))
local macro_rules | `(tactic| wtm_at "w soonest") => `(tactic| repeat (first | wtm_at "v soonest" | wtm_at "e" | wtm_at "ei" | wtm_at "c"))
local macro_rules | `(tactic| wtm_at "wb soonest") => `(tactic| repeat (first | wtm_at "vb soonest" | wtm_at "e" | wtm_at "cb"))
local macro_rules | `(tactic| wtm_at "g soonest") => `(tactic| repeat (first | wtm_at "v soonest" | wtm_at "e2" | wtm_at "e" | wtm_at "ei" | wtm_at "c"))
local macro_rules | `(tactic| wtm_at "gb soonest") => `(tactic| repeat (first | wtm_at "vb soonest" | wtm_at "e2" | wtm_at "e" | wtm_at "cb"))
local macro_rules | `(tactic| wtm_at "h soonest") => `(tactic| repeat (first | wtm_at "v soonest" | wtm_at "e2" | wtm_at "e" | wtm_at "c"))
local macro_rules | `(tactic| wtm_at "gx soonest") => `(tactic| repeat (first | wtm_at "v soonest" | wtm_at "e2" | wtm_at "e" | wtm_at "ei" | wtm_at "cx"))
local macro_rules | `(tactic| wtm_at "hx soonest") => `(tactic| repeat (first | wtm_at "v soonest" | wtm_at "e2" | wtm_at "e" | wtm_at "cx"))
local macro_rules | `(tactic| wtm_at "gy soonest") => `(tactic| repeat (first | wtm_at "vb soonest" | wtm_at "e2" | wtm_at "e" | wtm_at "cx"))
local macro_rules | `(tactic| wtm_at "hx1 soonest") => `(tactic| first | wtm_at "v soonest" | wtm_at "e2" | wtm_at "e" | wtm_at "cx")
local macro_rules | `(tactic| wtm_at "v sturdy") => `(tactic| first
  | ((with_reducible refine' ex_var (i := 0) (x := "book") ?h ?g ?q); (case h => exact At.of rfl rfl a_sturdy_0); (case g => rfl))
  | ((with_reducible refine' ex_var (i := 1) (x := "delay") ?h ?g ?q); (case h => exact At.of rfl rfl a_sturdy_1); (case g => rfl))
  | ((with_reducible refine' ex_var (i := 2) (x := "windows") ?h ?g ?q); (case h => exact At.of rfl rfl a_sturdy_2); (case g => rfl))
  | ((with_reducible refine' ex_var (i := 3) (x := "lost") ?h ?g ?q); (case h => exact At.of rfl rfl a_sturdy_3); (case g => rfl))
  | ((with_reducible refine' ex_var (i := 4) (x := "often") ?h ?g ?q); (case h => exact At.of rfl rfl a_sturdy_4); (case g => rfl))
  | ((with_reducible refine' ex_var (i := 5) (x := "beats") ?h ?g ?q); (case h => exact At.of rfl rfl a_sturdy_5); (case g => rfl))
  | ((with_reducible refine' ex_var (i := 6) (x := "best") ?h ?g ?q); (case h => exact At.of rfl rfl a_sturdy_6); (case g => rfl))
  | ((with_reducible refine sx_set (i := 0) (x := "book") ?h ?s ?q); (case h => exact Lc.of sc_sturdy.nd rfl rfl (.inl rfl) a_sturdy_0); (case s => rfl))
  | ((with_reducible refine gx_name (i := 0) (x := "book") ?h ?q); (case h => exact Lc.of sc_sturdy.nd rfl rfl (.inl rfl) a_sturdy_0))
  | ((with_reducible refine sx_set (i := 1) (x := "delay") ?h ?s ?q); (case h => exact Lc.of sc_sturdy.nd rfl rfl (.inl rfl) a_sturdy_1); (case s => rfl))
  | ((with_reducible refine gx_name (i := 1) (x := "delay") ?h ?q); (case h => exact Lc.of sc_sturdy.nd rfl rfl (.inl rfl) a_sturdy_1))
  | ((with_reducible refine sx_set (i := 2) (x := "windows") ?h ?s ?q); (case h => exact Lc.of sc_sturdy.nd rfl rfl (.inl rfl) a_sturdy_2); (case s => rfl))
  | ((with_reducible refine gx_name (i := 2) (x := "windows") ?h ?q); (case h => exact Lc.of sc_sturdy.nd rfl rfl (.inl rfl) a_sturdy_2))
  | ((with_reducible refine sx_set (i := 3) (x := "lost") ?h ?s ?q); (case h => exact Lc.of sc_sturdy.nd rfl rfl (.inl rfl) a_sturdy_3); (case s => rfl))
  | ((with_reducible refine gx_name (i := 3) (x := "lost") ?h ?q); (case h => exact Lc.of sc_sturdy.nd rfl rfl (.inl rfl) a_sturdy_3))
  | ((with_reducible refine sx_set (i := 4) (x := "often") ?h ?s ?q); (case h => exact Lc.of sc_sturdy.nd rfl rfl (.inl rfl) a_sturdy_4); (case s => rfl))
  | ((with_reducible refine gx_name (i := 4) (x := "often") ?h ?q); (case h => exact Lc.of sc_sturdy.nd rfl rfl (.inl rfl) a_sturdy_4))
  | ((with_reducible refine sx_set (i := 5) (x := "beats") ?h ?s ?q); (case h => exact Lc.of sc_sturdy.nd rfl rfl (.inl rfl) a_sturdy_5); (case s => rfl))
  | ((with_reducible refine gx_name (i := 5) (x := "beats") ?h ?q); (case h => exact Lc.of sc_sturdy.nd rfl rfl (.inl rfl) a_sturdy_5))
  | ((with_reducible refine sx_set (i := 6) (x := "best") ?h ?s ?q); (case h => exact Lc.of sc_sturdy.nd rfl rfl (.inl rfl) a_sturdy_6); (case s => rfl))
  | ((with_reducible refine gx_name (i := 6) (x := "best") ?h ?q); (case h => exact Lc.of sc_sturdy.nd rfl rfl (.inl rfl) a_sturdy_6)))
local macro_rules | `(tactic| wtm_at "vb sturdy") => `(tactic| first
  | ((with_reducible refine' ex_var (i := 0) (x := "book") ?h ?g ?q); (case h => exact At.b rfl (by first | exact Or.inl rfl | exact Or.inr (Or.inl rfl) | exact Or.inr (Or.inr rfl))); (case g => rfl))
  | ((with_reducible refine' ex_var (i := 1) (x := "delay") ?h ?g ?q); (case h => exact At.b rfl (by first | exact Or.inl rfl | exact Or.inr (Or.inl rfl) | exact Or.inr (Or.inr rfl))); (case g => rfl))
  | ((with_reducible refine' ex_var (i := 2) (x := "windows") ?h ?g ?q); (case h => exact At.b rfl (by first | exact Or.inl rfl | exact Or.inr (Or.inl rfl) | exact Or.inr (Or.inr rfl))); (case g => rfl))
  | ((with_reducible refine' ex_var (i := 3) (x := "lost") ?h ?g ?q); (case h => exact At.b rfl (by first | exact Or.inl rfl | exact Or.inr (Or.inl rfl) | exact Or.inr (Or.inr rfl))); (case g => rfl))
  | ((with_reducible refine' ex_var (i := 4) (x := "often") ?h ?g ?q); (case h => exact At.b rfl (by first | exact Or.inl rfl | exact Or.inr (Or.inl rfl) | exact Or.inr (Or.inr rfl))); (case g => rfl))
  | ((with_reducible refine' ex_var (i := 5) (x := "beats") ?h ?g ?q); (case h => exact At.b rfl (by first | exact Or.inl rfl | exact Or.inr (Or.inl rfl) | exact Or.inr (Or.inr rfl))); (case g => rfl))
  | ((with_reducible refine' ex_var (i := 6) (x := "best") ?h ?g ?q); (case h => exact At.b rfl (by first | exact Or.inl rfl | exact Or.inr (Or.inl rfl) | exact Or.inr (Or.inr rfl))); (case g => rfl))
  | ((with_reducible refine' ex_var (i := 7) (x := "k") ?h ?g ?q); (case h => exact At.b rfl (by first | exact Or.inl rfl | exact Or.inr (Or.inl rfl) | exact Or.inr (Or.inr rfl))); (case g => rfl)))
local macro_rules | `(tactic| wtm_at "w sturdy") => `(tactic| repeat (first | wtm_at "v sturdy" | wtm_at "e" | wtm_at "ei" | wtm_at "c"))
local macro_rules | `(tactic| wtm_at "wb sturdy") => `(tactic| repeat (first | wtm_at "vb sturdy" | wtm_at "e" | wtm_at "cb"))
local macro_rules | `(tactic| wtm_at "g sturdy") => `(tactic| repeat (first | wtm_at "v sturdy" | wtm_at "e2" | wtm_at "e" | wtm_at "ei" | wtm_at "c"))
local macro_rules | `(tactic| wtm_at "gb sturdy") => `(tactic| repeat (first | wtm_at "vb sturdy" | wtm_at "e2" | wtm_at "e" | wtm_at "cb"))
local macro_rules | `(tactic| wtm_at "h sturdy") => `(tactic| repeat (first | wtm_at "v sturdy" | wtm_at "e2" | wtm_at "e" | wtm_at "c"))
local macro_rules | `(tactic| wtm_at "gx sturdy") => `(tactic| repeat (first | wtm_at "v sturdy" | wtm_at "e2" | wtm_at "e" | wtm_at "ei" | wtm_at "cx"))
local macro_rules | `(tactic| wtm_at "hx sturdy") => `(tactic| repeat (first | wtm_at "v sturdy" | wtm_at "e2" | wtm_at "e" | wtm_at "cx"))
local macro_rules | `(tactic| wtm_at "gy sturdy") => `(tactic| repeat (first | wtm_at "vb sturdy" | wtm_at "e2" | wtm_at "e" | wtm_at "cx"))
local macro_rules | `(tactic| wtm_at "hx1 sturdy") => `(tactic| first | wtm_at "v sturdy" | wtm_at "e2" | wtm_at "e" | wtm_at "cx")
local macro_rules | `(tactic| wtm_at "lc sturdy 0") => `(tactic| refine' ex_lc (own := [("k", 7)]) (t := .inl 7)  rfl sc_sturdy.nd (blkOk_by (N := n_sturdy) (sc := defScope s_sturdy) (by decide +kernel)) (by decide) (fun _ _ _ _ _ => pg_name (i := 7) sc_sturdy.nd rfl (by first | exact Or.inl rfl | exact Or.inr rfl)) (fun _ => rfl) ?_)
local macro_rules | `(tactic| wtm_at "lcM sturdy 0") => `(tactic| refine' ex_lcM (own := [("k", 7)]) (t := .inl 7)  rfl sc_sturdy.nd (blkOk_by (N := n_sturdy) (sc := defScope s_sturdy) (by decide +kernel)) (by decide) (fun _ _ _ _ _ => pg_name (i := 7) sc_sturdy.nd rfl (by first | exact Or.inl rfl | exact Or.inr rfl)) (fun _ => rfl) ?_)
local macro_rules | `(tactic| wtm_at "lcp sturdy 0") => `(tactic| refine' ex_lcp (own := [("k", 7)]) (t := .inl 7) ?f rfl sc_sturdy.nd (blkOk_by (N := n_sturdy) (sc := defScope s_sturdy) (by decide +kernel)) (by decide) (fun _ _ _ _ _ => pg_name (i := 7) sc_sturdy.nd rfl (by first | exact Or.inl rfl | exact Or.inr rfl)) (fun _ => rfl) ?_)
local macro_rules | `(tactic| wtm_at "lcpM sturdy 0") => `(tactic| refine' ex_lcpM (own := [("k", 7)]) (t := .inl 7) ?f rfl sc_sturdy.nd (blkOk_by (N := n_sturdy) (sc := defScope s_sturdy) (by decide +kernel)) (by decide) (fun _ _ _ _ _ => pg_name (i := 7) sc_sturdy.nd rfl (by first | exact Or.inl rfl | exact Or.inr rfl)) (fun _ => rfl) ?_)
local macro_rules | `(tactic| wtm_at "v need_sends") => `(tactic| first
  | ((with_reducible refine' ex_var (i := 0) (x := "book") ?h ?g ?q); (case h => exact At.of rfl rfl a_need_sends_0); (case g => rfl))
  | ((with_reducible refine' ex_var (i := 1) (x := "sends") ?h ?g ?q); (case h => exact At.of rfl rfl a_need_sends_1); (case g => rfl))
  | ((with_reducible refine' ex_var (i := 2) (x := "last") ?h ?g ?q); (case h => exact At.of rfl rfl a_need_sends_2); (case g => rfl))
  | ((with_reducible refine' ex_var (i := 3) (x := "at") ?h ?g ?q); (case h => exact At.of rfl rfl a_need_sends_3); (case g => rfl))
  | ((with_reducible refine' ex_var (i := 4) (x := "pair") ?h ?g ?q); (case h => exact At.of rfl rfl a_need_sends_4); (case g => rfl))
  | ((with_reducible refine sx_set (i := 0) (x := "book") ?h ?s ?q); (case h => exact Lc.of sc_need_sends.nd rfl rfl (.inl rfl) a_need_sends_0); (case s => rfl))
  | ((with_reducible refine gx_name (i := 0) (x := "book") ?h ?q); (case h => exact Lc.of sc_need_sends.nd rfl rfl (.inl rfl) a_need_sends_0))
  | ((with_reducible refine sx_set (i := 1) (x := "sends") ?h ?s ?q); (case h => exact Lc.of sc_need_sends.nd rfl rfl (.inl rfl) a_need_sends_1); (case s => rfl))
  | ((with_reducible refine gx_name (i := 1) (x := "sends") ?h ?q); (case h => exact Lc.of sc_need_sends.nd rfl rfl (.inl rfl) a_need_sends_1))
  | ((with_reducible refine sx_set (i := 2) (x := "last") ?h ?s ?q); (case h => exact Lc.of sc_need_sends.nd rfl rfl (.inl rfl) a_need_sends_2); (case s => rfl))
  | ((with_reducible refine gx_name (i := 2) (x := "last") ?h ?q); (case h => exact Lc.of sc_need_sends.nd rfl rfl (.inl rfl) a_need_sends_2))
  | ((with_reducible refine sx_set (i := 3) (x := "at") ?h ?s ?q); (case h => exact Lc.of sc_need_sends.nd rfl rfl (.inl rfl) a_need_sends_3); (case s => rfl))
  | ((with_reducible refine gx_name (i := 3) (x := "at") ?h ?q); (case h => exact Lc.of sc_need_sends.nd rfl rfl (.inl rfl) a_need_sends_3))
  | ((with_reducible refine sx_set (i := 4) (x := "pair") ?h ?s ?q); (case h => exact Lc.of sc_need_sends.nd rfl rfl (.inl rfl) a_need_sends_4); (case s => rfl))
  | ((with_reducible refine gx_name (i := 4) (x := "pair") ?h ?q); (case h => exact Lc.of sc_need_sends.nd rfl rfl (.inl rfl) a_need_sends_4)))
local macro_rules | `(tactic| wtm_at "vb need_sends") => `(tactic| first
  | ((with_reducible refine' ex_var (i := 0) (x := "book") ?h ?g ?q); (case h => exact At.b rfl (by first | exact Or.inl rfl | exact Or.inr (Or.inl rfl) | exact Or.inr (Or.inr rfl))); (case g => rfl))
  | ((with_reducible refine' ex_var (i := 1) (x := "sends") ?h ?g ?q); (case h => exact At.b rfl (by first | exact Or.inl rfl | exact Or.inr (Or.inl rfl) | exact Or.inr (Or.inr rfl))); (case g => rfl))
  | ((with_reducible refine' ex_var (i := 2) (x := "last") ?h ?g ?q); (case h => exact At.b rfl (by first | exact Or.inl rfl | exact Or.inr (Or.inl rfl) | exact Or.inr (Or.inr rfl))); (case g => rfl))
  | ((with_reducible refine' ex_var (i := 3) (x := "at") ?h ?g ?q); (case h => exact At.b rfl (by first | exact Or.inl rfl | exact Or.inr (Or.inl rfl) | exact Or.inr (Or.inr rfl))); (case g => rfl))
  | ((with_reducible refine' ex_var (i := 4) (x := "pair") ?h ?g ?q); (case h => exact At.b rfl (by first | exact Or.inl rfl | exact Or.inr (Or.inl rfl) | exact Or.inr (Or.inr rfl))); (case g => rfl)))
local macro_rules | `(tactic| wtm_at "w need_sends") => `(tactic| repeat (first | wtm_at "v need_sends" | wtm_at "e" | wtm_at "ei" | wtm_at "c"))
local macro_rules | `(tactic| wtm_at "wb need_sends") => `(tactic| repeat (first | wtm_at "vb need_sends" | wtm_at "e" | wtm_at "cb"))
local macro_rules | `(tactic| wtm_at "g need_sends") => `(tactic| repeat (first | wtm_at "v need_sends" | wtm_at "e2" | wtm_at "e" | wtm_at "ei" | wtm_at "c"))
local macro_rules | `(tactic| wtm_at "gb need_sends") => `(tactic| repeat (first | wtm_at "vb need_sends" | wtm_at "e2" | wtm_at "e" | wtm_at "cb"))
local macro_rules | `(tactic| wtm_at "h need_sends") => `(tactic| repeat (first | wtm_at "v need_sends" | wtm_at "e2" | wtm_at "e" | wtm_at "c"))
local macro_rules | `(tactic| wtm_at "gx need_sends") => `(tactic| repeat (first | wtm_at "v need_sends" | wtm_at "e2" | wtm_at "e" | wtm_at "ei" | wtm_at "cx"))
local macro_rules | `(tactic| wtm_at "hx need_sends") => `(tactic| repeat (first | wtm_at "v need_sends" | wtm_at "e2" | wtm_at "e" | wtm_at "cx"))
local macro_rules | `(tactic| wtm_at "gy need_sends") => `(tactic| repeat (first | wtm_at "vb need_sends" | wtm_at "e2" | wtm_at "e" | wtm_at "cx"))
local macro_rules | `(tactic| wtm_at "hx1 need_sends") => `(tactic| first | wtm_at "v need_sends" | wtm_at "e2" | wtm_at "e" | wtm_at "cx")
local macro_rules | `(tactic| wtm_at "v all_done") => `(tactic| first
  | ((with_reducible refine' ex_var (i := 0) (x := "book") ?h ?g ?q); (case h => exact At.of rfl rfl a_all_done_0); (case g => rfl))
  | ((with_reducible refine' ex_var (i := 1) (x := "delay") ?h ?g ?q); (case h => exact At.of rfl rfl a_all_done_1); (case g => rfl))
  | ((with_reducible refine' ex_var (i := 2) (x := "sends") ?h ?g ?q); (case h => exact At.of rfl rfl a_all_done_2); (case g => rfl))
  | ((with_reducible refine' ex_var (i := 3) (x := "comes") ?h ?g ?q); (case h => exact At.of rfl rfl a_all_done_3); (case g => rfl))
  | ((with_reducible refine' ex_var (i := 4) (x := "beat") ?h ?g ?q); (case h => exact At.of rfl rfl a_all_done_4); (case g => rfl))
  | ((with_reducible refine' ex_var (i := 5) (x := "number") ?h ?g ?q); (case h => exact At.of rfl rfl a_all_done_5); (case g => rfl))
  | ((with_reducible refine sx_set (i := 0) (x := "book") ?h ?s ?q); (case h => exact Lc.of sc_all_done.nd rfl rfl (.inl rfl) a_all_done_0); (case s => rfl))
  | ((with_reducible refine gx_name (i := 0) (x := "book") ?h ?q); (case h => exact Lc.of sc_all_done.nd rfl rfl (.inl rfl) a_all_done_0))
  | ((with_reducible refine sx_set (i := 1) (x := "delay") ?h ?s ?q); (case h => exact Lc.of sc_all_done.nd rfl rfl (.inl rfl) a_all_done_1); (case s => rfl))
  | ((with_reducible refine gx_name (i := 1) (x := "delay") ?h ?q); (case h => exact Lc.of sc_all_done.nd rfl rfl (.inl rfl) a_all_done_1))
  | ((with_reducible refine sx_set (i := 2) (x := "sends") ?h ?s ?q); (case h => exact Lc.of sc_all_done.nd rfl rfl (.inl rfl) a_all_done_2); (case s => rfl))
  | ((with_reducible refine gx_name (i := 2) (x := "sends") ?h ?q); (case h => exact Lc.of sc_all_done.nd rfl rfl (.inl rfl) a_all_done_2))
  | ((with_reducible refine sx_set (i := 3) (x := "comes") ?h ?s ?q); (case h => exact Lc.of sc_all_done.nd rfl rfl (.inl rfl) a_all_done_3); (case s => rfl))
  | ((with_reducible refine gx_name (i := 3) (x := "comes") ?h ?q); (case h => exact Lc.of sc_all_done.nd rfl rfl (.inl rfl) a_all_done_3))
  | ((with_reducible refine sx_set (i := 4) (x := "beat") ?h ?s ?q); (case h => exact Lc.of sc_all_done.nd rfl rfl (.inl rfl) a_all_done_4); (case s => rfl))
  | ((with_reducible refine gx_name (i := 4) (x := "beat") ?h ?q); (case h => exact Lc.of sc_all_done.nd rfl rfl (.inl rfl) a_all_done_4))
  | ((with_reducible refine sx_set (i := 5) (x := "number") ?h ?s ?q); (case h => exact Lc.of sc_all_done.nd rfl rfl (.inl rfl) a_all_done_5); (case s => rfl))
  | ((with_reducible refine gx_name (i := 5) (x := "number") ?h ?q); (case h => exact Lc.of sc_all_done.nd rfl rfl (.inl rfl) a_all_done_5)))
local macro_rules | `(tactic| wtm_at "vb all_done") => `(tactic| first
  | ((with_reducible refine' ex_var (i := 0) (x := "book") ?h ?g ?q); (case h => exact At.b rfl (by first | exact Or.inl rfl | exact Or.inr (Or.inl rfl) | exact Or.inr (Or.inr rfl))); (case g => rfl))
  | ((with_reducible refine' ex_var (i := 1) (x := "delay") ?h ?g ?q); (case h => exact At.b rfl (by first | exact Or.inl rfl | exact Or.inr (Or.inl rfl) | exact Or.inr (Or.inr rfl))); (case g => rfl))
  | ((with_reducible refine' ex_var (i := 2) (x := "sends") ?h ?g ?q); (case h => exact At.b rfl (by first | exact Or.inl rfl | exact Or.inr (Or.inl rfl) | exact Or.inr (Or.inr rfl))); (case g => rfl))
  | ((with_reducible refine' ex_var (i := 3) (x := "comes") ?h ?g ?q); (case h => exact At.b rfl (by first | exact Or.inl rfl | exact Or.inr (Or.inl rfl) | exact Or.inr (Or.inr rfl))); (case g => rfl))
  | ((with_reducible refine' ex_var (i := 4) (x := "beat") ?h ?g ?q); (case h => exact At.b rfl (by first | exact Or.inl rfl | exact Or.inr (Or.inl rfl) | exact Or.inr (Or.inr rfl))); (case g => rfl))
  | ((with_reducible refine' ex_var (i := 5) (x := "number") ?h ?g ?q); (case h => exact At.b rfl (by first | exact Or.inl rfl | exact Or.inr (Or.inl rfl) | exact Or.inr (Or.inr rfl))); (case g => rfl)))
local macro_rules | `(tactic| wtm_at "w all_done") => `(tactic| repeat (first | wtm_at "v all_done" | wtm_at "e" | wtm_at "ei" | wtm_at "c"))
local macro_rules | `(tactic| wtm_at "wb all_done") => `(tactic| repeat (first | wtm_at "vb all_done" | wtm_at "e" | wtm_at "cb"))
local macro_rules | `(tactic| wtm_at "g all_done") => `(tactic| repeat (first | wtm_at "v all_done" | wtm_at "e2" | wtm_at "e" | wtm_at "ei" | wtm_at "c"))
local macro_rules | `(tactic| wtm_at "gb all_done") => `(tactic| repeat (first | wtm_at "vb all_done" | wtm_at "e2" | wtm_at "e" | wtm_at "cb"))
local macro_rules | `(tactic| wtm_at "h all_done") => `(tactic| repeat (first | wtm_at "v all_done" | wtm_at "e2" | wtm_at "e" | wtm_at "c"))
local macro_rules | `(tactic| wtm_at "gx all_done") => `(tactic| repeat (first | wtm_at "v all_done" | wtm_at "e2" | wtm_at "e" | wtm_at "ei" | wtm_at "cx"))
local macro_rules | `(tactic| wtm_at "hx all_done") => `(tactic| repeat (first | wtm_at "v all_done" | wtm_at "e2" | wtm_at "e" | wtm_at "cx"))
local macro_rules | `(tactic| wtm_at "gy all_done") => `(tactic| repeat (first | wtm_at "vb all_done" | wtm_at "e2" | wtm_at "e" | wtm_at "cx"))
local macro_rules | `(tactic| wtm_at "hx1 all_done") => `(tactic| first | wtm_at "v all_done" | wtm_at "e2" | wtm_at "e" | wtm_at "cx")
local macro_rules | `(tactic| wtm_at "v choices") => `(tactic| first
  | ((with_reducible refine' ex_var (i := 0) (x := "many") ?h ?g ?q); (case h => exact At.of rfl rfl a_choices_0); (case g => rfl))
  | ((with_reducible refine' ex_var (i := 1) (x := "size") ?h ?g ?q); (case h => exact At.of rfl rfl a_choices_1); (case g => rfl))
  | ((with_reducible refine' ex_var (i := 2) (x := "low") ?h ?g ?q); (case h => exact At.of rfl rfl a_choices_2); (case g => rfl))
  | ((with_reducible refine' ex_var (i := 3) (x := "found") ?h ?g ?q); (case h => exact At.of rfl rfl a_choices_3); (case g => rfl))
  | ((with_reducible refine' ex_var (i := 4) (x := "number") ?h ?g ?q); (case h => exact At.of rfl rfl a_choices_4); (case g => rfl))
  | ((with_reducible refine sx_set (i := 0) (x := "many") ?h ?s ?q); (case h => exact Lc.of sc_choices.nd rfl rfl (.inl rfl) a_choices_0); (case s => rfl))
  | ((with_reducible refine gx_name (i := 0) (x := "many") ?h ?q); (case h => exact Lc.of sc_choices.nd rfl rfl (.inl rfl) a_choices_0))
  | ((with_reducible refine sx_set (i := 1) (x := "size") ?h ?s ?q); (case h => exact Lc.of sc_choices.nd rfl rfl (.inl rfl) a_choices_1); (case s => rfl))
  | ((with_reducible refine gx_name (i := 1) (x := "size") ?h ?q); (case h => exact Lc.of sc_choices.nd rfl rfl (.inl rfl) a_choices_1))
  | ((with_reducible refine sx_set (i := 2) (x := "low") ?h ?s ?q); (case h => exact Lc.of sc_choices.nd rfl rfl (.inl rfl) a_choices_2); (case s => rfl))
  | ((with_reducible refine gx_name (i := 2) (x := "low") ?h ?q); (case h => exact Lc.of sc_choices.nd rfl rfl (.inl rfl) a_choices_2))
  | ((with_reducible refine sx_set (i := 3) (x := "found") ?h ?s ?q); (case h => exact Lc.of sc_choices.nd rfl rfl (.inl rfl) a_choices_3); (case s => rfl))
  | ((with_reducible refine gx_name (i := 3) (x := "found") ?h ?q); (case h => exact Lc.of sc_choices.nd rfl rfl (.inl rfl) a_choices_3))
  | ((with_reducible refine sx_set (i := 4) (x := "number") ?h ?s ?q); (case h => exact Lc.of sc_choices.nd rfl rfl (.inl rfl) a_choices_4); (case s => rfl))
  | ((with_reducible refine gx_name (i := 4) (x := "number") ?h ?q); (case h => exact Lc.of sc_choices.nd rfl rfl (.inl rfl) a_choices_4)))
local macro_rules | `(tactic| wtm_at "vb choices") => `(tactic| first
  | ((with_reducible refine' ex_var (i := 0) (x := "many") ?h ?g ?q); (case h => exact At.b rfl (by first | exact Or.inl rfl | exact Or.inr (Or.inl rfl) | exact Or.inr (Or.inr rfl))); (case g => rfl))
  | ((with_reducible refine' ex_var (i := 1) (x := "size") ?h ?g ?q); (case h => exact At.b rfl (by first | exact Or.inl rfl | exact Or.inr (Or.inl rfl) | exact Or.inr (Or.inr rfl))); (case g => rfl))
  | ((with_reducible refine' ex_var (i := 2) (x := "low") ?h ?g ?q); (case h => exact At.b rfl (by first | exact Or.inl rfl | exact Or.inr (Or.inl rfl) | exact Or.inr (Or.inr rfl))); (case g => rfl))
  | ((with_reducible refine' ex_var (i := 3) (x := "found") ?h ?g ?q); (case h => exact At.b rfl (by first | exact Or.inl rfl | exact Or.inr (Or.inl rfl) | exact Or.inr (Or.inr rfl))); (case g => rfl))
  | ((with_reducible refine' ex_var (i := 4) (x := "number") ?h ?g ?q); (case h => exact At.b rfl (by first | exact Or.inl rfl | exact Or.inr (Or.inl rfl) | exact Or.inr (Or.inr rfl))); (case g => rfl))
  | ((with_reducible refine' ex_var (i := 5) (x := "rest") ?h ?g ?q); (case h => exact At.b rfl (by first | exact Or.inl rfl | exact Or.inr (Or.inl rfl) | exact Or.inr (Or.inr rfl))); (case g => rfl)))
local macro_rules | `(tactic| wtm_at "w choices") => `(tactic| repeat (first | wtm_at "v choices" | wtm_at "e" | wtm_at "ei" | wtm_at "c"))
local macro_rules | `(tactic| wtm_at "wb choices") => `(tactic| repeat (first | wtm_at "vb choices" | wtm_at "e" | wtm_at "cb"))
local macro_rules | `(tactic| wtm_at "g choices") => `(tactic| repeat (first | wtm_at "v choices" | wtm_at "e2" | wtm_at "e" | wtm_at "ei" | wtm_at "c"))
local macro_rules | `(tactic| wtm_at "gb choices") => `(tactic| repeat (first | wtm_at "vb choices" | wtm_at "e2" | wtm_at "e" | wtm_at "cb"))
local macro_rules | `(tactic| wtm_at "h choices") => `(tactic| repeat (first | wtm_at "v choices" | wtm_at "e2" | wtm_at "e" | wtm_at "c"))
local macro_rules | `(tactic| wtm_at "gx choices") => `(tactic| repeat (first | wtm_at "v choices" | wtm_at "e2" | wtm_at "e" | wtm_at "ei" | wtm_at "cx"))
local macro_rules | `(tactic| wtm_at "hx choices") => `(tactic| repeat (first | wtm_at "v choices" | wtm_at "e2" | wtm_at "e" | wtm_at "cx"))
local macro_rules | `(tactic| wtm_at "gy choices") => `(tactic| repeat (first | wtm_at "vb choices" | wtm_at "e2" | wtm_at "e" | wtm_at "cx"))
local macro_rules | `(tactic| wtm_at "hx1 choices") => `(tactic| first | wtm_at "v choices" | wtm_at "e2" | wtm_at "e" | wtm_at "cx")
local macro_rules | `(tactic| wtm_at "lc choices 0") => `(tactic| refine' ex_lc (own := [("rest", 5)]) (t := .inl 5)  rfl sc_choices.nd (blkOk_by (N := n_choices) (sc := defScope s_choices) (by decide +kernel)) (by decide) (fun _ _ _ _ _ => pg_name (i := 5) sc_choices.nd rfl (by first | exact Or.inl rfl | exact Or.inr rfl)) (fun _ => rfl) ?_)
local macro_rules | `(tactic| wtm_at "lcM choices 0") => `(tactic| refine' ex_lcM (own := [("rest", 5)]) (t := .inl 5)  rfl sc_choices.nd (blkOk_by (N := n_choices) (sc := defScope s_choices) (by decide +kernel)) (by decide) (fun _ _ _ _ _ => pg_name (i := 5) sc_choices.nd rfl (by first | exact Or.inl rfl | exact Or.inr rfl)) (fun _ => rfl) ?_)
local macro_rules | `(tactic| wtm_at "lcp choices 0") => `(tactic| refine' ex_lcp (own := [("rest", 5)]) (t := .inl 5) ?f rfl sc_choices.nd (blkOk_by (N := n_choices) (sc := defScope s_choices) (by decide +kernel)) (by decide) (fun _ _ _ _ _ => pg_name (i := 5) sc_choices.nd rfl (by first | exact Or.inl rfl | exact Or.inr rfl)) (fun _ => rfl) ?_)
local macro_rules | `(tactic| wtm_at "lcpM choices 0") => `(tactic| refine' ex_lcpM (own := [("rest", 5)]) (t := .inl 5) ?f rfl sc_choices.nd (blkOk_by (N := n_choices) (sc := defScope s_choices) (by decide +kernel)) (by decide) (fun _ _ _ _ _ => pg_name (i := 5) sc_choices.nd rfl (by first | exact Or.inl rfl | exact Or.inr rfl)) (fun _ => rfl) ?_)
local macro_rules | `(tactic| wtm_at "v weak") => `(tactic| first
  | ((with_reducible refine' ex_var (i := 0) (x := "book") ?h ?g ?q); (case h => exact At.of rfl rfl a_weak_0); (case g => rfl))
  | ((with_reducible refine' ex_var (i := 1) (x := "delay") ?h ?g ?q); (case h => exact At.of rfl rfl a_weak_1); (case g => rfl))
  | ((with_reducible refine' ex_var (i := 2) (x := "sends") ?h ?g ?q); (case h => exact At.of rfl rfl a_weak_2); (case g => rfl))
  | ((with_reducible refine' ex_var (i := 3) (x := "most") ?h ?g ?q); (case h => exact At.of rfl rfl a_weak_3); (case g => rfl))
  | ((with_reducible refine' ex_var (i := 4) (x := "size") ?h ?g ?q); (case h => exact At.of rfl rfl a_weak_4); (case g => rfl))
  | ((with_reducible refine' ex_var (i := 5) (x := "lost") ?h ?g ?q); (case h => exact At.of rfl rfl a_weak_5); (case g => rfl))
  | ((with_reducible refine sx_set (i := 0) (x := "book") ?h ?s ?q); (case h => exact Lc.of sc_weak.nd rfl rfl (.inl rfl) a_weak_0); (case s => rfl))
  | ((with_reducible refine gx_name (i := 0) (x := "book") ?h ?q); (case h => exact Lc.of sc_weak.nd rfl rfl (.inl rfl) a_weak_0))
  | ((with_reducible refine sx_set (i := 1) (x := "delay") ?h ?s ?q); (case h => exact Lc.of sc_weak.nd rfl rfl (.inl rfl) a_weak_1); (case s => rfl))
  | ((with_reducible refine gx_name (i := 1) (x := "delay") ?h ?q); (case h => exact Lc.of sc_weak.nd rfl rfl (.inl rfl) a_weak_1))
  | ((with_reducible refine sx_set (i := 2) (x := "sends") ?h ?s ?q); (case h => exact Lc.of sc_weak.nd rfl rfl (.inl rfl) a_weak_2); (case s => rfl))
  | ((with_reducible refine gx_name (i := 2) (x := "sends") ?h ?q); (case h => exact Lc.of sc_weak.nd rfl rfl (.inl rfl) a_weak_2))
  | ((with_reducible refine sx_set (i := 3) (x := "most") ?h ?s ?q); (case h => exact Lc.of sc_weak.nd rfl rfl (.inl rfl) a_weak_3); (case s => rfl))
  | ((with_reducible refine gx_name (i := 3) (x := "most") ?h ?q); (case h => exact Lc.of sc_weak.nd rfl rfl (.inl rfl) a_weak_3))
  | ((with_reducible refine sx_set (i := 4) (x := "size") ?h ?s ?q); (case h => exact Lc.of sc_weak.nd rfl rfl (.inl rfl) a_weak_4); (case s => rfl))
  | ((with_reducible refine gx_name (i := 4) (x := "size") ?h ?q); (case h => exact Lc.of sc_weak.nd rfl rfl (.inl rfl) a_weak_4))
  | ((with_reducible refine sx_set (i := 5) (x := "lost") ?h ?s ?q); (case h => exact Lc.of sc_weak.nd rfl rfl (.inl rfl) a_weak_5); (case s => rfl))
  | ((with_reducible refine gx_name (i := 5) (x := "lost") ?h ?q); (case h => exact Lc.of sc_weak.nd rfl rfl (.inl rfl) a_weak_5)))
local macro_rules | `(tactic| wtm_at "vb weak") => `(tactic| first
  | ((with_reducible refine' ex_var (i := 0) (x := "book") ?h ?g ?q); (case h => exact At.b rfl (by first | exact Or.inl rfl | exact Or.inr (Or.inl rfl) | exact Or.inr (Or.inr rfl))); (case g => rfl))
  | ((with_reducible refine' ex_var (i := 1) (x := "delay") ?h ?g ?q); (case h => exact At.b rfl (by first | exact Or.inl rfl | exact Or.inr (Or.inl rfl) | exact Or.inr (Or.inr rfl))); (case g => rfl))
  | ((with_reducible refine' ex_var (i := 2) (x := "sends") ?h ?g ?q); (case h => exact At.b rfl (by first | exact Or.inl rfl | exact Or.inr (Or.inl rfl) | exact Or.inr (Or.inr rfl))); (case g => rfl))
  | ((with_reducible refine' ex_var (i := 3) (x := "most") ?h ?g ?q); (case h => exact At.b rfl (by first | exact Or.inl rfl | exact Or.inr (Or.inl rfl) | exact Or.inr (Or.inr rfl))); (case g => rfl))
  | ((with_reducible refine' ex_var (i := 4) (x := "size") ?h ?g ?q); (case h => exact At.b rfl (by first | exact Or.inl rfl | exact Or.inr (Or.inl rfl) | exact Or.inr (Or.inr rfl))); (case g => rfl))
  | ((with_reducible refine' ex_var (i := 5) (x := "lost") ?h ?g ?q); (case h => exact At.b rfl (by first | exact Or.inl rfl | exact Or.inr (Or.inl rfl) | exact Or.inr (Or.inr rfl))); (case g => rfl))
  | ((with_reducible refine' ex_var (i := 6) (x := "k") ?h ?g ?q); (case h => exact At.b rfl (by first | exact Or.inl rfl | exact Or.inr (Or.inl rfl) | exact Or.inr (Or.inr rfl))); (case g => rfl)))
local macro_rules | `(tactic| wtm_at "w weak") => `(tactic| repeat (first | wtm_at "v weak" | wtm_at "e" | wtm_at "ei" | wtm_at "c"))
local macro_rules | `(tactic| wtm_at "wb weak") => `(tactic| repeat (first | wtm_at "vb weak" | wtm_at "e" | wtm_at "cb"))
local macro_rules | `(tactic| wtm_at "g weak") => `(tactic| repeat (first | wtm_at "v weak" | wtm_at "e2" | wtm_at "e" | wtm_at "ei" | wtm_at "c"))
local macro_rules | `(tactic| wtm_at "gb weak") => `(tactic| repeat (first | wtm_at "vb weak" | wtm_at "e2" | wtm_at "e" | wtm_at "cb"))
local macro_rules | `(tactic| wtm_at "h weak") => `(tactic| repeat (first | wtm_at "v weak" | wtm_at "e2" | wtm_at "e" | wtm_at "c"))
local macro_rules | `(tactic| wtm_at "gx weak") => `(tactic| repeat (first | wtm_at "v weak" | wtm_at "e2" | wtm_at "e" | wtm_at "ei" | wtm_at "cx"))
local macro_rules | `(tactic| wtm_at "hx weak") => `(tactic| repeat (first | wtm_at "v weak" | wtm_at "e2" | wtm_at "e" | wtm_at "cx"))
local macro_rules | `(tactic| wtm_at "gy weak") => `(tactic| repeat (first | wtm_at "vb weak" | wtm_at "e2" | wtm_at "e" | wtm_at "cx"))
local macro_rules | `(tactic| wtm_at "hx1 weak") => `(tactic| first | wtm_at "v weak" | wtm_at "e2" | wtm_at "e" | wtm_at "cx")
local macro_rules | `(tactic| wtm_at "lc weak 0") => `(tactic| refine' ex_lc (own := [("k", 6)]) (t := .inl 6)  rfl sc_weak.nd (blkOk_by (N := n_weak) (sc := defScope s_weak) (by decide +kernel)) (by decide) (fun _ _ _ _ _ => pg_name (i := 6) sc_weak.nd rfl (by first | exact Or.inl rfl | exact Or.inr rfl)) (fun _ => rfl) ?_)
local macro_rules | `(tactic| wtm_at "lcM weak 0") => `(tactic| refine' ex_lcM (own := [("k", 6)]) (t := .inl 6)  rfl sc_weak.nd (blkOk_by (N := n_weak) (sc := defScope s_weak) (by decide +kernel)) (by decide) (fun _ _ _ _ _ => pg_name (i := 6) sc_weak.nd rfl (by first | exact Or.inl rfl | exact Or.inr rfl)) (fun _ => rfl) ?_)
local macro_rules | `(tactic| wtm_at "lcp weak 0") => `(tactic| refine' ex_lcp (own := [("k", 6)]) (t := .inl 6) ?f rfl sc_weak.nd (blkOk_by (N := n_weak) (sc := defScope s_weak) (by decide +kernel)) (by decide) (fun _ _ _ _ _ => pg_name (i := 6) sc_weak.nd rfl (by first | exact Or.inl rfl | exact Or.inr rfl)) (fun _ => rfl) ?_)
local macro_rules | `(tactic| wtm_at "lcpM weak 0") => `(tactic| refine' ex_lcpM (own := [("k", 6)]) (t := .inl 6) ?f rfl sc_weak.nd (blkOk_by (N := n_weak) (sc := defScope s_weak) (by decide +kernel)) (by decide) (fun _ _ _ _ _ => pg_name (i := 6) sc_weak.nd rfl (by first | exact Or.inl rfl | exact Or.inr rfl)) (fun _ => rfl) ?_)
local macro_rules | `(tactic| wtm_at "v L_taken") => `(tactic| first
  | ((with_reducible refine' ex_var (i := 0) (x := "_law_row") ?h ?g ?q); (case h => exact At.of rfl rfl a_L_taken_0); (case g => rfl))
  | ((with_reducible refine' ex_var (i := 1) (x := "_law_many") ?h ?g ?q); (case h => exact At.of rfl rfl a_L_taken_1); (case g => rfl))
  | ((with_reducible refine' ex_var (i := 2) (x := "_law_cell") ?h ?g ?q); (case h => exact At.of rfl rfl a_L_taken_2); (case g => rfl))
  | ((with_reducible refine sx_set (i := 0) (x := "_law_row") ?h ?s ?q); (case h => exact Lc.of sc_L_taken.nd rfl rfl (.inl rfl) a_L_taken_0); (case s => rfl))
  | ((with_reducible refine gx_name (i := 0) (x := "_law_row") ?h ?q); (case h => exact Lc.of sc_L_taken.nd rfl rfl (.inl rfl) a_L_taken_0))
  | ((with_reducible refine sx_set (i := 1) (x := "_law_many") ?h ?s ?q); (case h => exact Lc.of sc_L_taken.nd rfl rfl (.inl rfl) a_L_taken_1); (case s => rfl))
  | ((with_reducible refine gx_name (i := 1) (x := "_law_many") ?h ?q); (case h => exact Lc.of sc_L_taken.nd rfl rfl (.inl rfl) a_L_taken_1))
  | ((with_reducible refine sx_set (i := 2) (x := "_law_cell") ?h ?s ?q); (case h => exact Lc.of sc_L_taken.nd rfl rfl (.inl rfl) a_L_taken_2); (case s => rfl))
  | ((with_reducible refine gx_name (i := 2) (x := "_law_cell") ?h ?q); (case h => exact Lc.of sc_L_taken.nd rfl rfl (.inl rfl) a_L_taken_2)))
local macro_rules | `(tactic| wtm_at "vb L_taken") => `(tactic| first
  | ((with_reducible refine' ex_var (i := 0) (x := "_law_row") ?h ?g ?q); (case h => exact At.b rfl (by first | exact Or.inl rfl | exact Or.inr (Or.inl rfl) | exact Or.inr (Or.inr rfl))); (case g => rfl))
  | ((with_reducible refine' ex_var (i := 1) (x := "_law_many") ?h ?g ?q); (case h => exact At.b rfl (by first | exact Or.inl rfl | exact Or.inr (Or.inl rfl) | exact Or.inr (Or.inr rfl))); (case g => rfl))
  | ((with_reducible refine' ex_var (i := 2) (x := "_law_cell") ?h ?g ?q); (case h => exact At.b rfl (by first | exact Or.inl rfl | exact Or.inr (Or.inl rfl) | exact Or.inr (Or.inr rfl))); (case g => rfl)))
local macro_rules | `(tactic| wtm_at "w L_taken") => `(tactic| repeat (first | wtm_at "v L_taken" | wtm_at "e" | wtm_at "ei" | wtm_at "c"))
local macro_rules | `(tactic| wtm_at "wb L_taken") => `(tactic| repeat (first | wtm_at "vb L_taken" | wtm_at "e" | wtm_at "cb"))
local macro_rules | `(tactic| wtm_at "g L_taken") => `(tactic| repeat (first | wtm_at "v L_taken" | wtm_at "e2" | wtm_at "e" | wtm_at "ei" | wtm_at "c"))
local macro_rules | `(tactic| wtm_at "gb L_taken") => `(tactic| repeat (first | wtm_at "vb L_taken" | wtm_at "e2" | wtm_at "e" | wtm_at "cb"))
local macro_rules | `(tactic| wtm_at "h L_taken") => `(tactic| repeat (first | wtm_at "v L_taken" | wtm_at "e2" | wtm_at "e" | wtm_at "c"))
local macro_rules | `(tactic| wtm_at "gx L_taken") => `(tactic| repeat (first | wtm_at "v L_taken" | wtm_at "e2" | wtm_at "e" | wtm_at "ei" | wtm_at "cx"))
local macro_rules | `(tactic| wtm_at "hx L_taken") => `(tactic| repeat (first | wtm_at "v L_taken" | wtm_at "e2" | wtm_at "e" | wtm_at "cx"))
local macro_rules | `(tactic| wtm_at "gy L_taken") => `(tactic| repeat (first | wtm_at "vb L_taken" | wtm_at "e2" | wtm_at "e" | wtm_at "cx"))
local macro_rules | `(tactic| wtm_at "hx1 L_taken") => `(tactic| first | wtm_at "v L_taken" | wtm_at "e2" | wtm_at "e" | wtm_at "cx")
local macro_rules | `(tactic| wtm_at "v L_alike") => `(tactic| first
  | ((with_reducible refine' ex_var (i := 0) (x := "_law_found") ?h ?g ?q); (case h => exact At.of rfl rfl a_L_alike_0); (case g => rfl))
  | ((with_reducible refine' ex_var (i := 1) (x := "_law_due") ?h ?g ?q); (case h => exact At.of rfl rfl a_L_alike_1); (case g => rfl))
  | ((with_reducible refine sx_set (i := 0) (x := "_law_found") ?h ?s ?q); (case h => exact Lc.of sc_L_alike.nd rfl rfl (.inl rfl) a_L_alike_0); (case s => rfl))
  | ((with_reducible refine gx_name (i := 0) (x := "_law_found") ?h ?q); (case h => exact Lc.of sc_L_alike.nd rfl rfl (.inl rfl) a_L_alike_0))
  | ((with_reducible refine sx_set (i := 1) (x := "_law_due") ?h ?s ?q); (case h => exact Lc.of sc_L_alike.nd rfl rfl (.inl rfl) a_L_alike_1); (case s => rfl))
  | ((with_reducible refine gx_name (i := 1) (x := "_law_due") ?h ?q); (case h => exact Lc.of sc_L_alike.nd rfl rfl (.inl rfl) a_L_alike_1)))
local macro_rules | `(tactic| wtm_at "vb L_alike") => `(tactic| first
  | ((with_reducible refine' ex_var (i := 0) (x := "_law_found") ?h ?g ?q); (case h => exact At.b rfl (by first | exact Or.inl rfl | exact Or.inr (Or.inl rfl) | exact Or.inr (Or.inr rfl))); (case g => rfl))
  | ((with_reducible refine' ex_var (i := 1) (x := "_law_due") ?h ?g ?q); (case h => exact At.b rfl (by first | exact Or.inl rfl | exact Or.inr (Or.inl rfl) | exact Or.inr (Or.inr rfl))); (case g => rfl))
  | ((with_reducible refine' ex_var (i := 2) (x := "_law_k") ?h ?g ?q); (case h => exact At.b rfl (by first | exact Or.inl rfl | exact Or.inr (Or.inl rfl) | exact Or.inr (Or.inr rfl))); (case g => rfl)))
local macro_rules | `(tactic| wtm_at "w L_alike") => `(tactic| repeat (first | wtm_at "v L_alike" | wtm_at "e" | wtm_at "ei" | wtm_at "c"))
local macro_rules | `(tactic| wtm_at "wb L_alike") => `(tactic| repeat (first | wtm_at "vb L_alike" | wtm_at "e" | wtm_at "cb"))
local macro_rules | `(tactic| wtm_at "g L_alike") => `(tactic| repeat (first | wtm_at "v L_alike" | wtm_at "e2" | wtm_at "e" | wtm_at "ei" | wtm_at "c"))
local macro_rules | `(tactic| wtm_at "gb L_alike") => `(tactic| repeat (first | wtm_at "vb L_alike" | wtm_at "e2" | wtm_at "e" | wtm_at "cb"))
local macro_rules | `(tactic| wtm_at "h L_alike") => `(tactic| repeat (first | wtm_at "v L_alike" | wtm_at "e2" | wtm_at "e" | wtm_at "c"))
local macro_rules | `(tactic| wtm_at "gx L_alike") => `(tactic| repeat (first | wtm_at "v L_alike" | wtm_at "e2" | wtm_at "e" | wtm_at "ei" | wtm_at "cx"))
local macro_rules | `(tactic| wtm_at "hx L_alike") => `(tactic| repeat (first | wtm_at "v L_alike" | wtm_at "e2" | wtm_at "e" | wtm_at "cx"))
local macro_rules | `(tactic| wtm_at "gy L_alike") => `(tactic| repeat (first | wtm_at "vb L_alike" | wtm_at "e2" | wtm_at "e" | wtm_at "cx"))
local macro_rules | `(tactic| wtm_at "hx1 L_alike") => `(tactic| first | wtm_at "v L_alike" | wtm_at "e2" | wtm_at "e" | wtm_at "cx")
local macro_rules | `(tactic| wtm_at "lc L_alike 0") => `(tactic| refine' ex_lc (own := [("_law_k", 2)]) (t := .inl 2)  rfl sc_L_alike.nd (blkOk_by (N := n_L_alike) (sc := defScope s_L_alike) (by decide +kernel)) (by decide) (fun _ _ _ _ _ => pg_name (i := 2) sc_L_alike.nd rfl (by first | exact Or.inl rfl | exact Or.inr rfl)) (fun _ => rfl) ?_)
local macro_rules | `(tactic| wtm_at "lcM L_alike 0") => `(tactic| refine' ex_lcM (own := [("_law_k", 2)]) (t := .inl 2)  rfl sc_L_alike.nd (blkOk_by (N := n_L_alike) (sc := defScope s_L_alike) (by decide +kernel)) (by decide) (fun _ _ _ _ _ => pg_name (i := 2) sc_L_alike.nd rfl (by first | exact Or.inl rfl | exact Or.inr rfl)) (fun _ => rfl) ?_)
local macro_rules | `(tactic| wtm_at "lcp L_alike 0") => `(tactic| refine' ex_lcp (own := [("_law_k", 2)]) (t := .inl 2) ?f rfl sc_L_alike.nd (blkOk_by (N := n_L_alike) (sc := defScope s_L_alike) (by decide +kernel)) (by decide) (fun _ _ _ _ _ => pg_name (i := 2) sc_L_alike.nd rfl (by first | exact Or.inl rfl | exact Or.inr rfl)) (fun _ => rfl) ?_)
local macro_rules | `(tactic| wtm_at "lcpM L_alike 0") => `(tactic| refine' ex_lcpM (own := [("_law_k", 2)]) (t := .inl 2) ?f rfl sc_L_alike.nd (blkOk_by (N := n_L_alike) (sc := defScope s_L_alike) (by decide +kernel)) (by decide) (fun _ _ _ _ _ => pg_name (i := 2) sc_L_alike.nd rfl (by first | exact Or.inl rfl | exact Or.inr rfl)) (fun _ => rfl) ?_)
local macro_rules | `(tactic| wtm_at "v L_word") => `(tactic| first
  | ((with_reducible refine' ex_var (i := 0) (x := "_law_work") ?h ?g ?q); (case h => exact At.of rfl rfl a_L_word_0); (case g => rfl))
  | ((with_reducible refine' ex_var (i := 1) (x := "e") ?h ?g ?q); (case h => exact At.of rfl rfl a_L_word_1); (case g => rfl))
  | ((with_reducible refine' ex_var (i := 2) (x := "_law_kinds") ?h ?g ?q); (case h => exact At.of rfl rfl a_L_word_2); (case g => rfl))
  | ((with_reducible refine' ex_var (i := 3) (x := "_law_words") ?h ?g ?q); (case h => exact At.of rfl rfl a_L_word_3); (case g => rfl))
  | ((with_reducible refine' ex_var (i := 4) (x := "_law_word_here") ?h ?g ?q); (case h => exact At.of rfl rfl a_L_word_4); (case g => rfl))
  | ((with_reducible refine sx_set (i := 0) (x := "_law_work") ?h ?s ?q); (case h => exact Lc.of sc_L_word.nd rfl rfl (.inl rfl) a_L_word_0); (case s => rfl))
  | ((with_reducible refine gx_name (i := 0) (x := "_law_work") ?h ?q); (case h => exact Lc.of sc_L_word.nd rfl rfl (.inl rfl) a_L_word_0))
  | ((with_reducible refine sx_set (i := 1) (x := "e") ?h ?s ?q); (case h => exact Lc.of sc_L_word.nd rfl rfl (.inl rfl) a_L_word_1); (case s => rfl))
  | ((with_reducible refine gx_name (i := 1) (x := "e") ?h ?q); (case h => exact Lc.of sc_L_word.nd rfl rfl (.inl rfl) a_L_word_1))
  | ((with_reducible refine sx_set (i := 2) (x := "_law_kinds") ?h ?s ?q); (case h => exact Lc.of sc_L_word.nd rfl rfl (.inl rfl) a_L_word_2); (case s => rfl))
  | ((with_reducible refine gx_name (i := 2) (x := "_law_kinds") ?h ?q); (case h => exact Lc.of sc_L_word.nd rfl rfl (.inl rfl) a_L_word_2))
  | ((with_reducible refine sx_set (i := 3) (x := "_law_words") ?h ?s ?q); (case h => exact Lc.of sc_L_word.nd rfl rfl (.inl rfl) a_L_word_3); (case s => rfl))
  | ((with_reducible refine gx_name (i := 3) (x := "_law_words") ?h ?q); (case h => exact Lc.of sc_L_word.nd rfl rfl (.inl rfl) a_L_word_3))
  | ((with_reducible refine sx_set (i := 4) (x := "_law_word_here") ?h ?s ?q); (case h => exact Lc.of sc_L_word.nd rfl rfl (.inl rfl) a_L_word_4); (case s => rfl))
  | ((with_reducible refine gx_name (i := 4) (x := "_law_word_here") ?h ?q); (case h => exact Lc.of sc_L_word.nd rfl rfl (.inl rfl) a_L_word_4)))
local macro_rules | `(tactic| wtm_at "vb L_word") => `(tactic| first
  | ((with_reducible refine' ex_var (i := 0) (x := "_law_work") ?h ?g ?q); (case h => exact At.b rfl (by first | exact Or.inl rfl | exact Or.inr (Or.inl rfl) | exact Or.inr (Or.inr rfl))); (case g => rfl))
  | ((with_reducible refine' ex_var (i := 1) (x := "e") ?h ?g ?q); (case h => exact At.b rfl (by first | exact Or.inl rfl | exact Or.inr (Or.inl rfl) | exact Or.inr (Or.inr rfl))); (case g => rfl))
  | ((with_reducible refine' ex_var (i := 2) (x := "_law_kinds") ?h ?g ?q); (case h => exact At.b rfl (by first | exact Or.inl rfl | exact Or.inr (Or.inl rfl) | exact Or.inr (Or.inr rfl))); (case g => rfl))
  | ((with_reducible refine' ex_var (i := 3) (x := "_law_words") ?h ?g ?q); (case h => exact At.b rfl (by first | exact Or.inl rfl | exact Or.inr (Or.inl rfl) | exact Or.inr (Or.inr rfl))); (case g => rfl))
  | ((with_reducible refine' ex_var (i := 4) (x := "_law_word_here") ?h ?g ?q); (case h => exact At.b rfl (by first | exact Or.inl rfl | exact Or.inr (Or.inl rfl) | exact Or.inr (Or.inr rfl))); (case g => rfl)))
local macro_rules | `(tactic| wtm_at "w L_word") => `(tactic| repeat (first | wtm_at "v L_word" | wtm_at "e" | wtm_at "ei" | wtm_at "c"))
local macro_rules | `(tactic| wtm_at "wb L_word") => `(tactic| repeat (first | wtm_at "vb L_word" | wtm_at "e" | wtm_at "cb"))
local macro_rules | `(tactic| wtm_at "g L_word") => `(tactic| repeat (first | wtm_at "v L_word" | wtm_at "e2" | wtm_at "e" | wtm_at "ei" | wtm_at "c"))
local macro_rules | `(tactic| wtm_at "gb L_word") => `(tactic| repeat (first | wtm_at "vb L_word" | wtm_at "e2" | wtm_at "e" | wtm_at "cb"))
local macro_rules | `(tactic| wtm_at "h L_word") => `(tactic| repeat (first | wtm_at "v L_word" | wtm_at "e2" | wtm_at "e" | wtm_at "c"))
local macro_rules | `(tactic| wtm_at "gx L_word") => `(tactic| repeat (first | wtm_at "v L_word" | wtm_at "e2" | wtm_at "e" | wtm_at "ei" | wtm_at "cx"))
local macro_rules | `(tactic| wtm_at "hx L_word") => `(tactic| repeat (first | wtm_at "v L_word" | wtm_at "e2" | wtm_at "e" | wtm_at "cx"))
local macro_rules | `(tactic| wtm_at "gy L_word") => `(tactic| repeat (first | wtm_at "vb L_word" | wtm_at "e2" | wtm_at "e" | wtm_at "cx"))
local macro_rules | `(tactic| wtm_at "hx1 L_word") => `(tactic| first | wtm_at "v L_word" | wtm_at "e2" | wtm_at "e" | wtm_at "cx")
local macro_rules | `(tactic| wtm_at "v L_book") => `(tactic| first
  | ((with_reducible refine' ex_var (i := 0) (x := "_law_row") ?h ?g ?q); (case h => exact At.of rfl rfl a_L_book_0); (case g => rfl))
  | ((with_reducible refine' ex_var (i := 1) (x := "_law_most") ?h ?g ?q); (case h => exact At.of rfl rfl a_L_book_1); (case g => rfl))
  | ((with_reducible refine' ex_var (i := 2) (x := "_law_far") ?h ?g ?q); (case h => exact At.of rfl rfl a_L_book_2); (case g => rfl))
  | ((with_reducible refine' ex_var (i := 3) (x := "_law_found") ?h ?g ?q); (case h => exact At.of rfl rfl a_L_book_3); (case g => rfl))
  | ((with_reducible refine' ex_var (i := 4) (x := "_law_number") ?h ?g ?q); (case h => exact At.of rfl rfl a_L_book_4); (case g => rfl))
  | ((with_reducible refine' ex_var (i := 5) (x := "_law_when") ?h ?g ?q); (case h => exact At.of rfl rfl a_L_book_5); (case g => rfl))
  | ((with_reducible refine' ex_var (i := 6) (x := "_law_until") ?h ?g ?q); (case h => exact At.of rfl rfl a_L_book_6); (case g => rfl))
  | ((with_reducible refine' ex_var (i := 7) (x := "_law_wants") ?h ?g ?q); (case h => exact At.of rfl rfl a_L_book_7); (case g => rfl))
  | ((with_reducible refine sx_set (i := 0) (x := "_law_row") ?h ?s ?q); (case h => exact Lc.of sc_L_book.nd rfl rfl (.inl rfl) a_L_book_0); (case s => rfl))
  | ((with_reducible refine gx_name (i := 0) (x := "_law_row") ?h ?q); (case h => exact Lc.of sc_L_book.nd rfl rfl (.inl rfl) a_L_book_0))
  | ((with_reducible refine sx_set (i := 1) (x := "_law_most") ?h ?s ?q); (case h => exact Lc.of sc_L_book.nd rfl rfl (.inl rfl) a_L_book_1); (case s => rfl))
  | ((with_reducible refine gx_name (i := 1) (x := "_law_most") ?h ?q); (case h => exact Lc.of sc_L_book.nd rfl rfl (.inl rfl) a_L_book_1))
  | ((with_reducible refine sx_set (i := 2) (x := "_law_far") ?h ?s ?q); (case h => exact Lc.of sc_L_book.nd rfl rfl (.inl rfl) a_L_book_2); (case s => rfl))
  | ((with_reducible refine gx_name (i := 2) (x := "_law_far") ?h ?q); (case h => exact Lc.of sc_L_book.nd rfl rfl (.inl rfl) a_L_book_2))
  | ((with_reducible refine sx_set (i := 3) (x := "_law_found") ?h ?s ?q); (case h => exact Lc.of sc_L_book.nd rfl rfl (.inl rfl) a_L_book_3); (case s => rfl))
  | ((with_reducible refine gx_name (i := 3) (x := "_law_found") ?h ?q); (case h => exact Lc.of sc_L_book.nd rfl rfl (.inl rfl) a_L_book_3))
  | ((with_reducible refine sx_set (i := 4) (x := "_law_number") ?h ?s ?q); (case h => exact Lc.of sc_L_book.nd rfl rfl (.inl rfl) a_L_book_4); (case s => rfl))
  | ((with_reducible refine gx_name (i := 4) (x := "_law_number") ?h ?q); (case h => exact Lc.of sc_L_book.nd rfl rfl (.inl rfl) a_L_book_4))
  | ((with_reducible refine sx_set (i := 5) (x := "_law_when") ?h ?s ?q); (case h => exact Lc.of sc_L_book.nd rfl rfl (.inl rfl) a_L_book_5); (case s => rfl))
  | ((with_reducible refine gx_name (i := 5) (x := "_law_when") ?h ?q); (case h => exact Lc.of sc_L_book.nd rfl rfl (.inl rfl) a_L_book_5))
  | ((with_reducible refine sx_set (i := 6) (x := "_law_until") ?h ?s ?q); (case h => exact Lc.of sc_L_book.nd rfl rfl (.inl rfl) a_L_book_6); (case s => rfl))
  | ((with_reducible refine gx_name (i := 6) (x := "_law_until") ?h ?q); (case h => exact Lc.of sc_L_book.nd rfl rfl (.inl rfl) a_L_book_6))
  | ((with_reducible refine sx_set (i := 7) (x := "_law_wants") ?h ?s ?q); (case h => exact Lc.of sc_L_book.nd rfl rfl (.inl rfl) a_L_book_7); (case s => rfl))
  | ((with_reducible refine gx_name (i := 7) (x := "_law_wants") ?h ?q); (case h => exact Lc.of sc_L_book.nd rfl rfl (.inl rfl) a_L_book_7)))
local macro_rules | `(tactic| wtm_at "vb L_book") => `(tactic| first
  | ((with_reducible refine' ex_var (i := 0) (x := "_law_row") ?h ?g ?q); (case h => exact At.b rfl (by first | exact Or.inl rfl | exact Or.inr (Or.inl rfl) | exact Or.inr (Or.inr rfl))); (case g => rfl))
  | ((with_reducible refine' ex_var (i := 1) (x := "_law_most") ?h ?g ?q); (case h => exact At.b rfl (by first | exact Or.inl rfl | exact Or.inr (Or.inl rfl) | exact Or.inr (Or.inr rfl))); (case g => rfl))
  | ((with_reducible refine' ex_var (i := 2) (x := "_law_far") ?h ?g ?q); (case h => exact At.b rfl (by first | exact Or.inl rfl | exact Or.inr (Or.inl rfl) | exact Or.inr (Or.inr rfl))); (case g => rfl))
  | ((with_reducible refine' ex_var (i := 3) (x := "_law_found") ?h ?g ?q); (case h => exact At.b rfl (by first | exact Or.inl rfl | exact Or.inr (Or.inl rfl) | exact Or.inr (Or.inr rfl))); (case g => rfl))
  | ((with_reducible refine' ex_var (i := 4) (x := "_law_number") ?h ?g ?q); (case h => exact At.b rfl (by first | exact Or.inl rfl | exact Or.inr (Or.inl rfl) | exact Or.inr (Or.inr rfl))); (case g => rfl))
  | ((with_reducible refine' ex_var (i := 5) (x := "_law_when") ?h ?g ?q); (case h => exact At.b rfl (by first | exact Or.inl rfl | exact Or.inr (Or.inl rfl) | exact Or.inr (Or.inr rfl))); (case g => rfl))
  | ((with_reducible refine' ex_var (i := 6) (x := "_law_until") ?h ?g ?q); (case h => exact At.b rfl (by first | exact Or.inl rfl | exact Or.inr (Or.inl rfl) | exact Or.inr (Or.inr rfl))); (case g => rfl))
  | ((with_reducible refine' ex_var (i := 7) (x := "_law_wants") ?h ?g ?q); (case h => exact At.b rfl (by first | exact Or.inl rfl | exact Or.inr (Or.inl rfl) | exact Or.inr (Or.inr rfl))); (case g => rfl))
  | ((with_reducible refine' ex_var (i := 8) (x := "_law_one") ?h ?g ?q); (case h => exact At.b rfl (by first | exact Or.inl rfl | exact Or.inr (Or.inl rfl) | exact Or.inr (Or.inr rfl))); (case g => rfl)))
local macro_rules | `(tactic| wtm_at "w L_book") => `(tactic| repeat (first | wtm_at "v L_book" | wtm_at "e" | wtm_at "ei" | wtm_at "c"))
local macro_rules | `(tactic| wtm_at "wb L_book") => `(tactic| repeat (first | wtm_at "vb L_book" | wtm_at "e" | wtm_at "cb"))
local macro_rules | `(tactic| wtm_at "g L_book") => `(tactic| repeat (first | wtm_at "v L_book" | wtm_at "e2" | wtm_at "e" | wtm_at "ei" | wtm_at "c"))
local macro_rules | `(tactic| wtm_at "gb L_book") => `(tactic| repeat (first | wtm_at "vb L_book" | wtm_at "e2" | wtm_at "e" | wtm_at "cb"))
local macro_rules | `(tactic| wtm_at "h L_book") => `(tactic| repeat (first | wtm_at "v L_book" | wtm_at "e2" | wtm_at "e" | wtm_at "c"))
local macro_rules | `(tactic| wtm_at "gx L_book") => `(tactic| repeat (first | wtm_at "v L_book" | wtm_at "e2" | wtm_at "e" | wtm_at "ei" | wtm_at "cx"))
local macro_rules | `(tactic| wtm_at "hx L_book") => `(tactic| repeat (first | wtm_at "v L_book" | wtm_at "e2" | wtm_at "e" | wtm_at "cx"))
local macro_rules | `(tactic| wtm_at "gy L_book") => `(tactic| repeat (first | wtm_at "vb L_book" | wtm_at "e2" | wtm_at "e" | wtm_at "cx"))
local macro_rules | `(tactic| wtm_at "hx1 L_book") => `(tactic| first | wtm_at "v L_book" | wtm_at "e2" | wtm_at "e" | wtm_at "cx")
local macro_rules | `(tactic| wtm_at "lc L_book 0") => `(tactic| refine' ex_lc (own := [("_law_one", 8)]) (t := .inl 8)  rfl sc_L_book.nd (blkOk_by (N := n_L_book) (sc := defScope s_L_book) (by decide +kernel)) (by decide) (fun _ _ _ _ _ => pg_name (i := 8) sc_L_book.nd rfl (by first | exact Or.inl rfl | exact Or.inr rfl)) (fun _ => rfl) ?_)
local macro_rules | `(tactic| wtm_at "lcM L_book 0") => `(tactic| refine' ex_lcM (own := [("_law_one", 8)]) (t := .inl 8)  rfl sc_L_book.nd (blkOk_by (N := n_L_book) (sc := defScope s_L_book) (by decide +kernel)) (by decide) (fun _ _ _ _ _ => pg_name (i := 8) sc_L_book.nd rfl (by first | exact Or.inl rfl | exact Or.inr rfl)) (fun _ => rfl) ?_)
local macro_rules | `(tactic| wtm_at "lcp L_book 0") => `(tactic| refine' ex_lcp (own := [("_law_one", 8)]) (t := .inl 8) ?f rfl sc_L_book.nd (blkOk_by (N := n_L_book) (sc := defScope s_L_book) (by decide +kernel)) (by decide) (fun _ _ _ _ _ => pg_name (i := 8) sc_L_book.nd rfl (by first | exact Or.inl rfl | exact Or.inr rfl)) (fun _ => rfl) ?_)
local macro_rules | `(tactic| wtm_at "lcpM L_book 0") => `(tactic| refine' ex_lcpM (own := [("_law_one", 8)]) (t := .inl 8) ?f rfl sc_L_book.nd (blkOk_by (N := n_L_book) (sc := defScope s_L_book) (by decide +kernel)) (by decide) (fun _ _ _ _ _ => pg_name (i := 8) sc_L_book.nd rfl (by first | exact Or.inl rfl | exact Or.inr rfl)) (fun _ => rfl) ?_)
local macro_rules | `(tactic| wtm_at "v L_windows") => `(tactic| first
  | ((with_reducible refine' ex_var (i := 0) (x := "_law_row") ?h ?g ?q); (case h => exact At.of rfl rfl a_L_windows_0); (case g => rfl))
  | ((with_reducible refine' ex_var (i := 1) (x := "_law_far") ?h ?g ?q); (case h => exact At.of rfl rfl a_L_windows_1); (case g => rfl))
  | ((with_reducible refine' ex_var (i := 2) (x := "_law_found") ?h ?g ?q); (case h => exact At.of rfl rfl a_L_windows_2); (case g => rfl))
  | ((with_reducible refine' ex_var (i := 3) (x := "_law_last") ?h ?g ?q); (case h => exact At.of rfl rfl a_L_windows_3); (case g => rfl))
  | ((with_reducible refine' ex_var (i := 4) (x := "_law_begin") ?h ?g ?q); (case h => exact At.of rfl rfl a_L_windows_4); (case g => rfl))
  | ((with_reducible refine' ex_var (i := 5) (x := "_law_end") ?h ?g ?q); (case h => exact At.of rfl rfl a_L_windows_5); (case g => rfl))
  | ((with_reducible refine sx_set (i := 0) (x := "_law_row") ?h ?s ?q); (case h => exact Lc.of sc_L_windows.nd rfl rfl (.inl rfl) a_L_windows_0); (case s => rfl))
  | ((with_reducible refine gx_name (i := 0) (x := "_law_row") ?h ?q); (case h => exact Lc.of sc_L_windows.nd rfl rfl (.inl rfl) a_L_windows_0))
  | ((with_reducible refine sx_set (i := 1) (x := "_law_far") ?h ?s ?q); (case h => exact Lc.of sc_L_windows.nd rfl rfl (.inl rfl) a_L_windows_1); (case s => rfl))
  | ((with_reducible refine gx_name (i := 1) (x := "_law_far") ?h ?q); (case h => exact Lc.of sc_L_windows.nd rfl rfl (.inl rfl) a_L_windows_1))
  | ((with_reducible refine sx_set (i := 2) (x := "_law_found") ?h ?s ?q); (case h => exact Lc.of sc_L_windows.nd rfl rfl (.inl rfl) a_L_windows_2); (case s => rfl))
  | ((with_reducible refine gx_name (i := 2) (x := "_law_found") ?h ?q); (case h => exact Lc.of sc_L_windows.nd rfl rfl (.inl rfl) a_L_windows_2))
  | ((with_reducible refine sx_set (i := 3) (x := "_law_last") ?h ?s ?q); (case h => exact Lc.of sc_L_windows.nd rfl rfl (.inl rfl) a_L_windows_3); (case s => rfl))
  | ((with_reducible refine gx_name (i := 3) (x := "_law_last") ?h ?q); (case h => exact Lc.of sc_L_windows.nd rfl rfl (.inl rfl) a_L_windows_3))
  | ((with_reducible refine sx_set (i := 4) (x := "_law_begin") ?h ?s ?q); (case h => exact Lc.of sc_L_windows.nd rfl rfl (.inl rfl) a_L_windows_4); (case s => rfl))
  | ((with_reducible refine gx_name (i := 4) (x := "_law_begin") ?h ?q); (case h => exact Lc.of sc_L_windows.nd rfl rfl (.inl rfl) a_L_windows_4))
  | ((with_reducible refine sx_set (i := 5) (x := "_law_end") ?h ?s ?q); (case h => exact Lc.of sc_L_windows.nd rfl rfl (.inl rfl) a_L_windows_5); (case s => rfl))
  | ((with_reducible refine gx_name (i := 5) (x := "_law_end") ?h ?q); (case h => exact Lc.of sc_L_windows.nd rfl rfl (.inl rfl) a_L_windows_5)))
local macro_rules | `(tactic| wtm_at "vb L_windows") => `(tactic| first
  | ((with_reducible refine' ex_var (i := 0) (x := "_law_row") ?h ?g ?q); (case h => exact At.b rfl (by first | exact Or.inl rfl | exact Or.inr (Or.inl rfl) | exact Or.inr (Or.inr rfl))); (case g => rfl))
  | ((with_reducible refine' ex_var (i := 1) (x := "_law_far") ?h ?g ?q); (case h => exact At.b rfl (by first | exact Or.inl rfl | exact Or.inr (Or.inl rfl) | exact Or.inr (Or.inr rfl))); (case g => rfl))
  | ((with_reducible refine' ex_var (i := 2) (x := "_law_found") ?h ?g ?q); (case h => exact At.b rfl (by first | exact Or.inl rfl | exact Or.inr (Or.inl rfl) | exact Or.inr (Or.inr rfl))); (case g => rfl))
  | ((with_reducible refine' ex_var (i := 3) (x := "_law_last") ?h ?g ?q); (case h => exact At.b rfl (by first | exact Or.inl rfl | exact Or.inr (Or.inl rfl) | exact Or.inr (Or.inr rfl))); (case g => rfl))
  | ((with_reducible refine' ex_var (i := 4) (x := "_law_begin") ?h ?g ?q); (case h => exact At.b rfl (by first | exact Or.inl rfl | exact Or.inr (Or.inl rfl) | exact Or.inr (Or.inr rfl))); (case g => rfl))
  | ((with_reducible refine' ex_var (i := 5) (x := "_law_end") ?h ?g ?q); (case h => exact At.b rfl (by first | exact Or.inl rfl | exact Or.inr (Or.inl rfl) | exact Or.inr (Or.inr rfl))); (case g => rfl)))
local macro_rules | `(tactic| wtm_at "w L_windows") => `(tactic| repeat (first | wtm_at "v L_windows" | wtm_at "e" | wtm_at "ei" | wtm_at "c"))
local macro_rules | `(tactic| wtm_at "wb L_windows") => `(tactic| repeat (first | wtm_at "vb L_windows" | wtm_at "e" | wtm_at "cb"))
local macro_rules | `(tactic| wtm_at "g L_windows") => `(tactic| repeat (first | wtm_at "v L_windows" | wtm_at "e2" | wtm_at "e" | wtm_at "ei" | wtm_at "c"))
local macro_rules | `(tactic| wtm_at "gb L_windows") => `(tactic| repeat (first | wtm_at "vb L_windows" | wtm_at "e2" | wtm_at "e" | wtm_at "cb"))
local macro_rules | `(tactic| wtm_at "h L_windows") => `(tactic| repeat (first | wtm_at "v L_windows" | wtm_at "e2" | wtm_at "e" | wtm_at "c"))
local macro_rules | `(tactic| wtm_at "gx L_windows") => `(tactic| repeat (first | wtm_at "v L_windows" | wtm_at "e2" | wtm_at "e" | wtm_at "ei" | wtm_at "cx"))
local macro_rules | `(tactic| wtm_at "hx L_windows") => `(tactic| repeat (first | wtm_at "v L_windows" | wtm_at "e2" | wtm_at "e" | wtm_at "cx"))
local macro_rules | `(tactic| wtm_at "gy L_windows") => `(tactic| repeat (first | wtm_at "vb L_windows" | wtm_at "e2" | wtm_at "e" | wtm_at "cx"))
local macro_rules | `(tactic| wtm_at "hx1 L_windows") => `(tactic| first | wtm_at "v L_windows" | wtm_at "e2" | wtm_at "e" | wtm_at "cx")
local macro_rules | `(tactic| wtm_at "v L_open") => `(tactic| first
  | ((with_reducible refine' ex_var (i := 0) (x := "_law_windows_here") ?h ?g ?q); (case h => exact At.of rfl rfl a_L_open_0); (case g => rfl))
  | ((with_reducible refine' ex_var (i := 1) (x := "_law_beat") ?h ?g ?q); (case h => exact At.of rfl rfl a_L_open_1); (case g => rfl))
  | ((with_reducible refine sx_set (i := 0) (x := "_law_windows_here") ?h ?s ?q); (case h => exact Lc.of sc_L_open.nd rfl rfl (.inl rfl) a_L_open_0); (case s => rfl))
  | ((with_reducible refine gx_name (i := 0) (x := "_law_windows_here") ?h ?q); (case h => exact Lc.of sc_L_open.nd rfl rfl (.inl rfl) a_L_open_0))
  | ((with_reducible refine sx_set (i := 1) (x := "_law_beat") ?h ?s ?q); (case h => exact Lc.of sc_L_open.nd rfl rfl (.inl rfl) a_L_open_1); (case s => rfl))
  | ((with_reducible refine gx_name (i := 1) (x := "_law_beat") ?h ?q); (case h => exact Lc.of sc_L_open.nd rfl rfl (.inl rfl) a_L_open_1)))
local macro_rules | `(tactic| wtm_at "vb L_open") => `(tactic| first
  | ((with_reducible refine' ex_var (i := 0) (x := "_law_windows_here") ?h ?g ?q); (case h => exact At.b rfl (by first | exact Or.inl rfl | exact Or.inr (Or.inl rfl) | exact Or.inr (Or.inr rfl))); (case g => rfl))
  | ((with_reducible refine' ex_var (i := 1) (x := "_law_beat") ?h ?g ?q); (case h => exact At.b rfl (by first | exact Or.inl rfl | exact Or.inr (Or.inl rfl) | exact Or.inr (Or.inr rfl))); (case g => rfl))
  | ((with_reducible refine' ex_var (i := 2) (x := "_law_one") ?h ?g ?q); (case h => exact At.b rfl (by first | exact Or.inl rfl | exact Or.inr (Or.inl rfl) | exact Or.inr (Or.inr rfl))); (case g => rfl)))
local macro_rules | `(tactic| wtm_at "w L_open") => `(tactic| repeat (first | wtm_at "v L_open" | wtm_at "e" | wtm_at "ei" | wtm_at "c"))
local macro_rules | `(tactic| wtm_at "wb L_open") => `(tactic| repeat (first | wtm_at "vb L_open" | wtm_at "e" | wtm_at "cb"))
local macro_rules | `(tactic| wtm_at "g L_open") => `(tactic| repeat (first | wtm_at "v L_open" | wtm_at "e2" | wtm_at "e" | wtm_at "ei" | wtm_at "c"))
local macro_rules | `(tactic| wtm_at "gb L_open") => `(tactic| repeat (first | wtm_at "vb L_open" | wtm_at "e2" | wtm_at "e" | wtm_at "cb"))
local macro_rules | `(tactic| wtm_at "h L_open") => `(tactic| repeat (first | wtm_at "v L_open" | wtm_at "e2" | wtm_at "e" | wtm_at "c"))
local macro_rules | `(tactic| wtm_at "gx L_open") => `(tactic| repeat (first | wtm_at "v L_open" | wtm_at "e2" | wtm_at "e" | wtm_at "ei" | wtm_at "cx"))
local macro_rules | `(tactic| wtm_at "hx L_open") => `(tactic| repeat (first | wtm_at "v L_open" | wtm_at "e2" | wtm_at "e" | wtm_at "cx"))
local macro_rules | `(tactic| wtm_at "gy L_open") => `(tactic| repeat (first | wtm_at "vb L_open" | wtm_at "e2" | wtm_at "e" | wtm_at "cx"))
local macro_rules | `(tactic| wtm_at "hx1 L_open") => `(tactic| first | wtm_at "v L_open" | wtm_at "e2" | wtm_at "e" | wtm_at "cx")
local macro_rules | `(tactic| wtm_at "lc L_open 0") => `(tactic| refine' ex_lc (own := [("_law_one", 2)]) (t := .inl 2)  rfl sc_L_open.nd (blkOk_by (N := n_L_open) (sc := defScope s_L_open) (by decide +kernel)) (by decide) (fun _ _ _ _ _ => pg_name (i := 2) sc_L_open.nd rfl (by first | exact Or.inl rfl | exact Or.inr rfl)) (fun _ => rfl) ?_)
local macro_rules | `(tactic| wtm_at "lcM L_open 0") => `(tactic| refine' ex_lcM (own := [("_law_one", 2)]) (t := .inl 2)  rfl sc_L_open.nd (blkOk_by (N := n_L_open) (sc := defScope s_L_open) (by decide +kernel)) (by decide) (fun _ _ _ _ _ => pg_name (i := 2) sc_L_open.nd rfl (by first | exact Or.inl rfl | exact Or.inr rfl)) (fun _ => rfl) ?_)
local macro_rules | `(tactic| wtm_at "lcp L_open 0") => `(tactic| refine' ex_lcp (own := [("_law_one", 2)]) (t := .inl 2) ?f rfl sc_L_open.nd (blkOk_by (N := n_L_open) (sc := defScope s_L_open) (by decide +kernel)) (by decide) (fun _ _ _ _ _ => pg_name (i := 2) sc_L_open.nd rfl (by first | exact Or.inl rfl | exact Or.inr rfl)) (fun _ => rfl) ?_)
local macro_rules | `(tactic| wtm_at "lcpM L_open 0") => `(tactic| refine' ex_lcpM (own := [("_law_one", 2)]) (t := .inl 2) ?f rfl sc_L_open.nd (blkOk_by (N := n_L_open) (sc := defScope s_L_open) (by decide +kernel)) (by decide) (fun _ _ _ _ _ => pg_name (i := 2) sc_L_open.nd rfl (by first | exact Or.inl rfl | exact Or.inr rfl)) (fun _ => rfl) ?_)
local macro_rules | `(tactic| wtm_at "v L_beaten") => `(tactic| first
  | ((with_reducible refine' ex_var (i := 0) (x := "_law_book_here") ?h ?g ?q); (case h => exact At.of rfl rfl a_L_beaten_0); (case g => rfl))
  | ((with_reducible refine' ex_var (i := 1) (x := "_law_state") ?h ?g ?q); (case h => exact At.of rfl rfl a_L_beaten_1); (case g => rfl))
  | ((with_reducible refine' ex_var (i := 2) (x := "_law_letters") ?h ?g ?q); (case h => exact At.of rfl rfl a_L_beaten_2); (case g => rfl))
  | ((with_reducible refine' ex_var (i := 3) (x := "_law_beat") ?h ?g ?q); (case h => exact At.of rfl rfl a_L_beaten_3); (case g => rfl))
  | ((with_reducible refine' ex_var (i := 4) (x := "_law_found") ?h ?g ?q); (case h => exact At.of rfl rfl a_L_beaten_4); (case g => rfl))
  | ((with_reducible refine' ex_var (i := 5) (x := "_law_word_here") ?h ?g ?q); (case h => exact At.of rfl rfl a_L_beaten_5); (case g => rfl))
  | ((with_reducible refine' ex_var (i := 6) (x := "_law_number") ?h ?g ?q); (case h => exact At.of rfl rfl a_L_beaten_6); (case g => rfl))
  | ((with_reducible refine' ex_var (i := 7) (x := "_law_when") ?h ?g ?q); (case h => exact At.of rfl rfl a_L_beaten_7); (case g => rfl))
  | ((with_reducible refine' ex_var (i := 8) (x := "_law_until") ?h ?g ?q); (case h => exact At.of rfl rfl a_L_beaten_8); (case g => rfl))
  | ((with_reducible refine' ex_var (i := 9) (x := "_law_wants") ?h ?g ?q); (case h => exact At.of rfl rfl a_L_beaten_9); (case g => rfl))
  | ((with_reducible refine sx_set (i := 0) (x := "_law_book_here") ?h ?s ?q); (case h => exact Lc.of sc_L_beaten.nd rfl rfl (.inl rfl) a_L_beaten_0); (case s => rfl))
  | ((with_reducible refine gx_name (i := 0) (x := "_law_book_here") ?h ?q); (case h => exact Lc.of sc_L_beaten.nd rfl rfl (.inl rfl) a_L_beaten_0))
  | ((with_reducible refine sx_set (i := 1) (x := "_law_state") ?h ?s ?q); (case h => exact Lc.of sc_L_beaten.nd rfl rfl (.inl rfl) a_L_beaten_1); (case s => rfl))
  | ((with_reducible refine gx_name (i := 1) (x := "_law_state") ?h ?q); (case h => exact Lc.of sc_L_beaten.nd rfl rfl (.inl rfl) a_L_beaten_1))
  | ((with_reducible refine sx_set (i := 2) (x := "_law_letters") ?h ?s ?q); (case h => exact Lc.of sc_L_beaten.nd rfl rfl (.inl rfl) a_L_beaten_2); (case s => rfl))
  | ((with_reducible refine gx_name (i := 2) (x := "_law_letters") ?h ?q); (case h => exact Lc.of sc_L_beaten.nd rfl rfl (.inl rfl) a_L_beaten_2))
  | ((with_reducible refine sx_set (i := 3) (x := "_law_beat") ?h ?s ?q); (case h => exact Lc.of sc_L_beaten.nd rfl rfl (.inl rfl) a_L_beaten_3); (case s => rfl))
  | ((with_reducible refine gx_name (i := 3) (x := "_law_beat") ?h ?q); (case h => exact Lc.of sc_L_beaten.nd rfl rfl (.inl rfl) a_L_beaten_3))
  | ((with_reducible refine sx_set (i := 4) (x := "_law_found") ?h ?s ?q); (case h => exact Lc.of sc_L_beaten.nd rfl rfl (.inl rfl) a_L_beaten_4); (case s => rfl))
  | ((with_reducible refine gx_name (i := 4) (x := "_law_found") ?h ?q); (case h => exact Lc.of sc_L_beaten.nd rfl rfl (.inl rfl) a_L_beaten_4))
  | ((with_reducible refine sx_set (i := 5) (x := "_law_word_here") ?h ?s ?q); (case h => exact Lc.of sc_L_beaten.nd rfl rfl (.inl rfl) a_L_beaten_5); (case s => rfl))
  | ((with_reducible refine gx_name (i := 5) (x := "_law_word_here") ?h ?q); (case h => exact Lc.of sc_L_beaten.nd rfl rfl (.inl rfl) a_L_beaten_5))
  | ((with_reducible refine sx_set (i := 6) (x := "_law_number") ?h ?s ?q); (case h => exact Lc.of sc_L_beaten.nd rfl rfl (.inl rfl) a_L_beaten_6); (case s => rfl))
  | ((with_reducible refine gx_name (i := 6) (x := "_law_number") ?h ?q); (case h => exact Lc.of sc_L_beaten.nd rfl rfl (.inl rfl) a_L_beaten_6))
  | ((with_reducible refine sx_set (i := 7) (x := "_law_when") ?h ?s ?q); (case h => exact Lc.of sc_L_beaten.nd rfl rfl (.inl rfl) a_L_beaten_7); (case s => rfl))
  | ((with_reducible refine gx_name (i := 7) (x := "_law_when") ?h ?q); (case h => exact Lc.of sc_L_beaten.nd rfl rfl (.inl rfl) a_L_beaten_7))
  | ((with_reducible refine sx_set (i := 8) (x := "_law_until") ?h ?s ?q); (case h => exact Lc.of sc_L_beaten.nd rfl rfl (.inl rfl) a_L_beaten_8); (case s => rfl))
  | ((with_reducible refine gx_name (i := 8) (x := "_law_until") ?h ?q); (case h => exact Lc.of sc_L_beaten.nd rfl rfl (.inl rfl) a_L_beaten_8))
  | ((with_reducible refine sx_set (i := 9) (x := "_law_wants") ?h ?s ?q); (case h => exact Lc.of sc_L_beaten.nd rfl rfl (.inl rfl) a_L_beaten_9); (case s => rfl))
  | ((with_reducible refine gx_name (i := 9) (x := "_law_wants") ?h ?q); (case h => exact Lc.of sc_L_beaten.nd rfl rfl (.inl rfl) a_L_beaten_9)))
local macro_rules | `(tactic| wtm_at "vb L_beaten") => `(tactic| first
  | ((with_reducible refine' ex_var (i := 0) (x := "_law_book_here") ?h ?g ?q); (case h => exact At.b rfl (by first | exact Or.inl rfl | exact Or.inr (Or.inl rfl) | exact Or.inr (Or.inr rfl))); (case g => rfl))
  | ((with_reducible refine' ex_var (i := 1) (x := "_law_state") ?h ?g ?q); (case h => exact At.b rfl (by first | exact Or.inl rfl | exact Or.inr (Or.inl rfl) | exact Or.inr (Or.inr rfl))); (case g => rfl))
  | ((with_reducible refine' ex_var (i := 2) (x := "_law_letters") ?h ?g ?q); (case h => exact At.b rfl (by first | exact Or.inl rfl | exact Or.inr (Or.inl rfl) | exact Or.inr (Or.inr rfl))); (case g => rfl))
  | ((with_reducible refine' ex_var (i := 3) (x := "_law_beat") ?h ?g ?q); (case h => exact At.b rfl (by first | exact Or.inl rfl | exact Or.inr (Or.inl rfl) | exact Or.inr (Or.inr rfl))); (case g => rfl))
  | ((with_reducible refine' ex_var (i := 4) (x := "_law_found") ?h ?g ?q); (case h => exact At.b rfl (by first | exact Or.inl rfl | exact Or.inr (Or.inl rfl) | exact Or.inr (Or.inr rfl))); (case g => rfl))
  | ((with_reducible refine' ex_var (i := 5) (x := "_law_word_here") ?h ?g ?q); (case h => exact At.b rfl (by first | exact Or.inl rfl | exact Or.inr (Or.inl rfl) | exact Or.inr (Or.inr rfl))); (case g => rfl))
  | ((with_reducible refine' ex_var (i := 6) (x := "_law_number") ?h ?g ?q); (case h => exact At.b rfl (by first | exact Or.inl rfl | exact Or.inr (Or.inl rfl) | exact Or.inr (Or.inr rfl))); (case g => rfl))
  | ((with_reducible refine' ex_var (i := 7) (x := "_law_when") ?h ?g ?q); (case h => exact At.b rfl (by first | exact Or.inl rfl | exact Or.inr (Or.inl rfl) | exact Or.inr (Or.inr rfl))); (case g => rfl))
  | ((with_reducible refine' ex_var (i := 8) (x := "_law_until") ?h ?g ?q); (case h => exact At.b rfl (by first | exact Or.inl rfl | exact Or.inr (Or.inl rfl) | exact Or.inr (Or.inr rfl))); (case g => rfl))
  | ((with_reducible refine' ex_var (i := 9) (x := "_law_wants") ?h ?g ?q); (case h => exact At.b rfl (by first | exact Or.inl rfl | exact Or.inr (Or.inl rfl) | exact Or.inr (Or.inr rfl))); (case g => rfl))
  | ((with_reducible refine' ex_var (i := 10) (x := "_law_one") ?h ?g ?q); (case h => exact At.b rfl (by first | exact Or.inl rfl | exact Or.inr (Or.inl rfl) | exact Or.inr (Or.inr rfl))); (case g => rfl)))
local macro_rules | `(tactic| wtm_at "w L_beaten") => `(tactic| repeat (first | wtm_at "v L_beaten" | wtm_at "e" | wtm_at "ei" | wtm_at "c"))
local macro_rules | `(tactic| wtm_at "wb L_beaten") => `(tactic| repeat (first | wtm_at "vb L_beaten" | wtm_at "e" | wtm_at "cb"))
local macro_rules | `(tactic| wtm_at "g L_beaten") => `(tactic| repeat (first | wtm_at "v L_beaten" | wtm_at "e2" | wtm_at "e" | wtm_at "ei" | wtm_at "c"))
local macro_rules | `(tactic| wtm_at "gb L_beaten") => `(tactic| repeat (first | wtm_at "vb L_beaten" | wtm_at "e2" | wtm_at "e" | wtm_at "cb"))
local macro_rules | `(tactic| wtm_at "h L_beaten") => `(tactic| repeat (first | wtm_at "v L_beaten" | wtm_at "e2" | wtm_at "e" | wtm_at "c"))
local macro_rules | `(tactic| wtm_at "gx L_beaten") => `(tactic| repeat (first | wtm_at "v L_beaten" | wtm_at "e2" | wtm_at "e" | wtm_at "ei" | wtm_at "cx"))
local macro_rules | `(tactic| wtm_at "hx L_beaten") => `(tactic| repeat (first | wtm_at "v L_beaten" | wtm_at "e2" | wtm_at "e" | wtm_at "cx"))
local macro_rules | `(tactic| wtm_at "gy L_beaten") => `(tactic| repeat (first | wtm_at "vb L_beaten" | wtm_at "e2" | wtm_at "e" | wtm_at "cx"))
local macro_rules | `(tactic| wtm_at "hx1 L_beaten") => `(tactic| first | wtm_at "v L_beaten" | wtm_at "e2" | wtm_at "e" | wtm_at "cx")
local macro_rules | `(tactic| wtm_at "lc L_beaten 0") => `(tactic| refine' ex_lc (own := [("_law_one", 10)]) (t := .inl 10)  rfl sc_L_beaten.nd (blkOk_by (N := n_L_beaten) (sc := defScope s_L_beaten) (by decide +kernel)) (by decide) (fun _ _ _ _ _ => pg_name (i := 10) sc_L_beaten.nd rfl (by first | exact Or.inl rfl | exact Or.inr rfl)) (fun _ => rfl) ?_)
local macro_rules | `(tactic| wtm_at "lcM L_beaten 0") => `(tactic| refine' ex_lcM (own := [("_law_one", 10)]) (t := .inl 10)  rfl sc_L_beaten.nd (blkOk_by (N := n_L_beaten) (sc := defScope s_L_beaten) (by decide +kernel)) (by decide) (fun _ _ _ _ _ => pg_name (i := 10) sc_L_beaten.nd rfl (by first | exact Or.inl rfl | exact Or.inr rfl)) (fun _ => rfl) ?_)
local macro_rules | `(tactic| wtm_at "lcp L_beaten 0") => `(tactic| refine' ex_lcp (own := [("_law_one", 10)]) (t := .inl 10) ?f rfl sc_L_beaten.nd (blkOk_by (N := n_L_beaten) (sc := defScope s_L_beaten) (by decide +kernel)) (by decide) (fun _ _ _ _ _ => pg_name (i := 10) sc_L_beaten.nd rfl (by first | exact Or.inl rfl | exact Or.inr rfl)) (fun _ => rfl) ?_)
local macro_rules | `(tactic| wtm_at "lcpM L_beaten 0") => `(tactic| refine' ex_lcpM (own := [("_law_one", 10)]) (t := .inl 10) ?f rfl sc_L_beaten.nd (blkOk_by (N := n_L_beaten) (sc := defScope s_L_beaten) (by decide +kernel)) (by decide) (fun _ _ _ _ _ => pg_name (i := 10) sc_L_beaten.nd rfl (by first | exact Or.inl rfl | exact Or.inr rfl)) (fun _ => rfl) ?_)
local macro_rules | `(tactic| wtm_at "v L_slots") => `(tactic| first
  | ((with_reducible refine' ex_var (i := 0) (x := "_law_windows_here") ?h ?g ?q); (case h => exact At.of rfl rfl a_L_slots_0); (case g => rfl))
  | ((with_reducible refine' ex_var (i := 1) (x := "_law_many") ?h ?g ?q); (case h => exact At.of rfl rfl a_L_slots_1); (case g => rfl))
  | ((with_reducible refine' ex_var (i := 2) (x := "_law_found") ?h ?g ?q); (case h => exact At.of rfl rfl a_L_slots_2); (case g => rfl))
  | ((with_reducible refine' ex_var (i := 3) (x := "_law_beat") ?h ?g ?q); (case h => exact At.of rfl rfl a_L_slots_3); (case g => rfl))
  | ((with_reducible refine sx_set (i := 0) (x := "_law_windows_here") ?h ?s ?q); (case h => exact Lc.of sc_L_slots.nd rfl rfl (.inl rfl) a_L_slots_0); (case s => rfl))
  | ((with_reducible refine gx_name (i := 0) (x := "_law_windows_here") ?h ?q); (case h => exact Lc.of sc_L_slots.nd rfl rfl (.inl rfl) a_L_slots_0))
  | ((with_reducible refine sx_set (i := 1) (x := "_law_many") ?h ?s ?q); (case h => exact Lc.of sc_L_slots.nd rfl rfl (.inl rfl) a_L_slots_1); (case s => rfl))
  | ((with_reducible refine gx_name (i := 1) (x := "_law_many") ?h ?q); (case h => exact Lc.of sc_L_slots.nd rfl rfl (.inl rfl) a_L_slots_1))
  | ((with_reducible refine sx_set (i := 2) (x := "_law_found") ?h ?s ?q); (case h => exact Lc.of sc_L_slots.nd rfl rfl (.inl rfl) a_L_slots_2); (case s => rfl))
  | ((with_reducible refine gx_name (i := 2) (x := "_law_found") ?h ?q); (case h => exact Lc.of sc_L_slots.nd rfl rfl (.inl rfl) a_L_slots_2))
  | ((with_reducible refine sx_set (i := 3) (x := "_law_beat") ?h ?s ?q); (case h => exact Lc.of sc_L_slots.nd rfl rfl (.inl rfl) a_L_slots_3); (case s => rfl))
  | ((with_reducible refine gx_name (i := 3) (x := "_law_beat") ?h ?q); (case h => exact Lc.of sc_L_slots.nd rfl rfl (.inl rfl) a_L_slots_3)))
local macro_rules | `(tactic| wtm_at "vb L_slots") => `(tactic| first
  | ((with_reducible refine' ex_var (i := 0) (x := "_law_windows_here") ?h ?g ?q); (case h => exact At.b rfl (by first | exact Or.inl rfl | exact Or.inr (Or.inl rfl) | exact Or.inr (Or.inr rfl))); (case g => rfl))
  | ((with_reducible refine' ex_var (i := 1) (x := "_law_many") ?h ?g ?q); (case h => exact At.b rfl (by first | exact Or.inl rfl | exact Or.inr (Or.inl rfl) | exact Or.inr (Or.inr rfl))); (case g => rfl))
  | ((with_reducible refine' ex_var (i := 2) (x := "_law_found") ?h ?g ?q); (case h => exact At.b rfl (by first | exact Or.inl rfl | exact Or.inr (Or.inl rfl) | exact Or.inr (Or.inr rfl))); (case g => rfl))
  | ((with_reducible refine' ex_var (i := 3) (x := "_law_beat") ?h ?g ?q); (case h => exact At.b rfl (by first | exact Or.inl rfl | exact Or.inr (Or.inl rfl) | exact Or.inr (Or.inr rfl))); (case g => rfl)))
local macro_rules | `(tactic| wtm_at "w L_slots") => `(tactic| repeat (first | wtm_at "v L_slots" | wtm_at "e" | wtm_at "ei" | wtm_at "c"))
local macro_rules | `(tactic| wtm_at "wb L_slots") => `(tactic| repeat (first | wtm_at "vb L_slots" | wtm_at "e" | wtm_at "cb"))
local macro_rules | `(tactic| wtm_at "g L_slots") => `(tactic| repeat (first | wtm_at "v L_slots" | wtm_at "e2" | wtm_at "e" | wtm_at "ei" | wtm_at "c"))
local macro_rules | `(tactic| wtm_at "gb L_slots") => `(tactic| repeat (first | wtm_at "vb L_slots" | wtm_at "e2" | wtm_at "e" | wtm_at "cb"))
local macro_rules | `(tactic| wtm_at "h L_slots") => `(tactic| repeat (first | wtm_at "v L_slots" | wtm_at "e2" | wtm_at "e" | wtm_at "c"))
local macro_rules | `(tactic| wtm_at "gx L_slots") => `(tactic| repeat (first | wtm_at "v L_slots" | wtm_at "e2" | wtm_at "e" | wtm_at "ei" | wtm_at "cx"))
local macro_rules | `(tactic| wtm_at "hx L_slots") => `(tactic| repeat (first | wtm_at "v L_slots" | wtm_at "e2" | wtm_at "e" | wtm_at "cx"))
local macro_rules | `(tactic| wtm_at "gy L_slots") => `(tactic| repeat (first | wtm_at "vb L_slots" | wtm_at "e2" | wtm_at "e" | wtm_at "cx"))
local macro_rules | `(tactic| wtm_at "hx1 L_slots") => `(tactic| first | wtm_at "v L_slots" | wtm_at "e2" | wtm_at "e" | wtm_at "cx")
local macro_rules | `(tactic| wtm_at "v L_done_at") => `(tactic| first
  | ((with_reducible refine' ex_var (i := 0) (x := "_law_book_here") ?h ?g ?q); (case h => exact At.of rfl rfl a_L_done_at_0); (case g => rfl))
  | ((with_reducible refine' ex_var (i := 1) (x := "_law_comes") ?h ?g ?q); (case h => exact At.of rfl rfl a_L_done_at_1); (case g => rfl))
  | ((with_reducible refine' ex_var (i := 2) (x := "_law_state") ?h ?g ?q); (case h => exact At.of rfl rfl a_L_done_at_2); (case g => rfl))
  | ((with_reducible refine' ex_var (i := 3) (x := "_law_found") ?h ?g ?q); (case h => exact At.of rfl rfl a_L_done_at_3); (case g => rfl))
  | ((with_reducible refine' ex_var (i := 4) (x := "_law_last") ?h ?g ?q); (case h => exact At.of rfl rfl a_L_done_at_4); (case g => rfl))
  | ((with_reducible refine' ex_var (i := 5) (x := "_law_beat") ?h ?g ?q); (case h => exact At.of rfl rfl a_L_done_at_5); (case g => rfl))
  | ((with_reducible refine' ex_var (i := 6) (x := "_law_k") ?h ?g ?q); (case h => exact At.of rfl rfl a_L_done_at_6); (case g => rfl))
  | ((with_reducible refine' ex_var (i := 7) (x := "_law_letters") ?h ?g ?q); (case h => exact At.of rfl rfl a_L_done_at_7); (case g => rfl))
  | ((with_reducible refine' ex_var (i := 8) (x := "_law_after") ?h ?g ?q); (case h => exact At.of rfl rfl a_L_done_at_8); (case g => rfl))
  | ((with_reducible refine sx_set (i := 0) (x := "_law_book_here") ?h ?s ?q); (case h => exact Lc.of sc_L_done_at.nd rfl rfl (.inl rfl) a_L_done_at_0); (case s => rfl))
  | ((with_reducible refine gx_name (i := 0) (x := "_law_book_here") ?h ?q); (case h => exact Lc.of sc_L_done_at.nd rfl rfl (.inl rfl) a_L_done_at_0))
  | ((with_reducible refine sx_set (i := 1) (x := "_law_comes") ?h ?s ?q); (case h => exact Lc.of sc_L_done_at.nd rfl rfl (.inl rfl) a_L_done_at_1); (case s => rfl))
  | ((with_reducible refine gx_name (i := 1) (x := "_law_comes") ?h ?q); (case h => exact Lc.of sc_L_done_at.nd rfl rfl (.inl rfl) a_L_done_at_1))
  | ((with_reducible refine sx_set (i := 2) (x := "_law_state") ?h ?s ?q); (case h => exact Lc.of sc_L_done_at.nd rfl rfl (.inl rfl) a_L_done_at_2); (case s => rfl))
  | ((with_reducible refine gx_name (i := 2) (x := "_law_state") ?h ?q); (case h => exact Lc.of sc_L_done_at.nd rfl rfl (.inl rfl) a_L_done_at_2))
  | ((with_reducible refine sx_set (i := 3) (x := "_law_found") ?h ?s ?q); (case h => exact Lc.of sc_L_done_at.nd rfl rfl (.inl rfl) a_L_done_at_3); (case s => rfl))
  | ((with_reducible refine gx_name (i := 3) (x := "_law_found") ?h ?q); (case h => exact Lc.of sc_L_done_at.nd rfl rfl (.inl rfl) a_L_done_at_3))
  | ((with_reducible refine sx_set (i := 4) (x := "_law_last") ?h ?s ?q); (case h => exact Lc.of sc_L_done_at.nd rfl rfl (.inl rfl) a_L_done_at_4); (case s => rfl))
  | ((with_reducible refine gx_name (i := 4) (x := "_law_last") ?h ?q); (case h => exact Lc.of sc_L_done_at.nd rfl rfl (.inl rfl) a_L_done_at_4))
  | ((with_reducible refine sx_set (i := 5) (x := "_law_beat") ?h ?s ?q); (case h => exact Lc.of sc_L_done_at.nd rfl rfl (.inl rfl) a_L_done_at_5); (case s => rfl))
  | ((with_reducible refine gx_name (i := 5) (x := "_law_beat") ?h ?q); (case h => exact Lc.of sc_L_done_at.nd rfl rfl (.inl rfl) a_L_done_at_5))
  | ((with_reducible refine sx_set (i := 6) (x := "_law_k") ?h ?s ?q); (case h => exact Lc.of sc_L_done_at.nd rfl rfl (.inl rfl) a_L_done_at_6); (case s => rfl))
  | ((with_reducible refine gx_name (i := 6) (x := "_law_k") ?h ?q); (case h => exact Lc.of sc_L_done_at.nd rfl rfl (.inl rfl) a_L_done_at_6))
  | ((with_reducible refine sx_set (i := 7) (x := "_law_letters") ?h ?s ?q); (case h => exact Lc.of sc_L_done_at.nd rfl rfl (.inl rfl) a_L_done_at_7); (case s => rfl))
  | ((with_reducible refine gx_name (i := 7) (x := "_law_letters") ?h ?q); (case h => exact Lc.of sc_L_done_at.nd rfl rfl (.inl rfl) a_L_done_at_7))
  | ((with_reducible refine sx_set (i := 8) (x := "_law_after") ?h ?s ?q); (case h => exact Lc.of sc_L_done_at.nd rfl rfl (.inl rfl) a_L_done_at_8); (case s => rfl))
  | ((with_reducible refine gx_name (i := 8) (x := "_law_after") ?h ?q); (case h => exact Lc.of sc_L_done_at.nd rfl rfl (.inl rfl) a_L_done_at_8)))
local macro_rules | `(tactic| wtm_at "vb L_done_at") => `(tactic| first
  | ((with_reducible refine' ex_var (i := 0) (x := "_law_book_here") ?h ?g ?q); (case h => exact At.b rfl (by first | exact Or.inl rfl | exact Or.inr (Or.inl rfl) | exact Or.inr (Or.inr rfl))); (case g => rfl))
  | ((with_reducible refine' ex_var (i := 1) (x := "_law_comes") ?h ?g ?q); (case h => exact At.b rfl (by first | exact Or.inl rfl | exact Or.inr (Or.inl rfl) | exact Or.inr (Or.inr rfl))); (case g => rfl))
  | ((with_reducible refine' ex_var (i := 2) (x := "_law_state") ?h ?g ?q); (case h => exact At.b rfl (by first | exact Or.inl rfl | exact Or.inr (Or.inl rfl) | exact Or.inr (Or.inr rfl))); (case g => rfl))
  | ((with_reducible refine' ex_var (i := 3) (x := "_law_found") ?h ?g ?q); (case h => exact At.b rfl (by first | exact Or.inl rfl | exact Or.inr (Or.inl rfl) | exact Or.inr (Or.inr rfl))); (case g => rfl))
  | ((with_reducible refine' ex_var (i := 4) (x := "_law_last") ?h ?g ?q); (case h => exact At.b rfl (by first | exact Or.inl rfl | exact Or.inr (Or.inl rfl) | exact Or.inr (Or.inr rfl))); (case g => rfl))
  | ((with_reducible refine' ex_var (i := 5) (x := "_law_beat") ?h ?g ?q); (case h => exact At.b rfl (by first | exact Or.inl rfl | exact Or.inr (Or.inl rfl) | exact Or.inr (Or.inr rfl))); (case g => rfl))
  | ((with_reducible refine' ex_var (i := 6) (x := "_law_k") ?h ?g ?q); (case h => exact At.b rfl (by first | exact Or.inl rfl | exact Or.inr (Or.inl rfl) | exact Or.inr (Or.inr rfl))); (case g => rfl))
  | ((with_reducible refine' ex_var (i := 7) (x := "_law_letters") ?h ?g ?q); (case h => exact At.b rfl (by first | exact Or.inl rfl | exact Or.inr (Or.inl rfl) | exact Or.inr (Or.inr rfl))); (case g => rfl))
  | ((with_reducible refine' ex_var (i := 8) (x := "_law_after") ?h ?g ?q); (case h => exact At.b rfl (by first | exact Or.inl rfl | exact Or.inr (Or.inl rfl) | exact Or.inr (Or.inr rfl))); (case g => rfl))
  | ((with_reducible refine' ex_var (i := 9) (x := "_law_one") ?h ?g ?q); (case h => exact At.b rfl (by first | exact Or.inl rfl | exact Or.inr (Or.inl rfl) | exact Or.inr (Or.inr rfl))); (case g => rfl))
  | ((with_reducible refine' ex_var (i := 10) (x := "_law_command") ?h ?g ?q); (case h => exact At.b rfl (by first | exact Or.inl rfl | exact Or.inr (Or.inl rfl) | exact Or.inr (Or.inr rfl))); (case g => rfl)))
local macro_rules | `(tactic| wtm_at "w L_done_at") => `(tactic| repeat (first | wtm_at "v L_done_at" | wtm_at "e" | wtm_at "ei" | wtm_at "c"))
local macro_rules | `(tactic| wtm_at "wb L_done_at") => `(tactic| repeat (first | wtm_at "vb L_done_at" | wtm_at "e" | wtm_at "cb"))
local macro_rules | `(tactic| wtm_at "g L_done_at") => `(tactic| repeat (first | wtm_at "v L_done_at" | wtm_at "e2" | wtm_at "e" | wtm_at "ei" | wtm_at "c"))
local macro_rules | `(tactic| wtm_at "gb L_done_at") => `(tactic| repeat (first | wtm_at "vb L_done_at" | wtm_at "e2" | wtm_at "e" | wtm_at "cb"))
local macro_rules | `(tactic| wtm_at "h L_done_at") => `(tactic| repeat (first | wtm_at "v L_done_at" | wtm_at "e2" | wtm_at "e" | wtm_at "c"))
local macro_rules | `(tactic| wtm_at "gx L_done_at") => `(tactic| repeat (first | wtm_at "v L_done_at" | wtm_at "e2" | wtm_at "e" | wtm_at "ei" | wtm_at "cx"))
local macro_rules | `(tactic| wtm_at "hx L_done_at") => `(tactic| repeat (first | wtm_at "v L_done_at" | wtm_at "e2" | wtm_at "e" | wtm_at "cx"))
local macro_rules | `(tactic| wtm_at "gy L_done_at") => `(tactic| repeat (first | wtm_at "vb L_done_at" | wtm_at "e2" | wtm_at "e" | wtm_at "cx"))
local macro_rules | `(tactic| wtm_at "hx1 L_done_at") => `(tactic| first | wtm_at "v L_done_at" | wtm_at "e2" | wtm_at "e" | wtm_at "cx")
local macro_rules | `(tactic| wtm_at "lc L_done_at 0") => `(tactic| refine' ex_lc (own := [("_law_one", 9)]) (t := .inl 9)  rfl sc_L_done_at.nd (blkOk_by (N := n_L_done_at) (sc := defScope s_L_done_at) (by decide +kernel)) (by decide) (fun _ _ _ _ _ => pg_name (i := 9) sc_L_done_at.nd rfl (by first | exact Or.inl rfl | exact Or.inr rfl)) (fun _ => rfl) ?_)
local macro_rules | `(tactic| wtm_at "lcM L_done_at 0") => `(tactic| refine' ex_lcM (own := [("_law_one", 9)]) (t := .inl 9)  rfl sc_L_done_at.nd (blkOk_by (N := n_L_done_at) (sc := defScope s_L_done_at) (by decide +kernel)) (by decide) (fun _ _ _ _ _ => pg_name (i := 9) sc_L_done_at.nd rfl (by first | exact Or.inl rfl | exact Or.inr rfl)) (fun _ => rfl) ?_)
local macro_rules | `(tactic| wtm_at "lcp L_done_at 0") => `(tactic| refine' ex_lcp (own := [("_law_one", 9)]) (t := .inl 9) ?f rfl sc_L_done_at.nd (blkOk_by (N := n_L_done_at) (sc := defScope s_L_done_at) (by decide +kernel)) (by decide) (fun _ _ _ _ _ => pg_name (i := 9) sc_L_done_at.nd rfl (by first | exact Or.inl rfl | exact Or.inr rfl)) (fun _ => rfl) ?_)
local macro_rules | `(tactic| wtm_at "lcpM L_done_at 0") => `(tactic| refine' ex_lcpM (own := [("_law_one", 9)]) (t := .inl 9) ?f rfl sc_L_done_at.nd (blkOk_by (N := n_L_done_at) (sc := defScope s_L_done_at) (by decide +kernel)) (by decide) (fun _ _ _ _ _ => pg_name (i := 9) sc_L_done_at.nd rfl (by first | exact Or.inl rfl | exact Or.inr rfl)) (fun _ => rfl) ?_)
local macro_rules | `(tactic| wtm_at "lc L_done_at 1") => `(tactic| refine' ex_lc (own := [("_law_command", 10)]) (t := .inl 10)  rfl sc_L_done_at.nd (blkOk_by (N := n_L_done_at) (sc := defScope s_L_done_at) (by decide +kernel)) (by decide) (fun _ _ _ _ _ => pg_name (i := 10) sc_L_done_at.nd rfl (by first | exact Or.inl rfl | exact Or.inr rfl)) (fun _ => rfl) ?_)
local macro_rules | `(tactic| wtm_at "lcM L_done_at 1") => `(tactic| refine' ex_lcM (own := [("_law_command", 10)]) (t := .inl 10)  rfl sc_L_done_at.nd (blkOk_by (N := n_L_done_at) (sc := defScope s_L_done_at) (by decide +kernel)) (by decide) (fun _ _ _ _ _ => pg_name (i := 10) sc_L_done_at.nd rfl (by first | exact Or.inl rfl | exact Or.inr rfl)) (fun _ => rfl) ?_)
local macro_rules | `(tactic| wtm_at "lcp L_done_at 1") => `(tactic| refine' ex_lcp (own := [("_law_command", 10)]) (t := .inl 10) ?f rfl sc_L_done_at.nd (blkOk_by (N := n_L_done_at) (sc := defScope s_L_done_at) (by decide +kernel)) (by decide) (fun _ _ _ _ _ => pg_name (i := 10) sc_L_done_at.nd rfl (by first | exact Or.inl rfl | exact Or.inr rfl)) (fun _ => rfl) ?_)
local macro_rules | `(tactic| wtm_at "lcpM L_done_at 1") => `(tactic| refine' ex_lcpM (own := [("_law_command", 10)]) (t := .inl 10) ?f rfl sc_L_done_at.nd (blkOk_by (N := n_L_done_at) (sc := defScope s_L_done_at) (by decide +kernel)) (by decide) (fun _ _ _ _ _ => pg_name (i := 10) sc_L_done_at.nd rfl (by first | exact Or.inl rfl | exact Or.inr rfl)) (fun _ => rfl) ?_)
local macro_rules | `(tactic| wtm_at "lc L_done_at 2") => `(tactic| refine' ex_lc (own := [("_law_k", 6)]) (t := .inl 6)  rfl sc_L_done_at.nd (blkOk_by (N := n_L_done_at) (sc := defScope s_L_done_at) (by decide +kernel)) (by decide) (fun _ _ _ _ _ => pg_name (i := 6) sc_L_done_at.nd rfl (by first | exact Or.inl rfl | exact Or.inr rfl)) (fun _ => rfl) ?_)
local macro_rules | `(tactic| wtm_at "lcM L_done_at 2") => `(tactic| refine' ex_lcM (own := [("_law_k", 6)]) (t := .inl 6)  rfl sc_L_done_at.nd (blkOk_by (N := n_L_done_at) (sc := defScope s_L_done_at) (by decide +kernel)) (by decide) (fun _ _ _ _ _ => pg_name (i := 6) sc_L_done_at.nd rfl (by first | exact Or.inl rfl | exact Or.inr rfl)) (fun _ => rfl) ?_)
local macro_rules | `(tactic| wtm_at "lcp L_done_at 2") => `(tactic| refine' ex_lcp (own := [("_law_k", 6)]) (t := .inl 6) ?f rfl sc_L_done_at.nd (blkOk_by (N := n_L_done_at) (sc := defScope s_L_done_at) (by decide +kernel)) (by decide) (fun _ _ _ _ _ => pg_name (i := 6) sc_L_done_at.nd rfl (by first | exact Or.inl rfl | exact Or.inr rfl)) (fun _ => rfl) ?_)
local macro_rules | `(tactic| wtm_at "lcpM L_done_at 2") => `(tactic| refine' ex_lcpM (own := [("_law_k", 6)]) (t := .inl 6) ?f rfl sc_L_done_at.nd (blkOk_by (N := n_L_done_at) (sc := defScope s_L_done_at) (by decide +kernel)) (by decide) (fun _ _ _ _ _ => pg_name (i := 6) sc_L_done_at.nd rfl (by first | exact Or.inl rfl | exact Or.inr rfl)) (fun _ => rfl) ?_)
local macro_rules | `(tactic| wtm_at "slc L_done_at 2") => `(tactic| refine' sx_setLc (i := 7) (own := [("_law_k", 6)]) (t := .inl 6)  rfl sc_L_done_at.nd rfl rfl (sw_true rfl rfl rfl (by decide +kernel)) (blkOk_by (N := n_L_done_at) (sc := defScope s_L_done_at) (by decide +kernel)) (by decide) (fun _ _ _ _ _ => pg_name (i := 6) sc_L_done_at.nd rfl (by first | exact Or.inl rfl | exact Or.inr rfl)) (fun _ => rfl) ?_)
local macro_rules | `(tactic| wtm_at "slcM L_done_at 2") => `(tactic| refine' sx_setLcM (i := 7) (own := [("_law_k", 6)]) (t := .inl 6)  rfl sc_L_done_at.nd rfl rfl (sw_true rfl rfl rfl (by decide +kernel)) (blkOk_by (N := n_L_done_at) (sc := defScope s_L_done_at) (by decide +kernel)) (by decide) (fun _ _ _ _ _ => pg_name (i := 6) sc_L_done_at.nd rfl (by first | exact Or.inl rfl | exact Or.inr rfl)) (fun _ => rfl) ?_)
local macro_rules | `(tactic| wtm_at "slcp L_done_at 2") => `(tactic| refine' sx_setLcp (i := 7) (own := [("_law_k", 6)]) (t := .inl 6) ?f rfl sc_L_done_at.nd rfl rfl (sw_true rfl rfl rfl (by decide +kernel)) (blkOk_by (N := n_L_done_at) (sc := defScope s_L_done_at) (by decide +kernel)) (by decide) (fun _ _ _ _ _ => pg_name (i := 6) sc_L_done_at.nd rfl (by first | exact Or.inl rfl | exact Or.inr rfl)) (fun _ => rfl) ?_)
local macro_rules | `(tactic| wtm_at "v L_rows") => `(tactic| first
  | ((with_reducible refine' ex_var (i := 0) (x := "_law_numbers") ?h ?g ?q); (case h => exact At.of rfl rfl a_L_rows_0); (case g => rfl))
  | ((with_reducible refine' ex_var (i := 1) (x := "_law_often") ?h ?g ?q); (case h => exact At.of rfl rfl a_L_rows_1); (case g => rfl))
  | ((with_reducible refine' ex_var (i := 2) (x := "_law_many") ?h ?g ?q); (case h => exact At.of rfl rfl a_L_rows_2); (case g => rfl))
  | ((with_reducible refine' ex_var (i := 3) (x := "_law_found") ?h ?g ?q); (case h => exact At.of rfl rfl a_L_rows_3); (case g => rfl))
  | ((with_reducible refine' ex_var (i := 4) (x := "_law_turn") ?h ?g ?q); (case h => exact At.of rfl rfl a_L_rows_4); (case g => rfl))
  | ((with_reducible refine' ex_var (i := 5) (x := "_law_longer") ?h ?g ?q); (case h => exact At.of rfl rfl a_L_rows_5); (case g => rfl))
  | ((with_reducible refine' ex_var (i := 6) (x := "_law_some") ?h ?g ?q); (case h => exact At.of rfl rfl a_L_rows_6); (case g => rfl))
  | ((with_reducible refine sx_set (i := 0) (x := "_law_numbers") ?h ?s ?q); (case h => exact Lc.of sc_L_rows.nd rfl rfl (.inl rfl) a_L_rows_0); (case s => rfl))
  | ((with_reducible refine gx_name (i := 0) (x := "_law_numbers") ?h ?q); (case h => exact Lc.of sc_L_rows.nd rfl rfl (.inl rfl) a_L_rows_0))
  | ((with_reducible refine sx_set (i := 1) (x := "_law_often") ?h ?s ?q); (case h => exact Lc.of sc_L_rows.nd rfl rfl (.inl rfl) a_L_rows_1); (case s => rfl))
  | ((with_reducible refine gx_name (i := 1) (x := "_law_often") ?h ?q); (case h => exact Lc.of sc_L_rows.nd rfl rfl (.inl rfl) a_L_rows_1))
  | ((with_reducible refine sx_set (i := 2) (x := "_law_many") ?h ?s ?q); (case h => exact Lc.of sc_L_rows.nd rfl rfl (.inl rfl) a_L_rows_2); (case s => rfl))
  | ((with_reducible refine gx_name (i := 2) (x := "_law_many") ?h ?q); (case h => exact Lc.of sc_L_rows.nd rfl rfl (.inl rfl) a_L_rows_2))
  | ((with_reducible refine sx_set (i := 3) (x := "_law_found") ?h ?s ?q); (case h => exact Lc.of sc_L_rows.nd rfl rfl (.inl rfl) a_L_rows_3); (case s => rfl))
  | ((with_reducible refine gx_name (i := 3) (x := "_law_found") ?h ?q); (case h => exact Lc.of sc_L_rows.nd rfl rfl (.inl rfl) a_L_rows_3))
  | ((with_reducible refine sx_set (i := 4) (x := "_law_turn") ?h ?s ?q); (case h => exact Lc.of sc_L_rows.nd rfl rfl (.inl rfl) a_L_rows_4); (case s => rfl))
  | ((with_reducible refine gx_name (i := 4) (x := "_law_turn") ?h ?q); (case h => exact Lc.of sc_L_rows.nd rfl rfl (.inl rfl) a_L_rows_4))
  | ((with_reducible refine sx_set (i := 5) (x := "_law_longer") ?h ?s ?q); (case h => exact Lc.of sc_L_rows.nd rfl rfl (.inl rfl) a_L_rows_5); (case s => rfl))
  | ((with_reducible refine gx_name (i := 5) (x := "_law_longer") ?h ?q); (case h => exact Lc.of sc_L_rows.nd rfl rfl (.inl rfl) a_L_rows_5))
  | ((with_reducible refine sx_set (i := 6) (x := "_law_some") ?h ?s ?q); (case h => exact Lc.of sc_L_rows.nd rfl rfl (.inl rfl) a_L_rows_6); (case s => rfl))
  | ((with_reducible refine gx_name (i := 6) (x := "_law_some") ?h ?q); (case h => exact Lc.of sc_L_rows.nd rfl rfl (.inl rfl) a_L_rows_6)))
local macro_rules | `(tactic| wtm_at "vb L_rows") => `(tactic| first
  | ((with_reducible refine' ex_var (i := 0) (x := "_law_numbers") ?h ?g ?q); (case h => exact At.b rfl (by first | exact Or.inl rfl | exact Or.inr (Or.inl rfl) | exact Or.inr (Or.inr rfl))); (case g => rfl))
  | ((with_reducible refine' ex_var (i := 1) (x := "_law_often") ?h ?g ?q); (case h => exact At.b rfl (by first | exact Or.inl rfl | exact Or.inr (Or.inl rfl) | exact Or.inr (Or.inr rfl))); (case g => rfl))
  | ((with_reducible refine' ex_var (i := 2) (x := "_law_many") ?h ?g ?q); (case h => exact At.b rfl (by first | exact Or.inl rfl | exact Or.inr (Or.inl rfl) | exact Or.inr (Or.inr rfl))); (case g => rfl))
  | ((with_reducible refine' ex_var (i := 3) (x := "_law_found") ?h ?g ?q); (case h => exact At.b rfl (by first | exact Or.inl rfl | exact Or.inr (Or.inl rfl) | exact Or.inr (Or.inr rfl))); (case g => rfl))
  | ((with_reducible refine' ex_var (i := 4) (x := "_law_turn") ?h ?g ?q); (case h => exact At.b rfl (by first | exact Or.inl rfl | exact Or.inr (Or.inl rfl) | exact Or.inr (Or.inr rfl))); (case g => rfl))
  | ((with_reducible refine' ex_var (i := 5) (x := "_law_longer") ?h ?g ?q); (case h => exact At.b rfl (by first | exact Or.inl rfl | exact Or.inr (Or.inl rfl) | exact Or.inr (Or.inr rfl))); (case g => rfl))
  | ((with_reducible refine' ex_var (i := 6) (x := "_law_some") ?h ?g ?q); (case h => exact At.b rfl (by first | exact Or.inl rfl | exact Or.inr (Or.inl rfl) | exact Or.inr (Or.inr rfl))); (case g => rfl))
  | ((with_reducible refine' ex_var (i := 7) (x := "_law_one") ?h ?g ?q); (case h => exact At.b rfl (by first | exact Or.inl rfl | exact Or.inr (Or.inl rfl) | exact Or.inr (Or.inr rfl))); (case g => rfl)))
local macro_rules | `(tactic| wtm_at "w L_rows") => `(tactic| repeat (first | wtm_at "v L_rows" | wtm_at "e" | wtm_at "ei" | wtm_at "c"))
local macro_rules | `(tactic| wtm_at "wb L_rows") => `(tactic| repeat (first | wtm_at "vb L_rows" | wtm_at "e" | wtm_at "cb"))
local macro_rules | `(tactic| wtm_at "g L_rows") => `(tactic| repeat (first | wtm_at "v L_rows" | wtm_at "e2" | wtm_at "e" | wtm_at "ei" | wtm_at "c"))
local macro_rules | `(tactic| wtm_at "gb L_rows") => `(tactic| repeat (first | wtm_at "vb L_rows" | wtm_at "e2" | wtm_at "e" | wtm_at "cb"))
local macro_rules | `(tactic| wtm_at "h L_rows") => `(tactic| repeat (first | wtm_at "v L_rows" | wtm_at "e2" | wtm_at "e" | wtm_at "c"))
local macro_rules | `(tactic| wtm_at "gx L_rows") => `(tactic| repeat (first | wtm_at "v L_rows" | wtm_at "e2" | wtm_at "e" | wtm_at "ei" | wtm_at "cx"))
local macro_rules | `(tactic| wtm_at "hx L_rows") => `(tactic| repeat (first | wtm_at "v L_rows" | wtm_at "e2" | wtm_at "e" | wtm_at "cx"))
local macro_rules | `(tactic| wtm_at "gy L_rows") => `(tactic| repeat (first | wtm_at "vb L_rows" | wtm_at "e2" | wtm_at "e" | wtm_at "cx"))
local macro_rules | `(tactic| wtm_at "hx1 L_rows") => `(tactic| first | wtm_at "v L_rows" | wtm_at "e2" | wtm_at "e" | wtm_at "cx")
local macro_rules | `(tactic| wtm_at "lc L_rows 0") => `(tactic| refine' ex_lc (own := [("_law_one", 7)]) (t := .inl 7)  rfl sc_L_rows.nd (blkOk_by (N := n_L_rows) (sc := defScope s_L_rows) (by decide +kernel)) (by decide) (fun _ _ _ _ _ => pg_name (i := 7) sc_L_rows.nd rfl (by first | exact Or.inl rfl | exact Or.inr rfl)) (fun _ => rfl) ?_)
local macro_rules | `(tactic| wtm_at "lcM L_rows 0") => `(tactic| refine' ex_lcM (own := [("_law_one", 7)]) (t := .inl 7)  rfl sc_L_rows.nd (blkOk_by (N := n_L_rows) (sc := defScope s_L_rows) (by decide +kernel)) (by decide) (fun _ _ _ _ _ => pg_name (i := 7) sc_L_rows.nd rfl (by first | exact Or.inl rfl | exact Or.inr rfl)) (fun _ => rfl) ?_)
local macro_rules | `(tactic| wtm_at "lcp L_rows 0") => `(tactic| refine' ex_lcp (own := [("_law_one", 7)]) (t := .inl 7) ?f rfl sc_L_rows.nd (blkOk_by (N := n_L_rows) (sc := defScope s_L_rows) (by decide +kernel)) (by decide) (fun _ _ _ _ _ => pg_name (i := 7) sc_L_rows.nd rfl (by first | exact Or.inl rfl | exact Or.inr rfl)) (fun _ => rfl) ?_)
local macro_rules | `(tactic| wtm_at "lcpM L_rows 0") => `(tactic| refine' ex_lcpM (own := [("_law_one", 7)]) (t := .inl 7) ?f rfl sc_L_rows.nd (blkOk_by (N := n_L_rows) (sc := defScope s_L_rows) (by decide +kernel)) (by decide) (fun _ _ _ _ _ => pg_name (i := 7) sc_L_rows.nd rfl (by first | exact Or.inl rfl | exact Or.inr rfl)) (fun _ => rfl) ?_)
local macro_rules | `(tactic| wtm_at "v L_is_sturdy") => `(tactic| first
  | ((with_reducible refine' ex_var (i := 0) (x := "_law_book_here") ?h ?g ?q); (case h => exact At.of rfl rfl a_L_is_sturdy_0); (case g => rfl))
  | ((with_reducible refine' ex_var (i := 1) (x := "_law_delay") ?h ?g ?q); (case h => exact At.of rfl rfl a_L_is_sturdy_1); (case g => rfl))
  | ((with_reducible refine' ex_var (i := 2) (x := "_law_found") ?h ?g ?q); (case h => exact At.of rfl rfl a_L_is_sturdy_2); (case g => rfl))
  | ((with_reducible refine' ex_var (i := 3) (x := "_law_slots_here") ?h ?g ?q); (case h => exact At.of rfl rfl a_L_is_sturdy_3); (case g => rfl))
  | ((with_reducible refine' ex_var (i := 4) (x := "_law_lost") ?h ?g ?q); (case h => exact At.of rfl rfl a_L_is_sturdy_4); (case g => rfl))
  | ((with_reducible refine' ex_var (i := 5) (x := "_law_beat") ?h ?g ?q); (case h => exact At.of rfl rfl a_L_is_sturdy_5); (case g => rfl))
  | ((with_reducible refine' ex_var (i := 6) (x := "_law_sends") ?h ?g ?q); (case h => exact At.of rfl rfl a_L_is_sturdy_6); (case g => rfl))
  | ((with_reducible refine' ex_var (i := 7) (x := "_law_often") ?h ?g ?q); (case h => exact At.of rfl rfl a_L_is_sturdy_7); (case g => rfl))
  | ((with_reducible refine' ex_var (i := 8) (x := "_law_order") ?h ?g ?q); (case h => exact At.of rfl rfl a_L_is_sturdy_8); (case g => rfl))
  | ((with_reducible refine' ex_var (i := 9) (x := "_law_last") ?h ?g ?q); (case h => exact At.of rfl rfl a_L_is_sturdy_9); (case g => rfl))
  | ((with_reducible refine' ex_var (i := 10) (x := "_law_done") ?h ?g ?q); (case h => exact At.of rfl rfl a_L_is_sturdy_10); (case g => rfl))
  | ((with_reducible refine sx_set (i := 0) (x := "_law_book_here") ?h ?s ?q); (case h => exact Lc.of sc_L_is_sturdy.nd rfl rfl (.inl rfl) a_L_is_sturdy_0); (case s => rfl))
  | ((with_reducible refine gx_name (i := 0) (x := "_law_book_here") ?h ?q); (case h => exact Lc.of sc_L_is_sturdy.nd rfl rfl (.inl rfl) a_L_is_sturdy_0))
  | ((with_reducible refine sx_set (i := 1) (x := "_law_delay") ?h ?s ?q); (case h => exact Lc.of sc_L_is_sturdy.nd rfl rfl (.inl rfl) a_L_is_sturdy_1); (case s => rfl))
  | ((with_reducible refine gx_name (i := 1) (x := "_law_delay") ?h ?q); (case h => exact Lc.of sc_L_is_sturdy.nd rfl rfl (.inl rfl) a_L_is_sturdy_1))
  | ((with_reducible refine sx_set (i := 2) (x := "_law_found") ?h ?s ?q); (case h => exact Lc.of sc_L_is_sturdy.nd rfl rfl (.inl rfl) a_L_is_sturdy_2); (case s => rfl))
  | ((with_reducible refine gx_name (i := 2) (x := "_law_found") ?h ?q); (case h => exact Lc.of sc_L_is_sturdy.nd rfl rfl (.inl rfl) a_L_is_sturdy_2))
  | ((with_reducible refine sx_set (i := 3) (x := "_law_slots_here") ?h ?s ?q); (case h => exact Lc.of sc_L_is_sturdy.nd rfl rfl (.inl rfl) a_L_is_sturdy_3); (case s => rfl))
  | ((with_reducible refine gx_name (i := 3) (x := "_law_slots_here") ?h ?q); (case h => exact Lc.of sc_L_is_sturdy.nd rfl rfl (.inl rfl) a_L_is_sturdy_3))
  | ((with_reducible refine sx_set (i := 4) (x := "_law_lost") ?h ?s ?q); (case h => exact Lc.of sc_L_is_sturdy.nd rfl rfl (.inl rfl) a_L_is_sturdy_4); (case s => rfl))
  | ((with_reducible refine gx_name (i := 4) (x := "_law_lost") ?h ?q); (case h => exact Lc.of sc_L_is_sturdy.nd rfl rfl (.inl rfl) a_L_is_sturdy_4))
  | ((with_reducible refine sx_set (i := 5) (x := "_law_beat") ?h ?s ?q); (case h => exact Lc.of sc_L_is_sturdy.nd rfl rfl (.inl rfl) a_L_is_sturdy_5); (case s => rfl))
  | ((with_reducible refine gx_name (i := 5) (x := "_law_beat") ?h ?q); (case h => exact Lc.of sc_L_is_sturdy.nd rfl rfl (.inl rfl) a_L_is_sturdy_5))
  | ((with_reducible refine sx_set (i := 6) (x := "_law_sends") ?h ?s ?q); (case h => exact Lc.of sc_L_is_sturdy.nd rfl rfl (.inl rfl) a_L_is_sturdy_6); (case s => rfl))
  | ((with_reducible refine gx_name (i := 6) (x := "_law_sends") ?h ?q); (case h => exact Lc.of sc_L_is_sturdy.nd rfl rfl (.inl rfl) a_L_is_sturdy_6))
  | ((with_reducible refine sx_set (i := 7) (x := "_law_often") ?h ?s ?q); (case h => exact Lc.of sc_L_is_sturdy.nd rfl rfl (.inl rfl) a_L_is_sturdy_7); (case s => rfl))
  | ((with_reducible refine gx_name (i := 7) (x := "_law_often") ?h ?q); (case h => exact Lc.of sc_L_is_sturdy.nd rfl rfl (.inl rfl) a_L_is_sturdy_7))
  | ((with_reducible refine sx_set (i := 8) (x := "_law_order") ?h ?s ?q); (case h => exact Lc.of sc_L_is_sturdy.nd rfl rfl (.inl rfl) a_L_is_sturdy_8); (case s => rfl))
  | ((with_reducible refine gx_name (i := 8) (x := "_law_order") ?h ?q); (case h => exact Lc.of sc_L_is_sturdy.nd rfl rfl (.inl rfl) a_L_is_sturdy_8))
  | ((with_reducible refine sx_set (i := 9) (x := "_law_last") ?h ?s ?q); (case h => exact Lc.of sc_L_is_sturdy.nd rfl rfl (.inl rfl) a_L_is_sturdy_9); (case s => rfl))
  | ((with_reducible refine gx_name (i := 9) (x := "_law_last") ?h ?q); (case h => exact Lc.of sc_L_is_sturdy.nd rfl rfl (.inl rfl) a_L_is_sturdy_9))
  | ((with_reducible refine sx_set (i := 10) (x := "_law_done") ?h ?s ?q); (case h => exact Lc.of sc_L_is_sturdy.nd rfl rfl (.inl rfl) a_L_is_sturdy_10); (case s => rfl))
  | ((with_reducible refine gx_name (i := 10) (x := "_law_done") ?h ?q); (case h => exact Lc.of sc_L_is_sturdy.nd rfl rfl (.inl rfl) a_L_is_sturdy_10)))
local macro_rules | `(tactic| wtm_at "vb L_is_sturdy") => `(tactic| first
  | ((with_reducible refine' ex_var (i := 0) (x := "_law_book_here") ?h ?g ?q); (case h => exact At.b rfl (by first | exact Or.inl rfl | exact Or.inr (Or.inl rfl) | exact Or.inr (Or.inr rfl))); (case g => rfl))
  | ((with_reducible refine' ex_var (i := 1) (x := "_law_delay") ?h ?g ?q); (case h => exact At.b rfl (by first | exact Or.inl rfl | exact Or.inr (Or.inl rfl) | exact Or.inr (Or.inr rfl))); (case g => rfl))
  | ((with_reducible refine' ex_var (i := 2) (x := "_law_found") ?h ?g ?q); (case h => exact At.b rfl (by first | exact Or.inl rfl | exact Or.inr (Or.inl rfl) | exact Or.inr (Or.inr rfl))); (case g => rfl))
  | ((with_reducible refine' ex_var (i := 3) (x := "_law_slots_here") ?h ?g ?q); (case h => exact At.b rfl (by first | exact Or.inl rfl | exact Or.inr (Or.inl rfl) | exact Or.inr (Or.inr rfl))); (case g => rfl))
  | ((with_reducible refine' ex_var (i := 4) (x := "_law_lost") ?h ?g ?q); (case h => exact At.b rfl (by first | exact Or.inl rfl | exact Or.inr (Or.inl rfl) | exact Or.inr (Or.inr rfl))); (case g => rfl))
  | ((with_reducible refine' ex_var (i := 5) (x := "_law_beat") ?h ?g ?q); (case h => exact At.b rfl (by first | exact Or.inl rfl | exact Or.inr (Or.inl rfl) | exact Or.inr (Or.inr rfl))); (case g => rfl))
  | ((with_reducible refine' ex_var (i := 6) (x := "_law_sends") ?h ?g ?q); (case h => exact At.b rfl (by first | exact Or.inl rfl | exact Or.inr (Or.inl rfl) | exact Or.inr (Or.inr rfl))); (case g => rfl))
  | ((with_reducible refine' ex_var (i := 7) (x := "_law_often") ?h ?g ?q); (case h => exact At.b rfl (by first | exact Or.inl rfl | exact Or.inr (Or.inl rfl) | exact Or.inr (Or.inr rfl))); (case g => rfl))
  | ((with_reducible refine' ex_var (i := 8) (x := "_law_order") ?h ?g ?q); (case h => exact At.b rfl (by first | exact Or.inl rfl | exact Or.inr (Or.inl rfl) | exact Or.inr (Or.inr rfl))); (case g => rfl))
  | ((with_reducible refine' ex_var (i := 9) (x := "_law_last") ?h ?g ?q); (case h => exact At.b rfl (by first | exact Or.inl rfl | exact Or.inr (Or.inl rfl) | exact Or.inr (Or.inr rfl))); (case g => rfl))
  | ((with_reducible refine' ex_var (i := 10) (x := "_law_done") ?h ?g ?q); (case h => exact At.b rfl (by first | exact Or.inl rfl | exact Or.inr (Or.inl rfl) | exact Or.inr (Or.inr rfl))); (case g => rfl))
  | ((with_reducible refine' ex_var (i := 11) (x := "_law_k") ?h ?g ?q); (case h => exact At.b rfl (by first | exact Or.inl rfl | exact Or.inr (Or.inl rfl) | exact Or.inr (Or.inr rfl))); (case g => rfl))
  | ((with_reducible refine' ex_var (i := 12) (x := "_law_one") ?h ?g ?q); (case h => exact At.b rfl (by first | exact Or.inl rfl | exact Or.inr (Or.inl rfl) | exact Or.inr (Or.inr rfl))); (case g => rfl)))
local macro_rules | `(tactic| wtm_at "w L_is_sturdy") => `(tactic| repeat (first | wtm_at "v L_is_sturdy" | wtm_at "e" | wtm_at "ei" | wtm_at "c"))
local macro_rules | `(tactic| wtm_at "wb L_is_sturdy") => `(tactic| repeat (first | wtm_at "vb L_is_sturdy" | wtm_at "e" | wtm_at "cb"))
local macro_rules | `(tactic| wtm_at "g L_is_sturdy") => `(tactic| repeat (first | wtm_at "v L_is_sturdy" | wtm_at "e2" | wtm_at "e" | wtm_at "ei" | wtm_at "c"))
local macro_rules | `(tactic| wtm_at "gb L_is_sturdy") => `(tactic| repeat (first | wtm_at "vb L_is_sturdy" | wtm_at "e2" | wtm_at "e" | wtm_at "cb"))
local macro_rules | `(tactic| wtm_at "h L_is_sturdy") => `(tactic| repeat (first | wtm_at "v L_is_sturdy" | wtm_at "e2" | wtm_at "e" | wtm_at "c"))
local macro_rules | `(tactic| wtm_at "gx L_is_sturdy") => `(tactic| repeat (first | wtm_at "v L_is_sturdy" | wtm_at "e2" | wtm_at "e" | wtm_at "ei" | wtm_at "cx"))
local macro_rules | `(tactic| wtm_at "hx L_is_sturdy") => `(tactic| repeat (first | wtm_at "v L_is_sturdy" | wtm_at "e2" | wtm_at "e" | wtm_at "cx"))
local macro_rules | `(tactic| wtm_at "gy L_is_sturdy") => `(tactic| repeat (first | wtm_at "vb L_is_sturdy" | wtm_at "e2" | wtm_at "e" | wtm_at "cx"))
local macro_rules | `(tactic| wtm_at "hx1 L_is_sturdy") => `(tactic| first | wtm_at "v L_is_sturdy" | wtm_at "e2" | wtm_at "e" | wtm_at "cx")
local macro_rules | `(tactic| wtm_at "lc L_is_sturdy 0") => `(tactic| refine' ex_lc (own := [("_law_k", 11)]) (t := .inl 11)  rfl sc_L_is_sturdy.nd (blkOk_by (N := n_L_is_sturdy) (sc := defScope s_L_is_sturdy) (by decide +kernel)) (by decide) (fun _ _ _ _ _ => pg_name (i := 11) sc_L_is_sturdy.nd rfl (by first | exact Or.inl rfl | exact Or.inr rfl)) (fun _ => rfl) ?_)
local macro_rules | `(tactic| wtm_at "lcM L_is_sturdy 0") => `(tactic| refine' ex_lcM (own := [("_law_k", 11)]) (t := .inl 11)  rfl sc_L_is_sturdy.nd (blkOk_by (N := n_L_is_sturdy) (sc := defScope s_L_is_sturdy) (by decide +kernel)) (by decide) (fun _ _ _ _ _ => pg_name (i := 11) sc_L_is_sturdy.nd rfl (by first | exact Or.inl rfl | exact Or.inr rfl)) (fun _ => rfl) ?_)
local macro_rules | `(tactic| wtm_at "lcp L_is_sturdy 0") => `(tactic| refine' ex_lcp (own := [("_law_k", 11)]) (t := .inl 11) ?f rfl sc_L_is_sturdy.nd (blkOk_by (N := n_L_is_sturdy) (sc := defScope s_L_is_sturdy) (by decide +kernel)) (by decide) (fun _ _ _ _ _ => pg_name (i := 11) sc_L_is_sturdy.nd rfl (by first | exact Or.inl rfl | exact Or.inr rfl)) (fun _ => rfl) ?_)
local macro_rules | `(tactic| wtm_at "lcpM L_is_sturdy 0") => `(tactic| refine' ex_lcpM (own := [("_law_k", 11)]) (t := .inl 11) ?f rfl sc_L_is_sturdy.nd (blkOk_by (N := n_L_is_sturdy) (sc := defScope s_L_is_sturdy) (by decide +kernel)) (by decide) (fun _ _ _ _ _ => pg_name (i := 11) sc_L_is_sturdy.nd rfl (by first | exact Or.inl rfl | exact Or.inr rfl)) (fun _ => rfl) ?_)
local macro_rules | `(tactic| wtm_at "lc L_is_sturdy 1") => `(tactic| refine' ex_lc (own := [("_law_one", 12)]) (t := .inl 12)  rfl sc_L_is_sturdy.nd (blkOk_by (N := n_L_is_sturdy) (sc := defScope s_L_is_sturdy) (by decide +kernel)) (by decide) (fun _ _ _ _ _ => pg_name (i := 12) sc_L_is_sturdy.nd rfl (by first | exact Or.inl rfl | exact Or.inr rfl)) (fun _ => rfl) ?_)
local macro_rules | `(tactic| wtm_at "lcM L_is_sturdy 1") => `(tactic| refine' ex_lcM (own := [("_law_one", 12)]) (t := .inl 12)  rfl sc_L_is_sturdy.nd (blkOk_by (N := n_L_is_sturdy) (sc := defScope s_L_is_sturdy) (by decide +kernel)) (by decide) (fun _ _ _ _ _ => pg_name (i := 12) sc_L_is_sturdy.nd rfl (by first | exact Or.inl rfl | exact Or.inr rfl)) (fun _ => rfl) ?_)
local macro_rules | `(tactic| wtm_at "lcp L_is_sturdy 1") => `(tactic| refine' ex_lcp (own := [("_law_one", 12)]) (t := .inl 12) ?f rfl sc_L_is_sturdy.nd (blkOk_by (N := n_L_is_sturdy) (sc := defScope s_L_is_sturdy) (by decide +kernel)) (by decide) (fun _ _ _ _ _ => pg_name (i := 12) sc_L_is_sturdy.nd rfl (by first | exact Or.inl rfl | exact Or.inr rfl)) (fun _ => rfl) ?_)
local macro_rules | `(tactic| wtm_at "lcpM L_is_sturdy 1") => `(tactic| refine' ex_lcpM (own := [("_law_one", 12)]) (t := .inl 12) ?f rfl sc_L_is_sturdy.nd (blkOk_by (N := n_L_is_sturdy) (sc := defScope s_L_is_sturdy) (by decide +kernel)) (by decide) (fun _ _ _ _ _ => pg_name (i := 12) sc_L_is_sturdy.nd rfl (by first | exact Or.inl rfl | exact Or.inr rfl)) (fun _ => rfl) ?_)
local macro_rules | `(tactic| wtm_at "lc L_is_sturdy 2") => `(tactic| refine' ex_lc (own := [("_law_one", 12)]) (t := .inl 12)  rfl sc_L_is_sturdy.nd (blkOk_by (N := n_L_is_sturdy) (sc := defScope s_L_is_sturdy) (by decide +kernel)) (by decide) (fun _ _ _ _ _ => pg_name (i := 12) sc_L_is_sturdy.nd rfl (by first | exact Or.inl rfl | exact Or.inr rfl)) (fun _ => rfl) ?_)
local macro_rules | `(tactic| wtm_at "lcM L_is_sturdy 2") => `(tactic| refine' ex_lcM (own := [("_law_one", 12)]) (t := .inl 12)  rfl sc_L_is_sturdy.nd (blkOk_by (N := n_L_is_sturdy) (sc := defScope s_L_is_sturdy) (by decide +kernel)) (by decide) (fun _ _ _ _ _ => pg_name (i := 12) sc_L_is_sturdy.nd rfl (by first | exact Or.inl rfl | exact Or.inr rfl)) (fun _ => rfl) ?_)
local macro_rules | `(tactic| wtm_at "lcp L_is_sturdy 2") => `(tactic| refine' ex_lcp (own := [("_law_one", 12)]) (t := .inl 12) ?f rfl sc_L_is_sturdy.nd (blkOk_by (N := n_L_is_sturdy) (sc := defScope s_L_is_sturdy) (by decide +kernel)) (by decide) (fun _ _ _ _ _ => pg_name (i := 12) sc_L_is_sturdy.nd rfl (by first | exact Or.inl rfl | exact Or.inr rfl)) (fun _ => rfl) ?_)
local macro_rules | `(tactic| wtm_at "lcpM L_is_sturdy 2") => `(tactic| refine' ex_lcpM (own := [("_law_one", 12)]) (t := .inl 12) ?f rfl sc_L_is_sturdy.nd (blkOk_by (N := n_L_is_sturdy) (sc := defScope s_L_is_sturdy) (by decide +kernel)) (by decide) (fun _ _ _ _ _ => pg_name (i := 12) sc_L_is_sturdy.nd rfl (by first | exact Or.inl rfl | exact Or.inr rfl)) (fun _ => rfl) ?_)
local macro_rules | `(tactic| wtm_at "lc L_is_sturdy 3") => `(tactic| refine' ex_lc (own := [("_law_k", 11)]) (t := .inl 11)  rfl sc_L_is_sturdy.nd (blkOk_by (N := n_L_is_sturdy) (sc := defScope s_L_is_sturdy) (by decide +kernel)) (by decide) (fun _ _ _ _ _ => pg_name (i := 11) sc_L_is_sturdy.nd rfl (by first | exact Or.inl rfl | exact Or.inr rfl)) (fun _ => rfl) ?_)
local macro_rules | `(tactic| wtm_at "lcM L_is_sturdy 3") => `(tactic| refine' ex_lcM (own := [("_law_k", 11)]) (t := .inl 11)  rfl sc_L_is_sturdy.nd (blkOk_by (N := n_L_is_sturdy) (sc := defScope s_L_is_sturdy) (by decide +kernel)) (by decide) (fun _ _ _ _ _ => pg_name (i := 11) sc_L_is_sturdy.nd rfl (by first | exact Or.inl rfl | exact Or.inr rfl)) (fun _ => rfl) ?_)
local macro_rules | `(tactic| wtm_at "lcp L_is_sturdy 3") => `(tactic| refine' ex_lcp (own := [("_law_k", 11)]) (t := .inl 11) ?f rfl sc_L_is_sturdy.nd (blkOk_by (N := n_L_is_sturdy) (sc := defScope s_L_is_sturdy) (by decide +kernel)) (by decide) (fun _ _ _ _ _ => pg_name (i := 11) sc_L_is_sturdy.nd rfl (by first | exact Or.inl rfl | exact Or.inr rfl)) (fun _ => rfl) ?_)
local macro_rules | `(tactic| wtm_at "lcpM L_is_sturdy 3") => `(tactic| refine' ex_lcpM (own := [("_law_k", 11)]) (t := .inl 11) ?f rfl sc_L_is_sturdy.nd (blkOk_by (N := n_L_is_sturdy) (sc := defScope s_L_is_sturdy) (by decide +kernel)) (by decide) (fun _ _ _ _ _ => pg_name (i := 11) sc_L_is_sturdy.nd rfl (by first | exact Or.inl rfl | exact Or.inr rfl)) (fun _ => rfl) ?_)
local macro_rules | `(tactic| wtm_at "lc L_is_sturdy 4") => `(tactic| refine' ex_lc (own := [("_law_one", 12)]) (t := .inl 12)  rfl sc_L_is_sturdy.nd (blkOk_by (N := n_L_is_sturdy) (sc := defScope s_L_is_sturdy) (by decide +kernel)) (by decide) (fun _ _ _ _ _ => pg_name (i := 12) sc_L_is_sturdy.nd rfl (by first | exact Or.inl rfl | exact Or.inr rfl)) (fun _ => rfl) ?_)
local macro_rules | `(tactic| wtm_at "lcM L_is_sturdy 4") => `(tactic| refine' ex_lcM (own := [("_law_one", 12)]) (t := .inl 12)  rfl sc_L_is_sturdy.nd (blkOk_by (N := n_L_is_sturdy) (sc := defScope s_L_is_sturdy) (by decide +kernel)) (by decide) (fun _ _ _ _ _ => pg_name (i := 12) sc_L_is_sturdy.nd rfl (by first | exact Or.inl rfl | exact Or.inr rfl)) (fun _ => rfl) ?_)
local macro_rules | `(tactic| wtm_at "lcp L_is_sturdy 4") => `(tactic| refine' ex_lcp (own := [("_law_one", 12)]) (t := .inl 12) ?f rfl sc_L_is_sturdy.nd (blkOk_by (N := n_L_is_sturdy) (sc := defScope s_L_is_sturdy) (by decide +kernel)) (by decide) (fun _ _ _ _ _ => pg_name (i := 12) sc_L_is_sturdy.nd rfl (by first | exact Or.inl rfl | exact Or.inr rfl)) (fun _ => rfl) ?_)
local macro_rules | `(tactic| wtm_at "lcpM L_is_sturdy 4") => `(tactic| refine' ex_lcpM (own := [("_law_one", 12)]) (t := .inl 12) ?f rfl sc_L_is_sturdy.nd (blkOk_by (N := n_L_is_sturdy) (sc := defScope s_L_is_sturdy) (by decide +kernel)) (by decide) (fun _ _ _ _ _ => pg_name (i := 12) sc_L_is_sturdy.nd rfl (by first | exact Or.inl rfl | exact Or.inr rfl)) (fun _ => rfl) ?_)
local macro_rules | `(tactic| wtm_at "slc L_is_sturdy 4") => `(tactic| refine' sx_setLc (i := 9) (own := [("_law_one", 12)]) (t := .inl 12)  rfl sc_L_is_sturdy.nd rfl rfl (sw_true rfl rfl rfl (by decide +kernel)) (blkOk_by (N := n_L_is_sturdy) (sc := defScope s_L_is_sturdy) (by decide +kernel)) (by decide) (fun _ _ _ _ _ => pg_name (i := 12) sc_L_is_sturdy.nd rfl (by first | exact Or.inl rfl | exact Or.inr rfl)) (fun _ => rfl) ?_)
local macro_rules | `(tactic| wtm_at "slcM L_is_sturdy 4") => `(tactic| refine' sx_setLcM (i := 9) (own := [("_law_one", 12)]) (t := .inl 12)  rfl sc_L_is_sturdy.nd rfl rfl (sw_true rfl rfl rfl (by decide +kernel)) (blkOk_by (N := n_L_is_sturdy) (sc := defScope s_L_is_sturdy) (by decide +kernel)) (by decide) (fun _ _ _ _ _ => pg_name (i := 12) sc_L_is_sturdy.nd rfl (by first | exact Or.inl rfl | exact Or.inr rfl)) (fun _ => rfl) ?_)
local macro_rules | `(tactic| wtm_at "slcp L_is_sturdy 4") => `(tactic| refine' sx_setLcp (i := 9) (own := [("_law_one", 12)]) (t := .inl 12) ?f rfl sc_L_is_sturdy.nd rfl rfl (sw_true rfl rfl rfl (by decide +kernel)) (blkOk_by (N := n_L_is_sturdy) (sc := defScope s_L_is_sturdy) (by decide +kernel)) (by decide) (fun _ _ _ _ _ => pg_name (i := 12) sc_L_is_sturdy.nd rfl (by first | exact Or.inl rfl | exact Or.inr rfl)) (fun _ => rfl) ?_)
local macro_rules | `(tactic| wtm_at "lc L_is_sturdy 5") => `(tactic| refine' ex_lc (own := [("_law_k", 11)]) (t := .inl 11)  rfl sc_L_is_sturdy.nd (blkOk_by (N := n_L_is_sturdy) (sc := defScope s_L_is_sturdy) (by decide +kernel)) (by decide) (fun _ _ _ _ _ => pg_name (i := 11) sc_L_is_sturdy.nd rfl (by first | exact Or.inl rfl | exact Or.inr rfl)) (fun _ => rfl) ?_)
local macro_rules | `(tactic| wtm_at "lcM L_is_sturdy 5") => `(tactic| refine' ex_lcM (own := [("_law_k", 11)]) (t := .inl 11)  rfl sc_L_is_sturdy.nd (blkOk_by (N := n_L_is_sturdy) (sc := defScope s_L_is_sturdy) (by decide +kernel)) (by decide) (fun _ _ _ _ _ => pg_name (i := 11) sc_L_is_sturdy.nd rfl (by first | exact Or.inl rfl | exact Or.inr rfl)) (fun _ => rfl) ?_)
local macro_rules | `(tactic| wtm_at "lcp L_is_sturdy 5") => `(tactic| refine' ex_lcp (own := [("_law_k", 11)]) (t := .inl 11) ?f rfl sc_L_is_sturdy.nd (blkOk_by (N := n_L_is_sturdy) (sc := defScope s_L_is_sturdy) (by decide +kernel)) (by decide) (fun _ _ _ _ _ => pg_name (i := 11) sc_L_is_sturdy.nd rfl (by first | exact Or.inl rfl | exact Or.inr rfl)) (fun _ => rfl) ?_)
local macro_rules | `(tactic| wtm_at "lcpM L_is_sturdy 5") => `(tactic| refine' ex_lcpM (own := [("_law_k", 11)]) (t := .inl 11) ?f rfl sc_L_is_sturdy.nd (blkOk_by (N := n_L_is_sturdy) (sc := defScope s_L_is_sturdy) (by decide +kernel)) (by decide) (fun _ _ _ _ _ => pg_name (i := 11) sc_L_is_sturdy.nd rfl (by first | exact Or.inl rfl | exact Or.inr rfl)) (fun _ => rfl) ?_)
local macro_rules | `(tactic| wtm_at "v law") => `(tactic| first
  | ((with_reducible refine' ex_var (i := 0) (x := "_law_script") ?h ?g ?q); (case h => exact At.of rfl rfl a_law_0); (case g => rfl))
  | ((with_reducible refine' ex_var (i := 1) (x := "_law_row") ?h ?g ?q); (case h => exact At.of rfl rfl a_law_1); (case g => rfl))
  | ((with_reducible refine' ex_var (i := 2) (x := "_law_book_here") ?h ?g ?q); (case h => exact At.of rfl rfl a_law_2); (case g => rfl))
  | ((with_reducible refine' ex_var (i := 3) (x := "_law_lost") ?h ?g ?q); (case h => exact At.of rfl rfl a_law_3); (case g => rfl))
  | ((with_reducible refine' ex_var (i := 4) (x := "_law_many") ?h ?g ?q); (case h => exact At.of rfl rfl a_law_4); (case g => rfl))
  | ((with_reducible refine' ex_var (i := 5) (x := "_law_slots_here") ?h ?g ?q); (case h => exact At.of rfl rfl a_law_5); (case g => rfl))
  | ((with_reducible refine' ex_var (i := 6) (x := "_law_best") ?h ?g ?q); (case h => exact At.of rfl rfl a_law_6); (case g => rfl))
  | ((with_reducible refine' ex_var (i := 7) (x := "_law_order") ?h ?g ?q); (case h => exact At.of rfl rfl a_law_7); (case g => rfl))
  | ((with_reducible refine' ex_var (i := 8) (x := "_law_last") ?h ?g ?q); (case h => exact At.of rfl rfl a_law_8); (case g => rfl))
  | ((with_reducible refine' ex_var (i := 9) (x := "_law_done") ?h ?g ?q); (case h => exact At.of rfl rfl a_law_9); (case g => rfl))
  | ((with_reducible refine' ex_var (i := 10) (x := "_law_again") ?h ?g ?q); (case h => exact At.of rfl rfl a_law_10); (case g => rfl))
  | ((with_reducible refine' ex_var (i := 11) (x := "_law_found") ?h ?g ?q); (case h => exact At.of rfl rfl a_law_11); (case g => rfl))
  | ((with_reducible refine' ex_var (i := 12) (x := "_law_more") ?h ?g ?q); (case h => exact At.of rfl rfl a_law_12); (case g => rfl))
  | ((with_reducible refine' ex_var (i := 13) (x := "_law_bad") ?h ?g ?q); (case h => exact At.of rfl rfl a_law_13); (case g => rfl))
  | ((with_reducible refine' ex_var (i := 14) (x := "_law_delay") ?h ?g ?q); (case h => exact At.of rfl rfl a_law_14); (case g => rfl))
  | ((with_reducible refine' ex_var (i := 15) (x := "_law_eight") ?h ?g ?q); (case h => exact At.of rfl rfl a_law_15); (case g => rfl))
  | ((with_reducible refine' ex_var (i := 16) (x := "_law_windows_here") ?h ?g ?q); (case h => exact At.of rfl rfl a_law_16); (case g => rfl))
  | ((with_reducible refine sx_set (i := 0) (x := "_law_script") ?h ?s ?q); (case h => exact Lc.of sc_law.nd rfl rfl (.inl rfl) a_law_0); (case s => rfl))
  | ((with_reducible refine gx_name (i := 0) (x := "_law_script") ?h ?q); (case h => exact Lc.of sc_law.nd rfl rfl (.inl rfl) a_law_0))
  | ((with_reducible refine sx_set (i := 1) (x := "_law_row") ?h ?s ?q); (case h => exact Lc.of sc_law.nd rfl rfl (.inl rfl) a_law_1); (case s => rfl))
  | ((with_reducible refine gx_name (i := 1) (x := "_law_row") ?h ?q); (case h => exact Lc.of sc_law.nd rfl rfl (.inl rfl) a_law_1))
  | ((with_reducible refine sx_set (i := 2) (x := "_law_book_here") ?h ?s ?q); (case h => exact Lc.of sc_law.nd rfl rfl (.inl rfl) a_law_2); (case s => rfl))
  | ((with_reducible refine gx_name (i := 2) (x := "_law_book_here") ?h ?q); (case h => exact Lc.of sc_law.nd rfl rfl (.inl rfl) a_law_2))
  | ((with_reducible refine sx_set (i := 3) (x := "_law_lost") ?h ?s ?q); (case h => exact Lc.of sc_law.nd rfl rfl (.inl rfl) a_law_3); (case s => rfl))
  | ((with_reducible refine gx_name (i := 3) (x := "_law_lost") ?h ?q); (case h => exact Lc.of sc_law.nd rfl rfl (.inl rfl) a_law_3))
  | ((with_reducible refine sx_set (i := 4) (x := "_law_many") ?h ?s ?q); (case h => exact Lc.of sc_law.nd rfl rfl (.inl rfl) a_law_4); (case s => rfl))
  | ((with_reducible refine gx_name (i := 4) (x := "_law_many") ?h ?q); (case h => exact Lc.of sc_law.nd rfl rfl (.inl rfl) a_law_4))
  | ((with_reducible refine sx_set (i := 5) (x := "_law_slots_here") ?h ?s ?q); (case h => exact Lc.of sc_law.nd rfl rfl (.inl rfl) a_law_5); (case s => rfl))
  | ((with_reducible refine gx_name (i := 5) (x := "_law_slots_here") ?h ?q); (case h => exact Lc.of sc_law.nd rfl rfl (.inl rfl) a_law_5))
  | ((with_reducible refine sx_set (i := 6) (x := "_law_best") ?h ?s ?q); (case h => exact Lc.of sc_law.nd rfl rfl (.inl rfl) a_law_6); (case s => rfl))
  | ((with_reducible refine gx_name (i := 6) (x := "_law_best") ?h ?q); (case h => exact Lc.of sc_law.nd rfl rfl (.inl rfl) a_law_6))
  | ((with_reducible refine sx_set (i := 7) (x := "_law_order") ?h ?s ?q); (case h => exact Lc.of sc_law.nd rfl rfl (.inl rfl) a_law_7); (case s => rfl))
  | ((with_reducible refine gx_name (i := 7) (x := "_law_order") ?h ?q); (case h => exact Lc.of sc_law.nd rfl rfl (.inl rfl) a_law_7))
  | ((with_reducible refine sx_set (i := 8) (x := "_law_last") ?h ?s ?q); (case h => exact Lc.of sc_law.nd rfl rfl (.inl rfl) a_law_8); (case s => rfl))
  | ((with_reducible refine gx_name (i := 8) (x := "_law_last") ?h ?q); (case h => exact Lc.of sc_law.nd rfl rfl (.inl rfl) a_law_8))
  | ((with_reducible refine sx_set (i := 9) (x := "_law_done") ?h ?s ?q); (case h => exact Lc.of sc_law.nd rfl rfl (.inl rfl) a_law_9); (case s => rfl))
  | ((with_reducible refine gx_name (i := 9) (x := "_law_done") ?h ?q); (case h => exact Lc.of sc_law.nd rfl rfl (.inl rfl) a_law_9))
  | ((with_reducible refine sx_set (i := 10) (x := "_law_again") ?h ?s ?q); (case h => exact Lc.of sc_law.nd rfl rfl (.inl rfl) a_law_10); (case s => rfl))
  | ((with_reducible refine gx_name (i := 10) (x := "_law_again") ?h ?q); (case h => exact Lc.of sc_law.nd rfl rfl (.inl rfl) a_law_10))
  | ((with_reducible refine sx_set (i := 11) (x := "_law_found") ?h ?s ?q); (case h => exact Lc.of sc_law.nd rfl rfl (.inl rfl) a_law_11); (case s => rfl))
  | ((with_reducible refine gx_name (i := 11) (x := "_law_found") ?h ?q); (case h => exact Lc.of sc_law.nd rfl rfl (.inl rfl) a_law_11))
  | ((with_reducible refine sx_set (i := 12) (x := "_law_more") ?h ?s ?q); (case h => exact Lc.of sc_law.nd rfl rfl (.inl rfl) a_law_12); (case s => rfl))
  | ((with_reducible refine gx_name (i := 12) (x := "_law_more") ?h ?q); (case h => exact Lc.of sc_law.nd rfl rfl (.inl rfl) a_law_12))
  | ((with_reducible refine sx_set (i := 13) (x := "_law_bad") ?h ?s ?q); (case h => exact Lc.of sc_law.nd rfl rfl (.inl rfl) a_law_13); (case s => rfl))
  | ((with_reducible refine gx_name (i := 13) (x := "_law_bad") ?h ?q); (case h => exact Lc.of sc_law.nd rfl rfl (.inl rfl) a_law_13))
  | ((with_reducible refine sx_set (i := 14) (x := "_law_delay") ?h ?s ?q); (case h => exact Lc.of sc_law.nd rfl rfl (.inl rfl) a_law_14); (case s => rfl))
  | ((with_reducible refine gx_name (i := 14) (x := "_law_delay") ?h ?q); (case h => exact Lc.of sc_law.nd rfl rfl (.inl rfl) a_law_14))
  | ((with_reducible refine sx_set (i := 15) (x := "_law_eight") ?h ?s ?q); (case h => exact Lc.of sc_law.nd rfl rfl (.inl rfl) a_law_15); (case s => rfl))
  | ((with_reducible refine gx_name (i := 15) (x := "_law_eight") ?h ?q); (case h => exact Lc.of sc_law.nd rfl rfl (.inl rfl) a_law_15))
  | ((with_reducible refine sx_set (i := 16) (x := "_law_windows_here") ?h ?s ?q); (case h => exact Lc.of sc_law.nd rfl rfl (.inl rfl) a_law_16); (case s => rfl))
  | ((with_reducible refine gx_name (i := 16) (x := "_law_windows_here") ?h ?q); (case h => exact Lc.of sc_law.nd rfl rfl (.inl rfl) a_law_16)))
local macro_rules | `(tactic| wtm_at "vb law") => `(tactic| first
  | ((with_reducible refine' ex_var (i := 0) (x := "_law_script") ?h ?g ?q); (case h => exact At.b rfl (by first | exact Or.inl rfl | exact Or.inr (Or.inl rfl) | exact Or.inr (Or.inr rfl))); (case g => rfl))
  | ((with_reducible refine' ex_var (i := 1) (x := "_law_row") ?h ?g ?q); (case h => exact At.b rfl (by first | exact Or.inl rfl | exact Or.inr (Or.inl rfl) | exact Or.inr (Or.inr rfl))); (case g => rfl))
  | ((with_reducible refine' ex_var (i := 2) (x := "_law_book_here") ?h ?g ?q); (case h => exact At.b rfl (by first | exact Or.inl rfl | exact Or.inr (Or.inl rfl) | exact Or.inr (Or.inr rfl))); (case g => rfl))
  | ((with_reducible refine' ex_var (i := 3) (x := "_law_lost") ?h ?g ?q); (case h => exact At.b rfl (by first | exact Or.inl rfl | exact Or.inr (Or.inl rfl) | exact Or.inr (Or.inr rfl))); (case g => rfl))
  | ((with_reducible refine' ex_var (i := 4) (x := "_law_many") ?h ?g ?q); (case h => exact At.b rfl (by first | exact Or.inl rfl | exact Or.inr (Or.inl rfl) | exact Or.inr (Or.inr rfl))); (case g => rfl))
  | ((with_reducible refine' ex_var (i := 5) (x := "_law_slots_here") ?h ?g ?q); (case h => exact At.b rfl (by first | exact Or.inl rfl | exact Or.inr (Or.inl rfl) | exact Or.inr (Or.inr rfl))); (case g => rfl))
  | ((with_reducible refine' ex_var (i := 6) (x := "_law_best") ?h ?g ?q); (case h => exact At.b rfl (by first | exact Or.inl rfl | exact Or.inr (Or.inl rfl) | exact Or.inr (Or.inr rfl))); (case g => rfl))
  | ((with_reducible refine' ex_var (i := 7) (x := "_law_order") ?h ?g ?q); (case h => exact At.b rfl (by first | exact Or.inl rfl | exact Or.inr (Or.inl rfl) | exact Or.inr (Or.inr rfl))); (case g => rfl))
  | ((with_reducible refine' ex_var (i := 8) (x := "_law_last") ?h ?g ?q); (case h => exact At.b rfl (by first | exact Or.inl rfl | exact Or.inr (Or.inl rfl) | exact Or.inr (Or.inr rfl))); (case g => rfl))
  | ((with_reducible refine' ex_var (i := 9) (x := "_law_done") ?h ?g ?q); (case h => exact At.b rfl (by first | exact Or.inl rfl | exact Or.inr (Or.inl rfl) | exact Or.inr (Or.inr rfl))); (case g => rfl))
  | ((with_reducible refine' ex_var (i := 10) (x := "_law_again") ?h ?g ?q); (case h => exact At.b rfl (by first | exact Or.inl rfl | exact Or.inr (Or.inl rfl) | exact Or.inr (Or.inr rfl))); (case g => rfl))
  | ((with_reducible refine' ex_var (i := 11) (x := "_law_found") ?h ?g ?q); (case h => exact At.b rfl (by first | exact Or.inl rfl | exact Or.inr (Or.inl rfl) | exact Or.inr (Or.inr rfl))); (case g => rfl))
  | ((with_reducible refine' ex_var (i := 12) (x := "_law_more") ?h ?g ?q); (case h => exact At.b rfl (by first | exact Or.inl rfl | exact Or.inr (Or.inl rfl) | exact Or.inr (Or.inr rfl))); (case g => rfl))
  | ((with_reducible refine' ex_var (i := 13) (x := "_law_bad") ?h ?g ?q); (case h => exact At.b rfl (by first | exact Or.inl rfl | exact Or.inr (Or.inl rfl) | exact Or.inr (Or.inr rfl))); (case g => rfl))
  | ((with_reducible refine' ex_var (i := 14) (x := "_law_delay") ?h ?g ?q); (case h => exact At.b rfl (by first | exact Or.inl rfl | exact Or.inr (Or.inl rfl) | exact Or.inr (Or.inr rfl))); (case g => rfl))
  | ((with_reducible refine' ex_var (i := 15) (x := "_law_eight") ?h ?g ?q); (case h => exact At.b rfl (by first | exact Or.inl rfl | exact Or.inr (Or.inl rfl) | exact Or.inr (Or.inr rfl))); (case g => rfl))
  | ((with_reducible refine' ex_var (i := 16) (x := "_law_windows_here") ?h ?g ?q); (case h => exact At.b rfl (by first | exact Or.inl rfl | exact Or.inr (Or.inl rfl) | exact Or.inr (Or.inr rfl))); (case g => rfl))
  | ((with_reducible refine' ex_var (i := 17) (x := "_law_one") ?h ?g ?q); (case h => exact At.b rfl (by first | exact Or.inl rfl | exact Or.inr (Or.inl rfl) | exact Or.inr (Or.inr rfl))); (case g => rfl))
  | ((with_reducible refine' ex_var (i := 18) (x := "_law_k") ?h ?g ?q); (case h => exact At.b rfl (by first | exact Or.inl rfl | exact Or.inr (Or.inl rfl) | exact Or.inr (Or.inr rfl))); (case g => rfl)))
local macro_rules | `(tactic| wtm_at "w law") => `(tactic| repeat (first | wtm_at "v law" | wtm_at "e" | wtm_at "ei" | wtm_at "c"))
local macro_rules | `(tactic| wtm_at "wb law") => `(tactic| repeat (first | wtm_at "vb law" | wtm_at "e" | wtm_at "cb"))
local macro_rules | `(tactic| wtm_at "g law") => `(tactic| repeat (first | wtm_at "v law" | wtm_at "e2" | wtm_at "e" | wtm_at "ei" | wtm_at "c"))
local macro_rules | `(tactic| wtm_at "gb law") => `(tactic| repeat (first | wtm_at "vb law" | wtm_at "e2" | wtm_at "e" | wtm_at "cb"))
local macro_rules | `(tactic| wtm_at "h law") => `(tactic| repeat (first | wtm_at "v law" | wtm_at "e2" | wtm_at "e" | wtm_at "c"))
local macro_rules | `(tactic| wtm_at "gx law") => `(tactic| repeat (first | wtm_at "v law" | wtm_at "e2" | wtm_at "e" | wtm_at "ei" | wtm_at "cx"))
local macro_rules | `(tactic| wtm_at "hx law") => `(tactic| repeat (first | wtm_at "v law" | wtm_at "e2" | wtm_at "e" | wtm_at "cx"))
local macro_rules | `(tactic| wtm_at "gy law") => `(tactic| repeat (first | wtm_at "vb law" | wtm_at "e2" | wtm_at "e" | wtm_at "cx"))
local macro_rules | `(tactic| wtm_at "hx1 law") => `(tactic| first | wtm_at "v law" | wtm_at "e2" | wtm_at "e" | wtm_at "cx")
local macro_rules | `(tactic| wtm_at "lc law 0") => `(tactic| refine' ex_lc (own := [("_law_one", 17)]) (t := .inl 17)  rfl sc_law.nd (blkOk_by (N := n_law) (sc := defScope s_law) (by decide +kernel)) (by decide) (fun _ _ _ _ _ => pg_name (i := 17) sc_law.nd rfl (by first | exact Or.inl rfl | exact Or.inr rfl)) (fun _ => rfl) ?_)
local macro_rules | `(tactic| wtm_at "lcM law 0") => `(tactic| refine' ex_lcM (own := [("_law_one", 17)]) (t := .inl 17)  rfl sc_law.nd (blkOk_by (N := n_law) (sc := defScope s_law) (by decide +kernel)) (by decide) (fun _ _ _ _ _ => pg_name (i := 17) sc_law.nd rfl (by first | exact Or.inl rfl | exact Or.inr rfl)) (fun _ => rfl) ?_)
local macro_rules | `(tactic| wtm_at "lcp law 0") => `(tactic| refine' ex_lcp (own := [("_law_one", 17)]) (t := .inl 17) ?f rfl sc_law.nd (blkOk_by (N := n_law) (sc := defScope s_law) (by decide +kernel)) (by decide) (fun _ _ _ _ _ => pg_name (i := 17) sc_law.nd rfl (by first | exact Or.inl rfl | exact Or.inr rfl)) (fun _ => rfl) ?_)
local macro_rules | `(tactic| wtm_at "lcpM law 0") => `(tactic| refine' ex_lcpM (own := [("_law_one", 17)]) (t := .inl 17) ?f rfl sc_law.nd (blkOk_by (N := n_law) (sc := defScope s_law) (by decide +kernel)) (by decide) (fun _ _ _ _ _ => pg_name (i := 17) sc_law.nd rfl (by first | exact Or.inl rfl | exact Or.inr rfl)) (fun _ => rfl) ?_)
local macro_rules | `(tactic| wtm_at "slc law 0") => `(tactic| refine' sx_setLc (i := 8) (own := [("_law_one", 17)]) (t := .inl 17)  rfl sc_law.nd rfl rfl (sw_true rfl rfl rfl (by decide +kernel)) (blkOk_by (N := n_law) (sc := defScope s_law) (by decide +kernel)) (by decide) (fun _ _ _ _ _ => pg_name (i := 17) sc_law.nd rfl (by first | exact Or.inl rfl | exact Or.inr rfl)) (fun _ => rfl) ?_)
local macro_rules | `(tactic| wtm_at "slcM law 0") => `(tactic| refine' sx_setLcM (i := 8) (own := [("_law_one", 17)]) (t := .inl 17)  rfl sc_law.nd rfl rfl (sw_true rfl rfl rfl (by decide +kernel)) (blkOk_by (N := n_law) (sc := defScope s_law) (by decide +kernel)) (by decide) (fun _ _ _ _ _ => pg_name (i := 17) sc_law.nd rfl (by first | exact Or.inl rfl | exact Or.inr rfl)) (fun _ => rfl) ?_)
local macro_rules | `(tactic| wtm_at "slcp law 0") => `(tactic| refine' sx_setLcp (i := 8) (own := [("_law_one", 17)]) (t := .inl 17) ?f rfl sc_law.nd rfl rfl (sw_true rfl rfl rfl (by decide +kernel)) (blkOk_by (N := n_law) (sc := defScope s_law) (by decide +kernel)) (by decide) (fun _ _ _ _ _ => pg_name (i := 17) sc_law.nd rfl (by first | exact Or.inl rfl | exact Or.inr rfl)) (fun _ => rfl) ?_)
local macro_rules | `(tactic| wtm_at "lc law 1") => `(tactic| refine' ex_lc (own := [("_law_k", 18)]) (t := .inl 18)  rfl sc_law.nd (blkOk_by (N := n_law) (sc := defScope s_law) (by decide +kernel)) (by decide) (fun _ _ _ _ _ => pg_name (i := 18) sc_law.nd rfl (by first | exact Or.inl rfl | exact Or.inr rfl)) (fun _ => rfl) ?_)
local macro_rules | `(tactic| wtm_at "lcM law 1") => `(tactic| refine' ex_lcM (own := [("_law_k", 18)]) (t := .inl 18)  rfl sc_law.nd (blkOk_by (N := n_law) (sc := defScope s_law) (by decide +kernel)) (by decide) (fun _ _ _ _ _ => pg_name (i := 18) sc_law.nd rfl (by first | exact Or.inl rfl | exact Or.inr rfl)) (fun _ => rfl) ?_)
local macro_rules | `(tactic| wtm_at "lcp law 1") => `(tactic| refine' ex_lcp (own := [("_law_k", 18)]) (t := .inl 18) ?f rfl sc_law.nd (blkOk_by (N := n_law) (sc := defScope s_law) (by decide +kernel)) (by decide) (fun _ _ _ _ _ => pg_name (i := 18) sc_law.nd rfl (by first | exact Or.inl rfl | exact Or.inr rfl)) (fun _ => rfl) ?_)
local macro_rules | `(tactic| wtm_at "lcpM law 1") => `(tactic| refine' ex_lcpM (own := [("_law_k", 18)]) (t := .inl 18) ?f rfl sc_law.nd (blkOk_by (N := n_law) (sc := defScope s_law) (by decide +kernel)) (by decide) (fun _ _ _ _ _ => pg_name (i := 18) sc_law.nd rfl (by first | exact Or.inl rfl | exact Or.inr rfl)) (fun _ => rfl) ?_)
local macro_rules | `(tactic| wtm_at "lc law 2") => `(tactic| refine' ex_lc (own := [("_law_k", 18)]) (t := .inl 18)  rfl sc_law.nd (blkOk_by (N := n_law) (sc := defScope s_law) (by decide +kernel)) (by decide) (fun _ _ _ _ _ => pg_name (i := 18) sc_law.nd rfl (by first | exact Or.inl rfl | exact Or.inr rfl)) (fun _ => rfl) ?_)
local macro_rules | `(tactic| wtm_at "lcM law 2") => `(tactic| refine' ex_lcM (own := [("_law_k", 18)]) (t := .inl 18)  rfl sc_law.nd (blkOk_by (N := n_law) (sc := defScope s_law) (by decide +kernel)) (by decide) (fun _ _ _ _ _ => pg_name (i := 18) sc_law.nd rfl (by first | exact Or.inl rfl | exact Or.inr rfl)) (fun _ => rfl) ?_)
local macro_rules | `(tactic| wtm_at "lcp law 2") => `(tactic| refine' ex_lcp (own := [("_law_k", 18)]) (t := .inl 18) ?f rfl sc_law.nd (blkOk_by (N := n_law) (sc := defScope s_law) (by decide +kernel)) (by decide) (fun _ _ _ _ _ => pg_name (i := 18) sc_law.nd rfl (by first | exact Or.inl rfl | exact Or.inr rfl)) (fun _ => rfl) ?_)
local macro_rules | `(tactic| wtm_at "lcpM law 2") => `(tactic| refine' ex_lcpM (own := [("_law_k", 18)]) (t := .inl 18) ?f rfl sc_law.nd (blkOk_by (N := n_law) (sc := defScope s_law) (by decide +kernel)) (by decide) (fun _ _ _ _ _ => pg_name (i := 18) sc_law.nd rfl (by first | exact Or.inl rfl | exact Or.inr rfl)) (fun _ => rfl) ?_)
/-! ### numbers -/
def isNum : D → Int → Int → Bool
  | .int i, lo, hi => decide (lo ≤ i) && decide (i ≤ hi)
  | _, _, _ => false
def spIsNumber : DSp := fun ds M Q => ∃ d lo hi, ds = [d, .int lo, .int hi] ∧ d.tyd = true ∧ Q (.bl (isNum d lo hi)) M
section
variable {P : Program} {w : World} {K : PySem.W.Frag} {mg : Str → Option Value} {base : Heap}
theorem ok_is_number {f : Addr} {fd : FuncData} (Fn : Fun K "is_number" "is_number" s_is_number f fd) (zi : mg "isinstance" = none) (zn : mg "int" = none) (zb : mg "bool" = none) : FnOk P w K mg base CX0 1 f fd ["part", "low", "high"] (lift K spIsNumber) := by
  refine fun_ok Fn sc_is_number (fun ds M Q ⟨_, _, _, e, _⟩ => by rw [e]; rfl) fun cdv A outer s H E hr ds M Q h B => ?_
  obtain ⟨d, lo, hi, rfl, hd, k⟩ := h
  have b1 : Blt (X_is_number P w K mg base f cdv A outer s H E) "isinstance" (.builtin "isinstance") := ⟨rfl, zi, bb_isinstance, by decide, by decide⟩
  have b2 : Blt (X_is_number P w K mg base f cdv A outer s H E) "int" (.type "int") := ⟨rfl, zn, bb_int, by decide, by decide⟩
  have b3 : Blt (X_is_number P w K mg base f cdv A outer s H E) "bool" (.type "bool") := ⟨rfl, zb, bb_bool, by decide, by decide⟩
  wtm_at "b"
  cases d with
  | int i =>
    wtm_at "w is_number"
    refine ite_dec (fun h1 => ?_) (fun h1 => ?_)
    · wtm_at "w is_number"
      simpa [isNum, h1] using k
    · simpa [isNum, h1] using k
  | ref _ => cases hd
  | fzl _ => cases hd
  | ty n => cases hd
  | _ =>
    wtm_at "w is_number"
    exact k
end
/-! ### commands, books -/
structure Cmd where
  when : Int
  til : Int
  wants : List Nat
def encN (n : Nat) : D := .int (n : Int)
def Cmd.enc (c : Cmd) : D := .tup [.int c.when, .int c.til, .tup (c.wants.map encN)]
def encB (b : List Cmd) : D := .tup (b.map Cmd.enc)
structure CmdOk (c : Cmd) (i : Nat) : Prop where
  w0 : 0 ≤ c.when
  w1 : c.when ≤ c.til
  w2 : c.til ≤ 200
  lt : ∀ n ∈ c.wants, n < i
  up : c.wants.Pairwise (· < ·)
structure BookOk (b : List Cmd) : Prop where
  ne : b ≠ []
  le : b.length ≤ 8
  ok : ∀ i c, b[i]? = some c → CmdOk c i
theorem num_ok {i lo hi : Int} {M : Mem} {Q : D → Mem → Prop} (h0 : lo ≤ i) (h1 : i ≤ hi) (q : Q (.bl true) M) : spIsNumber [.int i, .int lo, .int hi] M Q := by
  refine ⟨_, _, _, rfl, rfl, ?_⟩
  have e : isNum (.int i) lo hi = true := by simp [isNum, h0, h1]
  rw [e]; exact q
theorem up_len_aux {i : Nat} : ∀ (l : List Nat) (k : Nat), l.Pairwise (· < ·) → (∀ n ∈ l, k ≤ n ∧ n < i) → l.length + k ≤ max i k := by
  intro l
  induction l with
  | nil => intro k _ _; simp; omega
  | cons x l ih =>
    intro k hp h
    rw [List.pairwise_cons] at hp
    have h1 := h x (by simp)
    have h2 := ih (k + 1) hp.2 fun n hn => ⟨by have := hp.1 n hn; omega, (h n (List.mem_cons_of_mem _ hn)).2⟩
    simp only [List.length_cons]
    omega
theorem up_len {i : Nat} {l : List Nat} (hp : l.Pairwise (· < ·)) (h : ∀ n ∈ l, n < i) : l.length ≤ i := by
  have := up_len_aux l 0 hp fun n hn => ⟨Nat.zero_le _, h n hn⟩
  omega
theorem enc_okE (c : Cmd) : c.enc.okE = true ∧ c.enc.dep ≤ 2 := by
  have h1 : okEs (c.wants.map encN) = true := okEs_all.mpr fun d hd => by
    obtain ⟨n, _, rfl⟩ := List.mem_map.mp hd
    rfl
  have h2 : deps (c.wants.map encN) ≤ 0 := deps_le.mpr fun d hd => by
    obtain ⟨n, _, rfl⟩ := List.mem_map.mp hd
    exact Nat.le_refl 0
  unfold Cmd.enc
  constructor
  · simp [D.okE, okEs, h1]
  · simp [D.dep, deps]
    omega
theorem encB_okE (b : List Cmd) : (encB b).okE = true ∧ (encB b).dep ≤ 3 := by
  unfold encB
  constructor
  · unfold D.okE
    exact okEs_all.mpr fun d hd => by
      obtain ⟨c, _, rfl⟩ := List.mem_map.mp hd
      exact (enc_okE c).1
  · exact dep_tup.mpr ⟨by decide, fun d hd => by
      obtain ⟨c, _, rfl⟩ := List.mem_map.mp hd
      exact (enc_okE c).2⟩
def spIsCommand : DSp := fun ds M Q => ∃ (c : Cmd) (i : Nat), ds = [c.enc, .int i] ∧ CmdOk c i ∧ i ≤ 8 ∧ Q (.bl true) M
def spNeedBook : DSp := fun ds M Q => ∃ b : List Cmd, ds = [encB b] ∧ BookOk b ∧ Q .non M
def spNeedDelay : DSp := fun ds M Q => ∃ n : Int, ds = [.int n] ∧ 1 ≤ n ∧ n ≤ 9 ∧ Q .non M
section
variable {P : Program} {w : World} {K : PySem.W.Frag} {mg : Str → Option Value} {base : Heap}
theorem ok_is_command {f : Addr} {fd : FuncData} (Fn : Fun K "is_command" "is_command" s_is_command f fd) (zi : mg "isinstance" = none) (zt : mg "tuple" = none) (zl : mg "len" = none) (zr : mg "range" = none) (gM : Cst K mg "MOST_BEAT" (.int 200)) (dN : Dfn P w K mg base 1 "is_number" spIsNumber) :
    FnOk P w K mg base CX0 2 f fd ["part", "number"] (lift K spIsCommand) := by
  refine fun_ok Fn sc_is_command (fun ds M Q ⟨_, _, e, _⟩ => by rw [e]; rfl) fun cdv A outer s H E hr ds M Q h B => ?_
  obtain ⟨c, i, rfl, ok, hi, k⟩ := h
  have hlen := up_len ok.up ok.lt
  unfold Cmd.enc
  wtm_at "b"
  wtm_at "g is_command"
  refine num_ok ok.w0 (Int.le_trans ok.w1 ok.w2) ?_
  wtm_at "g is_command"
  refine num_ok ok.w1 ok.w2 ?_
  wtm_at "g is_command"
  wtm_at "lcp is_command 0"
  case f => exact fun _ => none
  refine lx_tup ?_
  wtm_at "g is_command"
  refine ⟨_, rfl, ⟨?_, fun d M' hd hm => ?_⟩, ?_⟩
  · rw [List.length_map]
    exact Nat.lt_of_le_of_lt (by omega : _ ≤ 8) (by decide)
  · obtain ⟨n, hn, rfl⟩ := List.mem_map.mp hd
    have hlt := ok.lt n hn
    refine fun s1 H1 C1 cl1 fp1 => txs_one ?_
    wtm_at "gb is_command"
    refine num_ok (by omega) (by omega) ⟨rfl, rfl⟩
  rw [filterMap_none]
  wtm_at "g is_command"
  refine ox_ne0 (n := 0) hr.units (by simp) (by decide) ?_
  wtm_at "g is_command"
  wtm_at "lcp is_command 1"
  case f => exact fun _ => none
  refine lx_range2 rfl zr rfl rfl ?_
  wtm_at "g is_command"
  refine ⟨_, _, rfl, rfl, by rw [List.length_map]; omega, ⟨?_, fun d M' hd hm => ?_⟩, ?_⟩
  · rw [rangeD_len, List.length_map]
    exact Nat.lt_of_le_of_lt (by omega : _ ≤ 8) (by decide)
  · obtain ⟨j, hj⟩ := List.mem_iff_getElem?.mp hd
    obtain ⟨hlt, rfl⟩ := rangeD_at hj
    rw [List.length_map] at hlt
    have h1 : j + 1 < c.wants.length := by omega
    have h0 : j < c.wants.length := by omega
    have e1 : (c.wants.map encN)[j + 1]? = some (encN c.wants[j + 1]) := by rw [List.getElem?_map, List.getElem?_eq_getElem h1]; rfl
    have e0 : (c.wants.map encN)[j]? = some (encN c.wants[j]) := by rw [List.getElem?_map, List.getElem?_eq_getElem h0]; rfl
    have up := List.pairwise_iff_getElem.mp ok.up j (j + 1) h0 h1 (by omega)
    refine fun s1 H1 C1 cl1 fp1 => txs_one ?_
    wtm_at "wb is_command"
    refine ix_t (atI_of (j := j + 1) (by omega) e1) ?_
    wtm_at "wb is_command"
    refine ix_t (atI_of (j := j) (by omega) e0) ?_
    unfold encN
    wtm_at "wb is_command"
    refine iteF' (decide_eq_false (by omega)) ⟨rfl, rfl⟩
  · rw [filterMap_none]
    wtm_at "g is_command"
    exact ox_eq0 (n := 0) hr.units (by simp) (by decide) k
theorem ok_need_book {f : Addr} {fd : FuncData} (Fn : Fun K "need_book" "need_book" s_need_book f fd) (zi : mg "isinstance" = none) (zt : mg "tuple" = none) (ze : mg "enumerate" = none) (gM : Cst K mg "MOST_COMMANDS" (.int 8)) (dN : Dfn P w K mg base 2 "is_command" spIsCommand) :
    FnOk P w K mg base CX0 3 f fd ["book"] (lift K spNeedBook) := by
  refine fun_ok Fn sc_need_book (fun ds M Q ⟨_, e, _⟩ => by rw [e]; rfl) fun cdv A outer s H E hr ds M Q h B => ?_
  obtain ⟨b, rfl, ok, k⟩ := h
  unfold encB
  wtm_at "b"
  wtm_at "g need_book"
  refine ox_eqD hr.units (okEq_of (encB_okE b).1 (Nat.le_trans (encB_okE b).2 (by decide))) (okEq_tup (n := 0) (by simp) (by decide)) ?_
  rw [eqD_tup, eqDs_nil_r]
  have h0 : (b.map Cmd.enc).isEmpty = false := by
    cases b with
    | nil => exact absurd rfl ok.ne
    | cons c b => rfl
  rw [h0]
  wtm_at "g need_book"
  refine sx_for PassesOwn.never rfl (fun _ => rfl) ?_
  refine lx_enumT rfl ze rfl ⟨_, _, _, rfl⟩ ?_
  wtm_at "g need_book"
  refine ⟨_, rfl, fun i G' M' => ∃ a c, G' = [some (.tup (b.map Cmd.enc)), a, c] ∧ M' = M, ⟨_, _, rfl, rfl⟩, ?_, ?_⟩
  · rintro i d G' M' hd ⟨a, c, rfl, rfl⟩
    obtain ⟨x, hx, rfl⟩ := enumD_at hd
    rw [List.getElem?_map] at hx
    obtain ⟨cm, hcm, rfl⟩ := Option.map_eq_some_iff.mp hx
    have hi : i < b.length := (List.getElem?_eq_some_iff.mp hcm).1
    have h8 := ok.le
    wtm_at "g need_book"
    refine ite_dec (fun h1 => by omega) (fun _ => ?_)
    wtm_at "g need_book"
    refine ⟨cm, i, rfl, ok.ok i cm hcm, by omega, ?_⟩
    wtm_at "g need_book"
    exact ⟨_, _, rfl, rfl⟩
  · rintro G' M' ⟨a, c, rfl, rfl⟩
    exact k
end
section
variable {P : Program} {w : World} {K : PySem.W.Frag} {mg : Str → Option Value} {base : Heap}
theorem ok_need_delay {f : Addr} {fd : FuncData} (Fn : Fun K "need_delay" "need_delay" s_need_delay f fd) (gM : Cst K mg "MOST_DELAY" (.int 9)) (dN : Dfn P w K mg base 1 "is_number" spIsNumber) :
    FnOk P w K mg base CX0 2 f fd ["delay"] (lift K spNeedDelay) := by
  refine fun_ok Fn sc_need_delay (fun ds M Q ⟨_, e, _⟩ => by rw [e]; rfl) fun cdv A outer s H E hr ds M Q h B => ?_
  obtain ⟨n, rfl, h0, h1, k⟩ := h
  wtm_at "b"
  wtm_at "g need_delay"
  refine num_ok h0 h1 ?_
  wtm_at "g need_delay"
  exact k
end
/-! ### sends, lists of numbers as data -/
def encSd (s : Int × Nat) : D := .tup [.int s.1, encN s.2]
structure SendsOk (n : Nat) (ss : List (Int × Nat)) : Prop where
  ok : ∀ s ∈ ss, 0 ≤ s.1 ∧ s.1 ≤ 199 ∧ s.2 < n
  up : ss.Pairwise (fun a b => a.1 < b.1)
def encNs (l : List Nat) : D := .lst (l.map encN)
def encLL (xs : List (List Nat)) : D := .lst (xs.map encNs)
/-! ### what a craft has of a command -/
inductive Wd where
  | none | held | done | back | late
  deriving DecidableEq
def Wd.str : Wd → Str
  | .none => "none" | .held => "held" | .done => "done" | .back => "back" | .late => "late"
def Wd.all : List Wd := [.none, .held, .done, .back, .late]
theorem Wd.mem (a : Wd) : a ∈ Wd.all := by cases a <;> decide
theorem Wd.inj {a b : Wd} : a.str = b.str ↔ a = b := by
  have h : ∀ a ∈ Wd.all, ∀ b ∈ Wd.all, (a.str = b.str ↔ a = b) := by decide +kernel
  exact h a a.mem b b.mem
theorem Wd.strOk (a : Wd) : PyData.strOk a.str = true := by
  have h : ∀ a ∈ Wd.all, PyData.strOk a.str = true := by decide +kernel
  exact h a a.mem
def encW (w : Wd) : D := .str w.str
def encSt (s : List Wd) : D := .tup (s.map encW)
/-- a letter: whether it calls back, the number -/
abbrev Lt := Bool × Nat
def Lt.wd (l : Lt) : Str := if l.1 then "back" else "cmd"
def encLt (l : Lt) : D := .tup [.str l.wd, encN l.2]
def hearW (bk : Bool) (w : Wd) : Wd := if bk then (if w = .none ∨ w = .held then .back else w) else (if w = .none then .held else w)
def heardF (s : List Wd) (l : Lt) : List Wd := s.set l.2 (hearW l.1 (s.getD l.2 .none))
def goneOne (c : Cmd) (t : Int) (s : List Wd) (w : Wd) : Wd := if w = .held then (if c.til < t then .late else if c.when ≤ t ∧ ∀ j ∈ c.wants, s.getD j .none = .done then .done else .held) else w
def goneGo (t : Int) : List Cmd → Nat → List Wd → List Wd
  | [], _, s => s
  | c :: cs, i, s => goneGo t cs (i + 1) (s.set i (goneOne c t s (s.getD i .none)))
def goneF (b : List Cmd) (t : Int) (s : List Wd) : List Wd := goneGo t b 0 s
def beatenF (b : List Cmd) (s : List Wd) (ls : List Lt) (t : Int) : List Wd := goneF b t (ls.foldl heardF s)
theorem heardF_len {s : List Wd} {l : Lt} : (heardF s l).length = s.length := by simp [heardF]
theorem foldl_heard_len : ∀ {ls : List Lt} {s : List Wd}, (ls.foldl heardF s).length = s.length
  | [], _ => rfl
  | l :: ls, s => by rw [List.foldl_cons, foldl_heard_len, heardF_len]
theorem goneGo_len {t : Int} : ∀ {b : List Cmd} {i : Nat} {s : List Wd}, (goneGo t b i s).length = s.length
  | [], _, _ => rfl
  | c :: cs, i, s => by rw [goneGo, goneGo_len]; simp
theorem beatenF_len {b : List Cmd} {s : List Wd} {ls : List Lt} {t : Int} : (beatenF b s ls t).length = s.length := by rw [beatenF, goneF, goneGo_len, foldl_heard_len]
theorem encW_at {s : List Wd} {n : Nat} (h : n < s.length) : (s.map encW)[n]? = some (encW (s.getD n .none)) := by
  rw [List.getElem?_map, List.getElem?_eq_getElem h, List.getD_eq_getElem?_getD, List.getElem?_eq_getElem h]; rfl
theorem set_getD {s : List Wd} {n : Nat} (h : n < s.length) : s.set n (s.getD n .none) = s := by
  rw [List.getD_eq_getElem?_getD, List.getElem?_eq_getElem h]
  exact List.set_getElem_self h
theorem strs_okE {ws : List Wd} : ∀ d ∈ ws.map encW, d.okE = true ∧ d.dep ≤ 0 := fun d hd => by
  obtain ⟨x, _, rfl⟩ := List.mem_map.mp hd
  exact ⟨by unfold encW D.okE; exact x.strOk, by unfold encW D.dep; exact Nat.le_refl 0⟩
theorem eqDs_encW {xs ys : List Wd} : eqDs (xs.map encW) (ys.map encW) = decide (xs = ys) := eqDs_enc (fun x y => by
  unfold encW
  rw [eqD_str']
  exact dec_of Wd.inj) xs ys
theorem done_eq : ∀ {s : List Wd} {ws : List Nat}, ((ws.map fun j => s.getD j .none) = List.replicate ws.length .done) ↔ ∀ j ∈ ws, s.getD j .none = .done
  | s, [] => by simp
  | s, j :: ws => by
    rw [List.map_cons, List.length_cons, List.replicate_succ, List.cons.injEq, done_eq (ws := ws)]
    simp
theorem inD_w {w : Wd} {ws : List Wd} : inD (encW w) (ws.map encW) = decide (w ∈ ws) := by
  have e : ws.map encW = (ws.map Wd.str).map D.str := by rw [List.map_map]; rfl
  unfold encW at e ⊢
  rw [e, inD_str]
  refine dec_of ?_
  rw [List.mem_map]
  constructor
  · rintro ⟨a, ha, h⟩
    rw [← Wd.inj.mp h]; exact ha
  · exact fun h => ⟨w, h, rfl⟩
theorem flat_encW {ws : List Wd} : (ws.map encW).all D.flat = true := by
  simp only [List.all_map, List.all_eq_true]
  intro x _; rfl
section
variable {B : Bs} {X : Cx} {G : Sl} {M : Mem} {Q : D → Mem → Prop} {w v : Wd} {ws : List Wd}
theorem ox_inW (q : Q (.bl (decide (w ∈ ws))) M) : OX B X (compareOp .In) (encW w) (.tup (ws.map encW)) G M Q := ox_inT rfl flat_encW (by rw [inD_w]; exact q)
theorem ox_eqW (v : Wd) (q : Q (.bl (decide (w = v))) M) : OX B X (compareOp .Eq) (encW w) (.str v.str) G M Q := by
  unfold encW
  refine ox_eqS ?_
  rw [dec_of Wd.inj]; exact q
theorem ox_neW (v : Wd) (q : Q (.bl (!decide (w = v))) M) : OX B X (compareOp .NotEq) (encW w) (.str v.str) G M Q := by
  unfold encW
  refine ox_neS ?_
  rw [dec_of Wd.inj]; exact q
end
/-! ### windows -/
def encP (p : Int × Int) : D := .tup [.int p.1, .int p.2]
def encWn (ws : List (Int × Int)) : D := .tup (ws.map encP)
def WinFrom : Int → List (Int × Int) → Prop
  | _, [] => True
  | l, p :: r => l ≤ p.1 ∧ p.1 ≤ 199 ∧ p.1 + 1 ≤ p.2 ∧ p.2 ≤ 200 ∧ WinFrom p.2 r
def openB (ws : List (Int × Int)) (t : Int) : Bool := ws.any fun p => decide (p.1 ≤ t) && decide (t < p.2)
def beatsF (ws : List (Int × Int)) (many : Nat) : List Nat := ((List.range 200).filter fun t : Nat => openB ws t).take many
theorem cutD_to' {ds : List D} {n : Nat} : cutD ds none (some (n : Int)) = ds.take n := by
  unfold FL.cutD
  rw [HT.sIx_none, HT.sIx_nat, List.drop_zero, Nat.sub_zero]
  by_cases h : n ≤ ds.length
  · rw [Nat.min_eq_left h]
  · rw [Nat.min_eq_right (by omega), List.take_of_length_le (Nat.le_refl _), List.take_of_length_le (by omega)]
def fOpen (t : Int) : D → Option D
  | .tup [.int a, .int b] => if a ≤ t ∧ t < b then some (.tup [.int a, .int b]) else none
  | _ => none
theorem fOpen_all {t : Int} : ∀ ws : List (Int × Int), (ws.map encP).filterMap (fOpen t) = (ws.filter fun p => decide (p.1 ≤ t) && decide (t < p.2)).map encP
  | [] => rfl
  | p :: ws => by
    rw [List.map_cons, List.filterMap_cons, List.filter_cons]
    have e : fOpen t (encP p) = if p.1 ≤ t ∧ t < p.2 then some (encP p) else none := rfl
    rw [e, fOpen_all ws]
    by_cases h1 : p.1 ≤ t
    · by_cases h2 : t < p.2
      · simp [h1, h2]
      · simp [h1, h2]
    · simp [h1]
theorem open_ne {t : Int} {ws : List (Int × Int)} : (!((ws.filter fun p => decide (p.1 ≤ t) && decide (t < p.2)).map encP).isEmpty) = openB ws t := by
  unfold openB
  rw [List.isEmpty_map]
  induction ws with
  | nil => rfl
  | cons p ws ih =>
    rw [List.filter_cons, List.any_cons]
    cases h : (decide (p.1 ≤ t) && decide (t < p.2)) with
    | true => rfl
    | false => simp only [Bool.false_eq_true, if_false, Bool.false_or]; exact ih
theorem encP_ok {ws : List (Int × Int)} : ∀ d ∈ ws.map encP, d.okE = true ∧ d.dep ≤ 1 := fun d hd => by
  obtain ⟨p, _, rfl⟩ := List.mem_map.mp hd
  exact ⟨rfl, Nat.le_refl 1⟩
def spNeedWindows : DSp := fun ds M Q => ∃ ws : List (Int × Int), ds = [encWn ws] ∧ WinFrom 0 ws ∧ Q .non M
def spIsOpen : DSp := fun ds M Q => ∃ (ws : List (Int × Int)) (t : Int), ds = [encWn ws, .int t] ∧ ws.length ≤ 1000 ∧ Q (.bl (openB ws t)) M
def spOpenBeats : DSp := fun ds M Q => ∃ (ws : List (Int × Int)) (many : Nat), ds = [encWn ws, .int many] ∧ ws.length ≤ 1000 ∧ Q (.lst ((beatsF ws many).map encN)) M
section
variable {P : Program} {w : World} {K : PySem.W.Frag} {mg : Str → Option Value} {base : Heap}
theorem ok_need_windows {f : Addr} {fd : FuncData} (Fn : Fun K "need_windows" "need_windows" s_need_windows f fd) (zi : mg "isinstance" = none) (zt : mg "tuple" = none) (zl : mg "len" = none) (gM : Cst K mg "MOST_BEAT" (.int 200)) (dN : Dfn P w K mg base 1 "is_number" spIsNumber) :
    FnOk P w K mg base CX0 2 f fd ["windows"] (lift K spNeedWindows) := by
  refine fun_ok Fn sc_need_windows (fun ds M Q ⟨_, e, _⟩ => by rw [e]; rfl) fun cdv A outer s H E hr ds M Q h B => ?_
  obtain ⟨ws, rfl, ok, k⟩ := h
  unfold encWn
  wtm_at "b"
  wtm_at "g need_windows"
  refine sx_for PassesOwn.never rfl (fun _ => rfl) ?_
  refine lx_tup ?_
  wtm_at "g need_windows"
  refine ⟨_, rfl, fun i G' M' => ∃ (last : Int) (a2 : Option D), G' = [some (.tup (ws.map encP)), some (.int last), a2] ∧ WinFrom last (ws.drop i) ∧ M' = M, ⟨0, _, rfl, ok, rfl⟩, ?_, ?_⟩
  · rintro i d G' M' hd ⟨last, a2, rfl, hw, rfl⟩
    rw [List.getElem?_map] at hd
    obtain ⟨p, hp, rfl⟩ := Option.map_eq_some_iff.mp hd
    have hi : i < ws.length := (List.getElem?_eq_some_iff.mp hp).1
    have ep : ws[i] = p := by
      rw [List.getElem?_eq_getElem hi] at hp; exact Option.some.inj hp
    rw [List.drop_eq_getElem_cons hi, ep] at hw
    obtain ⟨w1, w2, w3, w4, w5⟩ := hw
    unfold encP
    wtm_at "g need_windows"
    refine num_ok w1 w2 ?_
    wtm_at "g need_windows"
    refine num_ok w3 w4 ?_
    wtm_at "g need_windows"
    exact ⟨p.2, _, rfl, w5, rfl⟩
  · rintro G' M' ⟨last, a2, rfl, hw, rfl⟩
    exact k
theorem ok_is_open {f : Addr} {fd : FuncData} (Fn : Fun K "is_open" "is_open" s_is_open f fd) : FnOk P w K mg base CX0 1 f fd ["windows", "beat"] (lift K spIsOpen) := by
  refine fun_ok Fn sc_is_open (fun ds M Q ⟨_, _, e, _⟩ => by rw [e]; rfl) fun cdv A outer s H E hr ds M Q h B => ?_
  obtain ⟨ws, t, rfl, hl, k⟩ := h
  unfold encWn
  wtm_at "b"
  wtm_at "g is_open"
  wtm_at "lcp is_open 0"
  case f => exact fOpen t
  refine lx_tup ?_
  wtm_at "g is_open"
  refine ⟨_, rfl, ⟨Nat.lt_of_le_of_lt (by rw [List.length_map]; exact hl) (by decide), fun d M' hd hm => ?_⟩, ?_⟩
  · obtain ⟨p, hp, rfl⟩ := List.mem_map.mp hd
    unfold encP
    refine fun s1 H1 C1 cl1 fp1 => txs_one ?_
    wtm_at "gb is_open"
    refine ite_dec (fun h1 => ?_) (fun h1 => ?_)
    · wtm_at "gb is_open"
      refine ite_dec (fun h2 => fun s2 H2 C2 cl2 fp2 => ?_) (fun h2 => ?_)
      · wtm_at "gb is_open"
        exact ⟨rfl, if_pos ⟨h1, h2⟩⟩
      · exact ⟨rfl, if_neg (fun z => h2 z.2)⟩
    · exact ⟨rfl, if_neg (fun z => h1 z.1)⟩
  rw [fOpen_all]
  wtm_at "g is_open"
  refine ox_ne0 hr.units encP_ok (by decide) ?_
  rw [open_ne]
  exact k
theorem ok_open_beats {f : Addr} {fd : FuncData} (Fn : Fun K "open_beats" "open_beats" s_open_beats f fd) (zr : mg "range" = none) (gM : Cst K mg "MOST_BEAT" (.int 200)) (dO : Dfn P w K mg base 1 "is_open" spIsOpen) : FnOk P w K mg base CX0 2 f fd ["windows", "many"] (lift K spOpenBeats) := by
  refine fun_ok Fn sc_open_beats (fun ds M Q ⟨_, _, e, _⟩ => by rw [e]; rfl) fun cdv A outer s H E hr ds M Q h B => ?_
  obtain ⟨ws, many, rfl, hl, k⟩ := h
  wtm_at "b"
  wtm_at "g open_beats"
  wtm_at "lcp open_beats 0"
  case f => exact fun d => match d with
    | .int t => if openB ws t = true then some (.int t) else none
    | _ => none
  refine lx_range1 rfl zr rfl ?_
  wtm_at "g open_beats"
  refine ⟨_, rfl, by decide, by decide, ⟨by rw [rangeD_len]; decide, fun d M' hd hm => ?_⟩, ?_⟩
  · obtain ⟨j, hj⟩ := List.mem_iff_getElem?.mp hd
    obtain ⟨hlt, rfl⟩ := rangeD_at hj
    refine fun s1 H1 C1 cl1 fp1 => txs_one ?_
    wtm_at "gb open_beats"
    refine ⟨ws, _, rfl, hl, ?_⟩
    refine asB_bl (ite_b (fun h1 => fun s2 H2 C2 cl2 fp2 => ?_) (fun h1 => ?_))
    · wtm_at "gb open_beats"
      exact ⟨rfl, if_pos h1⟩
    · refine ⟨rfl, if_neg (by rw [h1]; simp)⟩
  have e : (rangeD 0 (200 : Int).toNat).filterMap (fun d => match d with
    | .int t => if openB ws t = true then some (.int t) else none
    | _ => none) = ((List.range 200).filter fun t : Nat => openB ws t).map encN := by
    unfold rangeD
    rw [List.filterMap_map]
    show (List.range 200).filterMap (fun t : Nat => if openB ws (0 + (t : Int)) = true then some (D.int (0 + (t : Int))) else none) = _
    generalize List.range 200 = l
    induction l with
    | nil => rfl
    | cons t l ih =>
      rw [List.filterMap_cons, List.filter_cons, Int.zero_add]
      cases h : openB ws (t : Int) with
      | true => simp only [if_true, List.map_cons]; rw [ih]; rfl
      | false => simp only [Bool.false_eq_true, if_false]; exact ih
  rw [e]
  wtm_at "g open_beats"
  first | refine ⟨_, rfl, slx_l IsL.fz ?_⟩ | refine slx_l IsL.fz ?_
  rw [cutD_to', ← List.map_take]
  exact k
end
/-! ### when each is done -/
def encO' : Option Int → D
  | none => .non
  | some i => .int i
/-- the greatest, none if one is -/
def maxO (w : Int) : List (Option Int) → Option Int
  | [] => some w
  | none :: _ => none
  | some x :: r => (maxO w r).map (max x)
def doneOne (c : Cmd) (come : Option Int) (found : List (Option Int)) : Option Int :=
  match maxO c.when (come :: c.wants.map fun j => found.getD j none) with
  | none => none
  | some m => if m ≤ c.til then some m else none
def doneList (comes : List (Option Int)) : List Cmd → List (Option Int) → List (Option Int)
  | [], found => found
  | c :: cs, found => doneList comes cs (found ++ [doneOne c (comes.getD found.length none) found])
def doneAt (b : List Cmd) (comes : List (Option Int)) : List (Option Int) := doneList comes b []
theorem doneList_len {comes : List (Option Int)} : ∀ {b : List Cmd} {found : List (Option Int)}, (doneList comes b found).length = found.length + b.length
  | [], found => by simp [doneList]
  | c :: cs, found => by
    rw [doneList, doneList_len]; simp; omega
theorem doneAt_len {b : List Cmd} {comes : List (Option Int)} : (doneAt b comes).length = b.length := by simp [doneAt, doneList_len]
theorem inD_non : ∀ {xs : List (Option Int)}, inD .non (xs.map encO') = decide (none ∈ xs)
  | [] => by simp [inD, inV]
  | none :: ys => by
    have e : inD .non ((none :: ys).map encO') = (true || inD .non (ys.map encO')) := rfl
    rw [e]; simp
  | some x :: ys => by
    have ih : inD .non (ys.map encO') = decide (none ∈ ys) := inD_non
    have e : inD .non ((some x :: ys).map encO') = (false || inD .non (ys.map encO')) := rfl
    rw [e, ih]; simp
theorem flat_encO {xs : List (Option Int)} : (xs.map encO').all D.flat = true := by
  simp only [List.all_map, List.all_eq_true]
  intro x _
  cases x <;> rfl
theorem maxO_none {w : Int} : ∀ {l : List (Option Int)}, none ∈ l → maxO w l = none
  | none :: _, _ => rfl
  | some x :: r, h => by
    have h' : none ∈ r := by simpa using h
    show (maxO w r).map (max x) = none
    rw [maxO_none h']; rfl
theorem maxO_some {w : Int} : ∀ {l : List (Option Int)}, none ∉ l → ∃ ns : List Int, l.map encO' = ns.map D.int ∧ ∃ m, maxO w l = some m ∧ m ∈ ns ++ [w] ∧ ∀ y ∈ ns ++ [w], y ≤ m
  | [], _ => ⟨[], rfl, w, rfl, by simp, by simp⟩
  | none :: _, h => by simp at h
  | some x :: r, h => by
    obtain ⟨ns, e, m, h1, h2, h3⟩ := maxO_some (w := w) (l := r) (by simpa using h)
    refine ⟨x :: ns, by rw [List.map_cons, e]; rfl, max x m, by show (maxO w r).map (max x) = _; rw [h1]; rfl, ?_, ?_⟩
    · rw [List.cons_append]
      rcases Int.le_total x m with hx | hx
      · rw [Int.max_eq_right hx]; exact List.mem_cons_of_mem _ h2
      · rw [Int.max_eq_left hx]; simp
    · intro y hy
      rw [List.cons_append] at hy
      rcases List.mem_cons.mp hy with rfl | hy
      · exact Int.le_max_left _ _
      · exact Int.le_trans (h3 y hy) (Int.le_max_right _ _)
def spDoneAt : DSp := fun ds M Q => ∃ (b : List Cmd) (comes : List (Option Int)), ds = [encB b, .lst (comes.map encO')] ∧ BookOk b ∧ comes.length = b.length ∧ Q (.lst ((doneAt b comes).map encO')) M
section
variable {P : Program} {w : World} {K : PySem.W.Frag} {mg : Str → Option Value} {base : Heap}
theorem ok_done_at {f : Addr} {fd : FuncData} (Fn : Fun K "done_at" "done_at" s_done_at f fd) (ze : mg "enumerate" = none) (zm : mg "max" = none) : FnOk P w K mg base CX0 1 f fd ["book", "comes"] (lift K spDoneAt) := by
  refine fun_ok Fn sc_done_at (fun ds M Q ⟨_, _, e, _⟩ => by rw [e]; rfl) fun cdv A outer s H E hr ds M Q h B => ?_
  obtain ⟨b, comes, rfl, ok, hlen, k⟩ := h
  unfold encB
  wtm_at "b"
  wtm_at "g done_at"
  refine ex_lstM ?_
  wtm_at "g done_at"
  refine fun l fl => ?_
  wtm_at "g done_at"
  refine sx_for PassesOwn.never rfl (fun _ => rfl) ?_
  refine lx_enumT rfl ze rfl ⟨_, _, _, rfl⟩ ?_
  wtm_at "g done_at"
  refine ⟨_, rfl, fun i G' M' => ∃ found a3 a4 a5 a6 a7 a8 a9 a10, G' = [some (.tup (b.map Cmd.enc)), some (.lst (comes.map encO')), some (.ref l), a3, a4, a5, a6, a7, a8, a9, a10] ∧ found.length = i ∧ doneList comes (b.drop i) found = doneAt b comes ∧ M' = mupd M l (.lst (found.map encO')),
    ⟨[], _, _, _, _, _, _, _, _, rfl, rfl, rfl, rfl⟩, ?_, ?_⟩
  · rintro i d G' M' hd ⟨found, a3, a4, a5, a6, a7, a8, a9, a10, rfl, hfl, hdl, rfl⟩
    obtain ⟨x, hx, rfl⟩ := enumD_at hd
    rw [List.getElem?_map] at hx
    obtain ⟨c, hc, rfl⟩ := Option.map_eq_some_iff.mp hx
    have hi : i < b.length := (List.getElem?_eq_some_iff.mp hc).1
    have cok := ok.ok i c hc
    have h8 := ok.le
    have hwl := up_len cok.up cok.lt
    have hcm : (comes.map encO')[i]? = some (encO' (comes.getD i none)) := by
      rw [List.getElem?_map, List.getElem?_eq_getElem (by omega), List.getD_eq_getElem?_getD, List.getElem?_eq_getElem (by omega)]; rfl
    unfold Cmd.enc
    wtm_at "g done_at"
    refine ix_l (atI_of rfl hcm) ?_
    wtm_at "g done_at"
    wtm_at "lcp done_at 0"
    case f => exact fun d => match d with
      | .int j => some (encO' (found.getD j.toNat none))
      | _ => none
    refine lx_tup ?_
    wtm_at "g done_at"
    refine ⟨_, rfl, ⟨?_, fun d M' hd hm => ?_⟩, ?_⟩
    · rw [List.length_map]
      exact Nat.lt_of_le_of_lt (by omega : _ ≤ 8) (by decide)
    · obtain ⟨n, hn, rfl⟩ := List.mem_map.mp hd
      have hlt := cok.lt n hn
      have hfm : (found.map encO')[n]? = some (encO' (found.getD n none)) := by
        rw [List.getElem?_map, List.getElem?_eq_getElem (by omega), List.getD_eq_getElem?_getD, List.getElem?_eq_getElem (by omega)]; rfl
      refine fun s1 H1 C1 cl1 fp1 => txs_nil (iteT fun s2 H2 C2 cl2 fp2 => ?_)
      wtm_at "wb done_at"
      refine ix_c (hm l _ mupd_same) (atI_of rfl hfm) ?_
      exact ⟨rfl, rfl⟩
    have eW : (c.wants.map encN).filterMap (fun d => match d with
      | .int j => some (encO' (found.getD j.toNat none))
      | _ => none) = (c.wants.map fun j => found.getD j none).map encO' := by
      rw [filterMap_enc (enc := encN) (g := fun j => encO' (found.getD j none)) (fun _ _ => rfl), List.map_map]; rfl
    rw [eW]
    refine ox_catL IsL.fz IsL.fz ?_ ?_
    · rw [List.length_map, List.length_map]
      exact Nat.le_trans (by simp; omega : _ ≤ 9) (by decide)
    show SXs _ _ _ _ (_ : Sl) _
    have eS : [encO' (comes.getD i none)] ++ (c.wants.map fun j => found.getD j none).map encO' = (comes.getD i none :: c.wants.map fun j => found.getD j none).map encO' := rfl
    rw [eS]
    generalize hS : (comes.getD i none :: c.wants.map fun j => found.getD j none) = some_ at *
    wtm_at "g done_at"
    have hone : doneOne c (comes.getD i none) found = match maxO c.when some_ with
        | none => none
        | some m => if m ≤ c.til then some m else none := by unfold doneOne; rw [hS]
    have fin : ∀ v : Option Int, v = doneOne c (comes.getD i none) found → doneList comes (b.drop (i + 1)) (found ++ [v]) = doneAt b comes ∧ (found ++ [v]).length = i + 1 := by
      intro v hv
      rw [← hdl, List.drop_eq_getElem_cons hi, doneList, hfl, hv]
      have e : b[i] = c := by
        have := List.getElem?_eq_getElem hi
        rw [this] at hc; exact Option.some.inj hc
      rw [e]
      exact ⟨rfl, by simp [hfl]⟩
    have hsz : (found.map encO').length < sizeLine := by
      rw [List.length_map]
      exact Nat.lt_of_le_of_lt (by omega : _ ≤ 8) (by decide)
    refine ox_inL rfl flat_encO ?_
    rw [inD_non]
    refine asB_bl (ite_dec (fun hn => ?_) (fun hn => ?_))
    · rw [maxO_none hn] at hone
      obtain ⟨f1, f2⟩ := fin none hone.symm
      wtm_at "g done_at"
      refine ex_append rfl rfl rfl rfl rfl ?_
      wtm_at "g done_at"
      refine ⟨l, _, rfl, mupd_same, ?_⟩
      wtm_at "g done_at"
      refine ⟨_, mupd_same, hsz, ?_⟩
      wtm_at "g done_at"
      refine ⟨_, _, _, _, _, _, _, _, _, rfl, f2, f1, ?_⟩
      rw [mupd_mupd, List.map_append]
      rfl
    · obtain ⟨ns, ens, m, hm1, hm2, hm3⟩ := maxO_some (w := c.when) hn
      rw [hm1] at hone
      wtm_at "g done_at"
      rw [ens]
      refine ox_catL IsL.fz IsL.fz ?_ ?_
      · have : some_.length = ns.length := by
          have := congrArg List.length ens
          simpa using this
        rw [List.length_map, ← this, ← hS]
        exact Nat.le_trans (by simp; omega : _ ≤ 12) (by decide)
      wtm_at "g done_at"
      refine bx_maxL (ns := ns ++ [c.when]) rfl (by rw [List.map_append]; exact IsL.fz) (by simp) fun m' h1 h2 => ?_
      have em : m' = m := Int.le_antisymm (hm3 m' h1) (h2 m hm2)
      subst em
      wtm_at "g done_at"
      refine ex_append rfl rfl rfl rfl rfl ?_
      wtm_at "g done_at"
      refine ⟨l, _, rfl, mupd_same, ?_⟩
      wtm_at "g done_at"
      refine ite_dec (fun hle => ?_) (fun hle => ?_)
      · obtain ⟨f1, f2⟩ := fin (some m') (by rw [hone]; exact (if_pos hle).symm)
        wtm_at "g done_at"
        refine ⟨_, mupd_same, hsz, ?_⟩
        wtm_at "g done_at"
        refine ⟨_, _, _, _, _, _, _, _, _, rfl, f2, f1, ?_⟩
        rw [mupd_mupd, List.map_append]
        rfl
      · obtain ⟨f1, f2⟩ := fin none (by rw [hone]; exact (if_neg hle).symm)
        wtm_at "g done_at"
        refine ⟨_, mupd_same, hsz, ?_⟩
        wtm_at "g done_at"
        refine ⟨_, _, _, _, _, _, _, _, _, rfl, f2, f1, ?_⟩
        rw [mupd_mupd, List.map_append]
        rfl
  · rintro G' M' ⟨found, a3, a4, a5, a6, a7, a8, a9, a10, rfl, hfl, hdl, rfl⟩
    rw [enumD_len, List.length_map] at hfl
    refine sxs_one (sx_ret (ex_freeze ?_))
    wtm_at "g done_at"
    refine ⟨l, _, rfl, mupd_same, ?_⟩
    rw [mdel_mupd fl]
    rw [enumD_len, List.length_map, List.drop_length] at hdl
    have e : found = doneAt b comes := hdl
    rw [e]
    exact k
end
/-! ### going on: each word by those behind it (no program here) -/
theorem getD_set_self {α : Type} {l : List α} {i : Nat} {x d : α} (h : i < l.length) : (l.set i x).getD i d = x := by
  rw [List.getD_eq_getElem?_getD, List.getElem?_set_self h]; rfl
theorem getD_set_ne {α : Type} {l : List α} {i j : Nat} {x d : α} (h : i ≠ j) : (l.set i x).getD j d = l.getD j d := by
  rw [List.getD_eq_getElem?_getD, List.getElem?_set_ne h, List.getD_eq_getElem?_getD]
theorem getD_app_left {α : Type} {l m : List α} {j : Nat} {d : α} (h : j < l.length) : (l ++ m).getD j d = l.getD j d := by
  rw [List.getD_eq_getElem?_getD, List.getElem?_append_left h, List.getD_eq_getElem?_getD]
theorem ext_getD {α : Type} {l m : List α} (d : α) (hl : l.length = m.length) (h : ∀ k, k < l.length → l.getD k d = m.getD k d) : l = m := by
  apply List.ext_getElem hl
  intro i h1 h2
  have z := h i h1
  rw [List.getD_eq_getElem?_getD, List.getD_eq_getElem?_getD, List.getElem?_eq_getElem h1, List.getElem?_eq_getElem h2] at z
  exact z
theorem goneOne_congr {c : Cmd} {t : Int} {s s' : List Wd} {w : Wd} (h : ∀ j ∈ c.wants, s'.getD j .none = s.getD j .none) : goneOne c t s' w = goneOne c t s w := by
  have e : (∀ j ∈ c.wants, s'.getD j .none = .done) ↔ ∀ j ∈ c.wants, s.getD j .none = .done :=
    ⟨fun z j hj => by rw [← h j hj]; exact z j hj, fun z j hj => by rw [h j hj]; exact z j hj⟩
  unfold goneOne
  simp only [e]
theorem goneGo_spec {t : Int} : ∀ (cs : List Cmd) (i : Nat) (s : List Wd), (∀ j c, cs[j]? = some c → ∀ n ∈ c.wants, n < i + j) → s.length = i + cs.length →
    (∀ k, k < i → (goneGo t cs i s).getD k .none = s.getD k .none) ∧ ∀ j c, cs[j]? = some c → (goneGo t cs i s).getD (i + j) .none = goneOne c t (goneGo t cs i s) (s.getD (i + j) .none)
  | [], i, s, _, _ => ⟨fun _ _ => rfl, fun j c h => by simp at h⟩
  | c :: cs, i, s, hw, hl => by
    have hil : i < s.length := by rw [hl]; simp
    obtain ⟨h1, h2⟩ := goneGo_spec cs (i + 1) (s.set i (goneOne c t s (s.getD i .none))) (fun j c' hj n hn => by
      have := hw (j + 1) c' (by simpa using hj) n hn; omega) (by rw [List.length_set, hl, List.length_cons]; omega)
    rw [goneGo]
    refine ⟨fun k hk => ?_, fun j c' hj => ?_⟩
    · rw [h1 k (by omega), getD_set_ne (by omega)]
    · cases j with
      | zero =>
        have e : c' = c := by simpa using hj.symm
        subst e
        show (goneGo t cs (i + 1) _).getD i .none = goneOne c' t _ (s.getD i .none)
        rw [h1 i (by omega), getD_set_self hil]
        refine (goneOne_congr fun n hn => ?_).symm
        have := hw 0 c' rfl n hn
        rw [h1 n (by omega), getD_set_ne (by omega)]
      | succ j =>
        have z := h2 j c' (by simpa using hj)
        rw [show i + (j + 1) = i + 1 + j from by omega, z, getD_set_ne (by omega)]
theorem goneF_spec {b : List Cmd} {t : Int} {s : List Wd} (ok : BookOk b) (hl : s.length = b.length) {k : Nat} {c : Cmd} (h : b[k]? = some c) : (goneF b t s).getD k .none = goneOne c t (goneF b t s) (s.getD k .none) := by
  have z := (goneGo_spec (t := t) b 0 s (fun j c hj n hn => by have := (ok.ok j c hj).lt n hn; omega) (by omega)).2 k c h
  rw [Nat.zero_add] at z
  exact z
/-! ### beat by beat: what is done, and when (no program here) -/
theorem doneOne_congr {c : Cmd} {x : Option Int} {s s' : List (Option Int)} (h : ∀ j ∈ c.wants, s'.getD j none = s.getD j none) : doneOne c x s' = doneOne c x s := by
  have e : (c.wants.map fun j => s'.getD j none) = c.wants.map fun j => s.getD j none := List.map_congr_left h
  unfold doneOne
  rw [e]
theorem doneList_spec {comes : List (Option Int)} : ∀ (cs : List Cmd) (found : List (Option Int)), (∀ j c, cs[j]? = some c → ∀ n ∈ c.wants, n < found.length + j) →
    (∀ k, k < found.length → (doneList comes cs found).getD k none = found.getD k none) ∧ ∀ j c, cs[j]? = some c → (doneList comes cs found).getD (found.length + j) none = doneOne c (comes.getD (found.length + j) none) (doneList comes cs found)
  | [], found, _ => ⟨fun _ _ => rfl, fun j c h => by simp at h⟩
  | c :: cs, found, hw => by
    have e1 : (found ++ [doneOne c (comes.getD found.length none) found]).length = found.length + 1 := by simp
    obtain ⟨h1, h2⟩ := doneList_spec (comes := comes) cs (found ++ [doneOne c (comes.getD found.length none) found]) (fun j c' hj n hn => by
      have := hw (j + 1) c' (by simpa using hj) n hn; omega)
    rw [e1] at h1 h2
    rw [doneList]
    refine ⟨fun k hk => ?_, fun j c' hj => ?_⟩
    · rw [h1 k (by omega), getD_app_left hk]
    · cases j with
      | zero =>
        have e : c' = c := by simpa using hj.symm
        subst e
        show (doneList comes cs _).getD found.length none = doneOne c' (comes.getD found.length none) _
        rw [h1 found.length (by omega)]
        have e2 : (found ++ [doneOne c' (comes.getD found.length none) found]).getD found.length none = doneOne c' (comes.getD found.length none) found := by
          rw [List.getD_eq_getElem?_getD, List.getElem?_append_right (Nat.le_refl _), Nat.sub_self]; rfl
        rw [e2]
        refine (doneOne_congr fun n hn => ?_).symm
        have := hw 0 c' rfl n hn
        rw [h1 n (by omega), getD_app_left (by omega)]
      | succ j =>
        have z := h2 j c' (by simpa using hj)
        rw [show found.length + (j + 1) = found.length + 1 + j from by omega, z]
theorem doneAt_spec {b : List Cmd} {comes : List (Option Int)} (ok : BookOk b) {k : Nat} {c : Cmd} (h : b[k]? = some c) : (doneAt b comes).getD k none = doneOne c (comes.getD k none) (doneAt b comes) := by
  have z := (doneList_spec (comes := comes) b [] (fun j c hj n hn => by have := (ok.ok j c hj).lt n hn; simpa using this)).2 k c h
  rw [show ([] : List (Option Int)).length + k = k from Nat.zero_add k] at z
  exact z
theorem maxO_iff {w m : Int} : ∀ {l : List (Option Int)}, maxO w l = some m → (∀ o ∈ l, ∃ y, o = some y ∧ y ≤ m) ∧ w ≤ m ∧ (m = w ∨ some m ∈ l)
  | [], h => by
    have e : w = m := Option.some.inj h
    exact ⟨by simp, by omega, .inl e.symm⟩
  | none :: _, h => by cases h
  | some x :: r, h => by
    have h' : (maxO w r).map (max x) = some m := h
    obtain ⟨m', h1, h2⟩ := Option.map_eq_some_iff.mp h'
    obtain ⟨a1, a2, a3⟩ := maxO_iff h1
    refine ⟨fun o ho => ?_, by omega, ?_⟩
    · rcases List.mem_cons.mp ho with rfl | ho
      · exact ⟨x, rfl, by omega⟩
      · obtain ⟨y, hy, hle⟩ := a1 o ho
        exact ⟨y, hy, by omega⟩
    · rcases Int.le_total x m' with hx | hx
      · rw [Int.max_eq_right hx] at h2
        subst h2
        rcases a3 with a3 | a3
        · exact .inl a3
        · exact .inr (List.mem_cons_of_mem _ a3)
      · rw [Int.max_eq_left hx] at h2
        subst h2
        exact .inr (by simp)
theorem maxO_le {w t : Int} : ∀ {l : List (Option Int)}, (∀ o ∈ l, ∃ y, o = some y ∧ y ≤ t) → w ≤ t → ∃ m, maxO w l = some m ∧ m ≤ t
  | [], _, hw => ⟨w, rfl, hw⟩
  | o :: r, h, hw => by
    obtain ⟨y, rfl, hy⟩ := h o (by simp)
    obtain ⟨m, hm, hle⟩ := maxO_le (l := r) (fun o ho => h o (List.mem_cons_of_mem _ ho)) hw
    refine ⟨max y m, ?_, by omega⟩
    show (maxO w r).map (max y) = _
    rw [hm]; rfl
section
variable {b : List Cmd} {comes : List (Option Int)} {k : Nat} {c : Cmd} {d t : Int}
/-- what is done came, at its time, behind those that it wants -/
theorem done_facts (ok : BookOk b) (h : b[k]? = some c) (hd : (doneAt b comes).getD k none = some d) :
    (∃ x, comes.getD k none = some x ∧ x ≤ d) ∧ c.when ≤ d ∧ d ≤ c.til ∧ (∀ j ∈ c.wants, ∃ y, (doneAt b comes).getD j none = some y ∧ y ≤ d) ∧ (d = c.when ∨ comes.getD k none = some d ∨ ∃ j ∈ c.wants, (doneAt b comes).getD j none = some d) := by
  rw [doneAt_spec ok h] at hd
  unfold doneOne at hd
  split at hd
  · cases hd
  · rename_i m hm
    split at hd
    · rename_i hle
      have e : m = d := Option.some.inj hd
      subst e
      obtain ⟨a1, a2, a3⟩ := maxO_iff hm
      refine ⟨a1 _ (by simp), a2, hle, fun j hj => a1 _ (List.mem_cons_of_mem _ (List.mem_map.mpr ⟨j, hj, rfl⟩)), ?_⟩
      rcases a3 with a3 | a3
      · exact .inl a3
      · rcases List.mem_cons.mp a3 with a3 | a3
        · exact .inr (.inl a3.symm)
        · obtain ⟨j, hj, e⟩ := List.mem_map.mp a3
          exact .inr (.inr ⟨j, hj, e⟩)
    · cases hd
theorem done_by (ok : BookOk b) (h : b[k]? = some c) {x : Int} (hx : comes.getD k none = some x) (hxt : x ≤ t) (hw : c.when ≤ t) (hu : t ≤ c.til) (hj : ∀ j ∈ c.wants, ∃ y, (doneAt b comes).getD j none = some y ∧ y ≤ t) : ∃ d, (doneAt b comes).getD k none = some d ∧ d ≤ t := by
  obtain ⟨m, hm, hle⟩ := maxO_le (w := c.when) (t := t) (l := comes.getD k none :: c.wants.map fun j => (doneAt b comes).getD j none) (fun o ho => by
    rcases List.mem_cons.mp ho with rfl | ho
    · exact ⟨x, hx, hxt⟩
    · obtain ⟨j, hj', e⟩ := List.mem_map.mp ho
      obtain ⟨y, hy, hle⟩ := hj j hj'
      exact ⟨y, by rw [← e]; exact hy, hle⟩) hw
  refine ⟨m, ?_, hle⟩
  rw [doneAt_spec ok h]
  unfold doneOne
  rw [hm]
  exact if_pos (by omega)
/-- no later than all that comes, and all whens -/
theorem done_le (ok : BookOk b) {m : Int} (hc : ∀ x, some x ∈ comes → x ≤ m) (hw : ∀ c ∈ b, c.when ≤ m) : ∀ k d, k < b.length → (doneAt b comes).getD k none = some d → d ≤ m := by
  intro k
  induction k using Nat.strongRecOn with
  | _ k ih =>
    intro d hk hd
    have hb : b[k]? = some b[k] := List.getElem?_eq_getElem hk
    obtain ⟨_, _, _, _, h5⟩ := done_facts ok hb hd
    rcases h5 with e | e | ⟨j, hj, e⟩
    · rw [e]; exact hw _ (List.getElem_mem hk)
    · refine hc d ?_
      rw [List.getD_eq_getElem?_getD] at e
      cases q : comes[k]? with
      | none => rw [q] at e; cases e
      | some o =>
        rw [q] at e
        have : o = some d := e
        rw [← this]
        exact List.mem_of_getElem? q
    · have hlt := (ok.ok k _ hb).lt j hj
      exact ih j hlt d (by omega) e
end
/-! ### going on -/
def lettersAt (n : Nat) (comes : List (Option Int)) (t : Int) : List Lt := (List.range n).filterMap fun k => if comes.getD k none = some t then some (false, k) else none
def simS (b : List Cmd) (comes : List (Option Int)) : Nat → List Wd
  | 0 => List.replicate b.length .none
  | t + 1 => beatenF b (simS b comes t) (lettersAt b.length comes t) t
theorem simS_len {b : List Cmd} {comes : List (Option Int)} : ∀ {t : Nat}, (simS b comes t).length = b.length
  | 0 => by simp [simS]
  | t + 1 => by rw [simS, beatenF_len]; exact simS_len
theorem foldl_cmd : ∀ {ls : List Lt} {s : List Wd} {k : Nat}, (∀ l ∈ ls, l.1 = false ∧ l.2 < s.length) → (ls.foldl heardF s).getD k .none = if (false, k) ∈ ls ∧ s.getD k .none = .none ∧ k < s.length then .held else s.getD k .none
  | [], s, k, _ => by simp
  | l :: ls, s, k, h => by
    obtain ⟨h1, h2⟩ := h l (by simp)
    obtain ⟨bk, n⟩ := l
    have e1 : bk = false := h1
    have h2' : n < s.length := h2
    subst e1
    rw [List.foldl_cons, foldl_cmd (fun l hl => by rw [heardF_len]; exact h l (List.mem_cons_of_mem _ hl)), heardF_len]
    have eh : heardF s (false, n) = s.set n (if s.getD n .none = .none then .held else s.getD n .none) := rfl
    rw [eh]
    by_cases hk : n = k
    · subst hk
      rw [getD_set_self h2']
      by_cases hs : s.getD n .none = .none
      · rw [if_pos hs, if_pos (⟨by simp, hs, h2'⟩ : (false, n) ∈ (false, n) :: ls ∧ s.getD n .none = .none ∧ n < s.length)]
        split <;> rfl
      · rw [if_neg hs, if_neg (fun z => hs z.2.1), if_neg (fun z => hs z.2.1)]
    · rw [getD_set_ne hk]
      have : (false, k) ∈ (false, n) :: ls ↔ (false, k) ∈ ls := by
        rw [List.mem_cons]
        constructor
        · rintro (e | e)
          · exact absurd (Prod.mk.inj e).2.symm hk
          · exact e
        · exact .inr
      simp only [this]
theorem mem_lettersAt {n k : Nat} {comes : List (Option Int)} {t : Int} : (false, k) ∈ lettersAt n comes t ↔ k < n ∧ comes.getD k none = some t := by
  unfold lettersAt
  rw [List.mem_filterMap]
  constructor
  · rintro ⟨j, hj, h⟩
    split at h
    · rename_i e
      have : j = k := by simpa using h
      subst this
      exact ⟨by simpa using hj, e⟩
    · cases h
  · rintro ⟨h1, h2⟩
    exact ⟨k, by simpa using h1, by rw [if_pos h2]⟩
theorem lettersAt_ok {n : Nat} {comes : List (Option Int)} {t : Int} : ∀ l ∈ lettersAt n comes t, l.1 = false ∧ l.2 < n := by
  intro l hl
  unfold lettersAt at hl
  obtain ⟨j, hj, h⟩ := List.mem_filterMap.mp hl
  split at h
  · have : l = (false, j) := by simpa using h.symm
    rw [this]
    exact ⟨rfl, by simpa using hj⟩
  · cases h
/-- the word behind the beats ahead of t -/
def wordAt (c : Cmd) (come dn : Option Int) (t : Int) : Wd :=
  match come with
  | none => .none
  | some x => if t ≤ x then .none else match dn with
    | some d => if d < t then .done else if c.til < t - 1 then .late else .held
    | none => if c.til < t - 1 then .late else .held
theorem sim_word {b : List Cmd} {comes : List (Option Int)} (ok : BookOk b) (h0 : ∀ x, some x ∈ comes → 0 ≤ x) : ∀ (t : Nat) (k : Nat) (c : Cmd), b[k]? = some c → (simS b comes t).getD k .none = wordAt c (comes.getD k none) ((doneAt b comes).getD k none) t
  | 0, k, c, hc => by
    have hk : k < b.length := (List.getElem?_eq_some_iff.mp hc).1
    have e : (simS b comes 0).getD k .none = .none := by
      unfold simS
      rw [List.getD_eq_getElem?_getD, List.getElem?_replicate]; split <;> rfl
    rw [e]
    cases q : comes.getD k none with
    | none => rfl
    | some x =>
      have hx : 0 ≤ x := by
        refine h0 x ?_
        rw [List.getD_eq_getElem?_getD] at q
        cases z : comes[k]? with
        | none => rw [z] at q; cases q
        | some o =>
          rw [z] at q
          have : o = some x := q
          rw [← this]; exact List.mem_of_getElem? z
      show _ = if (0 : Int) ≤ x then Wd.none else _
      rw [if_pos hx]
  | t + 1, k, c, hc => by
    induction k using Nat.strongRecOn generalizing c with
    | _ k ih =>
      have hk : k < b.length := (List.getElem?_eq_some_iff.mp hc).1
      have prev := sim_word ok h0 t k c hc
      have cok := ok.ok k c hc
      have hlen : ((lettersAt b.length comes t).foldl heardF (simS b comes t)).length = b.length := by rw [foldl_heard_len, simS_len]
      have spec := goneF_spec (t := t) ok hlen hc
      have efull : simS b comes (t + 1) = goneF b t ((lettersAt b.length comes t).foldl heardF (simS b comes t)) := rfl
      rw [← efull] at spec
      rw [spec, foldl_cmd (fun l hl => by rw [simS_len]; exact lettersAt_ok l hl), simS_len]
      simp only [mem_lettersAt]
      -- those that it wants, by now
      have wants : (∀ j ∈ c.wants, (simS b comes (t + 1)).getD j .none = .done) ↔ ∀ j ∈ c.wants, ∃ y, (doneAt b comes).getD j none = some y ∧ y ≤ t := by
        constructor
        · intro h j hj
          have hjk := cok.lt j hj
          have hbj : b[j]? = some b[j] := List.getElem?_eq_getElem (by omega)
          have z := ih j hjk _ hbj
          rw [h j hj] at z
          unfold wordAt at z
          split at z
          · cases z
          · split at z
            · cases z
            · split at z
              · rename_i d hd
                split at z
                · exact ⟨d, hd, by omega⟩
                · split at z <;> cases z
              · split at z <;> cases z
        · intro h j hj
          have hjk := cok.lt j hj
          have hbj : b[j]? = some b[j] := List.getElem?_eq_getElem (by omega)
          obtain ⟨y, hy, hyt⟩ := h j hj
          obtain ⟨⟨x, hx, hxy⟩, _⟩ := done_facts ok hbj hy
          rw [ih j hjk _ hbj, hx, hy]
          show (if ((t + 1 : Nat) : Int) ≤ x then Wd.none else if y < ((t + 1 : Nat) : Int) then Wd.done else _) = _
          rw [if_neg (by omega), if_pos (by omega)]
      have hone : ∀ w, goneOne c t (simS b comes (t + 1)) w = if w = .held then (if c.til < t then .late else if c.when ≤ t ∧ ∀ j ∈ c.wants, ∃ y, (doneAt b comes).getD j none = some y ∧ y ≤ t then .done else .held) else w := by
        intro w
        unfold goneOne
        simp only [wants]
      rw [hone]
      cases q : comes.getD k none with
      | none =>
        rw [q] at prev
        have p : (simS b comes t).getD k .none = .none := prev
        rw [p]
        simp [wordAt]
      | some x =>
        rw [q] at prev
        by_cases hxt : (t : Int) + 1 ≤ x
        · have p : (simS b comes t).getD k .none = .none := by
            rw [prev]
            show (if (t : Int) ≤ x then Wd.none else _) = _
            rw [if_pos (by omega)]
          have hw1 : (if (k < b.length ∧ some x = some (t : Int)) ∧ (simS b comes t).getD k .none = .none ∧ k < b.length then Wd.held else (simS b comes t).getD k .none) = .none := by
            rw [if_neg (by intro z; have := Option.some.inj z.1.2; omega)]
            exact p
          rw [hw1, if_neg (by intro z; cases z)]
          show _ = if ((t + 1 : Nat) : Int) ≤ x then Wd.none else _
          rw [if_pos (by omega)]
        · have target : wordAt c (some x) ((doneAt b comes).getD k none) ((t + 1 : Nat) : Int) = (match (doneAt b comes).getD k none with
              | some d => if d < ((t + 1 : Nat) : Int) then Wd.done else if c.til < ((t + 1 : Nat) : Int) - 1 then .late else .held
              | none => if c.til < ((t + 1 : Nat) : Int) - 1 then Wd.late else .held) := by
            show (if ((t + 1 : Nat) : Int) ≤ x then Wd.none else _) = _
            rw [if_neg (by omega)]
          rw [target]
          by_cases hdn : ∃ d, (doneAt b comes).getD k none = some d ∧ d < t
          · obtain ⟨d, hd, hdt⟩ := hdn
            obtain ⟨⟨x', hx', hxd⟩, _⟩ := done_facts ok hc hd
            rw [q] at hx'
            have exx : x = x' := Option.some.inj hx'
            have p : (simS b comes t).getD k .none = .done := by
              rw [prev, hd]
              show (if (t : Int) ≤ x then Wd.none else if d < (t : Int) then Wd.done else _) = _
              rw [if_neg (by omega), if_pos hdt]
            have hw1 : (if (k < b.length ∧ some x = some (t : Int)) ∧ (simS b comes t).getD k .none = .none ∧ k < b.length then Wd.held else (simS b comes t).getD k .none) = .done := by
              rw [p]
              exact if_neg (by intro z; cases z.2.1)
            rw [hw1, if_neg (by intro z; cases z), hd]
            show _ = if d < ((t + 1 : Nat) : Int) then Wd.done else _
            rw [if_pos (by omega)]
          · have notd : ∀ d, (doneAt b comes).getD k none = some d → (t : Int) ≤ d := fun d hd => by
              by_cases z : d < t
              · exact absurd ⟨d, hd, z⟩ hdn
              · omega
            -- the word once all letters are heard: held, or late already
            have hw1 : (if (k < b.length ∧ some x = some (t : Int)) ∧ (simS b comes t).getD k .none = .none ∧ k < b.length then Wd.held else (simS b comes t).getD k .none) = if x < t ∧ c.til < (t : Int) - 1 then .late else .held := by
              by_cases hx : x = t
              · have p : (simS b comes t).getD k .none = .none := by
                  rw [prev]
                  show (if (t : Int) ≤ x then Wd.none else _) = _
                  rw [if_pos (by omega)]
                rw [if_pos ⟨⟨hk, by rw [hx]⟩, p, hk⟩, if_neg (by omega)]
              · have p : (simS b comes t).getD k .none = if c.til < (t : Int) - 1 then .late else .held := by
                  rw [prev]
                  show (if (t : Int) ≤ x then Wd.none else _) = _
                  rw [if_neg (by omega)]
                  cases hq : (doneAt b comes).getD k none with
                  | none => rfl
                  | some d =>
                    have := notd d hq
                    show (if d < (t : Int) then Wd.done else _) = _
                    rw [if_neg (by omega)]
                rw [if_neg (by intro z; exact hx (Option.some.inj z.1.2)), p]
                by_cases h3 : c.til < (t : Int) - 1
                · rw [if_pos h3, if_pos ⟨by omega, h3⟩]
                · rw [if_neg h3, if_neg (fun z => h3 z.2)]
            rw [hw1]
            by_cases hl : x < t ∧ c.til < (t : Int) - 1
            · rw [if_pos hl, if_neg (by intro z; cases z)]
              cases hq : (doneAt b comes).getD k none with
              | none =>
                show _ = if c.til < ((t + 1 : Nat) : Int) - 1 then Wd.late else .held
                rw [if_pos (by omega)]
              | some d =>
                have h1 := notd d hq
                obtain ⟨_, _, h2, _⟩ := done_facts ok hc hq
                omega
            · rw [if_neg hl, if_pos rfl]
              by_cases h4 : c.til < (t : Int)
              · rw [if_pos h4]
                cases hq : (doneAt b comes).getD k none with
                | none =>
                  show _ = if c.til < ((t + 1 : Nat) : Int) - 1 then Wd.late else .held
                  rw [if_pos (by omega)]
                | some d =>
                  have h1 := notd d hq
                  obtain ⟨_, _, h2, _⟩ := done_facts ok hc hq
                  omega
              · rw [if_neg h4]
                by_cases h5 : c.when ≤ (t : Int) ∧ ∀ j ∈ c.wants, ∃ y, (doneAt b comes).getD j none = some y ∧ y ≤ (t : Int)
                · rw [if_pos h5]
                  obtain ⟨d, hd, hdt⟩ := done_by ok hc q (by omega) h5.1 (by omega) h5.2
                  rw [hd]
                  show _ = if d < ((t + 1 : Nat) : Int) then Wd.done else _
                  rw [if_pos (by omega)]
                · rw [if_neg h5]
                  cases hq : (doneAt b comes).getD k none with
                  | none =>
                    show _ = if c.til < ((t + 1 : Nat) : Int) - 1 then Wd.late else .held
                    rw [if_neg (by omega)]
                  | some d =>
                    have h1 := notd d hq
                    obtain ⟨_, h6, _, h7, _⟩ := done_facts ok hc hq
                    show _ = if d < ((t + 1 : Nat) : Int) then Wd.done else if c.til < ((t + 1 : Nat) : Int) - 1 then Wd.late else .held
                    by_cases h8 : d < ((t + 1 : Nat) : Int)
                    · exfalso
                      refine h5 ⟨by omega, fun j hj => ?_⟩
                      obtain ⟨y, hy, hyd⟩ := h7 j hj
                      exact ⟨y, hy, by omega⟩
                    · rw [if_neg h8, if_neg (by omega)]
theorem sim_done {b : List Cmd} {comes : List (Option Int)} (ok : BookOk b) (h0 : ∀ x, some x ∈ comes → 0 ≤ x) {t k : Nat} {c : Cmd} (hc : b[k]? = some c) : (simS b comes t).getD k .none = .done ↔ ∃ d, (doneAt b comes).getD k none = some d ∧ d < t := by
  rw [sim_word ok h0 t k c hc]
  constructor
  · intro z
    unfold wordAt at z
    split at z
    · cases z
    · split at z
      · cases z
      · split at z
        · rename_i d hd
          split at z
          · exact ⟨d, hd, by assumption⟩
          · split at z <;> cases z
        · split at z <;> cases z
  · rintro ⟨d, hd, hdt⟩
    obtain ⟨⟨x, hx, hxd⟩, _⟩ := done_facts ok hc hd
    rw [hx, hd]
    show (if (t : Int) ≤ x then Wd.none else if d < (t : Int) then Wd.done else _) = _
    rw [if_neg (by omega), if_pos hdt]
/-! ### all orders -/
def ordStep (many : Nat) (o : List Nat) : List (List Nat) := ((List.range many).filter fun n => decide (n ∉ o)).map fun n => o ++ [n]
def ordersK (many : Nat) : Nat → List (List Nat)
  | 0 => [[]]
  | k + 1 => (ordersK many k).flatMap (ordStep many)
def ordersF (many : Nat) : List (List Nat) := ordersK many many
structure OrdOk (many k : Nat) (o : List Nat) : Prop where
  len : o.length = k
  nd : o.Nodup
  lt : ∀ x ∈ o, x < many
  left : ((List.range many).filter fun n => decide (n ∉ o)).length + k = many
theorem ord_ok {many : Nat} : ∀ {k : Nat} {o : List Nat}, o ∈ ordersK many k → OrdOk many k o
  | 0, o, h => by
    have : o = [] := by simpa [ordersK] using h
    subst this
    refine ⟨rfl, .nil, by simp, ?_⟩
    have : ((List.range many).filter fun n => decide (n ∉ ([] : List Nat))) = List.range many := List.filter_eq_self.mpr (by simp)
    rw [this]; simp
  | k + 1, o, h => by
    rw [ordersK, List.mem_flatMap] at h
    obtain ⟨p, hp, h⟩ := h
    have ih := ord_ok hp
    unfold ordStep at h
    obtain ⟨n, hn, rfl⟩ := List.mem_map.mp h
    obtain ⟨hn1, hn2⟩ := List.mem_filter.mp hn
    have hnp : n ∉ p := of_decide_eq_true hn2
    have hnm : n < many := by simpa using hn1
    refine ⟨by simp [ih.len], ?_, ?_, ?_⟩
    · rw [List.nodup_append]
      refine ⟨ih.nd, by simp, fun a ha b hb => ?_⟩
      rw [List.mem_singleton.mp hb]
      exact fun e => hnp (e ▸ ha)
    · intro x hx
      rcases List.mem_append.mp hx with hx | hx
      · exact ih.lt x hx
      · rw [List.mem_singleton.mp hx]; exact hnm
    · have e : ((List.range many).filter fun m => decide (m ∉ p ++ [n])) = (((List.range many).filter fun m => decide (m ∉ p))).filter fun m => m != n := by
        rw [List.filter_filter]
        refine List.filter_congr fun m _ => ?_
        by_cases h1 : m = n
        · subst h1; simp
        · by_cases h2 : m ∈ p <;> simp [h1, h2]
      have nd : ((List.range many).filter fun m => decide (m ∉ p)).Nodup := List.nodup_range.filter _
      have l1 := ih.left
      rw [e, ← nd.erase_eq_filter, List.length_erase_of_mem (List.mem_filter.mpr ⟨hn1, hn2⟩)]
      have : 0 < ((List.range many).filter fun m => decide (m ∉ p)).length := List.length_pos_of_mem hn
      omega
theorem ord_all {many : Nat} {o : List Nat} (h : o ∈ ordersF many) : ∀ k, k < many → k ∈ o := by
  intro k hk
  have l := (ord_ok h).left
  have e : ((List.range many).filter fun n => decide (n ∉ o)) = [] := List.eq_nil_of_length_eq_zero (by omega)
  rw [List.filter_eq_nil_iff] at e
  have := e k (by simpa using hk)
  simpa using this
theorem flatMap_len' {α β : Type} {f : α → List β} {c : Nat} : ∀ {l : List α}, (∀ x ∈ l, (f x).length ≤ c) → (l.flatMap f).length ≤ l.length * c
  | [], _ => by simp
  | x :: l, h => by
    have h1 := h x (by simp)
    have h2 := flatMap_len' (l := l) fun y hy => h y (List.mem_cons_of_mem _ hy)
    rw [List.flatMap_cons, List.length_append, List.length_cons, Nat.succ_mul]
    omega
theorem ordersK_len {many : Nat} : ∀ {k : Nat}, (ordersK many k).length ≤ many ^ k
  | 0 => by simp [ordersK]
  | k + 1 => by
    rw [ordersK, Nat.pow_succ]
    refine Nat.le_trans (flatMap_len' (c := many) fun o _ => ?_) (Nat.mul_le_mul_right _ ordersK_len)
    unfold ordStep
    rw [List.length_map]
    exact Nat.le_trans (List.length_filter_le _ _) (by simp)
theorem ordersK_small {many k : Nat} (h : many ≤ 6) (hk : k ≤ 6) : (ordersK many k).length ≤ 46656 := by
  refine Nat.le_trans ordersK_len (Nat.le_trans (Nat.pow_le_pow_left h k) (Nat.pow_le_pow_right (n := 6) (by decide) hk))
def spOrders : DSp := fun ds M Q => ∃ many : Nat, ds = [.int many] ∧ many ≤ 6 ∧ ∀ M', Ext M M' → Q (encLL (ordersF many)) M'
section
variable {P : Program} {w : World} {K : PySem.W.Frag} {mg : Str → Option Value} {base : Heap}
theorem ok_orders {f : Addr} {fd : FuncData} (Fn : Fun K "orders" "orders" s_orders f fd) (zr : mg "range" = none) : FnOk P w K mg base CX0 1 f fd ["many"] (lift K spOrders) := by
  refine fun_ok Fn sc_orders (fun ds M Q ⟨_, e, _⟩ => by rw [e]; rfl) fun cdv A outer sh H E hr ds M Q h B => ?_
  obtain ⟨many, rfl, h6, k⟩ := h
  wtm_at "b"
  wtm_at "g orders"
  refine ex_lst (ax_cons rfl (ex_lst (ax_nil ⟨Nat.zero_le _, ax_nil ⟨by decide, ?_⟩⟩)))
  wtm_at "g orders"
  refine sx_for PassesOwn.never rfl (fun _ => rfl) ?_
  refine lx_range1 rfl zr rfl ?_
  wtm_at "g orders"
  refine ⟨_, rfl, by omega, by omega, fun i G' M' => ∃ a2 a3 a4 a5 : Option D, G' = [some (.int many), some (encLL (ordersK many i)), a2, a3, a4, a5] ∧ Ext M M', ⟨_, _, _, _, rfl, Ext.refl M⟩, ?_, ?_⟩
  · rintro i d G' M' hd ⟨a2, a3, a4, a5, rfl, hE⟩
    obtain ⟨hi, rfl⟩ := rangeD_at hd
    have h1 := ordersK_small (many := many) (k := i) h6 (by omega)
    wtm_at "g orders"
    refine ex_lstM (ax_nil ⟨Nat.zero_le _, fun c fc => ?_⟩)
    wtm_at "g orders"
    refine sx_for PassesOwn.never rfl (fun _ => rfl) ?_
    refine lx_list ?_
    wtm_at "g orders"
    refine ⟨_, rfl, fun j G2 M2 => ∃ a4 a5 : Option D, G2 = [some (.int many), some (encLL (ordersK many i)), some (.int (0 + (i : Int))), some (.ref c), a4, a5] ∧ M2 = mupd M' c (.lst ((((ordersK many i).take j).flatMap (ordStep many)).map encNs)), ⟨_, _, rfl, rfl⟩, ?_, ?_⟩
    · rintro j d G2 M2 hd2 ⟨a4, a5, rfl, rfl⟩
      rw [List.getElem?_map] at hd2
      obtain ⟨o, ho, rfl⟩ := Option.map_eq_some_iff.mp hd2
      have ook := ord_ok (List.mem_of_getElem? ho)
      have hol := ook.len
      wtm_at "g orders"
      refine ex_bmC PySem.F.slot_list_extend PySem.F.type_list_extend rfl rfl rfl rfl rfl ?_
      wtm_at "g orders"
      refine ⟨c, _, rfl, mupd_same, ?_⟩
      refine ax_cons rfl ?_
      wtm_at "lcp orders 0"
      case f => exact fun d => match d with
        | .int m => if m.toNat ∈ o then none else some (.lst (o.map encN ++ [.int m]))
        | _ => none
      refine lx_range1 rfl zr rfl ?_
      wtm_at "g orders"
      refine ⟨_, rfl, by omega, by omega, ⟨?_, fun d M3 hd3 hm => ?_⟩, ?_⟩
      · rw [rangeD_len]
        exact Nat.lt_of_le_of_lt (by omega : _ ≤ 6) (by decide)
      · obtain ⟨m, hm0⟩ := List.mem_iff_getElem?.mp hd3
        obtain ⟨hmlt, rfl⟩ := rangeD_at hm0
        have et : ((0 : Int) + (m : Int)).toNat = m := by omega
        refine fun s1 H1 C1 cl1 fp1 => txs_one ?_
        unfold encNs
        wtm_at "wb orders"
        refine ox_notInL rfl ?_ ?_
        · simp only [List.all_map, List.all_eq_true]
          intro y _; rfl
        have e0 : inD (.int (0 + (m : Int))) (o.map encN) = decide (m ∈ o) := by
          have e1 : o.map encN = (o.map fun n : Nat => (n : Int)).map D.int := by rw [List.map_map]; rfl
          rw [e1, inD_int]
          refine dec_of ?_
          simp only [Int.zero_add, List.mem_map]
          constructor
          · rintro ⟨a, ha, e⟩
            have : a = m := by omega
            exact this ▸ ha
          · exact fun hx => ⟨m, hx, rfl⟩
        rw [e0]
        refine asB_bl (ite_ndec (fun h4 => fun s2 H2 C2 cl2 fp2 => ?_) (fun h4 => ?_))
        · wtm_at "gb orders"
          refine ox_catL IsL.fz IsL.fz ?_ ⟨rfl, ?_⟩
          · rw [List.length_map]
            exact Nat.le_trans (by simp; omega : _ ≤ 8) (by decide)
          · show (if ((0 : Int) + (m : Int)).toNat ∈ o then none else _) = _
            rw [et, if_neg h4]
        · refine ⟨rfl, ?_⟩
          show (if ((0 : Int) + (m : Int)).toNat ∈ o then none else _) = _
          rw [et, if_pos h4]
      have eK : (rangeD 0 (many : Int).toNat).filterMap (fun d => match d with
        | .int m => if m.toNat ∈ o then none else some (.lst (o.map encN ++ [.int m]))
        | _ => none) = (ordStep many o).map encNs := by
        unfold rangeD ordStep
        rw [List.filterMap_map, List.map_map, Int.toNat_natCast]
        show (List.range many).filterMap (fun t : Nat => if ((0 : Int) + (t : Int)).toNat ∈ o then none else some (D.lst (o.map encN ++ [D.int (0 + (t : Int))]))) = _
        generalize List.range many = l
        induction l with
        | nil => rfl
        | cons t l ih =>
          rw [List.filterMap_cons, List.filter_cons, Int.zero_add, Int.toNat_natCast]
          by_cases h : t ∈ o
          · rw [if_pos h]
            simp only [h, not_true, decide_false, Bool.false_eq_true, if_false]
            exact ih
          · rw [if_neg h]
            simp only [h, not_false_eq_true, decide_true, if_true, List.map_cons]
            rw [ih]
            congr 1
            show D.lst (o.map encN ++ [.int (t : Int)]) = encNs (o ++ [t])
            unfold encNs
            rw [List.map_append]; rfl
      rw [eK]
      refine ax_nil (mx_extend mupd_same IsL.fz (fun z => by cases z) ?_ ?_)
      · have h2 : ((((ordersK many i).take j).flatMap (ordStep many))).length ≤ 46656 * 6 := by
          refine Nat.le_trans (flatMap_len' (c := 6) fun o _ => ?_) ?_
          · unfold ordStep
            rw [List.length_map]
            exact Nat.le_trans (List.length_filter_le _ _) (by simpa using h6)
          · refine Nat.mul_le_mul_right _ (Nat.le_trans ?_ h1)
            rw [List.length_take]; omega
        have h3 : (ordStep many o).length ≤ 6 := by
          unfold ordStep
          rw [List.length_map]
          exact Nat.le_trans (List.length_filter_le _ _) (by simpa using h6)
        rw [List.length_map, List.length_map]
        exact Nat.le_trans (by omega : _ ≤ 46656 * 6 + 6) (by decide)
      · refine ⟨_, _, rfl, ?_⟩
        rw [mupd_mupd, List.take_add_one, ho, List.flatMap_append, List.map_append]
        simp
    · rintro G2 M2 ⟨a4, a5, rfl, rfl⟩
      rw [List.length_map, List.take_length]
      refine sxs_freeze (i := 3) rfl mupd_same ?_
      rw [mdel_mupd fc]
      wtm_at "b"
      wtm_at "g orders"
      exact ⟨_, _, _, _, rfl, hE⟩
  · rintro G' M' ⟨a2, a3, a4, a5, rfl, hE⟩
    have hn : (rangeD 0 (many : Int).toNat).length = many := by rw [rangeD_len]; omega
    rw [hn]
    wtm_at "b"
    wtm_at "g orders"
    exact k M' hE
end
/-! ### the best order -/
def comesOrd (n : Nat) (d : Int) (beats order : List Nat) : List (Option Int) := (List.range n).map fun k => some (((beats.getD (order.idxOf k) 0 : Nat) : Int) + d)
/-- the beat by which all is done, if it is -/
def lastOf (b : List Cmd) (d : Int) (beats order : List Nat) : Option Int := maxO 0 (doneAt b (comesOrd b.length d beats order))
def bestStep (b : List Cmd) (d : Int) (beats : List Nat) (best : Option (Int × List Nat)) (order : List Nat) : Option (Int × List Nat) :=
  match lastOf b d beats order with
  | none => best
  | some m => if best = none ∨ ∃ z, best = some z ∧ m < z.1 then some (m, order) else best
def bestO (b : List Cmd) (d : Int) (beats : List Nat) : Option (Int × List Nat) := (ordersF b.length).foldl (bestStep b d beats) none
def encBest : Option (Int × List Nat) → D
  | none => .non
  | some z => .tup [.int z.1, encNs z.2]
theorem idx_of {o : List Nat} {k : Nat} (h : k ∈ o) : o.idxOf k < o.length ∧ o[o.idxOf k]? = some k ∧ ∀ m z, m < o.idxOf k → o[m]? = some z → z ≠ k := by
  have h1 : o.idxOf k < o.length := List.idxOf_lt_length_of_mem h
  refine ⟨h1, ?_, fun m z hm hz e => ?_⟩
  · rw [List.getElem?_eq_getElem h1, List.getElem_idxOf]
  · have h2 : m < o.length := (List.getElem?_eq_some_iff.mp hz).1
    rw [List.getElem?_eq_getElem h2] at hz
    have e2 : o[m] = k := (Option.some.inj hz).trans e
    have h3 : o.idxOf k ≤ m := by
      have : (o.findIdx (· == k)) ≤ m := by
        by_cases q : m < o.findIdx (· == k)
        · have := List.not_of_lt_findIdx q
          simp [e2] at this
        · omega
      exact this
    omega
/-- all is done -/
theorem last_none {b : List Cmd} {d : Int} {beats order : List Nat} : lastOf b d beats order = none ↔ none ∈ doneAt b (comesOrd b.length d beats order) := by
  unfold lastOf
  constructor
  · intro h
    by_cases q : none ∈ doneAt b (comesOrd b.length d beats order)
    · exact q
    · obtain ⟨_, _, m, h1, _⟩ := maxO_some (w := 0) q
      rw [h1] at h; cases h
  · exact fun h => maxO_none h
theorem done_pos {b : List Cmd} {comes : List (Option Int)} (ok : BookOk b) {x : Int} (h : some x ∈ doneAt b comes) : 0 ≤ x := by
  obtain ⟨k, hk⟩ := List.mem_iff_getElem?.mp h
  have hkl := (List.getElem?_eq_some_iff.mp hk).1
  rw [doneAt_len] at hkl
  have hb : b[k]? = some b[k] := List.getElem?_eq_getElem hkl
  have hd : (doneAt b comes).getD k none = some x := by rw [List.getD_eq_getElem?_getD, hk]; rfl
  have h1 := (done_facts ok hb hd).2.1
  have h2 := (ok.ok k _ hb).w0
  omega
/-- max(done) -/
theorem max_done {b : List Cmd} {comes : List (Option Int)} (ok : BookOk b) (h : none ∉ doneAt b comes) : ∃ ns : List Int, (doneAt b comes).map encO' = ns.map D.int ∧ ns ≠ [] ∧ ∃ m, maxO 0 (doneAt b comes) = some m ∧ ∀ m', m' ∈ ns → (∀ y ∈ ns, y ≤ m') → m' = m := by
  obtain ⟨ns, e, m, h1, h2, h3⟩ := maxO_some (w := 0) h
  have hl : ns.length = b.length := by
    have := congrArg List.length e
    rw [List.length_map, List.length_map, doneAt_len] at this
    exact this.symm
  have hne : ns ≠ [] := fun z => ok.ne (List.eq_nil_of_length_eq_zero (by rw [← hl, z]; rfl))
  refine ⟨ns, e, hne, m, h1, fun m' hm hy => ?_⟩
  have pos : ∀ y ∈ ns, 0 ≤ y := fun y hy => by
    have : D.int y ∈ (doneAt b comes).map encO' := by rw [e]; exact List.mem_map.mpr ⟨y, hy, rfl⟩
    obtain ⟨o, ho, e2⟩ := List.mem_map.mp this
    cases o with
    | none => cases e2
    | some x =>
      have : x = y := D.int.inj e2
      subst this
      exact done_pos ok ho
  have a := h3 m' (List.mem_append_left _ hm)
  rcases List.mem_append.mp h2 with z | z
  · have := hy m z; omega
  · have : m = 0 := by simpa using z
    have := pos m' hm
    omega
def spBestOrder : DSp := fun ds M Q => ∃ (b : List Cmd) (d : Int) (beats : List Nat), ds = [encB b, .int d, .lst (beats.map encN)] ∧ BookOk b ∧ b.length ≤ 6 ∧ beats.length = b.length ∧ ∀ M', Ext M M' → Q (encBest (bestO b d beats)) M'
section
variable {P : Program} {w : World} {K : PySem.W.Frag} {mg : Str → Option Value} {base : Heap}
theorem ok_best_order {f : Addr} {fd : FuncData} (Fn : Fun K "best_order" "best_order" s_best_order f fd) (zl : mg "len" = none) (zr : mg "range" = none) (zx : mg "max" = none) (dO : Dfn P w K mg base 1 "orders" spOrders) (dD : Dfn P w K mg base 1 "done_at" spDoneAt) : FnOk P w K mg base CX0 2 f fd ["book", "delay", "beats"] (lift K spBestOrder) := by
  refine fun_ok Fn sc_best_order (fun ds M Q ⟨_, _, _, e, _⟩ => by rw [e]; rfl) fun cdv A outer sh H E hr ds M Q h B => ?_
  obtain ⟨b, d, beats, rfl, ok, h6, hbl, k⟩ := h
  have eB : encB b = .tup (b.map Cmd.enc) := rfl
  rw [eB]
  wtm_at "b"
  wtm_at "g best_order"
  refine sx_for PassesOwn.never rfl (fun _ => rfl) ?_
  refine lx_list ?_
  wtm_at "g best_order"
  refine ⟨b.length, by rw [List.length_map], h6, fun M1 hE1 => ?_⟩
  refine ⟨_, rfl, fun j G' M' => ∃ (best : Option (Int × List Nat)) (a4 a5 a6 a7 : Option D), G' = [some (encB b), some (.int d), some (.lst (beats.map encN)), some (encBest best), a4, a5, a6, a7] ∧ best = ((ordersF b.length).take j).foldl (bestStep b d beats) none ∧ Ext M M', ⟨none, _, _, _, _, rfl, rfl, hE1⟩, ?_, ?_⟩
  · rintro j dd G' M' hd ⟨best, a4, a5, a6, a7, rfl, hbest, hE⟩
    rw [List.getElem?_map] at hd
    obtain ⟨o, ho, rfl⟩ := Option.map_eq_some_iff.mp hd
    have hom := List.mem_of_getElem? ho
    have ook := ord_ok hom
    have enext : ((ordersF b.length).take (j + 1)).foldl (bestStep b d beats) none = bestStep b d beats best o := by
      rw [List.take_add_one, ho, List.foldl_append, hbest]; rfl
    rw [eB]
    wtm_at "v best_order"
    wtm_at "b"
    wtm_at "slcp best_order 0"
    case f => exact fun d0 => match d0 with
      | .int m => some (.int (((beats.getD (o.idxOf m.toNat) 0 : Nat) : Int) + d))
      | _ => none
    refine lx_range1 rfl zr rfl ?_
    wtm_at "g best_order"
    rw [List.length_map]
    refine ⟨_, rfl, by omega, by omega, ⟨?_, fun d0 M3 hd3 hm => ?_⟩, ?_⟩
    · rw [rangeD_len]
      exact Nat.lt_of_le_of_lt (by omega : _ ≤ 6) (by decide)
    · obtain ⟨m, hm0⟩ := List.mem_iff_getElem?.mp hd3
      obtain ⟨hmlt, rfl⟩ := rangeD_at hm0
      have et : ((0 : Int) + (m : Int)).toNat = m := by omega
      obtain ⟨i1, i2, i3⟩ := idx_of (ord_all hom m (by omega))
      have hol := ook.len
      refine fun s1 H1 C1 cl1 fp1 => txs_nil (iteT fun s2 H2 C2 cl2 fp2 => ?_)
      wtm_at "wb best_order"
      refine ex_bmL PySem.F.slot_list_index PySem.F.type_list_index rfl rfl rfl rfl rfl ?_
      wtm_at "wb best_order"
      refine ⟨_, IsL.fz, ?_⟩
      wtm_at "wb best_order"
      refine mx_index (j := o.idxOf m) IsL.fz rfl ?_ ⟨encN m, by rw [List.getElem?_map, i2]; rfl, ?_⟩ (fun q z hq hz => ?_) ?_
      · simp only [List.all_map, List.all_eq_true]
        intro y _; rfl
      · show ((m : Int) == 0 + (m : Int)) = true
        rw [Int.zero_add]; exact beq_self_eq_true _
      · rw [List.getElem?_map] at hz
        obtain ⟨x, hx, rfl⟩ := Option.map_eq_some_iff.mp hz
        have := i3 q x hq hx
        show ((x : Int) == 0 + (m : Int)) = false
        rw [Int.zero_add]
        exact beq_eq_false_iff_ne.mpr (by omega)
      have hb2 : (beats.map encN)[o.idxOf m]? = some (encN (beats.getD (o.idxOf m) 0)) := by
        rw [List.getElem?_map, List.getElem?_eq_getElem (by omega), List.getD_eq_getElem?_getD, List.getElem?_eq_getElem (by omega)]; rfl
      refine ix_l (atI_of rfl hb2) ?_
      unfold encN
      wtm_at "wb best_order"
      refine ⟨rfl, ?_⟩
      show some (D.int (((beats.getD (o.idxOf ((0 : Int) + (m : Int)).toNat) 0 : Nat) : Int) + d)) = _
      rw [et]
    have eC : (rangeD 0 (b.length : Int).toNat).filterMap (fun d0 => match d0 with
      | .int m => some (.int (((beats.getD (o.idxOf m.toNat) 0 : Nat) : Int) + d))
      | _ => none) = (comesOrd b.length d beats o).map encO' := by
      unfold rangeD comesOrd
      rw [List.filterMap_map, List.map_map, Int.toNat_natCast]
      show (List.range b.length).filterMap (fun t : Nat => some (D.int (((beats.getD (o.idxOf ((0 : Int) + (t : Int)).toNat) 0 : Nat) : Int) + d))) = _
      rw [List.filterMap_eq_map']
      refine List.map_congr_left fun t _ => ?_
      rw [Int.zero_add, Int.toNat_natCast]; rfl
    rw [eC]
    have hcl : (comesOrd b.length d beats o).length = b.length := by simp [comesOrd]
    wtm_at "g best_order"
    refine ⟨b, comesOrd b.length d beats o, rfl, ok, hcl, ?_⟩
    wtm_at "g best_order"
    refine ox_notInL rfl flat_encO ?_
    rw [inD_non]
    clear hbest
    refine asB_bl (ite_ndec (fun hn => ?_) (fun hn => ?_))
    · obtain ⟨ns, ens, hne, m, hm1, hm2⟩ := max_done ok hn
      have el : lastOf b d beats o = some m := hm1
      have es : bestStep b d beats best o = if best = none ∨ ∃ z, best = some z ∧ m < z.1 then some (m, o) else best := by
        unfold bestStep; rw [el]
      cases best with
      | none =>
        wtm_at "g best_order"
        rw [ens]
        refine bx_maxL rfl IsL.fz hne fun m' g1 g2 => ?_
        have e := hm2 m' g1 g2
        subst e
        wtm_at "g best_order"
        exact ⟨some (m', o), _, _, _, _, rfl, by rw [enext, es, if_pos (.inl rfl)], hE⟩
      | some z =>
        wtm_at "g best_order"
        rw [ens]
        refine bx_maxL rfl IsL.fz hne fun m' g1 g2 => ?_
        have e := hm2 m' g1 g2
        subst e
        unfold encBest
        wtm_at "g best_order"
        refine ite_dec (fun h1 => ?_) (fun h1 => ?_)
        · wtm_at "g best_order"
          refine bx_maxL rfl IsL.fz hne fun m2 g1 g2 => ?_
          have e := hm2 m2 g1 g2
          subst e
          wtm_at "g best_order"
          exact ⟨some (m2, o), _, _, _, _, rfl, by rw [enext, es, if_pos (.inr ⟨z, rfl, h1⟩)], hE⟩
        · wtm_at "g best_order"
          refine ⟨some z, _, _, _, _, rfl, ?_, hE⟩
          rw [enext, es, if_neg (by
            rintro (q | ⟨y, hy, q⟩)
            · cases q
            · cases hy; exact h1 q)]
    · have el : lastOf b d beats o = none := last_none.mpr hn
      wtm_at "g best_order"
      refine ⟨best, _, _, _, _, rfl, ?_, hE⟩
      rw [enext]
      unfold bestStep
      rw [el]
  · rintro G' M' ⟨best, a4, a5, a6, a7, rfl, hbest, hE⟩
    have hn : (List.map encNs (ordersF b.length)).length = (ordersF b.length).length := List.length_map ..
    rw [hn, List.take_length] at hbest
    rw [hbest]
    wtm_at "b"
    wtm_at "g best_order"
    exact k M' hE
end
/-! ### sent so often that some may be lost -/
def sturdyF (b : List Cmd) (d : Int) (ws : List (Int × Int)) (lost : Nat) : Option (Int × List (Int × Nat)) :=
  if (beatsF ws ((lost + 1) * b.length)).length < (lost + 1) * b.length then none else
  match bestO b d ((List.range b.length).filterMap fun k => (beatsF ws ((lost + 1) * b.length))[lost + (lost + 1) * k]?) with
  | none => none
  | some z => some (z.1, (List.range ((lost + 1) * b.length)).map fun k => (((beatsF ws ((lost + 1) * b.length)).getD k 0 : Nat), z.2.getD (k / (lost + 1)) 0))
def spSturdy : DSp := fun ds M Q => ∃ (b : List Cmd) (d : Int) (ws : List (Int × Int)) (lost : Nat), ds = [encB b, .int d, encWn ws, .int lost] ∧ BookOk b ∧ 1 ≤ d ∧ d ≤ 9 ∧ WinFrom 0 ws ∧ ws.length ≤ 1000 ∧ lost ≤ 3 ∧ b.length ≤ 6 ∧
  ∀ M', Ext M M' → (sturdyF b d ws lost = none → Q .non M') ∧ ∀ m sends l, sturdyF b d ws lost = some (m, sends) → M l = none → M' l = some (.lst (sends.map encSd)) → Q (.tup [.int m, .ref l]) M'
def spSoonest : DSp := fun ds M Q => ∃ (b : List Cmd) (d : Int) (ws : List (Int × Int)), ds = [encB b, .int d, encWn ws] ∧ BookOk b ∧ 1 ≤ d ∧ d ≤ 9 ∧ WinFrom 0 ws ∧ ws.length ≤ 1000 ∧ b.length ≤ 6 ∧
  ∀ M', Ext M M' → (sturdyF b d ws 0 = none → Q .non M') ∧ ∀ m sends l, sturdyF b d ws 0 = some (m, sends) → M l = none → M' l = some (.lst (sends.map encSd)) → Q (.tup [.int m, .ref l]) M'
theorem best_mem {b : List Cmd} {d : Int} {beats : List Nat} {z : Int × List Nat} (h : bestO b d beats = some z) : z.2 ∈ ordersF b.length := by
  have key : ∀ (xs : List (List Nat)) (r : Option (Int × List Nat)), (∀ y, r = some y → y.2 ∈ ordersF b.length) → (∀ o ∈ xs, o ∈ ordersF b.length) → ∀ y, xs.foldl (bestStep b d beats) r = some y → y.2 ∈ ordersF b.length := by
    intro xs
    induction xs with
    | nil => exact fun r hr _ y hy => hr y hy
    | cons o xs ih =>
      intro r hr hx y hy
      refine ih _ (fun y hy => ?_) (fun o ho => hx o (List.mem_cons_of_mem _ ho)) y hy
      unfold bestStep at hy
      split at hy
      · exact hr y hy
      · split at hy
        · cases hy; exact hx o (by simp)
        · exact hr y hy
  exact key _ none (fun y hy => by cases hy) (fun o ho => ho) z h
theorem beatsF_le {ws : List (Int × Int)} {n : Nat} : (beatsF ws n).length ≤ n := by
  unfold beatsF
  rw [List.length_take]; omega
section
variable {P : Program} {w : World} {K : PySem.W.Frag} {mg : Str → Option Value} {base : Heap}
theorem ok_sturdy {f : Addr} {fd : FuncData} (Fn : Fun K "sturdy" "sturdy" s_sturdy f fd) (zl : mg "len" = none) (zr : mg "range" = none) (gM : Cst K mg "MOST_LOST" (.int 3)) (gO : Cst K mg "MOST_ORDERED" (.int 6)) (dB : Dfn P w K mg base 3 "need_book" spNeedBook) (dD : Dfn P w K mg base 2 "need_delay" spNeedDelay) (dW : Dfn P w K mg base 2 "need_windows" spNeedWindows)
    (dN : Dfn P w K mg base 1 "is_number" spIsNumber) (dO : Dfn P w K mg base 2 "open_beats" spOpenBeats) (dBo : Dfn P w K mg base 2 "best_order" spBestOrder) : FnOk P w K mg base CX0 4 f fd ["book", "delay", "windows", "lost"] (lift K spSturdy) := by
  refine fun_ok Fn sc_sturdy (fun ds M Q ⟨_, _, _, _, e, _⟩ => by rw [e]; rfl) fun cdv A outer sh H E hr ds M Q h B => ?_
  obtain ⟨b, d, ws, lost, rfl, ok, d1, d9, hw, hwl, hl3, hb6, k⟩ := h
  have hbp : 0 < b.length := List.length_pos_iff.mpr ok.ne
  have eB : encB b = .tup (b.map Cmd.enc) := rfl
  wtm_at "b"
  wtm_at "g sturdy"
  refine ⟨b, rfl, ok, ?_⟩
  wtm_at "g sturdy"
  refine ⟨d, rfl, d1, d9, ?_⟩
  wtm_at "g sturdy"
  refine ⟨ws, rfl, hw, ?_⟩
  wtm_at "g sturdy"
  refine num_ok (by omega) (by omega) ?_
  rw [eB]
  wtm_at "g sturdy"
  rw [List.length_map]
  refine ite_dec (fun h => by omega) (fun _ => ?_)
  wtm_at "g sturdy"
  rw [List.length_map]
  refine ox_mul (.inl ⟨by omega, by omega⟩) ?_
  have hmulN : ((lost : Int) + 1) * (b.length : Int) = (((lost + 1) * b.length : Nat) : Int) := by simp
  rw [hmulN]
  generalize hN : (lost + 1) * b.length = N
  have hN24 : N ≤ 24 := by
    have : (lost + 1) * b.length ≤ 4 * 6 := Nat.mul_le_mul (by omega) hb6
    omega
  wtm_at "g sturdy"
  refine ⟨ws, N, rfl, hwl, ?_⟩
  wtm_at "g sturdy"
  rw [List.length_map, List.length_map]
  refine ox_mul (.inl ⟨by omega, by omega⟩) ?_
  rw [hmulN, hN]
  have hble := beatsF_le (ws := ws) (n := N)
  wtm_at "g sturdy"
  refine ite_dec (fun h1 => ?_) (fun h1 => ?_)
  · wtm_at "g sturdy"
    refine (k M (Ext.refl M)).1 ?_
    unfold sturdyF
    rw [hN, if_pos (by omega)]
  have hbl : (beatsF ws N).length = N := by omega
  have eS : sturdyF b d ws lost = match bestO b d ((List.range b.length).filterMap fun k => (beatsF ws N)[lost + (lost + 1) * k]?) with
      | none => none
      | some z => some (z.1, (List.range N).map fun k => (((beatsF ws N).getD k 0 : Nat), z.2.getD (k / (lost + 1)) 0)) := by
    unfold sturdyF
    rw [hN, if_neg (by omega)]
  wtm_at "g sturdy"
  try (refine ⟨_, (rfl : D.int _ = D.int _), ?_⟩; wtm_at "g sturdy")
  refine ⟨_, _, IsL.fz, rfl, by omega, ?_⟩
  have e1 : ((lost : Int) + 1) = ((lost + 1 : Nat) : Int) := by omega
  have ePick : pickOf ((beatsF ws N).map encN) (some (lost : Int)) none (some ((lost : Int) + 1)) = ((List.range b.length).filterMap fun k => (beatsF ws N)[lost + (lost + 1) * k]?).map encN := by
    rw [e1, pick_from (n := b.length) (by omega) (by omega) (by rw [List.length_map, hbl, hN]), List.map_filterMap]
    refine congrArg (fun f => List.filterMap f (List.range b.length)) (funext fun k => ?_)
    rw [List.getElem?_map]
  have hplen : ((List.range b.length).filterMap fun k => (beatsF ws N)[lost + (lost + 1) * k]?).length = b.length := by
    have key : ∀ (l : List Nat), (∀ k ∈ l, k < b.length) → (l.filterMap fun k => (beatsF ws N)[lost + (lost + 1) * k]?).length = l.length := by
      intro l
      induction l with
      | nil => exact fun _ => rfl
      | cons k l ih =>
        intro hk
        have h1 := hk k (by simp)
        have h2 : lost + (lost + 1) * k < (beatsF ws N).length := by
          rw [hbl, ← hN]
          have : (lost + 1) * (k + 1) ≤ (lost + 1) * b.length := Nat.mul_le_mul_left _ h1
          rw [Nat.mul_succ] at this
          omega
        rw [List.filterMap_cons, List.getElem?_eq_getElem h2]
        simp only [List.length_cons]
        rw [ih fun k hk' => hk k (List.mem_cons_of_mem _ hk')]
    rw [key _ (by simp), List.length_range]
  rw [ePick]
  wtm_at "g sturdy"
  refine ⟨b, d, _, rfl, ok, hb6, hplen, fun M1 hE1 => ?_⟩
  generalize ((List.range b.length).filterMap fun k => (beatsF ws N)[lost + (lost + 1) * k]?) = pk at *
  wtm_at "g sturdy"
  cases hq : bestO b d pk with
  | none =>
    rw [hq] at eS
    wtm_at "g sturdy"
    exact (k M1 hE1).1 eS
  | some z =>
    rw [hq] at eS
    have ook := ord_ok (best_mem hq)
    have hzl := ook.len
    unfold encBest
    wtm_at "g sturdy"
    wtm_at "lcpM sturdy 0"
    case f => exact fun d0 => match d0 with
      | .int m => some (encSd (((beatsF ws N).getD m.toNat 0 : Nat), z.2.getD (m.toNat / (lost + 1)) 0))
      | _ => none
    refine lx_range1 rfl zr rfl ?_
    wtm_at "g sturdy"
    rw [List.length_map, hbl]
    refine ⟨_, rfl, by omega, by omega, ⟨?_, fun d0 M3 hd3 hm => ?_⟩, fun l fl => ?_⟩
    · rw [rangeD_len]
      exact Nat.lt_of_le_of_lt (by omega : _ ≤ 24) (by decide)
    · obtain ⟨m, hm0⟩ := List.mem_iff_getElem?.mp hd3
      obtain ⟨hmlt, rfl⟩ := rangeD_at hm0
      have et : ((0 : Int) + (m : Int)).toNat = m := by omega
      have hmN : m < N := by omega
      have hdiv : m / (lost + 1) < b.length := by
        rw [Nat.div_lt_iff_lt_mul (by omega), Nat.mul_comm]
        omega
      have g1 : ((beatsF ws N).map encN)[m]? = some (encN ((beatsF ws N).getD m 0)) := by
        rw [List.getElem?_map, List.getElem?_eq_getElem (by omega), List.getD_eq_getElem?_getD, List.getElem?_eq_getElem (by omega)]; rfl
      have g2 : (z.2.map encN)[m / (lost + 1)]? = some (encN (z.2.getD (m / (lost + 1)) 0)) := by
        rw [List.getElem?_map, List.getElem?_eq_getElem (by omega), List.getD_eq_getElem?_getD, List.getElem?_eq_getElem (by omega)]; rfl
      refine fun s1 H1 C1 cl1 fp1 => txs_nil (iteT fun s2 H2 C2 cl2 fp2 => ?_)
      wtm_at "wb sturdy"
      refine ix_l (atI_of (Int.zero_add _) g1) ?_
      wtm_at "gb sturdy"
      refine ox_fdiv ⟨by omega, by omega⟩ ?_
      unfold encNs
      refine ix_l (atI_of (j := m / (lost + 1)) ?_ g2) ?_
      · rw [Int.zero_add, e1]
        exact (Int.natCast_ediv _ _).symm
      wtm_at "gb sturdy"
      refine ⟨rfl, ?_⟩
      show some (encSd (((beatsF ws N).getD ((0 : Int) + (m : Int)).toNat 0 : Nat), z.2.getD (((0 : Int) + (m : Int)).toNat / (lost + 1)) 0)) = _
      rw [et]; rfl
    wtm_at "g sturdy"
    refine (k (mupd M1 l _) (hE1.trans (Ext.new fl))).2 z.1 _ l eS (hE1.free fl) ?_
    rw [mupd_same]
    congr 2
    unfold rangeD
    rw [List.filterMap_map, List.map_map, Int.toNat_natCast]
    show (List.range N).filterMap (fun t : Nat => some (encSd (((beatsF ws N).getD ((0 : Int) + (t : Int)).toNat 0 : Nat), z.2.getD (((0 : Int) + (t : Int)).toNat / (lost + 1)) 0))) = _
    rw [List.filterMap_eq_map']
    refine List.map_congr_left fun t _ => ?_
    rw [Int.zero_add, Int.toNat_natCast]; rfl
theorem ok_soonest {f : Addr} {fd : FuncData} (Fn : Fun K "soonest" "soonest" s_soonest f fd) (dS : Dfn P w K mg base 4 "sturdy" spSturdy) : FnOk P w K mg base CX0 5 f fd ["book", "delay", "windows"] (lift K spSoonest) := by
  refine fun_ok Fn sc_soonest (fun ds M Q ⟨_, _, _, e, _⟩ => by rw [e]; rfl) fun cdv A outer sh H E hr ds M Q h B => ?_
  obtain ⟨b, d, ws, rfl, ok, d1, d9, hw, hwl, hb6, k⟩ := h
  wtm_at "b"
  wtm_at "g soonest"
  exact ⟨b, d, ws, 0, rfl, ok, d1, d9, hw, hwl, by decide, hb6, k⟩
end
/-! ### the law's draws -/
/-- the row: the script, a place, a mix -/
def rowO (ns : List Int) (i z : Int) : MO := .lst [.fzl (ns.map D.int), .int i, .int z]
def Row (ns : List Int) (r : Addr) (M : Mem) : Prop := ∃ (i : Nat) (z : Int), M r = some (rowO ns i z) ∧ 0 ≤ z ∧ z < 2147483647
/-- all but the cell r is as it was -/
def But (r : Addr) (M M' : Mem) : Prop := ∀ a, a ≠ r → M' a = M a
def spTaken : DSp := fun ds M Q => ∃ (ns : List Int) (r : Addr) (many : Int), ds = [.ref r, .int many] ∧ Row ns r M ∧ 0 < many ∧ ∀ k M', 0 ≤ k → k < many → Row ns r M' → But r M M' → Q (.int k) M'
section
variable {P : Program} {w : World} {K : PySem.W.Frag} {mg : Str → Option Value} {base : Heap}
theorem ok_taken {f : Addr} {fd : FuncData} (Fn : Fun K "_law_taken" "_law_taken" s_L_taken f fd) (zl : mg "len" = none) : FnOk P w K mg base CX0 1 f fd ["_law_row", "_law_many"] (lift K spTaken) := by
  refine fun_ok Fn sc_L_taken (fun ds M Q ⟨_, _, _, e, _⟩ => by rw [e]; rfl) fun cdv A outer s H E hr ds M Q h B => ?_
  obtain ⟨ns, r, many, rfl, ⟨i, z, hM, z0, z1⟩, hm, k⟩ := h
  wtm_at "b"
  have bl : Blt (X_L_taken P w K mg base f cdv A outer s H E) "len" (.builtin "len") := ⟨rfl, zl, PySem.boot_len, by decide, by decide⟩
  wtm_at "w L_taken"
  refine ix_c hM (d := .int i) rfl ?_
  wtm_at "w L_taken"
  refine gx_sub (fun _ => rfl) ?_
  wtm_at "w L_taken"
  refine ⟨r, _, 1, 1, rfl, rfl, hM, rfl, ?_⟩
  have h1 : ∀ (j w : Int), But r M (mupd M r (rowO ns j w)) := fun j w a ha => mupd_ne ha
  show SXs _ _ _ _ _ (mupd M r (rowO ns ((i : Int) + 1) z))
  wtm_at "w L_taken"
  refine ix_c mupd_same (d := .int ((i : Int) + 1)) rfl ?_

  wtm_at "w L_taken"
  refine ix_c mupd_same (d := .fzl (ns.map D.int)) rfl ?_
  wtm_at "w L_taken"
  rw [List.length_map]
  refine ite_dec (fun hlt => ?_) (fun hlt => ?_)
  · wtm_at "w L_taken"
    refine ix_c mupd_same (d := .int z) rfl ?_
    wtm_at "w L_taken"
    refine ox_mul (Or.inr ⟨by decide, by decide⟩) ?_
    wtm_at "w L_taken"
    refine ox_mod (by decide) ?_
    refine gx_sub (fun _ => rfl) ?_
    wtm_at "w L_taken"
    refine ⟨r, _, 2, 2, rfl, rfl, mupd_same, rfl, ?_⟩
    rw [mupd_mupd]
    show SXs _ _ _ _ _ (mupd M r (rowO ns ((i : Int) + 1) ((z * 48271 + 11) % 2147483647)))
    wtm_at "w L_taken"
    refine ix_c mupd_same (d := .int ((z * 48271 + 11) % 2147483647)) rfl ?_
    wtm_at "w L_taken"
    refine ox_fdiv ⟨by decide, by decide⟩ ?_
    wtm_at "w L_taken"
    refine ox_mod hm ?_
    exact k _ _ (Int.emod_nonneg _ (by omega)) (Int.emod_lt_of_pos _ hm) ⟨i + 1, _, by rw [mupd_same]; rfl, Int.emod_nonneg _ (by decide), Int.emod_lt_of_pos _ (by decide)⟩ (h1 _ _)
  · have hi : i < ns.length := by omega
    wtm_at "w L_taken"
    refine ix_c mupd_same (d := .fzl (ns.map D.int)) rfl ?_
    wtm_at "w L_taken"
    refine ix_c mupd_same (d := .int ((i : Int) + 1)) rfl ?_
    wtm_at "w L_taken"
    refine ix_f (d := .int (ns[i])) (atI_of (j := i) (by omega) (by simp)) ?_
    wtm_at "w L_taken"
    refine ix_c mupd_same (d := .int z) rfl ?_
    wtm_at "w L_taken"
    refine ox_mul (Or.inr ⟨by decide, by decide⟩) ?_
    wtm_at "w L_taken"
    refine ox_mod (by decide) ?_
    refine gx_sub (fun _ => rfl) ?_
    wtm_at "w L_taken"
    refine ⟨r, _, 2, 2, rfl, rfl, mupd_same, rfl, ?_⟩
    rw [mupd_mupd]
    show SXs _ _ _ _ _ (mupd M r (rowO ns ((i : Int) + 1) ((z * 48271 + ns[i] + 11) % 2147483647)))
    wtm_at "w L_taken"
    refine ox_mod hm ?_
    exact k _ _ (Int.emod_nonneg _ (by omega)) (Int.emod_lt_of_pos _ hm) ⟨i + 1, _, by rw [mupd_same]; rfl, Int.emod_nonneg _ (by decide), Int.emod_lt_of_pos _ (by decide)⟩ (h1 _ _)
end
/-! ### a drawn book -/
/-- all cells but r are there as they were -/
def Kpt (r : Addr) (M M' : Mem) : Prop := ∀ a o, a ≠ r → M a = some o → M' a = some o
theorem But.kpt {r : Addr} {M M' : Mem} (h : But r M M') : Kpt r M M' := fun a o ha e => by rw [h a ha]; exact e
theorem Kpt.refl (r : Addr) (M : Mem) : Kpt r M M := fun _ _ _ h => h
theorem Kpt.trans {r : Addr} {M M1 M2 : Mem} (h : Kpt r M M1) (g : Kpt r M1 M2) : Kpt r M M2 := fun a o ha e => g a o ha (h a o ha e)
theorem Kpt.new {r l : Addr} {M M' : Mem} {o : MO} (h : Kpt r M M') (hl : M l = none) : Kpt r M (mupd M' l o) := fun a u ha e => by
  rw [mupd_ne (mne e hl)]; exact h a u ha e
theorem Ext.kpt {r : Addr} {M M' : Mem} (h : Ext M M') : Kpt r M M' := fun a o _ e => h a o e
theorem Row.ne {ns : List Int} {r l : Addr} {M : Mem} (h : Row ns r M) (hl : M l = none) : l ≠ r := fun e => by
  obtain ⟨i, z, h, _⟩ := h
  rw [e, h] at hl; cases hl
theorem Row.upd {ns : List Int} {r l : Addr} {M : Mem} {o : MO} (h : Row ns r M) (hl : l ≠ r) : Row ns r (mupd M l o) := by
  obtain ⟨i, z, h, h2⟩ := h
  exact ⟨i, z, by rw [mupd_ne (Ne.symm hl)]; exact h, h2⟩
theorem Row.del {ns : List Int} {r l : Addr} {M : Mem} (h : Row ns r M) (hl : l ≠ r) : Row ns r (mdel M l) := by
  obtain ⟨i, z, h, h2⟩ := h
  exact ⟨i, z, by unfold mdel; rw [if_neg (Ne.symm hl)]; exact h, h2⟩
theorem Row.ext {ns : List Int} {r : Addr} {M M' : Mem} (h : Row ns r M) (e : Ext M M') : Row ns r M' := by
  obtain ⟨i, z, h, h2⟩ := h
  exact ⟨i, z, e _ _ h, h2⟩
/-- commands of a drawn book -/
def BookTo (b : List Cmd) (far : Int) : Prop := ∀ c ∈ b, c.til ≤ far
def spBook : DSp := fun ds M Q => ∃ (ns : List Int) (r : Addr) (most far : Int), ds = [.ref r, .int most, .int far] ∧ Row ns r M ∧ 1 ≤ most ∧ most ≤ 8 ∧ 6 ≤ far ∧ far ≤ 200 ∧
  ∀ (b : List Cmd) (M' : Mem), BookOk b → (b.length : Int) ≤ most → BookTo b far → Row ns r M' → Kpt r M M' → Q (encB b) M'
section
variable {P : Program} {w : World} {K : PySem.W.Frag} {mg : Str → Option Value} {base : Heap}
theorem ok_L_book {f : Addr} {fd : FuncData} (Fn : Fun K "_law_book" "_law_book" s_L_book f fd) (zr : mg "range" = none) (zt : mg "tuple" = none) (zx : mg "max" = none) (zm : mg "min" = none) (dT : Dfn P w K mg base 1 "_law_taken" spTaken) : FnOk P w K mg base CX0 2 f fd ["_law_row", "_law_most", "_law_far"] (lift K spBook) := by
  refine fun_ok Fn sc_L_book (fun ds M Q ⟨_, _, _, _, e, _⟩ => by rw [e]; rfl) fun cdv A outer s H E hr ds M Q h B => ?_
  obtain ⟨ns, r, most, far, rfl, hR, m1, m8, f6, f200, k⟩ := h
  wtm_at "b"
  wtm_at "g L_book"
  refine ex_lstM (ax_nil ⟨Nat.zero_le _, fun c fc => ?_⟩)
  have hcr : c ≠ r := hR.ne fc
  wtm_at "g L_book"
  refine sx_for PassesOwn.never rfl (fun _ => rfl) ?_
  refine lx_range1 rfl zr rfl ?_
  wtm_at "g L_book"
  refine ⟨ns, r, _, rfl, hR.upd hcr, by omega, fun k0 M0 z0 z1 hR0 hB0 => ?_⟩
  wtm_at "g L_book"
  refine ⟨_, rfl, by omega, by omega, fun i G' M' => ∃ (b : List Cmd) (a4 a5 a6 a7 a8 : Option D), G' = [some (.ref r), some (.int most), some (.int far), some (.ref c), a4, a5, a6, a7, a8] ∧ b.length = i ∧ (∀ j cm, b[j]? = some cm → CmdOk cm j ∧ cm.til ≤ far) ∧ Row ns r M' ∧ M' c = some (.lst (b.map Cmd.enc)) ∧ Kpt r M M',
    ⟨[], _, _, _, _, _, rfl, rfl, by simp, hR0, by rw [hB0 c hcr]; exact mupd_same, (Ext.kpt (Ext.new fc)).trans hB0.kpt⟩, ?_, ?_⟩
  · rintro i d G' M' hd ⟨b, a4, a5, a6, a7, a8, rfl, hbl, hb, hR1, hc, hK⟩
    obtain ⟨hi, rfl⟩ := rangeD_at hd
    wtm_at "g L_book"
    refine ox_fdiv ⟨by decide, by decide⟩ ?_
    wtm_at "g L_book"
    refine ⟨ns, r, _, rfl, hR1, by decide, fun k2 M2 a0 a1 hR2 hB2 => ?_⟩
    refine ix_li (ns := [far / 2 + 1, 4]) a0 a1 fun top htop => ?_
    have ht : top = far / 2 + 1 ∨ top = 4 := by simpa using htop
    wtm_at "g L_book"
    refine ⟨ns, r, _, rfl, hR2, by omega, fun when M3 b0 b1 hR3 hB3 => ?_⟩
    have hwf : when ≤ far := by omega
    wtm_at "g L_book"
    refine ⟨ns, r, _, rfl, hR3, by decide, fun k4 M4 c0 c1 hR4 hB4 => ?_⟩
    wtm_at "g L_book"
    refine bx_min2 rfl ?_
    wtm_at "g L_book"
    refine ⟨ns, r, _, rfl, hR4, by decide, fun k5 M5 e0 e1 hR5 hB5 => ?_⟩
    refine ix_li (ns := [far, if when + k4 < far then when + k4 else far]) e0 e1 fun til htil => ?_
    have ht2 : til = far ∨ til = if when + k4 < far then when + k4 else far := by simpa using htil
    have ht3 : til ≤ far := by
      rcases ht2 with e | e
      · omega
      · rw [e]; split <;> omega
    wtm_at "g L_book"
    wtm_at "lc L_book 0"
    refine lx_range1 rfl zr rfl ?_
    wtm_at "g L_book"
    refine ⟨_, rfl, by omega, by omega, fun L hL => ?_⟩
    have hLr : L ≠ r := hR5.ne hL
    have hc5 : M5 c = some (.lst (b.map Cmd.enc)) := by rw [hB5 c hcr, hB4 c hcr, hB3 c hcr, hB2 c hcr]; exact hc
    have hcL : c ≠ L := mne hc5 hL
    refine ⟨fun j acc M6 => ∃ ws : List Nat, acc = ws.map encN ∧ ws.Pairwise (· < ·) ∧ (∀ n ∈ ws, n < j) ∧ Row ns r M6 ∧ ∀ a, a ≠ r → a ≠ L → M6 a = M5 a, ⟨[], rfl, .nil, by simp, hR5.upd hLr, fun a _ hb => mupd_ne hb⟩, ?_, ?_⟩
    · rintro j d acc M6 hd6 ⟨ws, rfl, hp, hw, hR6, hB6⟩ hM
      obtain ⟨hj, rfl⟩ := rangeD_at hd6
      have hwl := up_len hp hw
      refine fun s1 H1 C1 cl1 fp1 => txs_one ?_
      wtm_at "gb L_book"
      refine ⟨ns, r, _, rfl, hR6, by decide, fun k7 M7 g0 g1 hR7 hB7 => ?_⟩
      wtm_at "gb L_book"
      refine ite_dec (fun h1 => fun s2 H2 C2 cl2 fp2 => ?_) (fun h1 => ?_)
      · wtm_at "gb L_book"
        refine ⟨by rw [hB7 L hLr]; exact hM, ?_, ws ++ [j], ?_, ?_, ?_, hR7.upd hLr, fun a ha hb => ?_⟩
        · rw [List.length_map]
          exact Nat.lt_of_le_of_lt (by omega : _ ≤ 8) (by decide)
        · rw [List.map_append, Int.zero_add]; rfl
        · rw [List.pairwise_append]
          exact ⟨hp, by simp, fun a ha b hb => by rw [List.mem_singleton.mp hb]; exact hw a ha⟩
        · intro n hn
          rcases List.mem_append.mp hn with hn | hn
          · have := hw n hn; omega
          · rw [List.mem_singleton.mp hn]; omega
        · rw [mupd_ne hb, hB7 a ha]; exact hB6 a ha hb
      · refine ⟨by rw [hB7 L hLr]; exact hM, ws, rfl, hp, fun n hn => by have := hw n hn; omega, hR7, fun a ha hb => ?_⟩
        rw [hB7 a ha]; exact hB6 a ha hb
    · rintro acc M6 ⟨ws, rfl, hp, hw, hR6, hB6⟩ hM
      rw [rangeD_len] at hw
      have hwi : ∀ n ∈ ws, n < i := fun n hn => by have := hw n hn; omega
      have hc6 : (mdel M6 L) c = some (.lst (b.map Cmd.enc)) := by
        unfold mdel; rw [if_neg hcL, hB6 c hcr hcL]; exact hc5
      wtm_at "g L_book"
      refine bx_tupL ?_
      wtm_at "g L_book"
      refine ex_append rfl rfl rfl rfl rfl ?_
      wtm_at "g L_book"
      refine ⟨c, _, rfl, hc6, ?_⟩
      wtm_at "g L_book"
      refine bx_max2 rfl ?_
      wtm_at "g L_book"
      refine ⟨_, hc6, ?_, ?_⟩
      · rw [List.length_map]
        exact Nat.lt_of_le_of_lt (by omega : _ ≤ 8) (by decide)
      wtm_at "g L_book"
      have hmx : (if til > when then til else when) = max when til := by
        rw [Int.max_def]; split <;> split <;> omega
      refine ⟨b ++ [⟨when, max when til, ws⟩], _, _, _, _, _, rfl, by simp [hbl], ?_, ?_, ?_, ?_⟩
      · intro j cm hj
        by_cases e : j < b.length
        · rw [List.getElem?_append_left e] at hj
          exact hb j cm hj
        · rw [List.getElem?_append_right (by omega)] at hj
          have ej : j - b.length = 0 := by
            have := (List.getElem?_eq_some_iff.mp hj).1
            simp at this; omega
          rw [ej] at hj
          have ec : cm = ⟨when, max when til, ws⟩ := by simpa using hj.symm
          subst ec
          have hj2 : j = i := by omega
          subst hj2
          exact ⟨⟨b0, Int.le_max_left _ _, by show max when til ≤ 200; omega, hwi, hp⟩, by show max when til ≤ far; omega⟩
      · exact (hR6.del hLr).upd hcr
      · rw [mupd_same, List.map_append, hmx]; rfl
      · intro a o ha e
        rw [mupd_ne (mne e fc)]
        have h5 : M5 a = some o := by rw [hB5 a ha, hB4 a ha, hB3 a ha, hB2 a ha]; exact hK a o ha e
        unfold mdel
        rw [if_neg (mne h5 hL), hB6 a ha (mne h5 hL)]
        exact h5
  · rintro G' M' ⟨b, a4, a5, a6, a7, a8, rfl, hbl, hb, hR1, hc, hK⟩
    rw [rangeD_len] at hbl
    wtm_at "b"
    wtm_at "g L_book"
    refine bx_tupC hc ?_
    refine k b M' ⟨?_, by omega, fun i c hi => (hb i c hi).1⟩ (by omega) (fun c hc => ?_) hR1 hK
    · intro e
      rw [e] at hbl
      simp at hbl
      omega
    · obtain ⟨i, hi⟩ := List.mem_iff_getElem?.mp hc
      exact (hb i c hi).2
end
/-! ### the law's own windows -/
theorem WinFrom.snoc {a b : Int} : ∀ {l : Int} {ws : List (Int × Int)}, WinFrom l ws → (∀ p ∈ ws, p.2 ≤ a) → l ≤ a → a ≤ 199 → a + 1 ≤ b → b ≤ 200 → WinFrom l (ws ++ [(a, b)])
  | l, [], _, _, h1, h2, h3, h4 => ⟨h1, h2, h3, h4, trivial⟩
  | l, p :: ws, h, hp, h1, h2, h3, h4 => by
    obtain ⟨w1, w2, w3, w4, w5⟩ := h
    exact ⟨w1, w2, w3, w4, w5.snoc (fun q hq => hp q (List.mem_cons_of_mem _ hq)) (hp p (by simp)) h2 h3 h4⟩
def spLWindows : DSp := fun ds M Q => ∃ (ns : List Int) (r : Addr) (far : Int), ds = [.ref r, .int far] ∧ Row ns r M ∧ 0 ≤ far ∧ far ≤ 200 ∧
  ∀ (ws : List (Int × Int)) (M' : Mem), WinFrom 0 ws → ws.length ≤ 200 → (∀ p ∈ ws, p.2 ≤ far) → Row ns r M' → Kpt r M M' → Q (encWn ws) M'
def spSlots : DSp := fun ds M Q => ∃ (ws : List (Int × Int)) (many : Nat), ds = [encWn ws, .int many] ∧ ws.length ≤ 1000 ∧ ∀ M', Ext M M' → Q (.lst ((beatsF ws many).map encN)) M'
section
variable {P : Program} {w : World} {K : PySem.W.Frag} {mg : Str → Option Value} {base : Heap}
theorem ok_L_open {f : Addr} {fd : FuncData} (Fn : Fun K "_law_open" "_law_open" s_L_open f fd) : FnOk P w K mg base CX0 1 f fd ["_law_windows_here", "_law_beat"] (lift K spIsOpen) := by
  refine fun_ok Fn sc_L_open (fun ds M Q ⟨_, _, e, _⟩ => by rw [e]; rfl) fun cdv A outer s H E hr ds M Q h B => ?_
  obtain ⟨ws, t, rfl, hl, k⟩ := h
  unfold encWn
  wtm_at "b"
  wtm_at "g L_open"
  wtm_at "lcp L_open 0"
  case f => exact fOpen t
  refine lx_tup ?_
  wtm_at "g L_open"
  refine ⟨_, rfl, ⟨Nat.lt_of_le_of_lt (by rw [List.length_map]; exact hl) (by decide), fun d M' hd hm => ?_⟩, ?_⟩
  · obtain ⟨p, hp, rfl⟩ := List.mem_map.mp hd
    unfold encP
    refine fun s1 H1 C1 cl1 fp1 => txs_one ?_
    wtm_at "gb L_open"
    refine ite_dec (fun h1 => ?_) (fun h1 => ?_)
    · wtm_at "gb L_open"
      refine ite_dec (fun h2 => fun s2 H2 C2 cl2 fp2 => ?_) (fun h2 => ?_)
      · wtm_at "gb L_open"
        exact ⟨rfl, if_pos ⟨h1, h2⟩⟩
      · exact ⟨rfl, if_neg (fun z => h2 z.2)⟩
    · exact ⟨rfl, if_neg (fun z => h1 z.1)⟩
  rw [fOpen_all]
  wtm_at "g L_open"
  refine ox_ne0 hr.units encP_ok (by decide) ?_
  rw [open_ne]
  exact k
theorem ok_L_slots {f : Addr} {fd : FuncData} (Fn : Fun K "_law_slots" "_law_slots" s_L_slots f fd) (zr : mg "range" = none) (zl : mg "len" = none) (dO : Dfn P w K mg base 1 "_law_open" spIsOpen) : FnOk P w K mg base CX0 2 f fd ["_law_windows_here", "_law_many"] (lift K spSlots) := by
  refine fun_ok Fn sc_L_slots (fun ds M Q ⟨_, _, e, _⟩ => by rw [e]; rfl) fun cdv A outer s H E hr ds M Q h B => ?_
  obtain ⟨ws, many, rfl, hl, k⟩ := h
  wtm_at "b"
  wtm_at "g L_slots"
  refine ex_lstM (ax_nil ⟨Nat.zero_le _, fun c fc => ?_⟩)
  wtm_at "g L_slots"
  refine sx_for PassesOwn.never rfl (fun _ => rfl) ?_
  refine lx_range1 rfl zr rfl ?_
  wtm_at "g L_slots"
  refine ⟨_, rfl, by decide, by decide, fun i G' M' => ∃ (a3 : Option D) (fl : List Nat), G' = [some (encWn ws), some (.int many), some (.ref c), a3] ∧ fl = ((List.range i).filter fun t : Nat => openB ws t).take many ∧ M' = mupd M c (.lst (fl.map encN)), ⟨_, [], rfl, by simp, rfl⟩, ?_, ?_⟩
  · rintro i d G' M' hd ⟨a3, fl, rfl, hfl, rfl⟩
    obtain ⟨hi, rfl⟩ := rangeD_at hd
    have hi2 : i < 200 := hi
    have hlen : fl.length ≤ 200 := by
      rw [hfl, List.length_take]
      have := List.length_filter_le (fun t : Nat => openB ws t) (List.range i)
      rw [List.length_range] at this
      omega
    have hsucc : ((List.range (i + 1)).filter fun t : Nat => openB ws t) = ((List.range i).filter fun t : Nat => openB ws t) ++ if openB ws i = true then [i] else [] := by
      rw [List.range_succ, List.filter_append]
      congr 1
      rw [List.filter_cons, List.filter_nil]
    wtm_at "g L_slots"
    refine ⟨ws, _, rfl, hl, ?_⟩
    rw [Int.zero_add]
    refine asB_bl (ite_b (fun h1 => ?_) (fun h1 => ?_))
    · rw [if_pos h1] at hsucc
      wtm_at "g L_slots"
      refine bx_lenC mupd_same ?_
      wtm_at "g L_slots"
      rw [List.length_map]
      refine ite_dec (fun h2 => ?_) (fun h2 => ?_)
      · wtm_at "g L_slots"
        refine ex_append rfl rfl rfl rfl rfl ?_
        wtm_at "g L_slots"
        refine ⟨c, _, rfl, mupd_same, ?_⟩
        wtm_at "g L_slots"
        refine ⟨_, mupd_same, ?_, ?_⟩
        · rw [List.length_map]
          exact Nat.lt_of_le_of_lt hlen (by decide)
        wtm_at "g L_slots"
        refine ⟨_, fl ++ [i], rfl, ?_, ?_⟩
        · have hshort : ((List.range i).filter fun t : Nat => openB ws t).length < many := by
            rw [hfl, List.length_take] at h2; omega
          rw [hsucc, hfl, List.take_of_length_le (by omega), List.take_of_length_le (by rw [List.length_append, List.length_singleton]; omega)]
        · rw [mupd_mupd, List.map_append]; rfl
      · wtm_at "g L_slots"
        refine ⟨_, fl, rfl, ?_, rfl⟩
        have hge : many ≤ ((List.range i).filter fun t : Nat => openB ws t).length := by
          rw [hfl, List.length_take] at h2; omega
        rw [hsucc, List.take_append_of_le_length hge, hfl]
    · rw [if_neg (by rw [h1]; simp), List.append_nil] at hsucc
      wtm_at "g L_slots"
      exact ⟨_, fl, rfl, by rw [hsucc, hfl], rfl⟩
  · rintro G' M' ⟨a3, fl, rfl, hfl, rfl⟩
    refine sxs_one (sx_ret (ex_freeze ?_))
    wtm_at "g L_slots"
    refine ⟨c, _, rfl, mupd_same, ?_⟩
    rw [mdel_mupd fc, hfl]
    exact k M (Ext.refl M)
theorem ok_L_windows {f : Addr} {fd : FuncData} (Fn : Fun K "_law_windows" "_law_windows" s_L_windows f fd) (zt : mg "tuple" = none) (dT : Dfn P w K mg base 1 "_law_taken" spTaken) : FnOk P w K mg base CX0 2 f fd ["_law_row", "_law_far"] (lift K spLWindows) := by
  refine fun_ok Fn sc_L_windows (fun ds M Q ⟨_, _, _, e, _⟩ => by rw [e]; rfl) fun cdv A outer s H E hr ds M Q h B => ?_
  obtain ⟨ns, r, far, rfl, hR, f1, f2, k⟩ := h
  wtm_at "b"
  refine sx_par (i := 2) (j := 3) rfl sc_L_windows.nd rfl rfl (by decide) rfl rfl rfl rfl rfl rfl ?_
  refine ex_lstM (ax_nil ⟨Nat.zero_le _, fun c fc => ?_⟩)
  have hcr : c ≠ r := hR.ne fc
  refine ex_int ?_
  refine sxs_cons ?_
  refine sx_while PassesOwn.never (fun m G' M' => ∃ (ws : List (Int × Int)) (last : Int) (a4 a5 : Option D), G' = [some (.ref r), some (.int far), some (.ref c), some (.int last), a4, a5] ∧ m = (far - last).toNat ∧ 0 ≤ last ∧ WinFrom 0 ws ∧ (∀ p ∈ ws, p.2 ≤ last ∧ p.2 ≤ far) ∧ (ws.length : Int) ≤ min last far ∧ Row ns r M' ∧ M' c = some (.lst (ws.map encP)) ∧ Kpt r M M')
    (m := far.toNat) ⟨[], 0, _, _, rfl, by omega, by decide, trivial, by simp, by simp; omega, hR.upd hcr, mupd_same, Ext.kpt (Ext.new fc)⟩ ?_
  rintro m G' M' ⟨ws, last, a4, a5, rfl, hm, hl0, hw, hp, hwl, hR1, hc, hK⟩
  wtm_at "g L_windows"
  refine ite_dec (fun h1 => ?_) (fun h1 => ?_)
  · wtm_at "b"
    wtm_at "g L_windows"
    refine ⟨ns, r, _, rfl, hR1, by decide, fun k2 M2 x0 x1 hR2 hB2 => ?_⟩
    refine ix_li (ns := [1, 6]) x0 x1 fun t1 ht1 => ?_
    have ht1' : t1 = 1 ∨ t1 = 6 := by simpa using ht1
    wtm_at "g L_windows"
    refine ⟨ns, r, _, rfl, hR2, by omega, fun k3 M3 y0 y1 hR3 hB3 => ?_⟩
    wtm_at "g L_windows"
    refine ⟨ns, r, _, rfl, hR3, by decide, fun k4 M4 z0 z1 hR4 hB4 => ?_⟩
    refine ix_li (ns := [4, 40]) z0 z1 fun t2 ht2 => ?_
    have ht2' : t2 = 4 ∨ t2 = 40 := by simpa using ht2
    wtm_at "g L_windows"
    refine ⟨ns, r, _, rfl, hR4, by omega, fun k5 M5 u0 u1 hR5 hB5 => ?_⟩
    have hc5 : M5 c = some (.lst (ws.map encP)) := by rw [hB5 c hcr, hB4 c hcr, hB3 c hcr, hB2 c hcr]; exact hc
    have hK5 : Kpt r M M5 := hK.trans (hB2.kpt.trans (hB3.kpt.trans (hB4.kpt.trans hB5.kpt)))
    wtm_at "g L_windows"
    refine ite_dec (fun h2 => ?_) (fun h2 => ?_)
    · wtm_at "g L_windows"
      refine ex_append rfl rfl rfl rfl rfl ?_
      wtm_at "g L_windows"
      refine ⟨c, _, rfl, hc5, ?_⟩
      wtm_at "g L_windows"
      refine ⟨_, hc5, ?_, ?_⟩
      · rw [List.length_map]
        exact Nat.lt_of_le_of_lt (by omega : _ ≤ 200) (by decide)
      wtm_at "g L_windows"
      refine ⟨_, ?_, ws ++ [(last + k3, last + k3 + 1 + k5)], _, _, _, rfl, rfl, by omega, hw.snoc (fun p hp' => by have := (hp p hp').1; omega) (by omega) (by omega) (by omega) (by omega), ?_, ?_, hR5.upd hcr, ?_, ?_⟩
      · omega
      · intro p hp'
        rcases List.mem_append.mp hp' with hp' | hp'
        · have := hp p hp'; omega
        · rw [List.mem_singleton.mp hp']
          exact ⟨Int.le_refl _, h2⟩
      · rw [List.length_append, List.length_singleton]; omega
      · rw [mupd_same, List.map_append]; rfl
      · intro a o ha e
        rw [mupd_ne (mne e fc)]
        exact hK5 a o ha e
    · wtm_at "g L_windows"
      refine ⟨_, ?_, ws, _, _, _, rfl, rfl, by omega, hw, fun p hp' => ?_, ?_, hR5, hc5, hK5⟩
      · omega
      · have := hp p hp'; omega
      · omega
  · refine sxs_one (sx_ret ?_)
    wtm_at "g L_windows"
    refine bx_tupC hc ?_
    exact k ws M' hw (by omega) (fun p hp' => (hp p hp').2) hR1 hK
end
/-! ### the least order (no program here) -/
def lexN : List Nat → List Nat → Bool
  | [], [] => false
  | [], _ :: _ => true
  | _ :: _, [] => false
  | x :: xs, y :: ys => decide (x < y) || (decide (x = y) && lexN xs ys)
theorem lexN_irr : ∀ xs : List Nat, lexN xs xs = false
  | [] => rfl
  | x :: xs => by simp [lexN, lexN_irr xs]
theorem lexN_asym : ∀ {xs ys : List Nat}, lexN xs ys = true → lexN ys xs = false
  | [], [], h => by cases h
  | [], _ :: _, _ => rfl
  | _ :: _, [], h => by cases h
  | x :: xs, y :: ys, h => by
    simp only [lexN, Bool.or_eq_true, Bool.and_eq_true, decide_eq_true_eq] at h
    simp only [lexN, Bool.or_eq_false_iff, Bool.and_eq_false_iff, decide_eq_false_iff_not]
    rcases h with h | ⟨h1, h2⟩
    · exact ⟨by omega, .inl (by omega)⟩
    · exact ⟨by omega, .inr (lexN_asym h2)⟩
theorem lexN_trans : ∀ {xs ys zs : List Nat}, lexN xs ys = true → lexN ys zs = true → lexN xs zs = true
  | [], [], _, h, _ => by cases h
  | [], _ :: _, [], _, h => by cases h
  | [], _ :: _, _ :: _, _, _ => rfl
  | _ :: _, [], _, h, _ => by cases h
  | _ :: _, _ :: _, [], _, h => by cases h
  | x :: xs, y :: ys, z :: zs, h, g => by
    simp only [lexN, Bool.or_eq_true, Bool.and_eq_true, decide_eq_true_eq] at h g ⊢
    rcases h with h | ⟨h1, h2⟩
    · rcases g with g | ⟨g1, g2⟩
      · exact .inl (by omega)
      · exact .inl (by omega)
    · rcases g with g | ⟨g1, g2⟩
      · exact .inl (by omega)
      · exact .inr ⟨by omega, lexN_trans h2 g2⟩
theorem lexN_app : ∀ {a b x y : List Nat}, a.length = b.length → lexN a b = true → lexN (a ++ x) (b ++ y) = true
  | [], [], _, _, _, h => by cases h
  | [], _ :: _, _, _, e, _ => by cases e
  | _ :: _, [], _, _, e, _ => by cases e
  | p :: a, q :: b, x, y, e, h => by
    simp only [List.cons_append, lexN, Bool.or_eq_true, Bool.and_eq_true, decide_eq_true_eq] at h ⊢
    rcases h with h | ⟨h1, h2⟩
    · exact .inl h
    · exact .inr ⟨h1, lexN_app (by simpa using e) h2⟩
theorem lexN_snoc {n m : Nat} (h : n < m) : ∀ o : List Nat, lexN (o ++ [n]) (o ++ [m]) = true
  | [] => by simp [lexN, h]
  | p :: o => by simp [lexN, lexN_snoc h o]
theorem orders_up {many : Nat} : ∀ {k : Nat}, (ordersK many k).Pairwise (fun a b => lexN a b = true)
  | 0 => by simp [ordersK]
  | k + 1 => by
    rw [ordersK, List.pairwise_flatMap]
    refine ⟨fun o _ => ?_, ?_⟩
    · unfold ordStep
      rw [List.pairwise_map]
      exact (List.pairwise_lt_range.filter _).imp fun {a b} h => lexN_snoc h o
    · have all : ∀ o ∈ ordersK many k, o.length = k := fun o ho => (ord_ok ho).len
      refine (List.Pairwise.imp_of_mem (fun {a b} ha hb h => ?_) (orders_up (many := many) (k := k)))
      intro x hx y hy
      unfold ordStep at hx hy
      obtain ⟨n, _, rfl⟩ := List.mem_map.mp hx
      obtain ⟨m, _, rfl⟩ := List.mem_map.mp hy
      exact lexN_app (by rw [all a ha, all b hb]) h
theorem mem_orders {many : Nat} : ∀ {k : Nat} {l : List Nat}, l ∈ ordersK many k ↔ l.length = k ∧ l.Nodup ∧ ∀ x ∈ l, x < many
  | k, l => by
    constructor
    · intro h
      have := ord_ok h
      exact ⟨this.len, this.nd, this.lt⟩
    · induction k generalizing l with
      | zero =>
        rintro ⟨h, _⟩
        have : l = [] := List.eq_nil_of_length_eq_zero h
        subst this; simp [ordersK]
      | succ k ih =>
        rintro ⟨h1, h2, h3⟩
        obtain ⟨r, x, e⟩ : ∃ r x, l = r ++ [x] := by
          cases hl : l.reverse with
          | nil => rw [List.reverse_eq_nil_iff] at hl; subst hl; cases h1
          | cons x r => exact ⟨r.reverse, x, by rw [← List.reverse_reverse l, hl, List.reverse_cons]⟩
        subst e
        rw [List.nodup_append] at h2
        rw [ordersK, List.mem_flatMap]
        refine ⟨r, ih r ⟨by simpa using h1, h2.1, fun y hy => h3 y (List.mem_append_left _ hy)⟩, ?_⟩
        unfold ordStep
        refine List.mem_map.mpr ⟨x, List.mem_filter.mpr ⟨by simpa using h3 x (by simp), decide_eq_true fun z => h2.2.2 x z x (by simp) rfl⟩, rfl⟩
/-- the law's step -/
def lawStep (L : List Nat → Option Int) (best : Option (Int × List Nat)) (o : List Nat) : Option (Int × List Nat) :=
  match L o with
  | none => best
  | some m => if best = none ∨ ∃ z, best = some z ∧ (decide (m < z.1) || (decide (m = z.1) && lexN o z.2)) = true then some (m, o) else best
def ltM (x y : Int × List Nat) : Prop := x.1 < y.1 ∨ x.1 = y.1 ∧ lexN x.2 y.2 = true
theorem ltM_trans {x y z : Int × List Nat} (h : ltM x y) (g : ltM y z) : ltM x z := by
  rcases h with h | ⟨h1, h2⟩
  · rcases g with g | ⟨g1, g2⟩
    · exact .inl (by omega)
    · exact .inl (by omega)
  · rcases g with g | ⟨g1, g2⟩
    · exact .inl (by omega)
    · exact .inr ⟨by omega, lexN_trans h2 g2⟩
theorem ltM_irr {x : Int × List Nat} : ¬ ltM x x := by
  rintro (h | ⟨_, h⟩)
  · omega
  · rw [lexN_irr] at h; cases h
structure MinO (L : List Nat → Option Int) (xs : List (List Nat)) (r : Option (Int × List Nat)) : Prop where
  no : r = none → ∀ o ∈ xs, L o = none
  yes : ∀ z, r = some z → z.2 ∈ xs ∧ L z.2 = some z.1 ∧ ∀ o ∈ xs, ∀ m, L o = some m → ¬ ltM (m, o) z
theorem minO_law {L : List Nat → Option Int} : ∀ {ys xs : List (List Nat)} {r : Option (Int × List Nat)}, MinO L xs r → MinO L (xs ++ ys) (ys.foldl (lawStep L) r)
  | [], xs, r, h => by rw [List.append_nil]; exact h
  | o :: ys, xs, r, h => by
    have step : MinO L (xs ++ [o]) (lawStep L r o) := by
      unfold lawStep
      cases q : L o with
      | none =>
        refine ⟨fun e p hp => ?_, fun z hz => ?_⟩
        · rcases List.mem_append.mp hp with hp | hp
          · exact h.no e p hp
          · rw [List.mem_singleton.mp hp]; exact q
        · obtain ⟨h1, h2, h3⟩ := h.yes z hz
          refine ⟨List.mem_append_left _ h1, h2, fun p hp m hm => ?_⟩
          rcases List.mem_append.mp hp with hp | hp
          · exact h3 p hp m hm
          · rw [List.mem_singleton.mp hp, q] at hm; cases hm
      | some m =>
        show MinO L (xs ++ [o]) (if _ then _ else _)
        by_cases hc : r = none ∨ ∃ z, r = some z ∧ (decide (m < z.1) || (decide (m = z.1) && lexN o z.2)) = true
        · rw [if_pos hc]
          refine ⟨fun e => (by cases e), fun z hz => ?_⟩
          cases hz
          refine ⟨by simp, q, fun p hp m' hm' => ?_⟩
          rcases List.mem_append.mp hp with hp | hp
          · rcases hc with hc | ⟨z, hz, hlt⟩
            · rw [h.no hc p hp] at hm'; cases hm'
            · have h3 := (h.yes z hz).2.2 p hp m' hm'
              have hlt' : ltM (m, o) z := by
                simpa [ltM, Bool.or_eq_true, Bool.and_eq_true] using hlt
              exact fun t => h3 (ltM_trans t hlt')
          · rw [List.mem_singleton.mp hp] at hm' ⊢
            rw [q] at hm'
            cases hm'
            exact ltM_irr
        · rw [if_neg hc]
          refine ⟨fun e => absurd (.inl e) hc, fun z hz => ?_⟩
          obtain ⟨h1, h2, h3⟩ := h.yes z hz
          refine ⟨List.mem_append_left _ h1, h2, fun p hp m' hm' => ?_⟩
          rcases List.mem_append.mp hp with hp | hp
          · exact h3 p hp m' hm'
          · rw [List.mem_singleton.mp hp] at hm' ⊢
            rw [q] at hm'
            cases hm'
            intro t
            refine hc (.inr ⟨z, hz, ?_⟩)
            simpa [ltM, Bool.or_eq_true, Bool.and_eq_true] using t
    have z := minO_law (ys := ys) step
    rw [List.append_assoc] at z
    exact z
theorem minO_best {b : List Cmd} {d : Int} {beats : List Nat} : ∀ {ys xs : List (List Nat)} {r : Option (Int × List Nat)}, (xs ++ ys).Pairwise (fun a b => lexN a b = true) → MinO (lastOf b d beats) xs r → MinO (lastOf b d beats) (xs ++ ys) (ys.foldl (bestStep b d beats) r)
  | [], xs, r, _, h => by rw [List.append_nil]; exact h
  | o :: ys, xs, r, hp, h => by
    have hp1 := hp
    rw [List.pairwise_append] at hp1
    have ho : ∀ p ∈ xs, lexN p o = true := fun p hp' => hp1.2.2 p hp' o (by simp)
    have step : MinO (lastOf b d beats) (xs ++ [o]) (bestStep b d beats r o) := by
      have e : bestStep b d beats r o = lawStep (lastOf b d beats) r o := by
        unfold bestStep lawStep
        cases q : lastOf b d beats o with
        | none => rfl
        | some m =>
          show (if _ then _ else _) = if _ then _ else _
          have : (r = none ∨ ∃ z, r = some z ∧ m < z.1) ↔ (r = none ∨ ∃ z, r = some z ∧ (decide (m < z.1) || (decide (m = z.1) && lexN o z.2)) = true) := by
            constructor
            · rintro (t | ⟨z, hz, t⟩)
              · exact .inl t
              · exact .inr ⟨z, hz, by simp [t]⟩
            · rintro (t | ⟨z, hz, t⟩)
              · exact .inl t
              · refine .inr ⟨z, hz, ?_⟩
                have hzx := ho z.2 (h.yes z hz).1
                rw [lexN_asym hzx, Bool.and_false, Bool.or_false] at t
                exact of_decide_eq_true t
          simp only [this]
      rw [e]
      exact minO_law (ys := [o]) h
    have z := minO_best (ys := ys) (xs := xs ++ [o]) (by rw [List.append_assoc]; exact hp) step
    rw [List.append_assoc] at z
    exact z
/-! ### the same, place by place: numbers, None, tuples, lists alone (a cheaper walk) -/
inductive OkI : D → Prop
  | non : OkI .non
  | int (i : Int) : OkI (.int i)
  | tup {ds : List D} : ds.length ≤ 100000 → (∀ d ∈ ds, OkI d) → OkI (.tup ds)
  | lst {ds : List D} : ds.length ≤ 100000 → (∀ d ∈ ds, OkI d) → OkI (.lst ds)
def spAlike (n : Nat) : DSp := fun ds M Q => ∃ d, ds = [d, d] ∧ OkI d ∧ d.dep ≤ n ∧ Q (.bl true) M
section
variable {P : Program} {w : World} {K : PySem.W.Frag} {mg : Str → Option Value} {base : Heap}
theorem rec_alike {f : Addr} {fd : FuncData} (Fn : Fun K "_law_alike" "_law_alike" s_L_alike f fd) (mf : mg "_law_alike" = some (.ref f)) (zi : mg "isinstance" = none) (zt : mg "tuple" = none) (zL : mg "list" = none) (zl : mg "len" = none) (zr : mg "range" = none) (zb : mg "bool" = none) (zs : mg "str" = none) (zn : mg "int" = none) :
    ∀ n, FnOk P w K mg base CX0 (n + 1) f fd ["_law_found", "_law_due"] (lift K (spAlike n)) := by
  have bd := Fn.binds (ps := ["_law_found", "_law_due"]) fun _ _ _ _ _ _ us hl => match us, hl with | [_, _], _ => rfl
  have key : ∀ n', (n' = 0 ∨ ∃ m, n' = m + 1 ∧ Dfn P w K mg base (m + 1) "_law_alike" (spAlike m)) → FnOk P w K mg base CX0 (n' + 1) f fd ["_law_found", "_law_due"] (lift K (spAlike n')) := by
    intro n' hn'
    refine fun_ok Fn sc_L_alike (fun ds M Q ⟨_, e, _⟩ => by rw [e]; rfl) fun cdv A outer s H E hr ds M Q h B => ?_
    obtain ⟨d, rfl, ha, hd, k⟩ := h
    wtm_at "b"
    cases ha with
    | non => wtm_at "g L_alike"; exact k
    | int i =>
      wtm_at "g L_alike"
      rw [decide_eq_true rfl]; exact k
    | @tup ds hl hA =>
      obtain ⟨m, rfl, c1⟩ : ∃ m, n' = m + 1 ∧ Dfn P w K mg base (m + 1) "_law_alike" (spAlike m) := by
        rcases hn' with rfl | z
        · exact absurd (dep_tup.mp hd).1 (by decide)
        · exact z
      have hdd := (dep_tup.mp hd).2
      wtm_at "g L_alike"
      wtm_at "lcp L_alike 0"
      case f => exact fun _ => none
      refine lx_range1 rfl zr rfl ?_
      wtm_at "g L_alike"
      refine ⟨_, rfl, by omega, by omega, ⟨?_, fun d M' hdm hm => ?_⟩, ?_⟩
      · rw [rangeD_len]
        exact Nat.lt_of_le_of_lt (by omega : _ ≤ 100000) (by decide)
      · obtain ⟨i, hi⟩ := List.mem_iff_getElem?.mp hdm
        obtain ⟨hlt, rfl⟩ := rangeD_at hi
        have hi2 : i < ds.length := by omega
        have ei : ds[i]? = some ds[i] := List.getElem?_eq_getElem hi2
        refine fun s1 H1 C1 cl1 fp1 => txs_one ?_
        wtm_at "wb L_alike"
        refine ix_t (d := ds[i]) (atI_of (i := 0 + (i : Int)) (j := i) (Int.zero_add _) ei) ?_
        wtm_at "wb L_alike"
        refine ix_t (d := ds[i]) (atI_of (i := 0 + (i : Int)) (j := i) (Int.zero_add _) ei) ?_
        wtm_at "wb L_alike"
        exact ⟨_, rfl, hA _ (List.getElem_mem hi2), hdd _ (List.getElem_mem hi2), rfl, rfl⟩
      · rw [filterMap_none]
        wtm_at "w L_alike"
        exact ox_eq0 (n := 0) hr.units (by simp) (by decide) k
    | @lst ds hl hA =>
      obtain ⟨m, rfl, c1⟩ : ∃ m, n' = m + 1 ∧ Dfn P w K mg base (m + 1) "_law_alike" (spAlike m) := by
        rcases hn' with rfl | z
        · exact absurd (dep_lst.mp hd).1 (by decide)
        · exact z
      have hdd := (dep_lst.mp hd).2
      wtm_at "g L_alike"
      wtm_at "lcp L_alike 0"
      case f => exact fun _ => none
      refine lx_range1 rfl zr rfl ?_
      wtm_at "g L_alike"
      refine ⟨_, rfl, by omega, by omega, ⟨?_, fun d M' hdm hm => ?_⟩, ?_⟩
      · rw [rangeD_len]
        exact Nat.lt_of_le_of_lt (by omega : _ ≤ 100000) (by decide)
      · obtain ⟨i, hi⟩ := List.mem_iff_getElem?.mp hdm
        obtain ⟨hlt, rfl⟩ := rangeD_at hi
        have hi2 : i < ds.length := by omega
        have ei : ds[i]? = some ds[i] := List.getElem?_eq_getElem hi2
        refine fun s1 H1 C1 cl1 fp1 => txs_one ?_
        wtm_at "wb L_alike"
        refine ix_l (d := ds[i]) (atI_of (i := 0 + (i : Int)) (j := i) (Int.zero_add _) ei) ?_
        wtm_at "wb L_alike"
        refine ix_l (d := ds[i]) (atI_of (i := 0 + (i : Int)) (j := i) (Int.zero_add _) ei) ?_
        wtm_at "wb L_alike"
        exact ⟨_, rfl, hA _ (List.getElem_mem hi2), hdd _ (List.getElem_mem hi2), rfl, rfl⟩
      · rw [filterMap_none]
        wtm_at "w L_alike"
        exact ox_eq0 (n := 0) hr.units (by simp) (by decide) k
  intro n
  induction n with
  | zero => exact key 0 (.inl rfl)
  | succ n ih => exact key (n + 1) (.inr ⟨n, rfl, f, fd, _, ih, mf, Fn.kp, bd⟩)
theorem ok_L_alike {f : Addr} {fd : FuncData} (Fn : Fun K "_law_alike" "_law_alike" s_L_alike f fd) (mf : mg "_law_alike" = some (.ref f)) (zi : mg "isinstance" = none) (zt : mg "tuple" = none) (zL : mg "list" = none) (zl : mg "len" = none) (zr : mg "range" = none) (zb : mg "bool" = none) (zs : mg "str" = none) (zn : mg "int" = none) :
    FnOk P w K mg base CX0 7 f fd ["_law_found", "_law_due"] (lift K (spAlike 6)) := by
  exact rec_alike Fn mf zi zt zL zl zr zb zs zn 6
end
/-! ### the law's own craft -/
def spLBeaten : DSp := fun ds M Q => ∃ (b : List Cmd) (s : List Wd) (ls : List Lt) (t : Int), ds = [encB b, encSt s, .lst (ls.map encLt), .int t] ∧ BookOk b ∧ s.length = b.length ∧ (∀ l ∈ ls, l.2 < b.length) ∧ ∀ M', Ext M M' → Q (encSt (beatenF b s ls t)) M'
section
variable {P : Program} {w : World} {K : PySem.W.Frag} {mg : Str → Option Value} {base : Heap}
theorem ok_L_beaten {f : Addr} {fd : FuncData} (Fn : Fun K "_law_beaten" "_law_beaten" s_L_beaten f fd) (zl : mg "len" = none) (zr : mg "range" = none) (zL : mg "list" = none) (zt : mg "tuple" = none) : FnOk P w K mg base CX0 1 f fd ["_law_book_here", "_law_state", "_law_letters", "_law_beat"] (lift K spLBeaten) := by
  refine fun_ok Fn sc_L_beaten (fun ds M Q ⟨_, _, _, _, e, _⟩ => by rw [e]; rfl) fun cdv A outer sh H E hr ds M Q h B => ?_
  obtain ⟨b, s, ls, t, rfl, ok, hsl, hls, k⟩ := h
  have h8 := ok.le
  have wb : ("back" : Str) = Wd.back.str := rfl
  unfold encSt encB
  wtm_at "b"
  wtm_at "g L_beaten"
  refine bx_listTM fun c fc => ?_
  wtm_at "g L_beaten"
  refine sx_for PassesOwn.never rfl (fun _ => rfl) ?_
  refine lx_list ?_
  wtm_at "g L_beaten"
  refine ⟨_, rfl, fun i G' M' => ∃ a5 a6 a7 a8 a9 a10 : Option D, G' = [some (.tup (b.map Cmd.enc)), some (.tup (s.map encW)), some (.lst (ls.map encLt)), some (.int t), some (.ref c), a5, a6, a7, a8, a9, a10] ∧ M' = mupd M c (.lst (((ls.take i).foldl heardF s).map encW)), ⟨_, _, _, _, _, _, rfl, rfl⟩, ?_, ?_⟩
  · rintro i d G' M' hd ⟨a5, a6, a7, a8, a9, a10, rfl, rfl⟩
    rw [List.getElem?_map] at hd
    obtain ⟨l, hl, rfl⟩ := Option.map_eq_some_iff.mp hd
    have hn := hls l (List.mem_of_getElem? hl)
    have etk : (ls.take (i + 1)).foldl heardF s = heardF ((ls.take i).foldl heardF s) l := by
      rw [List.take_add_one, hl, List.foldl_append]; rfl
    have hlen : ((ls.take i).foldl heardF s).length = b.length := by rw [foldl_heard_len]; exact hsl
    generalize hq0 : (ls.take i).foldl heardF s = q at *
    clear hq0
    have hq : (q.map encW)[l.2]? = some (encW (q.getD l.2 .none)) := encW_at (by omega)
    have stay : hearW l.1 (q.getD l.2 .none) = q.getD l.2 .none → heardF q l = q := fun e => by
      unfold heardF; rw [e]; exact set_getD (by omega)
    obtain ⟨bk, n⟩ := l
    unfold encLt encN
    have hn' : n < b.length := hn
    cases bk with
    | true =>
      have ew : Lt.wd (true, n) = "back" := rfl
      rw [ew]
      wtm_at "g L_beaten"
      refine ix_c mupd_same (atI_of rfl hq) ?_
      wtm_at "g L_beaten"
      refine ox_inW (ws := [.none, .held]) ?_
      refine asB_bl (ite_dec (fun h1 => ?_) (fun h1 => ?_))
      · have h1' : q.getD n .none = .none ∨ q.getD n .none = .held := by simpa using h1
        wtm_at "g L_beaten"
        refine gx_sub (fun _ => rfl) ?_
        wtm_at "g L_beaten"
        refine ⟨c, _, _, n, rfl, rfl, mupd_same, ixN_nat (by rw [List.length_map]; omega), ?_⟩
        wtm_at "g L_beaten"
        refine ⟨_, _, _, _, _, _, rfl, ?_⟩
        rw [mupd_mupd, etk]
        show mupd M c (.lst ((q.map encW).set n (encW .back))) = _
        unfold heardF hearW
        rw [← List.map_set, if_pos rfl, if_pos h1']
      · wtm_at "g L_beaten"
        refine ⟨_, _, _, _, _, _, rfl, ?_⟩
        rw [etk, stay ?_]
        show (if true = true then _ else _) = _
        rw [if_pos rfl, if_neg (by simpa using h1)]
    | false =>
      have ew : Lt.wd (false, n) = "cmd" := rfl
      rw [ew]
      wtm_at "g L_beaten"
      refine ix_c mupd_same (atI_of rfl hq) ?_
      wtm_at "g L_beaten"
      refine ox_eqW .none ?_
      refine asB_bl (ite_dec (fun h1 => ?_) (fun h1 => ?_))
      · wtm_at "g L_beaten"
        refine gx_sub (fun _ => rfl) ?_
        wtm_at "g L_beaten"
        refine ⟨c, _, _, n, rfl, rfl, mupd_same, ixN_nat (by rw [List.length_map]; omega), ?_⟩
        refine ⟨_, _, _, _, _, _, rfl, ?_⟩
        rw [mupd_mupd, etk]
        show mupd M c (.lst ((q.map encW).set n (encW .held))) = _
        unfold heardF hearW
        have h1' : q.getD n .none = .none := h1
        rw [← List.map_set, if_neg (by simp), if_pos h1']
      · wtm_at "g L_beaten"
        refine ⟨_, _, _, _, _, _, rfl, ?_⟩
        rw [etk, stay ?_]
        show (if false = true then _ else _) = _
        rw [if_neg (by simp), if_neg h1]
  · rintro G' M' ⟨a5, a6, a7, a8, a9, a10, rfl, rfl⟩
    rw [List.length_map, List.take_length]
    have hlen : (ls.foldl heardF s).length = b.length := by rw [foldl_heard_len]; exact hsl
    have eB : beatenF b s ls t = goneGo t b 0 (ls.foldl heardF s) := rfl
    rw [eB] at k
    generalize ls.foldl heardF s = q0 at *
    wtm_at "b"
    refine sx_for PassesOwn.never rfl (fun _ => rfl) ?_
    refine lx_range1 rfl zr rfl ?_
    wtm_at "g L_beaten"
    rw [List.length_map]
    refine ⟨_, rfl, by omega, by omega, fun i G' M' => ∃ (q : List Wd) (a5 a6 a7 a8 a9 a10 : Option D), G' = [some (.tup (b.map Cmd.enc)), some (.tup (s.map encW)), some (.lst (ls.map encLt)), some (.int t), some (.ref c), a5, a6, a7, a8, a9, a10] ∧ q.length = b.length ∧ goneGo t (b.drop i) i q = goneGo t b 0 q0 ∧ M' = mupd M c (.lst (q.map encW)),
      ⟨q0, _, _, _, _, _, _, rfl, hlen, rfl, rfl⟩, ?_, ?_⟩
    · rintro i d G' M' hd ⟨q, a5, a6, a7, a8, a9, a10, rfl, hql, hg, rfl⟩
      obtain ⟨hi, rfl⟩ := rangeD_at hd
      have hib : i < b.length := by omega
      have hc : b[i]? = some b[i] := List.getElem?_eq_getElem hib
      generalize hbc : b[i] = cm at hc
      have cok := ok.ok i cm hc
      have hwl := up_len cok.up cok.lt
      have hcm : (b.map Cmd.enc)[i]? = some cm.enc := by rw [List.getElem?_map, hc]; rfl
      have hq : (q.map encW)[i]? = some (encW (q.getD i .none)) := encW_at (by omega)
      rw [List.drop_eq_getElem_cons hib, hbc, goneGo] at hg
      have eone : goneOne cm t q (q.getD i .none) = if q.getD i .none = .held then (if cm.til < t then .late else if cm.when ≤ t ∧ ∀ j ∈ cm.wants, q.getD j .none = .done then .done else .held) else q.getD i .none := rfl
      have stay : goneOne cm t q (q.getD i .none) = q.getD i .none → goneGo t (b.drop (i + 1)) (i + 1) q = goneGo t b 0 q0 := fun e => by
        rw [e, set_getD (by omega)] at hg; exact hg
      wtm_at "g L_beaten"
      refine ix_t (atI_of (Int.zero_add _) hcm) ?_
      unfold Cmd.enc
      wtm_at "g L_beaten"
      refine ix_c mupd_same (atI_of (Int.zero_add _) hq) ?_
      wtm_at "g L_beaten"
      refine ox_eqW .held ?_
      refine asB_bl (ite_dec (fun h1 => ?_) (fun h1 => ?_))
      · rw [if_pos h1] at eone
        wtm_at "g L_beaten"
        refine ite_dec (fun h2 => ?_) (fun h2 => ?_)
        · rw [if_pos h2] at eone
          wtm_at "g L_beaten"
          refine gx_sub (fun _ => rfl) ?_
          wtm_at "g L_beaten"
          refine ⟨c, _, _, i, rfl, rfl, mupd_same, (by rw [Int.zero_add]; exact ixN_nat (by rw [List.length_map]; omega)), ?_⟩
          refine ⟨q.set i .late, _, _, _, _, _, _, rfl, by simp [hql], by rw [← eone]; exact hg, ?_⟩
          rw [mupd_mupd, List.map_set]; rfl
        · rw [if_neg h2] at eone
          wtm_at "g L_beaten"
          refine ix_c mupd_same (atI_of (Int.zero_add _) hq) ?_
          wtm_at "g L_beaten"
          refine ox_eqW .held ?_
          refine asB_bl (iteT' (decide_eq_true h1) ?_)
          wtm_at "g L_beaten"
          refine ite_dec (fun h3 => ?_) (fun h3 => ?_)
          · wtm_at "g L_beaten"
            wtm_at "lcp L_beaten 0"
            case f => exact fun d => match d with
              | .int j => some (encW (q.getD j.toNat .none))
              | _ => none
            refine lx_tup ?_
            wtm_at "g L_beaten"
            refine ⟨_, rfl, ⟨?_, fun d M' hd hm => ?_⟩, ?_⟩
            · rw [List.length_map]
              exact Nat.lt_of_le_of_lt (by omega : _ ≤ 8) (by decide)
            · obtain ⟨n, hn, rfl⟩ := List.mem_map.mp hd
              have hlt := cok.lt n hn
              refine fun s1 H1 C1 cl1 fp1 => txs_nil (iteT fun s2 H2 C2 cl2 fp2 => ?_)
              wtm_at "wb L_beaten"
              refine ix_c (hm c _ mupd_same) (atI_of rfl (encW_at (by omega))) ?_
              exact ⟨rfl, rfl⟩
            have eW : (cm.wants.map encN).filterMap (fun d => match d with
              | .int j => some (encW (q.getD j.toNat .none))
              | _ => none) = (cm.wants.map fun j => q.getD j .none).map encW := by
              rw [filterMap_enc (enc := encN) (g := fun j => encW (q.getD j .none)) (fun _ _ => rfl), List.map_map]; rfl
            rw [eW]
            wtm_at "g L_beaten"
            rw [List.length_map]
            refine ox_repL (by omega) ?_ (by omega)
            have eD : List.replicate (cm.wants.length : Int).toNat (D.str "done") = (List.replicate cm.wants.length Wd.done).map encW := by
              rw [List.map_replicate]; rfl
            rw [eD]
            refine ox_eqD hr.units (okEq_lst strs_okE (by decide)) (okEq_lst strs_okE (by decide)) ?_
            rw [eqD_lst, eqDs_encW, dec_of done_eq]
            refine asB_bl (ite_dec (fun h4 => ?_) (fun h4 => ?_))
            · rw [if_pos ⟨h3, h4⟩] at eone
              wtm_at "g L_beaten"
              refine gx_sub (fun _ => rfl) ?_
              wtm_at "g L_beaten"
              refine ⟨c, _, _, i, rfl, rfl, mupd_same, (by rw [Int.zero_add]; exact ixN_nat (by rw [List.length_map]; omega)), ?_⟩
              refine ⟨q.set i .done, _, _, _, _, _, _, rfl, by simp [hql], by rw [← eone]; exact hg, ?_⟩
              rw [mupd_mupd, List.map_set]; rfl
            · rw [if_neg (fun z => h4 z.2)] at eone
              wtm_at "g L_beaten"
              exact ⟨q, _, _, _, _, _, _, rfl, hql, stay (by rw [eone, h1]), rfl⟩
          · rw [if_neg (fun z => h3 z.1)] at eone
            wtm_at "g L_beaten"
            exact ⟨q, _, _, _, _, _, _, rfl, hql, stay (by rw [eone, h1]), rfl⟩
      · rw [if_neg h1] at eone
        wtm_at "g L_beaten"
        refine ix_c mupd_same (atI_of (Int.zero_add _) hq) ?_
        wtm_at "g L_beaten"
        refine ox_eqW .held ?_
        refine asB_bl (iteF' (decide_eq_false h1) ?_)
        wtm_at "g L_beaten"
        exact ⟨q, _, _, _, _, _, _, rfl, hql, stay eone, rfl⟩
    · rintro G' M' ⟨q, a5, a6, a7, a8, a9, a10, rfl, hql, hg, rfl⟩
      have hn : (rangeD 0 (b.length : Int).toNat).length = b.length := by rw [rangeD_len]; omega
      rw [hn, List.drop_length] at hg
      have e : q = goneGo t b 0 q0 := hg
      wtm_at "b"
      wtm_at "g L_beaten"
      refine bx_tupC mupd_same ?_
      rw [e]
      exact k _ (Ext.new fc)
end
/-! ### the law's own going on -/
def fNow (t : Int) : Option Int → Option Int
  | some d => if d < t then some d else none
  | none => none
def foundAt (D : List (Option Int)) (t : Int) : List (Option Int) := D.map (fNow t)
theorem foundAt_get {D : List (Option Int)} {t : Int} {k : Nat} : (foundAt D t).getD k none = fNow t (D.getD k none) := by
  unfold foundAt
  rw [List.getD_eq_getElem?_getD, List.getElem?_map, List.getD_eq_getElem?_getD]
  cases D[k]? <;> rfl
theorem encO_at {s : List (Option Int)} {n : Nat} (h : n < s.length) : (s.map encO')[n]? = some (encO' (s.getD n none)) := by
  rw [List.getElem?_map, List.getElem?_eq_getElem h, List.getD_eq_getElem?_getD, List.getElem?_eq_getElem h]; rfl
def spLDone : DSp := fun ds M Q => ∃ (b : List Cmd) (comes : List (Option Int)), ds = [encB b, .lst (comes.map encO')] ∧ BookOk b ∧ comes.length = b.length ∧ (∀ x, some x ∈ comes → 0 ≤ x ∧ x ≤ 1000) ∧ ∀ M', Ext M M' → Q (.lst ((doneAt b comes).map encO')) M'
section
variable {P : Program} {w : World} {K : PySem.W.Frag} {mg : Str → Option Value} {base : Heap}
theorem ok_L_done_at {f : Addr} {fd : FuncData} (Fn : Fun K "_law_done_at" "_law_done_at" s_L_done_at f fd) (zl : mg "len" = none) (zr : mg "range" = none) (zx : mg "max" = none) (dB : Dfn P w K mg base 1 "_law_beaten" spLBeaten) : FnOk P w K mg base CX0 2 f fd ["_law_book_here", "_law_comes"] (lift K spLDone) := by
  refine fun_ok Fn sc_L_done_at (fun ds M Q ⟨_, _, e, _⟩ => by rw [e]; rfl) fun cdv A outer sh H E hr ds M Q h B => ?_
  obtain ⟨b, comes, rfl, ok, hlen, hcm, k⟩ := h
  have h8 := ok.le
  have hpos : 0 < b.length := List.length_pos_iff.mpr ok.ne
  have hDl := doneAt_len (b := b) (comes := comes)
  unfold encB
  wtm_at "b"
  refine sx_par (i := 2) (j := 3) rfl sc_L_done_at.nd rfl rfl (by decide) rfl rfl rfl rfl rfl rfl ?_
  wtm_at "g L_done_at"
  rw [List.length_map]
  refine ox_repT (by omega) (by omega) ?_
  wtm_at "g L_done_at"
  rw [List.length_map]
  refine ox_repLM (by omega) (by omega) fun c fc => ?_
  wtm_at "g L_done_at"
  wtm_at "lcp L_done_at 0"
  case f => exact fun d => match d with
    | .int x => some (.int x)
    | _ => none
  refine lx_list ?_
  wtm_at "g L_done_at"
  refine ⟨_, rfl, ⟨?_, fun d M' hd hm => ?_⟩, ?_⟩
  · rw [List.length_map]
    exact Nat.lt_of_le_of_lt (by omega : _ ≤ 8) (by decide)
  · obtain ⟨o, ho, rfl⟩ := List.mem_map.mp hd
    refine fun s1 H1 C1 cl1 fp1 => txs_one ?_
    cases o with
    | none =>
      wtm_at "wb L_done_at"
      exact ⟨rfl, rfl⟩
    | some x =>
      wtm_at "wb L_done_at"
      refine fun s2 H2 C2 cl2 fp2 => ?_
      wtm_at "wb L_done_at"
      exact ⟨rfl, rfl⟩
  have e0 : (comes.map encO').filterMap (fun d => match d with
    | .int x => some (.int x)
    | _ => none) = (comes.filterMap id).map D.int := by
    rw [List.filterMap_map, List.map_filterMap]
    refine congrArg (fun f => List.filterMap f comes) (funext fun o => ?_)
    cases o <;> rfl
  rw [e0]
  wtm_at "lcp L_done_at 1"
  case f => exact fun d => match d with
    | .tup (x :: _) => some x
    | _ => none
  refine lx_tup ?_
  wtm_at "g L_done_at"
  refine ⟨_, rfl, ⟨?_, fun d M' hd hm => ?_⟩, ?_⟩
  · rw [List.length_map]
    exact Nat.lt_of_le_of_lt (by omega : _ ≤ 8) (by decide)
  · obtain ⟨c, hc, rfl⟩ := List.mem_map.mp hd
    refine fun s1 H1 C1 cl1 fp1 => txs_nil (iteT fun s2 H2 C2 cl2 fp2 => ?_)
    unfold Cmd.enc
    wtm_at "gb L_done_at"
    exact ⟨rfl, rfl⟩
  have e1 : (b.map Cmd.enc).filterMap (fun d => match d with
    | .tup (x :: _) => some x
    | _ => none) = (b.map Cmd.when).map D.int := by
    rw [filterMap_enc (enc := Cmd.enc) (g := fun c => D.int c.when) (fun _ _ => rfl), List.map_map]; rfl
  rw [e1]
  refine ox_catL IsL.fz IsL.fz ?_ ?_
  · have : (comes.filterMap id).length ≤ comes.length := List.length_filterMap_le _ _
    rw [List.length_map, List.length_map, List.length_map]
    exact Nat.le_trans (by omega : _ ≤ 16) (by decide)
  wtm_at "g L_done_at"
  refine bx_maxL (ns := comes.filterMap id ++ b.map Cmd.when) rfl (by rw [List.map_append]; exact IsL.fz) ?_ fun m hm1 hm2 => ?_
  · intro e
    have := congrArg List.length e
    simp at this
    exact ok.ne this.2
  have mc : ∀ x, some x ∈ comes → x ≤ m := fun x hx => hm2 x (List.mem_append_left _ (List.mem_filterMap.mpr ⟨some x, hx, rfl⟩))
  have mw : ∀ c ∈ b, c.when ≤ m := fun c hc => hm2 _ (List.mem_append_right _ (List.mem_map.mpr ⟨c, hc, rfl⟩))
  have m0 : 0 ≤ m := by
    have hb0 : b[0]? = some b[0] := List.getElem?_eq_getElem hpos
    have h1 := (ok.ok 0 _ hb0).w0
    have h2 := mw _ (List.getElem_mem hpos)
    omega
  have m1 : m ≤ 1000 := by
    rcases List.mem_append.mp hm1 with z | z
    · obtain ⟨o, ho, e⟩ := List.mem_filterMap.mp z
      have e' : o = some m := e
      exact (hcm m (e' ▸ ho)).2
    · obtain ⟨c, hc, e⟩ := List.mem_map.mp z
      obtain ⟨i, hi⟩ := List.mem_iff_getElem?.mp hc
      have := ok.ok i c hi
      have h1 := this.w1
      have h2 := this.w2
      omega
  wtm_at "g L_done_at"
  refine sx_for PassesOwn.never rfl (fun _ => rfl) ?_
  refine lx_range1 rfl zr rfl ?_
  wtm_at "g L_done_at"
  have eS : D.tup (List.replicate (b.length : Int).toNat (D.str "none")) = encSt (simS b comes 0) := by
    unfold encSt simS
    rw [List.map_replicate]; rfl
  have eF : List.replicate (b.length : Int).toNat D.non = (foundAt (doneAt b comes) 0).map encO' := by
    have z : foundAt (doneAt b comes) 0 = List.replicate b.length none := by
      refine ext_getD none (by simp [foundAt, hDl]) fun j hj => ?_
      rw [foundAt_get]
      have hj' : j < b.length := by simpa [foundAt, hDl] using hj
      have er : (List.replicate b.length (none : Option Int)).getD j none = none := by
        rw [List.getD_eq_getElem?_getD, List.getElem?_replicate]; split <;> rfl
      rw [er]
      cases q : (doneAt b comes).getD j none with
      | none => rfl
      | some d =>
        have hbj : b[j]? = some b[j] := List.getElem?_eq_getElem hj'
        obtain ⟨_, h1, _⟩ := done_facts ok hbj q
        have h2 := (ok.ok j _ hbj).w0
        show (if d < 0 then _ else _) = _
        rw [if_neg (by omega)]
    rw [z, List.map_replicate]; rfl
  refine ⟨_, rfl, by omega, by omega, fun i G' M' => ∃ (a5 a6 a7 a8 a9 a10 : Option D), G' = [some (.tup (b.map Cmd.enc)), some (.lst (comes.map encO')), some (encSt (simS b comes i)), some (.ref c), some (.int m), a5, a6, a7, a8, a9, a10] ∧ M' c = some (.lst ((foundAt (doneAt b comes) i).map encO')) ∧ Ext M M',
    ⟨_, _, _, _, _, _, by rw [← eS]; rfl, (by show _ = some (MO.lst ((foundAt (doneAt b comes) 0).map encO')); rw [← eF]; exact mupd_same), Ext.new fc⟩, ?_, ?_⟩
  · rintro i d G' M' hd ⟨a5, a6, a7, a8, a9, a10, rfl, hc, hE⟩
    obtain ⟨hi, rfl⟩ := rangeD_at hd
    wtm_at "g L_done_at"
    wtm_at "slcp L_done_at 2"
    case f => exact fun d => match d with
      | .int j => if comes.getD j.toNat none = some ((0 : Int) + (i : Int)) then some (.tup [.str "cmd", d]) else none
      | _ => none
    refine lx_range1 rfl zr rfl ?_
    wtm_at "g L_done_at"
    rw [List.length_map]
    refine ⟨_, rfl, by omega, by omega, ⟨?_, fun d M1 hd hm => ?_⟩, ?_⟩
    · rw [rangeD_len]
      exact Nat.lt_of_le_of_lt (by omega : _ ≤ 8) (by decide)
    · obtain ⟨j, hj⟩ := List.mem_iff_getElem?.mp hd
      obtain ⟨hjlt, rfl⟩ := rangeD_at hj
      have et : ((0 : Int) + (j : Int)).toNat = j := by omega
      refine fun s1 H1 C1 cl1 fp1 => txs_one ?_
      wtm_at "wb L_done_at"
      refine ix_l (atI_of (Int.zero_add _) (encO_at (by omega))) ?_
      wtm_at "wb L_done_at"
      cases q : comes.getD j none with
      | none =>
        refine ox_eqD hr.units rfl rfl ?_
        have e : eqD (encO' none) (.int (0 + (i : Int))) = false := rfl
        rw [e]
        refine asB_bl (iteF ⟨rfl, ?_⟩)
        show (if comes.getD ((0 : Int) + (j : Int)).toNat none = some ((0 : Int) + (i : Int)) then _ else none) = none
        rw [et, q, if_neg (by simp)]
      | some x =>
        refine ox_eqI ?_
        refine asB_bl (ite_dec (fun h1 => fun s2 H2 C2 cl2 fp2 => ?_) (fun h1 => ?_))
        · wtm_at "gb L_done_at"
          refine ⟨rfl, ?_⟩
          show (if comes.getD ((0 : Int) + (j : Int)).toNat none = some ((0 : Int) + (i : Int)) then _ else none) = _
          rw [et, q, if_pos (by rw [h1])]
        · refine ⟨rfl, ?_⟩
          show (if comes.getD ((0 : Int) + (j : Int)).toNat none = some ((0 : Int) + (i : Int)) then _ else none) = none
          rw [et, q, if_neg (fun z => h1 (Option.some.inj z))]
    have eL : (rangeD 0 (b.length : Int).toNat).filterMap (fun d => match d with
      | .int j => if comes.getD j.toNat none = some ((0 : Int) + (i : Int)) then some (.tup [.str "cmd", d]) else none
      | _ => none) = (lettersAt b.length comes i).map encLt := by
      unfold rangeD lettersAt
      rw [List.filterMap_map, List.map_filterMap]
      refine congrArg (fun f => List.filterMap f (List.range b.length)) (funext fun j => ?_)
      show (if comes.getD ((0 : Int) + (j : Int)).toNat none = some ((0 : Int) + (i : Int)) then some (D.tup [.str "cmd", .int (0 + (j : Int))]) else none) = _
      rw [Int.zero_add, Int.zero_add, Int.toNat_natCast]
      by_cases hq : comes.getD j none = some (i : Int)
      · rw [if_pos hq, if_pos hq]; rfl
      · rw [if_neg hq, if_neg hq]; rfl
    rw [eL]
    wtm_at "g L_done_at"
    refine ⟨b, simS b comes i, lettersAt b.length comes i, (i : Int), by rw [Int.zero_add]; rfl, ok, simS_len, fun l hl => (lettersAt_ok l hl).2, fun M2 hE2 => ?_⟩
    have e2 : beatenF b (simS b comes i) (lettersAt b.length comes i) i = simS b comes (i + 1) := rfl
    rw [e2]
    wtm_at "g L_done_at"
    refine sx_for PassesOwn.never rfl (fun _ => rfl) ?_
    refine lx_range1 rfl zr rfl ?_
    wtm_at "g L_done_at"
    rw [List.length_map]
    refine ⟨_, rfl, by omega, by omega, fun j G' M' => ∃ (fl : List (Option Int)) (a6 a9 a10 : Option D), G' = [some (.tup (b.map Cmd.enc)), some (.lst (comes.map encO')), some (encSt (simS b comes i)), some (.ref c), some (.int m), some (.int (0 + (i : Int))), a6, some (.lst ((lettersAt b.length comes i).map encLt)), some (encSt (simS b comes (i + 1))), a9, a10] ∧ M' c = some (.lst (fl.map encO')) ∧ Ext M M' ∧ fl.length = b.length ∧
        ∀ n, n < b.length → fl.getD n none = if n < j then fNow ((i + 1 : Nat) : Int) ((doneAt b comes).getD n none) else fNow (i : Int) ((doneAt b comes).getD n none),
      ⟨foundAt (doneAt b comes) i, _, _, _, rfl, hE2 _ _ hc, hE.trans hE2, by simp [foundAt, hDl], fun n _ => by rw [if_neg (by omega)]; exact foundAt_get⟩, ?_, ?_⟩
    · rintro j d G' M' hd ⟨fl, a6, a9, a10, rfl, hc3, hE3, hfl, hfn⟩
      obtain ⟨hj, rfl⟩ := rangeD_at hd
      have hjb : j < b.length := by omega
      have hbj : b[j]? = some b[j] := List.getElem?_eq_getElem hjb
      have w0 := sim_done ok (fun x hx => (hcm x hx).1) (t := i) hbj
      have w1 := sim_done ok (fun x hx => (hcm x hx).1) (t := i + 1) hbj
      -- what is written
      have wr : ∀ v : Option Int, v = fNow ((i + 1 : Nat) : Int) ((doneAt b comes).getD j none) → (fl.set j v).length = b.length ∧ ∀ n, n < b.length → (fl.set j v).getD n none = if n < j + 1 then fNow ((i + 1 : Nat) : Int) ((doneAt b comes).getD n none) else fNow (i : Int) ((doneAt b comes).getD n none) := by
        intro v hv
        refine ⟨by simp [hfl], fun n hn => ?_⟩
        by_cases e : j = n
        · subst e
          rw [getD_set_self (by omega), if_pos (by omega)]
          exact hv
        · rw [getD_set_ne e, hfn n hn]
          by_cases h : n < j
          · rw [if_pos h, if_pos (by omega)]
          · rw [if_neg h, if_neg (by omega)]
      have hfj := hfn j hjb
      rw [if_neg (by omega)] at hfj
      have hcE : ∀ v : D, Ext M (mupd M' c (.lst ((fl.map encO').set j v))) := fun v a o e => by rw [mupd_ne (mne e fc)]; exact hE3 a o e
      have keep : (¬ ∃ d, (doneAt b comes).getD j none = some d ∧ d < ((i + 1 : Nat) : Int) ∧ ¬ d < (i : Int)) → fl.getD j none = fNow ((i + 1 : Nat) : Int) ((doneAt b comes).getD j none) := by
        intro hno
        rw [hfj]
        cases q : (doneAt b comes).getD j none with
        | none => rfl
        | some d =>
          show (if d < (i : Int) then some d else none) = if d < ((i + 1 : Nat) : Int) then some d else none
          by_cases h : d < (i : Int)
          · rw [if_pos h, if_pos (by omega)]
          · rw [if_neg h, if_neg (fun z => hno ⟨d, q, z, h⟩)]
      have hfe : (fl.map encO')[j]? = some (encO' (fl.getD j none)) := encO_at (by omega)
      have eix : ixN (fl.map encO').length (0 + (j : Int)) = some j := by rw [Int.zero_add]; exact ixN_nat (by rw [List.length_map]; omega)
      wtm_at "g L_done_at"
      refine ix_t (atI_of (Int.zero_add _) (encW_at (by rw [simS_len]; exact hjb))) ?_
      wtm_at "g L_done_at"
      refine ox_eqW .done ?_
      refine asB_bl (ite_dec (fun h1 => ?_) (fun h1 => ?_))
      · wtm_at "g L_done_at"
        refine ix_t (atI_of (Int.zero_add _) (encW_at (by rw [simS_len]; exact hjb))) ?_
        wtm_at "g L_done_at"
        refine ox_neW .done ?_
        refine asB_bl (ite_ndec (fun h2 => ?_) (fun h2 => ?_))
        · obtain ⟨d, hd, hdt⟩ := w1.mp h1
          have hdi : d = (i : Int) := by
            by_cases z : d < (i : Int)
            · exact absurd (w0.mpr ⟨d, hd, z⟩) h2
            · omega
          have hv : some (i : Int) = fNow ((i + 1 : Nat) : Int) ((doneAt b comes).getD j none) := by
            rw [hd, hdi]
            show _ = if (i : Int) < _ then some (i : Int) else none
            rw [if_pos (by omega)]
          obtain ⟨x1, x2⟩ := wr _ hv
          wtm_at "g L_done_at"
          refine gx_sub (fun _ => rfl) ?_
          wtm_at "g L_done_at"
          refine ⟨c, _, _, j, rfl, rfl, hc3, eix, ?_⟩
          refine ⟨fl.set j (some (i : Int)), _, _, _, rfl, ?_, hcE _, x1, x2⟩
          rw [mupd_same, List.map_set, Int.zero_add]; rfl
        · obtain ⟨x1, x2⟩ := wr _ (keep (by
            rintro ⟨d, hd, _, hdi⟩
            obtain ⟨d', hd', hdi'⟩ := w0.mp h2
            rw [hd] at hd'
            cases hd'
            exact hdi hdi'))
          wtm_at "g L_done_at"
          refine ix_c hc3 (atI_of (Int.zero_add _) hfe) ?_
          refine gx_sub (fun _ => rfl) ?_
          wtm_at "g L_done_at"
          refine ⟨c, _, _, j, rfl, rfl, hc3, eix, ?_⟩
          refine ⟨_, _, _, _, rfl, ?_, hcE _, x1, x2⟩
          rw [mupd_same, List.map_set]
      · obtain ⟨x1, x2⟩ := wr _ (keep (by
          rintro ⟨d, hd, hdt, _⟩
          exact h1 (w1.mpr ⟨d, hd, hdt⟩)))
        wtm_at "g L_done_at"
        refine ix_c hc3 (atI_of (Int.zero_add _) hfe) ?_
        refine gx_sub (fun _ => rfl) ?_
        wtm_at "g L_done_at"
        refine ⟨c, _, _, j, rfl, rfl, hc3, eix, ?_⟩
        refine ⟨_, _, _, _, rfl, ?_, hcE _, x1, x2⟩
        rw [mupd_same, List.map_set]
    · rintro G' M' ⟨fl, a6, a9, a10, rfl, hc3, hE3, hfl, hfn⟩
      have hn : (rangeD 0 (b.length : Int).toNat).length = b.length := by rw [rangeD_len]; omega
      rw [hn] at hfn
      have e : fl = foundAt (doneAt b comes) ((i + 1 : Nat) : Int) := by
        refine ext_getD none (by simp [foundAt, hDl, hfl]) fun n hn => ?_
        rw [hfn n (by omega), if_pos (by omega), foundAt_get]
      wtm_at "b"
      wtm_at "g L_done_at"
      exact ⟨_, _, _, _, _, _, rfl, by rw [← e]; exact hc3, hE3⟩
  · rintro G' M' ⟨a5, a6, a7, a8, a9, a10, rfl, hc, hE⟩
    have hn : (rangeD 0 (m + 1).toNat).length = (m + 1).toNat := rangeD_len
    rw [hn] at hc
    have e : foundAt (doneAt b comes) ((m + 1).toNat : Nat) = doneAt b comes := by
      refine ext_getD none (by simp [foundAt]) fun n hn => ?_
      have hn' : n < b.length := by simpa [foundAt, hDl] using hn
      rw [foundAt_get]
      cases q : (doneAt b comes).getD n none with
      | none => rfl
      | some d =>
        have := done_le ok mc mw n d hn' q
        show (if d < _ then _ else _) = _
        rw [if_pos (by omega)]
    rw [e] at hc
    refine sxs_one (sx_ret (ex_freeze ?_))
    wtm_at "g L_done_at"
    exact ⟨c, _, rfl, hc, k _ (Ext.del fc hE)⟩
end
/-! ### letters that are sent -/
def comeStep (d : Int) (cs : List (Option Int)) (s : Int × Nat) : List (Option Int) := if cs.getD s.2 none = none then cs.set s.2 (some (s.1 + d)) else cs
def comesOf (n : Nat) (d : Int) (ss : List (Int × Nat)) : List (Option Int) := ss.foldl (comeStep d) (List.replicate n none)
theorem comeStep_len {d : Int} {cs : List (Option Int)} {s : Int × Nat} : (comeStep d cs s).length = cs.length := by
  unfold comeStep; split <;> simp
theorem foldl_come_len {d : Int} : ∀ {ss : List (Int × Nat)} {cs : List (Option Int)}, (ss.foldl (comeStep d) cs).length = cs.length
  | [], _ => rfl
  | s :: ss, cs => by rw [List.foldl_cons, foldl_come_len, comeStep_len]
theorem comesOf_len {n : Nat} {d : Int} {ss : List (Int × Nat)} : (comesOf n d ss).length = n := by
  unfold comesOf; rw [foldl_come_len]; simp
def allDone (b : List Cmd) (d : Int) (ss : List (Int × Nat)) : Bool := !decide (none ∈ doneAt b (comesOf b.length d ss))
def spNeedSends : DSp := fun ds M Q => ∃ (b : List Cmd) (ss : List (Int × Nat)), ds = [encB b, .lst (ss.map encSd)] ∧ b.length ≤ 8 ∧ SendsOk b.length ss ∧ Q .non M
def spAllDone : DSp := fun ds M Q => ∃ (b : List Cmd) (d : Int) (ss : List (Int × Nat)), ds = [encB b, .int d, .lst (ss.map encSd)] ∧ BookOk b ∧ (∀ s ∈ ss, s.2 < b.length) ∧ Q (.bl (allDone b d ss)) M
section
variable {P : Program} {w : World} {K : PySem.W.Frag} {mg : Str → Option Value} {base : Heap}
theorem ok_need_sends {f : Addr} {fd : FuncData} (Fn : Fun K "need_sends" "need_sends" s_need_sends f fd) (zi : mg "isinstance" = none) (zt : mg "tuple" = none) (zl : mg "len" = none) (ze : mg "enumerate" = none) (gM : Cst K mg "MOST_BEAT" (.int 200)) (dN : Dfn P w K mg base 1 "is_number" spIsNumber) :
    FnOk P w K mg base CX0 2 f fd ["book", "sends"] (lift K spNeedSends) := by
  refine fun_ok Fn sc_need_sends (fun ds M Q ⟨_, _, e, _⟩ => by rw [e]; rfl) fun cdv A outer s H E hr ds M Q h B => ?_
  obtain ⟨b, ss, rfl, hb, ok, k⟩ := h
  unfold encB
  wtm_at "b"
  wtm_at "g need_sends"
  refine ex_un ?_
  wtm_at "g need_sends"
  refine ux_neg ?_
  wtm_at "g need_sends"
  refine sx_for PassesOwn.never rfl (fun _ => rfl) ?_
  refine lx_enum rfl ze rfl ⟨_, _, _, rfl⟩ ?_
  wtm_at "g need_sends"
  refine ⟨_, rfl, fun i G' M' => ∃ (last : Int) (a3 a4 : Option D), G' = [some (.tup (b.map Cmd.enc)), some (.lst (ss.map encSd)), some (.int last), a3, a4] ∧ (∀ s ∈ ss.drop i, last < s.1) ∧ M' = M, ⟨-1, _, _, rfl, fun s hs => by have := (ok.ok s hs).1; omega, rfl⟩, ?_, ?_⟩
  · rintro i d G' M' hd ⟨last, a3, a4, rfl, hlast, rfl⟩
    obtain ⟨x, hx, rfl⟩ := enumD_at hd
    rw [List.getElem?_map] at hx
    obtain ⟨sd, hsd, rfl⟩ := Option.map_eq_some_iff.mp hx
    have hi : i < ss.length := (List.getElem?_eq_some_iff.mp hsd).1
    have esd : ss[i] = sd := by
      rw [List.getElem?_eq_getElem hi] at hsd; exact Option.some.inj hsd
    have hm := ok.ok sd (List.mem_of_getElem? hsd)
    have hl := hlast sd (by rw [List.drop_eq_getElem_cons hi, esd]; simp)
    unfold encSd encN
    wtm_at "g need_sends"
    refine num_ok (by omega) (by omega) ?_
    wtm_at "g need_sends"
    rw [List.length_map]
    refine num_ok (by omega) (by omega) ?_
    wtm_at "g need_sends"
    refine ⟨sd.1, _, _, rfl, fun s hs => ?_, rfl⟩
    have up := ok.up
    rw [← List.take_append_drop i ss, List.drop_eq_getElem_cons hi, List.pairwise_append] at up
    have := (List.pairwise_cons.mp up.2.1).1 s hs
    rw [esd] at this
    exact this
  · rintro G' M' ⟨last, a3, a4, rfl, hlast, rfl⟩
    exact k
theorem ok_all_done {f : Addr} {fd : FuncData} (Fn : Fun K "all_done" "all_done" s_all_done f fd) (zl : mg "len" = none) (dD : Dfn P w K mg base 1 "done_at" spDoneAt) : FnOk P w K mg base CX0 2 f fd ["book", "delay", "sends"] (lift K spAllDone) := by
  refine fun_ok Fn sc_all_done (fun ds M Q ⟨_, _, _, e, _⟩ => by rw [e]; rfl) fun cdv A outer s H E hr ds M Q h B => ?_
  obtain ⟨b, d, ss, rfl, ok, hss, k⟩ := h
  have h8 := ok.le
  wtm_at "b"
  wtm_at "g all_done"
  unfold encB
  wtm_at "g all_done"
  rw [List.length_map]
  refine ox_repLM (by omega) (by omega) fun c fc => ?_
  wtm_at "g all_done"
  refine sx_for PassesOwn.never rfl (fun _ => rfl) ?_
  refine lx_list ?_
  wtm_at "g all_done"
  have e0 : (List.replicate (b.length : Int).toNat D.non) = (List.replicate b.length none).map encO' := by simp [encO']
  refine ⟨_, rfl, fun i G' M' => ∃ (a4 a5 : Option D), G' = [some (.tup (b.map Cmd.enc)), some (.int d), some (.lst (ss.map encSd)), some (.ref c), a4, a5] ∧ M' = mupd M c (.lst (((ss.take i).foldl (comeStep d) (List.replicate b.length none)).map encO')), ⟨_, _, rfl, by rw [e0]; rfl⟩, ?_, ?_⟩
  · rintro i dd G' M' hd ⟨a4, a5, rfl, rfl⟩
    rw [List.getElem?_map] at hd
    obtain ⟨sd, hsd, rfl⟩ := Option.map_eq_some_iff.mp hd
    have hi : i < ss.length := (List.getElem?_eq_some_iff.mp hsd).1
    have hn := hss sd (List.mem_of_getElem? hsd)
    have etk : (ss.take (i + 1)).foldl (comeStep d) (List.replicate b.length none) = comeStep d ((ss.take i).foldl (comeStep d) (List.replicate b.length none)) sd := by
      rw [List.take_add_one, hsd, List.foldl_append]; rfl
    have hl : ((ss.take i).foldl (comeStep d) (List.replicate b.length none)).length = b.length := by rw [foldl_come_len]; simp
    generalize hcs0 : (ss.take i).foldl (comeStep d) (List.replicate b.length none) = cs at *
    clear hcs0
    have hcs : (cs.map encO')[sd.2]? = some (encO' (cs.getD sd.2 none)) := by
      rw [List.getElem?_map, List.getElem?_eq_getElem (by omega), List.getD_eq_getElem?_getD, List.getElem?_eq_getElem (by omega)]; rfl
    unfold encSd encN
    wtm_at "g all_done"
    refine ix_c mupd_same (atI_of rfl hcs) ?_
    wtm_at "g all_done"
    have es : comeStep d cs sd = if cs.getD sd.2 none = none then cs.set sd.2 (some (sd.1 + d)) else cs := rfl
    cases hq : cs.getD sd.2 none with
    | none =>
      wtm_at "g all_done"
      refine gx_sub (fun _ => rfl) ?_
      wtm_at "g all_done"
      refine ⟨c, _, _, sd.2, rfl, rfl, mupd_same, ixN_nat (by rw [List.length_map]; omega), ?_⟩
      refine ⟨_, _, rfl, ?_⟩
      rw [mupd_mupd, etk, es, if_pos hq, List.map_set]
      rfl
    | some z =>
      wtm_at "g all_done"
      refine ⟨_, _, rfl, ?_⟩
      rw [etk, es, if_neg (by rw [hq]; simp)]
  · rintro G' M' ⟨a4, a5, rfl, rfl⟩
    rw [List.length_map, List.take_length]
    refine sxs_freeze (i := 3) rfl mupd_same ?_
    rw [mdel_mupd fc]
    wtm_at "b"
    wtm_at "g all_done"
    refine ⟨b, comesOf b.length d ss, rfl, ok, comesOf_len, ?_⟩
    refine ox_notInL rfl flat_encO ?_
    rw [inD_non]
    exact k
end
/-! ### all rising lists of so many numbers -/
def choicesF (many : Nat) : Nat → Nat → List (List Nat)
  | 0, _ => [[]]
  | k + 1, low => ((List.range (many - low)).map (low + ·)).flatMap fun n => (choicesF many k (n + 1)).map (n :: ·)
theorem flatMap_len {α β : Type} {f : α → List β} {c : Nat} : ∀ {l : List α}, (∀ x ∈ l, (f x).length ≤ c) → (l.flatMap f).length ≤ l.length * c
  | [], _ => by simp
  | x :: l, h => by
    have h1 := h x (by simp)
    have h2 := flatMap_len (l := l) fun y hy => h y (List.mem_cons_of_mem _ hy)
    rw [List.flatMap_cons, List.length_append, List.length_cons, Nat.succ_mul]
    omega
theorem choicesF_len {many : Nat} (hm : many ≤ 13) : ∀ {k low : Nat}, (choicesF many k low).length ≤ 13 ^ k
  | 0, _ => by simp [choicesF]
  | k + 1, low => by
    rw [choicesF]
    refine Nat.le_trans (flatMap_len (c := 13 ^ k) fun n _ => by rw [List.length_map]; exact choicesF_len hm) ?_
    rw [List.length_map, List.length_range, Nat.pow_succ, Nat.mul_comm]
    exact Nat.mul_le_mul_left _ (by omega)
theorem choicesF_mem {many : Nat} : ∀ {k low : Nat} {l : List Nat}, l ∈ choicesF many k low → l.length = k
  | 0, _, l, h => by
    have : l = [] := by simpa [choicesF] using h
    rw [this]; rfl
  | k + 1, low, l, h => by
    rw [choicesF, List.mem_flatMap] at h
    obtain ⟨n, _, h2⟩ := h
    obtain ⟨r, hr, rfl⟩ := List.mem_map.mp h2
    rw [List.length_cons, choicesF_mem hr]
theorem ne_of_mem {a c : Addr} {ls : List Addr} (ha : a ∈ ls) (h : c ∉ ls) : a ≠ c := fun e => h (e ▸ ha)
/-- new list cells -/
inductive Fresh (M M' : Mem) : List Addr → List (List Nat) → Prop
  | nil : Fresh M M' [] []
  | cons {l : Addr} {ls : List Addr} {x : List Nat} {xs : List (List Nat)} : M l = none → M' l = some (.lst (x.map encN)) → Fresh M M' ls xs → Fresh M M' (l :: ls) (x :: xs)
theorem Fresh.mono {M M' M2 : Mem} : ∀ {ls : List Addr} {xs : List (List Nat)}, Fresh M M' ls xs → (∀ l o, l ∈ ls → M' l = some o → M2 l = some o) → Fresh M M2 ls xs
  | _, _, .nil, _ => .nil
  | _, _, .cons h1 h2 t, k => .cons h1 (k _ _ (by simp) h2) (t.mono fun l o hl => k l o (List.mem_cons_of_mem _ hl))
theorem Fresh.app {M M' : Mem} : ∀ {ls ls2 : List Addr} {xs xs2 : List (List Nat)}, Fresh M M' ls xs → Fresh M M' ls2 xs2 → Fresh M M' (ls ++ ls2) (xs ++ xs2)
  | _, _, _, _, .nil, s => s
  | _, _, _, _, .cons h1 h2 t, s => .cons h1 h2 (t.app s)
theorem Fresh.len {M M' : Mem} : ∀ {ls : List Addr} {xs : List (List Nat)}, Fresh M M' ls xs → ls.length = xs.length
  | _, _, .nil => rfl
  | _, _, .cons _ _ t => by rw [List.length_cons, List.length_cons, t.len]
theorem Fresh.get {M M' : Mem} : ∀ {ls : List Addr} {xs : List (List Nat)} {i : Nat} {l : Addr}, Fresh M M' ls xs → ls[i]? = some l → ∃ x, xs[i]? = some x ∧ M l = none ∧ M' l = some (.lst (x.map encN))
  | _, _, _, _, .nil, h => by simp at h
  | _, _, 0, _, .cons h1 h2 _, h => by
    simp at h; subst h; exact ⟨_, rfl, h1, h2⟩
  | _, _, i + 1, l, .cons _ _ t, h => by
    obtain ⟨x, hx, r⟩ := t.get (i := i) (l := l) (by simpa using h)
    exact ⟨x, by simpa using hx, r⟩
def spChoices (n : Nat) : DSp := fun ds M Q => ∃ many size low : Nat, ds = [.int many, .int size, .int low] ∧ size ≤ n ∧ n ≤ 3 ∧ many ≤ 12 ∧ low ≤ 13 ∧ ∀ (ls : List Addr) (M' : Mem), Ext M M' → Fresh M M' ls (choicesF many size low) → Q (.lst (ls.map D.ref)) M'
section
variable {P : Program} {w : World} {K : PySem.W.Frag} {mg : Str → Option Value} {base : Heap}
theorem rec_choices {f : Addr} {fd : FuncData} (Fn : Fun K "choices" "choices" s_choices f fd) (mf : mg "choices" = some (.ref f)) (zr : mg "range" = none) : ∀ n, FnOk P w K mg base CX0 (n + 1) f fd ["many", "size", "low"] (lift K (spChoices n)) := by
  have bd := Fn.binds (ps := ["many", "size", "low"]) fun _ _ _ _ _ _ us hl => match us, hl with | [_, _, _], _ => rfl
  intro n
  have key : ∀ n', (n' = 0 ∨ ∃ m, n' = m + 1 ∧ Dfn P w K mg base (m + 1) "choices" (spChoices m)) → FnOk P w K mg base CX0 (n' + 1) f fd ["many", "size", "low"] (lift K (spChoices n')) := by
    intro n' hn'
    refine fun_ok Fn sc_choices (fun ds M Q ⟨_, _, _, e, _⟩ => by rw [e]; rfl) fun cdv A outer s H E hr ds M Q h B => ?_
    obtain ⟨many, size, low, rfl, hsz, hn3, hmany, hlow, k⟩ := h
    wtm_at "b"
    wtm_at "g choices"
    cases size with
    | zero =>
      wtm_at "g choices"
      refine ex_lst ?_
      refine ax_cons rfl ?_
      refine ex_lstM (ax_nil ⟨Nat.zero_le _, fun l fl => ?_⟩)
      wtm_at "g choices"
      exact k [l] _ (Ext.new fl) (.cons fl mupd_same .nil)
    | succ size =>
      refine ite_dec (fun h0 => by omega) (fun _ => ?_)
      rcases hn' with e | ⟨m, rfl, dC⟩
      · omega
      wtm_at "g choices"
      refine ex_lstM (ax_nil ⟨Nat.zero_le _, fun c fc => ?_⟩)
      wtm_at "g choices"
      refine sx_for PassesOwn.never rfl (fun _ => rfl) ?_
      refine lx_range2 rfl zr rfl rfl ?_
      wtm_at "g choices"
      refine ⟨_, _, rfl, rfl, by omega, fun i G' M' => ∃ (a4 a5 : Option D) (ls : List Addr), G' = [some (.int many), some (.int (size + 1 : Nat)), some (.int low), some (.ref c), a4, a5] ∧ Ext M M' ∧ M' c = some (.lst (ls.map D.ref)) ∧ c ∉ ls ∧ Fresh M M' ls (((List.range i).map (low + ·)).flatMap fun n => (choicesF many size (n + 1)).map (n :: ·)),
        ⟨_, _, [], rfl, Ext.new fc, mupd_same, by simp, .nil⟩, ?_, ?_⟩
      · rintro i d G' M' hd ⟨a4, a5, ls, rfl, hE, hc, hcl, hF⟩
        obtain ⟨hi, rfl⟩ := rangeD_at hd
        wtm_at "g choices"
        refine ex_bmC PySem.F.slot_list_extend PySem.F.type_list_extend rfl rfl rfl rfl rfl ?_
        wtm_at "g choices"
        refine ⟨c, _, rfl, hc, ?_⟩
        refine ax_cons rfl ?_
        wtm_at "lc choices 0"
        refine lx_list ?_
        wtm_at "g choices"
        have hl1 : low + i + 1 ≤ 13 := by omega
        refine ⟨many, size, low + i + 1, ?_, by omega, by omega, hmany, hl1, fun ks M2 hE2 hF2 => ?_⟩
        · have e1 : ((size + 1 : Nat) : Int) - 1 = (size : Nat) := by omega
          have e2 : (low : Int) + (i : Int) + 1 = ((low + i + 1 : Nat) : Int) := by omega
          rw [e1, e2]
        have hkl := hF2.len
        have hcl2 := choicesF_len (many := many) (by omega) (k := size) (low := low + i + 1)
        have h13 : 13 ^ size ≤ 13 ^ 3 := Nat.pow_le_pow_right (by decide) (by omega)
        refine ⟨_, rfl, fun L hL => ?_⟩
        have hcL : c ≠ L := mne (hE2 c _ hc) hL
        refine ⟨fun j acc M3 => ∃ ls' : List Addr, acc = ls'.map D.ref ∧ Ext M2 M3 ∧ L ∉ ls' ∧ c ∉ ls' ∧ Fresh M M3 ls' (((choicesF many size (low + i + 1)).take j).map ((low + i) :: ·)), ⟨[], rfl, Ext.new hL, by simp, by simp, .nil⟩, ?_, ?_⟩
        · rintro j d acc M3 hd ⟨ls', rfl, hE3, hL3, hc3, hF3⟩ hM
          rw [List.getElem?_map] at hd
          obtain ⟨l, hl, rfl⟩ := Option.map_eq_some_iff.mp hd
          obtain ⟨x, hx, _, hlx⟩ := hF2.get hl
          have hxl := choicesF_mem (List.mem_of_getElem? hx)
          refine fun s1 H1 C1 cl1 fp1 => txs_nil (iteT fun s2 H2 C2 cl2 fp2 => ?_)
          wtm_at "gb choices"
          refine ox_catLM IsL.fz (IsL.ce (hE3 _ _ hlx)) ?_ fun p fp => ?_
          · rw [List.length_map]
            exact Nat.le_trans (by simp; omega : _ ≤ 4) (by decide)
          have hpL : p ≠ L := mnes hM fp
          have hpc : p ≠ c := mnes (hE3 _ _ (hE2 _ _ hc)) fp
          refine ⟨by rw [mupd_ne (Ne.symm hpL)]; exact hM, ?_, ls' ++ [p], by rw [List.map_append]; rfl, ?_, ?_, ?_, ?_⟩
          · have hl' := hF3.len
            rw [List.length_map, List.length_take] at hl'
            rw [List.length_map]
            exact Nat.lt_of_le_of_lt (by omega : _ ≤ 13 ^ 3) (by decide)
          · intro a o ha
            have h1 := hE3 a o ha
            rw [mupd_ne (mne ha hL), mupd_ne (mne h1 fp)]
            exact h1
          · simp only [List.mem_append, List.mem_singleton, not_or]
            exact ⟨hL3, Ne.symm hpL⟩
          · simp only [List.mem_append, List.mem_singleton, not_or]
            exact ⟨hc3, Ne.symm hpc⟩
          · rw [List.take_add_one, hx, Option.toList_some, List.map_append]
            refine Fresh.app (hF3.mono fun a o ha q => ?_) (.cons (hE.free (hE2.free (hE3.free fp))) ?_ .nil)
            · rw [mupd_ne (ne_of_mem ha hL3), mupd_ne (mne q fp)]
              exact q
            · rw [mupd_ne hpL, mupd_same]
              rfl
        · rintro acc M3 ⟨ls', rfl, hE3, hL3, hc3, hF3⟩ hM
          rw [List.length_map, hkl, List.take_length] at hF3
          have hl0 := hF.len
          have hl3 := hF3.len
          have hcE : (mdel M3 L) c = some (.lst (ls.map D.ref)) := by
            unfold mdel
            rw [if_neg hcL]
            exact hE3 _ _ (hE2 _ _ hc)
          refine ax_nil (mx_extend hcE IsL.fz (fun z => by cases z) ?_ ?_)
          · have hq : (((List.range i).map (low + ·)).flatMap fun n => (choicesF many size (n + 1)).map (n :: ·)).length ≤ 12 * 13 ^ 3 := by
              refine Nat.le_trans (flatMap_len (c := 13 ^ 3) fun n _ => by
                rw [List.length_map]
                exact Nat.le_trans (choicesF_len (by omega)) h13) ?_
              rw [List.length_map, List.length_range]
              exact Nat.mul_le_mul_right _ (by omega)
            rw [List.length_map, List.length_map, hl0, hl3, List.length_map]
            exact Nat.le_trans (by omega : _ ≤ 13 * 13 ^ 3) (by decide)
          · have del : ∀ a o, a ≠ L → M3 a = some o → mdel M3 L a = some o := fun a o ha h => by
              unfold mdel
              rw [if_neg ha]
              exact h
            refine ⟨_, _, ls ++ ls', rfl, ?_, by rw [mupd_same, List.map_append], ?_, ?_⟩
            · intro a o ha
              rw [mupd_ne (mne ha fc)]
              exact del a o (mne (hE2 _ _ (hE a o ha)) hL) (hE3 _ _ (hE2 _ _ (hE a o ha)))
            · simp only [List.mem_append, not_or]
              exact ⟨hcl, hc3⟩
            · rw [List.range_succ, List.map_append, List.flatMap_append]
              refine Fresh.app (hF.mono fun a o ha q => ?_) ?_
              · rw [mupd_ne (ne_of_mem ha hcl)]
                exact del a o (mne (hE2 _ _ q) hL) (hE3 _ _ (hE2 _ _ q))
              · have e : ([i].map (low + ·)).flatMap (fun n => (choicesF many size (n + 1)).map (n :: ·)) = (choicesF many size (low + i + 1)).map ((low + i) :: ·) := by simp
                rw [e]
                refine hF3.mono fun a o ha q => ?_
                rw [mupd_ne (ne_of_mem ha hc3)]
                exact del a o (ne_of_mem ha hL3) q
      · rintro G' M' ⟨a4, a5, ls, rfl, hE, hc, hcl, hF⟩
        refine sxs_one (sx_ret (ex_freeze ?_))
        wtm_at "g choices"
        refine ⟨c, _, rfl, hc, ?_⟩
        have hn : (rangeD (low : Int) ((many : Int) - (low : Int)).toNat).length = many - low := by rw [rangeD_len]; omega
        rw [hn] at hF
        refine k ls _ (Ext.del fc hE) (hF.mono fun a o ha q => ?_)
        unfold mdel
        rw [if_neg (ne_of_mem ha hcl)]
        exact q
  induction n with
  | zero => exact key 0 (.inl rfl)
  | succ n ih => exact key (n + 1) (.inr ⟨n, rfl, ⟨f, fd, _, ih, mf, Fn.kp, bd⟩⟩)
theorem ok_choices {f : Addr} {fd : FuncData} (Fn : Fun K "choices" "choices" s_choices f fd) (mf : mg "choices" = some (.ref f)) (zr : mg "range" = none) : FnOk P w K mg base CX0 4 f fd ["many", "size", "low"] (lift K (spChoices 3)) := by
  exact rec_choices Fn mf zr 3
end
/-! ### the fewest losses -/
def keepS (ss : List (Int × Nat)) (lost : List Nat) : List (Int × Nat) := (List.range ss.length).filterMap fun k => if k ∈ lost then none else ss[k]?
def weakF (b : List Cmd) (d : Int) (ss : List (Int × Nat)) (most : Nat) : Option (List Nat) := (List.range (most + 1)).findSome? fun size => (choicesF ss.length size 0).find? fun lost => !allDone b d (keepS ss lost)
theorem find_first {α : Type} {p : α → Bool} : ∀ {l : List α} {j : Nat} {x : α}, (∀ y ∈ l.take j, p y = false) → l[j]? = some x → p x = true → l.find? p = some x
  | [], _, _, _, h, _ => by simp at h
  | y :: l, 0, x, _, h, hp => by
    have e : y = x := by simpa using h
    rw [List.find?_cons, e, hp]
  | y :: l, j + 1, x, hn, h, hp => by
    have h1 : p y = false := hn y (by simp)
    rw [List.find?_cons, h1]
    exact find_first (fun z hz => hn z (by rw [List.take_succ_cons]; exact List.mem_cons_of_mem _ hz)) (by simpa using h) hp
theorem findSome_first {α β : Type} {f : α → Option β} : ∀ {l : List α} {j : Nat} {x : α} {y : β}, (∀ z ∈ l.take j, f z = none) → l[j]? = some x → f x = some y → l.findSome? f = some y
  | [], _, _, _, _, h, _ => by simp at h
  | z :: l, 0, x, y, _, h, hp => by
    have e : z = x := by simpa using h
    rw [List.findSome?_cons, e, hp]
  | z :: l, j + 1, x, y, hn, h, hp => by
    have h1 : f z = none := hn z (by simp)
    rw [List.findSome?_cons, h1]
    exact findSome_first (fun u hu => hn u (by rw [List.take_succ_cons]; exact List.mem_cons_of_mem _ hu)) (by simpa using h) hp
def spWeak : DSp := fun ds M Q => ∃ (b : List Cmd) (d : Int) (ss : List (Int × Nat)) (most : Nat), ds = [encB b, .int d, .lst (ss.map encSd), .int most] ∧ BookOk b ∧ 1 ≤ d ∧ d ≤ 9 ∧ SendsOk b.length ss ∧ ss.length ≤ 12 ∧ most ≤ 3 ∧
  ∀ M', Ext M M' → (weakF b d ss most = none → Q .non M') ∧ ∀ lost l, weakF b d ss most = some lost → M l = none → M' l = some (.lst (lost.map encN)) → Q (.ref l) M'
section
variable {P : Program} {w : World} {K : PySem.W.Frag} {mg : Str → Option Value} {base : Heap}
theorem ok_weak {f : Addr} {fd : FuncData} (Fn : Fun K "weak" "weak" s_weak f fd) (zl : mg "len" = none) (zr : mg "range" = none) (gM : Cst K mg "MOST_LOST" (.int 3)) (gS : Cst K mg "MOST_SENDS" (.int 12)) (dB : Dfn P w K mg base 3 "need_book" spNeedBook) (dD : Dfn P w K mg base 2 "need_delay" spNeedDelay) (dS : Dfn P w K mg base 2 "need_sends" spNeedSends)
    (dN : Dfn P w K mg base 1 "is_number" spIsNumber) (dC : Dfn P w K mg base 4 "choices" (spChoices 3)) (dA : Dfn P w K mg base 2 "all_done" spAllDone) : FnOk P w K mg base CX0 5 f fd ["book", "delay", "sends", "most"] (lift K spWeak) := by
  refine fun_ok Fn sc_weak (fun ds M Q ⟨_, _, _, _, e, _⟩ => by rw [e]; rfl) fun cdv A outer s H E hr ds M Q h B => ?_
  obtain ⟨b, d, ss, most, rfl, ok, d1, d9, hss, hs12, hm3, k⟩ := h
  wtm_at "b"
  wtm_at "g weak"
  refine ⟨b, rfl, ok, ?_⟩
  wtm_at "g weak"
  refine ⟨d, rfl, d1, d9, ?_⟩
  wtm_at "g weak"
  refine ⟨b, ss, rfl, ok.le, hss, ?_⟩
  wtm_at "g weak"
  refine num_ok (by omega) (by omega) ?_
  wtm_at "g weak"
  rw [List.length_map]
  refine ite_dec (fun h => by omega) (fun _ => ?_)
  wtm_at "g weak"
  refine sx_for PassesOwn.never rfl (fun _ => rfl) ?_
  refine lx_range1 rfl zr rfl ?_
  wtm_at "g weak"
  have eR : ((most : Int) + 1).toNat = most + 1 := by omega
  refine ⟨_, rfl, by omega, by omega, ?_⟩
  rw [eR]
  refine ⟨fun i G' M' => ∃ a4 a5 a6 : Option D, G' = [some (encB b), some (.int d), some (.lst (ss.map encSd)), some (.int most), a4, a5, a6] ∧ Ext M M' ∧ ∀ z, z < i → (choicesF ss.length z 0).find? (fun lost => !allDone b d (keepS ss lost)) = none,
    ⟨_, _, _, rfl, Ext.refl M, fun z hz => by omega⟩, ?_, ?_⟩
  · rintro size dd G' M' hd ⟨a4, a5, a6, rfl, hE, hprev⟩
    obtain ⟨hi, rfl⟩ := rangeD_at hd
    wtm_at "g weak"
    refine sx_for PassesOwn.never rfl (fun _ => rfl) ?_
    refine lx_list ?_
    wtm_at "g weak"
    refine ⟨ss.length, size, 0, ?_, by omega, by omega, hs12, by omega, fun ls M1 hE1 hF => ?_⟩
    · rw [List.length_map]
      simp
    have hll := hF.len
    refine ⟨_, rfl, fun j G2 M2 => ∃ a5 a6 : Option D, G2 = [some (encB b), some (.int d), some (.lst (ss.map encSd)), some (.int most), some (.int (0 + (size : Int))), a5, a6] ∧ Ext M1 M2 ∧ ∀ y ∈ (choicesF ss.length size 0).take j, (!allDone b d (keepS ss y)) = false,
      ⟨_, _, rfl, Ext.refl M1, by simp⟩, ?_, ?_⟩
    · rintro j dd G2 M2 hd2 ⟨a5, a6, rfl, hE2, hno⟩
      rw [List.getElem?_map] at hd2
      obtain ⟨l, hl, rfl⟩ := Option.map_eq_some_iff.mp hd2
      obtain ⟨x, hx, hl0, hlx⟩ := hF.get hl
      wtm_at "g weak"
      wtm_at "lcp weak 0"
      case f => exact fun d => match d with
        | .int k => if k.toNat ∈ x then none else (ss[k.toNat]?).map encSd
        | _ => none
      refine lx_range1 rfl zr rfl ?_
      wtm_at "g weak"
      rw [List.length_map]
      refine ⟨_, rfl, by omega, by omega, ⟨?_, fun dd M3 hd3 hm => ?_⟩, ?_⟩
      · rw [rangeD_len]
        exact Nat.lt_of_le_of_lt (by omega : _ ≤ 12) (by decide)
      · obtain ⟨m, hm0⟩ := List.mem_iff_getElem?.mp hd3
        obtain ⟨hmlt, rfl⟩ := rangeD_at hm0
        have hm1 : m < ss.length := by omega
        refine fun s1 H1 C1 cl1 fp1 => txs_one ?_
        wtm_at "wb weak"
        refine ox_notInC (hm _ _ (hE2 _ _ hlx)) rfl ?_ ?_
        · simp only [List.all_map, List.all_eq_true]
          intro y _; rfl
        have e0 : inD (.int (0 + (m : Int))) (x.map encN) = decide (m ∈ x) := by
          have e1 : x.map encN = (x.map fun n : Nat => (n : Int)).map D.int := by rw [List.map_map]; rfl
          rw [e1, inD_int]
          refine dec_of ?_
          simp only [Int.zero_add, List.mem_map]
          constructor
          · rintro ⟨a, ha, e⟩
            have : a = m := by omega
            exact this ▸ ha
          · exact fun hx => ⟨m, hx, rfl⟩
        rw [e0]
        have et : ((0 : Int) + (m : Int)).toNat = m := by omega
        refine asB_bl (ite_ndec (fun h4 => fun s2 H2 C2 cl2 fp2 => ?_) (fun h4 => ?_))
        · wtm_at "wb weak"
          have es : (ss.map encSd)[m]? = some (encSd ss[m]) := by rw [List.getElem?_map, List.getElem?_eq_getElem hm1]; rfl
          refine ix_l (atI_of (j := m) (by omega) es) ⟨rfl, ?_⟩
          show (if ((0 : Int) + (m : Int)).toNat ∈ x then none else (ss[((0 : Int) + (m : Int)).toNat]?).map encSd) = _
          rw [et, if_neg h4, List.getElem?_eq_getElem hm1]
          rfl
        · refine ⟨rfl, ?_⟩
          show (if ((0 : Int) + (m : Int)).toNat ∈ x then none else (ss[((0 : Int) + (m : Int)).toNat]?).map encSd) = none
          rw [et, if_pos h4]
      have eK : (rangeD 0 (ss.length : Int).toNat).filterMap (fun d => match d with
        | .int k => if k.toNat ∈ x then none else (ss[k.toNat]?).map encSd
        | _ => none) = (keepS ss x).map encSd := by
        unfold rangeD keepS
        rw [List.filterMap_map, List.map_filterMap]
        refine congrArg (fun f => List.filterMap f (List.range ss.length)) (funext fun k => ?_)
        show (if ((0 : Int) + (k : Int)).toNat ∈ x then none else (ss[((0 : Int) + (k : Int)).toNat]?).map encSd) = _
        have et : ((0 : Int) + (k : Int)).toNat = k := by omega
        rw [et]
        by_cases hk : k ∈ x
        · rw [if_pos hk, if_pos hk]; rfl
        · rw [if_neg hk, if_neg hk]
      rw [eK]
      wtm_at "g weak"
      refine ⟨b, d, keepS ss x, rfl, ok, ?_, ?_⟩
      · intro s hs
        unfold keepS at hs
        obtain ⟨k, _, hk⟩ := List.mem_filterMap.mp hs
        split at hk
        · cases hk
        · exact (hss.ok s (List.mem_of_getElem? hk)).2.2
      refine asB_bl (ite_nb (fun hd => ?_) (fun hd => ?_))
      · wtm_at "g weak"
        refine (k M2 (hE.trans (hE1.trans hE2))).2 x l ?_ (hE.free hl0) (hE2 _ _ hlx)
        refine findSome_first (j := size) (x := size) (fun z hz => ?_) ?_ (find_first (j := j) hno hx (by rw [hd]; rfl))
        · obtain ⟨m, hm⟩ := List.mem_iff_getElem?.mp hz
          have hms : m < size := by
            have := (List.getElem?_eq_some_iff.mp hm).1
            rw [List.length_take, List.length_range] at this
            omega
          rw [List.getElem?_take, if_pos hms, List.getElem?_range (by omega)] at hm
          have : z = m := (Option.some.inj hm).symm
          rw [this]
          exact hprev m hms
        · rw [List.getElem?_range (by omega)]
      · wtm_at "g weak"
        refine ⟨_, _, rfl, hE2, fun y hy => ?_⟩
        rw [List.take_add_one, hx] at hy
        rcases List.mem_append.mp hy with hy | hy
        · exact hno y hy
        · have : y = x := by simpa using hy
          rw [this, hd]; rfl
    · rintro G2 M2 ⟨a5, a6, rfl, hE2, hno⟩
      refine ⟨_, _, _, rfl, hE.trans (hE1.trans hE2), fun z hz => ?_⟩
      by_cases e : z = size
      · subst e
        rw [List.length_map, hll, List.take_length] at hno
        rw [List.find?_eq_none]
        intro y hy
        rw [hno y hy]; simp
      · exact hprev z (by omega)
  · rintro G' M' ⟨a4, a5, a6, rfl, hE, hprev⟩
    wtm_at "b"
    wtm_at "g weak"
    refine (k M' hE).1 ?_
    rw [rangeD_len] at hprev
    unfold weakF
    rw [List.findSome?_eq_none_iff]
    intro z hz
    exact hprev z (by simpa using hz)
end
/-! ### the word of a refusal -/
/-- the word of an error -/
def WdE (K : PySem.W.Frag) (cl : Str → Addr) (y : XD) (d : D) : Prop :=
  y = ⟨cl "BadCount", none⟩ ∧ ErrK K cl "BadCount" ∧ d = .str "count"
theorem WdE.ex {K : PySem.W.Frag} {cl : Str → Addr} {y : XD} {d : D} (h : WdE K cl y d) : PySem.W.exmOne K (.ref y.C) (.ref (cl "LinkError")) = some true := by
  obtain ⟨rfl, e, _⟩ := h
  exact e.ex
/-- the place of the one that is true -/
theorem hot_before {es : List D} {d : D} {j : Nat} (h : (es.take j).all (fun z => !eqV z.toV d.toV) = true) : ∀ m z, m < j → es[m]? = some z → eqV z.toV d.toV = false := fun m z hm hz => by
  have e : (es.take j)[m]? = some z := by rw [List.getElem?_take, if_pos hm]; exact hz
  have := List.all_eq_true.mp h z (List.mem_of_getElem? e)
  simpa using this
section
variable {P : Program} {w : World} {K : PySem.W.Frag} {mg : Str → Option Value} {base : Heap}
set_option maxHeartbeats 4000000 in
theorem wf_L_word {cl : Str → Addr} {f : Addr} {fd : FuncData} (Fn : Fun K "_law_word" "_law_word" s_L_word f fd) (mw : mg "_law_word" = some (.ref f)) (bd : Binds K fd ["_law_work"] []) (zi : mg "isinstance" = none) (zv : mg "ValueError" = none) (gL : mg "LinkError" = some (.ref (cl "LinkError")))
    (g0 : Cst K mg "BadBook" (.ref (cl "BadBook"))) (g1 : Cst K mg "BadLetters" (.ref (cl "BadLetters"))) (g2 : Cst K mg "BadStep" (.ref (cl "BadStep"))) (g3 : Cst K mg "BadText" (.ref (cl "BadText"))) (g4 : Cst K mg "BadDelay" (.ref (cl "BadDelay"))) (g5 : Cst K mg "BadWindows" (.ref (cl "BadWindows"))) (g6 : Cst K mg "NoCommand" (.ref (cl "NoCommand")))
    (g7 : Cst K mg "NoWindow" (.ref (cl "NoWindow"))) (g8 : Cst K mg "NoLetter" (.ref (cl "NoLetter"))) (g9 : Cst K mg "BadReport" (.ref (cl "BadReport"))) (g10 : Cst K mg "TooMany" (.ref (cl "TooMany"))) (g11 : Cst K mg "BadCount" (.ref (cl "BadCount"))) (g12 : Cst K mg "Over" (.ref (cl "Over"))) :
    WordF P w K mg base "_law_word" (WdE K cl) := by
  obtain ⟨oc, od, kV, doc, pm, an, cdv, ct, osl, rfl, lk, hcd⟩ := Fn.ex
  refine ⟨f, "_law_work", n_L_word, _, _, _, _, _, _, _, cdv, _, _, _, _, _, mw, Fn.kp, lk, hcd, bd, sc_L_word, rfl, .inl (by decide +kernel), by decide, by decide, ?_⟩
  intro A outer s H B hr f' M Ex Q hEx hact
  refine sxs_cons (sx_tryX (i := 1) Ex rfl rfl sc_L_word.nd rfl rfl ⟨rfl, by decide, .inl gL⟩ (fun y M' h => ?_) (fun B' pn xe sB tk => ?_) fun a oe cls d pn y M' hz hf xr ex => ?_)
  · obtain ⟨d, h1, _⟩ := hEx y M' h
    exact h1.ex
  · exact sxs_one (sx_expr rfl (hact B' pn xe _ _ _ _ sB tk rfl))
  · obtain ⟨dd, hw, q⟩ := hEx y M' ex
    obtain ⟨rfl, hd⟩ := xr
    have eG : (List.replicate (cxOf CX0 P w K mg base n_L_word "_law_word" (defScope s_L_word) f cdv A outer s H E0).nox.N.length (none : Option D)).set 1 (some (D.ref a)) = [none, some (.ref a), none, none, none] := rfl
    obtain ⟨rfl, e, rfl⟩ := hw
    · have hd' : d = none := hd
      subst hd'
      have hdx : DxK M' none := trivial
      have isF : ∀ {G Q} (x : Str), x ∈ kinds → decide (x = "BadCount") = false → Q (.bl false) M' → BX B (Cx.suite (cxOf CX0 P w K mg base n_L_word "_law_word" (defScope s_L_word) f cdv A outer s H E0).nox a ((a, oe) :: pn)) (.builtin "isinstance") [.ref a, .ref (cl x)] G M' Q := fun x hx hb q => bx_isX e.ec hz hf hdx ((e.ki x hx).trans (by rw [hb])) q
      have isT : ∀ {G Q} (x : Str), x ∈ kinds → decide (x = "BadCount") = true → Q (.bl true) M' → BX B (Cx.suite (cxOf CX0 P w K mg base n_L_word "_law_word" (defScope s_L_word) f cdv A outer s H E0).nox a ((a, oe) :: pn)) (.builtin "isinstance") [.ref a, .ref (cl x)] G M' Q := fun x hx hb q => bx_isX e.ec hz hf hdx ((e.ki x hx).trans (by rw [hb])) q
      rw [eG]
      wtm_at "b"
      wtm_at "gx L_word"
      refine ex_lst ?_
      wtm_at "hx L_word"
      repeat (first | (with_reducible refine isF _ (by decide) (by decide) ?_) | (with_reducible refine isT _ (by decide) (by decide) ?_) | wtm_at "hx1 L_word")
      refine ox_catL IsL.fz IsL.fz ?_ ?_
      · exact Nat.le_of_ble_eq_true rfl
      repeat (first | (with_reducible refine isF _ (by decide) (by decide) ?_) | (with_reducible refine isT _ (by decide) (by decide) ?_) | wtm_at "hx1 L_word")
      refine ox_catL IsL.fz IsL.fz ?_ ?_
      · exact Nat.le_of_ble_eq_true rfl
      repeat (first | (with_reducible refine isF _ (by decide) (by decide) ?_) | (with_reducible refine isT _ (by decide) (by decide) ?_) | wtm_at "hx1 L_word")
      refine ox_catL IsL.fz IsL.fz ?_ ?_
      · exact Nat.le_of_ble_eq_true rfl
      wtm_at "hx L_word"
      refine sx_ifF ?_ ?_
      · wtm_at "hx L_word"
        refine ex_bmL PySem.F.slot_list_count PySem.F.type_list_count rfl rfl rfl rfl rfl ?_
        wtm_at "hx L_word"
        refine ⟨_, IsL.fz, ?_⟩
        wtm_at "hx L_word"
        refine mx_count (n := 1) IsL.fz rfl rfl rfl ?_
        wtm_at "hx L_word"
        refine bx_isXT e.ec hz hf hdx e.kv ?_
        wtm_at "hx L_word"
        exact ⟨rfl, rfl⟩
      wtm_at "hx L_word"
      refine ex_lst ?_
      wtm_at "hx L_word"
      refine ox_catL IsL.fz IsL.fz ?_ ?_
      · exact Nat.le_of_ble_eq_true rfl
      refine ex_bmL PySem.F.slot_list_index PySem.F.type_list_index rfl rfl rfl rfl rfl ?_
      wtm_at "hx L_word"
      refine ⟨_, IsL.fz, ?_⟩
      wtm_at "hx L_word"
      refine mx_index (j := 11) IsL.fz rfl rfl ⟨_, rfl, rfl⟩ (hot_before rfl) ?_
      wtm_at "hx L_word"
      refine sx_ifF ?_ ?_
      · wtm_at "hx L_word"
        refine ox_inT rfl rfl ?_
        exact ⟨rfl, rfl⟩
      wtm_at "hx L_word"
      refine sx_ifF ?_ ?_
      · wtm_at "hx L_word"
        exact ⟨rfl, rfl⟩
      wtm_at "hx L_word"
      exact q
end
/-! ### as many letters of each, in any row (no program here) -/
def rowStep (n often : Nat) (o : List Nat) : List (List Nat) := ((List.range n).filter fun x => decide (o.count x < often)).map fun x => o ++ [x]
def rowsK (n often : Nat) : Nat → List (List Nat)
  | 0 => [[]]
  | k + 1 => (rowsK n often k).flatMap (rowStep n often)
theorem mem_rows {n often : Nat} : ∀ {k : Nat} {l : List Nat}, l ∈ rowsK n often k ↔ l.length = k ∧ (∀ x ∈ l, x < n) ∧ ∀ x, l.count x ≤ often
  | 0, l => by
    constructor
    · intro h
      have : l = [] := by simpa [rowsK] using h
      subst this; simp
    · rintro ⟨h, _⟩
      have : l = [] := List.eq_nil_of_length_eq_zero h
      subst this; simp [rowsK]
  | k + 1, l => by
    rw [rowsK, List.mem_flatMap]
    unfold rowStep
    constructor
    · rintro ⟨o, ho, h⟩
      obtain ⟨x, hx, rfl⟩ := List.mem_map.mp h
      obtain ⟨hx1, hx2⟩ := List.mem_filter.mp hx
      obtain ⟨h1, h2, h3⟩ := mem_rows.mp ho
      have hx3 := of_decide_eq_true hx2
      refine ⟨by simp [h1], fun y hy => ?_, fun y => ?_⟩
      · rcases List.mem_append.mp hy with hy | hy
        · exact h2 y hy
        · rw [List.mem_singleton.mp hy]; exact List.mem_range.mp hx1
      · rw [List.count_append, List.count_singleton]
        by_cases e : (x == y) = true
        · rw [if_pos e]
          have e2 : x = y := by simpa using e
          subst e2; omega
        · rw [if_neg e]
          exact h3 y
    · rintro ⟨h1, h2, h3⟩
      obtain ⟨r, x, e⟩ : ∃ r x, l = r ++ [x] := by
        cases hl : l.reverse with
        | nil => rw [List.reverse_eq_nil_iff] at hl; subst hl; cases h1
        | cons x r => exact ⟨r.reverse, x, by rw [← List.reverse_reverse l, hl, List.reverse_cons]⟩
      subst e
      have hc : ∀ y, r.count y + (if (x == y) = true then 1 else 0) ≤ often := fun y => by
        have := h3 y
        rw [List.count_append, List.count_singleton] at this
        exact this
      refine ⟨r, mem_rows.mpr ⟨by simpa using h1, fun y hy => h2 y (List.mem_append_left _ hy), fun y => Nat.le_trans (Nat.le_add_right _ _) (hc y)⟩, List.mem_map.mpr ⟨x, List.mem_filter.mpr ⟨List.mem_range.mpr (h2 x (by simp)), decide_eq_true ?_⟩, rfl⟩⟩
      have := hc x
      rw [if_pos (by simp)] at this
      omega
theorem rowsK_len {n often : Nat} : ∀ {k : Nat}, (rowsK n often k).length ≤ n ^ k
  | 0 => by simp [rowsK]
  | k + 1 => by
    rw [rowsK, Nat.pow_succ]
    refine Nat.le_trans (flatMap_len' (c := n) fun o _ => ?_) (Nat.mul_le_mul_right _ rowsK_len)
    unfold rowStep
    rw [List.length_map]
    exact Nat.le_trans (List.length_filter_le _ _) (by simp)
/-- the last place -/
def lastIx : List Nat → Nat → Nat
  | [], _ => 0
  | _ :: l, k => if k ∈ l then lastIx l k + 1 else 0
theorem lastIx_at : ∀ {l : List Nat} {k : Nat}, k ∈ l → l[lastIx l k]? = some k
  | x :: l, k, h => by
    rw [lastIx]
    by_cases e : k ∈ l
    · rw [if_pos e, List.getElem?_cons_succ]; exact lastIx_at e
    · rw [if_neg e]
      rcases List.mem_cons.mp h with h | h
      · rw [h]; rfl
      · exact absurd h e
theorem lastIx_max : ∀ {l : List Nat} {k i : Nat}, l[i]? = some k → i ≤ lastIx l k
  | [], _, _, h => by simp at h
  | x :: l, k, 0, _ => Nat.zero_le _
  | x :: l, k, i + 1, h => by
    rw [List.getElem?_cons_succ] at h
    rw [lastIx, if_pos (List.mem_of_getElem? h)]
    exact Nat.succ_le_succ (lastIx_max h)
theorem lastIx_uniq {l : List Nat} {k m : Nat} (h : l[m]? = some k) (g : ∀ i, l[i]? = some k → i ≤ m) : m = lastIx l k :=
  Nat.le_antisymm (lastIx_max h) (g _ (lastIx_at (List.mem_of_getElem? h)))
theorem cnt_sum : ∀ {s : List Nat}, s.Nodup → ∀ l : List Nat, (s.map fun j => l.count j).sum = (l.filter fun x => decide (x ∈ s)).length
  | [], _, l => by
    rw [List.filter_eq_nil_iff.mpr (by simp)]; rfl
  | a :: s, h, l => by
    obtain ⟨h1, h2⟩ := List.nodup_cons.mp h
    rw [List.map_cons, List.sum_cons, cnt_sum h2 l]
    induction l with
    | nil => rfl
    | cons x l ih =>
      rw [List.count_cons, List.filter_cons, List.filter_cons]
      by_cases e : x = a
      · subst e
        rw [if_pos (by simp), decide_eq_false h1, decide_eq_true (List.mem_cons_self ..)]
        simp only [Bool.false_eq_true, if_false, if_true, List.length_cons]
        omega
      · rw [if_neg (by simpa using e)]
        by_cases q : x ∈ s
        · rw [decide_eq_true q, decide_eq_true (List.mem_cons_of_mem _ q)]
          simp only [if_true, List.length_cons]
          omega
        · rw [decide_eq_false q, decide_eq_false (by simp [e, q])]
          simp only [Bool.false_eq_true, if_false]
          omega
theorem sum_lt {f : Nat → Nat} {c k : Nat} : ∀ {s : List Nat}, (∀ j ∈ s, f j ≤ c) → k ∈ s → f k < c → (s.map f).sum < s.length * c
  | a :: s, h, hk, hlt => by
    rw [List.map_cons, List.sum_cons, List.length_cons, Nat.succ_mul]
    have ha := h a (by simp)
    have hs : (s.map f).sum ≤ s.length * c := by
      clear hk hlt
      induction s with
      | nil => simp
      | cons y s ih =>
        have := h y (by simp)
        have := ih fun j hj => h j (by rcases List.mem_cons.mp hj with e | e <;> simp [e])
        rw [List.map_cons, List.sum_cons, List.length_cons, Nat.succ_mul]
        omega
    rcases List.mem_cons.mp hk with e | e
    · subst e; omega
    · have := sum_lt (fun j hj => h j (List.mem_cons_of_mem _ hj)) e hlt
      omega
theorem rows_full {n often : Nat} {l : List Nat} (h : l ∈ rowsK n often (n * often)) : ∀ k, k < n → l.count k = often := by
  obtain ⟨h1, h2, h3⟩ := mem_rows.mp h
  intro k hk
  have hs := cnt_sum (List.nodup_range (n := n)) l
  have hf : (l.filter fun x => decide (x ∈ List.range n)) = l := List.filter_eq_self.mpr fun x hx => by simpa using h2 x hx
  rw [hf, h1] at hs
  by_cases e : l.count k < often
  · have := sum_lt (s := List.range n) (f := fun j => l.count j) (c := often) (k := k) (fun j _ => h3 j) (by simpa using hk) e
    rw [List.length_range] at this
    omega
  · have := h3 k
    omega
/-- all, by their last places -/
def lasts : List Nat → List Nat
  | [] => []
  | x :: l => if x ∈ l then lasts l else x :: lasts l
theorem mem_lasts : ∀ {l : List Nat} {k : Nat}, k ∈ lasts l ↔ k ∈ l
  | [], _ => Iff.rfl
  | x :: l, k => by
    rw [lasts]
    by_cases e : x ∈ l
    · rw [if_pos e, mem_lasts]
      constructor
      · exact List.mem_cons_of_mem _
      · intro h
        rcases List.mem_cons.mp h with h | h
        · rw [h]; exact e
        · exact h
    · rw [if_neg e, List.mem_cons, List.mem_cons, mem_lasts]
theorem lasts_nd : ∀ {l : List Nat}, (lasts l).Nodup
  | [] => List.nodup_nil
  | x :: l => by
    rw [lasts]
    by_cases e : x ∈ l
    · rw [if_pos e]; exact lasts_nd
    · rw [if_neg e]
      exact List.nodup_cons.mpr ⟨fun h => e (mem_lasts.mp h), lasts_nd⟩
theorem cum : ∀ {l : List Nat} {k : Nat}, k ∈ l → (((lasts l).take ((lasts l).idxOf k + 1)).map fun j => l.count j).sum ≤ lastIx l k + 1
  | x :: l, k, h => by
    by_cases e : x ∈ l
    · have hk : k ∈ l := by
        rcases List.mem_cons.mp h with h | h
        · rw [h]; exact e
        · exact h
      rw [lasts, if_pos e, lastIx, if_pos hk]
      have ih := cum hk
      have nd : ((lasts l).take ((lasts l).idxOf k + 1)).Nodup := List.Sublist.nodup (List.take_sublist _ _) lasts_nd
      rw [cnt_sum nd] at ih ⊢
      rw [List.filter_cons]
      split
      · rw [List.length_cons]; omega
      · omega
    · rw [lasts, if_neg e]
      by_cases q : k = x
      · subst q
        have e1 : (k :: lasts l).idxOf k = 0 := by simp
        rw [e1, lastIx, if_neg e]
        simp [List.count_eq_zero_of_not_mem e]
      · have hk : k ∈ l := by
          rcases List.mem_cons.mp h with h | h
          · exact absurd h q
          · exact h
        have e1 : (x :: lasts l).idxOf k = (lasts l).idxOf k + 1 := by
          rw [List.idxOf_cons]
          have : (x == k) = false := by simpa using fun z => q z.symm
          rw [this]; rfl
        rw [e1, lastIx, if_pos hk, List.take_succ_cons, List.map_cons, List.sum_cons]
        have ih := cum hk
        have ex : (x :: l).count x = 1 := by simp [List.count_eq_zero_of_not_mem e]
        have es : ((lasts l).take ((lasts l).idxOf k + 1)).map (fun j => (x :: l).count j) = ((lasts l).take ((lasts l).idxOf k + 1)).map fun j => l.count j := by
          refine List.map_congr_left fun j hj => ?_
          have hjl : j ∈ l := mem_lasts.mp (List.mem_of_mem_take hj)
          rw [List.count_cons, if_neg]
          · rfl
          · intro z
            have : x = j := by simpa using z
            exact e (this ▸ hjl)
        rw [ex, es]
        omega
theorem sum_const {f : Nat → Nat} {c : Nat} : ∀ {s : List Nat}, (∀ j ∈ s, f j = c) → (s.map f).sum = s.length * c
  | [], _ => by simp
  | a :: s, h => by
    rw [List.map_cons, List.sum_cons, List.length_cons, Nat.succ_mul, h a (by simp), sum_const fun j hj => h j (List.mem_cons_of_mem _ hj)]
    omega
theorem lasts_ord {n often : Nat} {l : List Nat} (ho : 0 < often) (h : l ∈ rowsK n often (n * often)) : lasts l ∈ ordersF n ∧ ∀ k, k < n → (lasts l).idxOf k < n ∧ often * ((lasts l).idxOf k + 1) ≤ lastIx l k + 1 := by
  obtain ⟨h1, h2, h3⟩ := mem_rows.mp h
  have hf := rows_full h
  have hm : ∀ k, k ∈ lasts l ↔ k < n := fun k => by
    rw [mem_lasts]
    constructor
    · exact h2 k
    · intro hk
      refine List.count_pos_iff.mp ?_
      rw [hf k hk]; exact ho
  have hl : (lasts l).length = n := by
    have a := lasts_nd.length_le_of_subset (l₂ := List.range n) fun k hk => by simpa using (hm k).mp hk
    have c := (List.nodup_range (n := n)).length_le_of_subset (l₂ := lasts l) fun k hk => (hm k).mpr (by simpa using hk)
    rw [List.length_range] at a c
    omega
  refine ⟨?_, fun k hk => ?_⟩
  · unfold ordersF
    exact mem_orders.mpr ⟨hl, lasts_nd, fun x hx => (hm x).mp hx⟩
  · have hi : (lasts l).idxOf k < (lasts l).length := List.idxOf_lt_length_of_mem ((hm k).mpr hk)
    have c := cum (mem_lasts.mp ((hm k).mpr hk))
    rw [sum_const (c := often) fun j hj => hf j ((hm j).mp (List.mem_of_mem_take hj)), List.length_take, Nat.min_eq_left (by omega), Nat.mul_comm] at c
    exact ⟨by omega, c⟩
/-- each so often, one behind the other -/
def grp (often : Nat) (o : List Nat) : List Nat := o.flatMap fun x => List.replicate often x
theorem grp_len {often : Nat} : ∀ {o : List Nat}, (grp often o).length = o.length * often
  | [] => by simp [grp]
  | x :: o => by
    have ih := grp_len (often := often) (o := o)
    unfold grp at ih ⊢
    rw [List.flatMap_cons, List.length_append, List.length_replicate, ih, List.length_cons, Nat.succ_mul]; omega
theorem grp_at {often : Nat} (h : 0 < often) : ∀ {o : List Nat} {i : Nat}, (grp often o)[i]? = o[i / often]?
  | [], i => by simp [grp]
  | x :: o, i => by
    have e : grp often (x :: o) = List.replicate often x ++ grp often o := by unfold grp; rw [List.flatMap_cons]
    rw [e]
    by_cases q : i < often
    · rw [List.getElem?_append_left (by simpa using q), List.getElem?_replicate, if_pos q, Nat.div_eq_of_lt q]; rfl
    · rw [List.getElem?_append_right (by simpa using q), List.length_replicate, grp_at h]
      have e2 : i / often = (i - often) / often + 1 := by
        rw [Nat.div_eq_sub_div h (by omega)]
      rw [e2, List.getElem?_cons_succ]
theorem grp_count {often k : Nat} : ∀ {o : List Nat}, (grp often o).count k = o.count k * often
  | [] => by simp [grp]
  | x :: o => by
    have e : grp often (x :: o) = List.replicate often x ++ grp often o := by unfold grp; rw [List.flatMap_cons]
    rw [e, List.count_append, grp_count, List.count_replicate, List.count_cons, Nat.add_mul]
    split <;> simp <;> omega
theorem grp_last {lost k : Nat} {o : List Nat} (nd : o.Nodup) (hk : k ∈ o) : lastIx (grp (lost + 1) o) k = (lost + 1) * o.idxOf k + lost := by
  obtain ⟨i1, i2, _⟩ := idx_of hk
  refine (lastIx_uniq ?_ fun i hi => ?_).symm
  · rw [grp_at (by omega)]
    have : ((lost + 1) * o.idxOf k + lost) / (lost + 1) = o.idxOf k := by
      rw [Nat.mul_add_div (by omega), Nat.div_eq_of_lt (by omega)]; rfl
    rw [this]; exact i2
  · rw [grp_at (by omega)] at hi
    have e : i / (lost + 1) = o.idxOf k := by
      have hlt := (List.getElem?_eq_some_iff.mp hi).1
      exact (List.getElem?_inj hlt nd).mp (hi.trans i2.symm)
    have := Nat.div_add_mod i (lost + 1)
    have := Nat.mod_lt i (show 0 < lost + 1 by omega)
    rw [e] at *
    omega
theorem grp_row {n lost : Nat} {o : List Nat} (h : o ∈ ordersF n) : grp (lost + 1) o ∈ rowsK n (lost + 1) (n * (lost + 1)) := by
  have ok := ord_ok h
  refine mem_rows.mpr ⟨by rw [grp_len, ok.len], fun x hx => ?_, fun x => ?_⟩
  · unfold grp at hx
    obtain ⟨y, hy, hx⟩ := List.mem_flatMap.mp hx
    rw [List.eq_of_mem_replicate hx]
    exact ok.lt y hy
  · rw [grp_count, ok.nd.count]
    split <;> omega
/-! ### what comes no later is done no later -/
theorem done_mono {b : List Cmd} {comes comes' : List (Option Int)} (ok : BookOk b) (h : ∀ k x, k < b.length → comes.getD k none = some x → ∃ x', comes'.getD k none = some x' ∧ x' ≤ x) :
    ∀ k d, k < b.length → (doneAt b comes).getD k none = some d → ∃ d', (doneAt b comes').getD k none = some d' ∧ d' ≤ d := by
  intro k
  induction k using Nat.strongRecOn with
  | _ k ih =>
    intro d hk hd
    have hb : b[k]? = some b[k] := List.getElem?_eq_getElem hk
    obtain ⟨⟨x, hx, hxd⟩, h2, h3, h4, _⟩ := done_facts ok hb hd
    obtain ⟨x', hx', hle⟩ := h k x hk hx
    refine done_by ok hb hx' (by omega) h2 h3 fun j hj => ?_
    obtain ⟨y, hy, hyd⟩ := h4 j hj
    have hjk := (ok.ok k _ hb).lt j hj
    obtain ⟨y', hy', hyle⟩ := ih j hjk y (by omega) hy
    exact ⟨y', hy', by omega⟩
theorem last_mono {b : List Cmd} {comes comes' : List (Option Int)} {m : Int} (ok : BookOk b) (h : ∀ k x, k < b.length → comes.getD k none = some x → ∃ x', comes'.getD k none = some x' ∧ x' ≤ x)
    (hm : maxO 0 (doneAt b comes) = some m) : ∃ m', maxO 0 (doneAt b comes') = some m' ∧ m' ≤ m := by
  obtain ⟨a1, a2, _⟩ := maxO_iff hm
  refine maxO_le (fun o ho => ?_) a2
  obtain ⟨k, hk⟩ := List.mem_iff_getElem?.mp ho
  have hkl := (List.getElem?_eq_some_iff.mp hk).1
  rw [doneAt_len] at hkl
  have hkl2 : k < (doneAt b comes).length := by rw [doneAt_len]; exact hkl
  obtain ⟨y, hy, hym⟩ := a1 _ (List.getElem_mem hkl2)
  have hy' : (doneAt b comes).getD k none = some y := by rw [List.getD_eq_getElem?_getD, List.getElem?_eq_getElem hkl2]; exact hy
  obtain ⟨d', hd', hle⟩ := done_mono ok h k y hkl hy'
  rw [List.getD_eq_getElem?_getD, hk] at hd'
  exact ⟨d', hd', by omega⟩
/-! ### the least -/
def minStep (L : List Nat → Option Int) (best : Option Int) (o : List Nat) : Option Int :=
  match L o with
  | none => best
  | some m => if best = none ∨ ∃ z, best = some z ∧ m < z then some m else best
structure IsMin (L : List Nat → Option Int) (xs : List (List Nat)) (r : Option Int) : Prop where
  no : r = none → ∀ o ∈ xs, L o = none
  yes : ∀ z, r = some z → (∃ o ∈ xs, L o = some z) ∧ ∀ o ∈ xs, ∀ m, L o = some m → z ≤ m
theorem isMin_fold {L : List Nat → Option Int} : ∀ {ys xs : List (List Nat)} {r : Option Int}, IsMin L xs r → IsMin L (xs ++ ys) (ys.foldl (minStep L) r)
  | [], xs, r, h => by rw [List.append_nil]; exact h
  | o :: ys, xs, r, h => by
    have step : IsMin L (xs ++ [o]) (minStep L r o) := by
      unfold minStep
      cases q : L o with
      | none =>
        refine ⟨fun e p hp => ?_, fun z hz => ?_⟩
        · rcases List.mem_append.mp hp with hp | hp
          · exact h.no e p hp
          · rw [List.mem_singleton.mp hp]; exact q
        · obtain ⟨⟨p, h1, h2⟩, h3⟩ := h.yes z hz
          refine ⟨⟨p, List.mem_append_left _ h1, h2⟩, fun p hp m hm => ?_⟩
          rcases List.mem_append.mp hp with hp | hp
          · exact h3 p hp m hm
          · rw [List.mem_singleton.mp hp, q] at hm; cases hm
      | some m =>
        show IsMin L (xs ++ [o]) (if _ then _ else _)
        by_cases hc : r = none ∨ ∃ z, r = some z ∧ m < z
        · rw [if_pos hc]
          refine ⟨fun e => (by cases e), fun z hz => ?_⟩
          cases hz
          refine ⟨⟨o, by simp, q⟩, fun p hp m' hm' => ?_⟩
          rcases List.mem_append.mp hp with hp | hp
          · rcases hc with hc | ⟨z, hz, hlt⟩
            · rw [h.no hc p hp] at hm'; cases hm'
            · have h3 := (h.yes z hz).2 p hp m' hm'
              omega
          · rw [List.mem_singleton.mp hp, q] at hm'
            cases hm'
            omega
        · rw [if_neg hc]
          refine ⟨fun e => absurd (.inl e) hc, fun z hz => ?_⟩
          obtain ⟨⟨p, h1, h2⟩, h3⟩ := h.yes z hz
          refine ⟨⟨p, List.mem_append_left _ h1, h2⟩, fun p hp m' hm' => ?_⟩
          rcases List.mem_append.mp hp with hp | hp
          · exact h3 p hp m' hm'
          · rw [List.mem_singleton.mp hp, q] at hm'
            cases hm'
            by_cases t : m < z
            · exact absurd (.inr ⟨z, hz, t⟩) hc
            · omega
    have z := isMin_fold (ys := ys) step
    rw [List.append_assoc] at z
    exact z
theorem isMin_uniq {L L' : List Nat → Option Int} {xs ys : List (List Nat)} {r s : Option Int} (h : IsMin L xs r) (g : IsMin L' ys s) (a : ∀ o ∈ xs, ∀ m, L o = some m → ∃ p ∈ ys, ∃ m', L' p = some m' ∧ m' ≤ m) (c : ∀ p ∈ ys, ∀ m, L' p = some m → ∃ o ∈ xs, ∃ m', L o = some m' ∧ m' ≤ m) : r = s := by
  cases r with
  | none =>
    cases s with
    | none => rfl
    | some z =>
      obtain ⟨⟨p, hp, e⟩, _⟩ := g.yes z rfl
      obtain ⟨o, ho, m', e2, _⟩ := c p hp z e
      rw [h.no rfl o ho] at e2; cases e2
  | some y =>
    obtain ⟨⟨o, ho, e⟩, h3⟩ := h.yes y rfl
    cases s with
    | none =>
      obtain ⟨p, hp, m', e2, _⟩ := a o ho y e
      rw [g.no rfl p hp] at e2; cases e2
    | some z =>
      obtain ⟨⟨p, hp, e'⟩, g3⟩ := g.yes z rfl
      obtain ⟨p', hp', m1, e1, l1⟩ := a o ho y e
      obtain ⟨o', ho', m2, e2, l2⟩ := c p hp z e'
      have := g3 p' hp' m1 e1
      have := h3 o' ho' m2 e2
      rw [show y = z by omega]
theorem best_min {b : List Cmd} {d : Int} {beats : List Nat} : IsMin (lastOf b d beats) (ordersF b.length) ((bestO b d beats).map (·.1)) := by
  have e0 : MinO (lastOf b d beats) [] none := ⟨fun _ o ho => (by cases ho), fun z hz => (by cases hz)⟩
  have h2 := minO_best (ys := ordersF b.length) (xs := []) orders_up e0
  rw [List.nil_append] at h2
  have h3 : MinO (lastOf b d beats) (ordersF b.length) (bestO b d beats) := h2
  refine ⟨fun e => h3.no (by simpa using e), fun z hz => ?_⟩
  obtain ⟨y, hy, rfl⟩ := Option.map_eq_some_iff.mp hz
  obtain ⟨a1, a2, a3⟩ := h3.yes y hy
  refine ⟨⟨y.2, a1, a2⟩, fun o ho m hm => ?_⟩
  have := a3 o ho m hm
  by_cases t : m < y.1
  · exact absurd (.inl t) this
  · omega
/-! ### sturdy -/
def pkF (n lost : Nat) (slots : List Nat) : List Nat := (List.range n).filterMap fun k => slots[lost + (lost + 1) * k]?
theorem pk_get {n lost : Nat} {slots : List Nat} (hs : slots.length = (lost + 1) * n) {i : Nat} (hi : i < n) : (pkF n lost slots).getD i 0 = slots.getD ((lost + 1) * i + lost) 0 := by
  have key : ∀ (l : List Nat), (∀ k ∈ l, k < n) → ∀ i, i < l.length → (l.filterMap fun k => slots[lost + (lost + 1) * k]?)[i]? = slots[(lost + 1) * (l.getD i 0) + lost]? := by
    intro l
    induction l with
    | nil => intro _ i hi; cases hi
    | cons k l ih =>
      intro hk i hi
      have h1 := hk k (by simp)
      have h2 : lost + (lost + 1) * k < slots.length := by
        rw [hs]
        have : (lost + 1) * (k + 1) ≤ (lost + 1) * n := Nat.mul_le_mul_left _ h1
        rw [Nat.mul_succ] at this
        omega
      rw [List.filterMap_cons, List.getElem?_eq_getElem h2]
      cases i with
      | zero =>
        show some _ = slots[(lost + 1) * k + lost]?
        rw [show (lost + 1) * k + lost = lost + (lost + 1) * k from Nat.add_comm _ _, List.getElem?_eq_getElem h2]
      | succ i =>
        show (List.filterMap _ l)[i]? = _
        rw [ih (fun k hk' => hk k (List.mem_cons_of_mem _ hk')) i (by simpa using hi)]
        rfl
  unfold pkF
  rw [List.getD_eq_getElem?_getD, key _ (by simp) i (by simpa using hi), show (List.range n).getD i 0 = i from by rw [List.getD_eq_getElem?_getD, List.getElem?_range hi]; rfl, List.getD_eq_getElem?_getD]
def comesRow (n : Nat) (d : Int) (slots row : List Nat) : List (Option Int) := (List.range n).map fun k => some (((slots.getD (lastIx row k) 0 : Nat) : Int) + d)
def lastRow (b : List Cmd) (d : Int) (slots row : List Nat) : Option Int := maxO 0 (doneAt b (comesRow b.length d slots row))
theorem range_get {f : Nat → Option Int} {n k : Nat} (h : k < n) : ((List.range n).map f).getD k none = f k := by
  rw [List.getD_eq_getElem?_getD, List.getElem?_map, List.getElem?_range h]; rfl
theorem slots_mono {slots : List Nat} (up : slots.Pairwise (· < ·)) {i j : Nat} (h : i ≤ j) (hj : j < slots.length) : slots.getD i 0 ≤ slots.getD j 0 := by
  rw [List.getD_eq_getElem?_getD, List.getD_eq_getElem?_getD, List.getElem?_eq_getElem hj, List.getElem?_eq_getElem (Nat.lt_of_le_of_lt h hj)]
  show slots[i] ≤ slots[j]
  rcases Nat.lt_or_eq_of_le h with h | h
  · exact Nat.le_of_lt (List.pairwise_iff_getElem.mp up i j (by omega) hj h)
  · subst h; exact Nat.le_refl _
theorem sturdy_min {b : List Cmd} {d : Int} {lost : Nat} {slots : List Nat} (ok : BookOk b) (up : slots.Pairwise (· < ·)) (hs : slots.length = (lost + 1) * b.length) :
    (rowsK b.length (lost + 1) (b.length * (lost + 1))).foldl (minStep (lastRow b d slots)) none = (bestO b d (pkF b.length lost slots)).map (·.1) := by
  have e0 : IsMin (lastRow b d slots) [] none := ⟨fun _ o ho => (by cases ho), fun z hz => (by cases hz)⟩
  have h1 := isMin_fold (ys := rowsK b.length (lost + 1) (b.length * (lost + 1))) e0
  rw [List.nil_append] at h1
  refine isMin_uniq h1 best_min (fun row hrow m hm => ?_) (fun o ho m hm => ?_)
  · obtain ⟨h2, h3⟩ := lasts_ord (by omega) hrow
    obtain ⟨m1, _, _⟩ := mem_rows.mp hrow
    refine ⟨lasts row, h2, ?_⟩
    refine last_mono ok (fun k x hk hx => ?_) hm
    obtain ⟨i1, i2⟩ := h3 k hk
    unfold comesRow at hx
    rw [range_get hk] at hx
    cases hx
    refine ⟨_, by unfold comesOrd; rw [range_get hk], ?_⟩
    rw [pk_get hs i1]
    have hll : lastIx row k < slots.length := by
      rw [hs, Nat.mul_comm, ← m1]
      have : k ∈ row := by
        refine List.count_pos_iff.mp ?_
        rw [rows_full hrow k hk]; omega
      exact (List.getElem?_eq_some_iff.mp (lastIx_at this)).1
    have := slots_mono up (i := (lost + 1) * (lasts row).idxOf k + lost) (j := lastIx row k) (by rw [Nat.mul_succ] at i2; omega) hll
    omega
  · refine ⟨grp (lost + 1) o, grp_row ho, m, ?_, Int.le_refl _⟩
    rw [← hm]
    unfold lastRow lastOf
    congr 2
    unfold comesRow comesOrd
    refine List.map_congr_left fun k hk => ?_
    have hk' : k < b.length := by simpa using hk
    have hko := ord_all ho k hk'
    have hi := (idx_of hko).1
    rw [(ord_ok ho).len] at hi
    rw [grp_last (ord_ok ho).nd hko, pk_get hs hi]
/-! ### sturdy sends (no program here) -/
theorem beats_up {ws : List (Int × Int)} {n : Nat} : (beatsF ws n).Pairwise (· < ·) := by
  unfold beatsF
  exact List.Pairwise.sublist (List.take_sublist _ _) (List.pairwise_lt_range.filter _)
theorem beats_lt {ws : List (Int × Int)} {n : Nat} : ∀ x ∈ beatsF ws n, x < 200 := fun x hx => by
  unfold beatsF at hx
  exact List.mem_range.mp (List.mem_filter.mp (List.mem_of_mem_take hx)).1
structure StD (b : List Cmd) (d : Int) (lost : Nat) (slots : List Nat) (m : Int) (sends : List (Int × Nat)) (order : List Nat) : Prop where
  len : slots.length = (lost + 1) * b.length
  up : slots.Pairwise (· < ·)
  lt : ∀ x ∈ slots, x < 200
  ord : order ∈ ordersF b.length
  last : lastOf b d (pkF b.length lost slots) order = some m
  eq : sends = (List.range ((lost + 1) * b.length)).map fun k => (((slots.getD k 0 : Nat) : Int), order.getD (k / (lost + 1)) 0)
theorem best_last {b : List Cmd} {d : Int} {beats : List Nat} {z : Int × List Nat} (h : bestO b d beats = some z) : lastOf b d beats z.2 = some z.1 := by
  have e0 : MinO (lastOf b d beats) [] none := ⟨fun _ o ho => (by cases ho), fun z hz => (by cases hz)⟩
  have h2 := minO_best (ys := ordersF b.length) (xs := []) orders_up e0
  rw [List.nil_append] at h2
  exact (h2.yes z h).2.1
theorem sturdy_eq {b : List Cmd} {d : Int} {ws : List (Int × Int)} {lost : Nat} : (sturdyF b d ws lost).map (·.1) = if (beatsF ws ((lost + 1) * b.length)).length = (lost + 1) * b.length then (bestO b d (pkF b.length lost (beatsF ws ((lost + 1) * b.length)))).map (·.1) else none := by
  have hle := beatsF_le (ws := ws) (n := (lost + 1) * b.length)
  unfold sturdyF pkF
  by_cases h : (beatsF ws ((lost + 1) * b.length)).length < (lost + 1) * b.length
  · rw [if_pos h, if_neg (by omega)]; rfl
  · rw [if_neg h, if_pos (by omega)]
    cases bestO b d ((List.range b.length).filterMap fun k => (beatsF ws ((lost + 1) * b.length))[lost + (lost + 1) * k]?) with
    | none => rfl
    | some z => rfl
theorem sturdy_data {b : List Cmd} {d : Int} {ws : List (Int × Int)} {lost : Nat} {m : Int} {sends : List (Int × Nat)} (h : sturdyF b d ws lost = some (m, sends)) : ∃ order, StD b d lost (beatsF ws ((lost + 1) * b.length)) m sends order := by
  have hle := beatsF_le (ws := ws) (n := (lost + 1) * b.length)
  unfold sturdyF at h
  by_cases h1 : (beatsF ws ((lost + 1) * b.length)).length < (lost + 1) * b.length
  · rw [if_pos h1] at h; cases h
  · rw [if_neg h1] at h
    cases hq : bestO b d ((List.range b.length).filterMap fun k => (beatsF ws ((lost + 1) * b.length))[lost + (lost + 1) * k]?) with
    | none => rw [hq] at h; cases h
    | some z =>
      rw [hq] at h
      have e := Option.some.inj h
      have e1 : z.1 = m := congrArg Prod.fst e
      have e2 := congrArg Prod.snd e
      exact ⟨z.2, by omega, beats_up, beats_lt, best_mem hq, by rw [← e1]; exact best_last hq, e2.symm⟩
section
variable {b : List Cmd} {d : Int} {lost : Nat} {slots : List Nat} {m : Int} {sends : List (Int × Nat)} {order : List Nat}
theorem StD.slen (S : StD b d lost slots m sends order) : sends.length = (lost + 1) * b.length := by rw [S.eq, List.length_map, List.length_range]
theorem StD.at (S : StD b d lost slots m sends order) {k : Nat} (h : k < (lost + 1) * b.length) : sends[k]? = some (((slots.getD k 0 : Nat) : Int), order.getD (k / (lost + 1)) 0) := by
  rw [S.eq, List.getElem?_map, List.getElem?_range h]; rfl
theorem StD.sok (S : StD b d lost slots m sends order) (hb : 0 < b.length) : SendsOk b.length sends := by
  have ok := ord_ok S.ord
  refine ⟨fun s hs => ?_, ?_⟩
  · rw [S.eq] at hs
    obtain ⟨k, hk, rfl⟩ := List.mem_map.mp hs
    have hk' := List.mem_range.mp hk
    have h1 : slots.getD k 0 < 200 := by
      rw [List.getD_eq_getElem?_getD, List.getElem?_eq_getElem (by rw [S.len]; exact hk')]
      exact S.lt _ (List.getElem_mem _)
    have h2 : k / (lost + 1) < order.length := by
      rw [ok.len, Nat.div_lt_iff_lt_mul (by omega), Nat.mul_comm]
      exact hk'
    refine ⟨by show (0 : Int) ≤ ((slots.getD k 0 : Nat) : Int); omega, by show ((slots.getD k 0 : Nat) : Int) ≤ 199; omega, ?_⟩
    show order.getD (k / (lost + 1)) 0 < b.length
    rw [List.getD_eq_getElem?_getD, List.getElem?_eq_getElem h2]
    exact ok.lt _ (List.getElem_mem _)
  · rw [S.eq, List.pairwise_map]
    refine List.Pairwise.imp_of_mem (fun {i j} hi hj hlt => ?_) (List.pairwise_lt_range (n := (lost + 1) * b.length))
    have hj' := List.mem_range.mp hj
    have hi' := List.mem_range.mp hi
    show ((slots.getD i 0 : Nat) : Int) < ((slots.getD j 0 : Nat) : Int)
    rw [List.getD_eq_getElem?_getD, List.getD_eq_getElem?_getD, List.getElem?_eq_getElem (by rw [S.len]; exact hi'), List.getElem?_eq_getElem (by rw [S.len]; exact hj')]
    exact Int.ofNat_lt.mpr (List.pairwise_iff_getElem.mp S.up i j _ _ hlt)
/-- the order, read off the sends -/
theorem StD.ordEq (S : StD b d lost slots m sends order) : (List.range b.length).map (fun i => ((sends.getD (i * (lost + 1)) (0, 0)).2)) = order := by
  have ok := ord_ok S.ord
  refine List.ext_getElem? fun i => ?_
  rw [List.getElem?_map]
  by_cases h : i < b.length
  · rw [List.getElem?_range h, List.getElem?_eq_getElem (by rw [ok.len]; exact h)]
    have h1 : i * (lost + 1) < (lost + 1) * b.length := by
      rw [Nat.mul_comm]; exact Nat.mul_lt_mul_of_pos_left h (by omega)
    show some (sends.getD (i * (lost + 1)) (0, 0)).2 = _
    rw [List.getD_eq_getElem?_getD, S.at h1, Nat.mul_div_cancel _ (by omega)]
    show some (order.getD i 0) = _
    rw [List.getD_eq_getElem?_getD, List.getElem?_eq_getElem (by rw [ok.len]; exact h)]; rfl
  · rw [List.getElem?_eq_none (by simpa using h), List.getElem?_eq_none (by rw [ok.len]; omega)]; rfl
theorem StD.comes (S : StD b d lost slots m sends order) : (List.range b.length).map (fun k => some (((slots.getD (order.idxOf k * (lost + 1) + lost) 0 : Nat) : Int) + d)) = comesOrd b.length d (pkF b.length lost slots) order := by
  unfold comesOrd
  refine List.map_congr_left fun k hk => ?_
  have hi := (idx_of (ord_all S.ord k (by simpa using hk))).1
  rw [(ord_ok S.ord).len] at hi
  rw [pk_get S.len hi, Nat.mul_comm]
theorem come_keep {cs : List (Option Int)} {s : Int × Nat} {k : Nat} {x : Int} (h : cs.getD k none = some x) : (comeStep d cs s).getD k none = some x := by
  unfold comeStep
  split
  · rename_i hn
    have hne : s.2 ≠ k := fun e => by rw [e, h] at hn; cases hn
    rw [List.getD_eq_getElem?_getD, List.getElem?_set_ne hne, ← List.getD_eq_getElem?_getD]; exact h
  · exact h
theorem come_keeps {k : Nat} {x : Int} : ∀ {ss : List (Int × Nat)} {cs : List (Option Int)}, cs.getD k none = some x → (ss.foldl (comeStep d) cs).getD k none = some x
  | [], _, h => h
  | s :: ss, cs, h => come_keeps (ss := ss) (come_keep h)
theorem come_first {k : Nat} {t : Int} : ∀ {ss : List (Int × Nat)} {cs : List (Option Int)}, (t, k) ∈ ss → ss.Pairwise (fun a b => a.1 < b.1) → k < cs.length → (cs.getD k none = none ∨ ∃ x, cs.getD k none = some x ∧ x ≤ t + d) → ∃ x, (ss.foldl (comeStep d) cs).getD k none = some x ∧ x ≤ t + d
  | s :: ss, cs, hm, hp, hk, hc => by
    rw [List.foldl_cons]
    obtain ⟨p1, p2⟩ := List.pairwise_cons.mp hp
    rcases hc with hc | ⟨x, hx, hle⟩
    · rcases List.mem_cons.mp hm with e | e
      · subst e
        refine ⟨t + d, come_keeps ?_, Int.le_refl _⟩
        unfold comeStep
        rw [if_pos hc, List.getD_eq_getElem?_getD, List.getElem?_set_self hk]; rfl
      · have hst := p1 _ e
        refine come_first e p2 (by rw [comeStep_len]; exact hk) ?_
        unfold comeStep
        split
        · by_cases q : s.2 = k
          · refine .inr ⟨s.1 + d, by rw [q, List.getD_eq_getElem?_getD, List.getElem?_set_self hk]; rfl, ?_⟩
            have : s.1 < t := hst
            omega
          · left
            rw [List.getD_eq_getElem?_getD, List.getElem?_set_ne q, ← List.getD_eq_getElem?_getD]; exact hc
        · exact .inl hc
    · exact ⟨x, come_keeps (come_keep hx), hle⟩
theorem keep_mem {ss : List (Int × Nat)} {gone : List Nat} {i : Nat} {s : Int × Nat} (h : ss[i]? = some s) (hi : i ∉ gone) : s ∈ keepS ss gone := by
  unfold keepS
  exact List.mem_filterMap.mpr ⟨i, List.mem_range.mpr (List.getElem?_eq_some_iff.mp h).1, by rw [if_neg hi]; exact h⟩
theorem keep_up {ss : List (Int × Nat)} {gone : List Nat} (h : ss.Pairwise (fun a b => a.1 < b.1)) : (keepS ss gone).Pairwise (fun a b => a.1 < b.1) := by
  unfold keepS
  rw [List.pairwise_filterMap]
  refine List.Pairwise.imp (fun {i j} hlt x hx y hy => ?_) List.pairwise_lt_range
  split at hx
  · cases hx
  · split at hy
    · cases hy
    · obtain ⟨i1, e1⟩ := List.getElem?_eq_some_iff.mp hx
      obtain ⟨j1, e2⟩ := List.getElem?_eq_some_iff.mp hy
      rw [← e1, ← e2]
      exact List.pairwise_iff_getElem.mp h i j i1 j1 hlt
theorem StD.weak (S : StD b d lost slots m sends order) (okb : BookOk b) : weakF b d sends lost = none := by
  have hb : 0 < b.length := List.length_pos_iff.mpr okb.ne
  have ok := ord_ok S.ord
  unfold weakF
  rw [List.findSome?_eq_none_iff]
  intro size hsize
  rw [List.find?_eq_none]
  intro gone hgone
  have hgl := choicesF_mem hgone
  have hsz : size ≤ lost := by have := List.mem_range.mp hsize; omega
  have hall : none ∉ doneAt b (comesOf b.length d (keepS sends gone)) := by
    intro hn
    obtain ⟨k, hk⟩ := List.mem_iff_getElem?.mp hn
    have hkl := (List.getElem?_eq_some_iff.mp hk).1
    rw [doneAt_len] at hkl
    have hl : maxO 0 (doneAt b (comesOrd b.length d (pkF b.length lost slots) order)) = some m := S.last
    obtain ⟨a1, _, _⟩ := maxO_iff hl
    have hkl2 : k < (doneAt b (comesOrd b.length d (pkF b.length lost slots) order)).length := by rw [doneAt_len]; exact hkl
    obtain ⟨y, hy, _⟩ := a1 _ (List.getElem_mem hkl2)
    have hy' : (doneAt b (comesOrd b.length d (pkF b.length lost slots) order)).getD k none = some y := by rw [List.getD_eq_getElem?_getD, List.getElem?_eq_getElem hkl2]; exact hy
    have hmono : ∀ k x, k < b.length → (comesOrd b.length d (pkF b.length lost slots) order).getD k none = some x → ∃ x', (comesOf b.length d (keepS sends gone)).getD k none = some x' ∧ x' ≤ x := fun k x hk hx => by
      have hko := ord_all S.ord k hk
      obtain ⟨i1, i2, _⟩ := idx_of hko
      rw [ok.len] at i1
      have hN : (lost + 1) * order.idxOf k + lost < (lost + 1) * b.length := by
        have : (lost + 1) * (order.idxOf k + 1) ≤ (lost + 1) * b.length := Nat.mul_le_mul_left _ i1
        rw [Nat.mul_succ] at this
        omega
      unfold comesOrd at hx
      rw [range_get hk, pk_get S.len i1] at hx
      have hx := Option.some.inj hx
      obtain ⟨j, hj, hjg⟩ : ∃ j, j ≤ lost ∧ (lost + 1) * order.idxOf k + j ∉ gone := by
        refine Classical.byContradiction fun hno => ?_
        have hall : ∀ j, j ≤ lost → (lost + 1) * order.idxOf k + j ∈ gone := fun j hj => Classical.byContradiction fun q => hno ⟨j, hj, q⟩
        have nd : ((List.range (lost + 1)).map fun j => (lost + 1) * order.idxOf k + j).Nodup := by
          rw [List.nodup_iff_pairwise_ne, List.pairwise_map]
          exact List.pairwise_lt_range.imp fun {a b} h => by omega
        have := nd.length_le_of_subset (l₂ := gone) fun x hx => by
          obtain ⟨j, hj, rfl⟩ := List.mem_map.mp hx
          exact hall j (by have := List.mem_range.mp hj; omega)
        rw [List.length_map, List.length_range] at this
        omega
      have hat := S.at (k := (lost + 1) * order.idxOf k + j) (by omega)
      have hdiv : ((lost + 1) * order.idxOf k + j) / (lost + 1) = order.idxOf k := by
        rw [Nat.mul_add_div (by omega), Nat.div_eq_of_lt (by omega)]; rfl
      rw [hdiv, show order.getD (order.idxOf k) 0 = k from by rw [List.getD_eq_getElem?_getD, i2]; rfl] at hat
      have hmem := keep_mem hat hjg
      obtain ⟨x', hx', hle⟩ := come_first (d := d) (cs := List.replicate b.length none) hmem (keep_up (S.sok hb).up) (by simpa using hk) (.inl (by
        rw [List.getD_eq_getElem?_getD, List.getElem?_replicate, if_pos hk]; rfl))
      refine ⟨x', hx', ?_⟩
      have := slots_mono S.up (i := (lost + 1) * order.idxOf k + j) (j := (lost + 1) * order.idxOf k + lost) (by omega) (by rw [S.len]; exact hN)
      omega
    obtain ⟨d', hd', _⟩ := done_mono okb hmono k y hkl hy'
    rw [List.getD_eq_getElem?_getD, hk] at hd'
    cases hd'
  unfold allDone
  rw [decide_eq_false hall]
  simp
end
/-! ### sturdy, where it refuses a count -/
def spxSturdy (CC : Addr) : DSpX := fun ds M Ex => ∃ (b : List Cmd) (d : Int) (ws : List (Int × Int)) (lost : Int), ds = [encB b, .int d, encWn ws, .int lost] ∧ BookOk b ∧ 1 ≤ d ∧ d ≤ 9 ∧ WinFrom 0 ws ∧ (lost < 0 ∨ 3 < lost) ∧ Ex ⟨CC, none⟩ M
section
variable {P : Program} {w : World} {K : PySem.W.Frag} {mg : Str → Option Value} {base : Heap}
theorem okx_sturdy {CC : Addr} {f : Addr} {fd : FuncData} (Fn : Fun K "sturdy" "sturdy" s_sturdy f fd) (gM : Cst K mg "MOST_LOST" (.int 3)) (dB : Dfn P w K mg base 3 "need_book" spNeedBook) (dD : Dfn P w K mg base 2 "need_delay" spNeedDelay) (dW : Dfn P w K mg base 2 "need_windows" spNeedWindows)
    (dN : Dfn P w K mg base 1 "is_number" spIsNumber) (xc : XcT K mg "BadCount" CC) : FnOk P w K mg base (L2.CX P w) 4 f fd ["book", "delay", "windows", "lost"] (liftX K (spxSturdy CC)) := by
  refine fun_okX Fn sc_sturdy (fun ds M Ex ⟨_, _, _, _, e, _⟩ => by rw [e]; rfl) fun cdv A outer sh H E hr ds M Ex h B tk => ?_
  obtain ⟨b, d, ws, lost, rfl, ok, d1, d9, hw, hl, k⟩ := h
  wtm_at "b"
  wtm_at "hx sturdy"
  refine ⟨b, rfl, ok, ?_⟩
  wtm_at "hx sturdy"
  refine ⟨d, rfl, d1, d9, ?_⟩
  wtm_at "hx sturdy"
  refine ⟨ws, rfl, hw, ?_⟩
  wtm_at "hx sturdy"
  refine sx_ifT ?_ ?_
  · wtm_at "hx sturdy"
    refine ⟨_, _, _, rfl, rfl, ?_⟩
    have e : isNum (.int lost) 0 3 = false := by
      have : ¬ (0 ≤ lost ∧ lost ≤ 3) := by omega
      simp only [isNum]
      rcases hl with h | h
      · simp [show ¬ 0 ≤ lost by omega]
      · simp [show ¬ lost ≤ 3 by omega]
    rw [e]
    wtm_at "hx sturdy"
    exact ⟨rfl, rfl⟩
  · exact sxs_one (sx_raiseT xc tk rfl rfl rfl k)
end
/-! ### all rows -/
theorem cnt_int {o : List Nat} {m : Nat} : ((o.map encN).countP fun z => eqV z.toV (D.int (0 + (m : Int))).toV) = o.count m := by
  rw [List.countP_map, List.count, Int.zero_add]
  refine List.countP_congr fun x _ => ?_
  show eqV (V.int (x : Int)) (V.int (m : Int)) = true ↔ (x == m) = true
  rw [show eqV (V.int (x : Int)) (V.int (m : Int)) = ((x : Int) == (m : Int)) from rfl]
  simp
  omega
def spRows : DSp := fun ds M Q => ∃ n often many : Nat, ds = [.int n, .int often, .int many] ∧ n ≤ 3 ∧ many ≤ 6 ∧ ∀ M', Ext M M' → Q (encLL (rowsK n often many)) M'
theorem rows_small {n often k : Nat} (h : n ≤ 3) (hk : k ≤ 6) : (rowsK n often k).length ≤ 729 := by
  refine Nat.le_trans rowsK_len (Nat.le_trans (Nat.pow_le_pow_left h k) (Nat.le_trans (Nat.pow_le_pow_right (by decide) hk) (by decide)))
theorem rstep_small {n often : Nat} {o : List Nat} (h : n ≤ 3) : (rowStep n often o).length ≤ 3 := by
  unfold rowStep
  rw [List.length_map]
  exact Nat.le_trans (List.length_filter_le _ _) (by simpa using h)
section
variable {P : Program} {w : World} {K : PySem.W.Frag} {mg : Str → Option Value} {base : Heap}
theorem ok_L_rows {f : Addr} {fd : FuncData} (Fn : Fun K "_law_rows" "_law_rows" s_L_rows f fd) (zr : mg "range" = none) : FnOk P w K mg base CX0 1 f fd ["_law_numbers", "_law_often", "_law_many"] (lift K spRows) := by
  refine fun_ok Fn sc_L_rows (fun ds M Q ⟨_, _, _, e, _⟩ => by rw [e]; rfl) fun cdv A outer sh H E hr ds M Q h B => ?_
  obtain ⟨n, often, many, rfl, h3, h6, k⟩ := h
  wtm_at "b"
  wtm_at "g L_rows"
  refine ex_lst (ax_cons rfl (ex_lst (ax_nil ⟨Nat.zero_le _, ax_nil ⟨by decide, ?_⟩⟩)))
  wtm_at "g L_rows"
  refine sx_for PassesOwn.never rfl (fun _ => rfl) ?_
  refine lx_range1 rfl zr rfl ?_
  wtm_at "g L_rows"
  refine ⟨_, rfl, by omega, by omega, fun i G' M' => ∃ a4 a5 a6 a7 : Option D, G' = [some (.int n), some (.int often), some (.int many), some (encLL (rowsK n often i)), a4, a5, a6, a7] ∧ Ext M M', ⟨_, _, _, _, rfl, Ext.refl M⟩, ?_, ?_⟩
  · rintro i d G' M' hd ⟨a4, a5, a6, a7, rfl, hE⟩
    obtain ⟨hi, rfl⟩ := rangeD_at hd
    have h1 := rows_small (n := n) (often := often) (k := i) h3 (by omega)
    wtm_at "g L_rows"
    refine ex_lstM (ax_nil ⟨Nat.zero_le _, fun c fc => ?_⟩)
    wtm_at "g L_rows"
    refine sx_for PassesOwn.never rfl (fun _ => rfl) ?_
    refine lx_list ?_
    wtm_at "g L_rows"
    refine ⟨_, rfl, fun j G2 M2 => ∃ a6 a7 : Option D, G2 = [some (.int n), some (.int often), some (.int many), some (encLL (rowsK n often i)), some (.int (0 + (i : Int))), some (.ref c), a6, a7] ∧ M2 = mupd M' c (.lst ((((rowsK n often i).take j).flatMap (rowStep n often)).map encNs)), ⟨_, _, rfl, rfl⟩, ?_, ?_⟩
    · rintro j d G2 M2 hd2 ⟨a6, a7, rfl, rfl⟩
      rw [List.getElem?_map] at hd2
      obtain ⟨o, ho, rfl⟩ := Option.map_eq_some_iff.mp hd2
      obtain ⟨hol, _, _⟩ := mem_rows.mp (List.mem_of_getElem? ho)
      wtm_at "g L_rows"
      refine ex_bmC PySem.F.slot_list_extend PySem.F.type_list_extend rfl rfl rfl rfl rfl ?_
      wtm_at "g L_rows"
      refine ⟨c, _, rfl, mupd_same, ?_⟩
      refine ax_cons rfl ?_
      wtm_at "lcp L_rows 0"
      case f => exact fun d => match d with
        | .int m => if o.count m.toNat < often then some (.lst (o.map encN ++ [.int m])) else none
        | _ => none
      refine lx_range1 rfl zr rfl ?_
      wtm_at "g L_rows"
      refine ⟨_, rfl, by omega, by omega, ⟨?_, fun d M3 hd3 hm => ?_⟩, ?_⟩
      · rw [rangeD_len]
        exact Nat.lt_of_le_of_lt (by omega : _ ≤ 6) (by decide)
      · obtain ⟨m, hm0⟩ := List.mem_iff_getElem?.mp hd3
        obtain ⟨hmlt, rfl⟩ := rangeD_at hm0
        have et : ((0 : Int) + (m : Int)).toNat = m := by omega
        refine fun s1 H1 C1 cl1 fp1 => txs_one ?_
        unfold encNs
        wtm_at "wb L_rows"
        refine ex_bmL PySem.F.slot_list_count PySem.F.type_list_count rfl rfl rfl rfl rfl ?_
        wtm_at "wb L_rows"
        refine ⟨_, IsL.fz, ?_⟩
        wtm_at "wb L_rows"
        refine mx_count (n := o.count m) IsL.fz rfl ?_ cnt_int ?_
        · simp only [List.all_map, List.all_eq_true]
          intro y _; rfl
        wtm_at "wb L_rows"
        refine ite_dec (fun h4 => fun s2 H2 C2 cl2 fp2 => ?_) (fun h4 => ?_)
        · wtm_at "gb L_rows"
          refine ox_catL IsL.fz IsL.fz ?_ ⟨rfl, ?_⟩
          · rw [List.length_map]
            exact Nat.le_trans (by simp; omega : _ ≤ 8) (by decide)
          · show (if o.count ((0 : Int) + (m : Int)).toNat < often then _ else none) = _
            rw [et, if_pos (by omega)]
        · refine ⟨rfl, ?_⟩
          show (if o.count ((0 : Int) + (m : Int)).toNat < often then _ else none) = _
          rw [et, if_neg (by omega)]
      have eK : (rangeD 0 (n : Int).toNat).filterMap (fun d => match d with
        | .int m => if o.count m.toNat < often then some (.lst (o.map encN ++ [.int m])) else none
        | _ => none) = (rowStep n often o).map encNs := by
        unfold rangeD rowStep
        rw [List.filterMap_map, List.map_map, Int.toNat_natCast]
        show (List.range n).filterMap (fun t : Nat => if o.count ((0 : Int) + (t : Int)).toNat < often then some (D.lst (o.map encN ++ [D.int (0 + (t : Int))])) else none) = _
        generalize List.range n = l
        induction l with
        | nil => rfl
        | cons t l ih =>
          rw [List.filterMap_cons, List.filter_cons, Int.zero_add, Int.toNat_natCast]
          by_cases h : o.count t < often
          · rw [if_pos h]
            simp only [h, decide_true, if_true, List.map_cons]
            rw [ih]
            congr 1
            show D.lst (o.map encN ++ [.int (t : Int)]) = encNs (o ++ [t])
            unfold encNs
            rw [List.map_append]; rfl
          · rw [if_neg h]
            simp only [h, decide_false, Bool.false_eq_true, if_false]
            exact ih
      rw [eK]
      refine ax_nil (mx_extend mupd_same IsL.fz (fun z => by cases z) ?_ ?_)
      · have h2 : ((((rowsK n often i).take j).flatMap (rowStep n often))).length ≤ 729 * 3 := by
          refine Nat.le_trans (flatMap_len' (c := 3) fun o _ => rstep_small h3) ?_
          refine Nat.mul_le_mul_right _ (Nat.le_trans ?_ h1)
          rw [List.length_take]; omega
        have h3' := rstep_small (often := often) (o := o) h3
        rw [List.length_map, List.length_map]
        exact Nat.le_trans (by omega : _ ≤ 729 * 3 + 3) (by decide)
      · refine ⟨_, _, rfl, ?_⟩
        rw [mupd_mupd, List.take_add_one, ho, List.flatMap_append, List.map_append]
        simp
    · rintro G2 M2 ⟨a6, a7, rfl, rfl⟩
      rw [List.length_map, List.take_length]
      refine sxs_freeze (i := 5) rfl mupd_same ?_
      rw [mdel_mupd fc]
      wtm_at "b"
      wtm_at "g L_rows"
      exact ⟨_, _, _, _, rfl, hE⟩
  · rintro G' M' ⟨a4, a5, a6, a7, rfl, hE⟩
    have hn : (rangeD 0 (many : Int).toNat).length = many := by rw [rangeD_len]; omega
    rw [hn]
    wtm_at "b"
    wtm_at "g L_rows"
    exact k M' hE
end
/-! ### whether sends are sturdy -/
theorem sorted_range {o : List Nat} {n : Nat} {ns : List Int} (h : o ∈ ordersF n) (hp : ns.Perm (o.map fun x : Nat => (x : Int))) (hs : ns.Pairwise (· ≤ ·)) : ns = (List.range n).map fun x : Nat => (x : Int) := by
  have ok := ord_ok h
  have p1 : o.Perm (List.range n) := (List.perm_ext_iff_of_nodup ok.nd List.nodup_range).mpr fun a => ⟨fun ha => by simpa using ok.lt a ha, fun ha => ord_all h a (by simpa using ha)⟩
  have p2 : ns.Perm ((List.range n).map fun x : Nat => (x : Int)) := hp.trans (p1.map _)
  refine List.Perm.eq_of_pairwise (le := (· ≤ ·)) (fun a b _ _ h1 h2 => Int.le_antisymm h1 h2) hs ?_ p2
  rw [List.pairwise_map]
  exact List.pairwise_lt_range.imp fun {a b} h => by omega
theorem ints_ok {l : List Nat} : (D.lst (l.map encN)).okE = true ∧ (D.lst (l.map encN)).okEq = true := by
  have h : ∀ d ∈ l.map encN, d.okE = true ∧ d.dep ≤ 0 := fun d hd => by
    obtain ⟨_, _, rfl⟩ := List.mem_map.mp hd
    exact ⟨rfl, Nat.le_refl 0⟩
  exact ⟨by unfold D.okE; exact okEs_all.mpr fun d hd => (h d hd).1, okEq_lst h (by decide)⟩
theorem range_self {l : List Nat} {n : Nat} (h : l.length = n) : (List.range n).map (fun k => l.getD k 0) = l := by
  subst h
  refine List.ext_getElem? fun i => ?_
  rw [List.getElem?_map]
  by_cases hi : i < l.length
  · rw [List.getElem?_range hi, List.getElem?_eq_getElem hi]
    show some (l.getD i 0) = _
    rw [List.getD_eq_getElem?_getD, List.getElem?_eq_getElem hi]; rfl
  · rw [List.getElem?_eq_none (by simpa using hi), List.getElem?_eq_none (by omega)]; rfl
theorem ints_rg {n : Nat} : rangeD 0 (n : Int).toNat = (List.range n).map encN := by
  unfold rangeD
  rw [Int.toNat_natCast]
  refine List.map_congr_left fun x _ => ?_
  show D.int (0 + (x : Int)) = D.int x
  rw [Int.zero_add]
theorem StD.firsts {b : List Cmd} {d : Int} {lost : Nat} {slots : List Nat} {m : Int} {sends : List (Int × Nat)} {order : List Nat} (S : StD b d lost slots m sends order) : sends.map (fun s => D.int s.1) = slots.map encN := by
  rw [S.eq, List.map_map]
  have e := congrArg (List.map encN) (range_self S.len)
  rw [List.map_map] at e
  rw [← e]; rfl
theorem slots_get {slots : List Nat} (h : ∀ x ∈ slots, x < 200) (i : Nat) : slots.getD i 0 < 200 := by
  rw [List.getD_eq_getElem?_getD]
  cases e : slots[i]? with
  | none => show 0 < 200; decide
  | some x => exact h x (List.mem_of_getElem? e)
def spIsSturdy : DSp := fun ds M Q => ∃ (b : List Cmd) (d : Int) (lost : Nat) (slots : List Nat) (m : Int) (sends : List (Int × Nat)) (order : List Nat), ds = [encB b, .int d, .tup [.int m, .lst (sends.map encSd)], .lst (slots.map encN), .int lost] ∧ BookOk b ∧ b.length ≤ 6 ∧ lost ≤ 3 ∧ 1 ≤ d ∧ d ≤ 9 ∧ StD b d lost slots m sends order ∧ ∀ M', Ext M M' → Q (.bl true) M'
section
variable {P : Program} {w : World} {K : PySem.W.Frag} {mg : Str → Option Value} {base : Heap}
theorem ok_L_is_sturdy {f : Addr} {fd : FuncData} (Fn : Fun K "_law_is_sturdy" "_law_is_sturdy" s_L_is_sturdy f fd) (zl : mg "len" = none) (zr : mg "range" = none) (zx : mg "max" = none) (zL : mg "list" = none) (zS : mg "sorted" = none) (dLd : Dfn P w K mg base 2 "_law_done_at" spLDone) (dWk : Dfn P w K mg base 5 "weak" spWeak) : FnOk P w K mg base CX0 6 f fd ["_law_book_here", "_law_delay", "_law_found", "_law_slots_here", "_law_lost"] (lift K spIsSturdy) := by
  refine fun_ok Fn sc_L_is_sturdy (fun ds M Q ⟨_, _, _, _, _, _, _, e, _⟩ => by rw [e]; rfl) fun cdv A outer sh H E hr ds M Q h B => ?_
  obtain ⟨b, d, lost, slots, m, sends, order, rfl, ok, h6, hl3, d1, d9, S, k⟩ := h
  have hbp : 0 < b.length := List.length_pos_iff.mpr ok.ne
  have ook := ord_ok S.ord
  have hol := ook.len
  have hsl := S.slen
  have hso := S.sok hbp
  have hN24 : (lost + 1) * b.length ≤ 24 := by
    have : (lost + 1) * b.length ≤ 4 * 6 := Nat.mul_le_mul (by omega) h6
    omega
  have eB : encB b = .tup (b.map Cmd.enc) := rfl
  wtm_at "b"
  wtm_at "g L_is_sturdy"
  wtm_at "lcp L_is_sturdy 0"
  case f => exact fun d0 => match d0 with
    | .int i => some (encN (sends.getD i.toNat (0, 0)).2)
    | _ => none
  refine lx_range3 rfl zr rfl rfl ?_
  wtm_at "g L_is_sturdy"
  rw [List.length_map, hsl]
  refine ⟨_, _, _, b.length, rfl, rgC_small h6 hl3, ⟨?_, fun d0 M3 hd3 hm => ?_⟩, ?_⟩
  · rw [rangeC_len]
    exact Nat.lt_of_le_of_lt (by omega : _ ≤ 6) (by decide)
  · obtain ⟨i, hi0⟩ := List.mem_iff_getElem?.mp hd3
    obtain ⟨hi, rfl⟩ := rangeC_at hi0
    have et : (0 : Int) + (i : Int) * ((lost : Int) + 1) = ((i * (lost + 1) : Nat) : Int) := by simp
    have hlt : i * (lost + 1) < (lost + 1) * b.length := by
      rw [Nat.mul_comm]; exact Nat.mul_lt_mul_of_pos_left hi (by omega)
    have g1 : (sends.map encSd)[i * (lost + 1)]? = some (encSd (sends.getD (i * (lost + 1)) (0, 0))) := by
      rw [List.getElem?_map, List.getElem?_eq_getElem (by omega), List.getD_eq_getElem?_getD, List.getElem?_eq_getElem (by omega)]; rfl
    refine fun s1 H1 C1 cl1 fp1 => txs_nil (iteT fun s2 H2 C2 cl2 fp2 => ?_)
    rw [et]
    wtm_at "wb L_is_sturdy"
    refine ix_l (atI_of rfl g1) ?_
    unfold encSd
    wtm_at "gb L_is_sturdy"
    exact ⟨rfl, by show some (encN (sends.getD (((i * (lost + 1) : Nat) : Int)).toNat (0, 0)).2) = _; rw [Int.toNat_natCast]⟩
  have eO : (rangeC 0 ((lost : Int) + 1) b.length).filterMap (fun d0 => match d0 with
    | .int i => some (encN (sends.getD i.toNat (0, 0)).2)
    | _ => none) = order.map encN := by
    have e0 : order.map encN = ((List.range b.length).map (fun i => ((sends.getD (i * (lost + 1)) (0, 0)).2))).map encN := by rw [S.ordEq]
    rw [e0]
    unfold rangeC
    rw [List.filterMap_map, List.map_map]
    show (List.range b.length).filterMap (fun i : Nat => some (encN (sends.getD ((0 : Int) + (i : Int) * ((lost : Int) + 1)).toNat (0, 0)).2)) = _
    rw [List.filterMap_eq_map']
    refine List.map_congr_left fun i _ => ?_
    rw [show (0 : Int) + (i : Int) * ((lost : Int) + 1) = ((i * (lost + 1) : Nat) : Int) by simp, Int.toNat_natCast]; rfl
  rw [eO]
  wtm_at "b"
  refine sx_ifF ?_ ?_
  · wtm_at "g L_is_sturdy"
    refine ex_callB (Blt.fn zS rfl bb_sorted) rfl rfl ?_
    wtm_at "g L_is_sturdy"
    refine bx_sortedL (ns := order.map fun n : Nat => (n : Int)) (by rw [List.map_map]; exact IsL.fz) (by rw [List.length_map]; omega) fun ns' hp hs => ?_
    have e := sorted_range S.ord hp hs
    subst e
    rw [eB]
    wtm_at "g L_is_sturdy"
    rw [List.length_map]
    refine ⟨_, rfl, by omega, by omega, ?_⟩
    rw [ints_rg, show ((List.range b.length).map fun x : Nat => (x : Int)).map D.int = (List.range b.length).map encN from by rw [List.map_map]; rfl]
    refine ox_neD hr.units ints_ok.2 ints_ok.2 ?_
    rw [eqD_self ints_ok.1]
    wtm_at "g L_is_sturdy"
    wtm_at "lcp L_is_sturdy 1"
    case f => exact fun d0 => match d0 with
      | .tup (x :: _) => some x
      | _ => none
    refine lx_list ?_
    wtm_at "g L_is_sturdy"
    refine ⟨_, rfl, ⟨?_, fun d0 M3 hd3 hm => ?_⟩, ?_⟩
    · rw [List.length_map, hsl]
      exact Nat.lt_of_le_of_lt hN24 (by decide)
    · obtain ⟨s, hs, rfl⟩ := List.mem_map.mp hd3
      refine fun s1 H1 C1 cl1 fp1 => txs_nil (iteT fun s2 H2 C2 cl2 fp2 => ?_)
      unfold encSd
      wtm_at "gb L_is_sturdy"
      exact ⟨rfl, rfl⟩
    have e1 : (sends.map encSd).filterMap (fun d0 => match d0 with
      | .tup (x :: _) => some x
      | _ => none) = slots.map encN := by
      rw [filterMap_enc (enc := encSd) (g := fun s => D.int s.1) (fun _ _ => rfl), S.firsts]
    rw [e1]
    wtm_at "g L_is_sturdy"
    refine ox_neD hr.units ints_ok.2 ints_ok.2 ?_
    rw [eqD_self ints_ok.1]
    exact ⟨rfl, rfl⟩
  refine sxs_nil ?_
  show SXs B _ _ _ [some (encB b), some (.int d), some (.tup [.int m, .lst (sends.map encSd)]), some (.lst (slots.map encN)), some (.int lost), some (.int m), some (.lst (sends.map encSd)), some (.int ((lost : Int) + 1)), some (.lst (order.map encN)), none, none, none, none] M
  wtm_at "b"
  refine sx_ifF ?_ ?_
  · wtm_at "g L_is_sturdy"
    wtm_at "lcp L_is_sturdy 2"
    case f => exact fun d0 => match d0 with
      | .tup [_, y] => some y
      | _ => none
    refine lx_list ?_
    wtm_at "g L_is_sturdy"
    refine ⟨_, rfl, ⟨?_, fun d0 M3 hd3 hm => ?_⟩, ?_⟩
    · rw [List.length_map, hsl]
      exact Nat.lt_of_le_of_lt hN24 (by decide)
    · obtain ⟨s, hs, rfl⟩ := List.mem_map.mp hd3
      refine fun s1 H1 C1 cl1 fp1 => txs_nil (iteT fun s2 H2 C2 cl2 fp2 => ?_)
      unfold encSd
      wtm_at "gb L_is_sturdy"
      exact ⟨rfl, rfl⟩
    have e1 : (sends.map encSd).filterMap (fun d0 => match d0 with
      | .tup [_, y] => some y
      | _ => none) = (sends.map (·.2)).map encN := by
      rw [filterMap_enc (enc := encSd) (g := fun s => encN s.2) (fun _ _ => rfl), List.map_map]; rfl
    rw [e1]
    wtm_at "lcp L_is_sturdy 3"
    case f => exact fun d0 => match d0 with
      | .int i => some (encN (order.getD (i.toNat / (lost + 1)) 0))
      | _ => none
    refine lx_range1 rfl zr rfl ?_
    wtm_at "g L_is_sturdy"
    rw [List.length_map, hsl]
    refine ⟨_, rfl, by omega, by omega, ⟨?_, fun d0 M3 hd3 hm => ?_⟩, ?_⟩
    · rw [rangeD_len]
      exact Nat.lt_of_le_of_lt (by omega : _ ≤ 24) (by decide)
    · obtain ⟨i, hi0⟩ := List.mem_iff_getElem?.mp hd3
      obtain ⟨hi, rfl⟩ := rangeD_at hi0
      have hi2 : i < (lost + 1) * b.length := by omega
      have hdiv : i / (lost + 1) < order.length := by
        rw [hol, Nat.div_lt_iff_lt_mul (by omega), Nat.mul_comm]
        exact hi2
      have g2 : (order.map encN)[i / (lost + 1)]? = some (encN (order.getD (i / (lost + 1)) 0)) := by
        rw [List.getElem?_map, List.getElem?_eq_getElem hdiv, List.getD_eq_getElem?_getD, List.getElem?_eq_getElem hdiv]; rfl
      refine fun s1 H1 C1 cl1 fp1 => txs_nil (iteT fun s2 H2 C2 cl2 fp2 => ?_)
      wtm_at "gb L_is_sturdy"
      refine ox_fdiv ⟨by omega, by omega⟩ ?_
      refine ix_l (atI_of (j := i / (lost + 1)) ?_ g2) ?_
      · rw [Int.zero_add, show ((lost : Int) + 1) = ((lost + 1 : Nat) : Int) by omega]
        exact (Int.natCast_ediv _ _).symm
      refine ⟨rfl, ?_⟩
      show some (encN (order.getD (((0 : Int) + (i : Int)).toNat / (lost + 1)) 0)) = _
      rw [show ((0 : Int) + (i : Int)).toNat = i by omega]
    have e2 : (rangeD 0 (((lost + 1) * b.length : Nat) : Int).toNat).filterMap (fun d0 => match d0 with
      | .int i => some (encN (order.getD (i.toNat / (lost + 1)) 0))
      | _ => none) = (sends.map (·.2)).map encN := by
      rw [S.eq, List.map_map, List.map_map, ints_rg, List.filterMap_map]
      show (List.range ((lost + 1) * b.length)).filterMap (fun i : Nat => some (encN (order.getD (((i : Int)).toNat / (lost + 1)) 0))) = _
      rw [List.filterMap_eq_map']
      rfl
    rw [e2]
    refine ox_neD hr.units ints_ok.2 ints_ok.2 ?_
    rw [eqD_self ints_ok.1]
    exact ⟨rfl, rfl⟩
  refine sxs_nil ?_
  wtm_at "b"
  wtm_at "slcp L_is_sturdy 4"
  case f => exact fun d0 => match d0 with
    | .int i => some (encN (order.idxOf i.toNat * (lost + 1) + lost))
    | _ => none
  refine lx_range1 rfl zr rfl ?_
  rw [eB]
  wtm_at "g L_is_sturdy"
  rw [List.length_map]
  refine ⟨_, rfl, by omega, by omega, ⟨?_, fun d0 M3 hd3 hm => ?_⟩, ?_⟩
  · rw [rangeD_len]
    exact Nat.lt_of_le_of_lt (by omega : _ ≤ 6) (by decide)
  · obtain ⟨i, hi0⟩ := List.mem_iff_getElem?.mp hd3
    obtain ⟨hi, rfl⟩ := rangeD_at hi0
    have et : ((0 : Int) + (i : Int)).toNat = i := by omega
    obtain ⟨i1, i2, i3⟩ := idx_of (ord_all S.ord i (by omega))
    refine fun s1 H1 C1 cl1 fp1 => txs_nil (iteT fun s2 H2 C2 cl2 fp2 => ?_)
    wtm_at "wb L_is_sturdy"
    refine ex_bmL PySem.F.slot_list_index PySem.F.type_list_index rfl rfl rfl rfl rfl ?_
    wtm_at "wb L_is_sturdy"
    refine ⟨_, IsL.fz, ?_⟩
    wtm_at "wb L_is_sturdy"
    refine mx_index (j := order.idxOf i) IsL.fz rfl ?_ ⟨encN i, by rw [List.getElem?_map, i2]; rfl, ?_⟩ (fun q z hq hz => ?_) ?_
    · simp only [List.all_map, List.all_eq_true]
      intro y _; rfl
    · show ((i : Int) == 0 + (i : Int)) = true
      rw [Int.zero_add]; exact beq_self_eq_true _
    · rw [List.getElem?_map] at hz
      obtain ⟨x, hx, rfl⟩ := Option.map_eq_some_iff.mp hz
      have := i3 q x hq hx
      show ((x : Int) == 0 + (i : Int)) = false
      rw [Int.zero_add]
      exact beq_eq_false_iff_ne.mpr (by omega)
    wtm_at "wb L_is_sturdy"
    refine ox_mul (.inl ⟨by omega, by omega⟩) ?_
    wtm_at "wb L_is_sturdy"
    refine ⟨rfl, ?_⟩
    show some (encN (order.idxOf ((0 : Int) + (i : Int)).toNat * (lost + 1) + lost)) = _
    rw [et]
    show some (D.int ((order.idxOf i * (lost + 1) + lost : Nat) : Int)) = _
    simp
  have e3 : (rangeD 0 (b.length : Int).toNat).filterMap (fun d0 => match d0 with
    | .int i => some (encN (order.idxOf i.toNat * (lost + 1) + lost))
    | _ => none) = ((List.range b.length).map fun i => order.idxOf i * (lost + 1) + lost).map encN := by
    rw [ints_rg, List.filterMap_map, List.map_map]
    show (List.range b.length).filterMap (fun i : Nat => some (encN (order.idxOf ((i : Int)).toNat * (lost + 1) + lost))) = _
    rw [List.filterMap_eq_map']
    rfl
  rw [e3]
  wtm_at "b"
  wtm_at "g L_is_sturdy"
  wtm_at "lcp L_is_sturdy 5"
  case f => exact fun d0 => match d0 with
    | .int i => some (.int (((slots.getD i.toNat 0 : Nat) : Int) + d))
    | _ => none
  refine lx_list ?_
  wtm_at "g L_is_sturdy"
  refine ⟨_, rfl, ⟨?_, fun d0 M3 hd3 hm => ?_⟩, ?_⟩
  · rw [List.length_map, List.length_map, List.length_range]
    exact Nat.lt_of_le_of_lt h6 (by decide)
  · obtain ⟨q, hq, rfl⟩ := List.mem_map.mp hd3
    obtain ⟨i, hi, rfl⟩ := List.mem_map.mp hq
    have hi' := List.mem_range.mp hi
    have hio := (idx_of (ord_all S.ord i hi')).1
    rw [hol] at hio
    have hlt : order.idxOf i * (lost + 1) + lost < slots.length := by
      rw [S.len, Nat.mul_comm]
      have : (lost + 1) * (order.idxOf i + 1) ≤ (lost + 1) * b.length := Nat.mul_le_mul_left _ hio
      rw [Nat.mul_succ] at this
      omega
    generalize order.idxOf i * (lost + 1) + lost = j at hlt
    have g2 : (slots.map encN)[j]? = some (encN (slots.getD j 0)) := by
      rw [List.getElem?_map, List.getElem?_eq_getElem hlt, List.getD_eq_getElem?_getD, List.getElem?_eq_getElem hlt]; rfl
    refine fun s1 H1 C1 cl1 fp1 => txs_nil (iteT fun s2 H2 C2 cl2 fp2 => ?_)
    unfold encN
    wtm_at "wb L_is_sturdy"
    refine ix_l (atI_of rfl g2) ?_
    unfold encN
    wtm_at "wb L_is_sturdy"
    exact ⟨rfl, by show some (D.int (((slots.getD ((j : Int)).toNat 0 : Nat) : Int) + d)) = _; rw [Int.toNat_natCast]⟩
  have e4 : (((List.range b.length).map fun i => order.idxOf i * (lost + 1) + lost).map encN).filterMap (fun d0 => match d0 with
    | .int i => some (.int (((slots.getD i.toNat 0 : Nat) : Int) + d))
    | _ => none) = (comesOrd b.length d (pkF b.length lost slots) order).map encO' := by
    rw [← S.comes, List.map_map, List.map_map, List.filterMap_map]
    show (List.range b.length).filterMap (fun i : Nat => some (D.int (((slots.getD (((order.idxOf i * (lost + 1) + lost : Nat) : Int)).toNat 0 : Nat) : Int) + d))) = _
    rw [List.filterMap_eq_map']
    refine List.map_congr_left fun i _ => ?_
    rw [Int.toNat_natCast]; rfl
  rw [e4]
  have hcl : (comesOrd b.length d (pkF b.length lost slots) order).length = b.length := by simp [comesOrd]
  have hcb : ∀ x, some x ∈ comesOrd b.length d (pkF b.length lost slots) order → 0 ≤ x ∧ x ≤ 1000 := fun x hx => by
    rw [← S.comes] at hx
    obtain ⟨i, _, e⟩ := List.mem_map.mp hx
    have := slots_get S.lt (order.idxOf i * (lost + 1) + lost)
    have e := Option.some.inj e
    omega
  have hlast : maxO 0 (doneAt b (comesOrd b.length d (pkF b.length lost slots) order)) = some m := S.last
  generalize comesOrd b.length d (pkF b.length lost slots) order = comes at hcl hcb hlast
  wtm_at "g L_is_sturdy"
  refine ⟨b, comes, rfl, ok, hcl, hcb, fun M1 hE1 => ?_⟩
  have hnn : none ∉ doneAt b comes := fun z => by rw [maxO_none z] at hlast; cases hlast
  obtain ⟨ns, ens, hne, m', hm1, hm2⟩ := max_done ok hnn
  rw [hlast] at hm1
  obtain rfl := Option.some.inj hm1
  refine sxs_cons ?_
  refine sx_ifF ?_ ?_
  · wtm_at "g L_is_sturdy"
    refine ox_inL rfl flat_encO ?_
    rw [inD_non, decide_eq_false hnn, ens]
    wtm_at "g L_is_sturdy"
    refine bx_maxL rfl IsL.fz hne fun m2 g1 g2 => ?_
    obtain rfl := hm2 m2 g1 g2
    wtm_at "g L_is_sturdy"
    exact ⟨by simp, rfl⟩
  refine sxs_nil ?_
  wtm_at "b"
  wtm_at "g L_is_sturdy"
  rw [List.length_map, hsl]
  refine ite_dec (fun _ => k M1 hE1) (fun h12 => ?_)
  wtm_at "g L_is_sturdy"
  refine ⟨b, d, sends, lost, rfl, ok, d1, d9, hso, by omega, hl3, fun M2 hE2 => ⟨fun _ => ?_, fun l a e => by rw [S.weak ok] at e; cases e⟩⟩
  wtm_at "g L_is_sturdy"
  exact k M2 (hE1.trans hE2)
end
/-! ### the law (k19) -/
abbrev lamQ : Str := (envOfC "law" (defScope s_law) 0 0 .none).qual ++ "<lambda>"
/-- the places of a number in a row -/
def fIx (row : List Nat) (q : Nat) : D → Option D
  | .int i => if row[i.toNat]? = some q then some (.int i) else none
  | _ => none
def ixs (row : List Nat) (q n : Nat) : List Nat := (List.range n).filter fun i => decide (row[i]? = some q)
theorem fIx_all {row : List Nat} {q n : Nat} : (rangeD 0 (n : Int).toNat).filterMap (fIx row q) = ((ixs row q n).map fun i : Nat => (i : Int)).map D.int := by
  unfold rangeD ixs
  rw [List.filterMap_map, Int.toNat_natCast, List.map_map]
  induction List.range n with
  | nil => rfl
  | cons i l ih =>
    have e : (fIx row q ∘ fun i : Nat => D.int (0 + (i : Nat))) i = if row[i]? = some q then some (.int (i : Int)) else none := by
      show fIx row q (.int (0 + (i : Int))) = _
      rw [Int.zero_add]; rfl
    rw [List.filterMap_cons, e, List.filter_cons]
    by_cases h : row[i]? = some q
    · rw [if_pos h, decide_eq_true h]
      simp only [if_true, List.map_cons]
      rw [ih]; rfl
    · rw [if_neg h, decide_eq_false h]
      simp only [Bool.false_eq_true, if_false]
      exact ih
theorem ixs_max {row : List Nat} {q n : Nat} {m : Int} (hl : row.length = n) (hm : m ∈ (ixs row q n).map fun i : Nat => (i : Int)) (h : ∀ y ∈ (ixs row q n).map fun i : Nat => (i : Int), y ≤ m) : m = (lastIx row q : Nat) := by
  obtain ⟨i, hi, rfl⟩ := List.mem_map.mp hm
  have h1 : row[i]? = some q := of_decide_eq_true (List.mem_filter.mp hi).2
  have h2 := lastIx_uniq h1 fun j hj => by
    have hjl := (List.getElem?_eq_some_iff.mp hj).1
    have := h (j : Int) (List.mem_map.mpr ⟨j, List.mem_filter.mpr ⟨List.mem_range.mpr (by omega), decide_eq_true hj⟩, rfl⟩)
    omega
  rw [← h2]
theorem ixs_ne {row : List Nat} {q n : Nat} (hl : row.length = n) (h : q ∈ row) : ((ixs row q n).map fun i : Nat => (i : Int)) ≠ [] := fun e => by
  have e2 : ixs row q n = [] := by simpa using e
  have h1 := lastIx_at h
  have hlt := (List.getElem?_eq_some_iff.mp h1).1
  have : lastIx row q ∈ ixs row q n := List.mem_filter.mpr ⟨List.mem_range.mpr (by omega), decide_eq_true h1⟩
  rw [e2] at this
  cases this
/-- what sturdy told -/
def FoundOk (b : List Cmd) (d : Int) (ws : List (Int × Int)) (lost : Nat) (M : Mem) (dd : D) : Prop :=
  (sturdyF b d ws lost = none ∧ dd = .non) ∨ ∃ (m : Int) (sends : List (Int × Nat)) (l : Addr), sturdyF b d ws lost = some (m, sends) ∧ dd = .tup [.int m, .ref l] ∧ M l = some (.lst (sends.map encSd))
theorem FoundOk.ext {b : List Cmd} {d : Int} {ws : List (Int × Int)} {lost : Nat} {M M' : Mem} {dd : D} (h : FoundOk b d ws lost M dd) (e : Ext M M') : FoundOk b d ws lost M' dd := by
  rcases h with h | ⟨m, sends, l, h1, h2, h3⟩
  · exact .inl h
  · exact .inr ⟨m, sends, l, h1, h2, e _ _ h3⟩
theorem row_ne {ns : List Int} {r l : Addr} {M : Mem} {sends : List (Int × Nat)} (hR : Row ns r M) (hm : M l = some (.lst (sends.map encSd))) : l ≠ r := fun e => by
  obtain ⟨i, z, h, _⟩ := hR
  rw [e, h] at hm
  have h2 : [D.fzl (ns.map D.int), .int i, .int z] = sends.map encSd := MO.lst.inj (Option.some.inj hm)
  cases sends with
  | nil => cases h2
  | cons s ss =>
    have h3 : D.fzl (ns.map D.int) = D.tup [.int s.1, encN s.2] := (List.cons.inj h2).1
    cases h3
theorem FoundOk.but {b : List Cmd} {d : Int} {ws : List (Int × Int)} {lost : Nat} {M M' : Mem} {dd : D} {ns : List Int} {r : Addr} (h : FoundOk b d ws lost M dd) (hR : Row ns r M) (e : But r M M') : FoundOk b d ws lost M' dd := by
  rcases h with h | ⟨m, sends, l, h1, h2, h3⟩
  · exact .inl h
  · exact .inr ⟨m, sends, l, h1, h2, by rw [e l (row_ne hR h3)]; exact h3⟩
theorem eight_ok {b : List Cmd} {n : Nat} (ok : BookOk b) (h : b.length + n = 8) : BookOk (b ++ List.replicate n ⟨0, 9, []⟩) := by
  refine ⟨by simp [ok.ne], by simp; omega, fun i c hc => ?_⟩
  by_cases hi : i < b.length
  · rw [List.getElem?_append_left hi] at hc
    exact ok.ok i c hc
  · rw [List.getElem?_append_right (by omega)] at hc
    have := List.eq_of_mem_replicate (List.mem_of_getElem? hc)
    subst this
    exact ⟨by decide, by decide, by decide, fun n hn => absurd hn (by simp), List.Pairwise.nil⟩
theorem sends_okA {sends : List (Int × Nat)} {m : Int} (h : sends.length ≤ 24) : OkI (D.tup [.int m, .lst (sends.map encSd)]) ∧ (D.tup [.int m, .lst (sends.map encSd)]).dep ≤ 6 := by
  have a : OkI (D.lst (sends.map encSd)) := .lst (by rw [List.length_map]; omega) fun d hd => by
    obtain ⟨s, _, rfl⟩ := List.mem_map.mp hd
    refine .tup (Nat.le_of_ble_eq_true rfl) fun x hx => ?_
    simp only [List.mem_cons, List.not_mem_nil, or_false] at hx
    rcases hx with rfl | rfl
    · exact .int _
    · exact .int _
  have c : (D.lst (sends.map encSd)).dep ≤ 2 := dep_lst.mpr ⟨by decide, fun d hd => by
    obtain ⟨s, _, rfl⟩ := List.mem_map.mp hd
    exact Nat.le_of_ble_eq_true rfl⟩
  refine ⟨.tup (Nat.le_of_ble_eq_true rfl) fun d hd => ?_, dep_tup.mpr ⟨by decide, fun d hd => ?_⟩⟩
  · simp only [List.mem_cons, List.not_mem_nil, or_false] at hd
    rcases hd with rfl | rfl
    · exact .int _
    · exact a
  · simp only [List.mem_cons, List.not_mem_nil, or_false] at hd
    rcases hd with rfl | rfl
    · exact Nat.zero_le _
    · omega
section
variable {P : Program} {w : World} {K : PySem.W.Frag} {mg : Str → Option Value} {base : Heap}
theorem ok_law {T c0 : Addr} {cl : Str → Addr} {f : Addr} {fd : FuncData} (Fn : Fun K "law" "law" s_law f fd) (hC : CodeAt K f (.ref c0)) (TB : LamX.TabB base mg c0 T) (zr : mg "range" = none) (zl : mg "len" = none) (zn : mg "int" = none) (zx : mg "max" = none) (dT : Dfn P w K mg base 1 "_law_taken" spTaken) (dBk : Dfn P w K mg base 2 "_law_book" spBook) (dWi : Dfn P w K mg base 2 "_law_windows" spLWindows) (dSl : Dfn P w K mg base 2 "_law_slots" spSlots) (dRo : Dfn P w K mg base 1 "_law_rows" spRows)
    (dLd : Dfn P w K mg base 2 "_law_done_at" spLDone) (dSt : Dfn P w K mg base 4 "sturdy" spSturdy) (dSo : Dfn P w K mg base 5 "soonest" spSoonest) (dIs0 : Dfn P w K mg base 6 "_law_is_sturdy" spIsSturdy) (dAl0 : Dfn P w K mg base 7 "_law_alike" (spAlike 6)) (xS : DfX P w K mg base 4 "sturdy" (spxSturdy (cl "BadCount"))) (wf : WordF P w K mg base "_law_word" (WdE K cl)) (eC : ErrK K cl "BadCount") : FnOk P w K mg base CX0 8 f fd ["_law_script"] (lift K (spTrueL T lamQ)) := by
  have dAl := dAl0.ro
  have dIs := dIs0.ro
  clear dAl0 dIs0
  refine fun_okC Fn sc_law (fun ds M Q ⟨_, e, _⟩ => by rw [e]; rfl) fun cdv A outer sh H E hcd hr ds M Q h B => ?_
  obtain rfl := hcd.one hC
  obtain ⟨ns, rfl, hl, rfl, k⟩ := h
  have hT0 : (mupd noM T (.tbl lamQ)) T = some (.tbl lamQ) := mupd_same
  generalize mupd noM T (.tbl lamQ) = M0 at hT0
  wtm_at "b"
  wtm_at "g law"
  refine ex_lstM ?_
  wtm_at "g law"
  refine fun r fr => ?_
  have hTr : T ≠ r := mne hT0 fr
  have hR0 : Row ns r (mupd M0 r (.lst [.fzl (ns.map D.int), .int 0, .int 0])) := ⟨0, 0, mupd_same, by decide, by decide⟩
  have hT1 : (mupd M0 r (.lst [.fzl (ns.map D.int), .int 0, .int 0])) T = some (.tbl lamQ) := by rw [mupd_ne hTr]; exact hT0
  generalize mupd M0 r (.lst [.fzl (ns.map D.int), .int 0, .int 0]) = M1 at hR0 hT1
  clear hT0 fr
  wtm_at "g law"
  refine ⟨ns, r, _, rfl, hR0, by decide, fun k1 M2 x0 x1 hR2 hB2 => ?_⟩
  refine ix_li (ns := [20, 60]) x0 x1 fun far hfar => ?_
  have hfar' : far = 20 ∨ far = 60 := by simpa using hfar
  wtm_at "g law"
  refine ⟨ns, r, 3, far, rfl, hR2, by decide, by decide, by omega, by omega, fun b M3 ok bl bt hR3 hK3 => ?_⟩
  have hT3 : M3 T = some (.tbl lamQ) := hK3 T _ hTr (by rw [hB2 T hTr]; exact hT1)
  clear hK3 hB2 hR2 hT1 hR0
  have hbp : 0 < b.length := List.length_pos_iff.mpr ok.ne
  have eB : encB b = .tup (b.map Cmd.enc) := rfl
  wtm_at "g law"
  refine ⟨ns, r, _, rfl, hR3, by decide, fun k4 M4 y0 y1 hR4 hB4 => ?_⟩
  rw [eB]
  wtm_at "g law"
  rw [List.length_map]
  refine bx_intB ?_
  obtain ⟨lost, elost, hl1, hl2, hl3⟩ : ∃ lost : Nat, 1 + k4 * (if decide ((b.length : Int) < 3) = true then 1 else 0) = (lost : Int) ∧ 1 ≤ lost ∧ lost ≤ 2 ∧ (b.length = 3 → lost = 1) := by
    split
    · rename_i hq
      have := of_decide_eq_true hq
      exact ⟨1 + k4.toNat, by omega, by omega, by omega, by omega⟩
    · exact ⟨1, by omega, by omega, by omega, fun _ => rfl⟩
  refine ox_mul (Or.inr ⟨by omega, by split <;> decide⟩) ?_
  refine ox_add ?_
  rw [elost]
  have hb3 : b.length ≤ 3 := by omega
  have hN6 : b.length * (lost + 1) ≤ 6 := by
    have : b.length = 1 ∨ b.length = 2 ∨ b.length = 3 := by omega
    rcases this with e | e | e
    · rw [e]; omega
    · rw [e]; omega
    · rw [e, hl3 e]; decide
  wtm_at "g law"
  refine ⟨ns, r, _, rfl, hR4, by decide, fun k5 M5 z0 z1 hR5 hB5 => ?_⟩
  wtm_at "g law"
  refine ⟨ns, r, _, rfl, hR5, by decide, fun k6 M6 u0 u1 hR6 hB6 => ?_⟩
  refine ix_li (ns := [12, 40, 90]) u0 u1 fun far2 hfar2 => ?_
  have hfar2' : far2 = 12 ∨ far2 = 40 ∨ far2 = 90 := by simpa using hfar2
  have hT6 : M6 T = some (.tbl lamQ) := by rw [hB6 T hTr, hB5 T hTr, hB4 T hTr]; exact hT3
  clear hB6 hB5 hB4 hT3 hR3 hR4 hR5
  wtm_at "g law"
  refine ⟨ns, r, far2, rfl, hR6, by omega, by omega, fun ws M7 hwin hwl hwf hR7 hK7 => ?_⟩
  have hT7 := hK7 T _ hTr hT6
  clear hK7 hT6 hR6
  obtain ⟨d, rfl, d1, d9⟩ : ∃ d : Int, d = 1 + k5 ∧ 1 ≤ d ∧ d ≤ 9 := ⟨_, rfl, by omega, by omega⟩
  generalize 1 + k5 = d at d1 d9
  clear z0 z1
  wtm_at "g law"
  rw [List.length_map]
  refine ox_mul (.inl ⟨by omega, by omega⟩) ?_
  have eN : (b.length : Int) * ((lost : Int) + 1) = ((b.length * (lost + 1) : Nat) : Int) := by simp
  rw [eN]
  wtm_at "g law"
  refine ⟨ws, b.length * (lost + 1), rfl, by omega, fun M8 hE8 => ?_⟩
  have hR8 := hR7.ext hE8
  have hT8 := hE8 _ _ hT7
  clear hR7 hT7 hE8
  have hmc : (lost + 1) * b.length = b.length * (lost + 1) := Nat.mul_comm _ _
  have hsu := beats_up (ws := ws) (n := b.length * (lost + 1))
  have hsl := beats_lt (ws := ws) (n := b.length * (lost + 1))
  have hse := sturdy_eq (b := b) (d := d) (ws := ws) (lost := lost)
  have hsd := fun m sends => sturdy_data (b := b) (d := d) (ws := ws) (lost := lost) (m := m) (sends := sends)
  rw [hmc] at hse hsd
  generalize hslots : beatsF ws (b.length * (lost + 1)) = slots at hsu hsl hse hsd
  wtm_at "g law"
  refine sx_for PassesOwn.never rfl (fun _ => rfl) ?_
  refine lx_list ?_
  have hrm : ∀ row ∈ (if slots.length = b.length * (lost + 1) then rowsK b.length (lost + 1) (b.length * (lost + 1)) else []), slots.length = b.length * (lost + 1) ∧ row ∈ rowsK b.length (lost + 1) (b.length * (lost + 1)) := fun row hrow => by
    split at hrow
    · rename_i h; exact ⟨h, hrow⟩
    · cases hrow
  have hrb : (if slots.length = b.length * (lost + 1) then rowsK b.length (lost + 1) (b.length * (lost + 1)) else []).foldl (minStep (lastRow b d slots)) none = (sturdyF b d ws lost).map (·.1) := by
    rw [hse]
    split
    · rename_i h
      exact sturdy_min ok hsu (by omega)
    · rfl
  refine EX.imp (Q := fun dd M1 => dd = encLL (if slots.length = b.length * (lost + 1) then rowsK b.length (lost + 1) (b.length * (lost + 1)) else []) ∧ Ext M8 M1) ?_ ?_
  · wtm_at "g law"
    rw [List.length_map]
    refine ite_dec (fun h1 => ?_) (fun h1 => ?_)
    · wtm_at "g law"
      rw [List.length_map]
      refine ⟨b.length, lost + 1, b.length * (lost + 1), by simp, hb3, hN6, fun M9 hE9 => ⟨?_, hE9⟩⟩
      rw [if_pos (by omega)]
    · refine ex_lst (ax_nil ⟨Nat.zero_le _, ?_, Ext.refl _⟩)
      rw [if_neg (by omega)]; rfl
  generalize (if slots.length = b.length * (lost + 1) then rowsK b.length (lost + 1) (b.length * (lost + 1)) else []) = rows at hrm hrb
  rintro dd M9 ⟨rfl, hE9⟩
  have hR9 := hR8.ext hE9
  have hT9 := hE9 _ _ hT8
  clear hR8 hT8 hE9
  refine ⟨_, rfl, fun j G' M' => ∃ (best : Option Int) (a7 a8 a9 a17 a18 : Option D), G' = [some (.fzl (ns.map D.int)), some (.ref r), some (.tup (b.map Cmd.enc)), some (.int lost), some (.int ((b.length * (lost + 1) : Nat) : Int)), some (.lst (slots.map encN)), some (encO' best), a7, a8, a9, none, none, none, none, some (.int d), none, some (encWn ws), a17, a18] ∧ best = (rows.take j).foldl (minStep (lastRow b d slots)) none ∧ Row ns r M' ∧ M' T = some (.tbl lamQ),
    ⟨none, _, _, _, _, _, rfl, rfl, hR9, hT9⟩, ?_, ?_⟩
  · rintro j dd G' M' hd ⟨best, a7, a8, a9, a17, a18, rfl, hbest, hR, hT⟩
    rw [List.getElem?_map] at hd
    obtain ⟨row, hrow, rfl⟩ := Option.map_eq_some_iff.mp hd
    obtain ⟨hsl2, hrm2⟩ := hrm row (List.mem_of_getElem? hrow)
    obtain ⟨hrl, hrlt, _⟩ := mem_rows.mp hrm2
    have enext : (rows.take (j + 1)).foldl (minStep (lastRow b d slots)) none = minStep (lastRow b d slots) best row := by
      rw [List.take_add_one, hrow, List.foldl_append, ← hbest]; rfl
    clear hbest
    unfold encNs
    wtm_at "v law"
    wtm_at "b"
    wtm_at "slcp law 0"
    case f => exact fun d0 => match d0 with
      | .int q => some (encN (lastIx row q.toNat))
      | _ => none
    refine lx_range1 rfl zr rfl ?_
    wtm_at "g law"
    rw [List.length_map]
    refine ⟨_, rfl, by omega, by omega, ⟨?_, fun d0 M3 hd3 hm => ?_⟩, ?_⟩
    · rw [rangeD_len]
      exact Nat.lt_of_le_of_lt (by omega : _ ≤ 6) (by decide)
    · obtain ⟨q, hq0⟩ := List.mem_iff_getElem?.mp hd3
      obtain ⟨hq, rfl⟩ := rangeD_at hq0
      have et : ((0 : Int) + (q : Int)).toNat = q := by omega
      have hqr : q ∈ row := by
        refine List.count_pos_iff.mp ?_
        rw [rows_full hrm2 q (by omega)]; omega
      refine fun s1 H1 C1 cl1 fp1 => txs_nil (iteT fun s2 H2 C2 cl2 fp2 => ?_)
      wtm_at "gb law"
      refine' ex_lcp (own := [("_law_k", 18)]) (t := .inl 18) (fIx row q) rfl sc_law.nd (blkOk_by (own := [("_law_k", 18)]) (scope := { kind := .function, names := [(".0", .local), ("_law_k", .local), ("_law_one", .free), ("_law_order", .free)], isGenerator := false, isCoroutine := false, more := [] }) (N := n_law) (sc := { kind := .function, names := [(".0", .local), ("_law_one", .cell), ("max", .globalImplicit), ("range", .globalImplicit), ("_law_many", .cell), ("_law_order", .cell)], isGenerator := false, isCoroutine := false, more := [] }) (by decide +kernel)) (by decide) (fun _ _ _ _ _ => pg_name (i := 18) sc_law.nd rfl (by first | exact Or.inl rfl | exact Or.inr rfl)) (fun _ => rfl) ?_
      refine lx_range1 rfl zr rfl ?_
      wtm_at "gb law"
      refine ⟨_, rfl, by omega, by omega, ⟨?_, fun d5 M5 hd5 hm5 => ?_⟩, ?_⟩
      · rw [rangeD_len]
        exact Nat.lt_of_le_of_lt (by omega : _ ≤ 6) (by decide)
      · obtain ⟨i, hi0⟩ := List.mem_iff_getElem?.mp hd5
        obtain ⟨hi, rfl⟩ := rangeD_at hi0
        have hir : i < row.length := by omega
        have g1 : (row.map encN)[i]? = some (encN row[i]) := by rw [List.getElem?_map, List.getElem?_eq_getElem hir]; rfl
        have ef : fIx row q (.int (0 + (i : Int))) = if row[i] = q then some (.int (0 + (i : Int))) else none := by
          show (if row[((0 : Int) + (i : Int)).toNat]? = some q then some (D.int (0 + (i : Int))) else none) = _
          rw [show ((0 : Int) + (i : Int)).toNat = i by omega, List.getElem?_eq_getElem hir]
          simp only [Option.some.injEq]
        rw [ef]
        refine fun s3 H3 C3 cl3 fp3 => txs_one ?_
        wtm_at "gb law"
        refine ix_l (atI_of (Int.zero_add _) g1) ?_
        unfold encN
        wtm_at "gb law"
        refine ite_dec (fun h9 => ?_) (fun h9 => ?_)
        · refine fun s4 H4 C4 cl4 fp4 => ?_
          wtm_at "gb law"
          exact ⟨rfl, if_pos (by omega)⟩
        · exact ⟨rfl, if_neg (by omega)⟩
      rw [fIx_all]
      refine ax_nil (bx_maxL rfl IsL.fz (ixs_ne hrl hqr) fun m hm1 hm2 => ?_)
      have em := ixs_max hrl hm1 hm2
      subst em
      refine ⟨rfl, ?_⟩
      show some (encN (lastIx row ((0 : Int) + (q : Int)).toNat)) = _
      rw [et]; rfl
    have eL : (rangeD 0 (b.length : Int).toNat).filterMap (fun d0 => match d0 with
      | .int q => some (encN (lastIx row q.toNat))
      | _ => none) = ((List.range b.length).map fun q => lastIx row q).map encN := by
      rw [ints_rg, List.filterMap_map, List.map_map]
      show (List.range b.length).filterMap (fun i : Nat => some (encN (lastIx row ((i : Int)).toNat))) = _
      rw [List.filterMap_eq_map']
      rfl
    rw [eL]
    wtm_at "b"
    wtm_at "g law"
    wtm_at "lcp law 2"
    case f => exact fun d0 => match d0 with
      | .int i => some (.int (((slots.getD i.toNat 0 : Nat) : Int) + d))
      | _ => none
    refine lx_list ?_
    wtm_at "g law"
    refine ⟨_, rfl, ⟨?_, fun d0 M3 hd3 hm => ?_⟩, ?_⟩
    · rw [List.length_map, List.length_map, List.length_range]
      exact Nat.lt_of_le_of_lt hb3 (by decide)
    · obtain ⟨x, hx, rfl⟩ := List.mem_map.mp hd3
      obtain ⟨q, hq, rfl⟩ := List.mem_map.mp hx
      have hq' := List.mem_range.mp hq
      have hlt : lastIx row q < slots.length := by
        rw [hsl2, ← hrl]
        have : q ∈ row := by
          refine List.count_pos_iff.mp ?_
          rw [rows_full hrm2 q hq']; omega
        exact (List.getElem?_eq_some_iff.mp (lastIx_at this)).1
      generalize lastIx row q = i at hlt
      have g2 : (slots.map encN)[i]? = some (encN (slots.getD i 0)) := by
        rw [List.getElem?_map, List.getElem?_eq_getElem hlt, List.getD_eq_getElem?_getD, List.getElem?_eq_getElem hlt]; rfl
      refine fun s1 H1 C1 cl1 fp1 => txs_nil (iteT fun s2 H2 C2 cl2 fp2 => ?_)
      unfold encN
      wtm_at "wb law"
      refine ix_l (atI_of rfl g2) ?_
      unfold encN
      wtm_at "wb law"
      exact ⟨rfl, by show some (D.int (((slots.getD ((i : Int)).toNat 0 : Nat) : Int) + d)) = _; rw [Int.toNat_natCast]⟩
    have e4 : (((List.range b.length).map fun q => lastIx row q).map encN).filterMap (fun d0 => match d0 with
      | .int i => some (.int (((slots.getD i.toNat 0 : Nat) : Int) + d))
      | _ => none) = (comesRow b.length d slots row).map encO' := by
      unfold comesRow
      rw [List.map_map, List.map_map, List.filterMap_map]
      show (List.range b.length).filterMap (fun i : Nat => some (D.int (((slots.getD (((lastIx row i : Nat) : Int)).toNat 0 : Nat) : Int) + d))) = _
      rw [List.filterMap_eq_map']
      refine List.map_congr_left fun i _ => ?_
      rw [Int.toNat_natCast]; rfl
    rw [e4]
    have hcl : (comesRow b.length d slots row).length = b.length := by simp [comesRow]
    have hcb : ∀ x, some x ∈ comesRow b.length d slots row → 0 ≤ x ∧ x ≤ 1000 := fun x hx => by
      unfold comesRow at hx
      obtain ⟨i, _, e⟩ := List.mem_map.mp hx
      have := slots_get hsl (lastIx row i)
      have e := Option.some.inj e
      omega
    have hLr : lastRow b d slots row = maxO 0 (doneAt b (comesRow b.length d slots row)) := rfl
    generalize comesRow b.length d slots row = comes at hcl hcb hLr
    wtm_at "g law"
    refine ⟨b, comes, rfl, ok, hcl, hcb, fun M5 hE5 => ?_⟩
    have hR5 := hR.ext hE5
    have hT5 := hE5 _ _ hT
    clear hR hT
    wtm_at "g law"
    refine ox_notInL rfl flat_encO ?_
    rw [inD_non]
    refine asB_bl (ite_ndec (fun hn => ?_) (fun hn => ?_))
    · obtain ⟨nn, ens, hne, m, hm1, hm2⟩ := max_done ok hn
      rw [hm1] at hLr
      have es : minStep (lastRow b d slots) best row = if best = none ∨ ∃ z, best = some z ∧ m < z then some m else best := by
        unfold minStep; rw [hLr]
      rw [ens]
      cases best with
      | none =>
        wtm_at "g law"
        refine bx_maxL rfl IsL.fz hne fun m' g1 g2 => ?_
        obtain rfl := hm2 m' g1 g2
        wtm_at "g law"
        exact ⟨some m', _, _, _, _, _, rfl, by rw [enext, es, if_pos (.inl rfl)], hR5, hT5⟩
      | some z =>
        unfold encO'
        wtm_at "g law"
        refine bx_maxL rfl IsL.fz hne fun m' g1 g2 => ?_
        obtain rfl := hm2 m' g1 g2
        wtm_at "g law"
        refine ite_dec (fun h1 => ?_) (fun h1 => ?_)
        · wtm_at "g law"
          refine bx_maxL rfl IsL.fz hne fun m2 g1 g2 => ?_
          obtain rfl := hm2 m2 g1 g2
          wtm_at "g law"
          exact ⟨some m2, _, _, _, _, _, rfl, by rw [enext, es, if_pos (.inr ⟨z, rfl, h1⟩)], hR5, hT5⟩
        · wtm_at "g law"
          refine ⟨some z, _, _, _, _, _, rfl, ?_, hR5, hT5⟩
          rw [enext, es, if_neg (by
            rintro (q | ⟨y, hy, q⟩)
            · cases q
            · cases hy; exact h1 q)]
    · have el : lastRow b d slots row = none := by rw [hLr]; exact maxO_none hn
      wtm_at "g law"
      refine ⟨best, _, _, _, _, _, rfl, ?_, hR5, hT5⟩
      rw [enext]
      unfold minStep
      rw [el]
  · rintro G' M' ⟨best, a7, a8, a9, a17, a18, rfl, hbest, hR, hT⟩
    have hn : (List.map encNs rows).length = rows.length := List.length_map ..
    rw [hn, List.take_length, hrb] at hbest
    clear hrb hrm hR9 hT9 hse
    wtm_at "b"
    refine sx_for PassesOwn.never rfl (fun _ => rfl) ?_
    refine lx_range1 rfl zr rfl ?_
    wtm_at "g law"
    refine ⟨_, rfl, by decide, by decide, fun j G' M' => ∃ (a7 a8 a9 a10 a11 a17 a18 : Option D), G' = [some (.fzl (ns.map D.int)), some (.ref r), some (.tup (b.map Cmd.enc)), some (.int lost), some (.int ((b.length * (lost + 1) : Nat) : Int)), some (.lst (slots.map encN)), some (encO' best), a7, a8, a9, a10, a11, none, none, some (.int d), none, some (encWn ws), a17, a18] ∧ Row ns r M' ∧ M' T = some (.tbl lamQ),
      ⟨_, _, _, _, _, _, _, rfl, hR, hT⟩, ?_, ?_⟩
    · rintro j dj G' M' hdj ⟨a7, a8, a9, a10, a11, a17, a18, rfl, hR, hT⟩
      wtm_at "v law"
      wtm_at "b"
      wtm_at "v law"
      refine EX.imp (Q := fun dd M1 => Ext M' M1 ∧ FoundOk b d ws lost M1 dd) ?_ ?_
      · wtm_at "h law"
        exact ⟨b, d, ws, lost, rfl, ok, d1, d9, hwin, by omega, by omega, by omega, fun M5 hE5 => ⟨fun hn => ⟨hE5, .inl ⟨hn, rfl⟩⟩, fun m sends l hs hl hm => ⟨hE5, .inr ⟨m, sends, l, hs, rfl, hm⟩⟩⟩⟩
      rintro dd M1 ⟨hE1, hF⟩
      have hR1 := hR.ext hE1
      have hT1 := hE1 _ _ hT
      clear hR hT
      rcases hF with ⟨hn, rfl⟩ | ⟨m, sends, l, hs, rfl, hm⟩
      · rw [hn] at hbest
        have hb0 : best = none := hbest
        subst hb0
        wtm_at "b"
        refine sx_ifF ?_ ?_
        · wtm_at "h law"
          exact ⟨rfl, rfl⟩
        refine sxs_nil ?_
        wtm_at "b"
        refine sx_ifF ?_ ?_
        · wtm_at "h law"
          exact ⟨rfl, rfl⟩
        refine sxs_nil ?_
        exact ⟨_, _, _, _, _, _, _, rfl, hR1, hT1⟩
      · rw [hs] at hbest
        have hb0 : best = some m := hbest
        subst hb0
        obtain ⟨order, S⟩ := hsd m sends hs
        have hlr : l ≠ r := row_ne hR1 hm
        have hTl : T ≠ l := fun e => by rw [e, hm] at hT1; cases hT1
        wtm_at "b"
        refine sx_ifF ?_ ?_
        · wtm_at "h law"
          unfold encO'
          wtm_at "h law"
          exact ⟨by simp, rfl⟩
        refine sxs_nil ?_
        wtm_at "b"
        refine sx_ifT ?_ ?_
        · wtm_at "h law"
          exact ⟨rfl, rfl⟩
        wtm_at "b"
        refine sx_ifF ?_ ?_
        · wtm_at "h law"
          refine ro1 (.bl true) (.cons (.self _) (.cons (.self _) (.cons (.tup (.cons (.self _) (.cons (.cell hm (DeepAll.self _)) .nil))) (DeepAll.self _)))) ⟨b, d, lost, slots, m, sends, order, rfl, ok, by omega, by omega, d1, d9, S, fun _ _ => rfl⟩ rfl ?_
          wtm_at "h law"
          exact ⟨rfl, rfl⟩
        refine sxs_nil ?_
        wtm_at "b"
        wtm_at "h law"
        refine ex_append rfl rfl rfl rfl rfl ?_
        wtm_at "h law"
        refine ⟨l, _, rfl, hm, ?_⟩
        wtm_at "h law"
        refine ⟨_, hm, ?_, ?_⟩
        · rw [List.length_map, S.slen]
          exact Nat.lt_of_le_of_lt (by omega : _ ≤ 6) (by decide)
        exact ⟨_, _, _, _, _, _, _, rfl, hR1.upd hlr, by rw [mupd_ne hTl]; exact hT1⟩
    · rintro G' M' ⟨a7, a8, a9, a10, a11, a17, a18, rfl, hR, hT⟩
      clear hsd hsu hsl hbest
      wtm_at "b"
      refine sx_par (i := 12) (j := 3) rfl sc_law.nd rfl rfl (by decide) rfl rfl rfl rfl rfl rfl ?_
      wtm_at "g law"
      refine ⟨ns, r, 6, 90, rfl, hR, by decide, by decide, by decide, by decide, fun c M1 okc cl1 ct hR1 hK1 => ?_⟩
      have hT1 := hK1 T _ hTr hT
      wtm_at "g law"
      refine ⟨ns, r, _, rfl, hR1, by decide, fun l2 M2 y0 y1 hR2 hB2 => ?_⟩
      have hT2 : M2 T = some (.tbl lamQ) := by rw [hB2 T hTr]; exact hT1
      obtain ⟨lo, rfl⟩ : ∃ n : Nat, l2 = (n : Int) := ⟨l2.toNat, by omega⟩
      have hlo : lo ≤ 3 := by omega
      have hc6 : c.length ≤ 6 := by omega
      have hcp : 0 < c.length := List.length_pos_iff.mpr okc.ne
      clear hR hT hK1 hT1 hR1 hB2
      wtm_at "b"
      wtm_at "v law"
      refine EX.imp (Q := fun dd M1 => Ext M2 M1 ∧ FoundOk c d ws lo M1 dd) ?_ ?_
      · wtm_at "h law"
        exact ⟨c, d, ws, lo, rfl, okc, d1, d9, hwin, by omega, hlo, hc6, fun M5 hE5 => ⟨fun hn => ⟨hE5, .inl ⟨hn, rfl⟩⟩, fun m sends l hs hl hm => ⟨hE5, .inr ⟨m, sends, l, hs, rfl, hm⟩⟩⟩⟩
      rintro dd M3 ⟨hE3, hF3⟩
      have hR3 := hR2.ext hE3
      have hT3 := hE3 _ _ hT2
      clear hR2 hT2 hE3
      have eC2 : encB c = .tup (c.map Cmd.enc) := rfl
      rw [eC2]
      wtm_at "b"
      wtm_at "h law"
      rw [List.length_map]
      refine ox_mul (.inl ⟨by omega, by omega⟩) ?_
      have eN2 : (c.length : Int) * ((lo : Int) + 1) = ((c.length * (lo + 1) : Nat) : Int) := by simp
      rw [eN2]
      wtm_at "h law"
      refine ⟨ws, c.length * (lo + 1), rfl, by omega, fun M4 hE4 => ?_⟩
      have hR4 := hR3.ext hE4
      have hT4 := hE4 _ _ hT3
      have hF4 := hF3.ext hE4
      clear hR3 hT3 hE4 hF3
      have hmc2 : (lo + 1) * c.length = c.length * (lo + 1) := Nat.mul_comm _ _
      have hsd2 := fun m sends => sturdy_data (b := c) (d := d) (ws := ws) (lost := lo) (m := m) (sends := sends)
      rw [hmc2] at hsd2
      generalize beatsF ws (c.length * (lo + 1)) = slots2 at hsd2
      refine sxs_cons ?_
      refine sx_ifF ?_ ?_
      · rcases hF4 with ⟨hn, rfl⟩ | ⟨m, sends, l, hs, rfl, hm⟩
        · wtm_at "h law"
          exact ⟨rfl, rfl⟩
        · obtain ⟨order, S⟩ := hsd2 m sends hs
          wtm_at "h law"
          refine ro1 (.bl true) (.cons (.self _) (.cons (.self _) (.cons (.tup (.cons (.self _) (.cons (.cell hm (DeepAll.self _)) .nil))) (DeepAll.self _)))) ⟨c, d, lo, slots2, m, sends, order, rfl, okc, hc6, hlo, d1, d9, S, fun _ _ => rfl⟩ rfl ?_
          wtm_at "h law"
          exact ⟨rfl, rfl⟩
      refine sxs_nil ?_
      wtm_at "b"
      wtm_at "h law"
      refine ⟨ns, r, _, rfl, hR4, by decide, fun k5 M5 u0 u1 hR5 hB5 => ?_⟩
      wtm_at "h law"
      refine ⟨ns, r, _, rfl, hR5, by decide, fun k6 M6 v0 v1 hR6 hB6 => ?_⟩
      refine ix_li (ns := [4 + k5, 0 - 1]) v0 v1 fun bad hbad => ?_
      have hbad' : bad < 0 ∨ 3 < bad := by
        have : bad = 4 + k5 ∨ bad = 0 - 1 := by simpa using hbad
        omega
      have hF6 := (hF4.but hR4 hB5).but hR5 hB6
      have hT6 : M6 T = some (.tbl lamQ) := by rw [hB6 T hTr, hB5 T hTr]; exact hT4
      clear hF4 hT4 hR4 hB5 hR5 hB6
      wtm_at "b"
      wtm_at "h law"
      rw [List.length_map]
      refine ox_repT (by omega) (by omega) ?_
      obtain ⟨e8, he8⟩ : ∃ n : Nat, (8 : Int) - (c.length : Int) = (n : Int) := ⟨(8 - (c.length : Int)).toNat, by omega⟩
      rw [he8]
      refine ox_catT (by rw [List.length_map, List.length_replicate]; exact Nat.le_trans (by omega : _ ≤ 8) (by decide)) ?_
      have ok8 := eight_ok okc (n := e8) (by omega)
      have eE : D.tup (c.map Cmd.enc ++ List.replicate ((e8 : Int).toNat) (.tup [.int 0, .int 9, .tup []])) = encB (c ++ List.replicate e8 ⟨0, 9, []⟩) := by
        unfold encB
        rw [List.map_append, List.map_replicate, Int.toNat_natCast]; rfl
      rw [eE]
      generalize c ++ List.replicate e8 ⟨0, 9, []⟩ = eight at ok8
      refine sxs_cons ?_
      refine sx_ifF ?_ ?_
      · wtm_at "h law"
        refine ex_lam (k := 4) (P := T) (c := c0) (Wd := WdE K cl) (fun y M1' => y = ⟨cl "BadCount", none⟩ ∧ M1' = M6) wf rfl rfl hT6 TB rfl (hr.mono (by decide)) (LamX.lamS_by (sc := defScope s_law) (by decide +kernel)) rfl (fun _ _ _ _ _ => rfl) ?_ ?_
        · intro A2 outer2 s2 H2 E2 f2 c2 B2 hr2 tk
          refine ex_callX xS tk hr2 rfl rfl rfl rfl ?_
          wtm_at "gy law"
          exact ⟨eight, d, ws, bad, rfl, ok8, d1, d9, hwin, hbad', rfl, rfl⟩
        · rintro y M2 ⟨rfl, rfl⟩
          refine ⟨fun _ _ e => e, _, ⟨rfl, eC, rfl⟩, ?_⟩
          wtm_at "h law"
          exact ⟨by simp, rfl⟩
      refine sxs_nil ?_
      wtm_at "b"
      wtm_at "h law"
      refine ite_dec (fun _ => k M6) (fun h0 => ?_)
      have hlo0 : lo = 0 := by omega
      subst hlo0
      wtm_at "h law"
      refine ⟨c, d, ws, rfl, okc, d1, d9, hwin, by omega, hc6, fun M7 hE7 => ?_⟩
      rcases hF6.ext hE7 with ⟨hn, rfl⟩ | ⟨m, sends, l, hs, rfl, hm⟩
      · refine ⟨fun _ => ?_, fun m sends l2 hs => by rw [hn] at hs; cases hs⟩
        refine ax_nil ?_
        refine ro1 (.bl true) (DeepAll.self _) ⟨.non, rfl, .non, Nat.zero_le _, rfl⟩ rfl ?_
        exact k M7
      · refine ⟨fun hn => (by rw [hn] at hs; cases hs), fun m2 sends2 l2 hs2 hl2 hm2 => ?_⟩
        rw [hs] at hs2
        cases hs2
        obtain ⟨order, S⟩ := hsd2 m sends hs
        have hsl := S.slen
        obtain ⟨a1, a2⟩ := sends_okA (sends := sends) (m := m) (by omega)
        refine ax_nil ?_
        refine ro1 (.bl true) (.cons (.tup (.cons (.self _) (.cons (.cell hm (DeepAll.self _)) .nil))) (.cons (.tup (.cons (.self _) (.cons (.cell hm2 (DeepAll.self _)) .nil))) .nil)) ⟨_, rfl, a1, a2, rfl⟩ rfl ?_
        exact k M7
end
theorem hfacts {P : Program} {w : World} {K : PySem.W.Frag} {h : Heap} {mg : Str → Option Value} {fl : Addr} (X : K.In h) (G : h.Ns mainGlobals mg) (hfa0 : mg ("law" : Str) = some (.ref fl)) (c0 : He.SaysX hfa hfn [] [("law", none)] hexB w h K) :
    ∃ fd : FuncData, (∀ (s : Shared) (v : Value), BindsTo s fd ⟨[v], []⟩ [("_law_script", v)]) ∧ ∀ base : Heap, K.In base → base.Ns mainGlobals mg → LamX.TabB base mg (He.cT K ("law", none)).1 (He.cT K ("law", none)).2 → FnOk P w K mg base CX0 8 fl fd ["_law_script"] (lift K (spTrueL (He.cT K ("law", none)).2 lamQ)) := by
  have c : He.SaysD hfa hfn K := c0.t.d
  have cx : hexB K = true := c0.more
  simp only [hexB, Bool.and_eq_true] at cx
  obtain ⟨⟨cx0, cx1⟩, _⟩ := cx
  have z_ValueError : mg "ValueError" = none := He.free_ok X G (c.fact 43 rfl)
  have z_bool : mg "bool" = none := He.free_ok X G (c.fact 44 rfl)
  have z_enumerate : mg "enumerate" = none := He.free_ok X G (c.fact 45 rfl)
  have z_int : mg "int" = none := He.free_ok X G (c.fact 46 rfl)
  have z_isinstance : mg "isinstance" = none := He.free_ok X G (c.fact 47 rfl)
  have z_len : mg "len" = none := He.free_ok X G (c.fact 48 rfl)
  have z_list : mg "list" = none := He.free_ok X G (c.fact 49 rfl)
  have z_max : mg "max" = none := He.free_ok X G (c.fact 50 rfl)
  have z_min : mg "min" = none := He.free_ok X G (c.fact 51 rfl)
  have z_range : mg "range" = none := He.free_ok X G (c.fact 52 rfl)
  have z_sorted : mg "sorted" = none := He.free_ok X G (c.fact 53 rfl)
  have z_str : mg "str" = none := He.free_ok X G (c.fact 54 rfl)
  have z_tuple : mg "tuple" = none := He.free_ok X G (c.fact 55 rfl)
  have k_MOST_BEAT := cst_int X G (x := "MOST_BEAT") (i := 200) (c.fact 56 rfl)
  have k_MOST_COMMANDS := cst_int X G (x := "MOST_COMMANDS") (i := 8) (c.fact 57 rfl)
  have k_MOST_DELAY := cst_int X G (x := "MOST_DELAY") (i := 9) (c.fact 58 rfl)
  have k_MOST_LOST := cst_int X G (x := "MOST_LOST") (i := 3) (c.fact 59 rfl)
  have k_MOST_ORDERED := cst_int X G (x := "MOST_ORDERED") (i := 6) (c.fact 60 rfl)
  have k_MOST_SENDS := cst_int X G (x := "MOST_SENDS") (i := 12) (c.fact 61 rfl)
  have g_LinkError := He.glo_ok X G (c.fact 28 (f := .glo "LinkError") rfl)
  have g_BadBook := He.glo_ok X G (c.fact 29 (f := .glo "BadBook") rfl)
  have g_BadLetters := He.glo_ok X G (c.fact 30 (f := .glo "BadLetters") rfl)
  have g_BadStep := He.glo_ok X G (c.fact 31 (f := .glo "BadStep") rfl)
  have g_BadText := He.glo_ok X G (c.fact 32 (f := .glo "BadText") rfl)
  have g_BadDelay := He.glo_ok X G (c.fact 33 (f := .glo "BadDelay") rfl)
  have g_BadWindows := He.glo_ok X G (c.fact 34 (f := .glo "BadWindows") rfl)
  have g_NoCommand := He.glo_ok X G (c.fact 35 (f := .glo "NoCommand") rfl)
  have g_NoWindow := He.glo_ok X G (c.fact 36 (f := .glo "NoWindow") rfl)
  have g_NoLetter := He.glo_ok X G (c.fact 37 (f := .glo "NoLetter") rfl)
  have g_BadReport := He.glo_ok X G (c.fact 38 (f := .glo "BadReport") rfl)
  have g_TooMany := He.glo_ok X G (c.fact 39 (f := .glo "TooMany") rfl)
  have g_BadCount := He.glo_ok X G (c.fact 40 (f := .glo "BadCount") rfl)
  have g_Over := He.glo_ok X G (c.fact 41 (f := .glo "Over") rfl)
  have up0 : UpC K mg "LinkError" (He.ga K "LinkError") := upB_ok g_LinkError cx0
  obtain ⟨fd_word, F0_word⟩ := c.def_ 27 (d := defAt ("_law_word", none) "_law_word" "_law_word" s_L_word) rfl
  have F_word : Fun K "_law_word" "_law_word" s_L_word _ fd_word := fun_of F0_word
  have m_word := He.glo_ok X G (c.fact 27 (f := .glo "_law_word") rfl)
  have b_word := F_word.binds (ps := ["_law_work"]) fun _ _ _ _ _ _ us hl => match us, hl with | [_], _ => rfl
  have wf0 : ∀ base : Heap, WordF P w K mg base "_law_word" (WdE K (He.ga K)) := fun base => wf_L_word F_word m_word b_word z_isinstance z_ValueError g_LinkError (cst_ref g_BadBook) (cst_ref g_BadLetters) (cst_ref g_BadStep) (cst_ref g_BadText) (cst_ref g_BadDelay) (cst_ref g_BadWindows) (cst_ref g_NoCommand) (cst_ref g_NoWindow) (cst_ref g_NoLetter) (cst_ref g_BadReport) (cst_ref g_TooMany) (cst_ref g_BadCount) (cst_ref g_Over)
  have e_BadCount : ErrK K (He.ga K) "BadCount" := errB_ok cx1
  have t_BadCount : XcT K mg "BadCount" (He.ga K "BadCount") := xcT_of g_BadCount (c.fact 42 rfl)
  obtain ⟨fd_is_number, F0_is_number⟩ := c.def_ 0 (d := defAt ("is_number", none) "is_number" "is_number" s_is_number) rfl
  have F_is_number : Fun K "is_number" "is_number" s_is_number _ fd_is_number := fun_of F0_is_number
  have m_is_number := He.glo_ok X G (c.fact 0 (f := .glo "is_number") rfl)
  have b_is_number := F_is_number.binds (ps := ["part", "low", "high"]) fun _ _ _ _ _ _ us hl => match us, hl with | [_, _, _], _ => rfl
  have d_is_number : ∀ base : Heap, Dfn P w K mg base 1 "is_number" spIsNumber := fun base => dfn_mk (by apply ok_is_number F_is_number <;> first | assumption | apply_assumption) m_is_number F_is_number.kp b_is_number
  obtain ⟨fd_is_command, F0_is_command⟩ := c.def_ 1 (d := defAt ("is_command", none) "is_command" "is_command" s_is_command) rfl
  have F_is_command : Fun K "is_command" "is_command" s_is_command _ fd_is_command := fun_of F0_is_command
  have m_is_command := He.glo_ok X G (c.fact 1 (f := .glo "is_command") rfl)
  have b_is_command := F_is_command.binds (ps := ["part", "number"]) fun _ _ _ _ _ _ us hl => match us, hl with | [_, _], _ => rfl
  have d_is_command : ∀ base : Heap, Dfn P w K mg base 2 "is_command" spIsCommand := fun base => dfn_mk (by apply ok_is_command F_is_command <;> first | assumption | apply_assumption) m_is_command F_is_command.kp b_is_command
  obtain ⟨fd_need_book, F0_need_book⟩ := c.def_ 2 (d := defAt ("need_book", none) "need_book" "need_book" s_need_book) rfl
  have F_need_book : Fun K "need_book" "need_book" s_need_book _ fd_need_book := fun_of F0_need_book
  have m_need_book := He.glo_ok X G (c.fact 2 (f := .glo "need_book") rfl)
  have b_need_book := F_need_book.binds (ps := ["book"]) fun _ _ _ _ _ _ us hl => match us, hl with | [_], _ => rfl
  have d_need_book : ∀ base : Heap, Dfn P w K mg base 3 "need_book" spNeedBook := fun base => dfn_mk (by apply ok_need_book F_need_book <;> first | assumption | apply_assumption) m_need_book F_need_book.kp b_need_book
  obtain ⟨fd_need_delay, F0_need_delay⟩ := c.def_ 3 (d := defAt ("need_delay", none) "need_delay" "need_delay" s_need_delay) rfl
  have F_need_delay : Fun K "need_delay" "need_delay" s_need_delay _ fd_need_delay := fun_of F0_need_delay
  have m_need_delay := He.glo_ok X G (c.fact 3 (f := .glo "need_delay") rfl)
  have b_need_delay := F_need_delay.binds (ps := ["delay"]) fun _ _ _ _ _ _ us hl => match us, hl with | [_], _ => rfl
  have d_need_delay : ∀ base : Heap, Dfn P w K mg base 2 "need_delay" spNeedDelay := fun base => dfn_mk (by apply ok_need_delay F_need_delay <;> first | assumption | apply_assumption) m_need_delay F_need_delay.kp b_need_delay
  obtain ⟨fd_need_windows, F0_need_windows⟩ := c.def_ 4 (d := defAt ("need_windows", none) "need_windows" "need_windows" s_need_windows) rfl
  have F_need_windows : Fun K "need_windows" "need_windows" s_need_windows _ fd_need_windows := fun_of F0_need_windows
  have m_need_windows := He.glo_ok X G (c.fact 4 (f := .glo "need_windows") rfl)
  have b_need_windows := F_need_windows.binds (ps := ["windows"]) fun _ _ _ _ _ _ us hl => match us, hl with | [_], _ => rfl
  have d_need_windows : ∀ base : Heap, Dfn P w K mg base 2 "need_windows" spNeedWindows := fun base => dfn_mk (by apply ok_need_windows F_need_windows <;> first | assumption | apply_assumption) m_need_windows F_need_windows.kp b_need_windows
  obtain ⟨fd_is_open, F0_is_open⟩ := c.def_ 5 (d := defAt ("is_open", none) "is_open" "is_open" s_is_open) rfl
  have F_is_open : Fun K "is_open" "is_open" s_is_open _ fd_is_open := fun_of F0_is_open
  have m_is_open := He.glo_ok X G (c.fact 5 (f := .glo "is_open") rfl)
  have b_is_open := F_is_open.binds (ps := ["windows", "beat"]) fun _ _ _ _ _ _ us hl => match us, hl with | [_, _], _ => rfl
  have d_is_open : ∀ base : Heap, Dfn P w K mg base 1 "is_open" spIsOpen := fun base => dfn_mk (by apply ok_is_open F_is_open <;> first | assumption | apply_assumption) m_is_open F_is_open.kp b_is_open
  obtain ⟨fd_open_beats, F0_open_beats⟩ := c.def_ 6 (d := defAt ("open_beats", none) "open_beats" "open_beats" s_open_beats) rfl
  have F_open_beats : Fun K "open_beats" "open_beats" s_open_beats _ fd_open_beats := fun_of F0_open_beats
  have m_open_beats := He.glo_ok X G (c.fact 6 (f := .glo "open_beats") rfl)
  have b_open_beats := F_open_beats.binds (ps := ["windows", "many"]) fun _ _ _ _ _ _ us hl => match us, hl with | [_, _], _ => rfl
  have d_open_beats : ∀ base : Heap, Dfn P w K mg base 2 "open_beats" spOpenBeats := fun base => dfn_mk (by apply ok_open_beats F_open_beats <;> first | assumption | apply_assumption) m_open_beats F_open_beats.kp b_open_beats
  obtain ⟨fd_done_at, F0_done_at⟩ := c.def_ 7 (d := defAt ("done_at", none) "done_at" "done_at" s_done_at) rfl
  have F_done_at : Fun K "done_at" "done_at" s_done_at _ fd_done_at := fun_of F0_done_at
  have m_done_at := He.glo_ok X G (c.fact 7 (f := .glo "done_at") rfl)
  have b_done_at := F_done_at.binds (ps := ["book", "comes"]) fun _ _ _ _ _ _ us hl => match us, hl with | [_, _], _ => rfl
  have d_done_at : ∀ base : Heap, Dfn P w K mg base 1 "done_at" spDoneAt := fun base => dfn_mk (by apply ok_done_at F_done_at <;> first | assumption | apply_assumption) m_done_at F_done_at.kp b_done_at
  obtain ⟨fd_orders, F0_orders⟩ := c.def_ 8 (d := defAt ("orders", none) "orders" "orders" s_orders) rfl
  have F_orders : Fun K "orders" "orders" s_orders _ fd_orders := fun_of F0_orders
  have m_orders := He.glo_ok X G (c.fact 8 (f := .glo "orders") rfl)
  have b_orders := F_orders.binds (ps := ["many"]) fun _ _ _ _ _ _ us hl => match us, hl with | [_], _ => rfl
  have d_orders : ∀ base : Heap, Dfn P w K mg base 1 "orders" spOrders := fun base => dfn_mk (by apply ok_orders F_orders <;> first | assumption | apply_assumption) m_orders F_orders.kp b_orders
  obtain ⟨fd_best_order, F0_best_order⟩ := c.def_ 9 (d := defAt ("best_order", none) "best_order" "best_order" s_best_order) rfl
  have F_best_order : Fun K "best_order" "best_order" s_best_order _ fd_best_order := fun_of F0_best_order
  have m_best_order := He.glo_ok X G (c.fact 9 (f := .glo "best_order") rfl)
  have b_best_order := F_best_order.binds (ps := ["book", "delay", "beats"]) fun _ _ _ _ _ _ us hl => match us, hl with | [_, _, _], _ => rfl
  have d_best_order : ∀ base : Heap, Dfn P w K mg base 2 "best_order" spBestOrder := fun base => dfn_mk (by apply ok_best_order F_best_order <;> first | assumption | apply_assumption) m_best_order F_best_order.kp b_best_order
  obtain ⟨fd_sturdy, F0_sturdy⟩ := c.def_ 10 (d := defAt ("sturdy", none) "sturdy" "sturdy" s_sturdy) rfl
  have F_sturdy : Fun K "sturdy" "sturdy" s_sturdy _ fd_sturdy := fun_of F0_sturdy
  have m_sturdy := He.glo_ok X G (c.fact 10 (f := .glo "sturdy") rfl)
  have b_sturdy := F_sturdy.binds (ps := ["book", "delay", "windows", "lost"]) fun _ _ _ _ _ _ us hl => match us, hl with | [_, _, _, _], _ => rfl
  have d_sturdy : ∀ base : Heap, Dfn P w K mg base 4 "sturdy" spSturdy := fun base => dfn_mk (by apply ok_sturdy F_sturdy <;> first | assumption | apply_assumption) m_sturdy F_sturdy.kp b_sturdy
  have x_sturdy : ∀ base : Heap, DfX P w K mg base 4 "sturdy" (spxSturdy (He.ga K "BadCount")) := fun base => ⟨_, _, _, (by apply okx_sturdy F_sturdy <;> first | assumption | apply_assumption), m_sturdy, F_sturdy.kp, b_sturdy⟩
  obtain ⟨fd_soonest, F0_soonest⟩ := c.def_ 11 (d := defAt ("soonest", none) "soonest" "soonest" s_soonest) rfl
  have F_soonest : Fun K "soonest" "soonest" s_soonest _ fd_soonest := fun_of F0_soonest
  have m_soonest := He.glo_ok X G (c.fact 11 (f := .glo "soonest") rfl)
  have b_soonest := F_soonest.binds (ps := ["book", "delay", "windows"]) fun _ _ _ _ _ _ us hl => match us, hl with | [_, _, _], _ => rfl
  have d_soonest : ∀ base : Heap, Dfn P w K mg base 5 "soonest" spSoonest := fun base => dfn_mk (by apply ok_soonest F_soonest <;> first | assumption | apply_assumption) m_soonest F_soonest.kp b_soonest
  obtain ⟨fd_taken, F0_taken⟩ := c.def_ 12 (d := defAt ("_law_taken", none) "_law_taken" "_law_taken" s_L_taken) rfl
  have F_taken : Fun K "_law_taken" "_law_taken" s_L_taken _ fd_taken := fun_of F0_taken
  have m_taken := He.glo_ok X G (c.fact 12 (f := .glo "_law_taken") rfl)
  have b_taken := F_taken.binds (ps := ["_law_row", "_law_many"]) fun _ _ _ _ _ _ us hl => match us, hl with | [_, _], _ => rfl
  have d_taken : ∀ base : Heap, Dfn P w K mg base 1 "_law_taken" spTaken := fun base => dfn_mk (by apply ok_taken F_taken <;> first | assumption | apply_assumption) m_taken F_taken.kp b_taken
  obtain ⟨fd_L_book, F0_L_book⟩ := c.def_ 13 (d := defAt ("_law_book", none) "_law_book" "_law_book" s_L_book) rfl
  have F_L_book : Fun K "_law_book" "_law_book" s_L_book _ fd_L_book := fun_of F0_L_book
  have m_L_book := He.glo_ok X G (c.fact 13 (f := .glo "_law_book") rfl)
  have b_L_book := F_L_book.binds (ps := ["_law_row", "_law_most", "_law_far"]) fun _ _ _ _ _ _ us hl => match us, hl with | [_, _, _], _ => rfl
  have d_L_book : ∀ base : Heap, Dfn P w K mg base 2 "_law_book" spBook := fun base => dfn_mk (by apply ok_L_book F_L_book <;> first | assumption | apply_assumption) m_L_book F_L_book.kp b_L_book
  obtain ⟨fd_L_open, F0_L_open⟩ := c.def_ 14 (d := defAt ("_law_open", none) "_law_open" "_law_open" s_L_open) rfl
  have F_L_open : Fun K "_law_open" "_law_open" s_L_open _ fd_L_open := fun_of F0_L_open
  have m_L_open := He.glo_ok X G (c.fact 14 (f := .glo "_law_open") rfl)
  have b_L_open := F_L_open.binds (ps := ["_law_windows_here", "_law_beat"]) fun _ _ _ _ _ _ us hl => match us, hl with | [_, _], _ => rfl
  have d_L_open : ∀ base : Heap, Dfn P w K mg base 1 "_law_open" spIsOpen := fun base => dfn_mk (by apply ok_L_open F_L_open <;> first | assumption | apply_assumption) m_L_open F_L_open.kp b_L_open
  obtain ⟨fd_L_slots, F0_L_slots⟩ := c.def_ 15 (d := defAt ("_law_slots", none) "_law_slots" "_law_slots" s_L_slots) rfl
  have F_L_slots : Fun K "_law_slots" "_law_slots" s_L_slots _ fd_L_slots := fun_of F0_L_slots
  have m_L_slots := He.glo_ok X G (c.fact 15 (f := .glo "_law_slots") rfl)
  have b_L_slots := F_L_slots.binds (ps := ["_law_windows_here", "_law_many"]) fun _ _ _ _ _ _ us hl => match us, hl with | [_, _], _ => rfl
  have d_L_slots : ∀ base : Heap, Dfn P w K mg base 2 "_law_slots" spSlots := fun base => dfn_mk (by apply ok_L_slots F_L_slots <;> first | assumption | apply_assumption) m_L_slots F_L_slots.kp b_L_slots
  obtain ⟨fd_L_windows, F0_L_windows⟩ := c.def_ 16 (d := defAt ("_law_windows", none) "_law_windows" "_law_windows" s_L_windows) rfl
  have F_L_windows : Fun K "_law_windows" "_law_windows" s_L_windows _ fd_L_windows := fun_of F0_L_windows
  have m_L_windows := He.glo_ok X G (c.fact 16 (f := .glo "_law_windows") rfl)
  have b_L_windows := F_L_windows.binds (ps := ["_law_row", "_law_far"]) fun _ _ _ _ _ _ us hl => match us, hl with | [_, _], _ => rfl
  have d_L_windows : ∀ base : Heap, Dfn P w K mg base 2 "_law_windows" spLWindows := fun base => dfn_mk (by apply ok_L_windows F_L_windows <;> first | assumption | apply_assumption) m_L_windows F_L_windows.kp b_L_windows
  obtain ⟨fd_L_alike, F0_L_alike⟩ := c.def_ 17 (d := defAt ("_law_alike", none) "_law_alike" "_law_alike" s_L_alike) rfl
  have F_L_alike : Fun K "_law_alike" "_law_alike" s_L_alike _ fd_L_alike := fun_of F0_L_alike
  have m_L_alike := He.glo_ok X G (c.fact 17 (f := .glo "_law_alike") rfl)
  have b_L_alike := F_L_alike.binds (ps := ["_law_found", "_law_due"]) fun _ _ _ _ _ _ us hl => match us, hl with | [_, _], _ => rfl
  have d_L_alike : ∀ base : Heap, Dfn P w K mg base 7 "_law_alike" (spAlike 6) := fun base => dfn_mk (by apply ok_L_alike F_L_alike <;> first | assumption | apply_assumption) m_L_alike F_L_alike.kp b_L_alike
  obtain ⟨fd_L_beaten, F0_L_beaten⟩ := c.def_ 18 (d := defAt ("_law_beaten", none) "_law_beaten" "_law_beaten" s_L_beaten) rfl
  have F_L_beaten : Fun K "_law_beaten" "_law_beaten" s_L_beaten _ fd_L_beaten := fun_of F0_L_beaten
  have m_L_beaten := He.glo_ok X G (c.fact 18 (f := .glo "_law_beaten") rfl)
  have b_L_beaten := F_L_beaten.binds (ps := ["_law_book_here", "_law_state", "_law_letters", "_law_beat"]) fun _ _ _ _ _ _ us hl => match us, hl with | [_, _, _, _], _ => rfl
  have d_L_beaten : ∀ base : Heap, Dfn P w K mg base 1 "_law_beaten" spLBeaten := fun base => dfn_mk (by apply ok_L_beaten F_L_beaten <;> first | assumption | apply_assumption) m_L_beaten F_L_beaten.kp b_L_beaten
  obtain ⟨fd_L_done_at, F0_L_done_at⟩ := c.def_ 19 (d := defAt ("_law_done_at", none) "_law_done_at" "_law_done_at" s_L_done_at) rfl
  have F_L_done_at : Fun K "_law_done_at" "_law_done_at" s_L_done_at _ fd_L_done_at := fun_of F0_L_done_at
  have m_L_done_at := He.glo_ok X G (c.fact 19 (f := .glo "_law_done_at") rfl)
  have b_L_done_at := F_L_done_at.binds (ps := ["_law_book_here", "_law_comes"]) fun _ _ _ _ _ _ us hl => match us, hl with | [_, _], _ => rfl
  have d_L_done_at : ∀ base : Heap, Dfn P w K mg base 2 "_law_done_at" spLDone := fun base => dfn_mk (by apply ok_L_done_at F_L_done_at <;> first | assumption | apply_assumption) m_L_done_at F_L_done_at.kp b_L_done_at
  obtain ⟨fd_need_sends, F0_need_sends⟩ := c.def_ 20 (d := defAt ("need_sends", none) "need_sends" "need_sends" s_need_sends) rfl
  have F_need_sends : Fun K "need_sends" "need_sends" s_need_sends _ fd_need_sends := fun_of F0_need_sends
  have m_need_sends := He.glo_ok X G (c.fact 20 (f := .glo "need_sends") rfl)
  have b_need_sends := F_need_sends.binds (ps := ["book", "sends"]) fun _ _ _ _ _ _ us hl => match us, hl with | [_, _], _ => rfl
  have d_need_sends : ∀ base : Heap, Dfn P w K mg base 2 "need_sends" spNeedSends := fun base => dfn_mk (by apply ok_need_sends F_need_sends <;> first | assumption | apply_assumption) m_need_sends F_need_sends.kp b_need_sends
  obtain ⟨fd_all_done, F0_all_done⟩ := c.def_ 21 (d := defAt ("all_done", none) "all_done" "all_done" s_all_done) rfl
  have F_all_done : Fun K "all_done" "all_done" s_all_done _ fd_all_done := fun_of F0_all_done
  have m_all_done := He.glo_ok X G (c.fact 21 (f := .glo "all_done") rfl)
  have b_all_done := F_all_done.binds (ps := ["book", "delay", "sends"]) fun _ _ _ _ _ _ us hl => match us, hl with | [_, _, _], _ => rfl
  have d_all_done : ∀ base : Heap, Dfn P w K mg base 2 "all_done" spAllDone := fun base => dfn_mk (by apply ok_all_done F_all_done <;> first | assumption | apply_assumption) m_all_done F_all_done.kp b_all_done
  obtain ⟨fd_choices, F0_choices⟩ := c.def_ 22 (d := defAt ("choices", none) "choices" "choices" s_choices) rfl
  have F_choices : Fun K "choices" "choices" s_choices _ fd_choices := fun_of F0_choices
  have m_choices := He.glo_ok X G (c.fact 22 (f := .glo "choices") rfl)
  have b_choices := F_choices.binds (ps := ["many", "size", "low"]) fun _ _ _ _ _ _ us hl => match us, hl with | [_, _, _], _ => rfl
  have d_choices : ∀ base : Heap, Dfn P w K mg base 4 "choices" (spChoices 3) := fun base => dfn_mk (by apply ok_choices F_choices <;> first | assumption | apply_assumption) m_choices F_choices.kp b_choices
  obtain ⟨fd_weak, F0_weak⟩ := c.def_ 23 (d := defAt ("weak", none) "weak" "weak" s_weak) rfl
  have F_weak : Fun K "weak" "weak" s_weak _ fd_weak := fun_of F0_weak
  have m_weak := He.glo_ok X G (c.fact 23 (f := .glo "weak") rfl)
  have b_weak := F_weak.binds (ps := ["book", "delay", "sends", "most"]) fun _ _ _ _ _ _ us hl => match us, hl with | [_, _, _, _], _ => rfl
  have d_weak : ∀ base : Heap, Dfn P w K mg base 5 "weak" spWeak := fun base => dfn_mk (by apply ok_weak F_weak <;> first | assumption | apply_assumption) m_weak F_weak.kp b_weak
  obtain ⟨fd_L_rows, F0_L_rows⟩ := c.def_ 24 (d := defAt ("_law_rows", none) "_law_rows" "_law_rows" s_L_rows) rfl
  have F_L_rows : Fun K "_law_rows" "_law_rows" s_L_rows _ fd_L_rows := fun_of F0_L_rows
  have m_L_rows := He.glo_ok X G (c.fact 24 (f := .glo "_law_rows") rfl)
  have b_L_rows := F_L_rows.binds (ps := ["_law_numbers", "_law_often", "_law_many"]) fun _ _ _ _ _ _ us hl => match us, hl with | [_, _, _], _ => rfl
  have d_L_rows : ∀ base : Heap, Dfn P w K mg base 1 "_law_rows" spRows := fun base => dfn_mk (by apply ok_L_rows F_L_rows <;> first | assumption | apply_assumption) m_L_rows F_L_rows.kp b_L_rows
  obtain ⟨fd_L_is_sturdy, F0_L_is_sturdy⟩ := c.def_ 25 (d := defAt ("_law_is_sturdy", none) "_law_is_sturdy" "_law_is_sturdy" s_L_is_sturdy) rfl
  have F_L_is_sturdy : Fun K "_law_is_sturdy" "_law_is_sturdy" s_L_is_sturdy _ fd_L_is_sturdy := fun_of F0_L_is_sturdy
  have m_L_is_sturdy := He.glo_ok X G (c.fact 25 (f := .glo "_law_is_sturdy") rfl)
  have b_L_is_sturdy := F_L_is_sturdy.binds (ps := ["_law_book_here", "_law_delay", "_law_found", "_law_slots_here", "_law_lost"]) fun _ _ _ _ _ _ us hl => match us, hl with | [_, _, _, _, _], _ => rfl
  have d_L_is_sturdy : ∀ base : Heap, Dfn P w K mg base 6 "_law_is_sturdy" spIsSturdy := fun base => dfn_mk (by apply ok_L_is_sturdy F_L_is_sturdy <;> first | assumption | apply_assumption) m_L_is_sturdy F_L_is_sturdy.kp b_L_is_sturdy
  obtain ⟨fd_law, F0_law⟩ := c.def_ 26 (d := defAt ("law", none) "law" "law" s_law) rfl
  have F_law : Fun K "law" "law" s_law _ fd_law := fun_of F0_law
  have m_law := He.glo_ok X G (c.fact 26 (f := .glo "law") rfl)
  have e := hfa0.symm.trans m_law
  cases e
  have cA := codeAt_of (p := ("law", none)) F_law
  exact ⟨fd_law, fun s v => FunD.bindsA (ps := ["_law_script"]) F0_law (fun _ _ _ _ _ _ us hl => match us, hl with | [_], _ => rfl) s [v] rfl, fun base _ _ tB => by apply ok_law F_law <;> first | assumption | apply_assumption⟩
end Lw
open PySem PySem.W PySem.Calls PyProof.Rows
set_option maxHeartbeats 0 in
theorem PySem.Challenge.cw_faruplink_k19_sturdy_by_trying_all_holds : PySem.Challenge.rw_faruplink_k19_sturdy_by_trying_all.Holds := by
  refine Lw.hholds fun w mg fa h K KX G hmg c => ?_
  obtain ⟨fd, hb, hF⟩ := Lw.hfacts (P := (PySem.Challenge.rw_faruplink_k19_sturdy_by_trying_all).prog) (w := w) KX G hmg c
  refine ⟨fd, [He.cT K ("law", none)], FL.lift K (FL.spTrueL (He.cT K ("law", none)).2 Lw.lamQ), fun p hp => ?_, fun p hp => ?_, fun p hp => ?_, hb, fun H a ns hl _ hH hS => FL.law_spL hl (hH _ (List.mem_singleton.mpr rfl)) hS, fun base h1 h2 h3 => hF base h1 h2 (h3 _ (List.mem_singleton.mpr rfl))⟩
  · rw [List.mem_singleton.mp hp]; exact c.empty _ (List.mem_singleton.mpr rfl)
  · rw [List.mem_singleton.mp hp]; exact c.out _ (List.mem_singleton.mpr rfl)
  · rw [List.mem_singleton.mp hp]; exact PySem.W.codeHd_of_K KX (c.hd _ (List.mem_singleton.mpr rfl))
