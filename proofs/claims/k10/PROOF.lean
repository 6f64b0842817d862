import PyProof.Rows.All
import Wide.All
import OpenK.AllK
import Wide.FinOn
import HandS.ForMost
import HandS.IsInst
import HandS.Walk
import HandS.Conv
import HandS.FStr
import HandS.Lambda
import HandS.Defaults
import HandS.Head0
import HandS.Head1
import HandS.Head2
import HandS.HeadEnd
import HandS.HeadHook1
import HandS.HeadHook2
import HandS.HeadHook3
import HandS.HeadHook4
import KE.GoesMore
import HandS.TupAny
import HandS.TupMul
import HandS.SortInts
import KE.LtData
import PySem.Challenge.RW_faruplink_k10_soonest_by_trying_all
set_option Elab.async false
set_option linter.all false
set_option maxRecDepth 100000
set_option maxHeartbeats 2000000
/-! FL: a calculus over plain data. A state is: the slots' data (G), and the mutable cells (M). What is immutable has no address here. -/
namespace FL
open PySem PySem.Spec PyProof.Rows L2

/-- plain data -/
inductive D where
  | non | bl (b : Bool) | int (i : Int) | str (x : Str) | ref (a : Addr) | ty (n : String)
  | tup (ds : List D) | lst (ds : List D) | fzl (ds : List D)
  | dK (kvs : List (Key × D)) | dT (kvs : List (List Key × D))

mutual
/-- in the heap of what stays, F, the value is that data -/
inductive Rp (K : PySem.W.Frag) (F : Hp) : V → D → Prop
  | non : Rp K F .non .non
  | bl (b : Bool) : Rp K F (.bl b) (.bl b)
  | int (i : Int) : Rp K F (.int i) (.int i)
  | str (x : Str) : Rp K F (.str x) (.str x)
  | ref (a : Addr) : Rp K F (.ref a) (.ref a)
  | ty (n : String) : Rp K F (.ty n) (.ty n)
  | tup {a : Addr} {xs : List V} {ds : List D} : SqT K F a xs → RpAll K F xs ds → Rp K F (.ref a) (.tup ds)
  | lst {a : Addr} {xs : List V} {ds : List D} : F a = some (.lst xs) → RpAll K F xs ds → Rp K F (.ref a) (.lst ds)
  | fzl {a : Addr} {xs : List V} {ds : List D} : SqL K F a xs → RpAll K F xs ds → Rp K F (.ref a) (.fzl ds)
  | dK {a : Addr} {kvs : List (Key × V)} {kds : List (Key × D)} : F a = some (.dK kvs) → RpKey K F kvs kds → Rp K F (.ref a) (.dK kds)
  | dT {a : Addr} {kvs : List (List Key × V)} {kds : List (List Key × D)} : F a = some (.dT kvs) → RpTup K F kvs kds → Rp K F (.ref a) (.dT kds)
inductive RpAll (K : PySem.W.Frag) (F : Hp) : List V → List D → Prop
  | nil : RpAll K F [] []
  | cons {v : V} {vs : List V} {d : D} {ds : List D} : Rp K F v d → RpAll K F vs ds → RpAll K F (v :: vs) (d :: ds)
inductive RpKey (K : PySem.W.Frag) (F : Hp) : List (Key × V) → List (Key × D) → Prop
  | nil : RpKey K F [] []
  | cons {k : Key} {v : V} {vs : List (Key × V)} {d : D} {ds : List (Key × D)} : Rp K F v d → RpKey K F vs ds → RpKey K F ((k, v) :: vs) ((k, d) :: ds)
inductive RpTup (K : PySem.W.Frag) (F : Hp) : List (List Key × V) → List (List Key × D) → Prop
  | nil : RpTup K F [] []
  | cons {k : List Key} {v : V} {vs : List (List Key × V)} {d : D} {ds : List (List Key × D)} : Rp K F v d → RpTup K F vs ds → RpTup K F ((k, v) :: vs) ((k, d) :: ds)
end

theorem sq_same {K : PySem.W.Frag} {F F' : Hp} {a : Addr} {xs : List V} (e : Same F F') (h : SqT K F a xs) : SqT K F' a xs := by
  rcases h with (h | ⟨o, h⟩) | h
  · exact .inl (.inl (e _ _ h))
  · exact .inl (.inr ⟨o, e _ _ h⟩)
  · exact .inr h

mutual
theorem Rp.mono {K : PySem.W.Frag} {F F' : Hp} (e : Same F F') : ∀ {v : V} {d : D}, Rp K F v d → Rp K F' v d
  | _, _, .non => .non
  | _, _, .bl b => .bl b
  | _, _, .int i => .int i
  | _, _, .str x => .str x
  | _, _, .ref a => .ref a
  | _, _, .ty n => .ty n
  | _, _, .tup h r => .tup (sq_same e h) (RpAll.mono e r)
  | _, _, .lst h r => .lst (e _ _ h) (RpAll.mono e r)
  | _, _, .fzl h r => .fzl (e.seq h) (RpAll.mono e r)
  | _, _, .dK h r => .dK (e _ _ h) (RpKey.mono e r)
  | _, _, .dT h r => .dT (e _ _ h) (RpTup.mono e r)
theorem RpAll.mono {K : PySem.W.Frag} {F F' : Hp} (e : Same F F') : ∀ {vs : List V} {ds : List D}, RpAll K F vs ds → RpAll K F' vs ds
  | _, _, .nil => .nil
  | _, _, .cons h r => .cons (Rp.mono e h) (RpAll.mono e r)
theorem RpKey.mono {K : PySem.W.Frag} {F F' : Hp} (e : Same F F') : ∀ {vs : List (Key × V)} {ds : List (Key × D)}, RpKey K F vs ds → RpKey K F' vs ds
  | _, _, .nil => .nil
  | _, _, .cons h r => .cons (Rp.mono e h) (RpKey.mono e r)
theorem RpTup.mono {K : PySem.W.Frag} {F F' : Hp} (e : Same F F') : ∀ {vs : List (List Key × V)} {ds : List (List Key × D)}, RpTup K F vs ds → RpTup K F' vs ds
  | _, _, .nil => .nil
  | _, _, .cons h r => .cons (Rp.mono e h) (RpTup.mono e r)
end

section
variable {K : PySem.W.Frag} {F : Hp}
theorem RpAll.length : ∀ {vs : List V} {ds : List D}, RpAll K F vs ds → vs.length = ds.length
  | _, _, .nil => rfl
  | _, _, .cons _ r => by rw [List.length_cons, List.length_cons, RpAll.length r]
theorem RpAll.get : ∀ {vs : List V} {ds : List D} {i : Nat} {d : D}, RpAll K F vs ds → ds[i]? = some d → ∃ v, vs[i]? = some v ∧ Rp K F v d
  | _, _, _, _, .nil, h => by simp at h
  | _, _, 0, _, .cons r _, h => by
    simp at h; subst h; exact ⟨_, rfl, r⟩
  | _, _, i + 1, d, .cons _ r, h => by
    obtain ⟨v, h1, h2⟩ := RpAll.get (i := i) (d := d) r (by simpa using h)
    exact ⟨v, by simpa using h1, h2⟩
theorem RpAll.getV : ∀ {vs : List V} {ds : List D} {i : Nat} {v : V}, RpAll K F vs ds → vs[i]? = some v → ∃ d, ds[i]? = some d ∧ Rp K F v d
  | _, _, _, _, .nil, h => by simp at h
  | _, _, 0, _, .cons r _, h => by
    simp at h; subst h; exact ⟨_, rfl, r⟩
  | _, _, i + 1, v, .cons _ r, h => by
    obtain ⟨d, h1, h2⟩ := RpAll.getV (i := i) (v := v) r (by simpa using h)
    exact ⟨d, by simpa using h1, h2⟩
theorem RpAll.append : ∀ {vs ws : List V} {ds es : List D}, RpAll K F vs ds → RpAll K F ws es → RpAll K F (vs ++ ws) (ds ++ es)
  | _, _, _, _, .nil, s => s
  | _, _, _, _, .cons h r, s => .cons h (RpAll.append r s)
theorem RpAll.set : ∀ {vs : List V} {ds : List D} (i : Nat) {v : V} {d : D}, RpAll K F vs ds → Rp K F v d → RpAll K F (vs.set i v) (ds.set i d)
  | _, _, _, _, _, .nil, _ => .nil
  | _, _, 0, _, _, .cons _ r, h => .cons h r
  | _, _, i + 1, _, _, .cons q r, h => .cons q (RpAll.set i r h)
theorem RpAll.take : ∀ {vs : List V} {ds : List D} (n : Nat), RpAll K F vs ds → RpAll K F (vs.take n) (ds.take n)
  | _, _, 0, _ => .nil
  | _, _, _ + 1, .nil => .nil
  | _, _, n + 1, .cons h r => .cons h (RpAll.take n r)
theorem RpAll.drop : ∀ {vs : List V} {ds : List D} (n : Nat), RpAll K F vs ds → RpAll K F (vs.drop n) (ds.drop n)
  | _, _, 0, r => r
  | _, _, _ + 1, .nil => .nil
  | _, _, n + 1, .cons _ r => RpAll.drop n r
theorem RpAll.eraseIdx : ∀ {vs : List V} {ds : List D} (n : Nat), RpAll K F vs ds → RpAll K F (vs.eraseIdx n) (ds.eraseIdx n)
  | _, _, _, .nil => .nil
  | _, _, 0, .cons _ r => r
  | _, _, n + 1, .cons h r => .cons h (RpAll.eraseIdx n r)
theorem RpAll.ints : ∀ {ns : List Int}, RpAll K F (ns.map V.int) (ns.map D.int)
  | [] => .nil
  | _ :: _ => .cons (.int _) RpAll.ints
theorem RpAll.strs : ∀ {ns : List Str}, RpAll K F (ns.map V.str) (ns.map D.str)
  | [] => .nil
  | _ :: _ => .cons (.str _) RpAll.strs
end

/-- a lambda: its name, text, scope, the cells that it reads, whether it has a default (0) -/
structure LamD where
  q : Str
  params : Arguments
  body : Expr
  scope : Scope
  cl : List (Str × Addr)
  df : Bool
/-- a lambda's data -/
abbrev fnD (q : Str) (params : Arguments) (body : Expr) (scope : Scope) (cl : List (Str × Addr)) (dV pm cdv ct : Value) : FuncData :=
  { name := "<lambda>", qualname := q, params := params, body := .expr body, scope := scope, globals := mainGlobals, closure := cl, defaults := dV, kwdefaults := .none, doc := .none, pyModule := pm, annotations := none, code := cdv, closureTuple := ct, builtins := builtinsNs }
abbrev fnObj (fd : FuncData) : Obj := { cls := .type "function", data := .func fd }
/-- the object at f is that function -/
def FnO (f : Addr) (fd : FuncData) : HO := .ext fun h => h.get? f = some (fnObj fd)
/-- the object at a is o; o is a dict of one key, the thing at q -/
def OneT (a : Addr) (o : Obj) : HO := .ext fun h => h.get? a = some o
structure OneO (a q : Addr) (o : Obj) : Prop where
  n : (a == sysModules) = false
  x : o.ExactDict
  d : ∃ (e : DictEntry) (ep : Nat), o.data = .dict #[e] ep ∧ e.key = .ref q
/-- its default -/
def DfOk (F : Hp) (dV : Value) : Bool → Prop
  | false => dV = .none
  | true => ∃ T, dV = .ref T ∧ F T = some (.tup [.int 0])
/-- what stands in a mutable cell -/
inductive MO where
  | lst (ds : List D) | ins (C : Addr) (fs : List (Str × D)) | dK (kvs : List (Key × D)) | dT (kvs : List (List Key × D))
  | tbl (q : Str) | xd (f : Str) (n : Int) | fn (l : LamD) | one (d : D)
abbrev Mem := Addr → Option MO
def mupd (M : Mem) (a : Addr) (o : MO) : Mem := fun b => if b = a then some o else M b
theorem mupd_same {M : Mem} {a : Addr} {o : MO} : mupd M a o a = some o := by unfold mupd; rw [if_pos rfl]
theorem mupd_ne {M : Mem} {a b : Addr} {o : MO} (h : b ≠ a) : mupd M a o b = M b := by unfold mupd; rw [if_neg h]
theorem mupd_mupd {M : Mem} {a : Addr} {o u : MO} : mupd (mupd M a o) a u = mupd M a u := by
  funext b; unfold mupd; split <;> rfl
/-- the cell is forgotten -/
def mdel (M : Mem) (a : Addr) : Mem := fun b => if b = a then none else M b
theorem mdel_mupd {M : Mem} {a : Addr} {o : MO} (h : M a = none) : mdel (mupd M a o) a = M := by
  funext b
  unfold mdel mupd
  by_cases e : b = a
  · subst e; rw [if_pos rfl, h]
  · rw [if_neg e, if_neg e]
theorem mne {M : Mem} {a b : Addr} {o : MO} (h : M a = some o) (h' : M b = none) : a ≠ b := by
  intro e; subst e; rw [h] at h'; cases h'
theorem mnes {M : Mem} {a b : Addr} {o : MO} (h : M a = some o) (h' : M b = none) : b ≠ a := fun e => mne h h' e.symm

/-- fields by name, in order -/
inductive FsRp (K : PySem.W.Frag) (F : Hp) : List (Str × V) → List (Str × D) → Prop
  | nil : FsRp K F [] []
  | cons {k : Str} {v : V} {vs : List (Str × V)} {d : D} {ds : List (Str × D)} : Rp K F v d → FsRp K F vs ds → FsRp K F ((k, v) :: vs) ((k, d) :: ds)
theorem FsRp.mono {K : PySem.W.Frag} {F F' : Hp} (e : Same F F') : ∀ {vs : List (Str × V)} {ds : List (Str × D)}, FsRp K F vs ds → FsRp K F' vs ds
  | _, _, .nil => .nil
  | _, _, .cons h r => .cons (h.mono e) (FsRp.mono e r)
def MRp (K : PySem.W.Frag) (F H : Hp) (a : Addr) : MO → Prop
  | .lst ds => ∃ xs, H a = some (.lst xs) ∧ RpAll K F xs ds
  | .ins C fs => ∃ dx vs, H a = some (.ins C dx vs) ∧ FsRp K F vs fs
  | .dK kvs => ∃ vs, H a = some (.dK vs) ∧ RpKey K F vs kvs
  | .dT kvs => ∃ vs, H a = some (.dT vs) ∧ RpTup K F vs kvs
  | .tbl q => ∃ ps : Array Value, H a = some (.tbl ps) ∧ TriplesOk ps.toList ∧ ∀ (pos : Pos) (cv : Value), codeAmong pos ps.toList = some cv → ∃ c, cv = .ref c ∧ F c = some (LamX.CodeO c q)
  | .xd f n => H a = some (.xd [(f, .int n)])
  | .fn l => ∃ dV pm c ctv, H a = some (FnO a (fnD l.q l.params l.body l.scope l.cl dV pm (.ref c) ctv)) ∧ F c = some (LamX.CodeO c l.q) ∧ DfOk F dV l.df
  | .one d => ∃ o q, H a = some (OneT a o) ∧ OneO a q o ∧ Rp K F (.ref q) d
theorem DfOk.mono {F F' : Hp} {dV : Value} (e : Same F F') : ∀ {b : Bool}, DfOk F dV b → DfOk F' dV b
  | false, h => h
  | true, ⟨T, h1, h2⟩ => ⟨T, h1, e _ _ h2⟩
def MemOk (K : PySem.W.Frag) (F H : Hp) (M : Mem) : Prop := ∀ a o, M a = some o → F a = none ∧ MRp K F H a o
def SlotsOk (K : PySem.W.Frag) (F : Hp) (s : L2.St) (G : List (Option D)) : Prop := G.length = s.length ∧ ∀ (i : Nat) (d : D), G[i]? = some (some d) → ∃ v, s[i]? = some (some v) ∧ Rp K F v d
/-- where a piece of code began: what stays, the cells, the heap -/
structure Bs where
  F : Hp
  M : Mem
  H : Hp
/-- what was no cell is as it was -/
def Kp (M : Mem) (H : Hp) (M' : Mem) (H' : Hp) : Prop := ∀ a u, H a = some u → M a = none → H' a = some u ∧ M' a = none
theorem Kp.refl (M : Mem) (H : Hp) : Kp M H M H := fun _ _ h m => ⟨h, m⟩
theorem Kp.trans {M M1 M2 : Mem} {H H1 H2 : Hp} (a : Kp M H M1 H1) (b : Kp M1 H1 M2 H2) : Kp M H M2 H2 := fun x u h m => b x u (a x u h m).1 (a x u h m).2
theorem Kp.heap {M : Mem} {H H' : Hp} (e : Same H H') : Kp M H M H' := fun a u h m => ⟨e a u h, m⟩
theorem Kp.less {M M' : Mem} {H : Hp} (h : ∀ a o, M' a = some o → M a = some o) : Kp M H M' H := fun a u e m => ⟨e, by
  cases q : M' a with
  | none => rfl
  | some o => rw [h a o q] at m; cases m⟩
structure R (B : Bs) (K : PySem.W.Frag) (F : Hp) (s : L2.St) (H : Hp) (G : List (Option D)) (M : Mem) : Prop where
  slots : SlotsOk K F s G
  ex : Same F H
  mem : MemOk K F H M
  bf : Same B.F F
  bk : Kp B.M B.H M H

section
variable {B : Bs} {K : PySem.W.Frag} {F F' H H' : Hp} {s : L2.St} {G : List (Option D)} {M M' : Mem}
theorem MRp.mono {a : Addr} (e : Same F F') : ∀ {o : MO}, MRp K F H a o → MRp K F' H a o
  | .lst _, ⟨xs, h, r⟩ => ⟨xs, h, r.mono e⟩
  | .ins _ _, ⟨dx, vs, h, r⟩ => ⟨dx, vs, h, r.mono e⟩
  | .dK _, ⟨xs, h, r⟩ => ⟨xs, h, r.mono e⟩
  | .dT _, ⟨xs, h, r⟩ => ⟨xs, h, r.mono e⟩
  | .tbl _, ⟨ps, h, t, r⟩ => ⟨ps, h, t, fun pos cv z => by
    obtain ⟨c, e1, e2⟩ := r pos cv z
    exact ⟨c, e1, e _ _ e2⟩⟩
  | .xd _ _, h => h
  | .fn _, ⟨dV, pm, c, ctv, h1, h2, h3⟩ => ⟨dV, pm, c, ctv, h1, e _ _ h2, h3.mono e⟩
  | .one _, ⟨o, q, h1, h2, h3⟩ => ⟨o, q, h1, h2, h3.mono e⟩
theorem MRp.there {a : Addr} : ∀ {o : MO}, MRp K F H a o → ∃ u, H a = some u ∧ ∀ xs, u ≠ .tup xs
  | .lst _, ⟨xs, h, r⟩ => ⟨_, h, fun _ e => nomatch e⟩
  | .ins _ _, ⟨dx, vs, h, r⟩ => ⟨_, h, fun _ e => nomatch e⟩
  | .dK _, ⟨xs, h, r⟩ => ⟨_, h, fun _ e => nomatch e⟩
  | .dT _, ⟨xs, h, r⟩ => ⟨_, h, fun _ e => nomatch e⟩
  | .tbl _, ⟨ps, h, _⟩ => ⟨_, h, fun _ e => nomatch e⟩
  | .xd _ _, h => ⟨_, h, fun _ e => nomatch e⟩
  | .fn _, ⟨dV, pm, c, ctv, h1, h2, h3⟩ => ⟨_, h1, fun _ e => by unfold FnO at e; cases e⟩
  | .one _, ⟨o, q, h1, h2, h3⟩ => ⟨_, h1, fun _ e => by unfold OneT at e; cases e⟩
theorem MRp.heap {a : Addr} (e : ∀ u, H a = some u → H' a = some u) : ∀ {o : MO}, MRp K F H a o → MRp K F H' a o
  | .lst _, ⟨xs, h, r⟩ => ⟨xs, e _ h, r⟩
  | .ins _ _, ⟨dx, vs, h, r⟩ => ⟨dx, vs, e _ h, r⟩
  | .dK _, ⟨xs, h, r⟩ => ⟨xs, e _ h, r⟩
  | .dT _, ⟨xs, h, r⟩ => ⟨xs, e _ h, r⟩
  | .tbl _, ⟨ps, h, r⟩ => ⟨ps, e _ h, r⟩
  | .xd _ _, h => e _ h
  | .fn _, ⟨dV, pm, c, ctv, h1, h2, h3⟩ => ⟨dV, pm, c, ctv, e _ h1, h2, h3⟩
  | .one _, ⟨o, q, h1, h2, h3⟩ => ⟨o, q, e _ h1, h2, h3⟩
theorem SlotsOk.mono (e : Same F F') (h : SlotsOk K F s G) : SlotsOk K F' s G := ⟨h.1, fun i d q => by
  obtain ⟨v, h1, h2⟩ := h.2 i d q
  exact ⟨v, h1, h2.mono e⟩⟩
theorem SlotsOk.set {i : Nat} {v : V} {d : D} (h : SlotsOk K F s G) (r : Rp K F v d) : SlotsOk K F (s.set i (some v)) (G.set i (some d)) := by
  refine ⟨by simpa using h.1, fun j e q => ?_⟩
  by_cases hj : i = j
  · subst hj
    by_cases hi : i < G.length
    · rw [List.getElem?_set_self hi] at q
      cases q
      exact ⟨v, by rw [List.getElem?_set_self (by rw [← h.1]; exact hi)], r⟩
    · rw [List.getElem?_eq_none (by simpa using hi)] at q
      cases q
  · rw [List.getElem?_set_ne hj] at q ⊢
    exact h.2 j e q
theorem SlotsOk.setNone {i : Nat} {u : Option V} (h : SlotsOk K F s G) : SlotsOk K F (s.set i u) (G.set i none) := by
  refine ⟨by simpa using h.1, fun j e q => ?_⟩
  by_cases hj : i = j
  · subst hj
    by_cases hi : i < G.length
    · rw [List.getElem?_set_self hi] at q
      cases q
    · rw [List.getElem?_eq_none (by simpa using hi)] at q
      cases q
  · rw [List.getElem?_set_ne hj] at q ⊢
    exact h.2 j e q
/-- a new thing of the heap, nothing known of it -/
theorem MemOk.heap (e : Same H H') (h : MemOk K F H M) : MemOk K F H' M := fun a o q => ⟨(h a o q).1, (h a o q).2.heap fun u => e a u⟩
theorem Same.upd_new {p : Addr} {o : HO} (h : H p = none) : Same H (upd H p o) := fun b u q => by rw [upd_ne (ne_of_none q h)]; exact q
theorem R.heap (e : Same H H') (r : R B K F s H G M) : R B K F s H' G M := ⟨r.slots, r.ex.trans e, r.mem.heap e, r.bf, r.bk.trans (Kp.heap e)⟩
theorem R.freeF {p : Addr} (r : R B K F s H G M) (h : H p = none) : F p = none := r.ex.free h
theorem R.freeM {p : Addr} (r : R B K F s H G M) (h : H p = none) : M p = none := by
  cases q : M p with
  | none => rfl
  | some o =>
    obtain ⟨u, hu, _⟩ := (r.mem p o q).2.there
    rw [h] at hu; cases hu
/-- F may know more of the heap: what is no cell of M -/
theorem R.grow (e : Same F F') (e2 : Same F' H) (hm : ∀ a o, M a = some o → F' a = none) (r : R B K F s H G M) : R B K F' s H G M :=
  ⟨r.slots.mono e, e2, fun a o q => ⟨hm a o q, (r.mem a o q).2.mono e⟩, r.bf.trans e, r.bk⟩
/-- a new frozen thing at p -/
theorem R.new {p : Addr} {o : HO} (r : R B K F s H G M) (h : H p = none) : Same F (upd F p o) ∧ R B K (upd F p o) s (upd H p o) G M := by
  have e : Same F (upd F p o) := Same.upd_new (r.freeF h)
  have hp : M p = none := r.freeM h
  refine ⟨e, ?_⟩
  refine R.grow e (fun b u q => ?_) (fun a u q => ?_) (r.heap (Same.upd_new h))
  · by_cases hb : b = p
    · subst hb; rw [upd_same] at q ⊢; exact q
    · rw [upd_ne hb] at q ⊢; exact r.ex b u q
  · rw [upd_ne (mne q hp)]; exact (r.mem a u q).1
/-- a new cell at p -/
theorem R.newCell {p : Addr} {ho : HO} {o : MO} (r : R B K F s H G M) (h : H p = none) (k : MRp K F (upd H p ho) p o) : R B K F s (upd H p ho) G (mupd M p o) := by
  refine ⟨r.slots, r.ex.trans (Same.upd_new h), fun a u q => ?_, r.bf, r.bk.trans fun a u e m => ⟨Same.upd_new h a u e, by rw [mupd_ne (ne_of_none e h)]; exact m⟩⟩
  by_cases ha : a = p
  · subst ha; rw [mupd_same] at q; cases q; exact ⟨r.freeF h, k⟩
  · rw [mupd_ne ha] at q
    exact ⟨(r.mem a u q).1, (r.mem a u q).2.heap fun v e => by rw [upd_ne ha]; exact e⟩
/-- a cell is written -/
theorem R.write {p : Addr} {ho : HO} {o o' : MO} (r : R B K F s H G M) (h : M p = some o) (k : MRp K F (upd H p ho) p o') : R B K F s (upd H p ho) G (mupd M p o') := by
  have fp := (r.mem p o h).1
  refine ⟨r.slots, fun b u q => ?_, fun a u q => ?_, r.bf, r.bk.trans fun a u e m => ⟨by rw [upd_ne (fun z => by rw [z, h] at m; cases m)]; exact e, by rw [mupd_ne (fun z => by rw [z, h] at m; cases m)]; exact m⟩⟩
  · rw [upd_ne (ne_of_none q fp)]; exact r.ex b u q
  by_cases ha : a = p
  · subst ha; rw [mupd_same] at q; cases q; exact ⟨fp, k⟩
  · rw [mupd_ne ha] at q
    exact ⟨(r.mem a u q).1, (r.mem a u q).2.heap fun v e => by rw [upd_ne ha]; exact e⟩
/-- less is known of the cells -/
theorem R.less (r : R B K F s H G M) (h : ∀ a o, M' a = some o → M a = some o) : R B K F s H G M' := ⟨r.slots, r.ex, fun a o q => r.mem a o (h a o q), r.bf, r.bk.trans (Kp.less h)⟩
/-- a list cell is frozen -/
theorem R.freeze {p : Addr} {ds : List D} (r : R B K F s H G M) (h : M p = some (.lst ds)) : ∃ F', Same F F' ∧ R B K F' s H G (mdel M p) ∧ Rp K F' (.ref p) (.lst ds) := by
  obtain ⟨fp, xs, hx, rx⟩ := r.mem p _ h
  have e : Same F (upd F p (.lst xs)) := Same.upd_new fp
  refine ⟨upd F p (.lst xs), e, ?_, .lst upd_same (rx.mono e)⟩
  have r2 : R B K F s H G (mdel M p) := r.less fun a o q => by
    unfold mdel at q
    split at q
    · cases q
    · exact q
  refine R.grow e (fun b u q => ?_) (fun a u q => ?_) r2
  · by_cases hb : b = p
    · subst hb; rw [upd_same] at q; cases q; exact hx
    · rw [upd_ne hb] at q; exact r.ex b u q
  · unfold mdel at q
    split at q
    · cases q
    · rename_i hb
      rw [upd_ne hb]; exact (r.mem a u q).1
end
end FL

namespace FL
open PySem PySem.Spec PyProof.Rows L2

abbrev Sl := List (Option D)
/-! ### the weakest readings -/
section
variable {B : Bs} {X : Cx} {e : Expr}
def WE (X : Cx) (e : Expr) : TE := fun σ H Q => ∀ (pins : List (Addr × Obj)) (s : Shared), Inv X pins σ H s → wpAny (model X.prog X.w) X.A (eval e X.env) (EP X pins σ Q) X.xe s
theorem pe_we : PE X e (WE X e) := ⟨fun pins s _ _ _ I h => h pins s I⟩
theorem WE.of {t : TE} {σ : L2.St} {H : Hp} {Q : VK} (h : PE X e t) (q : t σ H Q) : WE X e σ H Q := fun pins s I => h.run pins s σ H Q I q
def WT (X : Cx) (e : Expr) : TT := fun σ H Q => ∀ (pins : List (Addr × Obj)) (s : Shared), Inv X pins σ H s → wpAny (model X.prog X.w) X.A (isTrue e X.env (eval e X.env)) (TP X pins σ Q) X.xe s
theorem pt_wt : PT X e (WT X e) := ⟨fun pins s _ _ _ I h => h pins s I⟩
theorem WT.of {t : TT} {σ : L2.St} {H : Hp} {Q : Bool → Hp → Prop} (h : PT X e t) (q : t σ H Q) : WT X e σ H Q := fun pins s I => h.run pins s σ H Q I q
def WW (X : Cx) (e : Expr) : TT := fun σ H Q => ∀ (whole : Sem Value) (pins : List (Addr × Obj)) (s : Shared), Inv X pins σ H s → wpAny (model X.prog X.w) X.A (isTrue e X.env whole) (TP X pins σ Q) X.xe s
theorem pw_ww : PW X e (WW X e) := ⟨fun wh pins s _ _ _ I h => h wh pins s I⟩
theorem WW.of {t : TT} {σ : L2.St} {H : Hp} {Q : Bool → Hp → Prop} (h : PW X e t) (q : t σ H Q) : WW X e σ H Q := fun wh pins s I => h.run wh pins s σ H Q I q
def WA (X : Cx) (es : List Expr) : TA := fun σ H Q => ∀ (pos : Pos) (pins : List (Addr × Obj)) (s : Shared), Inv X pins σ H s → wpAny (model X.prog X.w) X.A (spliced (backTo pos (starEach es X.env))) (AP X pins σ Q) X.xe s
theorem pa_wa {es : List Expr} : PA X es (WA X es) := ⟨fun pos pins s _ _ _ I h => h pos pins s I⟩
theorem WA.of {es : List Expr} {t : TA} {σ : L2.St} {H : Hp} {Q : List V → Hp → Prop} (h : PA X es t) (q : t σ H Q) : WA X es σ H Q := fun pos pins s I => h.run pos pins s σ H Q I q
def WO (X : Cx) (f : Value → Value → Sem Value) : R2 := fun x y H Q => ∀ (pins : List (Addr × Obj)) (s : Shared) (σ : L2.St) (v u : Value), Inv X pins σ H s → RelV x v → RelV y u → wpAny (model X.prog X.w) X.A (f v u) (EP X pins σ Q) X.xe s
theorem op_wo {f : Value → Value → Sem Value} : OpR X f (WO X f) := fun pins s σ _ _ _ v u _ I r1 r2 h => h pins s σ v u I r1 r2
theorem WO.of {f : Value → Value → Sem Value} {r : R2} {x y : V} {H : Hp} {Q : VK} (h : OpR X f r) (q : r x y H Q) : WO X f x y H Q := fun pins s σ v u I r1 r2 => h pins s σ H x y v u Q I r1 r2 q
def WU (X : Cx) (f : Value → Sem Value) : V → Hp → VK → Prop := fun x H Q => ∀ (pins : List (Addr × Obj)) (s : Shared) (σ : L2.St) (v : Value), Inv X pins σ H s → RelV x v → wpAny (model X.prog X.w) X.A (f v) (EP X pins σ Q) X.xe s
theorem un_wu {f : Value → Sem Value} : UnR X f (WU X f) := fun pins s σ _ _ v _ I r1 h => h pins s σ v I r1
theorem WU.of {f : Value → Sem Value} {r : V → Hp → VK → Prop} {x : V} {H : Hp} {Q : VK} (h : UnR X f r) (q : r x H Q) : WU X f x H Q := fun pins s σ v I r1 => h pins s σ H x v Q I r1 q
def WC (X : Cx) (f : Value) : List V → Hp → VK → Prop := fun xs H Q => ∀ (pins : List (Addr × Obj)) (s : Shared) (σ : L2.St) (us : List Value), Inv X pins σ H s → Vals xs us → wpAny (model X.prog X.w) X.A (call f us) (EP X pins σ Q) X.xe s
theorem call_wc {f : Value} : CallR X f (WC X f) := fun pins s σ _ _ us _ I r h => h pins s σ us I r
theorem WC.of {f : Value} {r : List V → Hp → VK → Prop} {xs : List V} {H : Hp} {Q : VK} (h : CallR X f r) (q : r xs H Q) : WC X f xs H Q := fun pins s σ us I rr => h pins s σ H xs us Q I rr q
def WI (X : Cx) : R2 := fun x y H Q => ∀ (value slice : Expr) (pins : List (Addr × Obj)) (s : Shared) (σ : L2.St) (v u : Value), Inv X pins σ H s → RelV x v → RelV y u →
  subscripted slice false v u = operate [v, u] (getItem v u) → wpAny (model X.prog X.w) X.A (subscriptTail value slice v u) (EP X pins σ Q) X.xe s
theorem ix_wi : IxR X (WI X) := fun a b pins s σ _ _ _ v u _ I r1 r2 h hs => h a b pins s σ v u I r1 r2 hs
theorem WI.of {r : R2} {x y : V} {H : Hp} {Q : VK} (h : IxR X r) (q : r x y H Q) : WI X x y H Q := fun a b pins s σ v u I r1 r2 hs => h a b pins s σ H x y v u Q I r1 r2 q hs
def WM (X : Cx) (id : String) : V → List V → Hp → VK → Prop := fun x xs H Q => ∀ (pins : List (Addr × Obj)) (s : Shared) (σ : L2.St) (v : Value) (us : List Value), Inv X pins σ H s → RelV x v → Vals xs us →
  wpAny (model X.prog X.w) X.A (call (.builtin id) (v :: us)) (EP X pins σ Q) X.xe s
theorem mt_wm {id : String} : MtR X id (WM X id) := fun pins s σ _ _ _ v us _ I r1 r2 h => h pins s σ v us I r1 r2
theorem WM.of {id : String} {r : V → List V → Hp → VK → Prop} {x : V} {xs : List V} {H : Hp} {Q : VK} (h : MtR X id r) (q : r x xs H Q) : WM X id x xs H Q := fun pins s σ v us I r1 r2 => h pins s σ H x xs v us Q I r1 r2 q
def WS (X : Cx) (st : Stmt) : TS := fun D σ H => ∀ (pins : List (Addr × Obj)) (s : Shared), Inv X pins σ H s → wpAny (model X.prog X.w) X.A (exec st X.env) (SP X pins D) X.xe s
theorem ps_ws {st : Stmt} : PS X st (WS X st) := ⟨fun pins s _ _ _ I h => h pins s I⟩
theorem WS.of {st : Stmt} {t : TS} {σ : L2.St} {H : Hp} {E : Ends} (h : PS X st t) (q : t E σ H) : WS X st E σ H := fun pins s I => h.run pins s σ H E I q
def WSs (X : Cx) (st : List Stmt) : TS := fun D σ H => ∀ (pins : List (Addr × Obj)) (s : Shared), Inv X pins σ H s → wpAny (model X.prog X.w) X.A (execs st X.env) (SP X pins D) X.xe s
theorem pss_wss {st : List Stmt} : PSs X st (WSs X st) := ⟨fun pins s _ _ _ I h => h pins s I⟩
theorem WSs.of {st : List Stmt} {t : TS} {σ : L2.St} {H : Hp} {E : Ends} (h : PSs X st t) (q : t E σ H) : WSs X st E σ H := fun pins s I => h.run pins s σ H E I q
def WG (X : Cx) (tg : Expr) : TG := fun v σ H Q => ∀ (pins : List (Addr × Obj)) (s : Shared) (u : Value), Inv X pins σ H s → RelV v u →
  wpAny (model X.prog X.w) X.A (assign tg X.env u) (fun _ s' => ∃ σ' H', Inv X pins σ' H' s' ∧ Q σ' H') X.xe s
theorem pg_wg {tg : Expr} : PG X tg (WG X tg) := ⟨fun pins s _ _ _ u _ I r h => h pins s u I r⟩
theorem WG.of {tg : Expr} {t : TG} {v : V} {σ : L2.St} {H : Hp} {Q : L2.St → Hp → Prop} (h : PG X tg t) (q : t v σ H Q) : WG X tg v σ H Q := fun pins s u I r => h.run pins s σ H v u Q I r q
end

/-! ### what is handed on -/
def KE (B : Bs) (X : Cx) (F : Hp) (σ : L2.St) (G : Sl) (Q : D → Mem → Prop) (Q' : VK) : Prop := ∀ v H' F' d M', Q d M' → Same F F' → R B X.K F' σ H' G M' → Rp X.K F' v d → Q' v H'
def KT (B : Bs) (X : Cx) (F : Hp) (σ : L2.St) (G : Sl) (Q : Bool → Mem → Prop) (Q' : Bool → Hp → Prop) : Prop := ∀ b H' F' M', Q b M' → Same F F' → R B X.K F' σ H' G M' → Q' b H'
def KA (B : Bs) (X : Cx) (F : Hp) (σ : L2.St) (G : Sl) (Q : List D → Mem → Prop) (Q' : List V → Hp → Prop) : Prop := ∀ vs H' F' ds M', Q ds M' → Same F F' → R B X.K F' σ H' G M' → RpAll X.K F' vs ds → Q' vs H'
def EX (B : Bs) (X : Cx) (e : Expr) (G : Sl) (M : Mem) (Q : D → Mem → Prop) : Prop := ∀ F σ H Q', R B X.K F σ H G M → KE B X F σ G Q Q' → WE X e σ H Q'
def TX (B : Bs) (X : Cx) (e : Expr) (G : Sl) (M : Mem) (Q : Bool → Mem → Prop) : Prop := ∀ F σ H Q', R B X.K F σ H G M → KT B X F σ G Q Q' → WT X e σ H Q'
def TW (B : Bs) (X : Cx) (e : Expr) (G : Sl) (M : Mem) (Q : Bool → Mem → Prop) : Prop := ∀ F σ H Q', R B X.K F σ H G M → KT B X F σ G Q Q' → WW X e σ H Q'
def AX (B : Bs) (X : Cx) (es : List Expr) (G : Sl) (M : Mem) (Q : List D → Mem → Prop) : Prop := ∀ F σ H Q', R B X.K F σ H G M → KA B X F σ G Q Q' → WA X es σ H Q'
def OX (B : Bs) (X : Cx) (f : Value → Value → Sem Value) (x y : D) (G : Sl) (M : Mem) (Q : D → Mem → Prop) : Prop := ∀ F σ H Q' v w, R B X.K F σ H G M → Rp X.K F v x → Rp X.K F w y → KE B X F σ G Q Q' → WO X f v w H Q'
def UX (B : Bs) (X : Cx) (f : Value → Sem Value) (x : D) (G : Sl) (M : Mem) (Q : D → Mem → Prop) : Prop := ∀ F σ H Q' v, R B X.K F σ H G M → Rp X.K F v x → KE B X F σ G Q Q' → WU X f v H Q'
def IX (B : Bs) (X : Cx) (x y : D) (G : Sl) (M : Mem) (Q : D → Mem → Prop) : Prop := ∀ F σ H Q' v w, R B X.K F σ H G M → Rp X.K F v x → Rp X.K F w y → KE B X F σ G Q Q' → WI X v w H Q'
def BX (B : Bs) (X : Cx) (f : Value) (xs : List D) (G : Sl) (M : Mem) (Q : D → Mem → Prop) : Prop := ∀ F σ H Q' vs, R B X.K F σ H G M → RpAll X.K F vs xs → KE B X F σ G Q Q' → WC X f vs H Q'
def MX (B : Bs) (X : Cx) (id : String) (x : D) (xs : List D) (G : Sl) (M : Mem) (Q : D → Mem → Prop) : Prop := ∀ F σ H Q' v vs, R B X.K F σ H G M → Rp X.K F v x → RpAll X.K F vs xs → KE B X F σ G Q Q' → WM X id v vs H Q'

section
variable {B : Bs} {X : Cx} {a b c e : Expr} {es : List Expr} {G : Sl} {M : Mem} {Q Q2 : D → Mem → Prop} {pos p pos' : Pos} {d : D} {F F1 : Hp} {σ : L2.St}
theorem KE.mono {Q' : VK} (e : Same F F1) (k : KE B X F σ G Q Q') : KE B X F1 σ G Q Q' := fun v H' F' d M' q s r rp => k v H' F' d M' q (e.trans s) r rp
theorem KT.mono {Q : Bool → Mem → Prop} {Q' : Bool → Hp → Prop} (e : Same F F1) (k : KT B X F σ G Q Q') : KT B X F1 σ G Q Q' := fun b H' F' M' q s r => k b H' F' M' q (e.trans s) r
theorem KA.mono {Q : List D → Mem → Prop} {Q' : List V → Hp → Prop} (e : Same F F1) (k : KA B X F σ G Q Q') : KA B X F1 σ G Q Q' := fun vs H' F' ds M' q s r rp => k vs H' F' ds M' q (e.trans s) r rp
theorem EX.imp (h : EX B X e G M Q) (k : ∀ d M', Q d M' → Q2 d M') : EX B X e G M Q2 := fun F σ H Q' r kk => h F σ H Q' r fun v H' F' d M' q => kk v H' F' d M' (k d M' q)
theorem TX.imp {Q Q2 : Bool → Mem → Prop} (h : TX B X e G M Q) (k : ∀ b M', Q b M' → Q2 b M') : TX B X e G M Q2 := fun F σ H Q' r kk => h F σ H Q' r fun b H' F' M' q => kk b H' F' M' (k b M' q)
/-- done at once, the state as it is -/
theorem KE.at {Q' : VK} {H : Hp} {v : V} (k : KE B X F σ G Q Q') (r : R B X.K F σ H G M) (q : Q d M) (rp : Rp X.K F v d) : Q' v H := k v H F d M q (Same.refl F) r rp
/-- .. with a new frozen thing -/
theorem KE.new {Q' : VK} {H : Hp} {p : Addr} {o : HO} (k : KE B X F σ G Q Q') (r : R B X.K F σ H G M) (hp : H p = none) (q : Q d M) (rp : Rp X.K (upd F p o) (.ref p) d) : Q' (.ref p) (upd H p o) :=
  k (.ref p) _ (upd F p o) d M q (r.new hp).1 (r.new hp).2 rp
theorem KE.cell {Q' : VK} {H : Hp} {p : Addr} {ho : HO} {o : MO} (k : KE B X F σ G Q Q') (r : R B X.K F σ H G M) (hp : H p = none) (q : Q (.ref p) (mupd M p o)) (m : MRp X.K F (upd H p ho) p o) : Q' (.ref p) (upd H p ho) :=
  k (.ref p) _ F (.ref p) _ q (Same.refl F) (r.newCell hp m) (.ref p)

/-! ### names, constants -/
/-- the i-th slot's name -/
structure At (X : Cx) (i : Nat) (x : Str) : Prop where
  n : X.N[i]? = some x
  v : Vis X.env.scope x
  d : (x == ("__debug__" : Str)) = false
  c : (x == ("__classdict__" : Str)) = false
theorem ex_var {i : Nat} {x : Str} (h : At X i x) (g : G[i]? = some (some d)) (q : Q d M) : EX B X (.Name x pos) G M Q := fun F σ H Q' r k => by
  obtain ⟨v, hv, rp⟩ := r.slots.2 i d g
  exact WE.of (pe_var h.n h.v h.d h.c) ⟨v, hv, k.at r q rp⟩
theorem ex_int {i : Int} {j} (q : Q (.int i) M) : EX B X (.Constant (.int i) j pos) G M Q := fun F σ H Q' r k => WE.of pe_int (k.at r q (.int i))
theorem ex_bl {b : Bool} {j} (q : Q (.bl b) M) : EX B X (.Constant (.bool b) j pos) G M Q := fun F σ H Q' r k => WE.of pe_bl (k.at r q (.bl b))
theorem ex_non {j} (q : Q .non M) : EX B X (.Constant .none j pos) G M Q := fun F σ H Q' r k => WE.of pe_non (k.at r q .non)
theorem ex_str {x : Str} {j} (q : Q (.str x) M) : EX B X (.Constant (.str x) j pos) G M Q := fun F σ H Q' r k => WE.of pe_str (k.at r q (.str x))
/-- a name of the module -/
structure Gb (X : Cx) (x : Str) (d : D) : Prop where
  g : Gl X x
  m : ∃ u v, X.mg x = some u ∧ RelV v u ∧ ∀ F, Rp X.K F v d
  d : (x == ("__debug__" : Str)) = false
theorem ex_glob {x : Str} (h : Gb X x d) (q : Q d M) : EX B X (.Name x pos) G M Q := fun F σ H Q' r k => by
  obtain ⟨u, v, hm, rv, rp⟩ := h.m
  exact WE.of (pe_glob h.g hm rv h.d) (k.at r q (rp F))

/-! ### operators -/
theorem ex_bin {op : Operator} (h : EX B X a G M fun x M1 => EX B X b G M1 fun y M2 => OX B X (binaryOp op) x y G M2 Q) : EX B X (.BinOp a op b pos) G M Q := fun F σ H Q' r k =>
  WE.of (pe_op op_wo pe_we pe_we) (h F σ H _ r fun v1 H1 F1 d1 M1 q1 s1 r1 p1 => q1 F1 σ H1 _ r1 fun v2 H2 F2 d2 M2 q2 s2 r2 p2 => q2 F2 σ H2 Q' v1 v2 r2 (p1.mono s2) p2 (k.mono (s1.trans s2)))
theorem ex_un {op : UnaryOp} (h : EX B X a G M fun x M1 => UX B X (unaryOp op) x G M1 Q) : EX B X (.UnaryOp op a pos) G M Q := fun F σ H Q' r k =>
  WE.of (pe_un un_wu pe_we) (h F σ H _ r fun v1 H1 F1 d1 M1 q1 s1 r1 p1 => q1 F1 σ H1 Q' v1 r1 p1 (k.mono s1))
theorem ex_cmp {op : CmpOp} (hm : behindInMarks op b = false) (h : EX B X a G M fun x M1 => EX B X b G M1 fun y M2 => OX B X (compareOp op) x y G M2 Q) : EX B X (.Compare a [op] [b] pos) G M Q := fun F σ H Q' r k =>
  WE.of (pe_cmpR op_wo pe_we pe_we hm) (h F σ H _ r fun v1 H1 F1 d1 M1 q1 s1 r1 p1 => q1 F1 σ H1 _ r1 fun v2 H2 F2 d2 M2 q2 s2 r2 p2 => q2 F2 σ H2 Q' v1 v2 r2 (p1.mono s2) p2 (k.mono (s1.trans s2)))
/-- what a value must be to be a test's answer -/
def AsB (Q : Bool → Mem → Prop) : D → Mem → Prop
  | .bl b, M => Q b M
  | _, _ => False
theorem KT.asB {Q : Bool → Mem → Prop} {Q' : Bool → Hp → Prop} (k : KT B X F σ G Q Q') : KE B X F σ G (AsB Q) (fun x H' => ∃ b, x = .bl b ∧ Q' b H') := fun v H' F' d M' q s r rp => by
  cases d with
  | bl b => cases rp; exact ⟨b, rfl, k b H' F' M' q s r⟩
  | _ => exact False.elim q
theorem tx_cmp {Q : Bool → Mem → Prop} {op : CmpOp} (hm : behindInMarks op b = false) (h : EX B X a G M fun x M1 => EX B X b G M1 fun y M2 => OX B X (compareOp op) x y G M2 (AsB Q)) : TX B X (.Compare a [op] [b] pos) G M Q := fun F σ H Q' r k =>
  WT.of (pt_cmpR op_wo pe_we pe_we hm) (h F σ H _ r fun v1 H1 F1 d1 M1 q1 s1 r1 p1 => q1 F1 σ H1 _ r1 fun v2 H2 F2 d2 M2 q2 s2 r2 p2 => q2 F2 σ H2 _ v1 v2 r2 (p1.mono s2) p2 (k.mono (s1.trans s2)).asB)
theorem tx_val {Q : Bool → Mem → Prop} (he : ∀ whole, isTrue e X.env whole = (do let v ← whole; standAt e.pos; holding [v] (truthy v))) (h : EX B X e G M (AsB Q)) : TX B X e G M Q := fun F σ H Q' r k =>
  WT.of (pt_val pe_we he) (h F σ H _ r k.asB)
theorem chain_k {Q' : VK} {op op' : CmpOp} {c : Expr} {H : Hp} {v1 v2 : V} {d1 d2 : D} (k : KE B X F σ G Q Q') (r : R B X.K F σ H G M) (p1 : Rp X.K F v1 d1) (p2 : Rp X.K F v2 d2)
    (q : OX B X (compareOp op) d1 d2 G M (AsB fun b M3 => if b = true then EX B X c G M3 fun w M4 => OX B X (compareOp op') d2 w G M4 Q else Q (.bl false) M3)) :
    WO X (compareOp op) v1 v2 H (fun z H3 => ∃ k, z = .bl k ∧ (if k = true then WE X c σ H3 (fun w' H4 => WO X (compareOp op') v2 w' H4 Q') else Q' (.bl false) H3)) := by
  refine q F σ H _ v1 v2 r p1 p2 fun z H3 F3 d3 M3 q3 s3 r3 p3 => ?_
  cases d3 with
  | bl b =>
    cases p3
    refine ⟨b, rfl, ?_⟩
    cases b with
    | true =>
      rw [if_pos rfl]
      have q3' : EX B X c G M3 fun w M4 => OX B X (compareOp op') d2 w G M4 Q := q3
      exact q3' F3 σ H3 _ r3 fun v4 H4 F4 d4 M4 q4 s4 r4 p4 => q4 F4 σ H4 Q' v2 v4 r4 (p2.mono (s3.trans s4)) p4 (k.mono (s3.trans s4))
    | false =>
      rw [if_neg Bool.false_ne_true]
      have q3' : Q (.bl false) M3 := q3
      exact (k.mono s3).at r3 q3' (.bl false)
  | _ => exact False.elim q3
theorem ex_chain {op op' : CmpOp} (hm : lastMarks [op, op'] [b, c] = false)
    (h : EX B X a G M fun x M1 => EX B X b G M1 fun y M2 => OX B X (compareOp op) x y G M2 (AsB fun t M3 => if t = true then EX B X c G M3 fun w M4 => OX B X (compareOp op') y w G M4 Q else Q (.bl false) M3)) :
    EX B X (.Compare a [op, op'] [b, c] pos) G M Q := fun F σ H Q' r k =>
  WE.of (pe_chain op_wo op_wo pe_we pe_we pe_we hm) (h F σ H _ r fun v1 H1 F1 d1 M1 q1 s1 r1 p1 => q1 F1 σ H1 _ r1 fun v2 H2 F2 d2 M2 q2 s2 r2 p2 => chain_k (k.mono (s1.trans s2)) r2 (p1.mono s2) p2 q2)
theorem tx_chain {Q : Bool → Mem → Prop} {op op' : CmpOp} (hm : lastMarks [op, op'] [b, c] = false)
    (h : EX B X a G M fun x M1 => EX B X b G M1 fun y M2 => OX B X (compareOp op) x y G M2 (AsB fun t M3 => if t = true then EX B X c G M3 fun w M4 => OX B X (compareOp op') y w G M4 (AsB Q) else Q false M3)) :
    TX B X (.Compare a [op, op'] [b, c] pos) G M Q := fun F σ H Q' r k =>
  WT.of (pt_chain op_wo op_wo pe_we pe_we pe_we hm) (h F σ H _ r fun v1 H1 F1 d1 M1 q1 s1 r1 p1 => q1 F1 σ H1 _ r1 fun v2 H2 F2 d2 M2 q2 s2 r2 p2 => chain_k (k.mono (s1.trans s2)).asB r2 (p1.mono s2) p2 q2)

/-! ### and, or, not -/
theorem ite_mono {c A B A' B' : Prop} [Decidable c] (h : if c then A else B) (h1 : A → A') (h2 : B → B') : if c then A' else B' := by
  by_cases e : c
  · rw [if_pos e] at h ⊢; exact h1 h
  · rw [if_neg e] at h ⊢; exact h2 h
theorem TW.tx {Q : Bool → Mem → Prop} (h : TW B X e G M Q) : TX B X e G M Q := fun F σ H Q' r k => WT.of pw_ww.pt (h F σ H Q' r k)
theorem tw_and1 {Q : Bool → Mem → Prop} (h : TX B X a G M Q) : TW B X (.BoolOp .And [a] pos) G M Q := fun F σ H Q' r k => WW.of (pw_and1 pt_wt) (h F σ H Q' r k)
theorem tw_or1 {Q : Bool → Mem → Prop} (h : TX B X a G M Q) : TW B X (.BoolOp .Or [a] pos) G M Q := fun F σ H Q' r k => WW.of (pw_or1 pt_wt) (h F σ H Q' r k)
theorem tw_and {Q : Bool → Mem → Prop} {rest : List Expr} (h : TX B X a G M fun c M1 => if c = true then TW B X (.BoolOp .And (b :: rest) pos) G M1 Q else Q false M1) : TW B X (.BoolOp .And (a :: b :: rest) pos) G M Q := fun F σ H Q' r k =>
  WW.of (pw_and pt_wt pw_ww) (h F σ H _ r fun c H1 F1 M1 q1 s1 r1 => ite_mono q1 (fun q => q F1 σ H1 Q' r1 (k.mono s1)) fun q => k false H1 F1 M1 q s1 r1)
theorem tw_or {Q : Bool → Mem → Prop} {rest : List Expr} (h : TX B X a G M fun c M1 => if c = true then Q true M1 else TW B X (.BoolOp .Or (b :: rest) pos) G M1 Q) : TW B X (.BoolOp .Or (a :: b :: rest) pos) G M Q := fun F σ H Q' r k =>
  WW.of (pw_or pt_wt pw_ww) (h F σ H _ r fun c H1 F1 M1 q1 s1 r1 => ite_mono q1 (fun q => k true H1 F1 M1 q s1 r1) fun q => q F1 σ H1 Q' r1 (k.mono s1))
theorem tx_not {Q : Bool → Mem → Prop} (h : TX B X a G M fun c M1 => Q (!c) M1) : TX B X (.UnaryOp .Not a pos) G M Q := fun F σ H Q' r k =>
  WT.of (pt_not pt_wt) (h F σ H _ r fun c H1 F1 M1 q1 s1 r1 => k (!c) H1 F1 M1 q1 s1 r1)
theorem asB_k {Q : Bool → Mem → Prop} {Q' : VK} (k : ∀ b H' F' M', Q b M' → Same F F' → R B X.K F' σ H' G M' → Q' (.bl b) H') : KE B X F σ G (AsB Q) Q' := fun v H' F' d M' q s r rp => by
  cases d with
  | bl b => cases rp; exact k b H' F' M' q s r
  | _ => exact False.elim q
theorem ex_one {op} (h : EX B X a G M Q) : EX B X (.BoolOp op [a] pos) G M Q := fun F σ H Q' r k => WE.of (pe_one pe_we) (h F σ H Q' r k)
theorem ex_and {rest : List Expr} (h : EX B X a G M (AsB fun c M1 => if c = true then EX B X (.BoolOp .And (b :: rest) pos) G M1 Q else Q (.bl false) M1)) : EX B X (.BoolOp .And (a :: b :: rest) pos) G M Q := fun F σ H Q' r k =>
  WE.of (pe_and pe_we pe_we) (h F σ H _ r (asB_k fun c H1 F1 M1 q1 s1 r1 => ⟨c, rfl, ite_mono q1 (fun q => q F1 σ H1 Q' r1 (k.mono s1)) fun q => (k.mono s1).at r1 q (.bl false)⟩))
theorem ex_or {rest : List Expr} (h : EX B X a G M (AsB fun c M1 => if c = true then Q (.bl true) M1 else EX B X (.BoolOp .Or (b :: rest) pos) G M1 Q)) : EX B X (.BoolOp .Or (a :: b :: rest) pos) G M Q := fun F σ H Q' r k =>
  WE.of (pe_or pe_we pe_we) (h F σ H _ r (asB_k fun c H1 F1 M1 q1 s1 r1 => ⟨c, rfl, ite_mono q1 (fun q => (k.mono s1).at r1 q (.bl true)) fun q => q F1 σ H1 Q' r1 (k.mono s1)⟩))
theorem ex_not (h : EX B X a G M (AsB fun c M1 => Q (.bl (!c)) M1)) : EX B X (.UnaryOp .Not a pos) G M Q := fun F σ H Q' r k =>
  WE.of (pe_not pe_we) (h F σ H _ r (asB_k fun c H1 F1 M1 q1 s1 r1 => ⟨c, rfl, (k.mono s1).at r1 q1 (.bl (!c))⟩))
theorem ex_if (h : TX B X c G M fun t M1 => if t = true then EX B X a G M1 Q else EX B X b G M1 Q) : EX B X (.IfExp c a b pos) G M Q := fun F σ H Q' r k =>
  WE.of (pe_ifExp pt_wt pe_we pe_we) (h F σ H _ r fun t H1 F1 M1 q1 s1 r1 => ite_mono q1 (fun q => q F1 σ H1 Q' r1 (k.mono s1)) fun q => q F1 σ H1 Q' r1 (k.mono s1))

/-! ### arguments, tuples, lists, subscripts -/
theorem ax_nil {Q : List D → Mem → Prop} (q : Q [] M) : AX B X [] G M Q := fun F σ H Q' r k => WA.of pa_nil (k [] H F [] M q (Same.refl F) r .nil)
theorem ax_cons {Q : List D → Mem → Prop} (hs : starEach (e :: es) X.env = (false, eval e X.env) :: starEach es X.env) (h : EX B X e G M fun x M1 => AX B X es G M1 fun xs M2 => Q (x :: xs) M2) : AX B X (e :: es) G M Q := fun F σ H Q' r k =>
  WA.of (pa_cons pe_we pa_wa hs) (h F σ H _ r fun v1 H1 F1 d1 M1 q1 s1 r1 p1 => q1 F1 σ H1 _ r1 fun vs H2 F2 ds M2 q2 s2 r2 p2 => k _ H2 F2 _ M2 q2 (s1.trans s2) r2 (.cons (p1.mono s2) p2))
theorem sq_upd {K : PySem.W.Frag} {F : Hp} {p : Addr} {xs : List V} : SqT K (upd F p (.tup xs)) p xs := .inl (.inl upd_same)
theorem sl_upd {K : PySem.W.Frag} {F : Hp} {p : Addr} {xs : List V} : SqL K (upd F p (.lst xs)) p xs := .inl (.inl upd_same)
theorem ex_tup {x1} (h : AX B X es G M fun xs M1 => xs.length ≤ sizeLine ∧ Q (.tup xs) M1) : EX B X (.Tuple es x1 pos) G M Q := fun F σ H Q' r k =>
  WE.of (pe_tup pa_wa) (h F σ H _ r fun vs H1 F1 ds M1 q1 s1 r1 p1 => ⟨by rw [p1.length]; exact q1.1, fun p hp => (k.mono s1).new r1 hp q1.2 (.tup sq_upd (p1.mono (r1.new hp).1))⟩)
theorem ex_lst (h : AX B X es G M fun xs M1 => xs.length ≤ sizeLine ∧ Q (.lst xs) M1) : EX B X (.List es pos) G M Q := fun F σ H Q' r k =>
  WE.of (pe_lst pa_wa) (h F σ H _ r fun vs H1 F1 ds M1 q1 s1 r1 p1 => ⟨by rw [p1.length]; exact q1.1, fun p hp => (k.mono s1).new r1 hp q1.2 (.lst upd_same (p1.mono (r1.new hp).1))⟩)
/-- a list that will be changed: a cell -/
theorem ex_lstM (h : AX B X es G M fun xs M1 => xs.length ≤ sizeLine ∧ ∀ p, M1 p = none → Q (.ref p) (mupd M1 p (.lst xs))) : EX B X (.List es pos) G M Q := fun F σ H Q' r k =>
  WE.of (pe_lst pa_wa) (h F σ H _ r fun vs H1 F1 ds M1 q1 s1 r1 p1 => ⟨by rw [p1.length]; exact q1.1, fun p hp => (k.mono s1).cell r1 hp (q1.2 p (r1.freeM hp)) ⟨vs, upd_same, p1⟩⟩)
theorem ex_sub (hs : PlainIx b) (h : EX B X a G M fun x M1 => EX B X b G M1 fun y M2 => IX B X x y G M2 Q) : EX B X (.Subscript a b pos) G M Q := fun F σ H Q' r k =>
  WE.of (pe_ix ix_wi pe_we pe_we hs) (h F σ H _ r fun v1 H1 F1 d1 M1 q1 s1 r1 p1 => q1 F1 σ H1 _ r1 fun v2 H2 F2 d2 M2 q2 s2 r2 p2 => q2 F2 σ H2 Q' v1 v2 r2 (p1.mono s2) p2 (k.mono (s1.trans s2)))
end

/-! ### by values -/
section
variable {B : Bs} {X : Cx} {G : Sl} {M : Mem} {Q : D → Mem → Prop} {i j : Int} {x y : Str}
theorem atI_rp {K : PySem.W.Frag} {F : Hp} {vs : List V} {ds : List D} {i : Int} {d : D} (r : RpAll K F vs ds) (h : atI ds i = some d) : ∃ v, atI vs i = some v ∧ Rp K F v d := by
  unfold atI at h ⊢
  rw [r.length]
  cases e : ixN ds.length i with
  | none => rw [e] at h; cases h
  | some k =>
    rw [e] at h
    exact r.get (i := k) h
theorem ix_t {ds : List D} {d : D} (h : atI ds i = some d) (q : Q d M) : IX B X (.tup ds) (.int i) G M Q := fun F σ H Q' v w r p1 p2 k => by
  cases p2
  cases p1 with
  | @tup a xs _ hs rs =>
    obtain ⟨u, hu, ru⟩ := atI_rp rs h
    exact WI.of ix_tup ⟨a, xs, i, u, rfl, rfl, sq_same r.ex hs, hu, k.at r q ru⟩
theorem ix_l {ds : List D} {d : D} (h : atI ds i = some d) (q : Q d M) : IX B X (.lst ds) (.int i) G M Q := fun F σ H Q' v w r p1 p2 k => by
  cases p2
  cases p1 with
  | @lst a xs _ hs rs =>
    obtain ⟨u, hu, ru⟩ := atI_rp rs h
    exact WI.of ix_list ⟨a, xs, i, u, rfl, rfl, SqL.of (r.ex _ _ hs), hu, k.at r q ru⟩
theorem ix_f {ds : List D} {d : D} (h : atI ds i = some d) (q : Q d M) : IX B X (.fzl ds) (.int i) G M Q := fun F σ H Q' v w r p1 p2 k => by
  cases p2
  cases p1 with
  | @fzl a xs _ hs rs =>
    obtain ⟨u, hu, ru⟩ := atI_rp rs h
    exact WI.of ix_list ⟨a, xs, i, u, rfl, rfl, r.ex.seq hs, hu, k.at r q ru⟩
/-- a cell's item -/
theorem ix_c {a : Addr} {ds : List D} {d : D} (hm : M a = some (.lst ds)) (h : atI ds i = some d) (q : Q d M) : IX B X (.ref a) (.int i) G M Q := fun F σ H Q' v w r p1 p2 k => by
  cases p2; cases p1
  obtain ⟨_, xs, hx, rs⟩ := r.mem a _ hm
  obtain ⟨u, hu, ru⟩ := atI_rp rs h
  exact WI.of ix_list ⟨a, xs, i, u, rfl, rfl, .inl (.inl hx), hu, k.at r q ru⟩
theorem ix_s {c : Nat} (hl : x.length ≤ sizeLine) (h : atI x.cps.toList i = some c) (q : Q (.str ⟨#[c]⟩) M) : IX B X (.str x) (.int i) G M Q := fun F σ H Q' v w r p1 p2 k => by
  cases p2; cases p1
  exact WI.of ix_str ⟨x, i, c, rfl, rfl, hl, h, k.at r q (.str _)⟩
theorem ox_add (q : Q (.int (i + j)) M) : OX B X (binaryOp .Add) (.int i) (.int j) G M Q := fun F σ H Q' v w r p1 p2 k => by
  cases p1; cases p2; exact WO.of op_add ⟨i, j, rfl, rfl, k.at r q (.int _)⟩
theorem ox_sub (q : Q (.int (i - j)) M) : OX B X (binaryOp .Sub) (.int i) (.int j) G M Q := fun F σ H Q' v w r p1 p2 k => by
  cases p1; cases p2; exact WO.of op_sub ⟨i, j, rfl, rfl, k.at r q (.int _)⟩
theorem ox_mul (h : CMul i j) (q : Q (.int (i * j)) M) : OX B X (binaryOp .Mult) (.int i) (.int j) G M Q := fun F σ H Q' v w r p1 p2 k => by
  cases p1; cases p2; exact WO.of op_mul ⟨i, j, rfl, rfl, h, k.at r q (.int _)⟩
theorem ox_fdiv (h : CDiv i j) (q : Q (.int (i / j)) M) : OX B X (binaryOp .FloorDiv) (.int i) (.int j) G M Q := fun F σ H Q' v w r p1 p2 k => by
  cases p1; cases p2; exact WO.of op_fdiv ⟨i, j, rfl, rfl, h, k.at r q (.int _)⟩
theorem ox_mod (h : 0 < j) (q : Q (.int (i % j)) M) : OX B X (binaryOp .Mod) (.int i) (.int j) G M Q := fun F σ H Q' v w r p1 p2 k => by
  cases p1; cases p2; exact WO.of op_mod ⟨i, j, rfl, rfl, h, k.at r q (.int _)⟩
theorem ox_addS (h : x.length + y.length ≤ sizeLine) (q : Q (.str (x ++ y)) M) : OX B X (binaryOp .Add) (.str x) (.str y) G M Q := fun F σ H Q' v w r p1 p2 k => by
  cases p1; cases p2; exact WO.of op_add_str ⟨x, y, rfl, rfl, h, k.at r q (.str _)⟩
theorem ox_lt (q : Q (.bl (decide (i < j))) M) : OX B X (compareOp .Lt) (.int i) (.int j) G M Q := fun F σ H Q' v w r p1 p2 k => by
  cases p1; cases p2; exact WO.of op_lt ⟨i, j, rfl, rfl, k.at r q (.bl _)⟩
theorem ox_le (q : Q (.bl (decide (i ≤ j))) M) : OX B X (compareOp .LtE) (.int i) (.int j) G M Q := fun F σ H Q' v w r p1 p2 k => by
  cases p1; cases p2; exact WO.of op_le ⟨i, j, rfl, rfl, k.at r q (.bl _)⟩
theorem ox_gt (q : Q (.bl (decide (j < i))) M) : OX B X (compareOp .Gt) (.int i) (.int j) G M Q := fun F σ H Q' v w r p1 p2 k => by
  cases p1; cases p2; exact WO.of op_gt ⟨i, j, rfl, rfl, k.at r q (.bl _)⟩
theorem ox_ge (q : Q (.bl (decide (j ≤ i))) M) : OX B X (compareOp .GtE) (.int i) (.int j) G M Q := fun F σ H Q' v w r p1 p2 k => by
  cases p1; cases p2; exact WO.of op_ge ⟨i, j, rfl, rfl, k.at r q (.bl _)⟩
theorem dec_of {p q : Prop} [Decidable p] [Decidable q] (h : p ↔ q) : decide p = decide q := by
  by_cases hp : p
  · rw [decide_eq_true hp, decide_eq_true (h.mp hp)]
  · rw [decide_eq_false hp, decide_eq_false fun z => hp (h.mpr z)]
theorem ox_eqI (q : Q (.bl (decide (i = j))) M) : OX B X (compareOp .Eq) (.int i) (.int j) G M Q := fun F σ H Q' v w r p1 p2 k => by
  cases p1; cases p2; exact WO.of op_eq ⟨rfl, by rw [dec_of (⟨fun e => V.int.inj e, fun e => congrArg V.int e⟩ : V.int i = V.int j ↔ i = j)]; exact k.at r q (.bl _)⟩
theorem ox_neI (q : Q (.bl (!decide (i = j))) M) : OX B X (compareOp .NotEq) (.int i) (.int j) G M Q := fun F σ H Q' v w r p1 p2 k => by
  cases p1; cases p2; exact WO.of op_ne ⟨rfl, by rw [dec_of (⟨fun e => V.int.inj e, fun e => congrArg V.int e⟩ : V.int i = V.int j ↔ i = j)]; exact k.at r q (.bl _)⟩
theorem ox_eqS (q : Q (.bl (decide (x = y))) M) : OX B X (compareOp .Eq) (.str x) (.str y) G M Q := fun F σ H Q' v w r p1 p2 k => by
  cases p1; cases p2; exact WO.of op_eq ⟨rfl, by rw [dec_of (⟨fun e => V.str.inj e, fun e => congrArg V.str e⟩ : V.str x = V.str y ↔ x = y)]; exact k.at r q (.bl _)⟩
theorem ox_neS (q : Q (.bl (!decide (x = y))) M) : OX B X (compareOp .NotEq) (.str x) (.str y) G M Q := fun F σ H Q' v w r p1 p2 k => by
  cases p1; cases p2; exact WO.of op_ne ⟨rfl, by rw [dec_of (⟨fun e => V.str.inj e, fun e => congrArg V.str e⟩ : V.str x = V.str y ↔ x = y)]; exact k.at r q (.bl _)⟩
theorem ox_eqB {x y : Bool} (q : Q (.bl (decide (x = y))) M) : OX B X (compareOp .Eq) (.bl x) (.bl y) G M Q := fun F σ H Q' v w r p1 p2 k => by
  cases p1; cases p2; exact WO.of op_eq ⟨rfl, by rw [dec_of (⟨fun e => V.bl.inj e, fun e => congrArg V.bl e⟩ : V.bl x = V.bl y ↔ x = y)]; exact k.at r q (.bl _)⟩
theorem ox_neB {x y : Bool} (q : Q (.bl (!decide (x = y))) M) : OX B X (compareOp .NotEq) (.bl x) (.bl y) G M Q := fun F σ H Q' v w r p1 p2 k => by
  cases p1; cases p2; exact WO.of op_ne ⟨rfl, by rw [dec_of (⟨fun e => V.bl.inj e, fun e => congrArg V.bl e⟩ : V.bl x = V.bl y ↔ x = y)]; exact k.at r q (.bl _)⟩
/-- is None -/
def D.isN : D → Bool
  | .non => true
  | _ => false
theorem Rp.isN {K : PySem.W.Frag} {F : Hp} {v : V} {d : D} (r : Rp K F v d) : decide (v = .non) = d.isN := by
  cases r <;> first | rfl | exact decide_eq_false (fun e => nomatch e)
theorem ox_is {d : D} (q : Q (.bl d.isN) M) : OX B X (compareOp .Is) d .non G M Q := fun F σ H Q' v w r p1 p2 k => by
  cases p2; exact WO.of op_isN ⟨rfl, by rw [p1.isN]; exact k.at r q (.bl _)⟩
theorem ox_isnot {d : D} (q : Q (.bl (!d.isN)) M) : OX B X (compareOp .IsNot) d .non G M Q := fun F σ H Q' v w r p1 p2 k => by
  cases p2; exact WO.of op_notN ⟨rfl, by rw [p1.isN]; exact k.at r q (.bl _)⟩
end
end FL

namespace FL
open PySem PySem.Spec PyProof.Rows L2

structure En where
  nx : Sl → Mem → Prop
  rt : D → Mem → Prop
  bk : Sl → Mem → Prop := fun _ _ => False
  ct : Sl → Mem → Prop := fun _ _ => False
/-- then n -/
abbrev En.sq (E : En) (n : Sl → Mem → Prop) : En := ⟨n, E.rt, E.bk, E.ct⟩
/-- a loop's turn, then n -/
abbrev En.lp (E : En) (n : Sl → Mem → Prop) : En := ⟨n, E.rt, E.nx, n⟩
/-- a def's own ends -/
abbrev En.df (Q : D → Mem → Prop) : En := ⟨fun _ M' => Q .non M', Q, fun _ _ => False, fun _ _ => False⟩
def KN (B : Bs) (X : Cx) (F : Hp) (n : Sl → Mem → Prop) (n' : L2.St → Hp → Prop) : Prop := ∀ σ' H' F' G' M', n G' M' → Same F F' → R B X.K F' σ' H' G' M' → n' σ' H'
def KR (B : Bs) (X : Cx) (F : Hp) (q : D → Mem → Prop) (q' : VK) : Prop := ∀ v H' F' d M', q d M' → Same F F' → (∃ σ' G', R B X.K F' σ' H' G' M') → Rp X.K F' v d → q' v H'
structure KS (B : Bs) (X : Cx) (F : Hp) (E : En) (D' : Ends) : Prop where
  nx : KN B X F E.nx D'.nx
  rt : KR B X F E.rt D'.rt
  bk : KN B X F E.bk D'.bk
  ct : KN B X F E.ct D'.ct
def SX (B : Bs) (X : Cx) (st : Stmt) (E : En) (G : Sl) (M : Mem) : Prop := ∀ F σ H D', R B X.K F σ H G M → KS B X F E D' → WS X st D' σ H
def SXs (B : Bs) (X : Cx) (st : List Stmt) (E : En) (G : Sl) (M : Mem) : Prop := ∀ F σ H D', R B X.K F σ H G M → KS B X F E D' → WSs X st D' σ H
def GX (B : Bs) (X : Cx) (tg : Expr) (d : D) (G : Sl) (M : Mem) (Q : Sl → Mem → Prop) : Prop := ∀ F σ H Q' v, R B X.K F σ H G M → Rp X.K F v d → KN B X F Q Q' → WG X tg v σ H Q'
def WGs (X : Cx) (ts : List Expr) : TGs := fun vs σ H Q => ∀ (pins : List (Addr × Obj)) (s : Shared) (us : List Value), Inv X pins σ H s → Vals vs us →
  wpAny (model X.prog X.w) X.A (assignInOrder ((assignEach ts X.env).map (·.2)) us) (fun _ s' => ∃ σ' H', Inv X pins σ' H' s' ∧ Q σ' H') X.xe s
theorem pgs_wgs {X : Cx} {ts : List Expr} : PGs X ts (WGs X ts) := ⟨fun pins s _ _ _ us _ I r h => h pins s us I r⟩
theorem WGs.of {X : Cx} {ts : List Expr} {t : TGs} {vs : List V} {σ : L2.St} {H : Hp} {Q : L2.St → Hp → Prop} (h : PGs X ts t) (q : t vs σ H Q) : WGs X ts vs σ H Q := fun pins s us I r => h.run pins s σ H vs us Q I r q
def GXs (B : Bs) (X : Cx) (ts : List Expr) (ds : List D) (G : Sl) (M : Mem) (Q : Sl → Mem → Prop) : Prop := ∀ F σ H Q' vs, R B X.K F σ H G M → RpAll X.K F vs ds → KN B X F Q Q' → WGs X ts vs σ H Q'

section
variable {B : Bs} {X : Cx} {a b c e o tg : Expr} {es : List Expr} {G G' : Sl} {M M' : Mem} {Q Q2 : D → Mem → Prop} {E : En} {pos p pos' : Pos} {d : D} {F F1 : Hp} {σ : L2.St} {st : Stmt} {sts rest : List Stmt}
theorem KN.mono {n : Sl → Mem → Prop} {n' : L2.St → Hp → Prop} (e : Same F F1) (k : KN B X F n n') : KN B X F1 n n' := fun σ' H' F' G' M' q s r => k σ' H' F' G' M' q (e.trans s) r
theorem KR.mono {q : D → Mem → Prop} {q' : VK} (e : Same F F1) (k : KR B X F q q') : KR B X F1 q q' := fun v H' F' d M' h s => k v H' F' d M' h (e.trans s)
theorem KS.mono {D' : Ends} (e : Same F F1) (k : KS B X F E D') : KS B X F1 E D' := ⟨k.nx.mono e, k.rt.mono e, k.bk.mono e, k.ct.mono e⟩
theorem SXs.imp {E2 : En} (h : SXs B X sts E G M) (h1 : ∀ G M, E.nx G M → E2.nx G M) (h2 : ∀ d M, E.rt d M → E2.rt d M) (h3 : ∀ G M, E.bk G M → E2.bk G M) (h4 : ∀ G M, E.ct G M → E2.ct G M) : SXs B X sts E2 G M := fun F σ H D' r k =>
  h F σ H D' r ⟨fun _ _ _ _ _ q => k.nx _ _ _ _ _ (h1 _ _ q), fun _ _ _ _ _ q => k.rt _ _ _ _ _ (h2 _ _ q), fun _ _ _ _ _ q => k.bk _ _ _ _ _ (h3 _ _ q), fun _ _ _ _ _ q => k.ct _ _ _ _ _ (h4 _ _ q)⟩

/-! ### blocks -/
theorem sxs_nil (q : E.nx G M) : SXs B X [] E G M := fun F σ H D' r k => WSs.of pss_nil (k.nx σ H F G M q (Same.refl F) r)
theorem sxs_cons (h : SX B X st (E.sq (SXs B X rest E)) G M) : SXs B X (st :: rest) E G M := fun F σ H D' r k =>
  WSs.of (pss_cons ps_ws pss_wss) (h F σ H _ r ⟨fun σ1 H1 F1 G1 M1 q1 s1 r1 => q1 F1 σ1 H1 D' r1 (k.mono s1), k.rt, k.bk, k.ct⟩)
theorem sxs_one (h : SX B X st E G M) : SXs B X [st] E G M := fun F σ H D' r k => WSs.of (pss_one ps_ws) (h F σ H D' r k)
/-- less is known of the cells -/
theorem sxs_less (h : ∀ a o, M' a = some o → M a = some o) (q : SXs B X sts E G M') : SXs B X sts E G M := fun F σ H D' r k => q F σ H D' (r.less h) k
theorem ex_less (h : EX B X e G M fun d M1 => ∃ M2 : Mem, (∀ a o, M2 a = some o → M1 a = some o) ∧ Q d M2) : EX B X e G M Q := fun F σ H Q' r k =>
  h F σ H Q' r fun v H1 F1 d1 M1 ⟨M2, hl, q⟩ s1 r1 p1 => k v H1 F1 d1 M2 q s1 (r1.less hl) p1
/-- a list cell that is handed on frozen -/
theorem ex_freeze (h : EX B X e G M fun d M1 => ∃ p ds, d = .ref p ∧ M1 p = some (.lst ds) ∧ Q (.lst ds) (mdel M1 p)) : EX B X e G M Q := fun F σ H Q' r k =>
  h F σ H Q' r fun v H1 F1 d1 M1 ⟨p, ds, e, hm, q⟩ s1 r1 p1 => by
    subst e; cases p1
    obtain ⟨F2, s2, r2, p2⟩ := r1.freeze hm
    exact k _ H1 F2 _ _ q (s1.trans s2) r2 p2
/-- a slot's list cell is frozen -/
theorem sxs_freeze {i : Nat} {p : Addr} {ds : List D} (hG : G[i]? = some (some (.ref p))) (hM : M p = some (.lst ds)) (h : SXs B X sts E (G.set i (some (.lst ds))) (mdel M p)) : SXs B X sts E G M := fun F σ H D' r k => by
  obtain ⟨F2, s2, r2, p2⟩ := r.freeze hM
  refine h F2 σ H D' ⟨?_, r2.ex, r2.mem, r2.bf, r2.bk⟩ (k.mono s2)
  obtain ⟨v, hv, pv⟩ := r2.slots.2 i _ hG
  cases pv
  have z := r2.slots.set (i := i) p2
  have e : σ.set i (some (.ref p)) = σ := by
    apply List.ext_getElem?
    intro j
    by_cases hj : i = j
    · subst hj
      rw [List.getElem?_set_self (List.getElem?_eq_some_iff.mp hv).1, hv]
    · rw [List.getElem?_set_ne hj]
  rw [e] at z
  exact z

/-! ### small statements -/
theorem sx_pass (q : E.nx G M) : SX B X (.Pass pos) E G M := fun F σ H D' r k => WS.of ps_pass (k.nx σ H F G M q (Same.refl F) r)
theorem sx_break (q : E.bk G M) : SX B X (.Break pos) E G M := fun F σ H D' r k => WS.of ps_break (k.bk σ H F G M q (Same.refl F) r)
theorem sx_continue (q : E.ct G M) : SX B X (.Continue pos) E G M := fun F σ H D' r k => WS.of ps_continue (k.ct σ H F G M q (Same.refl F) r)
theorem sx_expr (hs : swapsWith e none pos.line X.env = pure false) (h : EX B X e G M fun _ M1 => E.nx G M1) : SX B X (.Expr e pos) E G M := fun F σ H D' r k =>
  WS.of (ps_expr pe_we hs) (h F σ H _ r fun v H1 F1 d1 M1 q1 s1 r1 p1 => k.nx σ H1 F1 G M1 q1 s1 r1)
theorem sx_ret (h : EX B X e G M E.rt) : SX B X (.Return (some e) pos) E G M := fun F σ H D' r k =>
  WS.of (ps_ret pe_we) (h F σ H _ r fun v H1 F1 d1 M1 q1 s1 r1 p1 => k.rt v H1 F1 d1 M1 q1 s1 ⟨_, _, r1⟩ p1)
theorem sx_retN (q : E.rt .non M) : SX B X (.Return none pos) E G M := fun F σ H D' r k => WS.of ps_retN (k.rt .non H F .non M q (Same.refl F) ⟨_, _, r⟩ .non)
theorem sx_if {A1 B1 : List Stmt} (h : TX B X c G M fun t M1 => if t = true then SXs B X A1 E G M1 else SXs B X B1 E G M1) : SX B X (.If c A1 B1 pos) E G M := fun F σ H D' r k =>
  WS.of (ps_if pt_wt pss_wss pss_wss) (h F σ H _ r fun t H1 F1 M1 q1 s1 r1 => ite_mono q1 (fun q => q F1 σ H1 D' r1 (k.mono s1)) fun q => q F1 σ H1 D' r1 (k.mono s1))

/-! ### targets -/
/-- a name to which is stored -/
structure Lc (X : Cx) (i : Nat) (x : Str) : Prop where
  nd : X.N.Nodup
  n : X.N[i]? = some x
  l : Loc X.env.scope x
  f : X.fn x = true ∨ X.env.scope.names.lookup x = some .local
theorem R.set {K : PySem.W.Frag} {H : Hp} {i : Nat} {v : V} (r : R B K F σ H G M) (p : Rp K F v d) : R B K F (σ.set i (some v)) H (G.set i (some d)) M := ⟨r.slots.set p, r.ex, r.mem, r.bf, r.bk⟩
theorem gx_name {i : Nat} {x : Str} {Q : Sl → Mem → Prop} (h : Lc X i x) (q : Q (G.set i (some d)) M) : GX B X (.Name x pos) d G M Q := fun F σ H Q' v r p k =>
  WG.of (pg_name h.nd h.n h.l h.f) (k _ H F _ M q (Same.refl F) (r.set p))
theorem gxs_nil {Q : Sl → Mem → Prop} (q : Q G M) : GXs B X [] [] G M Q := fun F σ H Q' vs r p k => by
  cases p
  exact WGs.of pgs_nil ⟨rfl, k σ H F G M q (Same.refl F) r⟩
theorem gxs_cons {Q : Sl → Mem → Prop} {t : Expr} {ts : List Expr} {ds : List D} (hs : (assignEach (t :: ts) X.env).map (·.2) = assign t X.env :: (assignEach ts X.env).map (·.2))
    (h : GX B X t d G M fun G1 M1 => GXs B X ts ds G1 M1 Q) : GXs B X (t :: ts) (d :: ds) G M Q := fun F σ H Q' vs r p k => by
  cases p with
  | cons p1 p2 => exact WGs.of (pgs_cons pg_wg pgs_wgs hs) ⟨_, _, rfl, h F σ H _ _ r p1 fun σ1 H1 F1 G1 M1 q1 s1 r1 => q1 F1 σ1 H1 Q' _ r1 (p2.mono s1) (k.mono s1)⟩
theorem gx_tup {Q : Sl → Mem → Prop} {ts : List Expr} {kk : Nat} {ds : List D} {n : Nat} (hc : X.calm = true) (hl : ds.length = n) (hn : (assignEach ts X.env).length = n) (hst : (assignEach ts X.env).findIdx? (·.1) = none)
    (h : GXs B X ts ds G M Q) : GX B X (.Tuple ts kk pos) (.tup ds) G M Q := fun F σ H Q' v r p k => by
  cases p with
  | @tup a xs _ hq ra => exact WG.of (pg_tup hc pgs_wgs hn hst) ⟨a, xs, rfl, sq_same r.ex hq, by rw [ra.length, hl], h F σ H Q' xs r ra k⟩
theorem sx_asg (hs : swapsWithSole [tg] e pos.line X.env = pure false) (hw : swappedStores [tg] e X.env = pure none) (h1 : (assignEach [tg] X.env).map (·.2) = [assign tg X.env])
    (h : EX B X e G M fun d M1 => GX B X tg d G M1 E.nx) : SX B X (.Assign [tg] e pos) E G M := fun F σ H D' r k =>
  WS.of (ps_asg pe_we pg_wg hs hw h1) (h F σ H _ r fun v H1 F1 d1 M1 q1 s1 r1 p1 => q1 F1 σ H1 _ v r1 p1 (k.nx.mono s1))
theorem sx_set {i : Nat} {x : Str} (h : Lc X i x) (hs : swapsWith e (some (.Name x pos')) pos.line X.env = pure false) (q : EX B X e G M fun d M1 => E.nx (G.set i (some d)) M1) : SX B X (.Assign [.Name x pos'] e pos) E G M := fun F σ H D' r k =>
  WS.of (ps_set h.nd h.n h.l pe_we hs h.f) (q F σ H _ r fun v H1 F1 d1 M1 q1 s1 r1 p1 => k.nx _ H1 F1 _ M1 q1 s1 (r1.set p1))
/-- a, b = x, y with plain local names -/
theorem sx_par {i j : Nat} {x y : Str} {px py pt : Pos} {kt k2 pt2} (hc : X.calm = true) (hN : X.N.Nodup) (hi : X.N[i]? = some x) (hj : X.N[j]? = some y) (hij : i ≠ j) (hx : X.env.scope.names.lookup x = some .local) (hy : X.env.scope.names.lookup y = some .local)
    (hw : swappedStores [.Tuple [.Name x px, .Name y py] kt pt] (.Tuple [a, b] k2 pt2) X.env = pure (some [x, y])) (hs : swapsWithSole [.Tuple [.Name x px, .Name y py] kt pt] (.Tuple [a, b] k2 pt2) pos.line X.env = pure false)
    (ha : starEach [a, b] X.env = (false, eval a X.env) :: starEach [b] X.env) (hb : starEach [b] X.env = (false, eval b X.env) :: starEach [] X.env)
    (h : EX B X a G M fun d1 M1 => EX B X b G M1 fun d2 M2 => E.nx ((G.set i (some d1)).set j (some d2)) M2) : SX B X (.Assign [.Tuple [.Name x px, .Name y py] kt pt] (.Tuple [a, b] k2 pt2) pos) E G M := fun F σ H D' r k =>
  WS.of (ps_par hc hN hi hj hij hx hy (pa_cons pe_we (pa_cons pe_we pa_nil hb) ha) hw hs) (h F σ H _ r fun v1 H1 F1 d1 M1 q1 s1 r1 p1 => q1 F1 σ H1 _ r1 fun v2 H2 F2 d2 M2 q2 s2 r2 p2 =>
    ⟨v1, v2, rfl, k.nx _ H2 F2 _ M2 q2 (s1.trans s2) ((r2.set (p1.mono s2)).set p2)⟩)
/-- a cell's item is stored -/
theorem gx_sub {Q : Sl → Mem → Prop} {i : Expr} (ha : ∀ v, assign (.Subscript o i pos) X.env v = (do
      let ov ← holding [v] (eval o X.env)
      let iv ← holding [v, ov] (eval i X.env)
      standAt pos
      holding [v, ov, iv] (setItem ov iv v)
      release [v, ov, iv] []))
    (h : EX B X o G M fun x M1 => EX B X i G M1 fun y M2 => ∃ l ds k j, x = .ref l ∧ y = .int k ∧ M2 l = some (.lst ds) ∧ ixN ds.length k = some j ∧ Q G (mupd M2 l (.lst (ds.set j d)))) : GX B X (.Subscript o i pos) d G M Q := fun F σ H Q' v r p k =>
  WG.of (pg_sub pe_we pe_we set_list ha) (h F σ H _ r fun v1 H1 F1 d1 M1 q1 s1 r1 p1 => q1 F1 σ H1 _ r1 fun v2 H2 F2 d2 M2 q2 s2 r2 p2 => by
    obtain ⟨l, ds, kk, j, e1, e2, hm, hj, q⟩ := q2
    subst e1; subst e2; cases p1; cases p2
    obtain ⟨f0, xs, hx, rx⟩ := r2.mem l _ hm
    refine ⟨l, xs, kk, j, rfl, rfl, hx, by rw [rx.length]; exact hj, ?_⟩
    exact k σ _ F2 G _ q (s1.trans s2) (r2.write hm ⟨_, upd_same, rx.set j (p.mono (s1.trans s2))⟩))

/-! ### while -/
theorem sx_while {body : List Stmt} (hp : PassesOwn (model X.prog X.w) X.A X.env X.xe) (I : Nat → Sl → Mem → Prop) {m : Nat} (h0 : I m G M)
    (h : ∀ m G' M', I m G' M' → TX B X c G' M' fun t M1 => if t = true then SXs B X body (E.lp fun G2 M2 => ∃ m', m' < m ∧ I m' G2 M2) G' M1 else E.nx G' M1) :
    SX B X (.While c body [] pos) E G M := fun F σ H D' r k =>
  WS.of (ps_while hp pt_wt pss_wss) ⟨fun m σ' H' => ∃ F' G' M', Same F F' ∧ R B X.K F' σ' H' G' M' ∧ I m G' M', ⟨m, F, G, M, Same.refl F, r, h0⟩, fun m σ' H' ⟨F', G', M', s', r', i'⟩ =>
    h m G' M' i' F' σ' H' _ r' fun t H1 F1 M1 q1 s1 r1 => by
      cases t with
      | true =>
        rw [if_pos rfl] at q1 ⊢
        refine ⟨fun σ2 H2 => ∃ m', m' < m ∧ ∃ F' G' M', Same F F' ∧ R B X.K F' σ2 H2 G' M' ∧ I m' G' M', fun _ _ z => z, q1 F1 σ' H1 _ r1 ⟨?_, (k.mono (s'.trans s1)).rt, (k.mono (s'.trans s1)).nx, ?_⟩⟩
        · intro σ2 H2 F2 G2 M2 ⟨m', hm, i2⟩ s2 r2
          exact ⟨m', hm, F2, G2, M2, (s'.trans s1).trans s2, r2, i2⟩
        · intro σ2 H2 F2 G2 M2 ⟨m', hm, i2⟩ s2 r2
          exact ⟨m', hm, F2, G2, M2, (s'.trans s1).trans s2, r2, i2⟩
      | false =>
        rw [if_neg Bool.false_ne_true] at q1 ⊢
        exact k.nx _ _ _ _ _ q1 (s'.trans s1) r1⟩
end

/-! ### what is walked -/
/-- while F stands, J gives the data ds, one by one -/
structure Wk (K : PySem.W.Frag) (F : Hp) (J : It) (ds : List D) : Prop where
  goes : ∀ i H, i < ds.length → Same F H → J.go i H
  stops : ∀ H, Same F H → J.stop ds.length H
  yields : ∀ i H x H', i < ds.length → Same F H → J.yld i H x H' → ∃ d, ds[i]? = some d ∧ ∀ B F1 σ G M, Same F F1 → R B K F1 σ H G M → ∃ F2, Same F1 F2 ∧ R B K F2 σ H' G M ∧ Rp K F2 x d
def WIt (X : Cx) (tg iter : Expr) : TI := fun σ H Rr => ∀ (pins : List (Addr × Obj)) (s : Shared), Inv X pins σ H s →
  wpAny (model X.prog X.w) X.A (eval iter X.env) (fun v s1 => wpAny (model X.prog X.w) X.A (pyIter v) (PIE X pins σ tg Rr) X.xe s1) X.xe s
theorem pi_wi {X : Cx} {tg iter : Expr} : PI X tg iter (WIt X tg iter) := ⟨fun pins s _ _ _ I h => h pins s I⟩
theorem WIt.of {X : Cx} {tg iter : Expr} {t : TI} {σ : L2.St} {H : Hp} {Rr : It → Hp → Prop} (h : PI X tg iter t) (q : t σ H Rr) : WIt X tg iter σ H Rr := fun pins s I => h.run pins s σ H Rr I q
/-- an iterable that gives ds -/
def LX (B : Bs) (X : Cx) (tg iter : Expr) (G : Sl) (M : Mem) (Q : List D → Mem → Prop) : Prop := ∀ F σ H (R' : It → Hp → Prop), R B X.K F σ H G M →
  (∀ J H' F' ds M', Q ds M' → Same F F' → R B X.K F' σ H' G M' → Wk X.K F' J ds → R' J H') → WIt X tg iter σ H R'
section
variable {B : Bs} {X : Cx} {a b c e o tg iter : Expr} {es : List Expr} {G G' : Sl} {M M' : Mem} {Q : List D → Mem → Prop} {E : En} {pos p pos' : Pos} {F F1 : Hp} {σ : L2.St} {st : Stmt} {sts rest : List Stmt}
theorem wk_list {K : PySem.W.Frag} {a : Addr} {xs : List V} {ds : List D} (h : SqL K F a xs) (r : RpAll K F xs ds) : Wk K F (Itl K a) ds where
  goes := fun i H hi s => ⟨xs, xs[i]'(by rw [r.length]; exact hi), s.seq h, by simp [r.length, hi]⟩
  stops := fun H s => ⟨xs, s.seq h, by rw [r.length]; exact Nat.le_refl _⟩
  yields := fun i H x H' hi s y => by
    obtain ⟨e, y⟩ := y
    subst e
    obtain ⟨d, hd, rd⟩ := r.getV (y xs (s.seq h))
    exact ⟨d, hd, fun B F1 σ G M s1 r1 => ⟨F1, Same.refl F1, r1, rd.mono s1⟩⟩
theorem wk_tup {K : PySem.W.Frag} {a : Addr} {xs : List V} {ds : List D} (h : SqT K F a xs) (r : RpAll K F xs ds) : Wk K F (Itt K a) ds where
  goes := fun i H hi s => ⟨xs, xs[i]'(by rw [r.length]; exact hi), sq_same s h, by simp [r.length, hi]⟩
  stops := fun H s => ⟨xs, sq_same s h, by rw [r.length]; exact Nat.le_refl _⟩
  yields := fun i H x H' hi s y => by
    obtain ⟨e, y⟩ := y
    subst e
    obtain ⟨d, hd, rd⟩ := r.getV (y xs (sq_same s h))
    exact ⟨d, hd, fun B F1 σ G M s1 r1 => ⟨F1, Same.refl F1, r1, rd.mono s1⟩⟩
/-- the ints that range gives -/
def rangeD (lo : Int) (n : Nat) : List D := (List.range n).map fun (i : Nat) => D.int (lo + (i : Int))
theorem rangeD_len {lo : Int} {n : Nat} : (rangeD lo n).length = n := by simp [rangeD]
theorem rangeD_at {lo : Int} {n i : Nat} {d : D} (h : (rangeD lo n)[i]? = some d) : i < n ∧ d = .int (lo + (i : Int)) := by
  have hi : i < n := by
    have := (List.getElem?_eq_some_iff.mp h).1
    rwa [rangeD_len] at this
  refine ⟨hi, ?_⟩
  unfold rangeD at h
  rw [List.getElem?_map, List.getElem?_range hi] at h
  exact (Option.some.inj h).symm
theorem wk_range {K : PySem.W.Frag} {lo : Int} {n : Nat} : Wk K F (Itr lo n) (rangeD lo n) where
  goes := fun i H hi s => by rw [rangeD_len] at hi; exact hi
  stops := fun H s => by
    show n ≤ _
    rw [rangeD_len]
    exact Nat.le_refl n
  yields := fun i H x H' hi s y => by
    obtain ⟨e, y⟩ := y
    subst e; subst y
    have hi' : i < n := by rw [rangeD_len] at hi; exact hi
    exact ⟨.int (lo + i), by unfold rangeD; rw [List.getElem?_map, List.getElem?_range hi']; rfl, fun B F1 σ G M s1 r1 => ⟨F1, Same.refl F1, r1, .int _⟩⟩
theorem lx_list (h : EX B X e G M fun d M1 => ∃ ds, d = .lst ds ∧ Q ds M1) : LX B X tg e G M Q := fun F σ H R' r k =>
  WIt.of (pi_list pe_we) (h F σ H _ r fun v H1 F1 d1 M1 ⟨ds, e1, q⟩ s1 r1 p1 => by
    subst e1
    cases p1 with
    | @lst a xs _ hs rs => exact ⟨a, rfl, ⟨xs, SqL.of (r1.ex _ _ hs)⟩, k _ _ F1 ds M1 q s1 r1 (wk_list (SqL.of hs) rs)⟩)
theorem lx_tup (h : EX B X e G M fun d M1 => ∃ ds, d = .tup ds ∧ Q ds M1) : LX B X tg e G M Q := fun F σ H R' r k =>
  WIt.of (pi_tup pe_we) (h F σ H _ r fun v H1 F1 d1 M1 ⟨ds, e1, q⟩ s1 r1 p1 => by
    subst e1
    cases p1 with
    | @tup a xs _ hs rs => exact ⟨a, rfl, ⟨xs, sq_same r1.ex hs⟩, k _ _ F1 ds M1 q s1 r1 (wk_tup hs rs)⟩)
/-- a list cell that stays as it is while it is walked: it is frozen -/
theorem lx_cell (h : EX B X e G M fun d M1 => ∃ l ds, d = .ref l ∧ M1 l = some (.lst ds) ∧ Q ds (mdel M1 l)) : LX B X tg e G M Q := fun F σ H R' r k =>
  WIt.of (pi_list pe_we) (h F σ H _ r fun v H1 F1 d1 M1 ⟨l, ds, e1, hm, q⟩ s1 r1 p1 => by
    subst e1
    cases p1
    obtain ⟨F2, s2, r2, p2⟩ := r1.freeze hm
    cases p2 with
    | @lst a xs _ hs rs => exact ⟨l, rfl, ⟨xs, SqL.of (r2.ex _ _ hs)⟩, k _ _ F2 ds _ q (s1.trans s2) r2 (wk_list (SqL.of hs) rs)⟩)
theorem lx_range1 (hg : Gl X "range") (hm : X.mg "range" = none) (hs : starEach [a] X.env = [(false, eval a X.env)])
    (h : EX B X a G M fun d M1 => ∃ n : Int, d = .int n ∧ -(2 ^ 62) ≤ n ∧ n < 2 ^ 62 ∧ Q (rangeD 0 n.toNat) M1) : LX B X tg (.Call (.Name "range" p) [a] [] pos) G M Q := fun F σ H R' r k =>
  WIt.of (pi_range1 hg hm (pa_cons pe_we pa_nil (by rw [hs]; rfl)) hs) (h F σ H _ r fun v H1 F1 d1 M1 ⟨n, e1, h1, h2, q⟩ s1 r1 p1 => by
    subst e1; cases p1
    exact ⟨n, rfl, h1, h2, k _ _ F1 _ M1 q s1 r1 wk_range⟩)
theorem lx_range2 (hg : Gl X "range") (hm : X.mg "range" = none) (hs : starEach [a, b] X.env = [(false, eval a X.env), (false, eval b X.env)]) (hs2 : starEach [b] X.env = [(false, eval b X.env)])
    (h : EX B X a G M fun d M1 => EX B X b G M1 fun d2 M2 => ∃ m n : Int, d = .int m ∧ d2 = .int n ∧ (-(2 ^ 62) ≤ m ∧ m < 2 ^ 62 ∧ -(2 ^ 62) ≤ n ∧ n < 2 ^ 62) ∧ Q (rangeD m (n - m).toNat) M2) : LX B X tg (.Call (.Name "range" p) [a, b] [] pos) G M Q := fun F σ H R' r k =>
  WIt.of (pi_range2 hg hm (pa_cons pe_we (pa_cons pe_we pa_nil (by rw [hs2]; rfl)) (by rw [hs, hs2])) hs hs2) (h F σ H _ r fun v H1 F1 d1 M1 q1 s1 r1 p1 => q1 F1 σ H1 _ r1 fun v2 H2 F2 d2 M2 q2 s2 r2 p2 => by
    obtain ⟨m, n, e1, e2, hh, q⟩ := q2
    subst e1; subst e2; cases p1; cases p2
    exact ⟨m, n, rfl, hh, k _ _ F2 _ M2 q (s1.trans s2) r2 wk_range⟩)
/-- the pairs that enumerate gives -/
def enumD (ds : List D) : List D := (List.range ds.length).map fun i => D.tup [.int (i : Nat), ds.getD i .non]
theorem enumD_get {ds : List D} {i : Nat} {d : D} (h : ds[i]? = some d) : (enumD ds)[i]? = some (.tup [.int (i : Nat), d]) := by
  unfold enumD
  have hi := (List.getElem?_eq_some_iff.mp h).1
  rw [List.getElem?_map, List.getElem?_range hi]
  show some (D.tup [.int (i : Nat), ds.getD i .non]) = _
  rw [List.getD_eq_getElem?_getD, h]
  rfl
theorem enumD_len {ds : List D} : (enumD ds).length = ds.length := by simp [enumD]
theorem enumD_at {ds : List D} {i : Nat} {d : D} (h : (enumD ds)[i]? = some d) : ∃ x, ds[i]? = some x ∧ d = .tup [.int (i : Nat), x] := by
  have hi : i < ds.length := by rw [← enumD_len]; exact (List.getElem?_eq_some_iff.mp h).1
  have e : ds[i]? = some ds[i] := by simp
  rw [enumD_get e] at h
  exact ⟨ds[i], e, (Option.some.inj h).symm⟩
/-- a new pair -/
theorem pair_new {K : PySem.W.Frag} {F1 H : Hp} {G : Sl} {M : Mem} {T : Addr} {x y : V} {d e : D} (r : R B K F1 σ H G M) (hT : H T = none) (rx : Rp K F1 x d) (ry : Rp K F1 y e) :
    ∃ F2, Same F1 F2 ∧ R B K F2 σ (upd H T (.tup [x, y])) G M ∧ Rp K F2 (.ref T) (.tup [d, e]) :=
  ⟨upd F1 T (.tup [x, y]), (r.new hT).1, (r.new hT).2, .tup sq_upd (.cons (rx.mono (r.new hT).1) (.cons (ry.mono (r.new hT).1) .nil))⟩
theorem wk_enum {K : PySem.W.Frag} {a : Addr} {xs : List V} {ds : List D} (h : SqL K F a xs) (r : RpAll K F xs ds) : Wk K F (Ite K a) (enumD ds) where
  goes := fun i H hi s => by
    rw [enumD_len] at hi
    exact ⟨xs, xs[i]'(by rw [r.length]; exact hi), s.seq h, by simp [r.length, hi]⟩
  stops := fun H s => ⟨xs, s.seq h, by rw [r.length, enumD_len]; exact Nat.le_refl _⟩
  yields := fun i H x H' hi s y => by
    obtain ⟨T, u, h1, h2, h3, h4⟩ := y
    subst h1; subst h3
    obtain ⟨d, hd, rd⟩ := r.getV (h4 xs (s.seq h))
    exact ⟨_, enumD_get hd, fun B F1 σ G M s1 r1 => pair_new r1 h2 (.int _) (rd.mono s1)⟩
theorem lx_enum (hg : Gl X "enumerate") (hm : X.mg "enumerate" = none) (hs : starEach [e] X.env = [(false, eval e X.env)]) (ht : ∃ es k pp, tg = .Tuple es k pp)
    (h : EX B X e G M fun d M1 => ∃ ds, d = .lst ds ∧ Q (enumD ds) M1) : LX B X tg (.Call (.Name "enumerate" p) [e] [] pos) G M Q := fun F σ H R' r k => by
  obtain ⟨es, kk, pp, rfl⟩ := ht
  refine WIt.of (pi_enum hg hm (pa_cons pe_we pa_nil (by rw [hs]; rfl)) hs) (h F σ H _ r fun v H1 F1 d1 M1 ⟨ds, e1, q⟩ s1 r1 p1 => ?_)
  subst e1
  cases p1 with
  | @lst a xs _ hs rs => exact ⟨a, xs, rfl, SqL.of (r1.ex _ _ hs), k _ _ F1 _ M1 q s1 r1 (wk_enum (SqL.of hs) rs)⟩
end
end FL

namespace FL
open PySem PySem.Spec PyProof.Rows L2
section
variable {B : Bs} {X : Cx} {a b c e o tg iter elt : Expr} {es : List Expr} {G G' : Sl} {M M' : Mem} {Q : D → Mem → Prop} {E : En} {pos p pos' : Pos} {F F1 : Hp} {σ : L2.St} {st : Stmt} {sts rest body : List Stmt}

/-! ### for -/
theorem sx_for (hp : PassesOwn (model X.prog X.w) X.A X.env X.xe) (hc : X.calm = true) (hs : ∀ x, foldedSetIterable iter X.env x = pure x)
    (h : LX B X tg iter G M fun ds M1 => ∃ I : Nat → Sl → Mem → Prop, I 0 G M1 ∧
      (∀ i d G' M', ds[i]? = some d → I i G' M' → GX B X tg d G' M' fun G2 M2 => SXs B X body (E.lp (I (i + 1))) G2 M2) ∧ ∀ G' M', I ds.length G' M' → E.nx G' M') :
    SX B X (.For tg iter body [] pos) E G M := fun F σ H D' r k =>
  WS.of (ps_for hp hc pi_wi pg_wg pss_wss hs) (h F σ H _ r fun J H1 F1 ds M1 ⟨I, i0, turn, fin⟩ s1 r1 w => by
    refine ⟨fun i m σ' H' => m = ds.length - i ∧ i ≤ ds.length ∧ ∃ F' G' M', Same F1 F' ∧ R B X.K F' σ' H' G' M' ∧ I i G' M', ⟨_, rfl, Nat.zero_le _, F1, G, M1, Same.refl F1, r1, i0⟩, ?_⟩
    rintro i m σ' H' ⟨rfl, hi, F', G', M', s', r', hI⟩
    by_cases hlt : i < ds.length
    · refine .inr ⟨w.goes i H' hlt (s'.trans r'.ex), fun σ2 H2 => ∃ F' G' M', Same F1 F' ∧ R B X.K F' σ2 H2 G' M' ∧ I (i + 1) G' M', fun σ2 H2 z => ⟨ds.length - (i + 1), by omega, rfl, hlt, z⟩, fun x H2 y => ?_⟩
      obtain ⟨d, hd, yy⟩ := w.yields i H' x H2 hlt (s'.trans r'.ex) y
      obtain ⟨F2, s2, r2, p2⟩ := yy B F' σ' G' M' s' r'
      refine turn i d G' M' hd hI F2 σ' H2 _ x r2 p2 fun σ3 H3 F3 G3 M3 q3 s3 r3 => q3 F3 σ3 H3 _ r3 ?_
      have s03 : Same F F3 := s1.trans (s'.trans (s2.trans s3))
      refine ⟨?_, k.rt.mono s03, k.nx.mono s03, ?_⟩
      · exact fun σ4 H4 F4 G4 M4 q4 s4 r4 => ⟨F4, G4, M4, (s'.trans (s2.trans s3)).trans s4, r4, q4⟩
      · exact fun σ4 H4 F4 G4 M4 q4 s4 r4 => ⟨F4, G4, M4, (s'.trans (s2.trans s3)).trans s4, r4, q4⟩
    · have e : i = ds.length := by omega
      subst e
      exact .inl ⟨w.stops H' (s'.trans r'.ex), k.nx σ' H' F' G' M' (fin G' M' hI) (s1.trans s') r'⟩)

/-! ### comprehensions -/
def gwipe (G : Sl) : List Nat → Sl
  | [] => G
  | v :: vs => (gwipe G vs).set v none
theorem R.wipe {K : PySem.W.Frag} {H : Hp} (r : R B K F σ H G M) : ∀ vs : List Nat, R B K F (L2.wipe σ vs) H (gwipe G vs) M
  | [] => r
  | v :: vs => by
    have ih := R.wipe r vs
    exact ⟨ih.slots.setNone, ih.ex, ih.mem, ih.bf, ih.bk⟩
theorem wipe_in {σ : L2.St} {i : Nat} (hl : i < σ.length) : ∀ {vs : List Nat}, i ∈ vs → (L2.wipe σ vs)[i]? = some none
  | [], h => nomatch h
  | v :: vs, h => by
    unfold L2.wipe
    by_cases e : v = i
    · subst e
      rw [List.getElem?_set_self (by rw [wipe_length]; exact hl)]
    · rw [List.getElem?_set_ne e]
      exact wipe_in hl ((List.mem_cons.mp h).resolve_left fun z => e z.symm)
theorem wipe_out' {σ : L2.St} {i : Nat} : ∀ {vs : List Nat}, i ∉ vs → (L2.wipe σ vs)[i]? = σ[i]?
  | [], _ => rfl
  | v :: vs, h => by
    unfold L2.wipe
    rw [List.getElem?_set_ne (fun e => h (by simp [e]))]
    exact wipe_out' fun z => h (List.mem_cons_of_mem _ z)
theorem wipe_eq {σ τ : L2.St} {vs : List Nat} (hl : σ.length = τ.length) (h : ∀ i, i ∉ vs → σ[i]? = τ[i]?) : L2.wipe σ vs = L2.wipe τ vs := by
  apply List.ext_getElem?
  intro i
  by_cases hi : i ∈ vs
  · by_cases hb : i < σ.length
    · rw [wipe_in hb hi, wipe_in (by rw [← hl]; exact hb) hi]
    · rw [List.getElem?_eq_none (by rw [wipe_length]; omega), List.getElem?_eq_none (by rw [wipe_length]; omega)]
  · rw [wipe_out' hi, wipe_out' hi, h i hi]
/-- names to which a comprehension's item goes: one name, or a tuple of names -/
abbrev Tg := Sum Nat (List Nat)
def Tg.slots : Tg → List Nat
  | .inl i => [i]
  | .inr is => is
def gNs : List Nat → TGs
  | [] => gNil
  | i :: r => gCons (gName i) (gNs r)
def gTg (K : PySem.W.Frag) : Tg → TG
  | .inl i => gName i
  | .inr is => gTup K is.length (gNs is)
def setAll (σ : L2.St) : List Nat → List V → L2.St
  | i :: is, v :: vs => setAll (σ.set i (some v)) is vs
  | _, _ => σ
def gsetAll (G : Sl) : List Nat → List D → Sl
  | i :: is, v :: vs => gsetAll (G.set i (some v)) is vs
  | _, _ => G
theorem gNs_of {H : Hp} {Q : L2.St → Hp → Prop} : ∀ {is : List Nat} {vs : List V} {σ : L2.St}, vs.length = is.length → Q (setAll σ is vs) H → gNs is vs σ H Q
  | [], [], _, _, h => ⟨rfl, h⟩
  | [], _ :: _, _, e, _ => by simp at e
  | _ :: _, [], _, e, _ => by simp at e
  | i :: is, v :: vs, σ, e, h => ⟨v, vs, rfl, gNs_of (is := is) (vs := vs) (by simpa using e) h⟩
theorem R.setAll {K : PySem.W.Frag} {F H : Hp} {M : Mem} : ∀ {is : List Nat} {vs : List V} {ds : List D} {σ : L2.St} {G : Sl}, R B K F σ H G M → RpAll K F vs ds → R B K F (FL.setAll σ is vs) H (gsetAll G is ds) M
  | [], _, _, _, _, r, p => by cases p <;> exact r
  | _ :: _, [], _, _, _, r, p => by cases p; exact r
  | i :: is, v :: vs, d :: ds, σ, G, r, .cons p1 p2 => R.setAll (is := is) (vs := vs) (ds := ds) (σ := σ.set i (some v)) (G := G.set i (some d)) (R.set r p1) p2
theorem setAll_len : ∀ {is : List Nat} {vs : List V} {σ : L2.St}, (FL.setAll σ is vs).length = σ.length
  | [], _, _ => by unfold FL.setAll; rfl
  | _ :: _, [], _ => by unfold FL.setAll; rfl
  | i :: is, v :: vs, σ => by
    show (FL.setAll (σ.set i (some v)) is vs).length = σ.length
    rw [setAll_len, List.length_set]
theorem setAll_out {j : Nat} : ∀ {is : List Nat} {vs : List V} {σ : L2.St}, j ∉ is → (FL.setAll σ is vs)[j]? = σ[j]?
  | [], _, _, _ => by unfold FL.setAll; rfl
  | _ :: _, [], _, _ => by unfold FL.setAll; rfl
  | i :: is, v :: vs, σ, h => by
    show (FL.setAll (σ.set i (some v)) is vs)[j]? = σ[j]?
    rw [setAll_out (fun z => h (List.mem_cons_of_mem _ z)), List.getElem?_set_ne (fun e => h (by simp [e]))]
theorem wipe_setAll {σ : L2.St} {is : List Nat} {vs : List V} {own : List Nat} (h : ∀ i ∈ is, i ∈ own) : L2.wipe (FL.setAll (L2.wipe σ own) is vs) own = L2.wipe σ own := by
  refine wipe_eq (by rw [setAll_len, wipe_length]) fun i hi => ?_
  rw [setAll_out fun z => hi (h i z), wipe_out' hi]
/-- a clause's tests: none, or one -/
def TXs (B : Bs) (X : Cx) (ifs : List Expr) (G : Sl) (M : Mem) (Q : Bool → Mem → Prop) : Prop := match ifs with
  | [] => Q true M
  | [c] => TX B X c G M Q
  | _ => False
def WTs (X : Cx) (ifs : List Expr) : TT := fun σ H Q => ∀ (pins : List (Addr × Obj)) (s : Shared), Inv X pins σ H s →
  wpAny (model X.prog X.w) X.A (forIn ifs true fun c r => if r = true then do let ok ← isTrue c X.env (eval c X.env); pure (ForInStep.yield ok) else pure (ForInStep.yield r)) (TP X pins σ Q) X.xe s
theorem txs_ok {ifs : List Expr} {H : Hp} {Q : Bool → Mem → Prop} {Q' : Bool → Hp → Prop} (h : TXs B X ifs G M Q) (r : R B X.K F σ H G M) (k : KT B X F σ G Q Q') : WTs X ifs σ H Q' := by
  match ifs, h with
  | [], h => exact fun pins s I => pts_nil.run pins s σ H Q' I (k true H F M h (Same.refl F) r)
  | [c], h => exact fun pins s I => (pts_one pt_wt).run pins s σ H Q' I (h F σ H Q' r k)
/-- in every context of the block -/
abbrev Bk (X : Cx) (scope : Scope) (P : Cx → Prop) : Prop := ∀ (s : Shared) (H : Hp) (C : Addr) (cl : List (Str × Addr)) (fp : List Addr), P (X.blk s H scope (compEnvC scope cl C X.env) fp)
def WTb (X : Cx) (scope : Scope) (ifs : List Expr) : TT := fun σ H Q => Bk X scope fun X' => WTs X' ifs σ H Q
def WEb (X : Cx) (scope : Scope) (e : Expr) : TE := fun σ H Q => Bk X scope fun X' => WE X' e σ H Q
theorem pts_wtb {scope : Scope} {ifs : List Expr} : Bk X scope fun X' => PTs X' ifs (WTb X scope ifs) := fun s0 H0 C cl fp => ⟨fun pins s _ _ _ I h => h s0 H0 C cl fp pins s I⟩
theorem pe_web {scope : Scope} : Bk X scope fun X' => PE X' e (WEb X scope e) := fun s0 H0 C cl fp => ⟨fun pins s _ _ _ I h => h s0 H0 C cl fp pins s I⟩
/-- an item of data, for the target -/
def TgD (t : Tg) (d : D) (Q : List D → Prop) : Prop := match t with
  | .inl _ => Q [d]
  | .inr is => ∃ ds, d = .tup ds ∧ ds.length = is.length ∧ Q ds
/-- what a comprehension asks: L the new list; I by the turn, what is gathered, and the cells -/
def LcX (B : Bs) (X : Cx) (scope : Scope) (own : List Nat) (t : Tg) (ifs : List Expr) (elt : Expr) (G : Sl) (ds : List D) (M1 : Mem) (fin : Addr → List D → Mem → Prop) : Prop :=
  ∀ L, M1 L = none → ∃ I : Nat → List D → Mem → Prop, I 0 [] (mupd M1 L (.lst [])) ∧
    (∀ i d acc M', ds[i]? = some d → I i acc M' → M' L = some (.lst acc) → TgD t d fun dvs => Bk X scope fun X' => TXs B X' ifs (gsetAll (gwipe G own) t.slots dvs) M' fun b M3 =>
      if b = true then Bk X scope fun X2 => EX B X2 elt (gsetAll (gwipe G own) t.slots dvs) M3 fun y M4 => M4 L = some (.lst acc) ∧ acc.length < sizeLine ∧ I (i + 1) (acc ++ [y]) (mupd M4 L (.lst (acc ++ [y])))
      else M3 L = some (.lst acc) ∧ I (i + 1) acc M3) ∧
    ∀ acc M', I ds.length acc M' → M' L = some (.lst acc) → fin L acc M'
theorem lc_data {scope : Scope} {own : List (Str × Nat)} {t : Tg} {ifs : List Expr} {fin : Addr → List D → Mem → Prop} {Q' : VK} {H : Hp} (ht : ∀ i ∈ t.slots, i ∈ own.map (·.2)) (r : R B X.K F σ H G M)
    (h : LX B X tg iter G M fun ds M1 => LcX B X scope (own.map (·.2)) t ifs elt G ds M1 fin)
    (k : ∀ L acc H' F' M', fin L acc M' → M' L = some (.lst acc) → Same F F' → R B X.K F' σ H' G M' → Q' (.ref L) H') :
    tLc (WIt X tg iter) (gTg X.K t) (WTb X scope ifs) (WEb X scope elt) (own.map (·.2)) σ H Q' := by
  refine h F σ H _ r fun J H1 F1 ds M1 lc s1 r1 w => ?_
  intro L hL
  obtain ⟨I, i0, turn, fn⟩ := lc L (r1.freeM hL)
  refine ⟨fun i m H' => m = ds.length - i ∧ i ≤ ds.length ∧ ∃ F' acc M', Same F1 F' ∧ R B X.K F' σ H' G M' ∧ M' L = some (.lst acc) ∧ I i acc M', ⟨_, rfl, Nat.zero_le _, F1, [], _, Same.refl F1, r1.newCell (o := .lst []) hL ⟨[], upd_same, .nil⟩, mupd_same, i0⟩, ?_⟩
  rintro i m H' ⟨rfl, hi, F', acc, M', s', r', hM, hI⟩
  by_cases hlt : i < ds.length
  · refine .inr ⟨w.goes i H' hlt (s'.trans r'.ex), fun H2 => ∃ F' acc M', Same F1 F' ∧ R B X.K F' σ H2 G M' ∧ M' L = some (.lst acc) ∧ I (i + 1) acc M', fun H2 z => ⟨ds.length - (i + 1), by omega, rfl, hlt, z⟩, fun x H2 y => ?_⟩
    obtain ⟨d, hd, yy⟩ := w.yields i H' x H2 hlt (s'.trans r'.ex) y
    obtain ⟨F2, s2, r2, p2⟩ := yy B F' σ G M' s' r'
    have tt := turn i d acc M' hd hI hM
    have main : ∀ (vs : List V) (dvs : List D), RpAll X.K F2 vs dvs → (Bk X scope fun X' => TXs B X' ifs (gsetAll (gwipe G (own.map (·.2))) t.slots dvs) M' fun b M3 =>
        if b = true then Bk X scope fun X2 => EX B X2 elt (gsetAll (gwipe G (own.map (·.2))) t.slots dvs) M3 fun y M4 => M4 L = some (.lst acc) ∧ acc.length < sizeLine ∧ I (i + 1) (acc ++ [y]) (mupd M4 L (.lst (acc ++ [y])))
        else M3 L = some (.lst acc) ∧ I (i + 1) acc M3) →
        L2.wipe (FL.setAll (L2.wipe σ (own.map (·.2))) t.slots vs) (own.map (·.2)) = L2.wipe σ (own.map (·.2)) ∧ WTb X scope ifs (FL.setAll (L2.wipe σ (own.map (·.2))) t.slots vs) H2 fun b H3 =>
          if b = true then WEb X scope elt (FL.setAll (L2.wipe σ (own.map (·.2))) t.slots vs) H3 fun y H4 => ∃ acc, H4 L = some (.lst acc) ∧ acc.length < sizeLine ∧ (∃ F' acc' M', Same F1 F' ∧ R B X.K F' σ (upd H4 L (.lst (acc ++ [y]))) G M' ∧ M' L = some (.lst acc') ∧ I (i + 1) acc' M')
          else ∃ F' acc M', Same F1 F' ∧ R B X.K F' σ H3 G M' ∧ M' L = some (.lst acc) ∧ I (i + 1) acc M' := by
      intro vs dvs pv hb
      refine ⟨wipe_setAll ht, fun s0 H0 C cl fp => ?_⟩
      have rw0 : R B X.K F2 (FL.setAll (L2.wipe σ (own.map (·.2))) t.slots vs) H2 (gsetAll (gwipe G (own.map (·.2))) t.slots dvs) M' := R.setAll (R.wipe r2 (own.map (·.2))) pv
      refine txs_ok (X := X.blk s0 H0 scope (compEnvC scope cl C X.env) fp) (hb s0 H0 C cl fp) rw0 fun b H3 F3 M3 q3 s3 r3 => ?_
      have back : ∀ {Hx Fx : Hp} {Mx : Mem}, Same F2 Fx → R B X.K Fx (FL.setAll (L2.wipe σ (own.map (·.2))) t.slots vs) Hx (gsetAll (gwipe G (own.map (·.2))) t.slots dvs) Mx → R B X.K Fx σ Hx G Mx := fun sx rx => ⟨r2.slots.mono sx, rx.ex, rx.mem, rx.bf, rx.bk⟩
      cases b with
      | true =>
        rw [if_pos rfl] at q3 ⊢
        intro s5 H5 C5 cl5 fp5
        refine q3 s5 H5 C5 cl5 fp5 F3 _ H3 _ r3 fun y H4 F4 d4 M4 ⟨m4, l4, i4⟩ s4 r4 p4 => ?_
        obtain ⟨_, xs, hx, rx⟩ := r4.mem L _ m4
        refine ⟨xs, hx, by rw [rx.length]; exact l4, F4, acc ++ [d4], _, ((s'.trans s2).trans s3).trans s4, ?_, mupd_same, i4⟩
        exact (back (s3.trans s4) r4).write m4 ⟨_, upd_same, rx.append (.cons p4 .nil)⟩
      | false =>
        rw [if_neg Bool.false_ne_true] at q3 ⊢
        exact ⟨F3, acc, M3, (s'.trans s2).trans s3, back s3 r3, q3.1, q3.2⟩
    cases t with
    | inl j => exact main [x] [d] (.cons p2 .nil) tt
    | inr js =>
      obtain ⟨dvs, e, hl, hb⟩ := tt
      subst e
      cases p2 with
      | @tup a xs _ hq ra => exact ⟨a, xs, rfl, sq_same r2.ex hq, by rw [ra.length, hl], gNs_of (by rw [ra.length, hl]) (main xs dvs ra hb)⟩
  · have e : i = ds.length := by omega
    subst e
    exact .inl ⟨w.stops H' (s'.trans r'.ex), k L acc H' F' M' (fn acc M' hI hM) hM (s1.trans s') r'⟩

theorem pg_tg1 {X' : Cx} {x : Str} {i : Nat} (h : Lc X' i x) : PG X' (.Name x pos) (gTg X'.K (.inl i)) := pg_name h.nd h.n h.l h.f
/-- a comprehension, its list frozen -/
theorem ex_lc {scope : Scope} {own : List (Str × Nat)} {t : Tg} {ifs : List Expr} (hc : X.calm = true) (hN : X.N.Nodup) (ok : BlkOk X.N X.env.scope scope own) (ht : ∀ i ∈ t.slots, i ∈ own.map (·.2))
    (hg : Bk X scope fun X' => PG X' tg (gTg X.K t)) (hs : ∀ x, foldedSetIterable iter X.env x = pure x)
    (h : LX B X tg iter G M fun ds M1 => LcX B X scope (own.map (·.2)) t ifs elt G ds M1 fun L acc M' => Q (.lst acc) (mdel M' L)) : EX B X (.ListComp elt [⟨tg, iter, ifs, 0⟩] scope pos) G M Q := fun F σ H Q' r k =>
  WE.of (pe_lc hc hN pi_wi ok hg pts_wtb pe_web hs) (lc_data ht r h fun L acc H' F' M' q hm s' r' => by
    obtain ⟨F2, s2, r2, p2⟩ := r'.freeze hm
    exact k _ H' F2 _ _ q (s'.trans s2) r2 p2)
/-- .. its list a cell -/
theorem ex_lcM {scope : Scope} {own : List (Str × Nat)} {t : Tg} {ifs : List Expr} (hc : X.calm = true) (hN : X.N.Nodup) (ok : BlkOk X.N X.env.scope scope own) (ht : ∀ i ∈ t.slots, i ∈ own.map (·.2))
    (hg : Bk X scope fun X' => PG X' tg (gTg X.K t)) (hs : ∀ x, foldedSetIterable iter X.env x = pure x)
    (h : LX B X tg iter G M fun ds M1 => LcX B X scope (own.map (·.2)) t ifs elt G ds M1 fun L acc M' => Q (.ref L) M') : EX B X (.ListComp elt [⟨tg, iter, ifs, 0⟩] scope pos) G M Q := fun F σ H Q' r k =>
  WE.of (pe_lc hc hN pi_wi ok hg pts_wtb pe_web hs) (lc_data ht r h fun L acc H' F' M' q hm s' r' => k _ H' F' _ _ q s' r' (.ref L))
/-- name = a comprehension -/
theorem sx_setLc {i : Nat} {y : Str} {py spos : Pos} {scope : Scope} {own : List (Str × Nat)} {t : Tg} {ifs : List Expr} (hc : X.calm = true) (hN : X.N.Nodup) (hy : X.N[i]? = some y) (hyl : X.env.scope.names.lookup y = some .local)
    (hsw : swapsWith (.ListComp elt [⟨tg, iter, ifs, 0⟩] scope pos) (some (.Name y py)) spos.line X.env = pure true) (ok : BlkOk X.N X.env.scope scope own) (ht : ∀ i ∈ t.slots, i ∈ own.map (·.2))
    (hg : Bk X scope fun X' => PG X' tg (gTg X.K t)) (hs : ∀ x, foldedSetIterable iter X.env x = pure x)
    (h : LX B X tg iter G M fun ds M1 => LcX B X scope (own.map (·.2)) t ifs elt G ds M1 fun L acc M' => E.nx (G.set i (some (.lst acc))) (mdel M' L)) : SX B X (.Assign [.Name y py] (.ListComp elt [⟨tg, iter, ifs, 0⟩] scope pos) spos) E G M := fun F σ H D' r k =>
  WS.of (ps_setLc hc hN hy hyl hsw pi_wi ok hg pts_wtb pe_web hs) (lc_data ht r h fun L acc H' F' M' q hm s' r' => by
    obtain ⟨F2, s2, r2, p2⟩ := r'.freeze hm
    exact k.nx _ H' F2 _ _ q (s'.trans s2) (R.set r2 p2))
theorem sx_setLcM {i : Nat} {y : Str} {py spos : Pos} {scope : Scope} {own : List (Str × Nat)} {t : Tg} {ifs : List Expr} (hc : X.calm = true) (hN : X.N.Nodup) (hy : X.N[i]? = some y) (hyl : X.env.scope.names.lookup y = some .local)
    (hsw : swapsWith (.ListComp elt [⟨tg, iter, ifs, 0⟩] scope pos) (some (.Name y py)) spos.line X.env = pure true) (ok : BlkOk X.N X.env.scope scope own) (ht : ∀ i ∈ t.slots, i ∈ own.map (·.2))
    (hg : Bk X scope fun X' => PG X' tg (gTg X.K t)) (hs : ∀ x, foldedSetIterable iter X.env x = pure x)
    (h : LX B X tg iter G M fun ds M1 => LcX B X scope (own.map (·.2)) t ifs elt G ds M1 fun L acc M' => E.nx (G.set i (some (.ref L))) M') : SX B X (.Assign [.Name y py] (.ListComp elt [⟨tg, iter, ifs, 0⟩] scope pos) spos) E G M := fun F σ H D' r k =>
  WS.of (ps_setLc hc hN hy hyl hsw pi_wi ok hg pts_wtb pe_web hs) (lc_data ht r h fun L acc H' F' M' q hm s' r' => k.nx _ H' F' _ _ q s' (R.set r' (.ref L)))
/-- a comprehension that changes no cell: f tells what an item comes to -/
theorem lc_pure {scope : Scope} {own : List Nat} {t : Tg} {ifs : List Expr} {ds : List D} {fin : List D → Mem → Prop} (f : D → Option D) (hl : ds.length < sizeLine)
    (h : ∀ (i : Nat) (d : D) (M' : Mem), ds[i]? = some d → (∀ a o, M a = some o → M' a = some o) → TgD t d fun dvs => Bk X scope fun X' => TXs B X' ifs (gsetAll (gwipe G own) t.slots dvs) M' fun b M3 =>
      if b = true then Bk X scope fun X2 => EX B X2 elt (gsetAll (gwipe G own) t.slots dvs) M3 fun y M4 => M4 = M' ∧ f d = some y else M3 = M' ∧ f d = none)
    (q : fin (ds.filterMap f) M) : LcX B X scope own t ifs elt G ds M fun L acc M' => fin acc (mdel M' L) := by
  intro L hL
  refine ⟨fun i acc M' => acc = (ds.take i).filterMap f ∧ M' = mupd M L (.lst acc), ⟨rfl, rfl⟩, ?_, ?_⟩
  · rintro i d acc M' hd ⟨ea, eM⟩ hM
    have hle : ∀ a o, M a = some o → M' a = some o := fun a o e => by rw [eM, mupd_ne (mne e hL)]; exact e
    have tk : (ds.take (i + 1)).filterMap f = (ds.take i).filterMap f ++ (f d).toList := by
      rw [List.take_add_one, hd, List.filterMap_append]
      cases e : f d <;> simp [e]
    have ln : acc.length < sizeLine := by
      have h1 : ((ds.take i).filterMap f).length ≤ (ds.take i).length := List.length_filterMap_le f _
      have h2 : (ds.take i).length ≤ ds.length := by rw [List.length_take]; omega
      rw [ea]; omega
    have step : ∀ dvs, (Bk X scope fun X' => TXs B X' ifs (gsetAll (gwipe G own) t.slots dvs) M' fun b M3 =>
        if b = true then Bk X scope fun X2 => EX B X2 elt (gsetAll (gwipe G own) t.slots dvs) M3 fun y M4 => M4 = M' ∧ f d = some y else M3 = M' ∧ f d = none) →
        Bk X scope fun X' => TXs B X' ifs (gsetAll (gwipe G own) t.slots dvs) M' fun b M3 =>
          if b = true then Bk X scope fun X2 => EX B X2 elt (gsetAll (gwipe G own) t.slots dvs) M3 fun y M4 => M4 L = some (.lst acc) ∧ acc.length < sizeLine ∧ (acc ++ [y] = (ds.take (i + 1)).filterMap f ∧ mupd M4 L (.lst (acc ++ [y])) = mupd M L (.lst (acc ++ [y])))
          else M3 L = some (.lst acc) ∧ (acc = (ds.take (i + 1)).filterMap f ∧ M3 = mupd M L (.lst acc)) := by
      intro dvs hb s0 H0 C cl fp
      have post : ∀ (b : Bool) (M3 : Mem), (if b = true then Bk X scope fun X2 => EX B X2 elt (gsetAll (gwipe G own) t.slots dvs) M3 fun y M4 => M4 = M' ∧ f d = some y else M3 = M' ∧ f d = none) →
          if b = true then Bk X scope fun X2 => EX B X2 elt (gsetAll (gwipe G own) t.slots dvs) M3 fun y M4 => M4 L = some (.lst acc) ∧ acc.length < sizeLine ∧ (acc ++ [y] = (ds.take (i + 1)).filterMap f ∧ mupd M4 L (.lst (acc ++ [y])) = mupd M L (.lst (acc ++ [y])))
          else M3 L = some (.lst acc) ∧ (acc = (ds.take (i + 1)).filterMap f ∧ M3 = mupd M L (.lst acc)) := fun b M3 z =>
        ite_mono z (fun z s1 H1 C1 cl1 fp1 => (z s1 H1 C1 cl1 fp1).imp fun y M4 ⟨e4, ef⟩ => by
          subst e4
          refine ⟨hM, ln, ?_, ?_⟩
          · rw [tk, ef, ← ea]; rfl
          · rw [eM, mupd_mupd]) fun ⟨e3, ef⟩ => by
          subst e3
          refine ⟨hM, ?_, eM⟩
          rw [tk, ef, ← ea]; simp
      have z := hb s0 H0 C cl fp
      match ifs, z with
      | [], z => exact post true M' z
      | [c], z => exact TX.imp z post
    have hh := h i d M' hd hle
    cases t with
    | inl j => exact step [d] hh
    | inr js =>
      obtain ⟨dvs, e, hl', hb⟩ := hh
      exact ⟨dvs, e, hl', step dvs hb⟩
  · rintro acc M' ⟨ea, eM⟩ hM
    rw [List.take_length] at ea
    rw [eM, mdel_mupd hL, ea]
    exact q
end
end FL

namespace FL
open PySem PySem.Spec PyProof.Rows L2

/-- a promise over data: arguments, cells, what is wanted of the answer and the cells -/
abbrev DSp := List D → Mem → (D → Mem → Prop) → Prop
def lift (K : PySem.W.Frag) (sp : DSp) : Sp := fun vs H Q _ => ∃ F ds M Qd, RpAll K F vs ds ∧ Same F H ∧ MemOk K F H M ∧ sp ds M Qd ∧ ∀ d M', Qd d M' → ∀ v H' F', Same F F' → Kp M H M' H' → Same F' H' → MemOk K F' H' M' → Rp K F' v d → Q v H'
/-- a def of the module, by its name -/
structure Dfn (P : Program) (w : World) (K : PySem.W.Frag) (mg : Str → Option Value) (base : Heap) (k : Nat) (x : Str) (sp : DSp) : Prop where
  ex : ∃ (f : Addr) (fd : FuncData) (ps : List Str), FnOk P w K mg base CX0 k f fd ps (lift K sp) ∧ mg x = some (.ref f) ∧ PySem.W.keepIn K (.ref f) = true ∧ Binds K fd ps []
section
variable {B : Bs} {X : Cx} {a b c e o tg iter elt : Expr} {es : List Expr} {G G' : Sl} {M M' : Mem} {Q : D → Mem → Prop} {E : En} {pos p pos' apos : Pos} {F F1 : Hp} {σ : L2.St} {k : Nat} {x m : Str} {sp : DSp}
theorem lift_use {H1 : Hp} {vs : List V} {ds : List D} {Q' : VK} {E0' : XK} (r1 : R B X.K F1 σ H1 G M) (p1 : RpAll X.K F1 vs ds) (q : sp ds M Q) (kk : KE B X F1 σ G Q Q') : lift X.K sp vs H1 Q' E0' :=
  ⟨F1, ds, M, Q, p1, r1.ex, r1.mem, q, fun d M' qd v H' F' s' k' e' m' rp => kk v H' F' d M' qd s' ⟨r1.slots.mono s', e', m', r1.bf.trans s', r1.bk.trans k'⟩ rp⟩
theorem ex_call (c : Dfn X.prog X.w X.K X.mg X.base k x sp) (hr : Room k X.A) (hg : Gl X x) (hdb : (x == ("__debug__" : Str)) = false)
    (he : starEach (e :: es) X.env = (false, eval e X.env) :: starEach es X.env) (hpl : (backTo pos (starEach es X.env)).any (·.1) = false)
    (h : AX B X (e :: es) G M fun ds M1 => sp ds M1 Q) : EX B X (.Call (.Name x p) (e :: es) [] pos) G M Q := fun F σ H Q' r kk => by
  obtain ⟨f, fd, ps, Fo, mgx, kp, bd⟩ := c.ex
  refine WE.of (pe_call Fo hr hg mgx kp bd .nil pass0 pa_wa hdb he hpl) (h F σ H _ r fun vs H1 F1 ds M1 q1 s1 r1 p1 => ?_)
  rw [List.append_nil]
  exact lift_use r1 p1 q1 (kk.mono s1)
theorem ex_call0 (c : Dfn X.prog X.w X.K X.mg X.base k x sp) (hr : Room k X.A) (hg : Gl X x) (hdb : (x == ("__debug__" : Str)) = false)
    (h : sp [] M Q) : EX B X (.Call (.Name x p) [] [] pos) G M Q := fun F σ H Q' r kk => by
  obtain ⟨f, fd, ps, Fo, mgx, kp, bd⟩ := c.ex
  exact WE.of (pe_call0 Fo hr hg mgx kp bd .nil pass0 hdb) (lift_use (vs := [] ++ []) (E0' := E0) r .nil h kk)

/-! ### a def's body -/
def startD (N : List Str) (ds : List D) : Sl := ds.map some ++ List.replicate (N.length - ds.length) none
theorem start_ok {K : PySem.W.Frag} {N : List Str} {vs : List V} {ds : List D} (h : RpAll K F vs ds) : SlotsOk K F (L2.start N vs) (startD N ds) := by
  refine ⟨by unfold L2.start startD; simp [h.length], fun i d q => ?_⟩
  unfold startD at q
  unfold L2.start
  by_cases hi : i < ds.length
  · rw [List.getElem?_append_left (by simpa using hi), List.getElem?_map] at q
    rw [List.getElem?_append_left (by simpa [h.length] using hi), List.getElem?_map]
    cases e : ds[i]? with
    | none => rw [e] at q; cases q
    | some d' =>
      rw [e] at q
      have e2 : d' = d := by simpa using q
      subst e2
      obtain ⟨v, hv, rv⟩ := h.get e
      exact ⟨v, by rw [hv]; rfl, rv⟩
  · rw [List.getElem?_append_right (by simpa using hi)] at q
    rw [List.getElem?_replicate] at q
    split at q <;> cases q
theorem fun_ok {P : Program} {w : World} {K : PySem.W.Frag} {mg : Str → Option Value} {base : Heap} {x qual : Str} {st : Stmt} {f : Addr} {fd : FuncData} {N ps : List Str} {k : Nat} {sp : DSp} (Fn : Fun K x qual st f fd) (S : FnScope N ps (defScope st))
    (len : ∀ ds M Q, sp ds M Q → ds.length = ps.length)
    (body : ∀ (cdv : Value) (A : Around) (outer : List Env) (s : Shared) (H : Hp) (E : XK), Room k (A.deeper (envOfC qual (defScope st) s.heap.objs.size f cdv)) → ∀ ds M Q, sp ds M Q → ∀ B : Bs,
      SXs B (cxOf CX0 P w K mg base N qual (defScope st) f cdv A outer s H E).nox (defBody st) (En.df Q) (startD N ds) M) : FnOk P w K mg base CX0 (k + 1) f fd ps (lift K sp) := by
  refine Fn.ok S (fun vs H Q E ⟨F, ds, M, Qd, p, _, _, h, _⟩ => by rw [p.length]; exact len ds M Qd h) fun cdv A outer s H vs Q E hr ⟨F, ds, M, Qd, p, ex, me, h, kk⟩ => ?_
  refine ⟨_, pss_wss, body cdv A outer s H E hr ds M Qd h ⟨F, M, H⟩ F _ H _ ⟨start_ok p, ex, me, Same.refl F, Kp.refl M H⟩ ⟨?_, ?_, ?_, ?_⟩⟩
  · exact fun σ' H' F' G' M' q s' r' => kk .non M' q .non H' F' s' r'.bk r'.ex r'.mem .non
  · exact fun v H' F' d M' q s' ⟨_, _, r'⟩ rp => kk d M' q v H' F' s' r'.bk r'.ex r'.mem rp
  · exact fun _ _ _ _ _ q => False.elim q
  · exact fun _ _ _ _ _ q => False.elim q

/-! ### built-ins by name -/
/-- a built-in function or class, by its name -/
structure Blt (X : Cx) (x : Str) (f : Value) : Prop where
  g : Gl X x
  m : X.mg x = none
  v : bootBuiltins x = some f
  n : x ≠ "__name__"
  d : (x == ("__debug__" : Str)) = false
theorem ex_callB {id : String} (c : Blt X x (.builtin id)) (he : starEach (e :: es) X.env = (false, eval e X.env) :: starEach es X.env) (hpl : (backTo pos (starEach es X.env)).any (·.1) = false)
    (h : AX B X (e :: es) G M fun ds M1 => BX B X (.builtin id) ds G M1 Q) : EX B X (.Call (.Name x p) (e :: es) [] pos) G M Q := fun F σ H Q' r kk =>
  WE.of (pe_callB call_wc c.g c.m c.v pa_wa c.n c.d he hpl) (h F σ H _ r fun vs H1 F1 ds M1 q1 s1 r1 p1 => q1 F1 σ H1 Q' vs r1 p1 (kk.mono s1))
theorem ex_callTy {T : String} (c : Blt X x (.type T)) (he : starEach (e :: es) X.env = (false, eval e X.env) :: starEach es X.env) (hpl : (backTo pos (starEach es X.env)).any (·.1) = false)
    (h : AX B X (e :: es) G M fun ds M1 => BX B X (.type T) ds G M1 Q) : EX B X (.Call (.Name x p) (e :: es) [] pos) G M Q := fun F σ H Q' r kk =>
  WE.of (pe_callTy call_wc c.g c.m c.v pa_wa c.n c.d he hpl) (h F σ H _ r fun vs H1 F1 ds M1 q1 s1 r1 p1 => q1 F1 σ H1 Q' vs r1 p1 (kk.mono s1))
/-- a built-in as a value -/
theorem ex_ty {T : String} (c : Blt X x (.type T)) (q : Q (.ty T) M) : EX B X (.Name x pos) G M Q := fun F σ H Q' r kk =>
  WE.of (pe_bltn c.g c.m c.v (v := .ty T) rfl c.n c.d) (kk.at r q (.ty T))
theorem rp1 {K : PySem.W.Frag} {vs : List V} {d : D} (h : RpAll K F vs [d]) : ∃ v, vs = [v] ∧ Rp K F v d := by
  cases h with
  | cons p t => cases t; exact ⟨_, rfl, p⟩
theorem rp2 {K : PySem.W.Frag} {vs : List V} {d d2 : D} (h : RpAll K F vs [d, d2]) : ∃ v v2, vs = [v, v2] ∧ Rp K F v d ∧ Rp K F v2 d2 := by
  cases h with
  | cons p t =>
    obtain ⟨v, e, q⟩ := rp1 t
    subst e
    exact ⟨_, v, rfl, p, q⟩
theorem bx_lenL {ds : List D} (q : Q (.int (ds.length : Nat)) M) : BX B X (.builtin "len") [.lst ds] G M Q := fun F σ H Q' vs r pa kk => by
  obtain ⟨v, rfl, rp⟩ := rp1 pa
  cases rp with
  | @lst a xs _ hs rs => exact WC.of call_len_seq ⟨a, xs, rfl, .inl (SqL.of (r.ex _ _ hs)), by rw [rs.length]; exact kk.at r q (.int _)⟩
theorem bx_lenF {ds : List D} (q : Q (.int (ds.length : Nat)) M) : BX B X (.builtin "len") [.fzl ds] G M Q := fun F σ H Q' vs r pa kk => by
  obtain ⟨v, rfl, rp⟩ := rp1 pa
  cases rp with
  | @fzl a xs _ hs rs => exact WC.of call_len_seq ⟨a, xs, rfl, .inl (r.ex.seq hs), by rw [rs.length]; exact kk.at r q (.int _)⟩
theorem bx_lenT {ds : List D} (q : Q (.int (ds.length : Nat)) M) : BX B X (.builtin "len") [.tup ds] G M Q := fun F σ H Q' vs r pa kk => by
  obtain ⟨v, rfl, rp⟩ := rp1 pa
  cases rp with
  | @tup a xs _ hs rs => exact WC.of call_len_seq ⟨a, xs, rfl, .inr (sq_same r.ex hs), by rw [rs.length]; exact kk.at r q (.int _)⟩
theorem bx_lenC {l : Addr} {ds : List D} (hm : M l = some (.lst ds)) (q : Q (.int (ds.length : Nat)) M) : BX B X (.builtin "len") [.ref l] G M Q := fun F σ H Q' vs r pa kk => by
  obtain ⟨v, rfl, rp⟩ := rp1 pa
  cases rp
  obtain ⟨_, xs, hx, rx⟩ := r.mem l _ hm
  exact WC.of call_len_seq ⟨l, xs, rfl, .inl (.inl (.inl hx)), by rw [rx.length]; exact kk.at r q (.int _)⟩
theorem bx_lenS {z : Str} (hl : z.length ≤ sizeLine) (q : Q (.int (z.length : Nat)) M) : BX B X (.builtin "len") [.str z] G M Q := fun F σ H Q' vs r pa kk => by
  obtain ⟨v, rfl, rp⟩ := rp1 pa
  cases rp
  exact WC.of call_len_str ⟨z, rfl, hl, kk.at r q (.int _)⟩
/-- the built-in type of data -/
def D.tyN : D → String
  | .non => "NoneType" | .bl _ => "bool" | .int _ => "int" | .str _ => "str" | .tup _ => "tuple" | .lst _ => "list" | .dK _ => "dict" | .dT _ => "dict" | .ty _ => "type" | .ref _ => "object" | .fzl _ => "list"
def D.tyd : D → Bool
  | .ty _ => false | .ref _ => false | .fzl _ => false | _ => true
theorem Rp.tyx {K : PySem.W.Frag} {F H : Hp} {v : V} {d : D} (e : Same F H) (r : Rp K F v d) (h : d.tyd = true) : TyX K H v (.type d.tyN) := by
  cases r with
  | non => exact .base .non
  | bl b => exact .base (.bl b)
  | int i => exact .base (.int i)
  | str x => exact .base (.str x)
  | ref a => cases h
  | ty n => cases h
  | tup hs _ =>
    rcases hs with (hs | ⟨ob, hs⟩) | ⟨ob, _, _, hk, hc, _⟩
    · exact .base (.tup (e _ _ hs))
    · exact .fTuple (e _ _ hs)
    · exact .kTuple hk hc
  | lst hs _ => exact .base (.lst (e _ _ hs))
  | fzl _ _ => cases h
  | dK hs _ => exact .base (.dK (e _ _ hs))
  | dT hs _ => exact .base (.dT (e _ _ hs))
theorem bx_isi {d : D} {T : String} {b : Bool} (hd : d.tyd = true) (hk : kitB d.tyN T = some b) (q : Q (.bl b) M) : BX B X (.builtin "isinstance") [d, .ty T] G M Q := fun F σ H Q' vs r pa kk => by
  obtain ⟨v, v2, rfl, rp, r2⟩ := rp2 pa
  cases r2
  exact WC.of call_isi ⟨v, .ty T, _, _, b, rfl, .ty T, rp.tyx r.ex hd, kit_ty hk, kk.at r q (.bl b)⟩
/-- the classes of a tuple -/
def tyNs : List D → Option (List String)
  | [] => some []
  | .ty T :: r => (tyNs r).map (T :: ·)
  | _ => none
def kitBs (a : String) : List String → Option Bool
  | [] => some false
  | T :: r => match kitB a T with
    | some true => some true
    | some false => kitBs a r
    | none => none
theorem tyNs_cls {K : PySem.W.Frag} : ∀ {ds : List D} {vs : List V} {Ts : List String}, tyNs ds = some Ts → RpAll K F vs ds → Paired ClsV vs (Ts.map Value.type)
  | [], _, Ts, h, p => by cases p; cases h; exact .nil
  | .ty T :: ds, _, Ts, h, .cons p r => by
    cases p
    unfold tyNs at h
    cases e : tyNs ds with
    | none => rw [e] at h; cases h
    | some Us =>
      rw [e] at h
      cases h
      exact .cons (.ty T) (tyNs_cls e r)
theorem kitBs_any {K : PySem.W.Frag} {a : String} {b : Bool} : ∀ {Ts : List String}, kitBs a Ts = some b → PySem.W.kitAny K (.type a) (Ts.map Value.type) = some b
  | [], h => by cases h; exact kitAny_nil
  | T :: Ts, h => by
    unfold kitBs at h
    split at h
    · rename_i e
      cases h
      exact kitAny_cons (kit_ty e) (fun z => nomatch z) (fun _ => rfl)
    · rename_i e
      exact kitAny_cons (kit_ty e) (fun _ => kitBs_any h) (fun z => nomatch z)
    · cases h
theorem call_isiS : CallR X (.builtin "isinstance") (fun xs H Q => ∃ (x : V) (tp : Addr) (cs : List V) (t : Value) (us : List Value) (b : Bool), xs = [x, .ref tp] ∧ SqT X.K H tp cs ∧ Paired ClsV cs us ∧ TyX X.K H x t ∧ PySem.W.kitAny X.K t us = some b ∧ Q (.bl b) H) := by
  intro pins s σ H xs us Q I r h
  obtain ⟨x, tp, cs, t, ws, b, rfl, hT, k, ty, e, q⟩ := h
  obtain ⟨u1, u2, rfl, r1, r2⟩ := vals2 r
  cases (show u2 = Value.ref tp from r2)
  obtain ⟨P, Z, p, hx⟩ := kit_of I r1 ty
  obtain ⟨its, rv, ⟨o, h1, h2, n, h3⟩, _⟩ := I.tuple hT
  have e3 := ClsV.all k rv
  subst e3
  obtain ⟨oc, od, dt, sl⟩ := o
  simp only at h2 h3
  subst h2 h3
  exact PySem.W.kia_tup Z I.kIn p h1 e hx fun tk => ⟨.bl b, H, I.tok tk, rfl, q⟩
theorem bx_isiT {d : D} {ts : List D} {Ts : List String} {b : Bool} (hd : d.tyd = true) (ht : tyNs ts = some Ts) (hk : kitBs d.tyN Ts = some b) (q : Q (.bl b) M) : BX B X (.builtin "isinstance") [d, .tup ts] G M Q := fun F σ H Q' vs r pa kk => by
  obtain ⟨v, v2, rfl, rp, r2⟩ := rp2 pa
  cases r2 with
  | @tup a xs _ hs rs => exact WC.of call_isiS ⟨v, a, xs, _, _, b, rfl, sq_same r.ex hs, tyNs_cls ht rs, rp.tyx r.ex hd, kitBs_any hk, kk.at r q (.bl b)⟩
end
end FL

namespace FL
open PySem PySem.Spec PyProof.Rows L2
def atB (N : List Str) (sc : Scope) (i : Nat) (x : Str) : Bool := decide (N[i]? = some x) && ((match sc.names.lookup x with | some .local => true | some .cell => true | _ => false) && (!(x == ("__debug__" : Str)) && !(x == ("__classdict__" : Str))))
section
variable {X : Cx} {N : List Str} {sc : Scope} {i : Nat} {x : Str}
theorem atB_parts (h : atB N sc i x = true) : N[i]? = some x ∧ (sc.names.lookup x = some .local ∨ sc.names.lookup x = some .cell) ∧ (x == ("__debug__" : Str)) = false ∧ (x == ("__classdict__" : Str)) = false := by
  unfold atB at h
  obtain ⟨h1, h⟩ := Bool.and_eq_true_iff.mp h
  obtain ⟨h2, h⟩ := Bool.and_eq_true_iff.mp h
  obtain ⟨h3, h4⟩ := Bool.and_eq_true_iff.mp h
  refine ⟨of_decide_eq_true h1, ?_, by simpa using h3, by simpa using h4⟩
  split at h2
  · left; assumption
  · right; assumption
  · cases h2
theorem At.of (hN : X.N = N) (hs : X.env.scope = sc) (h : atB N sc i x = true) : At X i x := by
  obtain ⟨h1, h2, h3, h4⟩ := atB_parts h
  refine ⟨by rw [hN]; exact h1, ?_, h3, h4⟩
  rw [hs]
  rcases h2 with h2 | h2
  · exact .inl h2
  · exact .inr (.inl h2)
theorem Lc.of (nd : N.Nodup) (hN : X.N = N) (hs : X.env.scope = sc) (hf : X.fn x = true ∨ X.env.scope.names.lookup x = some .local) (h : atB N sc i x = true) : Lc X i x := by
  obtain ⟨h1, h2, h3, h4⟩ := atB_parts h
  refine ⟨by rw [hN]; exact nd, by rw [hN]; exact h1, ?_, hf⟩
  rw [hs]
  exact h2
theorem At.b (hN : X.N[i]? = some x) (hv : Vis X.env.scope x) (hd : (x == ("__debug__" : Str)) = false := by decide) (hc : (x == ("__classdict__" : Str)) = false := by decide) : At X i x := ⟨hN, hv, hd, hc⟩
theorem Gb.of {d : D} {u : Value} {v : V} (g : Gl X x) (m : X.mg x = some u) (r : RelV v u) (h : ∀ F, Rp X.K F v d) (hd : (x == ("__debug__" : Str)) = false := by decide) : Gb X x d := ⟨g, ⟨u, v, m, r, h⟩, hd⟩
end
/-- a constant of the module -/
def Cst (K : PySem.W.Frag) (mg : Str → Option Value) (x : Str) (d : D) : Prop := ∃ u v, mg x = some u ∧ RelV v u ∧ ∀ F, Rp K F v d
theorem Gb.ofC {X : Cx} {x : Str} {d : D} (g : Gl X x) (h : Cst X.K X.mg x d) (hd : (x == ("__debug__" : Str)) = false := by decide) : Gb X x d := ⟨g, h, hd⟩
theorem Blt.blk {X : Cx} {x : Str} {f : Value} {s : Shared} {H : Hp} {scope : Scope} {cenv : Env} {fp : List Addr} (h : Blt X x f) (g : Gl (X.blk s H scope cenv fp) x) : Blt (X.blk s H scope cenv fp) x f := ⟨g, h.m, h.v, h.n, h.d⟩
theorem Gb.blk {X : Cx} {x : Str} {d : D} {s : Shared} {H : Hp} {scope : Scope} {cenv : Env} {fp : List Addr} (h : Gb X x d) (g : Gl (X.blk s H scope cenv fp) x) : Gb (X.blk s H scope cenv fp) x d := ⟨g, h.m, h.d⟩
theorem ite_dec {p A B : Prop} [Decidable p] (h1 : p → A) (h2 : ¬ p → B) : if decide p = true then A else B := by
  by_cases h : p
  · rw [decide_eq_true h]; exact iteT (h1 h)
  · rw [decide_eq_false h]; exact iteF (h2 h)
theorem ite_ndec {p A B : Prop} [Decidable p] (h1 : ¬ p → A) (h2 : p → B) : if (!decide p) = true then A else B := by
  by_cases h : p
  · rw [decide_eq_true h]; exact iteF (h2 h)
  · rw [decide_eq_false h]; exact iteT (h1 h)
theorem ite_b {b : Bool} {A B : Prop} (h1 : b = true → A) (h2 : b = false → B) : if b = true then A else B := by
  cases b with
  | true => exact iteT (h1 rfl)
  | false => exact iteF (h2 rfl)
theorem ite_nb {b : Bool} {A B : Prop} (h1 : b = false → A) (h2 : b = true → B) : if (!b) = true then A else B := by
  cases b with
  | true => exact iteF (h2 rfl)
  | false => exact iteT (h1 rfl)
theorem iteT' {c : Bool} {A B : Prop} (e : c = true) (h : A) : if c = true then A else B := by rw [if_pos e]; exact h
theorem iteF' {c : Bool} {A B : Prop} (e : c = false) (h : B) : if c = true then A else B := by rw [e]; exact iteF h
theorem asB_bl {Q : Bool → Mem → Prop} {b : Bool} {M : Mem} (h : Q b M) : AsB Q (.bl b) M := h
theorem ixN_nat {n j : Nat} (h : j < n) : ixN n (j : Int) = some j := by
  unfold ixN
  rw [if_pos (by omega), if_pos (by omega)]
  rfl
theorem atI_of {ds : List D} {i : Int} {j : Nat} {d : D} (e : i = (j : Int)) (h : ds[j]? = some d) : atI ds i = some d := by rw [e]; exact atI_nat h
end FL

namespace FL
open PySem PySem.Spec PyProof.Rows L2
section
variable {B : Bs} {X : Cx} {a b c e o tg iter elt : Expr} {es : List Expr} {G G' : Sl} {M M' : Mem} {Q : D → Mem → Prop} {E : En} {pos p pos' apos : Pos} {F F1 : Hp} {σ : L2.St} {k : Nat} {x y : Str} {i : Int}

/-! ### flat data -/
def D.toV : D → V
  | .bl b => .bl b | .int i => .int i | .str x => .str x | _ => .non
def D.flat : D → Bool
  | .non => true | .bl _ => true | .int _ => true | .str _ => true | _ => false
theorem Rp.flat {K : PySem.W.Frag} {v : V} {d : D} (r : Rp K F v d) (h : d.flat = true) : v = d.toV ∧ flatV d.toV = true := by
  cases r <;> first | exact ⟨rfl, rfl⟩ | cases h
theorem RpAll.flat {K : PySem.W.Frag} : ∀ {vs : List V} {ds : List D}, RpAll K F vs ds → ds.all D.flat = true → vs = ds.map D.toV ∧ (ds.map D.toV).all flatV = true
  | _, _, .nil, _ => ⟨rfl, rfl⟩
  | _, _, .cons r t, h => by
    obtain ⟨h1, h2⟩ := Bool.and_eq_true_iff.mp (show (_ && _) = true from h)
    obtain ⟨e1, f1⟩ := r.flat h1
    obtain ⟨e2, f2⟩ := RpAll.flat t h2
    refine ⟨by rw [e1, e2]; rfl, ?_⟩
    show (_ && _) = true
    rw [f1]; exact f2
def inD (d : D) (ds : List D) : Bool := inV d.toV (ds.map D.toV)
theorem in_core {neg : Bool} {op : CmpOp} {d : D} {ds : List D} {v : V} {pa : Addr} {H : Hp} {Q' : VK} (ho : OpR X (compareOp op) (rIn X.K neg)) (r : R B X.K F σ H G M) (p1 : Rp X.K F v d) (hf : d.flat = true) (ha : ds.all D.flat = true) (xs : List V) (hs : SqL X.K H pa xs ∨ SqT X.K H pa xs) (rs : RpAll X.K F xs ds)
    (q : Q (.bl (if neg then !inD d ds else inD d ds)) M) (kk : KE B X F σ G Q Q') : WO X (compareOp op) v (.ref pa) H Q' := by
  obtain ⟨e1, f1⟩ := p1.flat hf
  obtain ⟨e2, f2⟩ := rs.flat ha
  subst e1; subst e2
  exact WO.of ho ⟨pa, _, rfl, hs, f1, f2, kk.at r q (.bl _)⟩
theorem ox_inT {d : D} {ds : List D} (hf : d.flat = true) (ha : ds.all D.flat = true) (q : Q (.bl (inD d ds)) M) : OX B X (compareOp .In) d (.tup ds) G M Q := fun F σ H Q' v w r p1 p2 kk => by
  cases p2 with
  | @tup a xs _ hs rs => exact in_core op_in_seq r p1 hf ha xs (.inr (sq_same r.ex hs)) rs q kk
theorem ox_inL {d : D} {ds : List D} (hf : d.flat = true) (ha : ds.all D.flat = true) (q : Q (.bl (inD d ds)) M) : OX B X (compareOp .In) d (.lst ds) G M Q := fun F σ H Q' v w r p1 p2 kk => by
  cases p2 with
  | @lst a xs _ hs rs => exact in_core op_in_seq r p1 hf ha xs (.inl (SqL.of (r.ex _ _ hs))) rs q kk
theorem ox_notInT {d : D} {ds : List D} (hf : d.flat = true) (ha : ds.all D.flat = true) (q : Q (.bl (!inD d ds)) M) : OX B X (compareOp .NotIn) d (.tup ds) G M Q := fun F σ H Q' v w r p1 p2 kk => by
  cases p2 with
  | @tup a xs _ hs rs => exact in_core op_notIn_seq r p1 hf ha xs (.inr (sq_same r.ex hs)) rs q kk
theorem ox_notInL {d : D} {ds : List D} (hf : d.flat = true) (ha : ds.all D.flat = true) (q : Q (.bl (!inD d ds)) M) : OX B X (compareOp .NotIn) d (.lst ds) G M Q := fun F σ H Q' v w r p1 p2 kk => by
  cases p2 with
  | @lst a xs _ hs rs => exact in_core op_notIn_seq r p1 hf ha xs (.inl (SqL.of (r.ex _ _ hs))) rs q kk
theorem ox_inC {d : D} {l : Addr} {ds : List D} (hm : M l = some (.lst ds)) (hf : d.flat = true) (ha : ds.all D.flat = true) (q : Q (.bl (inD d ds)) M) : OX B X (compareOp .In) d (.ref l) G M Q := fun F σ H Q' v w r p1 p2 kk => by
  cases p2
  obtain ⟨_, xs, hx, rx⟩ := r.mem l _ hm
  exact in_core op_in_seq r p1 hf ha xs (.inl (.inl (.inl hx))) rx q kk
theorem ox_notInC {d : D} {l : Addr} {ds : List D} (hm : M l = some (.lst ds)) (hf : d.flat = true) (ha : ds.all D.flat = true) (q : Q (.bl (!inD d ds)) M) : OX B X (compareOp .NotIn) d (.ref l) G M Q := fun F σ H Q' v w r p1 p2 kk => by
  cases p2
  obtain ⟨_, xs, hx, rx⟩ := r.mem l _ hm
  exact in_core op_notIn_seq r p1 hf ha xs (.inl (.inl (.inl hx))) rx q kk
theorem str_beq_iff {x y : Str} : (x == y) = decide (x = y) := Bool.beq_eq_decide_eq x y
theorem inD_str : ∀ {xs : List Str}, inD (.str x) (xs.map D.str) = decide (x ∈ xs)
  | [] => by simp [inD, inV]
  | y :: ys => by
    have ih : inD (.str x) (ys.map D.str) = decide (x ∈ ys) := inD_str
    have e : inD (.str x) ((y :: ys).map D.str) = ((y == x) || inD (.str x) (ys.map D.str)) := rfl
    rw [e, ih, str_beq_iff]
    by_cases h : y = x
    · subst h; simp
    · have h' : ¬ x = y := fun z => h z.symm
      simp [h, h']
theorem inD_int {n : Int} : ∀ {xs : List Int}, inD (.int n) (xs.map D.int) = decide (n ∈ xs)
  | [] => by simp [inD, inV]
  | y :: ys => by
    have ih : inD (.int n) (ys.map D.int) = decide (n ∈ ys) := inD_int
    have e : inD (.int n) ((y :: ys).map D.int) = ((y == n) || inD (.int n) (ys.map D.int)) := rfl
    rw [e, ih, Bool.beq_eq_decide_eq]
    by_cases h : y = n
    · subst h; simp
    · have h' : ¬ n = y := fun z => h z.symm
      simp [h, h']
theorem flat_strs {xs : List Str} : (xs.map D.str).all D.flat = true := by simp [D.flat]
theorem flat_ints {xs : List Int} : (xs.map D.int).all D.flat = true := by simp [D.flat]
/-- one sign in a text -/
theorem ox_inS {n : Nat} (q : Q (.bl (decide (n ∈ x.cps.toList))) M) : OX B X (compareOp .In) (.str ⟨#[n]⟩) (.str x) G M Q := fun F σ H Q' v w r p1 p2 kk => by
  cases p1; cases p2; exact WO.of op_in_sign ⟨n, x, rfl, rfl, kk.at r q (.bl _)⟩
theorem ox_notInS {n : Nat} (q : Q (.bl (!decide (n ∈ x.cps.toList))) M) : OX B X (compareOp .NotIn) (.str ⟨#[n]⟩) (.str x) G M Q := fun F σ H Q' v w r p1 p2 kk => by
  cases p1; cases p2; exact WO.of op_notIn_sign ⟨n, x, rfl, rfl, kk.at r q (.bl _)⟩

/-! ### built-in names -/
theorem bb_len : bootBuiltins "len" = some (.builtin "len") := by decide +kernel
theorem bb_isinstance : bootBuiltins "isinstance" = some (.builtin "isinstance") := by decide +kernel
theorem bb_max : bootBuiltins "max" = some (.builtin "max") := by decide +kernel
theorem bb_min : bootBuiltins "min" = some (.builtin "min") := by decide +kernel
theorem bb_sorted : bootBuiltins "sorted" = some (.builtin "sorted") := by decide +kernel
theorem bb_int : bootBuiltins "int" = some (.type "int") := by decide +kernel
theorem bb_bool : bootBuiltins "bool" = some (.type "bool") := by decide +kernel
theorem bb_str : bootBuiltins "str" = some (.type "str") := by decide +kernel
theorem bb_tuple : bootBuiltins "tuple" = some (.type "tuple") := by decide +kernel
theorem bb_list : bootBuiltins "list" = some (.type "list") := by decide +kernel
theorem bb_dict : bootBuiltins "dict" = some (.type "dict") := by decide +kernel
theorem bb_set : bootBuiltins "set" = some (.type "set") := by decide +kernel
theorem bb_enumerate : bootBuiltins "enumerate" = some (.type "enumerate") := by decide +kernel
theorem bb_range : bootBuiltins "range" = some (.type "range") := by decide +kernel
/-! ### isinstance -/
def D.isI : D → Bool
  | .int _ => true | .bl _ => true | _ => false
def D.isB : D → Bool
  | .bl _ => true | _ => false
def D.isS : D → Bool
  | .str _ => true | _ => false
def D.isT : D → Bool
  | .tup _ => true | _ => false
def D.isL : D → Bool
  | .lst _ => true | _ => false
theorem kitI {d : D} (hd : d.tyd = true) : kitB d.tyN "int" = some d.isI := by
  cases d with
  | non => exact (by decide +kernel : kitB "NoneType" "int" = some false)
  | bl => exact (by decide +kernel : kitB "bool" "int" = some true)
  | int => exact (by decide +kernel : kitB "int" "int" = some true)
  | str => exact (by decide +kernel : kitB "str" "int" = some false)
  | tup => exact (by decide +kernel : kitB "tuple" "int" = some false)
  | lst => exact (by decide +kernel : kitB "list" "int" = some false)
  | dK => exact (by decide +kernel : kitB "dict" "int" = some false)
  | dT => exact (by decide +kernel : kitB "dict" "int" = some false)
  | ref _ => cases hd
  | fzl _ => cases hd
  | ty _ => cases hd
theorem kitBo {d : D} (hd : d.tyd = true) : kitB d.tyN "bool" = some d.isB := by
  cases d with
  | non => exact (by decide +kernel : kitB "NoneType" "bool" = some false)
  | bl => exact (by decide +kernel : kitB "bool" "bool" = some true)
  | int => exact (by decide +kernel : kitB "int" "bool" = some false)
  | str => exact (by decide +kernel : kitB "str" "bool" = some false)
  | tup => exact (by decide +kernel : kitB "tuple" "bool" = some false)
  | lst => exact (by decide +kernel : kitB "list" "bool" = some false)
  | dK => exact (by decide +kernel : kitB "dict" "bool" = some false)
  | dT => exact (by decide +kernel : kitB "dict" "bool" = some false)
  | ref _ => cases hd
  | fzl _ => cases hd
  | ty _ => cases hd
theorem kitS {d : D} (hd : d.tyd = true) : kitB d.tyN "str" = some d.isS := by
  cases d with
  | non => exact (by decide +kernel : kitB "NoneType" "str" = some false)
  | bl => exact (by decide +kernel : kitB "bool" "str" = some false)
  | int => exact (by decide +kernel : kitB "int" "str" = some false)
  | str => exact (by decide +kernel : kitB "str" "str" = some true)
  | tup => exact (by decide +kernel : kitB "tuple" "str" = some false)
  | lst => exact (by decide +kernel : kitB "list" "str" = some false)
  | dK => exact (by decide +kernel : kitB "dict" "str" = some false)
  | dT => exact (by decide +kernel : kitB "dict" "str" = some false)
  | ref _ => cases hd
  | fzl _ => cases hd
  | ty _ => cases hd
theorem kitT {d : D} (hd : d.tyd = true) : kitB d.tyN "tuple" = some d.isT := by
  cases d with
  | non => exact (by decide +kernel : kitB "NoneType" "tuple" = some false)
  | bl => exact (by decide +kernel : kitB "bool" "tuple" = some false)
  | int => exact (by decide +kernel : kitB "int" "tuple" = some false)
  | str => exact (by decide +kernel : kitB "str" "tuple" = some false)
  | tup => exact (by decide +kernel : kitB "tuple" "tuple" = some true)
  | lst => exact (by decide +kernel : kitB "list" "tuple" = some false)
  | dK => exact (by decide +kernel : kitB "dict" "tuple" = some false)
  | dT => exact (by decide +kernel : kitB "dict" "tuple" = some false)
  | ref _ => cases hd
  | fzl _ => cases hd
  | ty _ => cases hd
theorem kitL {d : D} (hd : d.tyd = true) : kitB d.tyN "list" = some d.isL := by
  cases d with
  | non => exact (by decide +kernel : kitB "NoneType" "list" = some false)
  | bl => exact (by decide +kernel : kitB "bool" "list" = some false)
  | int => exact (by decide +kernel : kitB "int" "list" = some false)
  | str => exact (by decide +kernel : kitB "str" "list" = some false)
  | tup => exact (by decide +kernel : kitB "tuple" "list" = some false)
  | lst => exact (by decide +kernel : kitB "list" "list" = some true)
  | dK => exact (by decide +kernel : kitB "dict" "list" = some false)
  | dT => exact (by decide +kernel : kitB "dict" "list" = some false)
  | ref _ => cases hd
  | fzl _ => cases hd
  | ty _ => cases hd
theorem kitTL {d : D} (hd : d.tyd = true) : kitBs d.tyN ["tuple", "list"] = some (d.isT || d.isL) := by
  cases d with
  | non => exact (by decide +kernel : kitBs "NoneType" ["tuple", "list"] = some false)
  | bl => exact (by decide +kernel : kitBs "bool" ["tuple", "list"] = some false)
  | int => exact (by decide +kernel : kitBs "int" ["tuple", "list"] = some false)
  | str => exact (by decide +kernel : kitBs "str" ["tuple", "list"] = some false)
  | tup => exact (by decide +kernel : kitBs "tuple" ["tuple", "list"] = some true)
  | lst => exact (by decide +kernel : kitBs "list" ["tuple", "list"] = some true)
  | dK => exact (by decide +kernel : kitBs "dict" ["tuple", "list"] = some false)
  | dT => exact (by decide +kernel : kitBs "dict" ["tuple", "list"] = some false)
  | ref _ => cases hd
  | fzl _ => cases hd
  | ty _ => cases hd
theorem bx_isiI {d : D} (hd : d.tyd = true) (q : Q (.bl d.isI) M) : BX B X (.builtin "isinstance") [d, .ty "int"] G M Q := bx_isi hd (kitI hd) q
theorem bx_isiB {d : D} (hd : d.tyd = true) (q : Q (.bl d.isB) M) : BX B X (.builtin "isinstance") [d, .ty "bool"] G M Q := bx_isi hd (kitBo hd) q
theorem bx_isiSt {d : D} (hd : d.tyd = true) (q : Q (.bl d.isS) M) : BX B X (.builtin "isinstance") [d, .ty "str"] G M Q := bx_isi hd (kitS hd) q
theorem bx_isiTu {d : D} (hd : d.tyd = true) (q : Q (.bl d.isT) M) : BX B X (.builtin "isinstance") [d, .ty "tuple"] G M Q := bx_isi hd (kitT hd) q
theorem bx_isiLi {d : D} (hd : d.tyd = true) (q : Q (.bl d.isL) M) : BX B X (.builtin "isinstance") [d, .ty "list"] G M Q := bx_isi hd (kitL hd) q
theorem bx_isiTL {d : D} (hd : d.tyd = true) (q : Q (.bl (d.isT || d.isL)) M) : BX B X (.builtin "isinstance") [d, .tup [.ty "tuple", .ty "list"]] G M Q := bx_isiT hd rfl (kitTL hd) q

/-! ### list(..), tuple(..), int(..), str(..) -/
theorem bx_listL {ds : List D} (q : Q (.lst ds) M) : BX B X (.type "list") [.lst ds] G M Q := fun F σ H Q' vs r pa kk => by
  obtain ⟨v, rfl, rp⟩ := rp1 pa
  cases rp with
  | @lst a xs _ hs rs => exact WC.of call_list_of ⟨a, xs, rfl, .inl (SqL.of (r.ex _ _ hs)), fun l hl => kk.new r hl q (.lst upd_same (rs.mono (r.new hl).1))⟩
theorem bx_listT {ds : List D} (q : Q (.lst ds) M) : BX B X (.type "list") [.tup ds] G M Q := fun F σ H Q' vs r pa kk => by
  obtain ⟨v, rfl, rp⟩ := rp1 pa
  cases rp with
  | @tup a xs _ hs rs => exact WC.of call_list_of ⟨a, xs, rfl, .inr (sq_same r.ex hs), fun l hl => kk.new r hl q (.lst upd_same (rs.mono (r.new hl).1))⟩
theorem bx_listLM {ds : List D} (q : ∀ l, M l = none → Q (.ref l) (mupd M l (.lst ds))) : BX B X (.type "list") [.lst ds] G M Q := fun F σ H Q' vs r pa kk => by
  obtain ⟨v, rfl, rp⟩ := rp1 pa
  cases rp with
  | @lst a xs _ hs rs => exact WC.of call_list_of ⟨a, xs, rfl, .inl (SqL.of (r.ex _ _ hs)), fun l hl => kk.cell r hl (q l (r.freeM hl)) ⟨xs, upd_same, rs⟩⟩
theorem bx_listTM {ds : List D} (q : ∀ l, M l = none → Q (.ref l) (mupd M l (.lst ds))) : BX B X (.type "list") [.tup ds] G M Q := fun F σ H Q' vs r pa kk => by
  obtain ⟨v, rfl, rp⟩ := rp1 pa
  cases rp with
  | @tup a xs _ hs rs => exact WC.of call_list_of ⟨a, xs, rfl, .inr (sq_same r.ex hs), fun l hl => kk.cell r hl (q l (r.freeM hl)) ⟨xs, upd_same, rs⟩⟩
theorem bx_listC {l : Addr} {ds : List D} (hm : M l = some (.lst ds)) (q : Q (.lst ds) M) : BX B X (.type "list") [.ref l] G M Q := fun F σ H Q' vs r pa kk => by
  obtain ⟨v, rfl, rp⟩ := rp1 pa
  cases rp
  obtain ⟨_, xs, hx, rx⟩ := r.mem l _ hm
  exact WC.of call_list_of ⟨l, xs, rfl, .inl (.inl (.inl hx)), fun l hl => kk.new r hl q (.lst upd_same (rx.mono (r.new hl).1))⟩
theorem bx_tupL {ds : List D} (q : Q (.tup ds) M) : BX B X (.type "tuple") [.lst ds] G M Q := fun F σ H Q' vs r pa kk => by
  obtain ⟨v, rfl, rp⟩ := rp1 pa
  cases rp with
  | @lst a xs _ hs rs => exact WC.of call_tuple_of ⟨a, xs, rfl, .inl ⟨SqL.of (r.ex _ _ hs), fun l hl => kk.new r hl q (.tup sq_upd (rs.mono (r.new hl).1))⟩⟩
theorem bx_tupC {l : Addr} {ds : List D} (hm : M l = some (.lst ds)) (q : Q (.tup ds) M) : BX B X (.type "tuple") [.ref l] G M Q := fun F σ H Q' vs r pa kk => by
  obtain ⟨v, rfl, rp⟩ := rp1 pa
  cases rp
  obtain ⟨_, xs, hx, rx⟩ := r.mem l _ hm
  exact WC.of call_tuple_of ⟨l, xs, rfl, .inl ⟨.inl (.inl hx), fun l hl => kk.new r hl q (.tup sq_upd (rx.mono (r.new hl).1))⟩⟩
theorem bx_strI (h : i.natAbs.log2 < 1920) (q : Q (.str (toString i)) M) : BX B X (.type "str") [.int i] G M Q := fun F σ H Q' vs r pa kk => by
  obtain ⟨v, rfl, rp⟩ := rp1 pa
  cases rp
  exact WC.of call_str_int ⟨i, rfl, h, kk.at r q (.str _)⟩
theorem bx_intS {n : Int} (h : PySem.intText? x = some n) (hl : x.length ≤ 640) (q : Q (.int n) M) : BX B X (.type "int") [.str x] G M Q := fun F σ H Q' vs r pa kk => by
  obtain ⟨v, rfl, rp⟩ := rp1 pa
  cases rp
  exact WC.of call_int_str ⟨x, n, rfl, h, hl, kk.at r q (.int _)⟩
theorem bx_intB {t : Bool} (q : Q (.int (if t then 1 else 0)) M) : BX B X (.type "int") [.bl t] G M Q := fun F σ H Q' vs r pa kk => by
  obtain ⟨v, rfl, rp⟩ := rp1 pa
  cases rp
  exact WC.of call_int1 (.inr ⟨t, rfl, kk.at r q (.int _)⟩)
theorem bx_max2 {i j : Int} (hc : X.calm = true) (q : Q (.int (if j > i then j else i)) M) : BX B X (.builtin "max") [.int i, .int j] G M Q := fun F σ H Q' vs r pa kk => by
  obtain ⟨v, v2, rfl, rp, rp2⟩ := rp2 pa
  cases rp; cases rp2
  exact WC.of (call_max2 hc) ⟨i, j, rfl, kk.at r q (.int _)⟩
theorem bx_min2 {i j : Int} (hc : X.calm = true) (q : Q (.int (if j < i then j else i)) M) : BX B X (.builtin "min") [.int i, .int j] G M Q := fun F σ H Q' vs r pa kk => by
  obtain ⟨v, v2, rfl, rp, rp2⟩ := rp2 pa
  cases rp; cases rp2
  exact WC.of (call_min2 hc) ⟨i, j, rfl, kk.at r q (.int _)⟩

/-! ### methods of texts -/
theorem ex_m1 {id : String} {name : Str} (slot : Slot "str" name id) (ty : typeOf (.builtin id) = pure (.type "method_descriptor")) (hs : starEach [e] X.env = [(false, eval e X.env)]) (hbase : attributeBase o name X.env (eval o X.env) = eval o X.env) (hline : (apos.endLine == pos.line) = true)
    (h : EX B X o G M fun d M1 => ∃ z, d = .str z ∧ EX B X e G M1 fun y M2 => MX B X id d [y] G M2 Q) : EX B X (.Call (.Attribute o name apos) [e] [] pos) G M Q := fun F σ H Q' r kk =>
  WE.of (pe_m1 slot ty mt_wm pe_we pe_we hs hbase hline) (h F σ H _ r fun v1 H1 F1 d1 M1 ⟨z, e1, q1⟩ s1 r1 p1 => by
    subst e1
    cases p1
    exact ⟨⟨z, rfl⟩, q1 F1 σ H1 _ r1 fun v2 H2 F2 d2 M2 q2 s2 r2 p2 => q2 F2 σ H2 Q' _ _ r2 (.str z) (.cons p2 .nil) (kk.mono (s1.trans s2))⟩)
theorem mx_split (hy : (y.length == 0) = false) (hx : x.length + 2 ≤ sizeLine) (q : Q (.lst ((Txt.split x y).map D.str)) M) : MX B X "str.split" (.str x) [.str y] G M Q := fun F σ H Q' v vs r p1 pa kk => by
  obtain ⟨v2, rfl, rp⟩ := rp1 pa
  cases p1; cases rp
  exact WM.of mt_split ⟨x, y, rfl, rfl, hy, hx, fun p hp => kk.new r hp q (.lst upd_same RpAll.strs)⟩
theorem RpAll.strs_of {K : PySem.W.Frag} : ∀ {zs : List Str} {vs : List V}, RpAll K F vs (zs.map D.str) → vs = zs.map V.str
  | [], _, h => by cases h; rfl
  | z :: zs, _, h => by
    cases h with
    | cons p t =>
      cases p
      rw [RpAll.strs_of t]; rfl
theorem RpAll.ints_of {K : PySem.W.Frag} : ∀ {zs : List Int} {vs : List V}, RpAll K F vs (zs.map D.int) → vs = zs.map V.int
  | [], _, h => by cases h; rfl
  | z :: zs, _, h => by
    cases h with
    | cons p t =>
      cases p
      rw [RpAll.ints_of t]; rfl
theorem mx_join {zs : List Str} (hz : (zs.map (·.length)).sum + zs.length * x.length ≤ 16777216) (q : Q (.str (Txt.join x zs)) M) : MX B X "str.join" (.str x) [.lst (zs.map D.str)] G M Q := fun F σ H Q' v vs r p1 pa kk => by
  obtain ⟨v2, rfl, rp⟩ := rp1 pa
  cases p1
  cases rp with
  | @lst a xs _ hs rs =>
    have e := RpAll.strs_of rs
    subst e
    exact WM.of mt_join ⟨x, a, zs, rfl, rfl, .inl (SqL.of (r.ex _ _ hs)), hz, kk.at r q (.str _)⟩
/-- a text, sign by sign -/
def signsD (x : Str) : List D := x.cps.toList.map fun c => D.str ⟨#[c]⟩
theorem lx_str {Q : List D → Mem → Prop} (h : EX B X e G M fun d M1 => ∃ z, d = .str z ∧ Q (signsD z) M1) : LX B X tg e G M Q := fun F σ H R' r k =>
  WIt.of (pi_str pe_we) (h F σ H _ r fun v H1 F1 d1 M1 ⟨z, e1, q⟩ s1 r1 p1 => by
    subst e1
    cases p1
    refine ⟨z, rfl, k _ _ F1 _ M1 q s1 r1 ⟨fun i H hi s => ?_, fun H s => ?_, fun i H x H' hi s y => ?_⟩⟩
    · show i < z.cps.size
      simpa [signsD] using hi
    · show z.cps.size ≤ _
      simp [signsD]
    · obtain ⟨e, c, hc, hx⟩ := y
      subst e; subst hx
      refine ⟨.str ⟨#[c]⟩, ?_, fun B F1 σ G M s1 r1 => ⟨F1, Same.refl F1, r1, .str _⟩⟩
      unfold signsD
      rw [List.getElem?_map, Array.getElem?_toList, hc]
      rfl)

/-! ### f-strings -/
theorem ex_fmtS (h : EX B X e G M fun d M1 => ∃ z, d = .str z ∧ z.length ≤ sizeLine ∧ Q (.str z) M1) : EX B X (.FormattedValue e (-1) none pos) G M Q := fun F σ H Q' r kk =>
  WE.of (pe_fmt pe_we) (h F σ H _ r fun v H1 F1 d1 M1 ⟨z, e1, hl, q⟩ s1 r1 p1 => by
    subst e1; cases p1
    exact .inl ⟨z, rfl, hl, (kk.mono s1).at r1 q (.str _)⟩)
theorem ex_fmtI (h : EX B X e G M fun d M1 => ∃ i : Int, d = .int i ∧ i.natAbs.log2 < 1920 ∧ Q (.str (toString i)) M1) : EX B X (.FormattedValue e (-1) none pos) G M Q := fun F σ H Q' r kk =>
  WE.of (pe_fmt pe_we) (h F σ H _ r fun v H1 F1 d1 M1 ⟨i, e1, hl, q⟩ s1 r1 p1 => by
    subst e1; cases p1
    exact .inr ⟨i, rfl, hl, (kk.mono s1).at r1 q (.str _)⟩)
/-- the parts of a text, one behind the other -/
def JX (B : Bs) (X : Cx) : List Expr → Str → Sl → Mem → (Str → Mem → Prop) → Prop
  | [], acc, _, M, Q => Q acc M
  | e :: es, acc, G, M, Q => EX B X e G M fun d M1 => ∃ y, d = .str y ∧ (acc ++ y).length ≤ sizeLine ∧ JX B X es (acc ++ y) G M1 Q
theorem pj_we : ∀ es : List Expr, PJ X es (es.map (WE X))
  | [] => .nil
  | _ :: es => .cons pe_we (pj_we es)
theorem jx_ok {Q : Str → Mem → Prop} {Q' : Str → Hp → Prop} : ∀ {es : List Expr} {acc : Str} {M : Mem} {F H : Hp}, JX B X es acc G M Q → R B X.K F σ H G M → (∀ out H' F' M', Q out M' → Same F F' → R B X.K F' σ H' G M' → Q' out H') → tJs (es.map (WE X)) acc σ H Q'
  | [], acc, M, F, H, h, r, k => k acc H F M h (Same.refl F) r
  | e :: es, acc, M, F, H, h, r, k => by
    refine h F σ H _ r fun v H1 F1 d1 M1 ⟨z, e1, hl, q⟩ s1 r1 p1 => ?_
    subst e1; cases p1
    exact ⟨z, rfl, hl, jx_ok q r1 fun out H' F' M' qq s' r' => k out H' F' M' qq (s1.trans s') r'⟩
theorem ex_joined {v1 v2 : Expr} {rest : List Expr} (h : JX B X (v1 :: v2 :: rest) Str.empty G M fun out M1 => Q (.str out) M1) : EX B X (.JoinedStr (v1 :: v2 :: rest) pos) G M Q := fun F σ H Q' r kk =>
  WE.of (pe_joined (pj_we _)) (jx_ok h r fun out H' F' M' q s' r' => (kk.mono s').at r' q (.str out))
end

/-! ### equality of data -/
mutual
def D.py : D → PyData
  | .non => .none | .bl b => .bool b | .int i => .int i | .str x => .str x | .tup ds => .tuple (pys ds) | .lst ds => .list (pys ds)
  | .ref _ => .none | .ty _ => .none | .dK _ => .none | .dT _ => .none | .fzl _ => .none
def pys : List D → List PyData
  | [] => []
  | d :: ds => d.py :: pys ds
end
mutual
def D.isPy : D → Bool
  | .non => true | .bl _ => true | .int _ => true | .str _ => true | .tup ds => arePy ds | .lst ds => arePy ds
  | .ref _ => false | .ty _ => false | .dK _ => false | .dT _ => false | .fzl _ => false
def arePy : List D → Bool
  | [] => true
  | d :: ds => d.isPy && arePy ds
end
mutual
theorem Rp.dp {K : PySem.W.Frag} {F H : Hp} (s : Same F H) : ∀ {v : V} {d : D}, Rp K F v d → d.isPy = true → Dp K H v d.py
  | _, _, .non, _ => by unfold D.py; exact .non
  | _, _, .bl b, _ => by unfold D.py; exact .bl b
  | _, _, .int i, _ => by unfold D.py; exact .int i
  | _, _, .str x, _ => by unfold D.py; exact .str x
  | _, _, .ref _, h => by unfold D.isPy at h; cases h
  | _, _, .ty _, h => by unfold D.isPy at h; cases h
  | _, _, .tup hs r, h => by unfold D.isPy at h; unfold D.py; exact .tup (sq_same s hs) (RpAll.dp s r h)
  | _, _, .lst hs r, h => by unfold D.isPy at h; unfold D.py; exact .lst (SqL.of (s _ _ hs)) (RpAll.dp s r h)
  | _, _, .fzl _ _, h => by unfold D.isPy at h; cases h
  | _, _, .dK _ _, h => by unfold D.isPy at h; cases h
  | _, _, .dT _ _, h => by unfold D.isPy at h; cases h
theorem RpAll.dp {K : PySem.W.Frag} {F H : Hp} (s : Same F H) : ∀ {vs : List V} {ds : List D}, RpAll K F vs ds → arePy ds = true → DpAll K H vs (pys ds)
  | _, _, .nil, _ => by unfold pys; exact .nil
  | _, _, .cons p r, h => by
    unfold arePy at h
    obtain ⟨h1, h2⟩ := Bool.and_eq_true_iff.mp h
    unfold pys
    exact .cons (Rp.dp s p h1) (RpAll.dp s r h2)
end
def D.okEq (d : D) : Bool := d.isPy && SeqAt.shaped d.py
def eqD (d e : D) : Bool := PyData.eqv d.py e.py
section
variable {B : Bs} {X : Cx} {G : Sl} {M : Mem} {Q : D → Mem → Prop} {d d2 : D}
theorem ox_eqD (hu : X.A.units + 64 < cLine) (h1 : d.okEq = true) (h2 : d2.okEq = true) (q : Q (.bl (eqD d d2)) M) : OX B X (compareOp .Eq) d d2 G M Q := fun F σ H Q' v w r p1 p2 kk => by
  obtain ⟨a1, a2⟩ := Bool.and_eq_true_iff.mp h1
  obtain ⟨b1, b2⟩ := Bool.and_eq_true_iff.mp h2
  exact WO.of (op_eqD hu) ⟨_, _, p1.dp r.ex a1, p2.dp r.ex b1, a2, b2, kk.at r q (.bl _)⟩
theorem ox_neD (hu : X.A.units + 64 < cLine) (h1 : d.okEq = true) (h2 : d2.okEq = true) (q : Q (.bl (!eqD d d2)) M) : OX B X (compareOp .NotEq) d d2 G M Q := fun F σ H Q' v w r p1 p2 kk => by
  obtain ⟨a1, a2⟩ := Bool.and_eq_true_iff.mp h1
  obtain ⟨b1, b2⟩ := Bool.and_eq_true_iff.mp h2
  exact WO.of (op_neD hu) ⟨_, _, p1.dp r.ex a1, p2.dp r.ex b1, a2, b2, kk.at r q (.bl _)⟩
end
end FL

/-! cells that are only read by a callee; what is told is immutable -/
namespace FL
open PySem PySem.Spec PyProof.Rows L2
mutual
/-- the data with the list cells' contents in their places -/
inductive Deep (M : Mem) : D → D → Prop
  | self (d : D) : Deep M d d
  | cell {l : Addr} {ds es : List D} : M l = some (.lst ds) → DeepAll M ds es → Deep M (.ref l) (.lst es)
  | lst {ds es : List D} : DeepAll M ds es → Deep M (.lst ds) (.lst es)
  | tup {ds es : List D} : DeepAll M ds es → Deep M (.tup ds) (.tup es)
inductive DeepAll (M : Mem) : List D → List D → Prop
  | nil : DeepAll M [] []
  | cons {d e : D} {ds es : List D} : Deep M d e → DeepAll M ds es → DeepAll M (d :: ds) (e :: es)
end
theorem DeepAll.self {M : Mem} : ∀ ds : List D, DeepAll M ds ds
  | [] => .nil
  | d :: ds => .cons (.self d) (DeepAll.self ds)
section
variable {B : Bs} {K : PySem.W.Frag} {F H : Hp} {σ : L2.St} {G : Sl} {M : Mem}
mutual
theorem Deep.rp (r : R B K F σ H G M) : ∀ {d e : D}, Deep M d e → ∀ {v : V}, Rp K F v d → Rp K H v e
  | _, _, .self d, _, p => p.mono r.ex
  | _, _, .cell hm ha, _, p => by
    cases p
    obtain ⟨_, xs, hx, rx⟩ := r.mem _ _ hm
    exact .lst hx (DeepAll.rp r ha rx)
  | _, _, .lst ha, _, p => by
    cases p with
    | lst hs rs => exact .lst (r.ex _ _ hs) (DeepAll.rp r ha rs)
  | _, _, .tup ha, _, p => by
    cases p with
    | tup hs rs => exact .tup (sq_same r.ex hs) (DeepAll.rp r ha rs)
theorem DeepAll.rp (r : R B K F σ H G M) : ∀ {ds es : List D}, DeepAll M ds es → ∀ {vs : List V}, RpAll K F vs ds → RpAll K H vs es
  | _, _, .nil, _, p => by cases p; exact .nil
  | _, _, .cons h t, _, p => by
    cases p with
    | cons p1 p2 => exact .cons (Deep.rp r h p1) (DeepAll.rp r t p2)
end
end
mutual
def D.imm : D → Bool
  | .non => true | .bl _ => true | .int _ => true | .str _ => true | .ty _ => true | .tup ds => imms ds
  | .lst _ => false | .ref _ => false | .dK _ => false | .dT _ => false | .fzl _ => false
def imms : List D → Bool
  | [] => true
  | d :: ds => d.imm && imms ds
end
theorem MRp.kind {K : PySem.W.Frag} {F H : Hp} {a : Addr} : ∀ {o : MO}, MRp K F H a o → ∃ u, H a = some u ∧ (∀ xs, u ≠ .tup xs) ∧ ∀ ob w, u ≠ .frz ob w
  | .lst _, ⟨xs, h, r⟩ => ⟨_, h, (fun _ e => by cases e), (fun _ _ e => by cases e)⟩
  | .ins _ _, ⟨dx, vs, h, r⟩ => ⟨_, h, (fun _ e => by cases e), (fun _ _ e => by cases e)⟩
  | .dK _, ⟨xs, h, r⟩ => ⟨_, h, (fun _ e => by cases e), (fun _ _ e => by cases e)⟩
  | .dT _, ⟨xs, h, r⟩ => ⟨_, h, (fun _ e => by cases e), (fun _ _ e => by cases e)⟩
  | .tbl _, ⟨ps, h, _⟩ => ⟨_, h, (fun _ e => by cases e), (fun _ _ e => by cases e)⟩
  | .xd _ _, h => ⟨_, h, (fun _ e => by cases e), (fun _ _ e => by cases e)⟩
  | .fn _, ⟨dV, pm, c, ctv, h, _⟩ => ⟨_, h, (fun _ e => by unfold FnO at e; cases e), (fun _ _ e => by unfold FnO at e; cases e)⟩
  | .one _, ⟨o, q, h, _⟩ => ⟨_, h, (fun _ e => by unfold OneT at e; cases e), (fun _ _ e => by unfold OneT at e; cases e)⟩
section
variable {B : Bs} {K : PySem.W.Frag} {F H F0 : Hp} {σ : L2.St} {G : Sl} {M : Mem}
/-- one more thing of the heap is known to stay -/
theorem R.know {a : Addr} {u : HO} (r : R B K F σ H G M) (h : H a = some u) (hu : (∃ xs, u = .tup xs) ∨ ∃ ob w, u = .frz ob w) : ∃ F2, Same F F2 ∧ R B K F2 σ H G M ∧ F2 a = some u := by
  cases e : F a with
  | some w =>
    have h2 := r.ex a w e
    rw [h] at h2
    cases h2
    exact ⟨F, Same.refl F, r, e⟩
  | none =>
    refine ⟨upd F a u, Same.upd_new e, R.grow (Same.upd_new e) (fun b w q => ?_) (fun b o q => ?_) r, upd_same⟩
    · by_cases hb : b = a
      · subst hb; rw [upd_same] at q; cases q; exact h
      · rw [upd_ne hb] at q; exact r.ex b w q
    · have hb : b ≠ a := fun z => by
        subst z
        obtain ⟨w, hw, k1, k2⟩ := (r.mem b o q).2.kind
        rw [h] at hw; cases hw
        rcases hu with ⟨xs, z⟩ | ⟨ob, w, z⟩
        · exact k1 xs z
        · exact k2 ob w z
      rw [upd_ne hb]; exact (r.mem b o q).1
mutual
theorem Rp.take_in (s : Same F0 H) : ∀ {v : V} {d : D}, Rp K F0 v d → d.imm = true → ∀ {F : Hp}, R B K F σ H G M → ∃ F2, Same F F2 ∧ R B K F2 σ H G M ∧ Rp K F2 v d
  | _, _, .non, _, F, r => ⟨F, Same.refl F, r, .non⟩
  | _, _, .bl b, _, F, r => ⟨F, Same.refl F, r, .bl b⟩
  | _, _, .int b, _, F, r => ⟨F, Same.refl F, r, .int b⟩
  | _, _, .str b, _, F, r => ⟨F, Same.refl F, r, .str b⟩
  | _, _, .ty b, _, F, r => ⟨F, Same.refl F, r, .ty b⟩
  | _, _, .ref _, h, _, _ => by unfold D.imm at h; cases h
  | _, _, .lst _ _, h, _, _ => by unfold D.imm at h; cases h
  | _, _, .fzl _ _, h, _, _ => by unfold D.imm at h; cases h
  | _, _, .dK _ _, h, _, _ => by unfold D.imm at h; cases h
  | _, _, .dT _ _, h, _, _ => by unfold D.imm at h; cases h
  | _, _, .tup hs rs, h, F, r => by
    unfold D.imm at h
    obtain ⟨F1, s1, r1, p1⟩ := RpAll.take_in s rs h r
    rcases hs with (hs | ⟨ob, hs⟩) | hs
    · obtain ⟨F2, s2, r2, e2⟩ := r1.know (s _ _ hs) (.inl ⟨_, rfl⟩)
      exact ⟨F2, s1.trans s2, r2, .tup (.inl (.inl e2)) (p1.mono s2)⟩
    · obtain ⟨F2, s2, r2, e2⟩ := r1.know (s _ _ hs) (.inr ⟨_, _, rfl⟩)
      exact ⟨F2, s1.trans s2, r2, .tup (.inl (.inr ⟨ob, e2⟩)) (p1.mono s2)⟩
    · exact ⟨F1, s1, r1, .tup (.inr hs) p1⟩
theorem RpAll.take_in (s : Same F0 H) : ∀ {vs : List V} {ds : List D}, RpAll K F0 vs ds → imms ds = true → ∀ {F : Hp}, R B K F σ H G M → ∃ F2, Same F F2 ∧ R B K F2 σ H G M ∧ RpAll K F2 vs ds
  | _, _, .nil, _, F, r => ⟨F, Same.refl F, r, .nil⟩
  | _, _, .cons p t, h, F, r => by
    unfold imms at h
    obtain ⟨h1, h2⟩ := Bool.and_eq_true_iff.mp h
    obtain ⟨F1, s1, r1, p1⟩ := Rp.take_in s p h1 r
    obtain ⟨F2, s2, r2, p2⟩ := RpAll.take_in s t h2 r1
    exact ⟨F2, s1.trans s2, r2, .cons (p1.mono s2) p2⟩
end
end
abbrev noM : Mem := fun _ => none
section
variable {B : Bs} {X : Cx} {a b c e o : Expr} {es : List Expr} {G : Sl} {M : Mem} {Q : D → Mem → Prop} {pos p : Pos} {F F1 : Hp} {σ : L2.St} {k : Nat} {x : Str} {sp : DSp}
theorem lift_ro {H1 : Hp} {vs : List V} {ds es : List D} {Q' : VK} {E0' : XK} {Qd : D → Mem → Prop} (r1 : R B X.K F1 σ H1 G M) (p1 : RpAll X.K F1 vs ds) (dp : DeepAll M ds es) (q : sp es noM Qd) (hq : ∀ d M', Qd d M' → d.imm = true ∧ Q d M) (kk : KE B X F1 σ G Q Q') : lift X.K sp vs H1 Q' E0' := by
  refine ⟨H1, es, noM, Qd, dp.rp r1 p1, Same.refl H1, (fun _ _ z => by cases z), q, fun d M' qd v H' F' s' k' e' m' rp => ?_⟩
  obtain ⟨hi, hd⟩ := hq d M' qd
  have hs : Same H1 H' := fun a u h => (k' a u h rfl).1
  obtain ⟨F2, s2, r2, p2⟩ := rp.take_in e' hi (r1.heap hs)
  exact kk v H' F2 d M hd s2 r2 p2
/-- a call that only reads the cells -/
theorem ex_callR (c : Dfn X.prog X.w X.K X.mg X.base k x sp) (hr : Room k X.A) (hg : Gl X x) (hdb : (x == ("__debug__" : Str)) = false)
    (he : starEach (e :: es) X.env = (false, eval e X.env) :: starEach es X.env) (hpl : (backTo pos (starEach es X.env)).any (·.1) = false)
    (h : AX B X (e :: es) G M fun ds M1 => ∃ es' Qd, DeepAll M1 ds es' ∧ sp es' noM Qd ∧ ∀ d M', Qd d M' → d.imm = true ∧ Q d M1) : EX B X (.Call (.Name x p) (e :: es) [] pos) G M Q := fun F σ H Q' r kk => by
  obtain ⟨f, fd, ps, Fo, mgx, kp, bd⟩ := c.ex
  refine WE.of (pe_call Fo hr hg mgx kp bd .nil pass0 pa_wa hdb he hpl) (h F σ H _ r fun vs H1 F1 ds M1 ⟨es', Qd, dp, q1, hq⟩ s1 r1 p1 => ?_)
  rw [List.append_nil]
  exact lift_ro r1 p1 dp q1 hq (kk.mono s1)
/-- append to a list cell -/
theorem mx_append {l : Addr} {ds : List D} {d : D} (hm : M l = some (.lst ds)) (hl : ds.length < sizeLine) (q : Q .non (mupd M l (.lst (ds ++ [d])))) : MX B X "list.append" (.ref l) [d] G M Q := fun F σ H Q' v vs r p1 pa kk => by
  obtain ⟨v2, rfl, rp⟩ := rp1 pa
  cases p1
  obtain ⟨_, xs, hx, rx⟩ := r.mem l _ hm
  exact WM.of mt_append ⟨l, xs, v2, rfl, rfl, hx, by rw [rx.length]; exact hl, kk _ _ F _ _ q (Same.refl F) (r.write hm ⟨_, upd_same, rx.append (.cons rp .nil)⟩) .non⟩
/-- a method of a built-in list, with arguments; the receiver a cell -/
theorem ex_bmC {name : Str} {id : String} {apos : Pos} (slot : Slot "list" name id) (hty : typeOf (.builtin id) = pure (.type "method_descriptor"))
    (hbase : attributeBase o name X.env (eval o X.env) = eval o X.env)
    (hfew : ((backTo pos (starEach (e :: es) X.env)).all (fun x => !x.1) && (backToKw pos (keywordEach [] X.env)).all (fun x => x.1.isSome)
      && decide ((e :: es).length + ([] : List Keyword).length + (if ([] : List Keyword).isEmpty then 0 else 1) < 30)) = true)
    (hline : (apos.endLine == pos.line) = true) (hs : starEach (e :: es) X.env = (false, eval e X.env) :: starEach es X.env) (hplain : (backTo pos (starEach es X.env)).any (·.1) = false)
    (h : EX B X o G M fun d M1 => ∃ l ds, d = .ref l ∧ M1 l = some (.lst ds) ∧ AX B X (e :: es) G M1 fun xs M2 => MX B X id (.ref l) xs G M2 Q) : EX B X (.Call (.Attribute o name apos) (e :: es) [] pos) G M Q := fun F σ H Q' r kk =>
  WE.of (pe_bm PySem.F.plainAttrs_list slot hty mt_wm pe_we pa_wa hbase hfew hline hs hplain) (h F σ H _ r fun v1 H1 F1 d1 M1 ⟨l, ds, e1, hm, q1⟩ s1 r1 p1 => by
    subst e1
    cases p1
    obtain ⟨_, xs, hx, rx⟩ := r1.mem l _ hm
    exact ⟨.inl ⟨rfl, xs, .inl (.inl hx)⟩, q1 F1 σ H1 _ r1 fun vs H2 F2 ds2 M2 q2 s2 r2 p2 => q2 F2 σ H2 Q' _ vs r2 (.ref l) p2 (kk.mono (s1.trans s2))⟩)
/-- l.append(e), l a cell -/
theorem ex_append {apos : Pos} (hbase : attributeBase o "append" X.env (eval o X.env) = eval o X.env)
    (hfew : ((backTo pos (starEach [e] X.env)).all (fun x => !x.1) && (backToKw pos (keywordEach [] X.env)).all (fun x => x.1.isSome)
      && decide ([e].length + ([] : List Keyword).length + (if ([] : List Keyword).isEmpty then 0 else 1) < 30)) = true)
    (hline : (apos.endLine == pos.line) = true) (hs : starEach [e] X.env = (false, eval e X.env) :: starEach [] X.env) (hplain : (backTo pos (starEach [] X.env)).any (·.1) = false)
    (h : EX B X o G M fun d M1 => ∃ l ds0, d = .ref l ∧ M1 l = some (.lst ds0) ∧ EX B X e G M1 fun y M2 => ∃ ds, M2 l = some (.lst ds) ∧ ds.length < sizeLine ∧ Q .non (mupd M2 l (.lst (ds ++ [y])))) : EX B X (.Call (.Attribute o "append" apos) [e] [] pos) G M Q :=
  ex_bmC PySem.F.slot_list_append PySem.F.type_list_append hbase hfew hline hs hplain (h.imp fun d M1 ⟨l, ds0, e1, hm, q⟩ => ⟨l, ds0, e1, hm, ax_cons hs (q.imp fun y M2 ⟨ds, h2, hl, q2⟩ => ax_nil (mx_append h2 hl q2))⟩)
end
end FL

namespace FL
open PySem PySem.Spec PyProof.Rows L2
section
variable {B : Bs} {X : Cx} {a b c e o tg iter elt : Expr} {es : List Expr} {G G' : Sl} {M M' : Mem} {Q : D → Mem → Prop} {E : En} {pos p pos' : Pos} {F F1 : Hp} {σ : L2.St}
/-- a comprehension that changes no cell: f tells what an item comes to -/
def LcP (B : Bs) (X : Cx) (scope : Scope) (own : List Nat) (t : Tg) (ifs : List Expr) (elt : Expr) (G : Sl) (ds : List D) (M1 : Mem) (f : D → Option D) : Prop :=
  ds.length < sizeLine ∧ ∀ (d : D) (M' : Mem), d ∈ ds → (∀ a o, M1 a = some o → M' a = some o) → TgD t d fun dvs => Bk X scope fun X' => TXs B X' ifs (gsetAll (gwipe G own) t.slots dvs) M' fun b M3 =>
      if b = true then Bk X scope fun X2 => EX B X2 elt (gsetAll (gwipe G own) t.slots dvs) M3 fun y M4 => M4 = M' ∧ f d = some y else M3 = M' ∧ f d = none
theorem ex_lcp {scope : Scope} {own : List (Str × Nat)} {t : Tg} {ifs : List Expr} (f : D → Option D) (hc : X.calm = true) (hN : X.N.Nodup) (ok : BlkOk X.N X.env.scope scope own) (ht : ∀ i ∈ t.slots, i ∈ own.map (·.2))
    (hg : Bk X scope fun X' => PG X' tg (gTg X.K t)) (hs : ∀ x, foldedSetIterable iter X.env x = pure x)
    (h : LX B X tg iter G M fun ds M1 => LcP B X scope (own.map (·.2)) t ifs elt G ds M1 f ∧ Q (.lst (ds.filterMap f)) M1) : EX B X (.ListComp elt [⟨tg, iter, ifs, 0⟩] scope pos) G M Q :=
  ex_lc (Q := Q) hc hN ok ht hg hs fun F σ H R' r k => h F σ H R' r fun J H' F' ds M1 ⟨lp, q⟩ s r' w => k J H' F' ds M1 (lc_pure (fin := fun acc M2 => Q (.lst acc) M2) f lp.1 (fun i d M' hd hm => lp.2 d M' (List.mem_of_getElem? hd) hm) q) s r' w
/-- .. its list a cell -/
theorem ex_lcpM {scope : Scope} {own : List (Str × Nat)} {t : Tg} {ifs : List Expr} (f : D → Option D) (hc : X.calm = true) (hN : X.N.Nodup) (ok : BlkOk X.N X.env.scope scope own) (ht : ∀ i ∈ t.slots, i ∈ own.map (·.2))
    (hg : Bk X scope fun X' => PG X' tg (gTg X.K t)) (hs : ∀ x, foldedSetIterable iter X.env x = pure x)
    (h : LX B X tg iter G M fun ds M1 => LcP B X scope (own.map (·.2)) t ifs elt G ds M1 f ∧ ∀ l, M1 l = none → Q (.ref l) (mupd M1 l (.lst (ds.filterMap f)))) : EX B X (.ListComp elt [⟨tg, iter, ifs, 0⟩] scope pos) G M Q :=
  ex_lcM (Q := Q) hc hN ok ht hg hs fun F σ H R' r k => h F σ H R' r fun J H' F' ds M1 ⟨lp, q⟩ s r' w => k J H' F' ds M1 (fun L hL => by
    obtain ⟨I, i0, turn, fin⟩ := lc_pure (fin := fun acc M2 => acc = ds.filterMap f ∧ M2 = M1) f lp.1 (fun i d M' hd hm => lp.2 d M' (List.mem_of_getElem? hd) hm) ⟨rfl, rfl⟩ L hL
    refine ⟨I, i0, turn, fun acc M' hI hM => ?_⟩
    obtain ⟨ea, eM⟩ := fin acc M' hI hM
    have e2 : M' = mupd M1 L (.lst acc) := by
      funext b
      unfold mupd
      by_cases hb : b = L
      · subst hb; rw [if_pos rfl]; exact hM
      · rw [if_neg hb, ← eM]; unfold mdel; rw [if_neg hb]
    rw [e2, ea]
    exact q L hL) s r' w
/-- name = a comprehension that changes no cell -/
theorem sx_setLcp {i : Nat} {y : Str} {py spos : Pos} {scope : Scope} {own : List (Str × Nat)} {t : Tg} {ifs : List Expr} (f : D → Option D) (hc : X.calm = true) (hN : X.N.Nodup) (hy : X.N[i]? = some y) (hyl : X.env.scope.names.lookup y = some .local)
    (hsw : swapsWith (.ListComp elt [⟨tg, iter, ifs, 0⟩] scope pos) (some (.Name y py)) spos.line X.env = pure true) (ok : BlkOk X.N X.env.scope scope own) (ht : ∀ i ∈ t.slots, i ∈ own.map (·.2))
    (hg : Bk X scope fun X' => PG X' tg (gTg X.K t)) (hs : ∀ x, foldedSetIterable iter X.env x = pure x)
    (h : LX B X tg iter G M fun ds M1 => LcP B X scope (own.map (·.2)) t ifs elt G ds M1 f ∧ E.nx (G.set i (some (.lst (ds.filterMap f)))) M1) : SX B X (.Assign [.Name y py] (.ListComp elt [⟨tg, iter, ifs, 0⟩] scope pos) spos) E G M :=
  sx_setLc hc hN hy hyl hsw ok ht hg hs fun F σ H R' r k => h F σ H R' r fun J H' F' ds M1 ⟨lp, q⟩ s r' w => k J H' F' ds M1 (lc_pure (fin := fun acc M2 => E.nx (G.set i (some (.lst acc))) M2) f lp.1 (fun i d M' hd hm => lp.2 d M' (List.mem_of_getElem? hd) hm) q) s r' w
end
theorem txs_nil {B : Bs} {X : Cx} {G : Sl} {M : Mem} {Q : Bool → Mem → Prop} (h : Q true M) : TXs B X [] G M Q := h
theorem txs_one {B : Bs} {X : Cx} {c : Expr} {G : Sl} {M : Mem} {Q : Bool → Mem → Prop} (h : TX B X c G M Q) : TXs B X [c] G M Q := h
/-! ### typed lists -/
theorem filterMap_enc {α : Type} {enc : α → D} {f : D → Option D} {g : α → D} : ∀ {xs : List α}, (∀ x ∈ xs, f (enc x) = some (g x)) → (xs.map enc).filterMap f = xs.map g
  | [], _ => rfl
  | x :: xs, h => by
    rw [List.map_cons, List.filterMap_cons, h x (by simp), List.map_cons, filterMap_enc fun y hy => h y (List.mem_cons_of_mem _ hy)]
theorem str_empty_app (x : Str) : Str.empty ++ x = x := by
  cases x with
  | mk c =>
    show Str.mk (_ ++ c) = Str.mk c
    congr 1
    exact Array.empty_append
end FL

/-! == of data that may be laid -/
namespace FL
open PySem PySem.Spec PyProof.Rows L2
mutual
def D.okE : D → Bool
  | .non => true | .bl _ => true | .int _ => true | .str x => PyData.strOk x | .tup ds => okEs ds | .lst ds => okEs ds
  | .ref _ => false | .ty _ => false | .dK _ => false | .dT _ => false | .fzl _ => false
def okEs : List D → Bool
  | [] => true
  | d :: ds => d.okE && okEs ds
end
mutual
def D.dep : D → Nat
  | .tup ds => deps ds + 1 | .lst ds => deps ds + 1
  | .non => 0 | .bl _ => 0 | .int _ => 0 | .str _ => 0 | .ref _ => 0 | .ty _ => 0 | .dK _ => 0 | .dT _ => 0 | .fzl _ => 0
def deps : List D → Nat
  | [] => 0
  | d :: ds => max d.dep (deps ds)
end
mutual
theorem okE_py : ∀ d : D, d.okE = true → d.isPy = true ∧ d.py.canLay0 = true
  | .non, _ => ⟨by unfold D.isPy; rfl, by unfold D.py; rfl⟩
  | .bl _, _ => ⟨by unfold D.isPy; rfl, by unfold D.py; rfl⟩
  | .int _, _ => ⟨by unfold D.isPy; rfl, by unfold D.py; rfl⟩
  | .str x, h => ⟨by unfold D.isPy; rfl, by unfold D.okE at h; unfold D.py PyData.canLay0; exact h⟩
  | .tup ds, h => by
    unfold D.okE at h
    unfold D.isPy D.py PyData.canLay0
    exact okEs_py ds h
  | .lst ds, h => by
    unfold D.okE at h
    unfold D.isPy D.py PyData.canLay0
    exact okEs_py ds h
  | .ref _, h => by unfold D.okE at h; cases h
  | .fzl _, h => by unfold D.okE at h; cases h
  | .ty _, h => by unfold D.okE at h; cases h
  | .dK _, h => by unfold D.okE at h; cases h
  | .dT _, h => by unfold D.okE at h; cases h
theorem okEs_py : ∀ ds : List D, okEs ds = true → arePy ds = true ∧ PyData.canLayAll0 (pys ds) = true
  | [], _ => ⟨by unfold arePy; rfl, by unfold pys PyData.canLayAll0; rfl⟩
  | d :: ds, h => by
    unfold okEs at h
    obtain ⟨h1, h2⟩ := Bool.and_eq_true_iff.mp h
    obtain ⟨a1, a2⟩ := okE_py d h1
    obtain ⟨b1, b2⟩ := okEs_py ds h2
    unfold arePy pys PyData.canLayAll0
    rw [a1, b1, a2, b2]
    exact ⟨rfl, rfl⟩
end
mutual
theorem dep_py : ∀ d : D, d.py.depth ≤ d.dep
  | .non => by unfold D.py PyData.depth; exact Nat.zero_le _
  | .bl _ => by unfold D.py PyData.depth; exact Nat.zero_le _
  | .int _ => by unfold D.py PyData.depth; exact Nat.zero_le _
  | .str _ => by unfold D.py PyData.depth; exact Nat.zero_le _
  | .ref _ => by unfold D.py PyData.depth; exact Nat.zero_le _
  | .fzl _ => by unfold D.py PyData.depth; exact Nat.zero_le _
  | .ty _ => by unfold D.py PyData.depth; exact Nat.zero_le _
  | .dK _ => by unfold D.py PyData.depth; exact Nat.zero_le _
  | .dT _ => by unfold D.py PyData.depth; exact Nat.zero_le _
  | .tup ds => by unfold D.py PyData.depth D.dep; exact Nat.succ_le_succ (deps_py ds)
  | .lst ds => by unfold D.py PyData.depth D.dep; exact Nat.succ_le_succ (deps_py ds)
theorem deps_py : ∀ ds : List D, PyData.depthAll (pys ds) ≤ deps ds
  | [] => by unfold pys PyData.depthAll; exact Nat.zero_le _
  | d :: ds => by
    have h1 := dep_py d
    have h2 := deps_py ds
    unfold pys PyData.depthAll deps
    omega
end
theorem okEq_of {d : D} (h : d.okE = true) (hd : d.dep ≤ 64) : d.okEq = true := by
  obtain ⟨h1, h2⟩ := okE_py d h
  have h3 := dep_py d
  unfold D.okEq SeqAt.shaped
  rw [h1, h2, decide_eq_true (Nat.le_trans h3 hd)]
  rfl
theorem okEs_all {ds : List D} : okEs ds = true ↔ ∀ d ∈ ds, d.okE = true := by
  induction ds with
  | nil => unfold okEs; simp
  | cons d ds ih => unfold okEs; rw [Bool.and_eq_true_iff, ih]; simp
theorem deps_le {ds : List D} {n : Nat} : deps ds ≤ n ↔ ∀ d ∈ ds, d.dep ≤ n := by
  induction ds with
  | nil => unfold deps; simp
  | cons d ds ih =>
    unfold deps
    rw [Nat.max_le, ih]
    simp
theorem okEq_lst {ds : List D} {n : Nat} (h : ∀ d ∈ ds, d.okE = true ∧ d.dep ≤ n) (hn : n < 64) : (D.lst ds).okEq = true := by
  refine okEq_of ?_ ?_
  · unfold D.okE; exact okEs_all.mpr fun d hd => (h d hd).1
  · unfold D.dep
    have := deps_le.mpr fun d hd => (h d hd).2
    omega
theorem okEq_tup {ds : List D} {n : Nat} (h : ∀ d ∈ ds, d.okE = true ∧ d.dep ≤ n) (hn : n < 64) : (D.tup ds).okEq = true := by
  refine okEq_of ?_ ?_
  · unfold D.okE; exact okEs_all.mpr fun d hd => (h d hd).1
  · unfold D.dep
    have := deps_le.mpr fun d hd => (h d hd).2
    omega
theorem okEq_nil : (D.lst []).okEq = true := okEq_lst (n := 0) (by simp) (by decide)
def eqDs (ds es : List D) : Bool := PyData.eqvAll (pys ds) (pys es)
theorem eqD_lst (ds es : List D) : eqD (.lst ds) (.lst es) = eqDs ds es := by unfold eqD D.py PyData.eqv; rfl
theorem eqD_tup (ds es : List D) : eqD (.tup ds) (.tup es) = eqDs ds es := by unfold eqD D.py PyData.eqv; rfl
theorem eqD_int (i j : Int) : eqD (.int i) (.int j) = (i == j) := by unfold eqD D.py PyData.eqv; rfl
theorem eqD_str (x y : Str) : eqD (.str x) (.str y) = (x == y) := by unfold eqD D.py PyData.eqv; rfl
theorem eqDs_nil : eqDs [] [] = true := by unfold eqDs pys PyData.eqvAll; rfl
theorem eqDs_cons (d e : D) (ds es : List D) : eqDs (d :: ds) (e :: es) = (eqD d e && eqDs ds es) := by unfold eqDs; rw [pys, pys, PyData.eqvAll]; rfl
theorem eqDs_cn (d : D) (ds : List D) : eqDs (d :: ds) [] = false := by unfold eqDs; rw [pys, pys, PyData.eqvAll]
theorem eqDs_nc (d : D) (ds : List D) : eqDs [] (d :: ds) = false := by unfold eqDs; rw [pys, pys, PyData.eqvAll]
theorem eqDs_nil_r : ∀ ds : List D, eqDs ds [] = ds.isEmpty
  | [] => eqDs_nil
  | d :: ds => eqDs_cn d ds
theorem eqDs_enc {α : Type} [DecidableEq α] {enc : α → D} (h : ∀ x y, eqD (enc x) (enc y) = decide (x = y)) : ∀ xs ys : List α, eqDs (xs.map enc) (ys.map enc) = decide (xs = ys)
  | [], [] => eqDs_nil
  | [], y :: ys => by rw [List.map_cons]; exact (eqDs_nc _ _).trans (decide_eq_false (by simp)).symm
  | x :: xs, [] => by rw [List.map_cons]; exact (eqDs_cn _ _).trans (decide_eq_false (by simp)).symm
  | x :: xs, y :: ys => by
    rw [List.map_cons, List.map_cons, eqDs_cons, h, eqDs_enc h xs ys]
    by_cases e1 : x = y
    · by_cases e2 : xs = ys <;> simp [e1, e2]
    · simp [e1]
theorem eqD_int' (i j : Int) : eqD (.int i) (.int j) = decide (i = j) := by rw [eqD_int]; exact Bool.beq_eq_decide_eq i j
theorem eqD_str' (x y : Str) : eqD (.str x) (.str y) = decide (x = y) := by rw [eqD_str]; exact Bool.beq_eq_decide_eq x y
section
variable {B : Bs} {X : Cx} {G : Sl} {M : Mem} {Q : D → Mem → Prop} {d : D} {pos : Pos}
/-- compared with [] -/
theorem ex_cmp0 {op : CmpOp} (h : OX B X (compareOp op) d (.lst []) G M Q) : EX B X (.List [] pos) G M fun y M2 => OX B X (compareOp op) d y G M2 Q := ex_lst (ax_nil ⟨Nat.zero_le _, h⟩)
theorem ox_ne0 {ds : List D} {n : Nat} (hu : X.A.units + 64 < cLine) (h : ∀ d ∈ ds, d.okE = true ∧ d.dep ≤ n) (hn : n < 64) (q : Q (.bl (!ds.isEmpty)) M) : OX B X (compareOp .NotEq) (.lst ds) (.lst []) G M Q :=
  ox_neD hu (okEq_lst h hn) okEq_nil (by rw [eqD_lst, eqDs_nil_r]; exact q)
theorem ox_eq0 {ds : List D} {n : Nat} (hu : X.A.units + 64 < cLine) (h : ∀ d ∈ ds, d.okE = true ∧ d.dep ≤ n) (hn : n < 64) (q : Q (.bl ds.isEmpty) M) : OX B X (compareOp .Eq) (.lst ds) (.lst []) G M Q :=
  ox_eqD hu (okEq_lst h hn) okEq_nil (by rw [eqD_lst, eqDs_nil_r]; exact q)
end
end FL

/-! the head by facts, over data -/
namespace FL
open PySem PySem.Spec PyProof.Rows L2
theorem fun_of {K : PySem.W.Frag} {x qual : Str} {st : Stmt} {f : Addr} {fd : FuncData} (F : FunD K x qual (defArgs st) (defBody st) (defScope st) [] [] f fd) : Fun K x qual st f fd := by
  obtain ⟨oc, od, dV, kV, doc, pm, an, cdv, ct, osl, e, lk, hcd, hD, hK⟩ := F.ex
  rcases hD with ⟨_, rfl⟩ | ⟨z, _⟩
  · exact ⟨⟨oc, od, kV, doc, pm, an, cdv, ct, osl, e, lk, hcd⟩, F.kp⟩
  · exact absurd rfl z
def defAt (p : Str × Option Str) (name qual : Str) (st : Stmt) : He.DefD := ⟨p, name, qual, defArgs st, defBody st, defScope st, [], []⟩
/-- the law: at every script it tells True -/
def spTrue : DSp := fun ds M Q => ∃ ns : List Int, ds = [.fzl (ns.map D.int)] ∧ ns.length ≤ 63 ∧ M = noM ∧ ∀ M', Q (.bl true) M'
theorem law_sp {K : PySem.W.Frag} {H : Hp} {a : Addr} {ns : List Int} {E : XK} (hl : ns.length ≤ 63) (hS : SqL K H a (ns.map V.int)) : lift K spTrue [.ref a] H (fun v _ => v = .bl true) E :=
  ⟨H, [.fzl (ns.map D.int)], noM, fun d _ => d = .bl true, .cons (.fzl hS RpAll.ints) .nil, Same.refl H, (fun a o z => by cases z), ⟨ns, rfl, hl, rfl, fun _ => rfl⟩, fun d M' e v H' F' _ _ _ _ rp => by subst e; cases rp; rfl⟩
section
variable {K : PySem.W.Frag} {h : Heap} {mg : Str → Option Value} (X : K.In h) (G : h.Ns mainGlobals mg)
include X G
theorem cst_int {x : Str} {i : Int} (c : (He.Fa.int x i).ok K = true) : Cst K mg x (.int i) := by
  obtain ⟨t, e⟩ := He.int_ok X G c
  exact ⟨_, .int i, e, ⟨t, rfl⟩, fun F => .int i⟩
theorem cst_str {x z : Str} (c : (He.Fa.str x z).ok K = true) : Cst K mg x (.str z) := by
  obtain ⟨t, e⟩ := He.str_ok X G c
  exact ⟨_, .str z, e, ⟨t, rfl⟩, fun F => .str z⟩
theorem cst_tup {x : Str} {zs : List Str} (c : (He.Fa.glo x).ok K = true) (t : He.tupB K x (zs.map He.Dv.str) = true) : Cst K mg x (.tup (zs.map D.str)) := by
  refine ⟨_, .ref (He.ga K x), He.glo_ok X G c, rfl, fun F => ?_⟩
  have e : (zs.map He.Dv.str).map (He.Dv.v K) = zs.map V.str := by
    rw [List.map_map]; rfl
  have s := He.tupB_ok t F
  rw [e] at s
  exact .tup s RpAll.strs
end
theorem dfn_mk {P : Program} {w : World} {K : PySem.W.Frag} {mg : Str → Option Value} {base : Heap} {k : Nat} {x : Str} {sp : DSp} {f : Addr} {fd : FuncData} {ps : List Str} (h : FnOk P w K mg base CX0 k f fd ps (lift K sp)) (g : mg x = some (.ref f)) (kp : PySem.W.keepIn K (.ref f) = true) (b : Binds K fd ps []) : Dfn P w K mg base k x sp := ⟨f, fd, ps, h, g, kp, b⟩
end FL

namespace FL
open PySem PySem.Spec PyProof.Rows L2
mutual
/-- data that may be compared place by place -/
def D.okA : D → Bool
  | .non => true | .bl _ => true | .int _ => true | .str _ => true
  | .tup ds => decide (ds.length ≤ 100000) && okAs ds
  | .lst ds => decide (ds.length ≤ 100000) && okAs ds
  | .ref _ => false | .ty _ => false | .dK _ => false | .dT _ => false | .fzl _ => false
def okAs : List D → Bool
  | [] => true
  | d :: ds => d.okA && okAs ds
end
theorem okAs_all {ds : List D} : okAs ds = true ↔ ∀ d ∈ ds, d.okA = true := by
  induction ds with
  | nil => unfold okAs; simp
  | cons d ds ih => unfold okAs; rw [Bool.and_eq_true_iff, ih]; simp
theorem okA_tup {ds : List D} (hl : ds.length ≤ 100000) (h : ∀ d ∈ ds, d.okA = true) : (D.tup ds).okA = true := by
  unfold D.okA; rw [decide_eq_true hl, okAs_all.mpr h]; rfl
theorem okA_lst {ds : List D} (hl : ds.length ≤ 100000) (h : ∀ d ∈ ds, d.okA = true) : (D.lst ds).okA = true := by
  unfold D.okA; rw [decide_eq_true hl, okAs_all.mpr h]; rfl
theorem okA_tup' {ds : List D} (h : (D.tup ds).okA = true) : ds.length ≤ 100000 ∧ ∀ d ∈ ds, d.okA = true := by
  unfold D.okA at h
  obtain ⟨h1, h2⟩ := Bool.and_eq_true_iff.mp h
  exact ⟨of_decide_eq_true h1, okAs_all.mp h2⟩
theorem okA_lst' {ds : List D} (h : (D.lst ds).okA = true) : ds.length ≤ 100000 ∧ ∀ d ∈ ds, d.okA = true := by
  unfold D.okA at h
  obtain ⟨h1, h2⟩ := Bool.and_eq_true_iff.mp h
  exact ⟨of_decide_eq_true h1, okAs_all.mp h2⟩
theorem dep_tup {ds : List D} {n : Nat} : (D.tup ds).dep ≤ n ↔ 1 ≤ n ∧ ∀ d ∈ ds, d.dep ≤ n - 1 := by
  have e : (D.tup ds).dep = deps ds + 1 := by unfold D.dep; rfl
  rw [e, ← deps_le]
  omega
theorem dep_lst {ds : List D} {n : Nat} : (D.lst ds).dep ≤ n ↔ 1 ≤ n ∧ ∀ d ∈ ds, d.dep ≤ n - 1 := by
  have e : (D.lst ds).dep = deps ds + 1 := by unfold D.dep; rfl
  rw [e, ← deps_le]
  omega
theorem okA_tyd {d : D} (h : d.okA = true) : d.tyd = true := by
  cases d <;> first | rfl | (unfold D.okA at h; cases h)
theorem filterMap_none {ds : List D} : ds.filterMap (fun _ => (none : Option D)) = [] := by
  induction ds with
  | nil => rfl
  | cons d ds ih => simpa using ih
section
variable {CX : CXT} {P : Program} {w : World} {K : PySem.W.Frag} {mg : Str → Option Value} {base : Heap} {N : List Str} {qual : Str} {sc : Scope} {f : Addr} {cdv : Value} {A : Around} {outer : List Env} {s : Shared} {H : Hp} {E : XK} {x : Str}
theorem Blt.fn {v : Value} (m : mg x = none) (g : Gl (cxOf CX P w K mg base N qual sc f cdv A outer s H E).nox x) (b : bootBuiltins x = some v) (n : x ≠ "__name__" := by decide) (d : (x == ("__debug__" : Str)) = false := by decide) : Blt (cxOf CX P w K mg base N qual sc f cdv A outer s H E).nox x v := ⟨g, m, b, n, d⟩
theorem Gb.fn {d : D} (m : Cst K mg x d) (g : Gl (cxOf CX P w K mg base N qual sc f cdv A outer s H E).nox x) (hd : (x == ("__debug__" : Str)) = false := by decide) : Gb (cxOf CX P w K mg base N qual sc f cdv A outer s H E).nox x d := ⟨g, m, hd⟩
theorem Dfn.fn {k : Nat} {sp : DSp} (h : Dfn P w K mg base k x sp) : Dfn (cxOf CX P w K mg base N qual sc f cdv A outer s H E).nox.prog (cxOf CX P w K mg base N qual sc f cdv A outer s H E).nox.w (cxOf CX P w K mg base N qual sc f cdv A outer s H E).nox.K (cxOf CX P w K mg base N qual sc f cdv A outer s H E).nox.mg (cxOf CX P w K mg base N qual sc f cdv A outer s H E).nox.base k x sp := h
variable {s1 : Shared} {H1 : Hp} {sc1 : Scope} {cenv : Env} {fp : List Addr}
theorem Blt.fnb {v : Value} (m : mg x = none) (g : Gl ((cxOf CX P w K mg base N qual sc f cdv A outer s H E).nox.blk s1 H1 sc1 cenv fp) x) (b : bootBuiltins x = some v) (n : x ≠ "__name__" := by decide) (d : (x == ("__debug__" : Str)) = false := by decide) : Blt ((cxOf CX P w K mg base N qual sc f cdv A outer s H E).nox.blk s1 H1 sc1 cenv fp) x v := ⟨g, m, b, n, d⟩
theorem Gb.fnb {d : D} (m : Cst K mg x d) (g : Gl ((cxOf CX P w K mg base N qual sc f cdv A outer s H E).nox.blk s1 H1 sc1 cenv fp) x) (hd : (x == ("__debug__" : Str)) = false := by decide) : Gb ((cxOf CX P w K mg base N qual sc f cdv A outer s H E).nox.blk s1 H1 sc1 cenv fp) x d := ⟨g, m, hd⟩
theorem Dfn.fnb {k : Nat} {sp : DSp} (h : Dfn P w K mg base k x sp) : Dfn ((cxOf CX P w K mg base N qual sc f cdv A outer s H E).nox.blk s1 H1 sc1 cenv fp).prog ((cxOf CX P w K mg base N qual sc f cdv A outer s H E).nox.blk s1 H1 sc1 cenv fp).w ((cxOf CX P w K mg base N qual sc f cdv A outer s H E).nox.blk s1 H1 sc1 cenv fp).K ((cxOf CX P w K mg base N qual sc f cdv A outer s H E).nox.blk s1 H1 sc1 cenv fp).mg ((cxOf CX P w K mg base N qual sc f cdv A outer s H E).nox.blk s1 H1 sc1 cenv fp).base k x sp := h
end
theorem Dfn.blk {X : Cx} {k : Nat} {x : Str} {sp : DSp} {s : Shared} {H : Hp} {scope : Scope} {cenv : Env} {fp : List Addr} (h : Dfn X.prog X.w X.K X.mg X.base k x sp) : Dfn (X.blk s H scope cenv fp).prog (X.blk s H scope cenv fp).w (X.blk s H scope cenv fp).K (X.blk s H scope cenv fp).mg (X.blk s H scope cenv fp).base k x sp := h
section
variable {B : Bs} {X : Cx} {G : Sl} {M : Mem} {Q : D → Mem → Prop}
theorem ex_subL {es : List Expr} {b : Expr} {p pos : Pos} (hs : PlainIx b) (h : AX B X es G M fun xs M1 => xs.length ≤ sizeLine ∧ EX B X b G M1 fun y M2 => IX B X (.lst xs) y G M2 Q) : EX B X (.Subscript (.List es p) b pos) G M Q := ex_sub hs (ex_lst h)
/-- an item at a drawn place -/
theorem ix_lm {ds : List D} {i : Int} (h0 : 0 ≤ i) (h1 : i < ds.length) (q : ∀ d, d ∈ ds → Q d M) : IX B X (.lst ds) (.int i) G M Q := by
  obtain ⟨j, rfl⟩ : ∃ j : Nat, i = (j : Int) := ⟨i.toNat, by omega⟩
  have hj : j < ds.length := by omega
  exact ix_l (d := ds[j]) (atI_of rfl (List.getElem?_eq_getElem hj)) (q _ (List.getElem_mem hj))
theorem ix_tm {ds : List D} {i : Int} (h0 : 0 ≤ i) (h1 : i < ds.length) (q : ∀ d, d ∈ ds → Q d M) : IX B X (.tup ds) (.int i) G M Q := by
  obtain ⟨j, rfl⟩ : ∃ j : Nat, i = (j : Int) := ⟨i.toNat, by omega⟩
  have hj : j < ds.length := by omega
  exact ix_t (d := ds[j]) (atI_of rfl (List.getElem?_eq_getElem hj)) (q _ (List.getElem_mem hj))
theorem ix_li {ns : List Int} {i : Int} (h0 : 0 ≤ i) (h1 : i < ns.length) (q : ∀ n, n ∈ ns → Q (.int n) M) : IX B X (.lst (ns.map D.int)) (.int i) G M Q :=
  ix_lm h0 (by rw [List.length_map]; exact h1) fun d hd => by
    obtain ⟨n, hn, rfl⟩ := List.mem_map.mp hd
    exact q n hn
theorem ix_ls {ns : List Str} {i : Int} (h0 : 0 ≤ i) (h1 : i < ns.length) (q : ∀ n, n ∈ ns → Q (.str n) M) : IX B X (.lst (ns.map D.str)) (.int i) G M Q :=
  ix_lm h0 (by rw [List.length_map]; exact h1) fun d hd => by
    obtain ⟨n, hn, rfl⟩ := List.mem_map.mp hd
    exact q n hn
end
end FL

namespace FL
open PySem PySem.Spec PyProof.Rows L2
/-- the promise of a def that only reads the cells, and tells what is immutable -/
def roSp (sp : DSp) : DSp := fun ds M Q => ∃ es Qd, DeepAll M ds es ∧ sp es noM Qd ∧ ∀ d M', Qd d M' → d.imm = true ∧ Q d M
theorem lift_roSp {K : PySem.W.Frag} {sp : DSp} {vs : List V} {H : Hp} {Q : VK} {E : XK} (h : lift K (roSp sp) vs H Q E) : lift K sp vs H Q E := by
  obtain ⟨F, ds, M, Qd, p, ex, me, ⟨es, Qe, dp, q, hq⟩, kk⟩ := h
  have r : R ⟨F, M, H⟩ K F [] H [] M := ⟨⟨rfl, by simp⟩, ex, me, Same.refl F, Kp.refl M H⟩
  refine ⟨H, es, noM, Qe, dp.rp r p, Same.refl H, (fun _ _ z => by cases z), q, fun d M' qd v H' F' s' k' e' m' rp => ?_⟩
  obtain ⟨hi, hd⟩ := hq d M' qd
  have hs : Same H H' := fun a u h => (k' a u h rfl).1
  obtain ⟨F2, s2, r2, p2⟩ := rp.take_in e' hi (r.heap hs)
  exact kk d M hd v H' F2 r2.bf r2.bk r2.ex r2.mem p2
theorem Dfn.ro {P : Program} {w : World} {K : PySem.W.Frag} {mg : Str → Option Value} {base : Heap} {k : Nat} {x : Str} {sp : DSp} (h : Dfn P w K mg base k x sp) : Dfn P w K mg base k x (roSp sp) := by
  obtain ⟨f, fd, ps, F, m, kp, b⟩ := h.ex
  exact ⟨f, fd, ps, F.imp fun vs H Q E h => lift_roSp h, m, kp, b⟩
theorem ro1 {sp : DSp} {ds es : List D} {M : Mem} {Q : D → Mem → Prop} (d0 : D) (dp : DeepAll M ds es) (q : sp es noM fun d _ => d = d0) (hi : d0.imm = true) (k : Q d0 M) : roSp sp ds M Q :=
  ⟨es, _, dp, q, fun d M' e => by subst e; exact ⟨hi, k⟩⟩
theorem eqD_self {d : D} (h : d.okE = true) : eqD d d = true := SeqAt.eqv_refl _ (okE_py d h).2
end FL

/-! enumerate over a tuple -/
namespace FL
open PySem PySem.Spec PyProof.Rows L2
set_option maxHeartbeats 1000000 in
theorem newEnum1 {v : Value} {ob : Obj} {Hh : Heap → Prop} (Bg : Begins v ob Hh) :
    Meets (Builtin.«enumerate.__new__» ⟨[.type "enumerate", v], []⟩) (fun _ R s => Hh s.heap ∧
      R (.ok (.ret (.ref (s.heap.push ob).objs.size))) { s with heap := (s.heap.push ob).push { cls := .type "enumerate", data := .fields #[.none, .bool false, .ref s.heap.objs.size, rawInt 0, .none, .none] } }) :=
  .of_wp fun prog w A R s h => by
    obtain ⟨hp, g, d, tk, os⟩ := s
    obtain ⟨h1, h⟩ := h
    have hsub := sub_enumerate
    have q1 : ∀ {A' : Around} {E : Value → Shared → Prop} {Q : Value → Shared → Prop}, Q (.ref hp.objs.size) ⟨hp.push ob, g, d, tk, os⟩ → wpAny (model prog w) A' (pyIter v) Q E ⟨hp, g, d, tk, os⟩ := fun q => Bg.iter prog w _ _ ⟨hp, g, d, tk, os⟩ _ h1 q
    wp_walk using q1
    refine wpAny_stack_any fun st => wpAny_pure ?_
    split
    · rename_i c _ _ _ _ _
      cases (c == Value.type "enumerate") <;> (wp_walk using q1; exact ⟨_, rfl, h⟩)
    · wp_walk using q1; exact ⟨_, rfl, h⟩
theorem callEnum1 {prog : Program} {w : World} {A : Around} {E : Value → Shared → Prop} {s : Shared} {v : Value} {ob : Obj} {Hh : Heap → Prop} {Q : Value → Shared → Prop} (Bg : Begins v ob Hh) (h1 : Hh s.heap)
    (h : ∀ h', IsEnum h' (s.heap.objs.size + 1) s.heap.objs.size 0 .none → h'.get? s.heap.objs.size = some ob → h'.objs.size = s.heap.objs.size + 2 → (∀ b o, s.heap.get? b = some o → h'.get? b = some o) → Q (.ref (s.heap.objs.size + 1)) { s with heap := h' }) :
    wpAny (model prog w) A (call (.type "enumerate") [v]) Q E s := by
  refine callType_new F.called_enumerate (by decide) (F.typeCall_enumerate_1 _) (F.newCall_enumerate_1 _) (fun obj => F.args_object_init_2 obj _) F.entry_enumerate_new (newEnum1 Bg) ⟨h1, ?_⟩
  have hz : (s.heap.push ob).objs.size = s.heap.objs.size + 1 := Heap.size_push ..
  show _ ∧ _
  rw [hz]
  have he : IsEnum ((s.heap.push ob).push { cls := .type "enumerate", data := .fields #[.none, .bool false, .ref s.heap.objs.size, rawInt 0, .none, .none] }) (s.heap.objs.size + 1) s.heap.objs.size 0 .none := by
    have z := Heap.get?_push_size (s.heap.push ob) (o := { cls := .type "enumerate", data := .fields #[.none, .bool false, .ref s.heap.objs.size, rawInt 0, .none, .none] }) rfl
    rw [hz] at z
    exact z
  exact ⟨⟨_, he, rfl⟩, h _ he (Heap.get?_push_of_some _ (Heap.get?_push_size _ Bg.free)) (by rw [Heap.size_push, hz]) fun b o x => Heap.get?_push_of_some _ (Heap.get?_push_of_some _ x)⟩
/-- a tuple at a, each item in a new pair -/
def IteT (K : PySem.W.Frag) (a : Addr) : It :=
  ⟨fun i H => ∃ (xs : List V) (x : V), SqT K H a xs ∧ xs[i]? = some x, fun i H v H' => ∃ T x, v = .ref T ∧ H T = none ∧ H' = upd H T (.tup [.int (i : Nat), x]) ∧ ∀ xs, SqT K H a xs → xs[i]? = some x, fun i H => ∃ xs : List V, SqT K H a xs ∧ xs.length ≤ i⟩
theorem tup_ne_iter {h : Heap} {a it t : Addr} {items : Array Value} {i : Nat} (p : h.IsTuple a items) (q : h.IsTupleIter it t i) : a ≠ it := fun e => by
  obtain ⟨o, h1, c1, _⟩ := p
  obtain ⟨u, h2, c2, _⟩ := q
  rw [e, h2] at h1
  cases h1
  rw [c2] at c1
  exact absurd (Value.type.inj c1) (by decide)
theorem tup_ne_enum {h : Heap} {a e it : Addr} {items : Array Value} {i : Int} {old : Value} (p : h.IsTuple a items) (q : IsEnum h e it i old) : a ≠ e := fun z => by
  obtain ⟨o, h1, c1, _⟩ := p
  rw [z, q] at h1
  cases h1
  exact absurd (Value.type.inj c1) (by decide)
theorem turn_enumT {P : Program} {w : World} {K : PySem.W.Frag} {elts : List Expr} {kk : Nat} {tpos : Pos} (a e it : Addr) :
    Turn P w K (.Tuple elts kk tpos) (IteT K a) [e, it] e (fun i h => (∃ old, IsEnum h e it ((i : Nat) : Int) old) ∧ h.IsTupleIter it a i ∧ e ≠ it) where
  mem := by simp
  obj := fun i h st b hb => by
    obtain ⟨⟨old, he⟩, ⟨o, ho, hc, hd⟩, _⟩ := st
    rcases (by simpa using hb : b = e ∨ b = it) with z | z
    · rw [z]; exact ⟨_, he, fun v q => nomatch q⟩
    · rw [z]; exact ⟨o, ho, fun v q => by rw [hd] at q; cases q⟩
  keep := fun i h h' st k => by
    obtain ⟨⟨old, he⟩, hi, hne⟩ := st
    exact ⟨⟨old, k e (by simp) _ he⟩, hi.at fun o q => k it (by simp) o q, hne⟩
  item := by
    intro X hP hw hK hc i pins s σ H E I hf st hg
    subst hP; subst hw; subst hK
    obtain ⟨⟨old, he⟩, hit, hne⟩ := st
    obtain ⟨xs, x, hq, hx⟩ := hg
    obtain ⟨its, rv, p, hz⟩ := I.tuple hq
    have p' : s.heap.IsTuple a its.toArray := p
    obtain ⟨u, hu, ru⟩ := rv.get hx
    have hel : e < s.heap.objs.size := Heap.lt_size he
    have hil : it < s.heap.objs.size := by obtain ⟨_, q, _⟩ := hit; exact Heap.lt_size q
    have n1 := tup_ne_iter p' hit
    have n2 := tup_ne_enum p' he
    have hlt : i < its.toArray.size := by
      have := (List.getElem?_eq_some_iff.mp hu).1
      simpa using this
    refine wpAny_pyNext_enum_itemD (Draws.tuple (prog := X.prog) (w := X.w) (A := X.A.in1) (I.ok.hd hc) it a n1 its.toArray) he ⟨hit, p'⟩ hlt hne (by simp only [List.mem_cons, List.not_mem_nil, or_false, not_or]; exact ⟨hne, Ne.symm n2⟩) fun y h' tk hy ho st2 hT hsz hk => ?_
    have ey : y = u := by
      have z : its.toArray[i]? = some u := by simpa using hu
      rw [z] at hy
      exact (Option.some.inj hy).symm
    subst ey
    refine ⟨_, rfl, wpAny_letOwnedTupleGo_enum (s := { s with heap := h', toks := tk + 1 }) ho fun h'' he' sb => ?_⟩
    have hT2 : h''.get? s.heap.objs.size = some { cls := .type "tuple", data := .seq #[.int i tk, y] } := (sb.2 _ (Nat.ne_of_gt hel)).trans hT
    have new : ObjOk X.prog X.w (upd H s.heap.objs.size (.tup [.int (i : Nat), x])) h'' s.heap.objs.size (.tup [.int (i : Nat), x]) :=
      ⟨(by show 2 ≤ sizeLine; decide), [.int i tk, y], .cons ⟨_, rfl⟩ (.cons ru .nil), ⟨_, hT2, rfl, _, rfl⟩⟩
    have I1 : Inv X pins σ (upd H s.heap.objs.size (.tup [.int (i : Nat), x])) { s with heap := h'', toks := tk + 1 } :=
      I.turnedNew (ch := [e, it]) (fun b ob hb q => (sb.2 b (fun z => hb (by simp [z]))).trans (hk b ob (fun z => hb (by simp [z])) (fun z => hb (by simp [z])) q)) hf (Nat.le_refl _) new
    refine ⟨.ref s.heap.objs.size, _, I1, rfl, ⟨_, x, rfl, I.hok.fresh (Nat.le_refl _), rfl, fun ys hy => by rw [I.tuple_inj hy hq]; exact hx⟩, ⟨⟨y, ?_⟩, st2.1.at fun o q => (sb.2 it (Ne.symm hne)).trans q, hne⟩, fun b hb => ?_⟩
    · have e1 : ((i + 1 : Nat) : Int) = (i : Int) + 1 := by omega
      rw [e1]; exact he'
    · have hb' : b < s.heap.objs.size := by
        rcases (by simpa using hb : b = e ∨ b = it) with z | z
        · rw [z]; exact hel
        · rw [z]; exact hil
      rw [upd_ne (Nat.ne_of_lt hb')]
      exact (hf b hb).1
  done := by
    intro X hP hw hK hc i pins s σ H E I hf st hg
    subst hP; subst hw; subst hK
    obtain ⟨⟨old, he⟩, hit, hne⟩ := st
    obtain ⟨xs, hq, hx⟩ := hg
    obtain ⟨its, rv, p, hz⟩ := I.tuple hq
    have p' : s.heap.IsTuple a its.toArray := p
    obtain ⟨f0, f1, f2, f3, f4, f5⟩ := hf it (by simp)
    have hl := rv.length
    have n1 := tup_ne_iter p' hit
    have hT : s.TypeIs (.ref e) "enumerate" := ⟨_, he, rfl⟩
    unfold pyNext
    refine wpAny_bind (wpAny_attempt (wpAny_callSpecial?_slot (name := Str.ofString "__next__") hT F.slot_enumerate_next (wpAny_call_entry F.slot_enumerate_next hT F.entry_enumerate_next ?_ (F.args_enumerate_next_1 _))))
    show wpAny _ _ (field (.ref e) 2 >>= _) _ _ _
    refine wpAny_bind (wpAny_field he rfl (x := .ref it) rfl ?_)
    refine wpAny_bind (wpAny_nextOf_tuple_end (I.ok.hd hc) hit p' (by simp; omega) fun h' x he' hx' => ?_)
    obtain ⟨o, ho, hc2⟩ := hx'
    refine wpAny_bind (wpAny_isInstance (T := "StopIteration") (b := true) ⟨o, ho, hc2⟩ isSubtype_stop ?_)
    exact wpAny_pure ⟨rfl, I.turned (t' := s.toks) (fun b o hb q => he' b o hb q) f0 f1 f3 f4 f5⟩
  self := fun A i s Q E st h => by
    obtain ⟨⟨_, he⟩, _⟩ := st
    exact wpAny_pyIter_enum he h
def iEnumT (K : PySem.W.Frag) (ta : TA) : TI := fun σ H R => ta σ H fun vs H1 => ∃ a xs, vs = [.ref a] ∧ SqT K H1 a xs ∧ R (IteT K a) H1
theorem pi_enumT {X : Cx} {e : Expr} {ta : TA} {p pos tpos : Pos} {elts : List Expr} {kk : Nat} (hg : Gl X "enumerate") (hm : X.mg "enumerate" = none) (ha : PA X [e] ta) (hs : starEach [e] X.env = [(false, eval e X.env)]) :
    PI X (.Tuple elts kk tpos) (.Call (.Name "enumerate" p) [e] [] pos) (iEnumT X.K ta) := by
  refine ⟨fun pins s σ H R I h => ?_⟩
  refine Call_ (ld_blt I hg hm boot_enumerate (PyProof.Rows.callWith_type1 (thn (ha.run pos pins s σ H _ I h) fun us s1 ⟨vs, H1, I1, r1, q1⟩ => ?_) hs rfl))
  obtain ⟨a, xs, ex, hq, q⟩ := q1
  subst ex
  cases r1 with
  | cons r rr =>
    cases rr
    cases r
    obtain ⟨its, rv, p', hz⟩ := I1.tuple hq
    refine callEnum1 (begins_tuple a its.toArray) p' fun h' he hit hsz hk => wpAny_pyIter_enum he ?_
    have I2 : Inv X pins σ H1 { s1 with heap := h' } := I1.kept (t' := s1.toks) hk
    refine ⟨s1.heap.objs.size + 1, [s1.heap.objs.size + 1, s1.heap.objs.size], _, _, H1, rfl, I2, turn_enumT a (s1.heap.objs.size + 1) s1.heap.objs.size, ⟨⟨.none, he⟩, ⟨_, hit, rfl, rfl⟩, Nat.succ_ne_self _⟩, fun b hb => ?_, q⟩
    have hle : s1.heap.objs.size ≤ b := by
      rcases (by simpa using hb : b = s1.heap.objs.size + 1 ∨ b = s1.heap.objs.size) with z | z
      · rw [z]; exact Nat.le_add_right _ _
      · rw [z]; exact Nat.le_refl _
    exact I1.fpOk hle (I1.hok.fresh hle)
section
variable {B : Bs} {X : Cx} {e tg : Expr} {G : Sl} {M : Mem} {Q : List D → Mem → Prop} {pos p : Pos} {F : Hp} {σ : L2.St}
theorem wk_enumT {K : PySem.W.Frag} {a : Addr} {xs : List V} {ds : List D} (h : SqT K F a xs) (r : RpAll K F xs ds) : Wk K F (IteT K a) (enumD ds) where
  goes := fun i H hi s => by
    rw [enumD_len] at hi
    exact ⟨xs, xs[i]'(by rw [r.length]; exact hi), sq_same s h, by simp [r.length, hi]⟩
  stops := fun H s => ⟨xs, sq_same s h, by rw [r.length, enumD_len]; exact Nat.le_refl _⟩
  yields := fun i H x H' hi s y => by
    obtain ⟨T, u, h1, h2, h3, h4⟩ := y
    subst h1; subst h3
    obtain ⟨d, hd, rd⟩ := r.getV (h4 xs (sq_same s h))
    exact ⟨_, enumD_get hd, fun B F1 σ G M s1 r1 => pair_new r1 h2 (.int _) (rd.mono s1)⟩
theorem lx_enumT (hg : Gl X "enumerate") (hm : X.mg "enumerate" = none) (hs : starEach [e] X.env = [(false, eval e X.env)]) (ht : ∃ es k pp, tg = .Tuple es k pp)
    (h : EX B X e G M fun d M1 => ∃ ds, d = .tup ds ∧ Q (enumD ds) M1) : LX B X tg (.Call (.Name "enumerate" p) [e] [] pos) G M Q := fun F σ H R' r k => by
  obtain ⟨es, kk, pp, rfl⟩ := ht
  refine WIt.of (pi_enumT hg hm (pa_cons pe_we pa_nil (by rw [hs]; rfl)) hs) (h F σ H _ r fun v H1 F1 d1 M1 ⟨ds, e1, q⟩ s1 r1 p1 => ?_)
  subst e1
  cases p1 with
  | @tup a xs _ hs rs => exact ⟨a, xs, rfl, sq_same r1.ex hs, k _ _ F1 _ M1 q s1 r1 (wk_enumT hs rs)⟩
end
end FL

/-! sequences: +, *, slices, max, methods of lists -/
namespace FL
open PySem PySem.Spec PyProof.Rows L2
/-- a list of ds: frozen, or a cell -/
def IsL (M : Mem) (d : D) (ds : List D) : Prop := d = .lst ds ∨ ∃ l, d = .ref l ∧ M l = some (.lst ds)
theorem IsL.fz {M : Mem} {ds : List D} : IsL M (.lst ds) ds := .inl rfl
theorem IsL.ce {M : Mem} {l : Addr} {ds : List D} (h : M l = some (.lst ds)) : IsL M (.ref l) ds := .inr ⟨l, rfl, h⟩
/-- the cells are there as they were -/
def Ext (M M' : Mem) : Prop := ∀ a o, M a = some o → M' a = some o
theorem Ext.refl (M : Mem) : Ext M M := fun _ _ h => h
theorem Ext.trans {M M1 M2 : Mem} (h : Ext M M1) (g : Ext M1 M2) : Ext M M2 := fun a o e => g a o (h a o e)
theorem Ext.new {M : Mem} {l : Addr} {o : MO} (h : M l = none) : Ext M (mupd M l o) := fun a u e => by rw [mupd_ne (mne e h)]; exact e
theorem Ext.del {M M' : Mem} {l : Addr} (h : M l = none) (e : Ext M M') : Ext M (mdel M' l) := fun a u q => by
  unfold mdel
  rw [if_neg (mne q h)]
  exact e a u q
theorem Ext.free {M M' : Mem} {l : Addr} (e : Ext M M') (h : M' l = none) : M l = none := by
  cases q : M l with
  | none => rfl
  | some o => rw [e l o q] at h; cases h
section
variable {B : Bs} {X : Cx} {G : Sl} {M : Mem} {Q : D → Mem → Prop} {F H : Hp} {σ : L2.St} {d d2 : D} {ds es : List D} {v : V} {e : Expr} {pos p2 apos : Pos} {lo hi : Option Expr} {K : PySem.W.Frag}
theorem IsL.at (h : IsL M d ds) (r : R B K F σ H G M) (p : Rp K F v d) : ∃ a xs, v = .ref a ∧ H a = some (.lst xs) ∧ RpAll K F xs ds := by
  rcases h with rfl | ⟨l, rfl, hm⟩
  · cases p with
    | @lst a xs _ hs rs => exact ⟨a, xs, rfl, r.ex _ _ hs, rs⟩
  · cases p
    obtain ⟨_, xs, hx, rx⟩ := r.mem l _ hm
    exact ⟨l, xs, rfl, hx, rx⟩
/-! ### + -/
theorem ox_catL (h1 : IsL M d ds) (h2 : IsL M d2 es) (hl : ds.length + es.length ≤ sizeLine) (q : Q (.lst (ds ++ es)) M) : OX B X (binaryOp .Add) d d2 G M Q := fun F σ H Q' v w r p1 p2 k => by
  obtain ⟨a, xs, rfl, hx, rx⟩ := h1.at r p1
  obtain ⟨b, ys, rfl, hy, ry⟩ := h2.at r p2
  exact WO.of op_cat ⟨a, b, xs, ys, rfl, rfl, hx, hy, by rw [rx.length, ry.length]; exact hl, fun p hp => k.new r hp q (.lst upd_same ((rx.append ry).mono (r.new hp).1))⟩
theorem ox_catLM (h1 : IsL M d ds) (h2 : IsL M d2 es) (hl : ds.length + es.length ≤ sizeLine) (q : ∀ l, M l = none → Q (.ref l) (mupd M l (.lst (ds ++ es)))) : OX B X (binaryOp .Add) d d2 G M Q := fun F σ H Q' v w r p1 p2 k => by
  obtain ⟨a, xs, rfl, hx, rx⟩ := h1.at r p1
  obtain ⟨b, ys, rfl, hy, ry⟩ := h2.at r p2
  exact WO.of op_cat ⟨a, b, xs, ys, rfl, rfl, hx, hy, by rw [rx.length, ry.length]; exact hl, fun p hp => k.cell r hp (q p (r.freeM hp)) ⟨_, upd_same, rx.append ry⟩⟩
theorem RpAll.nil_iff {xs : List V} (r : RpAll K F xs ds) : xs = [] ↔ ds = [] := by cases r <;> simp
theorem ox_catT (hl : ds.length + es.length ≤ sizeLine) (q : Q (.tup (ds ++ es)) M) : OX B X (binaryOp .Add) (.tup ds) (.tup es) G M Q := fun F σ H Q' v w r p1 p2 k => by
  cases p1 with
  | @tup a xs _ ha ra =>
    cases p2 with
    | @tup b ys _ hb rb =>
      refine WO.of op_catA ⟨a, b, xs, ys, rfl, rfl, sq_same r.ex ha, sq_same r.ex hb, by rw [ra.length, rb.length]; exact hl, fun z => ?_, fun z z2 => ?_, fun z z2 p hp => ?_⟩
      · have e := ra.nil_iff.mp z
        subst e
        exact k.at r q (.tup hb rb)
      · have e := rb.nil_iff.mp z2
        subst e
        rw [List.append_nil] at q
        exact k.at r q (.tup ha ra)
      · exact k.new r hp q (.tup sq_upd ((ra.append rb).mono (r.new hp).1))
/-! ### * -/
theorem RpAll.rep {n : Nat} {x : V} (h : Rp K F x d) : RpAll K F (List.replicate n [x]).flatten (List.replicate n d) := by
  induction n with
  | zero => exact .nil
  | succ n ih => exact .cons h ih
theorem ox_repL {n : Int} (h1 : n < 100000) (q : Q (.lst (List.replicate n.toNat d)) M) (h0 : 0 ≤ n) : OX B X (binaryOp .Mult) (.lst [d]) (.int n) G M Q := fun F σ H Q' v w r p1 p2 k => by
  cases p2
  obtain ⟨a, xs, rfl, hx, rx⟩ := IsL.fz.at r p1
  obtain ⟨x, rfl, px⟩ := rp1 rx
  refine WO.of op_rep ⟨a, n, [x], rfl, rfl, hx, by omega, by omega, ?_, fun p hp => k.new r hp q (.lst upd_same ((RpAll.rep px).mono (r.new hp).1))⟩
  have : (sizeLine : Nat) ≥ 100000 := by decide
  simp; omega
theorem ox_repLM {n : Int} (h1 : n < 100000) (h0 : 0 ≤ n) (q : ∀ l, M l = none → Q (.ref l) (mupd M l (.lst (List.replicate n.toNat d)))) : OX B X (binaryOp .Mult) (.lst [d]) (.int n) G M Q := fun F σ H Q' v w r p1 p2 k => by
  cases p2
  obtain ⟨a, xs, rfl, hx, rx⟩ := IsL.fz.at r p1
  obtain ⟨x, rfl, px⟩ := rp1 rx
  refine WO.of op_rep ⟨a, n, [x], rfl, rfl, hx, by omega, by omega, ?_, fun p hp => k.cell r hp (q p (r.freeM hp)) ⟨_, upd_same, RpAll.rep px⟩⟩
  have : (sizeLine : Nat) ≥ 100000 := by decide
  simp; omega
theorem tuple_mul1 (l : Addr) (items : Array Value) (n : Nat) (dd : Option Addr) (sl : Array (Option Value)) (u : Tok) :
    Meets (Builtin.«tuple.__mul__» ⟨[.ref l, .int 1 u], []⟩) (fun _ R s => s.heap.get? l = some { cls := .type "tuple", dict := dd, data := .seq items n, slots := sl } ∧ R (.ok (.ret (Value.ref l))) s) :=
  .of_wp fun prog w A R s h => by
    obtain ⟨hp, g, d, tk, os⟩ := s
    obtain ⟨hl, h⟩ := h
    have f1 := AutoSeq1.idx_int
    have c1 : (items.isEmpty || (1 : Int) == 1) = true := by simp
    wp_walk using AutoSeq1.wpAny_loadPart' hl
    repeat (first
      | (refine wpAny_ite_false (decide_eq_false (by decide)) ?_; wp_walk using AutoSeq1.wpAny_loadPart' hl)
      | (refine wpAny_ite_true (decide_eq_true c1) ?_; wp_walk using AutoSeq1.wpAny_loadPart' hl))
    exact ⟨_, rfl, h⟩
theorem op_rep1 : OpR X (binaryOp .Mult) (fun x y H Q => ∃ l xs, x = .ref l ∧ y = .int 1 ∧ SqT X.K H l xs ∧ Q (.ref l) H) := by
  intro pins s σ H x y v u Q I rx ry h
  obtain ⟨l, xs, rfl, rfl, hT, q⟩ := h
  cases rx
  obtain ⟨t, rfl⟩ := ry
  obtain ⟨its, r, ⟨⟨cls, dd, data, sl⟩, ho, hc, n, hd⟩, hs⟩ := I.tuple hT
  simp only at hc hd
  subst hc
  subst hd
  exact wpAny_binaryOp_repeat_ref (T := "tuple") (U := "int") (by decide) ⟨_, ho, rfl⟩ (fun s' => typeIs_int s' 1 t) noFill_tuple_mul F.fills_int_mul F.slot_int_rmul repeat_tuple F.slot_int_index.lookup
    (call_meets F.slot_int_rmul (typeIs_int s 1 t) F.entry_int_rmul (F.args_int_rmul_2 _ _) (int_rmul_tuple 1 t l its.toArray n dd sl)
      ⟨ho, rfl, ⟨_, ho, rfl⟩, call_meets F.slot_tuple_mul ⟨_, ho, rfl⟩ F.entry_tuple_mul (F.args_tuple_mul_2 _ _) (tuple_mul1 l its.toArray n dd sl t) ⟨ho, .ref l, H, I, rfl, q⟩⟩)
theorem ox_repT {n : Int} (h0 : 1 ≤ n) (h1 : n ≤ 1000) (q : Q (.tup (List.replicate n.toNat d)) M) : OX B X (binaryOp .Mult) (.tup [d]) (.int n) G M Q := fun F σ H Q' v w r p1 p2 k => by
  cases p2
  cases p1 with
  | @tup a xs _ ha ra =>
    obtain ⟨x, rfl, px⟩ := rp1 ra
    by_cases hn : n = 1
    · subst hn
      exact WO.of op_rep1 ⟨a, [x], rfl, rfl, sq_same r.ex ha, k.at r q (.tup ha ra)⟩
    · exact WO.of op_repT ⟨a, n, [x], rfl, rfl, sq_same r.ex ha, by simp, by omega, h1, by simp, fun p hp => k.new r hp q (.tup sq_upd ((RpAll.rep px).mono (r.new hp).1))⟩
theorem ex_binL {es : List Expr} {b : Expr} {op : Operator} {p : Pos} (h : AX B X es G M fun xs M1 => xs.length ≤ sizeLine ∧ EX B X b G M1 fun y M2 => OX B X (binaryOp op) (.lst xs) y G M2 Q) : EX B X (.BinOp (.List es p) op b pos) G M Q := ex_bin (ex_lst h)
theorem ex_binR {es : List Expr} {a : Expr} {op : Operator} {p : Pos} (h : EX B X a G M fun x M1 => AX B X es G M1 fun ys M2 => ys.length ≤ sizeLine ∧ OX B X (binaryOp op) x (.lst ys) G M2 Q) : EX B X (.BinOp a op (.List es p) pos) G M Q := ex_bin (h.imp fun _ _ h => ex_lst h)
theorem ux_neg {i : Int} (q : Q (.int (-i)) M) : UX B X (unaryOp .USub) (.int i) G M Q := fun F σ H Q' v r p k => by
  cases p
  exact WU.of un_neg ⟨i, rfl, k.at r q (.int _)⟩
/-! ### slices -/
def cutD (ds : List D) (lo hi : Option Int) : List D := (ds.drop (HT.sIx ds.length 0 lo)).take (HT.sIx ds.length ds.length hi - HT.sIx ds.length 0 lo)
theorem cut_rp {xs : List V} {l u : Option Int} (r : RpAll K F xs ds) : RpAll K F (cutV xs l u) (cutD ds l u) := by
  unfold cutV cutD
  rw [r.length]
  exact (r.drop _).take _
def WSl (X : Cx) : V → Option Int → Option Int → Hp → VK → Prop := fun x lo hi H Q => ∀ (pins : List (Addr × Obj)) (s : Shared) (σ : L2.St) (v vl vu : Value) (sl : Addr), Inv X pins σ H s → RelV x v → s.heap.IsSliceOf sl vl vu .none → IsPart vl lo → IsPart vu hi →
    ∃ T id, typeLookup (.type T) "__getitem__" = pure (some (.builtin id)) ∧ s.TypeIs v T ∧ wpAny (model X.prog X.w) X.A (getItem v (.ref sl)) (EP X pins σ Q) X.xe s
theorem sl_wsl : SlR X (WSl X) := fun pins s σ _ _ v vl vu _ _ sl _ I rx hs pl pu h => h pins s σ v vl vu sl I rx hs pl pu
theorem WSl.of {r : V → Option Int → Option Int → Hp → VK → Prop} {x : V} {l u : Option Int} {H : Hp} {Q : VK} (h : SlR X r) (q : r x l u H Q) : WSl X x l u H Q := fun pins s σ v vl vu sl I rx hs pl pu => h pins s σ H x v vl vu l u sl Q I rx hs pl pu q
def WPO (X : Cx) : Option Expr → TO
  | none => tNoPart
  | some e => tPart (WE X e)
theorem po_wpo : ∀ {p : Option Expr}, PO X p (WPO X p)
  | none => po_none
  | some _ => po_some pe_we
def POX (B : Bs) (X : Cx) : Option Expr → Sl → Mem → (Option Int → Mem → Prop) → Prop
  | none, _, M, Q => Q none M
  | some e, G, M, Q => EX B X e G M fun d M1 => ∃ i, d = .int i ∧ Q (some i) M1
theorem pox_none {Q : Option Int → Mem → Prop} (q : Q none M) : POX B X none G M Q := q
theorem pox_some {Q : Option Int → Mem → Prop} (h : EX B X e G M fun d M1 => ∃ i, d = .int i ∧ Q (some i) M1) : POX B X (some e) G M Q := h
theorem pox_ok {Q : Option Int → Mem → Prop} {Q' : Option Int → Hp → Prop} : ∀ {p : Option Expr}, POX B X p G M Q → R B X.K F σ H G M → (∀ o H' F' M', Q o M' → Same F F' → R B X.K F' σ H' G M' → Q' o H') → WPO X p σ H Q'
  | none, h, r, k => k none H F M h (Same.refl F) r
  | some e, h, r, k => h F σ H _ r fun v H1 F1 d1 M1 ⟨i, e1, q⟩ s1 r1 p1 => by
    subst e1
    cases p1
    exact ⟨i, rfl, k (some i) H1 F1 M1 q s1 r1⟩
def SLX (B : Bs) (X : Cx) (d : D) (lo hi : Option Int) (G : Sl) (M : Mem) (Q : D → Mem → Prop) : Prop := ∀ F σ H Q' v, R B X.K F σ H G M → Rp X.K F v d → KE B X F σ G Q Q' → WSl X v lo hi H Q'
theorem ex_slice (h : EX B X e G M fun d M1 => POX B X lo G M1 fun l M2 => POX B X hi G M2 fun u M3 => SLX B X d l u G M3 Q) : EX B X (.Subscript e (.Slice lo hi none p2) pos) G M Q := fun F σ H Q' r k =>
  WE.of (pe_slice sl_wsl pe_we po_wpo po_wpo) (h F σ H _ r fun v1 H1 F1 d1 M1 q1 s1 r1 p1 => pox_ok q1 r1 fun l H2 F2 M2 q2 s2 r2 => pox_ok q2 r2 fun u H3 F3 M3 q3 s3 r3 =>
    q3 F3 σ H3 Q' v1 r3 (p1.mono (s2.trans s3)) (k.mono (s1.trans (s2.trans s3))))
theorem slx_t {l u : Option Int} (q : Q (.tup (cutD ds l u)) M) : SLX B X (.tup ds) l u G M Q := fun F σ H Q' v r p k => by
  cases p with
  | @tup a xs _ ha ra =>
    refine WSl.of sl_tupA ⟨a, xs, rfl, sq_same r.ex ha, fun z => ?_, fun z p hp => k.new r hp q (.tup sq_upd ((cut_rp ra).mono (r.new hp).1))⟩
    rw [ra.length] at z
    have e : cutD ds l u = ds := by
      unfold cutD
      rw [z.1, z.2]; simp
    rw [e] at q
    exact k.at r q (.tup ha ra)
theorem slx_l {l u : Option Int} (hL : IsL M d ds) (q : Q (.lst (cutD ds l u)) M) : SLX B X d l u G M Q := fun F σ H Q' v r p k => by
  obtain ⟨a, xs, rfl, hx, rx⟩ := hL.at r p
  exact WSl.of sl_list ⟨a, xs, rfl, SqL.of hx, fun p hp => k.new r hp q (.lst upd_same ((cut_rp rx).mono (r.new hp).1))⟩
theorem slx_lM {l u : Option Int} (hL : IsL M d ds) (q : ∀ c, M c = none → Q (.ref c) (mupd M c (.lst (cutD ds l u)))) : SLX B X d l u G M Q := fun F σ H Q' v r p k => by
  obtain ⟨a, xs, rfl, hx, rx⟩ := hL.at r p
  exact WSl.of sl_list ⟨a, xs, rfl, SqL.of hx, fun p hp => k.cell r hp (q p (r.freeM hp)) ⟨_, upd_same, cut_rp rx⟩⟩
theorem slx_s {z : Str} {l u : Option Int} (hz : z.length ≤ sizeLine) (q : Q (.str (cutS z l u)) M) : SLX B X (.str z) l u G M Q := fun F σ H Q' v r p k => by
  cases p
  exact WSl.of sl_str ⟨z, rfl, hz, k.at r q (.str _)⟩
theorem cutD_to {n : Nat} (h : n ≤ ds.length) : cutD ds none (some (n : Int)) = ds.take n := by
  unfold cutD
  rw [HT.sIx_none, HT.sIx_nat, Nat.min_eq_left h]; simp
theorem cutD_from {n : Nat} (h : n ≤ ds.length) : cutD ds (some (n : Int)) none = ds.drop n := by
  unfold cutD
  rw [HT.sIx_none, HT.sIx_nat, Nat.min_eq_left h]
  exact List.take_of_length_le (by rw [List.length_drop]; exact Nat.le_refl _)
theorem cutD_at {n m : Nat} (h : m ≤ ds.length) (h2 : n ≤ m) : cutD ds (some (n : Int)) (some (m : Int)) = (ds.drop n).take (m - n) := by
  unfold cutD
  rw [HT.sIx_nat, HT.sIx_nat, Nat.min_eq_left h, Nat.min_eq_left (Nat.le_trans h2 h)]
/-! ### max, min of lists of ints -/
theorem bx_maxL {ns : List Int} (hc : X.calm = true) (hL : IsL M d (ns.map D.int)) (hn : ns ≠ []) (q : ∀ m, m ∈ ns → (∀ y ∈ ns, y ≤ m) → Q (.int m) M) : BX B X (.builtin "max") [d] G M Q := fun F σ H Q' vs r pa kk => by
  obtain ⟨v, rfl, rp⟩ := rp1 pa
  obtain ⟨a, xs, rfl, hx, rx⟩ := hL.at r rp
  have e := RpAll.ints_of rx
  subst e
  exact WC.of (cr_max hc) ⟨a, ns, rfl, SqL.of hx, List.length_pos_iff.mpr hn, fun m h1 h2 => kk.at r (q m h1 h2) (.int m)⟩
theorem bx_minL {ns : List Int} (hc : X.calm = true) (hL : IsL M d (ns.map D.int)) (hn : ns ≠ []) (q : ∀ m, m ∈ ns → (∀ y ∈ ns, m ≤ y) → Q (.int m) M) : BX B X (.builtin "min") [d] G M Q := fun F σ H Q' vs r pa kk => by
  obtain ⟨v, rfl, rp⟩ := rp1 pa
  obtain ⟨a, xs, rfl, hx, rx⟩ := hL.at r rp
  have e := RpAll.ints_of rx
  subst e
  exact WC.of (cr_min hc) ⟨a, ns, rfl, SqL.of hx, List.length_pos_iff.mpr hn, fun m h1 h2 => kk.at r (q m h1 h2) (.int m)⟩
theorem bx_lenI (hL : IsL M d ds) (q : Q (.int (ds.length : Nat)) M) : BX B X (.builtin "len") [d] G M Q := by
  rcases hL with rfl | ⟨l, rfl, hm⟩
  · exact bx_lenL q
  · exact bx_lenC hm q
theorem bx_listI (hL : IsL M d ds) (q : Q (.lst ds) M) : BX B X (.type "list") [d] G M Q := by
  rcases hL with rfl | ⟨l, rfl, hm⟩
  · exact bx_listL q
  · exact bx_listC hm q
/-! ### methods of list cells -/
theorem mx_extend {l : Addr} (hm : M l = some (.lst ds)) (hL : IsL M d es) (hne : d ≠ .ref l) (hl : ds.length + es.length ≤ sizeLine) (q : Q .non (mupd M l (.lst (ds ++ es)))) : MX B X "list.extend" (.ref l) [d] G M Q := fun F σ H Q' v vs r p1 pa kk => by
  obtain ⟨v2, rfl, rp⟩ := rp1 pa
  cases p1
  obtain ⟨_, xs, hx, rx⟩ := r.mem l _ hm
  obtain ⟨a, ys, rfl, hy, ry⟩ := hL.at r rp
  exact WM.of mt_extend ⟨l, a, xs, ys, rfl, rfl, hx, hy, by rw [rx.length, ry.length]; exact hl, kk _ _ F _ _ q (Same.refl F) (r.write hm ⟨_, upd_same, rx.append ry⟩) .non⟩
theorem mx_popAt {l : Addr} {i : Nat} (hm : M l = some (.lst ds)) (hi : ds[i]? = some d) (hs : i < 1000000) (q : Q d (mupd M l (.lst (ds.eraseIdx i)))) : MX B X "list.pop" (.ref l) [.int (i : Nat)] G M Q := fun F σ H Q' v vs r p1 pa kk => by
  obtain ⟨v2, rfl, rp⟩ := rp1 pa
  cases p1
  cases rp
  obtain ⟨_, xs, hx, rx⟩ := r.mem l _ hm
  obtain ⟨y, hy, ry⟩ := rx.get hi
  have hlt : i < xs.length := (List.getElem?_eq_some_iff.mp hy).1
  refine WM.of mt_popAt ⟨l, xs, i, i, y, rfl, rfl, hx, by omega, by omega, ?_, hy, kk _ _ F _ _ q (Same.refl F) (r.write hm ⟨_, upd_same, rx.eraseIdx i⟩) ry⟩
  have h0 : ¬ ((i : Int) < 0) := by omega
  unfold seqIndex?
  simp [hlt, h0]
theorem mx_clear {l : Addr} (hm : M l = some (.lst ds)) (q : Q .non (mupd M l (.lst []))) : MX B X "list.clear" (.ref l) [] G M Q := fun F σ H Q' v vs r p1 pa kk => by
  cases pa
  cases p1
  obtain ⟨_, xs, hx, rx⟩ := r.mem l _ hm
  exact WM.of mt_clear ⟨l, xs, rfl, rfl, hx, kk _ _ F _ _ q (Same.refl F) (r.write hm ⟨_, upd_same, .nil⟩) .non⟩
/-- index of a flat item -/
theorem mx_index {j : Nat} (hL : IsL M d es) (hf : d2.flat = true) (ha : es.all D.flat = true) (hj : ∃ z, es[j]? = some z ∧ eqV z.toV d2.toV = true) (hno : ∀ m z, m < j → es[m]? = some z → eqV z.toV d2.toV = false) (q : Q (.int (j : Nat)) M) : MX B X "list.index" d [d2] G M Q := fun F σ H Q' v vs r p1 pa kk => by
  obtain ⟨v2, rfl, rp⟩ := rp1 pa
  obtain ⟨a, ys, rfl, hy, ry⟩ := hL.at r p1
  obtain ⟨e1, f1⟩ := rp.flat hf
  obtain ⟨e2, f2⟩ := ry.flat ha
  subst e1; subst e2
  obtain ⟨z, hz, hzz⟩ := hj
  refine WM.of mt_index ⟨a, es.map D.toV, d2.toV, j, z.toV, rfl, rfl, SqL.of hy, f1, f2, by rw [List.getElem?_map, hz]; rfl, hzz, fun m z' hm hz' => ?_, kk.at r q (.int _)⟩
  rw [List.getElem?_map] at hz'
  obtain ⟨z0, h0, rfl⟩ := Option.map_eq_some_iff.mp hz'
  exact hno m z0 hm h0
/-- a method of a built-in list; the receiver a list, frozen or a cell -/
theorem ex_bmL {o : Expr} {es : List Expr} {name : Str} {id : String} (slot : Slot "list" name id) (hty : typeOf (.builtin id) = pure (.type "method_descriptor"))
    (hbase : attributeBase o name X.env (eval o X.env) = eval o X.env)
    (hfew : ((backTo pos (starEach (e :: es) X.env)).all (fun x => !x.1) && (backToKw pos (keywordEach [] X.env)).all (fun x => x.1.isSome)
      && decide ((e :: es).length + ([] : List Keyword).length + (if ([] : List Keyword).isEmpty then 0 else 1) < 30)) = true)
    (hline : (apos.endLine == pos.line) = true) (hs : starEach (e :: es) X.env = (false, eval e X.env) :: starEach es X.env) (hplain : (backTo pos (starEach es X.env)).any (·.1) = false)
    (h : EX B X o G M fun d M1 => ∃ ds, IsL M1 d ds ∧ AX B X (e :: es) G M1 fun xs M2 => MX B X id d xs G M2 Q) : EX B X (.Call (.Attribute o name apos) (e :: es) [] pos) G M Q := fun F σ H Q' r kk =>
  WE.of (pe_bm PySem.F.plainAttrs_list slot hty mt_wm pe_we pa_wa hbase hfew hline hs hplain) (h F σ H _ r fun v1 H1 F1 d1 M1 ⟨ds, hL, q1⟩ s1 r1 p1 => by
    obtain ⟨a, xs, rfl, hx, rx⟩ := hL.at r1 p1
    exact ⟨.inl ⟨rfl, xs, .inl (.inl hx)⟩, q1 F1 σ H1 _ r1 fun vs H2 F2 ds2 M2 q2 s2 r2 p2 => q2 F2 σ H2 Q' _ vs r2 (p1.mono s2) p2 (kk.mono (s1.trans s2))⟩)
end
end FL

/-! < of data -/
namespace FL
open PySem PySem.Spec PyProof.Rows L2
section
variable {B : Bs} {X : Cx} {G : Sl} {M : Mem} {Q : D → Mem → Prop} {d e : D}
theorem op_ltD (hu : X.A.units + 64 < cLine) : OpR X (compareOp .Lt) (fun x y H Q => ∃ d e, Dp X.K H x d ∧ Dp X.K H y e ∧ PySem.W.alike d e = true ∧ d ≠ .none ∧ d.depth ≤ 64 ∧ Q (.bl (PySem.W.dataLt d e)) H) := by
  intro pins s σ H x y v u Q I rx ry h
  obtain ⟨d, e, hd, he, ha, hn, hdp, q⟩ := h
  obtain ⟨as, r1⟩ := Dp.reads I d x v hd rx
  obtain ⟨bs, r2⟩ := Dp.reads I e y u he ry
  exact PySem.W.rcLt_alike d e X.A s v u as bs r1 r2 ha hn (by omega) X.prog X.w X.xe _ ⟨.bl _, H, I, rfl, q⟩
theorem ox_ltD (hu : X.A.units + 64 < cLine) (h1 : d.isPy = true) (h2 : e.isPy = true) (ha : PySem.W.alike d.py e.py = true) (hn : d.py ≠ .none) (hd : d.dep ≤ 64) (q : Q (.bl (PySem.W.dataLt d.py e.py)) M) : OX B X (compareOp .Lt) d e G M Q := fun F σ H Q' v w r p1 p2 k =>
  WO.of (op_ltD hu) ⟨_, _, p1.dp r.ex h1, p2.dp r.ex h2, ha, hn, Nat.le_trans (dep_py d) hd, k.at r q (.bl _)⟩
end
/-- a loop's own block -/
def loopBody : Stmt → List Stmt
  | .For _ _ b _ _ => b
  | .While _ b _ _ => b
  | _ => []
def ifThen : Stmt → List Stmt
  | .If _ b _ _ => b
  | _ => []
/-- lists of ints as they ascend -/
def lexI : List Int → List Int → Bool
  | [], [] => false
  | [], _ :: _ => true
  | _ :: _, [] => false
  | x :: xs, y :: ys => decide (x < y) || (decide (x = y) && lexI xs ys)
theorem pys_int : ∀ ns : List Int, pys (ns.map D.int) = ns.map PyData.int
  | [] => by rw [List.map_nil, pys, List.map_nil]
  | n :: ns => by rw [List.map_cons, pys, D.py, List.map_cons, pys_int ns]
theorem alike_ints : ∀ ns ms : List Int, PySem.W.alikeAll (ns.map PyData.int) (ms.map PyData.int) = true
  | [], [] => by simp [PySem.W.alikeAll]
  | [], _ :: _ => by simp [PySem.W.alikeAll]
  | _ :: _, [] => by simp [PySem.W.alikeAll]
  | n :: ns, m :: ms => by
    rw [List.map_cons, List.map_cons, PySem.W.alikeAll, alike_ints ns ms, PySem.W.alike]; rfl
theorem lt_ints : ∀ ns ms : List Int, PySem.W.dataLt (.list (ns.map PyData.int)) (.list (ms.map PyData.int)) = lexI ns ms := by
  have key : ∀ ns ms : List Int, PyProof.Rows.lexLt itemOrd (PySem.W.keyToksAll (ns.map PyData.int)) (PySem.W.keyToksAll (ms.map PyData.int)) = lexI ns ms := by
    intro ns
    induction ns with
    | nil =>
      intro ms
      cases ms with
      | nil => rw [List.map_nil, PySem.W.keyToksAll]; decide +kernel
      | cons m ms =>
        rw [List.map_nil, List.map_cons, PySem.W.keyToksAll, PySem.W.keyToksAll]
        rfl
    | cons n ns ih =>
      intro ms
      cases ms with
      | nil =>
        rw [List.map_nil, List.map_cons, PySem.W.keyToksAll, PySem.W.keyToksAll]
        rfl
      | cons m ms =>
        rw [List.map_cons, List.map_cons]
        have ha : PySem.W.alike (.int n) (.int m) = true := by rw [PySem.W.alike]
        have he : PyData.eqv (.int n) (.int m) = (n == m) := by rw [PyData.eqv]
        by_cases h : n = m
        · subst h
          rw [PySem.W.dataLt_all_yes ha (by rw [he]; simp), ih]
          simp [lexI]
        · rw [PySem.W.dataLt_all_no ha (by rw [he]; simpa using h), PySem.W.dataLt_int]
          simp [lexI, h]
  intro ns ms
  rw [PySem.W.dataLt_list]
  exact key ns ms
/-- a number and a list -/
theorem lt_pair (n m : Int) (ns ms : List Int) : PySem.W.dataLt (.tuple [.int n, .list (ns.map PyData.int)]) (.tuple [.int m, .list (ms.map PyData.int)]) = (decide (n < m) || (decide (n = m) && lexI ns ms)) := by
  have ha : PySem.W.alike (.int n) (.int m) = true := by rw [PySem.W.alike]
  have he : PyData.eqv (.int n) (.int m) = (n == m) := by rw [PyData.eqv]
  rw [PySem.W.dataLt_tuple]
  by_cases h : n = m
  · subst h
    rw [PySem.W.dataLt_all_yes ha (by rw [he]; simp)]
    have hb : PySem.W.alike (.list (ns.map PyData.int)) (.list (ms.map PyData.int)) = true := by rw [PySem.W.alike]; exact alike_ints ns ms
    cases q : PyData.eqv (.list (ns.map PyData.int)) (.list (ms.map PyData.int)) with
    | true =>
      rw [PySem.W.dataLt_all_yes hb q]
      have e1 : ns = ms := by
        rw [PyData.eqv] at q
        have z : eqDs (ns.map D.int) (ms.map D.int) = true := by unfold eqDs; rw [pys_int, pys_int]; exact q
        rw [eqDs_enc (fun x y => eqD_int' x y)] at z
        exact of_decide_eq_true z
      subst e1
      have e2 : lexI ns ns = false := by
        clear q hb
        induction ns with
        | nil => rfl
        | cons n ns ih => simp [lexI, ih]
      rw [e2]
      simp
      decide +kernel
    | false =>
      rw [PySem.W.dataLt_all_no hb q, lt_ints]
      simp
  · rw [PySem.W.dataLt_all_no ha (by rw [he]; simpa using h), PySem.W.dataLt_int]
    simp [h]
end FL

/-! slices of lists with a step -/
namespace FL
open PySem PySem.Spec PyProof.Rows L2
def pickOf {α : Type} (xs : List α) (lo hi st : Option Int) : List α := (sliceRange (sliceBounds lo hi st xs.length).1 (sliceBounds lo hi st xs.length).2.1 (sliceBounds lo hi st xs.length).2.2).filterMap (xs[·]?)
theorem pickOf_len {α : Type} (xs : List α) (lo hi st : Option Int) : (pickOf xs lo hi st).length ≤ xs.length := by
  unfold pickOf
  refine Nat.le_trans (List.length_filterMap_le _ _) (sliceRange_length_le _ _ _ _ (fun hc => ?_) fun hc => ?_)
  · simp only [sliceBounds] at hc ⊢
    simp only [hc, if_true]
    constructor
    · cases lo with
      | none => simp
      | some i => dsimp only; omega
    · cases hi with
      | none => simp
      | some i => dsimp only; omega
  · simp only [sliceBounds] at hc ⊢
    simp only [hc, if_false]
    constructor
    · cases lo with
      | none => simp
      | some i => dsimp only; omega
    · cases hi with
      | none => simp
      | some i => dsimp only; omega
theorem vals_pick {xs : List V} {us : List Value} (r : Vals xs us) : ∀ l : List Nat, Vals (l.filterMap (xs[·]?)) (l.filterMap (us[·]?))
  | [] => .nil
  | i :: l => by
    rw [List.filterMap_cons, List.filterMap_cons]
    have e := r.length
    by_cases h : i < xs.length
    · obtain ⟨u, hu, ru⟩ := r.get (List.getElem?_eq_getElem h)
      rw [List.getElem?_eq_getElem h, hu]
      exact .cons ru (vals_pick r l)
    · rw [List.getElem?_eq_none (by omega), List.getElem?_eq_none (by omega)]
      exact vals_pick r l
theorem rp_pick {K : PySem.W.Frag} {F : Hp} {xs : List V} {ds : List D} (r : RpAll K F xs ds) : ∀ l : List Nat, RpAll K F (l.filterMap (xs[·]?)) (l.filterMap (ds[·]?))
  | [] => .nil
  | i :: l => by
    rw [List.filterMap_cons, List.filterMap_cons]
    have e := r.length
    by_cases h : i < xs.length
    · obtain ⟨u, hu, ru⟩ := r.getV (List.getElem?_eq_getElem h)
      rw [List.getElem?_eq_getElem h, hu]
      exact .cons ru (rp_pick r l)
    · rw [List.getElem?_eq_none (by omega), List.getElem?_eq_none (by omega)]
      exact rp_pick r l
section
variable {B : Bs} {X : Cx} {G : Sl} {M : Mem} {Q : D → Mem → Prop} {e st : Expr} {te : TE} {lo hi : Option Expr} {tl th ts : TO} {pos p2 : Pos} {ds : List D}
def tSt (K : PySem.W.Frag) (te : TE) (tl th ts : TO) : TE := fun σ H Q => te σ H fun x H1 => tl σ H1 fun l H2 => th σ H2 fun u H3 => ts σ H3 fun k H4 =>
  ∃ a xs, x = .ref a ∧ SqL K H4 a xs ∧ k ≠ some 0 ∧ ∀ p, H4 p = none → Q (.ref p) (upd H4 p (.lst (pickOf xs l u k)))
theorem pe_sliceSt (he : PE X e te) (hl : PO X lo tl) (hu : PO X hi th) (hs : PO X (some st) ts) : PE X (.Subscript e (.Slice lo hi (some st) p2) pos) (tSt X.K te tl th ts) := by
  refine ⟨fun pins s σ H Q I h => ?_⟩
  refine Subscript_ (thn (he.run pins s σ H _ I h) fun v s1 ⟨x, H1, I1, r1, q1⟩ => ?_)
  refine wpAny_Slice (thn (hl.run pins s1 σ H1 _ I1 q1) fun vl s2 ⟨l, H2, I2, pl, q2⟩ => thn (hu.run pins s2 σ H2 _ I2 q2) fun vu s3 ⟨u, H3, I3, pu, q3⟩ => thn (hs.run pins s3 σ H3 _ I3 q3) fun vs s4 ⟨k, H4, I4, pk, q4⟩ => ?_)
  obtain ⟨a, xs, rfl, hx, hk, q⟩ := q4
  cases r1
  have I5 : Inv X pins σ H4 { s4 with heap := s4.heap.push { cls := .type "slice", data := .fields #[vl, vu, vs] } } := I4.kept (t' := s4.toks) fun b ob q => Heap.get?_push_of_some _ q
  obtain ⟨its, r, ht, hz⟩ := I5.list hx
  have hlen := r.length
  have hg : wpAny (model X.prog X.w) X.A (getItem (.ref a) (.ref s4.heap.objs.size)) (EP X pins σ Q) X.xe { s4 with heap := s4.heap.push { cls := .type "slice", data := .fields #[vl, vu, vs] } } := by
    refine wpAny_getItem_list_slice ht.isList (Heap.IsSliceOf.new ..) pl pu pk hk ?_ (by rw [List.size_toArray]; omega)
    have e1 : slicePick its.toArray l u k = (pickOf its l u k).toArray := by
      unfold slicePick pickOf
      rw [List.size_toArray]
      congr 1
      refine congrArg (fun f => List.filterMap f _) (funext fun i => ?_)
      simp
    rw [e1]
    have e2 : Vals (pickOf xs l u k) (pickOf its l u k) := by
      unfold pickOf
      rw [hlen]
      exact vals_pick r _
    refine ⟨.ref _, _, I5.laid (t' := s4.toks) (o := .lst (pickOf xs l u k)) (fun b ob q => Heap.get?_push_of_some _ q) (Nat.le_refl _) ?_, rfl, q _ (I5.hok.fresh (Nat.le_refl _))⟩
    exact ⟨Nat.le_trans (pickOf_len xs l u k) hz, _, 0, e2, Heap.get?_push_size _ rfl⟩
  show wpAny (model X.prog X.w) X.A (subscriptTail e (.Slice lo hi (some st) p2) (.ref a) (.ref s4.heap.objs.size)) (EP X pins σ Q) X.xe _
  exact tail_any (ops := [.ref a, .ref s4.heap.objs.size]) ht.isList.typeIs slot_list_getitem.lookup hg (by with_unfolding_all rfl)
theorem ex_sliceSt (h : EX B X e G M fun d M1 => POX B X lo G M1 fun l M2 => POX B X hi G M2 fun u M3 => EX B X st G M3 fun k M4 => ∃ (ds : List D) (j : Int), IsL M4 d ds ∧ k = .int j ∧ j ≠ 0 ∧ Q (.lst (pickOf ds l u (some j))) M4) : EX B X (.Subscript e (.Slice lo hi (some st) p2) pos) G M Q := fun F σ H Q' r k =>
  WE.of (pe_sliceSt pe_we po_wpo po_wpo (po_some pe_we)) (h F σ H _ r fun v1 H1 F1 d1 M1 q1 s1 r1 p1 => pox_ok q1 r1 fun l H2 F2 M2 q2 s2 r2 => pox_ok q2 r2 fun u H3 F3 M3 q3 s3 r3 => q3 F3 σ H3 _ r3 fun v4 H4 F4 d4 M4 q4 s4 r4 p4 => by
    obtain ⟨ds, j, hL, e4, hj, q⟩ := q4
    subst e4
    cases p4
    obtain ⟨a, xs, rfl, hx, rx⟩ := hL.at r4 (p1.mono (s2.trans (s3.trans s4)))
    refine ⟨j, rfl, a, xs, rfl, SqL.of hx, fun z => hj (Option.some.inj z), fun p hp => ?_⟩
    refine (k.mono (s1.trans (s2.trans (s3.trans s4)))).new r4 hp q (.lst upd_same ?_)
    unfold pickOf
    rw [rx.length]
    exact (rp_pick rx _).mono (r4.new hp).1)
/-- from a place on, each so manieth -/
theorem pick_from {α : Type} {xs : List α} {n o j : Nat} (ho : 0 < o) (hj : j < o) (hl : xs.length = o * n) : pickOf xs (some (j : Int)) none (some (o : Int)) = (List.range n).filterMap fun k => xs[j + o * k]? := by
  unfold pickOf
  have e1 : (sliceBounds (some (j : Int)) none (some (o : Int)) xs.length) = ((min (j : Int) (xs.length : Int)), (xs.length : Int), (o : Int)) := by
    simp only [sliceBounds, Option.getD_some]
    have h1 : (o : Int) > 0 := by omega
    have h2 : ¬ ((j : Int) < 0) := by omega
    simp only [h1, h2, if_true, if_false]
    congr 1
    omega
  rw [e1]
  unfold sliceRange
  have h1 : (o : Int) > 0 := by omega
  simp only [h1, if_true]
  cases n with
  | zero =>
    have hx : xs = [] := List.eq_nil_of_length_eq_zero (by simpa using hl)
    subst hx
    simp
  | succ n =>
    have hjl : j < xs.length := by
      rw [hl, Nat.mul_succ]; omega
    rw [Int.min_eq_left (by omega), if_pos (by omega)]
    have ec : ((((xs.length : Nat) : Int) - (j : Int) + (o : Int) - 1) / (o : Int)).toNat = n + 1 := by
      have e2 : ((xs.length : Nat) : Int) - (j : Int) + (o : Int) - 1 = ((o : Int) - 1 - (j : Int)) + (o : Int) * ((n : Int) + 1) := by
        rw [hl, Nat.mul_succ]
        have : ((o * n + o : Nat) : Int) = (o : Int) * (n : Int) + (o : Int) := by simp
        rw [this, Int.mul_add, Int.mul_one]; omega
      rw [e2, Int.add_mul_ediv_left _ _ (by omega), Int.ediv_eq_zero_of_lt (by omega) (by omega)]
      omega
    rw [ec, List.filterMap_map]
    refine congrArg (fun f => List.filterMap f (List.range (n + 1))) (funext fun k => ?_)
    show xs[((j : Int) + (o : Int) * (k : Int)).toNat]? = _
    have : ((j : Int) + (o : Int) * (k : Int)).toNat = j + o * k := by
      have : (j : Int) + (o : Int) * (k : Int) = ((j + o * k : Nat) : Int) := by simp
      rw [this, Int.toNat_natCast]
    rw [this]
end
end FL

/-! list(range(..)) -/
namespace FL
open PySem PySem.Spec PyProof.Rows L2
section
variable {B : Bs} {X : Cx} {G : Sl} {M : Mem} {Q : D → Mem → Prop} {a : Expr} {p p2 pos pos2 : Pos}
theorem rps_rg {K : PySem.W.Frag} {F : Hp} {n : Int} : RpAll K F (rgV 0 n) (rangeD 0 n.toNat) := by
  unfold rgV rangeD
  rw [Int.sub_zero]
  generalize List.range n.toNat = l
  induction l with
  | nil => exact .nil
  | cons x l ih => exact .cons (.int _) ih
theorem ex_listRg (hc : X.calm = true) (hl : Gl X "list") (hlm : X.mg "list" = none) (hg : Gl X "range") (hm : X.mg "range" = none) (n1 : starEach [a] X.env = (false, eval a X.env) :: starEach [] X.env)
    (n2 : starEach [Expr.Call (.Name "range" p2) [a] [] pos2] X.env = (false, eval (Expr.Call (.Name "range" p2) [a] [] pos2) X.env) :: starEach [] X.env)
    (h : EX B X a G M fun d M1 => ∃ n : Int, d = .int n ∧ 0 ≤ n ∧ n ≤ 16777216 ∧ Q (.lst (rangeD 0 n.toNat)) M1) : EX B X (.Call (.Name "list" p) [.Call (.Name "range" p2) [a] [] pos2] [] pos) G M Q := fun F σ H Q' r k =>
  WE.of (pe_listRg hc hl hlm (prg_1 hg hm pe_we n1) n2) (h F σ H _ r fun v H1 F1 d1 M1 ⟨n, e1, h0, h1, q⟩ s1 r1 p1 => by
    subst e1; cases p1
    exact ⟨n, rfl, RgOk.of_le (Int.le_refl 0) h1 (by decide) h0, fun l hl => (k.mono s1).new r1 hl q (.lst upd_same rps_rg)⟩)
end
end FL

/-! instances: fields, methods, making -/
namespace FL
open PySem PySem.Spec PyProof.Rows L2
/-- a field is set -/
def putD (f : Str) (d : D) : List (Str × D) → List (Str × D)
  | [] => [(f, d)]
  | (g, x) :: r => if g = f then (g, d) :: r else (g, x) :: putD f d r
section
variable {K : PySem.W.Frag} {F : Hp} {f : Str}
theorem FsRp.get {d : D} : ∀ {vs : List (Str × V)} {ds : List (Str × D)}, FsRp K F vs ds → ds.lookup f = some d → ∃ v, vs.lookup f = some v ∧ Rp K F v d
  | _, _, .nil, h => by cases h
  | _, _, @FsRp.cons _ _ k v vs e ds p r, h => by
    rw [List.lookup_cons] at h ⊢
    split at h
    · rename_i q
      cases h
      exact ⟨v, rfl, p⟩
    · exact r.get h
theorem FsRp.none : ∀ {vs : List (Str × V)} {ds : List (Str × D)}, FsRp K F vs ds → ds.lookup f = none → vs.lookup f = none
  | _, _, .nil, h => rfl
  | _, _, @FsRp.cons _ _ k v vs e ds p r, h => by
    rw [List.lookup_cons] at h ⊢
    split at h
    · cases h
    · exact r.none h
theorem FsRp.len : ∀ {vs : List (Str × V)} {ds : List (Str × D)}, FsRp K F vs ds → vs.length = ds.length
  | _, _, .nil => rfl
  | _, _, .cons _ r => by rw [List.length_cons, List.length_cons, r.len]
theorem FsRp.put {v : V} {d : D} (q : Rp K F v d) : ∀ {vs : List (Str × V)} {ds : List (Str × D)}, FsRp K F vs ds → FsRp K F (putF f v vs) (putD f d ds)
  | _, _, .nil => .cons q .nil
  | _, _, @FsRp.cons _ _ k w vs e ds p r => by
    unfold putF putD
    by_cases h : k = f
    · rw [if_pos h, if_pos h]; exact .cons q r
    · rw [if_neg h, if_neg h]; exact .cons p (r.put q)
end
/-- a method of the class at C -/
structure Mth (P : Program) (w : World) (K : PySem.W.Frag) (mg : Str → Option Value) (base : Heap) (k : Nat) (C : Addr) (m : Str) (sp : DSp) : Prop where
  ex : ∃ (f : Addr) (fd : FuncData) (ps : List Str), FnOk P w K mg base CX0 k f fd ps (lift K sp) ∧ Cls K C ∧ Meth K C m f ∧ Binds K fd ps []
/-- the class by its name, and its __init__ -/
structure Mkr (P : Program) (w : World) (K : PySem.W.Frag) (mg : Str → Option Value) (base : Heap) (k : Nat) (x : Str) (C : Addr) (sp : DSp) : Prop where
  ex : ∃ (f : Addr) (fd : FuncData) (ps : List Str), FnOk P w K mg base CX0 k f fd ps (lift K sp) ∧ Mk K C f ∧ mg x = some (.ref C) ∧ Binds K fd ps []
section
variable {B : Bs} {X : Cx} {a b c e o value : Expr} {es : List Expr} {G G' : Sl} {M M' : Mem} {Q : D → Mem → Prop} {E : En} {pos p pos' apos : Pos} {k : Nat} {x m f : Str} {sp : DSp} {C : Addr}
theorem ex_fld (hb : attributeBase e f X.env (eval e X.env) = eval e X.env) (h : EX B X e G M fun d M1 => ∃ a C fs v, d = .ref a ∧ M1 a = some (.ins C fs) ∧ Cls X.K C ∧ NoAttr X.K C f ∧ fs.lookup f = some v ∧ Q v M1) : EX B X (.Attribute e f pos) G M Q := fun F σ H Q' r kk =>
  WE.of (pe_fld pe_we hb) (h F σ H _ r fun v H1 F1 d1 M1 ⟨a, C, fs, y, e1, hm, c, n, l, q⟩ s1 r1 p1 => by
    subst e1; cases p1
    obtain ⟨_, dx, vs, hx, rx⟩ := r1.mem a _ hm
    obtain ⟨u, hu, ru⟩ := rx.get l
    exact ⟨a, C, dx, vs, u, rfl, hx, c, n, hu, (kk.mono s1).at r1 q ru⟩)
theorem sx_fld (hs : swapsWith value (some (.Attribute o f pos')) pos.line X.env = pure false) (h : EX B X value G M fun d M1 => EX B X o G M1 fun d2 M2 => ∃ a C fs, d2 = .ref a ∧ M2 a = some (.ins C fs) ∧ Cls X.K C ∧ NoAttr X.K C f ∧ fs.length < 1000 ∧ E.nx G (mupd M2 a (.ins C (putD f d fs)))) :
    SX B X (.Assign [.Attribute o f pos'] value pos) E G M := fun F σ H D' r k =>
  WS.of (ps_fld pe_we pe_we hs) (h F σ H _ r fun v1 H1 F1 d1 M1 q1 s1 r1 p1 => q1 F1 σ H1 _ r1 fun v2 H2 F2 d2 M2 ⟨a, C, fs, e2, hm, c, n, l, q⟩ s2 r2 p2 => by
    subst e2; cases p2
    obtain ⟨_, dx, vs, hx, rx⟩ := r2.mem a _ hm
    refine ⟨a, C, dx, vs, rfl, hx, c, n, by rw [rx.len]; exact l, k.nx _ _ F2 _ _ q (s1.trans s2) (r2.write hm ⟨dx, _, upd_same, rx.put (p1.mono s2)⟩)⟩)
theorem ex_meth {pl : Sem Bool} (c : Mth X.prog X.w X.K X.mg X.base k C m sp) (hr : Room k X.A) (hst : starEach (e :: es) X.env = (false, eval e X.env) :: starEach es X.env) (hpl : (backTo pos (starEach es X.env)).any (·.1) = false)
    (ht : eval (.Call (.Attribute o m apos) (e :: es) [] pos) X.env = (do
      let ov ← eval o X.env
      standAt apos.atName
      let (f, first) ← holding [ov] (getMethod ov m pl)
      callWith pos f first (backTo pos (starEach (e :: es) X.env)) (backToKw pos (keywordEach [] X.env))))
    (h : EX B X o G M fun d M1 => ∃ a fs, d = .ref a ∧ M1 a = some (.ins C fs) ∧ fs.lookup m = none ∧ AX B X (e :: es) G M1 fun ds M2 => sp (.ref a :: ds) M2 Q) : EX B X (.Call (.Attribute o m apos) (e :: es) [] pos) G M Q := fun F σ H Q' r kk => by
  obtain ⟨f, fd, ps, Fo, cl, me, bd⟩ := c.ex
  refine WE.of (pe_meth pe_we cl me Fo hr bd .nil pass0 pa_wa hst hpl ht) (h F σ H _ r fun v H1 F1 d1 M1 ⟨a, fs, e1, hm, l, q⟩ s1 r1 p1 => ?_)
  subst e1; cases p1
  obtain ⟨_, dx, vs, hx, rx⟩ := r1.mem a _ hm
  refine ⟨a, dx, vs, rfl, hx, rx.none l, q F1 σ H1 _ r1 fun us H2 F2 ds M2 q2 s2 r2 p2 => ?_⟩
  rw [List.append_nil]
  exact lift_use r2 (.cons (.ref a) p2) q2 (kk.mono (s1.trans s2))
theorem ex_meth0 {pl : Sem Bool} (c : Mth X.prog X.w X.K X.mg X.base k C m sp) (hr : Room k X.A)
    (ht : eval (.Call (.Attribute o m apos) [] [] pos) X.env = (do
      let ov ← eval o X.env
      standAt apos.atName
      let (f, first) ← holding [ov] (getMethod ov m pl)
      callWith pos f first (backTo pos (starEach [] X.env)) (backToKw pos (keywordEach [] X.env))))
    (h : EX B X o G M fun d M1 => ∃ a fs, d = .ref a ∧ M1 a = some (.ins C fs) ∧ fs.lookup m = none ∧ sp [.ref a] M1 Q) : EX B X (.Call (.Attribute o m apos) [] [] pos) G M Q := fun F σ H Q' r kk => by
  obtain ⟨f, fd, ps, Fo, cl, me, bd⟩ := c.ex
  refine WE.of (pe_meth0 pe_we cl me Fo hr bd .nil pass0 ht) (h F σ H _ r fun v H1 F1 d1 M1 ⟨a, fs, e1, hm, l, q⟩ s1 r1 p1 => ?_)
  subst e1; cases p1
  obtain ⟨_, dx, vs, hx, rx⟩ := r1.mem a _ hm
  exact ⟨a, dx, vs, rfl, hx, rx.none l, lift_use (E0' := E0) r1 (.cons (.ref a) .nil) q (kk.mono s1)⟩
theorem make_use {F1 H1 : Hp} {σ : L2.St} {vs : List V} {ds : List D} {Q' : VK} {E0' : XK} (r1 : R B X.K F1 σ H1 G M) (p1 : RpAll X.K F1 vs ds) (q : ∀ x, M x = none → sp (.ref x :: ds) (mupd M x (.ins C [])) fun d M2 => d = .non ∧ Q (.ref x) M2) (kk : KE B X F1 σ G Q Q') :
    ∀ x dx, H1 x = none → H1 dx = none → dx ≠ x → lift X.K sp (.ref x :: vs) (upd (upd H1 dx (.own x)) x (.ins C dx [])) (fun v H2 => v = .non ∧ Q' (.ref x) H2) E0' := by
  intro x dx hx hd hne
  have r2 : R B X.K F1 σ (upd H1 dx (.own x)) G M := r1.heap (Same.upd_new hd)
  have hx2 : (upd H1 dx (.own x)) x = none := by rw [upd_ne (Ne.symm hne)]; exact hx
  have r3 : R B X.K F1 σ (upd (upd H1 dx (.own x)) x (.ins C dx [])) G (mupd M x (.ins C [])) := r2.newCell hx2 ⟨dx, [], upd_same, .nil⟩
  exact ⟨F1, _, _, _, .cons (.ref x) p1, r3.ex, r3.mem, q x (r1.freeM hx), fun d M' ⟨e, qd⟩ v H' F' s' k' e' m' rp => by
    subst e; cases rp
    exact ⟨rfl, kk (.ref x) H' F' (.ref x) M' qd s' ⟨r3.slots.mono s', e', m', r3.bf.trans s', r3.bk.trans k'⟩ (.ref x)⟩⟩
theorem ex_make (c : Mkr X.prog X.w X.K X.mg X.base k x C sp) (hr : Room (k + 1) X.A) (hg : Gl X x) (hdb : (x == ("__debug__" : Str)) = false)
    (he : starEach (e :: es) X.env = (false, eval e X.env) :: starEach es X.env) (hpl : (backTo pos (starEach es X.env)).any (·.1) = false)
    (h : AX B X (e :: es) G M fun ds M1 => ∀ x, M1 x = none → sp (.ref x :: ds) (mupd M1 x (.ins C [])) fun d M2 => d = .non ∧ Q (.ref x) M2) : EX B X (.Call (.Name x p) (e :: es) [] pos) G M Q := fun F σ H Q' r kk => by
  obtain ⟨f, fd, ps, Fo, mk, mgx, bd⟩ := c.ex
  refine WE.of (pe_make mk Fo hr hg mgx bd .nil pass0 pa_wa hdb he hpl) (h F σ H _ r fun vs H1 F1 ds M1 q1 s1 r1 p1 => ?_)
  intro y dx hx hd hne
  rw [List.append_nil]
  exact make_use r1 p1 q1 (kk.mono s1) y dx hx hd hne
theorem ex_make0 (c : Mkr X.prog X.w X.K X.mg X.base k x C sp) (hr : Room (k + 1) X.A) (hg : Gl X x) (hdb : (x == ("__debug__" : Str)) = false)
    (h : ∀ x, M x = none → sp [.ref x] (mupd M x (.ins C [])) fun d M2 => d = .non ∧ Q (.ref x) M2) : EX B X (.Call (.Name x p) [] [] pos) G M Q := fun F σ H Q' r kk => by
  obtain ⟨f, fd, ps, Fo, mk, mgx, bd⟩ := c.ex
  exact WE.of (pe_make0 mk Fo hr hg mgx bd .nil pass0 hdb) (make_use (vs := [] ++ []) (E0' := E0) r .nil h kk)
end
end FL

/-! walks over lists that may be cells: the cell is known to stay as it is -/
namespace FL
open PySem PySem.Spec PyProof.Rows L2
structure WkM (B : Bs) (K : PySem.W.Frag) (F0 : Hp) (J : It) (ds : List D) (C : Mem → Prop) : Prop where
  goes : ∀ i F σ H G M, i < ds.length → Same F0 F → R B K F σ H G M → C M → J.go i H
  stops : ∀ F σ H G M, Same F0 F → R B K F σ H G M → C M → J.stop ds.length H
  yields : ∀ i F σ H G M x H', i < ds.length → Same F0 F → R B K F σ H G M → C M → J.yld i H x H' → ∃ d, ds[i]? = some d ∧ ∃ F2, Same F F2 ∧ R B K F2 σ H' G M ∧ Rp K F2 x d
/-- an iterable that gives ds while C holds of the cells -/
def LXM (B : Bs) (X : Cx) (tg iter : Expr) (G : Sl) (M : Mem) (Q : List D → (Mem → Prop) → Mem → Prop) : Prop := ∀ F σ H (R' : It → Hp → Prop), R B X.K F σ H G M →
  (∀ J H' F' ds C M', Q ds C M' → Same F F' → R B X.K F' σ H' G M' → WkM B X.K F' J ds C → R' J H') → WIt X tg iter σ H R'
section
variable {B : Bs} {X : Cx} {a b c e o tg iter elt : Expr} {es : List Expr} {G G' : Sl} {M M' : Mem} {Q : D → Mem → Prop} {E : En} {pos p pos' : Pos} {F F1 : Hp} {σ : L2.St} {st : Stmt} {sts rest body : List Stmt}
theorem wkm_isL {K : PySem.W.Frag} {F0 : Hp} {a : Addr} {d : D} {ds : List D} (p0 : Rp K F0 (.ref a) d) : WkM B K F0 (Itl K a) ds (fun M => IsL M d ds) where
  goes := fun i F σ H G M hi s r hC => by
    obtain ⟨a', xs, e, hx, rx⟩ := hC.at r (p0.mono s)
    cases e
    exact ⟨xs, xs[i]'(by rw [rx.length]; exact hi), SqL.of hx, by simp [rx.length, hi]⟩
  stops := fun F σ H G M s r hC => by
    obtain ⟨a', xs, e, hx, rx⟩ := hC.at r (p0.mono s)
    cases e
    exact ⟨xs, SqL.of hx, by rw [rx.length]; exact Nat.le_refl _⟩
  yields := fun i F σ H G M x H' hi s r hC y => by
    obtain ⟨a', xs, e, hx, rx⟩ := hC.at r (p0.mono s)
    cases e
    obtain ⟨e2, y⟩ := y
    subst e2
    obtain ⟨d, hd, rd⟩ := rx.getV (y xs (SqL.of hx))
    exact ⟨d, hd, F, Same.refl F, r, rd⟩
theorem lxm_isL {Q : List D → (Mem → Prop) → Mem → Prop} (h : EX B X e G M fun d M1 => ∃ ds, IsL M1 d ds ∧ Q ds (fun M => IsL M d ds) M1) : LXM B X tg e G M Q := fun F σ H R' r k =>
  WIt.of (pi_list pe_we) (h F σ H _ r fun v H1 F1 d1 M1 ⟨ds, hL, q⟩ s1 r1 p1 => by
    obtain ⟨a, xs, rfl, hx, rx⟩ := hL.at r1 p1
    exact ⟨a, rfl, ⟨xs, SqL.of hx⟩, k _ _ F1 ds _ M1 q s1 r1 (wkm_isL p1)⟩)
theorem wkm_enumL {K : PySem.W.Frag} {F0 : Hp} {a : Addr} {d : D} {ds : List D} (p0 : Rp K F0 (.ref a) d) : WkM B K F0 (Ite K a) (enumD ds) (fun M => IsL M d ds) where
  goes := fun i F σ H G M hi s r hC => by
    rw [enumD_len] at hi
    obtain ⟨a', xs, e, hx, rx⟩ := hC.at r (p0.mono s)
    cases e
    exact ⟨xs, xs[i]'(by rw [rx.length]; exact hi), SqL.of hx, by simp [rx.length, hi]⟩
  stops := fun F σ H G M s r hC => by
    obtain ⟨a', xs, e, hx, rx⟩ := hC.at r (p0.mono s)
    cases e
    exact ⟨xs, SqL.of hx, by rw [rx.length, enumD_len]; exact Nat.le_refl _⟩
  yields := fun i F σ H G M x H' hi s r hC y => by
    obtain ⟨a', xs, e, hx, rx⟩ := hC.at r (p0.mono s)
    cases e
    obtain ⟨T, u, h1, h2, h3, h4⟩ := y
    subst h1; subst h3
    obtain ⟨d, hd, rd⟩ := rx.getV (h4 xs (SqL.of hx))
    obtain ⟨F2, s2, r2, p2⟩ := pair_new r h2 (.int _) rd
    exact ⟨_, enumD_get hd, F2, s2, r2, p2⟩
theorem lxm_enumL {Q : List D → (Mem → Prop) → Mem → Prop} (hg : Gl X "enumerate") (hm : X.mg "enumerate" = none) (hs : starEach [e] X.env = [(false, eval e X.env)]) (ht : ∃ es k pp, tg = .Tuple es k pp)
    (h : EX B X e G M fun d M1 => ∃ ds, IsL M1 d ds ∧ Q (enumD ds) (fun M => IsL M d ds) M1) : LXM B X tg (.Call (.Name "enumerate" p) [e] [] pos) G M Q := fun F σ H R' r k => by
  obtain ⟨es, kk, pp, rfl⟩ := ht
  refine WIt.of (pi_enum hg hm (pa_cons pe_we pa_nil (by rw [hs]; rfl)) hs) (h F σ H _ r fun v H1 F1 d1 M1 ⟨ds, hL, q⟩ s1 r1 p1 => ?_)
  obtain ⟨a, xs, rfl, hx, rx⟩ := hL.at r1 p1
  exact ⟨a, xs, rfl, SqL.of hx, k _ _ F1 _ _ M1 q s1 r1 (wkm_enumL p1)⟩
theorem sx_forM (hp : PassesOwn (model X.prog X.w) X.A X.env X.xe) (hc : X.calm = true) (hs : ∀ x, foldedSetIterable iter X.env x = pure x)
    (h : LXM B X tg iter G M fun ds C M1 => ∃ I : Nat → Sl → Mem → Prop, I 0 G M1 ∧ (∀ i G' M', I i G' M' → C M') ∧
      (∀ i d G' M', ds[i]? = some d → I i G' M' → GX B X tg d G' M' fun G2 M2 => SXs B X body (E.lp (I (i + 1))) G2 M2) ∧ ∀ G' M', I ds.length G' M' → E.nx G' M') :
    SX B X (.For tg iter body [] pos) E G M := fun F σ H D' r k =>
  WS.of (ps_for hp hc pi_wi pg_wg pss_wss hs) (h F σ H _ r fun J H1 F1 ds C M1 ⟨I, i0, iC, turn, fin⟩ s1 r1 w => by
    refine ⟨fun i m σ' H' => m = ds.length - i ∧ i ≤ ds.length ∧ ∃ F' G' M', Same F1 F' ∧ R B X.K F' σ' H' G' M' ∧ I i G' M', ⟨_, rfl, Nat.zero_le _, F1, G, M1, Same.refl F1, r1, i0⟩, ?_⟩
    rintro i m σ' H' ⟨rfl, hi, F', G', M', s', r', hI⟩
    by_cases hlt : i < ds.length
    · refine .inr ⟨w.goes i F' σ' H' G' M' hlt s' r' (iC i G' M' hI), fun σ2 H2 => ∃ F' G' M', Same F1 F' ∧ R B X.K F' σ2 H2 G' M' ∧ I (i + 1) G' M', fun σ2 H2 z => ⟨ds.length - (i + 1), by omega, rfl, hlt, z⟩, fun x H2 y => ?_⟩
      obtain ⟨d, hd, F2, s2, r2, p2⟩ := w.yields i F' σ' H' G' M' x H2 hlt s' r' (iC i G' M' hI) y
      refine turn i d G' M' hd hI F2 σ' H2 _ x r2 p2 fun σ3 H3 F3 G3 M3 q3 s3 r3 => q3 F3 σ3 H3 _ r3 ?_
      have s03 : Same F F3 := s1.trans (s'.trans (s2.trans s3))
      refine ⟨?_, k.rt.mono s03, k.nx.mono s03, ?_⟩
      · exact fun σ4 H4 F4 G4 M4 q4 s4 r4 => ⟨F4, G4, M4, (s'.trans (s2.trans s3)).trans s4, r4, q4⟩
      · exact fun σ4 H4 F4 G4 M4 q4 s4 r4 => ⟨F4, G4, M4, (s'.trans (s2.trans s3)).trans s4, r4, q4⟩
    · have e : i = ds.length := by omega
      subst e
      exact .inl ⟨w.stops F' σ' H' G' M' s' r' (iC _ G' M' hI), k.nx σ' H' F' G' M' (fin G' M' hI) (s1.trans s') r'⟩)
/-! ### comprehensions over such -/
def LcXM (B : Bs) (X : Cx) (scope : Scope) (own : List Nat) (t : Tg) (ifs : List Expr) (elt : Expr) (G : Sl) (ds : List D) (C : Mem → Prop) (M1 : Mem) (fin : Addr → List D → Mem → Prop) : Prop :=
  ∀ L, M1 L = none → ∃ I : Nat → List D → Mem → Prop, I 0 [] (mupd M1 L (.lst [])) ∧ (∀ i acc M', I i acc M' → M' L = some (.lst acc) → C M') ∧
    (∀ i d acc M', ds[i]? = some d → I i acc M' → M' L = some (.lst acc) → TgD t d fun dvs => Bk X scope fun X' => TXs B X' ifs (gsetAll (gwipe G own) t.slots dvs) M' fun b M3 =>
      if b = true then Bk X scope fun X2 => EX B X2 elt (gsetAll (gwipe G own) t.slots dvs) M3 fun y M4 => M4 L = some (.lst acc) ∧ acc.length < sizeLine ∧ I (i + 1) (acc ++ [y]) (mupd M4 L (.lst (acc ++ [y])))
      else M3 L = some (.lst acc) ∧ I (i + 1) acc M3) ∧
    ∀ acc M', I ds.length acc M' → M' L = some (.lst acc) → fin L acc M'
theorem lc_dataM {scope : Scope} {own : List (Str × Nat)} {t : Tg} {ifs : List Expr} {fin : Addr → List D → Mem → Prop} {Q' : VK} {H : Hp} (ht : ∀ i ∈ t.slots, i ∈ own.map (·.2)) (r : R B X.K F σ H G M)
    (h : LXM B X tg iter G M fun ds C M1 => LcXM B X scope (own.map (·.2)) t ifs elt G ds C M1 fin)
    (k : ∀ L acc H' F' M', fin L acc M' → M' L = some (.lst acc) → Same F F' → R B X.K F' σ H' G M' → Q' (.ref L) H') :
    tLc (WIt X tg iter) (gTg X.K t) (WTb X scope ifs) (WEb X scope elt) (own.map (·.2)) σ H Q' := by
  refine h F σ H _ r fun J H1 F1 ds C M1 lc s1 r1 w => ?_
  intro L hL
  obtain ⟨I, i0, iC, turn, fn⟩ := lc L (r1.freeM hL)
  refine ⟨fun i m H' => m = ds.length - i ∧ i ≤ ds.length ∧ ∃ F' acc M', Same F1 F' ∧ R B X.K F' σ H' G M' ∧ M' L = some (.lst acc) ∧ I i acc M', ⟨_, rfl, Nat.zero_le _, F1, [], _, Same.refl F1, r1.newCell (o := .lst []) hL ⟨[], upd_same, .nil⟩, mupd_same, i0⟩, ?_⟩
  rintro i m H' ⟨rfl, hi, F', acc, M', s', r', hM, hI⟩
  have cM := iC i acc M' hI hM
  by_cases hlt : i < ds.length
  · refine .inr ⟨w.goes i F' σ H' G M' hlt s' r' cM, fun H2 => ∃ F' acc M', Same F1 F' ∧ R B X.K F' σ H2 G M' ∧ M' L = some (.lst acc) ∧ I (i + 1) acc M', fun H2 z => ⟨ds.length - (i + 1), by omega, rfl, hlt, z⟩, fun x H2 y => ?_⟩
    obtain ⟨d, hd, F2, s2, r2, p2⟩ := w.yields i F' σ H' G M' x H2 hlt s' r' cM y
    have tt := turn i d acc M' hd hI hM
    have main : ∀ (vs : List V) (dvs : List D), RpAll X.K F2 vs dvs → (Bk X scope fun X' => TXs B X' ifs (gsetAll (gwipe G (own.map (·.2))) t.slots dvs) M' fun b M3 =>
        if b = true then Bk X scope fun X2 => EX B X2 elt (gsetAll (gwipe G (own.map (·.2))) t.slots dvs) M3 fun y M4 => M4 L = some (.lst acc) ∧ acc.length < sizeLine ∧ I (i + 1) (acc ++ [y]) (mupd M4 L (.lst (acc ++ [y])))
        else M3 L = some (.lst acc) ∧ I (i + 1) acc M3) →
        L2.wipe (FL.setAll (L2.wipe σ (own.map (·.2))) t.slots vs) (own.map (·.2)) = L2.wipe σ (own.map (·.2)) ∧ WTb X scope ifs (FL.setAll (L2.wipe σ (own.map (·.2))) t.slots vs) H2 fun b H3 =>
          if b = true then WEb X scope elt (FL.setAll (L2.wipe σ (own.map (·.2))) t.slots vs) H3 fun y H4 => ∃ acc, H4 L = some (.lst acc) ∧ acc.length < sizeLine ∧ (∃ F' acc' M', Same F1 F' ∧ R B X.K F' σ (upd H4 L (.lst (acc ++ [y]))) G M' ∧ M' L = some (.lst acc') ∧ I (i + 1) acc' M')
          else ∃ F' acc M', Same F1 F' ∧ R B X.K F' σ H3 G M' ∧ M' L = some (.lst acc) ∧ I (i + 1) acc M' := by
      intro vs dvs pv hb
      refine ⟨wipe_setAll ht, fun s0 H0 C cl fp => ?_⟩
      have rw0 : R B X.K F2 (FL.setAll (L2.wipe σ (own.map (·.2))) t.slots vs) H2 (gsetAll (gwipe G (own.map (·.2))) t.slots dvs) M' := R.setAll (R.wipe r2 (own.map (·.2))) pv
      refine txs_ok (X := X.blk s0 H0 scope (compEnvC scope cl C X.env) fp) (hb s0 H0 C cl fp) rw0 fun b H3 F3 M3 q3 s3 r3 => ?_
      have back : ∀ {Hx Fx : Hp} {Mx : Mem}, Same F2 Fx → R B X.K Fx (FL.setAll (L2.wipe σ (own.map (·.2))) t.slots vs) Hx (gsetAll (gwipe G (own.map (·.2))) t.slots dvs) Mx → R B X.K Fx σ Hx G Mx := fun sx rx => ⟨r2.slots.mono sx, rx.ex, rx.mem, rx.bf, rx.bk⟩
      cases b with
      | true =>
        rw [if_pos rfl] at q3 ⊢
        intro s5 H5 C5 cl5 fp5
        refine q3 s5 H5 C5 cl5 fp5 F3 _ H3 _ r3 fun y H4 F4 d4 M4 ⟨m4, l4, i4⟩ s4 r4 p4 => ?_
        obtain ⟨_, xs, hx, rx⟩ := r4.mem L _ m4
        refine ⟨xs, hx, by rw [rx.length]; exact l4, F4, acc ++ [d4], _, ((s'.trans s2).trans s3).trans s4, ?_, mupd_same, i4⟩
        exact (back (s3.trans s4) r4).write m4 ⟨_, upd_same, rx.append (.cons p4 .nil)⟩
      | false =>
        rw [if_neg Bool.false_ne_true] at q3 ⊢
        exact ⟨F3, acc, M3, (s'.trans s2).trans s3, back s3 r3, q3.1, q3.2⟩
    cases t with
    | inl j => exact main [x] [d] (.cons p2 .nil) tt
    | inr js =>
      obtain ⟨dvs, e, hl, hb⟩ := tt
      subst e
      cases p2 with
      | @tup a xs _ hq ra => exact ⟨a, xs, rfl, sq_same r2.ex hq, by rw [ra.length, hl], gNs_of (by rw [ra.length, hl]) (main xs dvs ra hb)⟩
  · have e : i = ds.length := by omega
    subst e
    exact .inl ⟨w.stops F' σ H' G M' s' r' cM, k L acc H' F' M' (fn acc M' hI hM) hM (s1.trans s') r'⟩
/-- from a comprehension that changes no cell -/
theorem LcP.toM {scope : Scope} {own : List Nat} {t : Tg} {ifs : List Expr} {ds : List D} {f : D → Option D} {C : Mem → Prop} {fin : Addr → List D → Mem → Prop} (lp : LcP B X scope own t ifs elt G ds M f)
    (hC : ∀ M', Ext M M' → C M') (q : ∀ L, M L = none → fin L (ds.filterMap f) (mupd M L (.lst (ds.filterMap f)))) : LcXM B X scope own t ifs elt G ds C M fin := by
  intro L hL
  obtain ⟨hlen, hh⟩ := lp
  refine ⟨fun i acc M' => acc = (ds.take i).filterMap f ∧ M' = mupd M L (.lst acc), ⟨rfl, rfl⟩, ?_, ?_, ?_⟩
  · rintro i acc M' ⟨_, e⟩ _
    rw [e]
    exact hC _ (Ext.new hL)
  · rintro i d acc M' hd ⟨ea, eM⟩ hM
    have hle : ∀ a o, M a = some o → M' a = some o := fun a o e => by rw [eM, mupd_ne (mne e hL)]; exact e
    have tk : (ds.take (i + 1)).filterMap f = (ds.take i).filterMap f ++ (f d).toList := by
      rw [List.take_add_one, hd, List.filterMap_append]
      cases e : f d <;> simp [e]
    have ln : acc.length < sizeLine := by
      have h1 : ((ds.take i).filterMap f).length ≤ (ds.take i).length := List.length_filterMap_le f _
      have h2 : (ds.take i).length ≤ ds.length := by rw [List.length_take]; omega
      rw [ea]; omega
    have step : ∀ dvs, (Bk X scope fun X' => TXs B X' ifs (gsetAll (gwipe G own) t.slots dvs) M' fun b M3 =>
        if b = true then Bk X scope fun X2 => EX B X2 elt (gsetAll (gwipe G own) t.slots dvs) M3 fun y M4 => M4 = M' ∧ f d = some y else M3 = M' ∧ f d = none) →
        Bk X scope fun X' => TXs B X' ifs (gsetAll (gwipe G own) t.slots dvs) M' fun b M3 =>
          if b = true then Bk X scope fun X2 => EX B X2 elt (gsetAll (gwipe G own) t.slots dvs) M3 fun y M4 => M4 L = some (.lst acc) ∧ acc.length < sizeLine ∧ (acc ++ [y] = (ds.take (i + 1)).filterMap f ∧ mupd M4 L (.lst (acc ++ [y])) = mupd M L (.lst (acc ++ [y])))
          else M3 L = some (.lst acc) ∧ (acc = (ds.take (i + 1)).filterMap f ∧ M3 = mupd M L (.lst acc)) := by
      intro dvs hb s0 H0 C cl fp
      have post : ∀ (b : Bool) (M3 : Mem), (if b = true then Bk X scope fun X2 => EX B X2 elt (gsetAll (gwipe G own) t.slots dvs) M3 fun y M4 => M4 = M' ∧ f d = some y else M3 = M' ∧ f d = none) →
          if b = true then Bk X scope fun X2 => EX B X2 elt (gsetAll (gwipe G own) t.slots dvs) M3 fun y M4 => M4 L = some (.lst acc) ∧ acc.length < sizeLine ∧ (acc ++ [y] = (ds.take (i + 1)).filterMap f ∧ mupd M4 L (.lst (acc ++ [y])) = mupd M L (.lst (acc ++ [y])))
          else M3 L = some (.lst acc) ∧ (acc = (ds.take (i + 1)).filterMap f ∧ M3 = mupd M L (.lst acc)) := fun b M3 z =>
        ite_mono z (fun z s1 H1 C1 cl1 fp1 => (z s1 H1 C1 cl1 fp1).imp fun y M4 ⟨e4, ef⟩ => by
          subst e4
          refine ⟨hM, ln, ?_, ?_⟩
          · rw [tk, ef, ← ea]; rfl
          · rw [eM, mupd_mupd]) fun ⟨e3, ef⟩ => by
          subst e3
          refine ⟨hM, ?_, eM⟩
          rw [tk, ef, ← ea]; simp
      have z := hb s0 H0 C cl fp
      match ifs, z with
      | [], z => exact post true M' z
      | [c], z => exact TX.imp z post
    have hh := hh d M' (List.mem_of_getElem? hd) hle
    cases t with
    | inl j => exact step [d] hh
    | inr js =>
      obtain ⟨dvs, e, hl', hb⟩ := hh
      exact ⟨dvs, e, hl', step dvs hb⟩
  · rintro acc M' ⟨ea, eM⟩ hM
    rw [List.take_length] at ea
    rw [eM, ea]
    exact q L hL
theorem Ext.isL {M M' : Mem} {d : D} {ds : List D} (e : Ext M M') (h : IsL M d ds) : IsL M' d ds := by
  rcases h with h | ⟨l, h1, h2⟩
  · exact .inl h
  · exact .inr ⟨l, h1, e _ _ h2⟩
/-- a comprehension that changes no cell, over a list (frozen, or a cell that stays) -/
theorem ex_lci {scope : Scope} {own : List (Str × Nat)} {t : Tg} {ifs : List Expr} (f : D → Option D) (hc : X.calm = true) (hN : X.N.Nodup) (ok : BlkOk X.N X.env.scope scope own) (ht : ∀ i ∈ t.slots, i ∈ own.map (·.2))
    (hg : Bk X scope fun X' => PG X' tg (gTg X.K t)) (hs : ∀ x, foldedSetIterable iter X.env x = pure x)
    (h : EX B X iter G M fun d M1 => ∃ ds, IsL M1 d ds ∧ LcP B X scope (own.map (·.2)) t ifs elt G ds M1 f ∧ Q (.lst (ds.filterMap f)) M1) : EX B X (.ListComp elt [⟨tg, iter, ifs, 0⟩] scope pos) G M Q := fun F σ H Q' r k =>
  WE.of (pe_lc hc hN pi_wi ok hg pts_wtb pe_web hs) (lc_dataM (fin := fun L acc M' => Q (.lst acc) (mdel M' L)) ht r (lxm_isL (h.imp fun d M1 ⟨ds, hL, lp, q⟩ => ⟨ds, hL, lp.toM (fun M' e => e.isL hL) fun L hL => by
      rw [mdel_mupd hL]; exact q⟩)) fun L acc H' F' M' q hm s' r' => by
    obtain ⟨F2, s2, r2, p2⟩ := r'.freeze hm
    exact k _ H' F2 _ _ q (s'.trans s2) r2 p2)
theorem ex_lciM {scope : Scope} {own : List (Str × Nat)} {t : Tg} {ifs : List Expr} (f : D → Option D) (hc : X.calm = true) (hN : X.N.Nodup) (ok : BlkOk X.N X.env.scope scope own) (ht : ∀ i ∈ t.slots, i ∈ own.map (·.2))
    (hg : Bk X scope fun X' => PG X' tg (gTg X.K t)) (hs : ∀ x, foldedSetIterable iter X.env x = pure x)
    (h : EX B X iter G M fun d M1 => ∃ ds, IsL M1 d ds ∧ LcP B X scope (own.map (·.2)) t ifs elt G ds M1 f ∧ ∀ l, M1 l = none → Q (.ref l) (mupd M1 l (.lst (ds.filterMap f)))) : EX B X (.ListComp elt [⟨tg, iter, ifs, 0⟩] scope pos) G M Q := fun F σ H Q' r k =>
  WE.of (pe_lc hc hN pi_wi ok hg pts_wtb pe_web hs) (lc_dataM (fin := fun L acc M' => Q (.ref L) M') ht r (lxm_isL (h.imp fun d M1 ⟨ds, hL, lp, q⟩ => ⟨ds, hL, lp.toM (fun M' e => e.isL hL) fun L hL => q L hL⟩)) fun L acc H' F' M' q hm s' r' => k _ H' F' _ _ q s' r' (.ref L))
theorem sx_setLci {i : Nat} {y : Str} {py spos : Pos} {scope : Scope} {own : List (Str × Nat)} {t : Tg} {ifs : List Expr} (f : D → Option D) (hc : X.calm = true) (hN : X.N.Nodup) (hy : X.N[i]? = some y) (hyl : X.env.scope.names.lookup y = some .local)
    (hsw : swapsWith (.ListComp elt [⟨tg, iter, ifs, 0⟩] scope pos) (some (.Name y py)) spos.line X.env = pure true) (ok : BlkOk X.N X.env.scope scope own) (ht : ∀ i ∈ t.slots, i ∈ own.map (·.2))
    (hg : Bk X scope fun X' => PG X' tg (gTg X.K t)) (hs : ∀ x, foldedSetIterable iter X.env x = pure x)
    (h : EX B X iter G M fun d M1 => ∃ ds, IsL M1 d ds ∧ LcP B X scope (own.map (·.2)) t ifs elt G ds M1 f ∧ E.nx (G.set i (some (.lst (ds.filterMap f)))) M1) : SX B X (.Assign [.Name y py] (.ListComp elt [⟨tg, iter, ifs, 0⟩] scope pos) spos) E G M := fun F σ H D' r k =>
  WS.of (ps_setLc hc hN hy hyl hsw pi_wi ok hg pts_wtb pe_web hs) (lc_dataM (fin := fun L acc M' => E.nx (G.set i (some (.lst acc))) (mdel M' L)) ht r (lxm_isL (h.imp fun d M1 ⟨ds, hL, lp, q⟩ => ⟨ds, hL, lp.toM (fun M' e => e.isL hL) fun L hL => by
      rw [mdel_mupd hL]; exact q⟩)) fun L acc H' F' M' q hm s' r' => by
    obtain ⟨F2, s2, r2, p2⟩ := r'.freeze hm
    exact k.nx _ H' F2 _ _ q (s'.trans s2) (R.set r2 p2))
end
/-! ### fields -/
/-- the class at C, and names that it has not -/
structure Ki (K : PySem.W.Frag) (C : Addr) (l : List Str) : Prop where
  cls : Cls K C
  no : ∀ f ∈ l, NoAttr K C f
theorem lk_hit {k : Str} {d : D} {r : List (Str × D)} : List.lookup k ((k, d) :: r) = some d := by simp [List.lookup]
theorem lk_skip {k k' : Str} {d e : D} {r : List (Str × D)} (h : (k == k') = false) (q : List.lookup k r = some e) : List.lookup k ((k', d) :: r) = some e := by simp [List.lookup, h, q]
theorem lk_nil {k : Str} : List.lookup k ([] : List (Str × D)) = none := rfl
theorem lk_none {k k' : Str} {d : D} {r : List (Str × D)} (h : (k == k') = false) (q : List.lookup k r = none) : List.lookup k ((k', d) :: r) = none := by simp [List.lookup, h, q]
theorem put_hit {k : Str} {d e : D} {r : List (Str × D)} : putD k d ((k, e) :: r) = (k, d) :: r := by simp [putD]
theorem put_skip {k k' : Str} {d e : D} {r r' : List (Str × D)} (h : (k' == k) = false) (q : putD k d r = r') : putD k d ((k', e) :: r) = (k', e) :: r' := by
  have h' : ¬ k' = k := by simpa using h
  rw [putD, if_neg h', q]
theorem put_nil {k : Str} {d : D} : putD k d [] = [(k, d)] := rfl
section
variable {B : Bs} {X : Cx} {a b c e o value : Expr} {es : List Expr} {G G' : Sl} {M M' : Mem} {Q : D → Mem → Prop} {E : En} {pos p pos' apos : Pos} {f : Str}
theorem fld_at {K : PySem.W.Frag} {x C : Addr} {fs : List (Str × D)} {v : D} {l : List Str} (hm : M x = some (.ins C fs)) (k : Ki K C l) (hf : f ∈ l) (hl : fs.lookup f = some v) (q : Q v M) :
    ∃ a C fs v, D.ref x = .ref a ∧ M a = some (.ins C fs) ∧ Cls K C ∧ NoAttr K C f ∧ fs.lookup f = some v ∧ Q v M := ⟨x, C, fs, v, rfl, hm, k.cls, k.no f hf, hl, q⟩
theorem sx_fldK (hs : swapsWith value (some (.Attribute o f pos')) pos.line X.env = pure false) (h : EX B X value G M fun d M1 => EX B X o G M1 fun d2 M2 => ∃ x C fs fs' l, d2 = .ref x ∧ M2 x = some (.ins C fs) ∧ Ki X.K C l ∧ f ∈ l ∧ fs.length < 1000 ∧ putD f d fs = fs' ∧ E.nx G (mupd M2 x (.ins C fs'))) :
    SX B X (.Assign [.Attribute o f pos'] value pos) E G M :=
  fun F σ H D' r k =>
  WS.of (ps_fld pe_we pe_we hs) (h F σ H _ r fun v1 H1 F1 d1 M1 q1 s1 r1 p1 => q1 F1 σ H1 _ r1 fun v2 H2 F2 d2 M2 ⟨a, C, fs, fs', l, e2, hm, kk, hf, hl, hput, q⟩ s2 r2 p2 => by
    subst e2; cases p2; subst hput
    obtain ⟨_, dx, vs, hx, rx⟩ := r2.mem a _ hm
    refine ⟨a, C, dx, vs, rfl, hx, kk.cls, kk.no f hf, by rw [rx.len]; exact hl, k.nx _ _ F2 _ _ q (s1.trans s2) (r2.write hm ⟨dx, _, upd_same, rx.put (p1.mono s2)⟩)⟩)
theorem put_at {K : PySem.W.Frag} {x C : Addr} {fs fs' : List (Str × D)} {d : D} {l : List Str} {P : Mem → Prop} (hm : M x = some (.ins C fs)) (k : Ki K C l) (hf : f ∈ l) (hl : fs.length < 1000) (hp : putD f d fs = fs') (q : P (mupd M x (.ins C fs'))) :
    ∃ x' C fs fs' l, D.ref x = .ref x' ∧ M x' = some (.ins C fs) ∧ Ki K C l ∧ f ∈ l ∧ fs.length < 1000 ∧ putD f d fs = fs' ∧ P (mupd M x' (.ins C fs')) := ⟨x, C, fs, fs', l, rfl, hm, k, hf, hl, hp, q⟩
/-- o.m(e, ..), the class by the receiver -/
theorem ex_methV {pl : Sem Bool} {m : Str} (hst : starEach (e :: es) X.env = (false, eval e X.env) :: starEach es X.env) (hpl : (backTo pos (starEach es X.env)).any (·.1) = false)
    (ht : eval (.Call (.Attribute o m apos) (e :: es) [] pos) X.env = (do
      let ov ← eval o X.env
      standAt apos.atName
      let (f, first) ← holding [ov] (getMethod ov m pl)
      callWith pos f first (backTo pos (starEach (e :: es) X.env)) (backToKw pos (keywordEach [] X.env))))
    (h : EX B X o G M fun d M1 => ∃ a C fs k sp, d = .ref a ∧ M1 a = some (.ins C fs) ∧ Mth X.prog X.w X.K X.mg X.base k C m sp ∧ Room k X.A ∧ fs.lookup m = none ∧ AX B X (e :: es) G M1 fun ds M2 => sp (.ref a :: ds) M2 Q) : EX B X (.Call (.Attribute o m apos) (e :: es) [] pos) G M Q := fun F σ H Q' r kk => by
  intro pins s I
  refine PySem.W.methodCall_KW (pl := pl) (thn (h F σ H (fun x H1 => ∃ a C dx fs f fd ps sp k, x = .ref a ∧ H1 a = some (.ins C dx fs) ∧ fs.lookup m = none ∧ FnOk X.prog X.w X.K X.mg X.base CX0 k f fd ps (lift X.K sp) ∧ Cls X.K C ∧ Meth X.K C m f ∧ Binds X.K fd ps [] ∧ Room k X.A ∧ WA X (e :: es) σ H1 fun vs H2 => lift X.K sp (.ref a :: vs) H2 Q' E0) r ?_ pins s I) fun u s1 ⟨x, H1, I1, rx, a, C, dx, fs, f, fd, ps, sp, k, ex, ea, l, Fo, cl, me, bd, hr, q⟩ => ?_) ht
  · rintro v H1 F1 d1 M1 ⟨a, C, fs, k, sp, e1, hm, c, hr, l, q⟩ s1 r1 p1
    subst e1; cases p1
    obtain ⟨f, fd, ps, Fo, cl, me, bd⟩ := c.ex
    obtain ⟨_, dx, vs, hx, rx⟩ := r1.mem a _ hm
    refine ⟨a, C, dx, vs, f, fd, ps, sp, k, rfl, hx, rx.none l, Fo, cl, me, bd, hr, q F1 σ H1 _ r1 fun us H2 F2 ds M2 q2 s2 r2 p2 => ?_⟩
    exact lift_use r2 (.cons (.ref a) p2) q2 (kk.mono (s1.trans s2))
  · subst ex
    obtain rfl : u = Value.ref a := rx
    refine getmeth_ok I1 ea cl me l ?_
    refine PySem.W.callWith_K (first := [.ref a]) (h₀ := X.base) I.ok.mod.kin me.kp (thn (q pos pins s1 I1) fun us s2 ⟨vs, H2, I2, r, q2⟩ => ⟨I2.kIn, ?_⟩) hst hpl
    exact run_fn (us := .ref a :: us) (vs := .ref a :: vs) (dvs := []) (ds := []) Fo hr bd .nil pass0 I2 (.cons rfl r) (by rw [List.append_nil]; exact q2)
theorem ex_methV0 {pl : Sem Bool} {m : Str}
    (ht : eval (.Call (.Attribute o m apos) [] [] pos) X.env = (do
      let ov ← eval o X.env
      standAt apos.atName
      let (f, first) ← holding [ov] (getMethod ov m pl)
      callWith pos f first (backTo pos (starEach [] X.env)) (backToKw pos (keywordEach [] X.env))))
    (h : EX B X o G M fun d M1 => ∃ a C fs k sp, d = .ref a ∧ M1 a = some (.ins C fs) ∧ Mth X.prog X.w X.K X.mg X.base k C m sp ∧ Room k X.A ∧ fs.lookup m = none ∧ sp [.ref a] M1 Q) : EX B X (.Call (.Attribute o m apos) [] [] pos) G M Q := fun F σ H Q' r kk => by
  intro pins s I
  refine PySem.W.methodCall_KW (pl := pl) (thn (h F σ H (fun x H1 => ∃ a C dx fs f fd ps sp k, x = .ref a ∧ H1 a = some (.ins C dx fs) ∧ fs.lookup m = none ∧ FnOk X.prog X.w X.K X.mg X.base CX0 k f fd ps (lift X.K sp) ∧ Cls X.K C ∧ Meth X.K C m f ∧ Binds X.K fd ps [] ∧ Room k X.A ∧ lift X.K sp [.ref a] H1 Q' E0) r ?_ pins s I) fun u s1 ⟨x, H1, I1, rx, a, C, dx, fs, f, fd, ps, sp, k, ex, ea, l, Fo, cl, me, bd, hr, q⟩ => ?_) ht
  · rintro v H1 F1 d1 M1 ⟨a, C, fs, k, sp, e1, hm, c, hr, l, q⟩ s1 r1 p1
    subst e1; cases p1
    obtain ⟨f, fd, ps, Fo, cl, me, bd⟩ := c.ex
    obtain ⟨_, dx, vs, hx, rx⟩ := r1.mem a _ hm
    exact ⟨a, C, dx, vs, f, fd, ps, sp, k, rfl, hx, rx.none l, Fo, cl, me, bd, hr, lift_use r1 (.cons (.ref a) .nil) q (kk.mono s1)⟩
  · subst ex
    obtain rfl : u = Value.ref a := rx
    refine getmeth_ok I1 ea cl me l ?_
    exact PySem.W.callWith_K0 (first := [.ref a]) I1.kIn me.kp (run_fn (us := [.ref a]) (vs := [.ref a]) (dvs := []) (ds := []) Fo hr bd .nil pass0 I1 (.cons rfl .nil) q)
theorem meth_at {P : Program} {w : World} {K : PySem.W.Frag} {mg : Str → Option Value} {base : Heap} {A : Around} {x C : Addr} {fs : List (Str × D)} {k : Nat} {m : Str} {sp : DSp} {P2 : Addr → DSp → Prop} (hm : M x = some (.ins C fs)) (c : Mth P w K mg base k C m sp) (hr : Room k A) (hl : fs.lookup m = none) (q : P2 x sp) :
    ∃ a C fs k sp, D.ref x = .ref a ∧ M a = some (.ins C fs) ∧ Mth P w K mg base k C m sp ∧ Room k A ∧ fs.lookup m = none ∧ P2 a sp := ⟨x, C, fs, k, sp, rfl, hm, c, hr, hl, q⟩
end
end FL

/-! dicts by numbers and texts: displays, get -/
namespace FL
open PySem PySem.Spec PyProof.Rows L2
def kD : Key → D
  | .inl i => .int i
  | .inr x => .str x
def valD (kds : List (Key × D)) (k : Key) : Option D := (kds.find? fun kd => decide (kd.1 = k)).map (·.2)
/-- a dict of kds: frozen, or a cell -/
def IsK (M : Mem) (d : D) (kds : List (Key × D)) : Prop := d = .dK kds ∨ ∃ l, d = .ref l ∧ M l = some (.dK kds)
section
variable {K : PySem.W.Frag} {F : Hp}
theorem RpKey.val {k : Key} : ∀ {kvs : List (Key × V)} {kds : List (Key × D)}, RpKey K F kvs kds → (valV kvs k = none ∧ valD kds k = none) ∨ ∃ v d, valV kvs k = some v ∧ valD kds k = some d ∧ Rp K F v d
  | _, _, .nil => .inl ⟨rfl, rfl⟩
  | _, _, @RpKey.cons _ _ k' v vs d ds p r => by
    by_cases e : k' = k
    · exact .inr ⟨v, d, valV_pos (p := (k', v)) e, by unfold valD; simp [e], p⟩
    · have e1 : valV ((k', v) :: vs) k = valV vs k := valV_neg (p := (k', v)) e
      have e2 : valD ((k', d) :: ds) k = valD ds k := by unfold valD; simp [e]
      rw [e1, e2]
      exact r.val
theorem Rp.key {v : V} {k : Key} (h : Rp K F v (kD k)) : v = kV k := by
  cases k with
  | inl i => cases h; rfl
  | inr x => cases h; rfl
theorem putK_app {kvs : List (Key × V)} {k : Key} {v : V} (h : k ∉ kvs.map (·.1)) : putK kvs k v = kvs ++ [(k, v)] := by
  unfold putK
  rw [if_neg]
  intro z
  obtain ⟨kv, h1, h2⟩ := List.any_eq_true.mp z
  exact h (List.mem_map.mpr ⟨kv, h1, of_decide_eq_true h2⟩)
theorem mergeK_app : ∀ {more kvs : List (Key × V)}, ((kvs ++ more).map (·.1)).Nodup → mergeK kvs more = kvs ++ more
  | [], kvs, _ => by unfold mergeK; simp
  | (k, v) :: more, kvs, h => by
    have e : mergeK kvs ((k, v) :: more) = mergeK (putK kvs k v) more := rfl
    have hk : k ∉ kvs.map (·.1) := by
      intro z
      rw [List.map_append, List.nodup_append] at h
      exact h.2.2 k z k (by simp) rfl
    rw [e, putK_app hk, mergeK_app (by simpa using h)]
    simp
end
inductive RpP (K : PySem.W.Frag) (F : Hp) : List (V × V) → List (D × D) → Prop
  | nil : RpP K F [] []
  | cons {v w : V} {d e : D} {vs : List (V × V)} {ds : List (D × D)} : Rp K F v d → Rp K F w e → RpP K F vs ds → RpP K F ((v, w) :: vs) ((d, e) :: ds)
theorem RpP.mono {K : PySem.W.Frag} {F F' : Hp} (s : Same F F') : ∀ {vs : List (V × V)} {ds : List (D × D)}, RpP K F vs ds → RpP K F' vs ds
  | _, _, .nil => .nil
  | _, _, .cons a b r => .cons (a.mono s) (b.mono s) (RpP.mono s r)
theorem RpP.keys {K : PySem.W.Frag} {F : Hp} : ∀ {vs : List (V × V)} {kds : List (Key × D)}, RpP K F vs (kds.map fun kd => (kD kd.1, kd.2)) → ∃ kvs : List (Key × V), vs = kvs.map (fun kv => (kV kv.1, kv.2)) ∧ RpKey K F kvs kds ∧ kvs.map (·.1) = kds.map (·.1)
  | vs, [], h => by cases h; exact ⟨[], rfl, .nil, rfl⟩
  | vs, (k, d) :: kds, h => by
    rw [List.map_cons] at h
    cases h with
    | @cons v w _ _ vs' _ a b r =>
      obtain ⟨kvs, e, rk, ek⟩ := r.keys
      have ev := a.key
      subst ev
      exact ⟨(k, w) :: kvs, by rw [e]; rfl, .cons b rk, by rw [List.map_cons, List.map_cons, ek]⟩
def PX (B : Bs) (X : Cx) : List (Option Expr) → List Expr → Sl → Mem → (List (D × D) → Mem → Prop) → Prop
  | some k :: ks, v :: vs, G, M, Q => EX B X k G M fun x M1 => EX B X v G M1 fun y M2 => PX B X ks vs G M2 fun ps M3 => Q ((x, y) :: ps) M3
  | [], [], _, M, Q => Q [] M
  | _, _, _, _, _ => False
def trsOf (X : Cx) : List (Option Expr) → List Expr → List (TE × TE)
  | some k :: ks, v :: vs => (WE X k, WE X v) :: trsOf X ks vs
  | _, _ => []
theorem pps_px {B : Bs} {X : Cx} {pos : Pos} : ∀ {ks : List (Option Expr)} {vs : List Expr}, ks.all (·.isSome) = true → ks.length = vs.length → PPs X pos ks vs (trsOf X ks vs)
  | [], [], _, _ => pps_nil
  | [], _ :: _, _, h => by simp at h
  | _ :: _, [], _, h => by simp at h
  | none :: _, _ :: _, h, _ => by simp at h
  | some k :: ks, v :: vs, h, hl => pps_cons pe_we pe_we (pps_px (B := B) (by simpa using h) (by simpa using hl))
theorem px_run {B : Bs} {X : Cx} {G : Sl} {σ : L2.St} : ∀ {ks : List (Option Expr)} {vs : List Expr} {M : Mem} {F H : Hp} {Q : List (D × D) → Mem → Prop} {Q' : List (V × V) → Hp → Prop}, PX B X ks vs G M Q → R B X.K F σ H G M →
    (∀ ps H' F' ds M', Q ds M' → Same F F' → R B X.K F' σ H' G M' → RpP X.K F' ps ds → Q' ps H') → tPairs (trsOf X ks vs) σ H Q'
  | [], [], M, F, H, Q, Q', h, r, k => k [] H F [] M h (Same.refl F) r .nil
  | some a :: ks, b :: vs, M, F, H, Q, Q', h, r, k => by
    show WE X a σ H fun x H1 => WE X b σ H1 fun y H2 => tPairs (trsOf X ks vs) σ H2 fun ps H3 => Q' ((x, y) :: ps) H3
    have h' : EX B X a G M fun x M1 => EX B X b G M1 fun y M2 => PX B X ks vs G M2 fun ps M3 => Q ((x, y) :: ps) M3 := h
    refine h' F σ H _ r fun v1 H1 F1 d1 M1 q1 s1 r1 p1 => q1 F1 σ H1 _ r1 fun v2 H2 F2 d2 M2 q2 s2 r2 p2 => ?_
    exact px_run q2 r2 fun ps H3 F3 ds M3 q3 s3 r3 p3 => k _ H3 F3 _ M3 q3 (s1.trans (s2.trans s3)) r3 (.cons (p1.mono (s2.trans s3)) (p2.mono s3) p3)
  | [], _ :: _, _, _, _, _, _, h, _, _ => False.elim h
  | none :: _, _, _, _, _, _, _, h, _, _ => False.elim h
  | some _ :: _, [], _, _, _, _, _, h, _, _ => False.elim h
section
variable {B : Bs} {X : Cx} {a b c e o f : Expr} {G : Sl} {M : Mem} {Q : D → Mem → Prop} {pos apos : Pos}
/-- a test that comes out so, and changes nothing -/
theorem sx_ifF {A1 B1 : List Stmt} {E : En} (h : TX B X c G M fun t M1 => t = false ∧ M1 = M) (q : SXs B X B1 E G M) : SX B X (.If c A1 B1 pos) E G M := sx_if (h.imp fun t M1 ⟨e1, e2⟩ => by subst e1; subst e2; exact iteF q)
theorem sx_ifT {A1 B1 : List Stmt} {E : En} (h : TX B X c G M fun t M1 => t = true ∧ M1 = M) (q : SXs B X A1 E G M) : SX B X (.If c A1 B1 pos) E G M := sx_if (h.imp fun t M1 ⟨e1, e2⟩ => by subst e1; subst e2; exact iteT q)
/-- .. whichever way -/
theorem sx_ifB {A1 B1 : List Stmt} {E : En} (t0 : Bool) (h : TX B X c G M fun t M1 => t = t0 ∧ M1 = M) (q1 : t0 = true → SXs B X A1 E G M) (q2 : t0 = false → SXs B X B1 E G M) : SX B X (.If c A1 B1 pos) E G M := sx_if (h.imp fun t M1 ⟨e1, e2⟩ => by
  subst e1; subst e2
  cases t with
  | true => exact iteT (q1 rfl)
  | false => exact iteF (q2 rfl))
/-- .. and leaves cells of which Pm holds -/
theorem sx_ifQ {A1 B1 : List Stmt} {E : En} (Pm : Mem → Prop) (h : TX B X c G M fun t M1 => t = false ∧ Pm M1) (q : ∀ M1, Pm M1 → SXs B X B1 E G M1) : SX B X (.If c A1 B1 pos) E G M := sx_if (h.imp fun t M1 ⟨e1, e2⟩ => by subst e1; exact iteF (q M1 e2))
theorem px_cons {ks : List (Option Expr)} {vs : List Expr} {Q : List (D × D) → Mem → Prop} (h : EX B X a G M fun x M1 => EX B X b G M1 fun y M2 => PX B X ks vs G M2 fun ps M3 => Q ((x, y) :: ps) M3) : PX B X (some a :: ks) (b :: vs) G M Q := h
theorem px_nil {Q : List (D × D) → Mem → Prop} (h : Q [] M) : PX B X [] [] G M Q := h
/-- a dict that stays -/
theorem ex_disp {keys : List (Option Expr)} {values : List Expr} (hall : keys.all (·.isSome) = true) (hl : keys.length = values.length) (h0 : keys ≠ []) (h15 : keys.length ≤ 15)
    (h : ∀ p, M p = none → PX B X keys values G (mupd M p (.dK [])) fun ps M2 => M2 p = some (.dK []) ∧ ∃ kds : List (Key × D), ps = kds.map (fun kd => (kD kd.1, kd.2)) ∧ (kds.map (·.1)).Nodup ∧ kds.length ≤ 15 ∧ Q (.dK kds) (mdel M2 p)) : EX B X (.Dict keys values pos) G M Q := fun F σ H Q' r k =>
  WE.of (pe_disp (pps_px (B := B) hall hl) hall hl h0 h15) fun p hp => px_run (h p (r.freeM hp)) (r.newCell hp ⟨[], upd_same, .nil⟩) fun ps H2 F2 ds M2 q s2 r2 rp => by
    obtain ⟨hm, kds, e, nd, l15, q⟩ := q
    subst e
    obtain ⟨kvs, e, rk, ek⟩ := rp.keys
    obtain ⟨fp, vs, hx, rx⟩ := r2.mem p _ hm
    cases rx
    refine ⟨hx, kvs, e, ?_, ?_⟩
    · have := congrArg List.length ek
      rw [List.length_map, List.length_map] at this
      omega
    · have em : mergeK [] kvs = kvs := by
        rw [mergeK_app (kvs := []) (by rw [List.nil_append, ek]; exact nd)]; simp
      rw [em]
      have r3 := r2.write (ho := .dK kvs) (o' := .dK kds) hm ⟨kvs, upd_same, rk⟩
      have e1 : Same F2 (upd F2 p (.dK kvs)) := Same.upd_new fp
      have r4 : R B X.K F2 σ (upd H2 p (.dK kvs)) G (mdel M2 p) := r3.less fun a o q => by
        unfold mdel at q
        split at q
        · cases q
        · rename_i hb
          rw [mupd_ne hb]; exact q
      refine k _ _ (upd F2 p (.dK kvs)) _ _ q (s2.trans e1) (R.grow e1 (fun b u q => ?_) (fun a u q => ?_) r4) (.dK upd_same (rk.mono e1))
      · by_cases hb : b = p
        · subst hb; rw [upd_same] at q ⊢; exact q
        · rw [upd_ne hb] at q; exact r4.ex b u q
      · have hb : a ≠ p := fun z => by
          subst z
          unfold mdel at q
          rw [if_pos rfl] at q; cases q
        rw [upd_ne hb]; exact (r4.mem a u q).1
theorem IsK.at {K : PySem.W.Frag} {F H : Hp} {σ : L2.St} {d : D} {kds : List (Key × D)} {v : V} (h : IsK M d kds) (r : R B K F σ H G M) (p : Rp K F v d) : ∃ a kvs, v = .ref a ∧ H a = some (.dK kvs) ∧ RpKey K F kvs kds := by
  rcases h with rfl | ⟨l, rfl, hm⟩
  · cases p with
    | @dK a kvs _ hs rs => exact ⟨a, kvs, rfl, r.ex _ _ hs, rs⟩
  · cases p
    obtain ⟨_, kvs, hx, rx⟩ := r.mem l _ hm
    exact ⟨l, kvs, rfl, hx, rx⟩
/-- d.get(k, x) -/
theorem ex_dget2 (hu : X.A.units + 1 < cLine) (m : M2 X o "get" apos e f pos)
    (h : EX B X o G M fun d M1 => ∃ kds, IsK M1 d kds ∧ EX B X e G M1 fun y M2 => EX B X f G M2 fun z M3 => ∃ k, y = kD k ∧ IsK M3 d kds ∧ Q ((valD kds k).getD z) M3) : EX B X (.Call (.Attribute o "get" apos) [e, f] [] pos) G M Q := fun F σ H Q' r k =>
  WE.of (pe_dget2 hu pe_we pe_we pe_we m) (h F σ H _ r fun v1 H1 F1 d1 M1 ⟨kds, hk, q1⟩ s1 r1 p1 => by
    obtain ⟨a, kvs, rfl, hx, rx⟩ := hk.at r1 p1
    refine ⟨a, rfl, .inl ⟨kvs, .inl hx⟩, q1 F1 σ H1 _ r1 fun v2 H2 F2 d2 M2 q2 s2 r2 p2 => q2 F2 σ H2 _ r2 fun v3 H3 F3 d3 M3 ⟨kk, ey, hk3, q3⟩ s3 r3 p3 => ?_⟩
    subst ey
    have ev := p2.key
    subst ev
    obtain ⟨a', kvs', e', hx', rx'⟩ := hk3.at r3 (p1.mono (s2.trans s3))
    cases e'
    refine ⟨valV kvs' kk, DGet.k hx', ?_⟩
    have kk3 := k.mono (s1.trans (s2.trans s3))
    rcases rx'.val (k := kk) with ⟨e1, e2⟩ | ⟨v, d, e1, e2, rv⟩
    · rw [e1]
      rw [e2] at q3
      exact kk3.at r3 q3 p3
    · rw [e1]
      rw [e2] at q3
      exact kk3.at r3 q3 rv)
end
end FL

namespace Lw
open PySem PySem.Spec PyProof.Rows L2 FL
local macro_rules | `(tactic| wtm_at "c") => `(tactic| first
  | ((with_reducible refine' ex_listRg ?c ?l ?lm ?g ?gm ?s ?t ?q); (case c => rfl); (case l => rfl); (case lm => assumption); (case g => rfl); (case gm => assumption); (case s => rfl); (case t => rfl))
  | ((with_reducible refine' ex_callB ?c ?he ?hp ?q); (case c => first | with_reducible assumption | exact Blt.fn (by with_reducible assumption) rfl (by first | with_reducible exact bb_len | with_reducible exact bb_isinstance | with_reducible exact bb_max | with_reducible exact bb_min)); (case he => rfl); (case hp => rfl))
  | ((with_reducible refine' ex_callTy ?c ?he ?hp ?q); (case c => first | with_reducible assumption | exact Blt.fn (by with_reducible assumption) rfl (by first | with_reducible exact bb_int | with_reducible exact bb_bool | with_reducible exact bb_str | with_reducible exact bb_tuple | with_reducible exact bb_list | with_reducible exact bb_dict)); (case he => rfl); (case hp => rfl))
  | ((with_reducible refine' ex_call ?c ?hr ?hg ?hd ?he ?hp ?q); (case c => first | with_reducible assumption | exact Dfn.fn (by with_reducible assumption)); (case hr => first | assumption | exact Room.mono (by assumption) (by decide)); (case hg => rfl); (case hd => rfl); (case he => rfl); (case hp => rfl))
  | ((with_reducible refine' ex_ty ?c ?q); (case c => first | with_reducible assumption | exact Blt.fn (by with_reducible assumption) rfl (by first | with_reducible exact bb_int | with_reducible exact bb_bool | with_reducible exact bb_str | with_reducible exact bb_tuple | with_reducible exact bb_list | with_reducible exact bb_dict)))
  | ((with_reducible refine' ex_glob ?c ?q); (case c => first | with_reducible assumption | exact Gb.fn (by with_reducible assumption) rfl)))
local macro_rules | `(tactic| wtm_at "cb") => `(tactic| first
  | ((with_reducible refine' ex_callB ?c ?he ?hp ?q); (case c => first | exact Blt.blk (by with_reducible assumption) rfl | exact Blt.fnb (by with_reducible assumption) rfl (by first | with_reducible exact bb_len | with_reducible exact bb_isinstance | with_reducible exact bb_max | with_reducible exact bb_min)); (case he => rfl); (case hp => rfl))
  | ((with_reducible refine' ex_callTy ?c ?he ?hp ?q); (case c => first | exact Blt.blk (by with_reducible assumption) rfl | exact Blt.fnb (by with_reducible assumption) rfl (by first | with_reducible exact bb_int | with_reducible exact bb_bool | with_reducible exact bb_str | with_reducible exact bb_tuple | with_reducible exact bb_list | with_reducible exact bb_dict)); (case he => rfl); (case hp => rfl))
  | ((with_reducible refine' ex_call ?c ?hr ?hg ?hd ?he ?hp ?q); (case c => first | exact Dfn.blk (by with_reducible assumption) | exact Dfn.fnb (by with_reducible assumption)); (case hr => first | assumption | exact Room.mono (by assumption) (by decide)); (case hg => rfl); (case hd => rfl); (case he => rfl); (case hp => rfl))
  | ((with_reducible refine' ex_ty ?c ?q); (case c => first | exact Blt.blk (by with_reducible assumption) rfl | exact Blt.fnb (by with_reducible assumption) rfl (by first | with_reducible exact bb_int | with_reducible exact bb_bool | with_reducible exact bb_str | with_reducible exact bb_tuple | with_reducible exact bb_list | with_reducible exact bb_dict)))
  | ((with_reducible refine' ex_glob ?c ?q); (case c => first | exact Gb.blk (by with_reducible assumption) rfl | exact Gb.fnb (by with_reducible assumption) rfl)))
local macro_rules | `(tactic| wtm_at "e") => `(tactic| first
  | (with_reducible refine ex_int ?_) | (with_reducible refine ex_str ?_) | (with_reducible refine ex_bl ?_) | (with_reducible refine ex_non ?_)
  | (with_reducible refine ex_bin ?_) | (with_reducible refine asB_bl ?_)
  | ((with_reducible show (ite (_ = true) _ _)); first | refine iteT' rfl ?_ | refine iteF' rfl ?_)
  | ((with_reducible refine ex_sub ?h ?q); (case h => exact fun _ _ => rfl))
  | ((with_reducible refine tx_cmp ?h ?q); (case h => first | exact nomark _ | rfl))
  | ((with_reducible refine tx_chain ?h ?q); (case h => with_unfolding_all rfl))
  | ((with_reducible refine ex_cmp ?h ?q); (case h => first | exact nomark _ | rfl))
  | ((with_reducible refine ex_chain ?h ?q); (case h => with_unfolding_all rfl))
  | (with_reducible refine tx_not ?_) | (with_reducible refine tw_and ?_) | (with_reducible refine tw_and1 ?_) | (with_reducible refine tw_or ?_) | (with_reducible refine tw_or1 ?_)
  | ((with_reducible show TX _ _ (.BoolOp _ _ _) _ _ _); refine TW.tx ?_)
  | ((with_reducible show TX _ _ (.Call _ _ _ _) _ _ _); refine tx_val (fun _ => rfl) ?_)
  | ((with_reducible show TX _ _ (.Name _ _) _ _ _); refine tx_val (fun _ => rfl) ?_)
  | (with_reducible refine ex_one ?_) | (with_reducible refine ex_and ?_) | (with_reducible refine ex_or ?_) | (with_reducible refine ex_not ?_)
  | (with_reducible refine ex_if ?_)
  | ((with_reducible refine ax_cons ?h ?q); (case h => rfl))
  | (with_reducible refine ax_nil ?_)
  | (with_reducible refine ox_add ?_) | (with_reducible refine ox_sub ?_)
  | (with_reducible refine ox_lt ?_) | (with_reducible refine ox_le ?_) | (with_reducible refine ox_gt ?_) | (with_reducible refine ox_ge ?_)
  | (with_reducible refine ox_eqI ?_) | (with_reducible refine ox_neI ?_) | (with_reducible refine ox_eqS ?_) | (with_reducible refine ox_neS ?_) | (with_reducible refine ox_eqB ?_) | (with_reducible refine ox_neB ?_)
  | (with_reducible refine ox_is ?_) | (with_reducible refine ox_isnot ?_)
  | (with_reducible refine bx_lenF ?_) | (with_reducible refine bx_lenL ?_) | (with_reducible refine bx_lenT ?_)
  | ((with_reducible refine bx_isiI ?h ?q); (case h => first | rfl | assumption))
  | ((with_reducible refine bx_isiB ?h ?q); (case h => first | rfl | assumption))
  | ((with_reducible refine bx_isiSt ?h ?q); (case h => first | rfl | assumption))
  | ((with_reducible refine bx_isiTu ?h ?q); (case h => first | rfl | assumption))
  | ((with_reducible refine bx_isiLi ?h ?q); (case h => first | rfl | assumption))
  | ((with_reducible refine bx_isiTL ?h ?q); (case h => first | rfl | assumption))
  | ((with_reducible refine ex_tup ?q)) | (with_reducible refine ex_cmp0 ?_)
  | (with_reducible refine sx_ret ?_) | (with_reducible refine sx_retN ?_)
  | ((with_reducible refine sx_expr ?h ?q); (case h => rfl))
  | ((with_reducible refine ex_fld ?h ?q); (case h => rfl))
  | ((with_reducible refine sx_fldK ?h ?q); (case h => rfl))
  | ((with_reducible refine gxs_cons ?h ?q); (case h => rfl)) | (with_reducible refine gxs_nil ?_)
  | ((with_reducible refine' gx_tup ?c ?l ?h ?g ?q); (case c => rfl); (case l => rfl); (case h => rfl); (case g => rfl))
  | (with_reducible refine sxs_one ?_) | (with_reducible refine sxs_cons ?_) | (with_reducible refine sxs_nil ?_)
  | ((with_reducible refine sx_asg ?h ?g ?i ?q); (case h => rfl); (case g => rfl); (case i => rfl)))
local macro_rules | `(tactic| wtm_at "b") => `(tactic| first | (refine sxs_one ?_) | (refine sxs_cons ?_))
local macro_rules | `(tactic| wtm_at "e2") => `(tactic| first
  | (with_reducible refine px_cons ?_) | (with_reducible refine px_nil ?_) | (with_reducible refine ex_binL ?_) | (with_reducible refine ex_binR ?_) | (with_reducible refine ex_slice ?_) | (with_reducible refine ex_sliceSt ?_) | (with_reducible refine pox_none ?_) | (with_reducible refine pox_some ?_) | (with_reducible refine slx_t ?_)
  | ((with_reducible refine ex_subL ?h ?q); (case h => exact fun _ _ => rfl))
  | ((with_reducible show (List.length _ ≤ sizeLine ∧ _)); refine And.intro (Nat.le_of_ble_eq_true rfl) ?_)
  | ((with_reducible show (ite ((!decide (_ = _)) = true) _ _)); (with_reducible refine ite_ndec (fun h => absurd rfl h) (fun _ => ?_)))
  | ((with_reducible show (ite (decide (_ = _) = true) _ _)); (with_reducible refine ite_dec (fun _ => ?_) (fun h => absurd rfl h)))
  | ((with_reducible show (IX _ _ (.tup _) (.int _) _ _ _)); refine ix_t rfl ?_)
  | ((with_reducible show (IX _ _ (.lst _) (.int _) _ _ _)); refine ix_l rfl ?_)
  | ((with_reducible show (IX _ _ (.ref _) (.int _) _ _ _)); refine ix_c (by first | with_reducible assumption | exact mupd_same) rfl ?_)
  | (refine ⟨_, (rfl : D.int _ = D.int _), (?_ : SLX _ _ _ _ _ _ _ _)⟩) | (refine ⟨_, (rfl : D.int _ = D.int _), (?_ : POX _ _ _ _ _ _)⟩)
  | (refine ⟨_, _, _, _, (rfl : D.ref _ = D.ref _), (by wtm_at "me"), Ki.cls (by assumption), Ki.no (by assumption) _ (by decide +kernel), (by wtm_at "lk"), ?_⟩)
  | (refine ⟨_, _, _, _, _, (rfl : D.ref _ = D.ref _), (by wtm_at "me"), (by assumption : Ki _ _ _), (by decide +kernel), (Nat.le_of_ble_eq_true rfl), (by wtm_at "put"), ?_⟩)
  | (refine ⟨_, _, _, _, _, (rfl : D.ref _ = D.ref _), (by wtm_at "me"), (by assumption : Mth _ _ _ _ _ _ _ _ _), (by first | assumption | exact Room.mono (by assumption) (by decide)), (by wtm_at "ln"), ?_⟩))
local macro_rules | `(tactic| wtm_at "lk") => `(tactic| repeat (first | exact lk_hit | apply lk_skip (by decide +kernel)))
local macro_rules | `(tactic| wtm_at "ln") => `(tactic| repeat (first | exact lk_nil | apply lk_none (by decide +kernel)))
local macro_rules | `(tactic| wtm_at "put") => `(tactic| repeat (first | exact put_hit | exact put_nil | apply put_skip (by decide +kernel)))
local macro_rules | `(tactic| wtm_at "me") => `(tactic| first | with_reducible assumption | exact mupd_same | (rw [mupd_ne (by assumption)]; with_reducible assumption))
local macro_rules | `(tactic| wtm_at "m") => `(tactic| first
  | ((with_reducible refine' ex_methV ?hs ?hp ?ht ?q); (case hs => rfl); (case hp => rfl); (case ht => rfl))
  | ((with_reducible refine' ex_methV0 ?ht ?q); (case ht => rfl)))
local macro_rules | `(tactic| wtm_at "mk") => `(tactic| (with_reducible refine' ex_make ?c ?hr ?hg ?hd ?he ?hp ?q); (case c => assumption); (case hr => first | assumption | exact Room.mono (by assumption) (by decide)); (case hg => rfl); (case hd => rfl); (case he => rfl); (case hp => rfl))
local macro_rules | `(tactic| wtm_at "ei") => `(tactic| with_reducible refine sx_if ?_)
local macro_rules | `(tactic| wtm_at "ss") => `(tactic| (with_reducible refine' ex_sortedSet ?h1 ?h2 ?h3 ?h4 ?h5 ?h6 ?h7 ?q); (case h1 => rfl); (case h2 => exact Blt.fn (by with_reducible assumption) rfl bb_sorted); (case h3 => exact Blt.fn (by with_reducible assumption) rfl bb_set); (case h4 => rfl); (case h5 => rfl); (case h6 => rfl); (case h7 => rfl))
local macro_rules | `(tactic| wtm_at "cx") => `(tactic| first
  | ((with_reducible refine' ex_callB ?c ?he ?hp ?q); (case c => exact Blt.any (by assumption) rfl (by first | with_reducible exact bb_len | with_reducible exact bb_isinstance | with_reducible exact bb_max | with_reducible exact bb_min)); (case he => rfl); (case hp => rfl))
  | ((with_reducible refine' ex_callTy ?c ?he ?hp ?q); (case c => exact Blt.any (by assumption) rfl (by first | with_reducible exact bb_int | with_reducible exact bb_bool | with_reducible exact bb_str | with_reducible exact bb_tuple | with_reducible exact bb_list | with_reducible exact bb_dict)); (case he => rfl); (case hp => rfl))
  | ((with_reducible refine' ex_call ?c ?hr ?hg ?hd ?he ?hp ?q); (case c => assumption); (case hr => first | assumption | exact Room.mono (by assumption) (by decide)); (case hg => rfl); (case hd => rfl); (case he => rfl); (case hp => rfl))
  | ((with_reducible refine' ex_ty ?c ?q); (case c => exact Blt.any (by assumption) rfl (by first | with_reducible exact bb_int | with_reducible exact bb_bool | with_reducible exact bb_str | with_reducible exact bb_tuple | with_reducible exact bb_list | with_reducible exact bb_dict | with_reducible exact bb_VE)))
  | ((with_reducible refine' ex_glob ?c ?q); (case c => exact Gb.ofC rfl (by assumption) (by decide))))

/-! the text by places -/
def top (i : Nat) : Stmt := PySem.Challenge.pw_faruplink_k10_soonest_by_trying_all.main.body.getD i (.Pass ⟨0, 0, 0, 0⟩)
abbrev s_is_number : Stmt := top 11
abbrev n_is_number : List Str := ["part", "low", "high"]
theorem sc_is_number : FnScope n_is_number ["part", "low", "high"] (defScope s_is_number) := ⟨rfl, rfl, rfl, by decide +kernel, rfl, by decide +kernel, by decide +kernel⟩
theorem a_is_number_0 : atB n_is_number (defScope s_is_number) 0 "part" = true := by decide +kernel
theorem a_is_number_1 : atB n_is_number (defScope s_is_number) 1 "low" = true := by decide +kernel
theorem a_is_number_2 : atB n_is_number (defScope s_is_number) 2 "high" = true := by decide +kernel
local macro_rules | `(tactic| wtm_at "v is_number") => `(tactic| first
  | ((with_reducible refine' ex_var (i := 0) (x := "part") ?h ?g ?q); (case h => exact At.of rfl rfl a_is_number_0); (case g => rfl))
  | ((with_reducible refine' ex_var (i := 1) (x := "low") ?h ?g ?q); (case h => exact At.of rfl rfl a_is_number_1); (case g => rfl))
  | ((with_reducible refine' ex_var (i := 2) (x := "high") ?h ?g ?q); (case h => exact At.of rfl rfl a_is_number_2); (case g => rfl))
  | ((with_reducible refine sx_set (i := 0) (x := "part") ?h ?s ?q); (case h => exact Lc.of sc_is_number.nd rfl rfl (.inl rfl) a_is_number_0); (case s => rfl))
  | ((with_reducible refine gx_name (i := 0) (x := "part") ?h ?q); (case h => exact Lc.of sc_is_number.nd rfl rfl (.inl rfl) a_is_number_0))
  | ((with_reducible refine sx_set (i := 1) (x := "low") ?h ?s ?q); (case h => exact Lc.of sc_is_number.nd rfl rfl (.inl rfl) a_is_number_1); (case s => rfl))
  | ((with_reducible refine gx_name (i := 1) (x := "low") ?h ?q); (case h => exact Lc.of sc_is_number.nd rfl rfl (.inl rfl) a_is_number_1))
  | ((with_reducible refine sx_set (i := 2) (x := "high") ?h ?s ?q); (case h => exact Lc.of sc_is_number.nd rfl rfl (.inl rfl) a_is_number_2); (case s => rfl))
  | ((with_reducible refine gx_name (i := 2) (x := "high") ?h ?q); (case h => exact Lc.of sc_is_number.nd rfl rfl (.inl rfl) a_is_number_2)))
local macro_rules | `(tactic| wtm_at "vb is_number") => `(tactic| first
  | ((with_reducible refine' ex_var (i := 0) (x := "part") ?h ?g ?q); (case h => exact At.b rfl (by first | exact Or.inl rfl | exact Or.inr (Or.inl rfl) | exact Or.inr (Or.inr rfl))); (case g => rfl))
  | ((with_reducible refine' ex_var (i := 1) (x := "low") ?h ?g ?q); (case h => exact At.b rfl (by first | exact Or.inl rfl | exact Or.inr (Or.inl rfl) | exact Or.inr (Or.inr rfl))); (case g => rfl))
  | ((with_reducible refine' ex_var (i := 2) (x := "high") ?h ?g ?q); (case h => exact At.b rfl (by first | exact Or.inl rfl | exact Or.inr (Or.inl rfl) | exact Or.inr (Or.inr rfl))); (case g => rfl)))
local macro_rules | `(tactic| wtm_at "w is_number") => `(tactic| repeat (first | wtm_at "v is_number" | wtm_at "e" | wtm_at "ei" | wtm_at "c"))
local macro_rules | `(tactic| wtm_at "wb is_number") => `(tactic| repeat (first | wtm_at "vb is_number" | wtm_at "e" | wtm_at "cb"))
local macro_rules | `(tactic| wtm_at "g is_number") => `(tactic| repeat (first | wtm_at "v is_number" | wtm_at "e2" | wtm_at "e" | wtm_at "ei" | wtm_at "c"))
local macro_rules | `(tactic| wtm_at "gb is_number") => `(tactic| repeat (first | wtm_at "vb is_number" | wtm_at "e2" | wtm_at "e" | wtm_at "cb"))
local macro_rules | `(tactic| wtm_at "h is_number") => `(tactic| repeat (first | wtm_at "v is_number" | wtm_at "e2" | wtm_at "e" | wtm_at "c"))
local macro_rules | `(tactic| wtm_at "gx is_number") => `(tactic| repeat (first | wtm_at "v is_number" | wtm_at "e2" | wtm_at "e" | wtm_at "ei" | wtm_at "cx"))
local macro_rules | `(tactic| wtm_at "hx is_number") => `(tactic| repeat (first | wtm_at "v is_number" | wtm_at "e2" | wtm_at "e" | wtm_at "cx"))
local macro_rules | `(tactic| wtm_at "gy is_number") => `(tactic| repeat (first | wtm_at "vb is_number" | wtm_at "e2" | wtm_at "e" | wtm_at "cx"))
local macro_rules | `(tactic| wtm_at "hx1 is_number") => `(tactic| first | wtm_at "v is_number" | wtm_at "e2" | wtm_at "e" | wtm_at "cx")
abbrev X_is_number (P : Program) (w : World) (K : PySem.W.Frag) (mg : Str → Option Value) (base : Heap) (f : Addr) (cdv : Value) (A : Around) (outer : List Env) (s : Shared) (H : Hp) (E : XK) : Cx := (cxOf CX0 P w K mg base n_is_number "is_number" (defScope s_is_number) f cdv A outer s H E).nox
abbrev s_is_command : Stmt := top 12
abbrev n_is_command : List Str := ["part", "number", "wants", "one", "k"]
theorem sc_is_command : FnScope n_is_command ["part", "number"] (defScope s_is_command) := ⟨rfl, rfl, rfl, by decide +kernel, rfl, by decide +kernel, by decide +kernel⟩
theorem a_is_command_0 : atB n_is_command (defScope s_is_command) 0 "part" = true := by decide +kernel
theorem a_is_command_1 : atB n_is_command (defScope s_is_command) 1 "number" = true := by decide +kernel
theorem a_is_command_2 : atB n_is_command (defScope s_is_command) 2 "wants" = true := by decide +kernel
local macro_rules | `(tactic| wtm_at "v is_command") => `(tactic| first
  | ((with_reducible refine' ex_var (i := 0) (x := "part") ?h ?g ?q); (case h => exact At.of rfl rfl a_is_command_0); (case g => rfl))
  | ((with_reducible refine' ex_var (i := 1) (x := "number") ?h ?g ?q); (case h => exact At.of rfl rfl a_is_command_1); (case g => rfl))
  | ((with_reducible refine' ex_var (i := 2) (x := "wants") ?h ?g ?q); (case h => exact At.of rfl rfl a_is_command_2); (case g => rfl))
  | ((with_reducible refine sx_set (i := 0) (x := "part") ?h ?s ?q); (case h => exact Lc.of sc_is_command.nd rfl rfl (.inl rfl) a_is_command_0); (case s => rfl))
  | ((with_reducible refine gx_name (i := 0) (x := "part") ?h ?q); (case h => exact Lc.of sc_is_command.nd rfl rfl (.inl rfl) a_is_command_0))
  | ((with_reducible refine sx_set (i := 1) (x := "number") ?h ?s ?q); (case h => exact Lc.of sc_is_command.nd rfl rfl (.inl rfl) a_is_command_1); (case s => rfl))
  | ((with_reducible refine gx_name (i := 1) (x := "number") ?h ?q); (case h => exact Lc.of sc_is_command.nd rfl rfl (.inl rfl) a_is_command_1))
  | ((with_reducible refine sx_set (i := 2) (x := "wants") ?h ?s ?q); (case h => exact Lc.of sc_is_command.nd rfl rfl (.inl rfl) a_is_command_2); (case s => rfl))
  | ((with_reducible refine gx_name (i := 2) (x := "wants") ?h ?q); (case h => exact Lc.of sc_is_command.nd rfl rfl (.inl rfl) a_is_command_2)))
local macro_rules | `(tactic| wtm_at "vb is_command") => `(tactic| first
  | ((with_reducible refine' ex_var (i := 0) (x := "part") ?h ?g ?q); (case h => exact At.b rfl (by first | exact Or.inl rfl | exact Or.inr (Or.inl rfl) | exact Or.inr (Or.inr rfl))); (case g => rfl))
  | ((with_reducible refine' ex_var (i := 1) (x := "number") ?h ?g ?q); (case h => exact At.b rfl (by first | exact Or.inl rfl | exact Or.inr (Or.inl rfl) | exact Or.inr (Or.inr rfl))); (case g => rfl))
  | ((with_reducible refine' ex_var (i := 2) (x := "wants") ?h ?g ?q); (case h => exact At.b rfl (by first | exact Or.inl rfl | exact Or.inr (Or.inl rfl) | exact Or.inr (Or.inr rfl))); (case g => rfl))
  | ((with_reducible refine' ex_var (i := 3) (x := "one") ?h ?g ?q); (case h => exact At.b rfl (by first | exact Or.inl rfl | exact Or.inr (Or.inl rfl) | exact Or.inr (Or.inr rfl))); (case g => rfl))
  | ((with_reducible refine' ex_var (i := 4) (x := "k") ?h ?g ?q); (case h => exact At.b rfl (by first | exact Or.inl rfl | exact Or.inr (Or.inl rfl) | exact Or.inr (Or.inr rfl))); (case g => rfl)))
local macro_rules | `(tactic| wtm_at "w is_command") => `(tactic| repeat (first | wtm_at "v is_command" | wtm_at "e" | wtm_at "ei" | wtm_at "c"))
local macro_rules | `(tactic| wtm_at "wb is_command") => `(tactic| repeat (first | wtm_at "vb is_command" | wtm_at "e" | wtm_at "cb"))
local macro_rules | `(tactic| wtm_at "g is_command") => `(tactic| repeat (first | wtm_at "v is_command" | wtm_at "e2" | wtm_at "e" | wtm_at "ei" | wtm_at "c"))
local macro_rules | `(tactic| wtm_at "gb is_command") => `(tactic| repeat (first | wtm_at "vb is_command" | wtm_at "e2" | wtm_at "e" | wtm_at "cb"))
local macro_rules | `(tactic| wtm_at "h is_command") => `(tactic| repeat (first | wtm_at "v is_command" | wtm_at "e2" | wtm_at "e" | wtm_at "c"))
local macro_rules | `(tactic| wtm_at "gx is_command") => `(tactic| repeat (first | wtm_at "v is_command" | wtm_at "e2" | wtm_at "e" | wtm_at "ei" | wtm_at "cx"))
local macro_rules | `(tactic| wtm_at "hx is_command") => `(tactic| repeat (first | wtm_at "v is_command" | wtm_at "e2" | wtm_at "e" | wtm_at "cx"))
local macro_rules | `(tactic| wtm_at "gy is_command") => `(tactic| repeat (first | wtm_at "vb is_command" | wtm_at "e2" | wtm_at "e" | wtm_at "cx"))
local macro_rules | `(tactic| wtm_at "hx1 is_command") => `(tactic| first | wtm_at "v is_command" | wtm_at "e2" | wtm_at "e" | wtm_at "cx")
local macro_rules | `(tactic| wtm_at "lc is_command 0") => `(tactic| refine' ex_lc (own := [("one", 3)]) (t := .inl 3)  rfl sc_is_command.nd (blkOk_by (N := n_is_command) (sc := defScope s_is_command) (by decide +kernel)) (by decide) (fun _ _ _ _ _ => pg_name (i := 3) sc_is_command.nd rfl (by first | exact Or.inl rfl | exact Or.inr rfl)) (fun _ => rfl) ?_)
local macro_rules | `(tactic| wtm_at "lcM is_command 0") => `(tactic| refine' ex_lcM (own := [("one", 3)]) (t := .inl 3)  rfl sc_is_command.nd (blkOk_by (N := n_is_command) (sc := defScope s_is_command) (by decide +kernel)) (by decide) (fun _ _ _ _ _ => pg_name (i := 3) sc_is_command.nd rfl (by first | exact Or.inl rfl | exact Or.inr rfl)) (fun _ => rfl) ?_)
local macro_rules | `(tactic| wtm_at "lcp is_command 0") => `(tactic| refine' ex_lcp (own := [("one", 3)]) (t := .inl 3) ?f rfl sc_is_command.nd (blkOk_by (N := n_is_command) (sc := defScope s_is_command) (by decide +kernel)) (by decide) (fun _ _ _ _ _ => pg_name (i := 3) sc_is_command.nd rfl (by first | exact Or.inl rfl | exact Or.inr rfl)) (fun _ => rfl) ?_)
local macro_rules | `(tactic| wtm_at "lcpM is_command 0") => `(tactic| refine' ex_lcpM (own := [("one", 3)]) (t := .inl 3) ?f rfl sc_is_command.nd (blkOk_by (N := n_is_command) (sc := defScope s_is_command) (by decide +kernel)) (by decide) (fun _ _ _ _ _ => pg_name (i := 3) sc_is_command.nd rfl (by first | exact Or.inl rfl | exact Or.inr rfl)) (fun _ => rfl) ?_)
local macro_rules | `(tactic| wtm_at "lc is_command 1") => `(tactic| refine' ex_lc (own := [("k", 4)]) (t := .inl 4)  rfl sc_is_command.nd (blkOk_by (N := n_is_command) (sc := defScope s_is_command) (by decide +kernel)) (by decide) (fun _ _ _ _ _ => pg_name (i := 4) sc_is_command.nd rfl (by first | exact Or.inl rfl | exact Or.inr rfl)) (fun _ => rfl) ?_)
local macro_rules | `(tactic| wtm_at "lcM is_command 1") => `(tactic| refine' ex_lcM (own := [("k", 4)]) (t := .inl 4)  rfl sc_is_command.nd (blkOk_by (N := n_is_command) (sc := defScope s_is_command) (by decide +kernel)) (by decide) (fun _ _ _ _ _ => pg_name (i := 4) sc_is_command.nd rfl (by first | exact Or.inl rfl | exact Or.inr rfl)) (fun _ => rfl) ?_)
local macro_rules | `(tactic| wtm_at "lcp is_command 1") => `(tactic| refine' ex_lcp (own := [("k", 4)]) (t := .inl 4) ?f rfl sc_is_command.nd (blkOk_by (N := n_is_command) (sc := defScope s_is_command) (by decide +kernel)) (by decide) (fun _ _ _ _ _ => pg_name (i := 4) sc_is_command.nd rfl (by first | exact Or.inl rfl | exact Or.inr rfl)) (fun _ => rfl) ?_)
local macro_rules | `(tactic| wtm_at "lcpM is_command 1") => `(tactic| refine' ex_lcpM (own := [("k", 4)]) (t := .inl 4) ?f rfl sc_is_command.nd (blkOk_by (N := n_is_command) (sc := defScope s_is_command) (by decide +kernel)) (by decide) (fun _ _ _ _ _ => pg_name (i := 4) sc_is_command.nd rfl (by first | exact Or.inl rfl | exact Or.inr rfl)) (fun _ => rfl) ?_)
abbrev X_is_command (P : Program) (w : World) (K : PySem.W.Frag) (mg : Str → Option Value) (base : Heap) (f : Addr) (cdv : Value) (A : Around) (outer : List Env) (s : Shared) (H : Hp) (E : XK) : Cx := (cxOf CX0 P w K mg base n_is_command "is_command" (defScope s_is_command) f cdv A outer s H E).nox
abbrev s_need_book : Stmt := top 13
abbrev n_need_book : List Str := ["book", "number", "command"]
theorem sc_need_book : FnScope n_need_book ["book"] (defScope s_need_book) := ⟨rfl, rfl, rfl, by decide +kernel, rfl, by decide +kernel, by decide +kernel⟩
theorem a_need_book_0 : atB n_need_book (defScope s_need_book) 0 "book" = true := by decide +kernel
theorem a_need_book_1 : atB n_need_book (defScope s_need_book) 1 "number" = true := by decide +kernel
theorem a_need_book_2 : atB n_need_book (defScope s_need_book) 2 "command" = true := by decide +kernel
local macro_rules | `(tactic| wtm_at "v need_book") => `(tactic| first
  | ((with_reducible refine' ex_var (i := 0) (x := "book") ?h ?g ?q); (case h => exact At.of rfl rfl a_need_book_0); (case g => rfl))
  | ((with_reducible refine' ex_var (i := 1) (x := "number") ?h ?g ?q); (case h => exact At.of rfl rfl a_need_book_1); (case g => rfl))
  | ((with_reducible refine' ex_var (i := 2) (x := "command") ?h ?g ?q); (case h => exact At.of rfl rfl a_need_book_2); (case g => rfl))
  | ((with_reducible refine sx_set (i := 0) (x := "book") ?h ?s ?q); (case h => exact Lc.of sc_need_book.nd rfl rfl (.inl rfl) a_need_book_0); (case s => rfl))
  | ((with_reducible refine gx_name (i := 0) (x := "book") ?h ?q); (case h => exact Lc.of sc_need_book.nd rfl rfl (.inl rfl) a_need_book_0))
  | ((with_reducible refine sx_set (i := 1) (x := "number") ?h ?s ?q); (case h => exact Lc.of sc_need_book.nd rfl rfl (.inl rfl) a_need_book_1); (case s => rfl))
  | ((with_reducible refine gx_name (i := 1) (x := "number") ?h ?q); (case h => exact Lc.of sc_need_book.nd rfl rfl (.inl rfl) a_need_book_1))
  | ((with_reducible refine sx_set (i := 2) (x := "command") ?h ?s ?q); (case h => exact Lc.of sc_need_book.nd rfl rfl (.inl rfl) a_need_book_2); (case s => rfl))
  | ((with_reducible refine gx_name (i := 2) (x := "command") ?h ?q); (case h => exact Lc.of sc_need_book.nd rfl rfl (.inl rfl) a_need_book_2)))
local macro_rules | `(tactic| wtm_at "vb need_book") => `(tactic| first
  | ((with_reducible refine' ex_var (i := 0) (x := "book") ?h ?g ?q); (case h => exact At.b rfl (by first | exact Or.inl rfl | exact Or.inr (Or.inl rfl) | exact Or.inr (Or.inr rfl))); (case g => rfl))
  | ((with_reducible refine' ex_var (i := 1) (x := "number") ?h ?g ?q); (case h => exact At.b rfl (by first | exact Or.inl rfl | exact Or.inr (Or.inl rfl) | exact Or.inr (Or.inr rfl))); (case g => rfl))
  | ((with_reducible refine' ex_var (i := 2) (x := "command") ?h ?g ?q); (case h => exact At.b rfl (by first | exact Or.inl rfl | exact Or.inr (Or.inl rfl) | exact Or.inr (Or.inr rfl))); (case g => rfl)))
local macro_rules | `(tactic| wtm_at "w need_book") => `(tactic| repeat (first | wtm_at "v need_book" | wtm_at "e" | wtm_at "ei" | wtm_at "c"))
local macro_rules | `(tactic| wtm_at "wb need_book") => `(tactic| repeat (first | wtm_at "vb need_book" | wtm_at "e" | wtm_at "cb"))
local macro_rules | `(tactic| wtm_at "g need_book") => `(tactic| repeat (first | wtm_at "v need_book" | wtm_at "e2" | wtm_at "e" | wtm_at "ei" | wtm_at "c"))
local macro_rules | `(tactic| wtm_at "gb need_book") => `(tactic| repeat (first | wtm_at "vb need_book" | wtm_at "e2" | wtm_at "e" | wtm_at "cb"))
local macro_rules | `(tactic| wtm_at "h need_book") => `(tactic| repeat (first | wtm_at "v need_book" | wtm_at "e2" | wtm_at "e" | wtm_at "c"))
local macro_rules | `(tactic| wtm_at "gx need_book") => `(tactic| repeat (first | wtm_at "v need_book" | wtm_at "e2" | wtm_at "e" | wtm_at "ei" | wtm_at "cx"))
local macro_rules | `(tactic| wtm_at "hx need_book") => `(tactic| repeat (first | wtm_at "v need_book" | wtm_at "e2" | wtm_at "e" | wtm_at "cx"))
local macro_rules | `(tactic| wtm_at "gy need_book") => `(tactic| repeat (first | wtm_at "vb need_book" | wtm_at "e2" | wtm_at "e" | wtm_at "cx"))
local macro_rules | `(tactic| wtm_at "hx1 need_book") => `(tactic| first | wtm_at "v need_book" | wtm_at "e2" | wtm_at "e" | wtm_at "cx")
abbrev X_need_book (P : Program) (w : World) (K : PySem.W.Frag) (mg : Str → Option Value) (base : Heap) (f : Addr) (cdv : Value) (A : Around) (outer : List Env) (s : Shared) (H : Hp) (E : XK) : Cx := (cxOf CX0 P w K mg base n_need_book "need_book" (defScope s_need_book) f cdv A outer s H E).nox
abbrev s_need_delay : Stmt := top 14
abbrev n_need_delay : List Str := ["delay"]
theorem sc_need_delay : FnScope n_need_delay ["delay"] (defScope s_need_delay) := ⟨rfl, rfl, rfl, by decide +kernel, rfl, by decide +kernel, by decide +kernel⟩
theorem a_need_delay_0 : atB n_need_delay (defScope s_need_delay) 0 "delay" = true := by decide +kernel
local macro_rules | `(tactic| wtm_at "v need_delay") => `(tactic| first
  | ((with_reducible refine' ex_var (i := 0) (x := "delay") ?h ?g ?q); (case h => exact At.of rfl rfl a_need_delay_0); (case g => rfl))
  | ((with_reducible refine sx_set (i := 0) (x := "delay") ?h ?s ?q); (case h => exact Lc.of sc_need_delay.nd rfl rfl (.inl rfl) a_need_delay_0); (case s => rfl))
  | ((with_reducible refine gx_name (i := 0) (x := "delay") ?h ?q); (case h => exact Lc.of sc_need_delay.nd rfl rfl (.inl rfl) a_need_delay_0)))
local macro_rules | `(tactic| wtm_at "vb need_delay") => `(tactic| first
  | ((with_reducible refine' ex_var (i := 0) (x := "delay") ?h ?g ?q); (case h => exact At.b rfl (by first | exact Or.inl rfl | exact Or.inr (Or.inl rfl) | exact Or.inr (Or.inr rfl))); (case g => rfl)))
local macro_rules | `(tactic| wtm_at "w need_delay") => `(tactic| repeat (first | wtm_at "v need_delay" | wtm_at "e" | wtm_at "ei" | wtm_at "c"))
local macro_rules | `(tactic| wtm_at "wb need_delay") => `(tactic| repeat (first | wtm_at "vb need_delay" | wtm_at "e" | wtm_at "cb"))
local macro_rules | `(tactic| wtm_at "g need_delay") => `(tactic| repeat (first | wtm_at "v need_delay" | wtm_at "e2" | wtm_at "e" | wtm_at "ei" | wtm_at "c"))
local macro_rules | `(tactic| wtm_at "gb need_delay") => `(tactic| repeat (first | wtm_at "vb need_delay" | wtm_at "e2" | wtm_at "e" | wtm_at "cb"))
local macro_rules | `(tactic| wtm_at "h need_delay") => `(tactic| repeat (first | wtm_at "v need_delay" | wtm_at "e2" | wtm_at "e" | wtm_at "c"))
local macro_rules | `(tactic| wtm_at "gx need_delay") => `(tactic| repeat (first | wtm_at "v need_delay" | wtm_at "e2" | wtm_at "e" | wtm_at "ei" | wtm_at "cx"))
local macro_rules | `(tactic| wtm_at "hx need_delay") => `(tactic| repeat (first | wtm_at "v need_delay" | wtm_at "e2" | wtm_at "e" | wtm_at "cx"))
local macro_rules | `(tactic| wtm_at "gy need_delay") => `(tactic| repeat (first | wtm_at "vb need_delay" | wtm_at "e2" | wtm_at "e" | wtm_at "cx"))
local macro_rules | `(tactic| wtm_at "hx1 need_delay") => `(tactic| first | wtm_at "v need_delay" | wtm_at "e2" | wtm_at "e" | wtm_at "cx")
abbrev X_need_delay (P : Program) (w : World) (K : PySem.W.Frag) (mg : Str → Option Value) (base : Heap) (f : Addr) (cdv : Value) (A : Around) (outer : List Env) (s : Shared) (H : Hp) (E : XK) : Cx := (cxOf CX0 P w K mg base n_need_delay "need_delay" (defScope s_need_delay) f cdv A outer s H E).nox
abbrev s_need_windows : Stmt := top 15
abbrev n_need_windows : List Str := ["windows", "last", "pair"]
theorem sc_need_windows : FnScope n_need_windows ["windows"] (defScope s_need_windows) := ⟨rfl, rfl, rfl, by decide +kernel, rfl, by decide +kernel, by decide +kernel⟩
theorem a_need_windows_0 : atB n_need_windows (defScope s_need_windows) 0 "windows" = true := by decide +kernel
theorem a_need_windows_1 : atB n_need_windows (defScope s_need_windows) 1 "last" = true := by decide +kernel
theorem a_need_windows_2 : atB n_need_windows (defScope s_need_windows) 2 "pair" = true := by decide +kernel
local macro_rules | `(tactic| wtm_at "v need_windows") => `(tactic| first
  | ((with_reducible refine' ex_var (i := 0) (x := "windows") ?h ?g ?q); (case h => exact At.of rfl rfl a_need_windows_0); (case g => rfl))
  | ((with_reducible refine' ex_var (i := 1) (x := "last") ?h ?g ?q); (case h => exact At.of rfl rfl a_need_windows_1); (case g => rfl))
  | ((with_reducible refine' ex_var (i := 2) (x := "pair") ?h ?g ?q); (case h => exact At.of rfl rfl a_need_windows_2); (case g => rfl))
  | ((with_reducible refine sx_set (i := 0) (x := "windows") ?h ?s ?q); (case h => exact Lc.of sc_need_windows.nd rfl rfl (.inl rfl) a_need_windows_0); (case s => rfl))
  | ((with_reducible refine gx_name (i := 0) (x := "windows") ?h ?q); (case h => exact Lc.of sc_need_windows.nd rfl rfl (.inl rfl) a_need_windows_0))
  | ((with_reducible refine sx_set (i := 1) (x := "last") ?h ?s ?q); (case h => exact Lc.of sc_need_windows.nd rfl rfl (.inl rfl) a_need_windows_1); (case s => rfl))
  | ((with_reducible refine gx_name (i := 1) (x := "last") ?h ?q); (case h => exact Lc.of sc_need_windows.nd rfl rfl (.inl rfl) a_need_windows_1))
  | ((with_reducible refine sx_set (i := 2) (x := "pair") ?h ?s ?q); (case h => exact Lc.of sc_need_windows.nd rfl rfl (.inl rfl) a_need_windows_2); (case s => rfl))
  | ((with_reducible refine gx_name (i := 2) (x := "pair") ?h ?q); (case h => exact Lc.of sc_need_windows.nd rfl rfl (.inl rfl) a_need_windows_2)))
local macro_rules | `(tactic| wtm_at "vb need_windows") => `(tactic| first
  | ((with_reducible refine' ex_var (i := 0) (x := "windows") ?h ?g ?q); (case h => exact At.b rfl (by first | exact Or.inl rfl | exact Or.inr (Or.inl rfl) | exact Or.inr (Or.inr rfl))); (case g => rfl))
  | ((with_reducible refine' ex_var (i := 1) (x := "last") ?h ?g ?q); (case h => exact At.b rfl (by first | exact Or.inl rfl | exact Or.inr (Or.inl rfl) | exact Or.inr (Or.inr rfl))); (case g => rfl))
  | ((with_reducible refine' ex_var (i := 2) (x := "pair") ?h ?g ?q); (case h => exact At.b rfl (by first | exact Or.inl rfl | exact Or.inr (Or.inl rfl) | exact Or.inr (Or.inr rfl))); (case g => rfl)))
local macro_rules | `(tactic| wtm_at "w need_windows") => `(tactic| repeat (first | wtm_at "v need_windows" | wtm_at "e" | wtm_at "ei" | wtm_at "c"))
local macro_rules | `(tactic| wtm_at "wb need_windows") => `(tactic| repeat (first | wtm_at "vb need_windows" | wtm_at "e" | wtm_at "cb"))
local macro_rules | `(tactic| wtm_at "g need_windows") => `(tactic| repeat (first | wtm_at "v need_windows" | wtm_at "e2" | wtm_at "e" | wtm_at "ei" | wtm_at "c"))
local macro_rules | `(tactic| wtm_at "gb need_windows") => `(tactic| repeat (first | wtm_at "vb need_windows" | wtm_at "e2" | wtm_at "e" | wtm_at "cb"))
local macro_rules | `(tactic| wtm_at "h need_windows") => `(tactic| repeat (first | wtm_at "v need_windows" | wtm_at "e2" | wtm_at "e" | wtm_at "c"))
local macro_rules | `(tactic| wtm_at "gx need_windows") => `(tactic| repeat (first | wtm_at "v need_windows" | wtm_at "e2" | wtm_at "e" | wtm_at "ei" | wtm_at "cx"))
local macro_rules | `(tactic| wtm_at "hx need_windows") => `(tactic| repeat (first | wtm_at "v need_windows" | wtm_at "e2" | wtm_at "e" | wtm_at "cx"))
local macro_rules | `(tactic| wtm_at "gy need_windows") => `(tactic| repeat (first | wtm_at "vb need_windows" | wtm_at "e2" | wtm_at "e" | wtm_at "cx"))
local macro_rules | `(tactic| wtm_at "hx1 need_windows") => `(tactic| first | wtm_at "v need_windows" | wtm_at "e2" | wtm_at "e" | wtm_at "cx")
abbrev X_need_windows (P : Program) (w : World) (K : PySem.W.Frag) (mg : Str → Option Value) (base : Heap) (f : Addr) (cdv : Value) (A : Around) (outer : List Env) (s : Shared) (H : Hp) (E : XK) : Cx := (cxOf CX0 P w K mg base n_need_windows "need_windows" (defScope s_need_windows) f cdv A outer s H E).nox
abbrev s_is_open : Stmt := top 16
abbrev n_is_open : List Str := ["windows", "beat", "pair"]
theorem sc_is_open : FnScope n_is_open ["windows", "beat"] (defScope s_is_open) := ⟨rfl, rfl, rfl, by decide +kernel, rfl, by decide +kernel, by decide +kernel⟩
theorem a_is_open_0 : atB n_is_open (defScope s_is_open) 0 "windows" = true := by decide +kernel
theorem a_is_open_1 : atB n_is_open (defScope s_is_open) 1 "beat" = true := by decide +kernel
local macro_rules | `(tactic| wtm_at "v is_open") => `(tactic| first
  | ((with_reducible refine' ex_var (i := 0) (x := "windows") ?h ?g ?q); (case h => exact At.of rfl rfl a_is_open_0); (case g => rfl))
  | ((with_reducible refine' ex_var (i := 1) (x := "beat") ?h ?g ?q); (case h => exact At.of rfl rfl a_is_open_1); (case g => rfl))
  | ((with_reducible refine sx_set (i := 0) (x := "windows") ?h ?s ?q); (case h => exact Lc.of sc_is_open.nd rfl rfl (.inl rfl) a_is_open_0); (case s => rfl))
  | ((with_reducible refine gx_name (i := 0) (x := "windows") ?h ?q); (case h => exact Lc.of sc_is_open.nd rfl rfl (.inl rfl) a_is_open_0))
  | ((with_reducible refine sx_set (i := 1) (x := "beat") ?h ?s ?q); (case h => exact Lc.of sc_is_open.nd rfl rfl (.inl rfl) a_is_open_1); (case s => rfl))
  | ((with_reducible refine gx_name (i := 1) (x := "beat") ?h ?q); (case h => exact Lc.of sc_is_open.nd rfl rfl (.inl rfl) a_is_open_1)))
local macro_rules | `(tactic| wtm_at "vb is_open") => `(tactic| first
  | ((with_reducible refine' ex_var (i := 0) (x := "windows") ?h ?g ?q); (case h => exact At.b rfl (by first | exact Or.inl rfl | exact Or.inr (Or.inl rfl) | exact Or.inr (Or.inr rfl))); (case g => rfl))
  | ((with_reducible refine' ex_var (i := 1) (x := "beat") ?h ?g ?q); (case h => exact At.b rfl (by first | exact Or.inl rfl | exact Or.inr (Or.inl rfl) | exact Or.inr (Or.inr rfl))); (case g => rfl))
  | ((with_reducible refine' ex_var (i := 2) (x := "pair") ?h ?g ?q); (case h => exact At.b rfl (by first | exact Or.inl rfl | exact Or.inr (Or.inl rfl) | exact Or.inr (Or.inr rfl))); (case g => rfl)))
local macro_rules | `(tactic| wtm_at "w is_open") => `(tactic| repeat (first | wtm_at "v is_open" | wtm_at "e" | wtm_at "ei" | wtm_at "c"))
local macro_rules | `(tactic| wtm_at "wb is_open") => `(tactic| repeat (first | wtm_at "vb is_open" | wtm_at "e" | wtm_at "cb"))
local macro_rules | `(tactic| wtm_at "g is_open") => `(tactic| repeat (first | wtm_at "v is_open" | wtm_at "e2" | wtm_at "e" | wtm_at "ei" | wtm_at "c"))
local macro_rules | `(tactic| wtm_at "gb is_open") => `(tactic| repeat (first | wtm_at "vb is_open" | wtm_at "e2" | wtm_at "e" | wtm_at "cb"))
local macro_rules | `(tactic| wtm_at "h is_open") => `(tactic| repeat (first | wtm_at "v is_open" | wtm_at "e2" | wtm_at "e" | wtm_at "c"))
local macro_rules | `(tactic| wtm_at "gx is_open") => `(tactic| repeat (first | wtm_at "v is_open" | wtm_at "e2" | wtm_at "e" | wtm_at "ei" | wtm_at "cx"))
local macro_rules | `(tactic| wtm_at "hx is_open") => `(tactic| repeat (first | wtm_at "v is_open" | wtm_at "e2" | wtm_at "e" | wtm_at "cx"))
local macro_rules | `(tactic| wtm_at "gy is_open") => `(tactic| repeat (first | wtm_at "vb is_open" | wtm_at "e2" | wtm_at "e" | wtm_at "cx"))
local macro_rules | `(tactic| wtm_at "hx1 is_open") => `(tactic| first | wtm_at "v is_open" | wtm_at "e2" | wtm_at "e" | wtm_at "cx")
local macro_rules | `(tactic| wtm_at "lc is_open 0") => `(tactic| refine' ex_lc (own := [("pair", 2)]) (t := .inl 2)  rfl sc_is_open.nd (blkOk_by (N := n_is_open) (sc := defScope s_is_open) (by decide +kernel)) (by decide) (fun _ _ _ _ _ => pg_name (i := 2) sc_is_open.nd rfl (by first | exact Or.inl rfl | exact Or.inr rfl)) (fun _ => rfl) ?_)
local macro_rules | `(tactic| wtm_at "lcM is_open 0") => `(tactic| refine' ex_lcM (own := [("pair", 2)]) (t := .inl 2)  rfl sc_is_open.nd (blkOk_by (N := n_is_open) (sc := defScope s_is_open) (by decide +kernel)) (by decide) (fun _ _ _ _ _ => pg_name (i := 2) sc_is_open.nd rfl (by first | exact Or.inl rfl | exact Or.inr rfl)) (fun _ => rfl) ?_)
local macro_rules | `(tactic| wtm_at "lcp is_open 0") => `(tactic| refine' ex_lcp (own := [("pair", 2)]) (t := .inl 2) ?f rfl sc_is_open.nd (blkOk_by (N := n_is_open) (sc := defScope s_is_open) (by decide +kernel)) (by decide) (fun _ _ _ _ _ => pg_name (i := 2) sc_is_open.nd rfl (by first | exact Or.inl rfl | exact Or.inr rfl)) (fun _ => rfl) ?_)
local macro_rules | `(tactic| wtm_at "lcpM is_open 0") => `(tactic| refine' ex_lcpM (own := [("pair", 2)]) (t := .inl 2) ?f rfl sc_is_open.nd (blkOk_by (N := n_is_open) (sc := defScope s_is_open) (by decide +kernel)) (by decide) (fun _ _ _ _ _ => pg_name (i := 2) sc_is_open.nd rfl (by first | exact Or.inl rfl | exact Or.inr rfl)) (fun _ => rfl) ?_)
abbrev X_is_open (P : Program) (w : World) (K : PySem.W.Frag) (mg : Str → Option Value) (base : Heap) (f : Addr) (cdv : Value) (A : Around) (outer : List Env) (s : Shared) (H : Hp) (E : XK) : Cx := (cxOf CX0 P w K mg base n_is_open "is_open" (defScope s_is_open) f cdv A outer s H E).nox
abbrev s_done_at : Stmt := top 20
abbrev n_done_at : List Str := ["book", "comes", "found", "number", "command", "when", "until", "wants", "some", "beat", "one"]
theorem sc_done_at : FnScope n_done_at ["book", "comes"] (defScope s_done_at) := ⟨rfl, rfl, rfl, by decide +kernel, rfl, by decide +kernel, by decide +kernel⟩
theorem a_done_at_0 : atB n_done_at (defScope s_done_at) 0 "book" = true := by decide +kernel
theorem a_done_at_1 : atB n_done_at (defScope s_done_at) 1 "comes" = true := by decide +kernel
theorem a_done_at_2 : atB n_done_at (defScope s_done_at) 2 "found" = true := by decide +kernel
theorem a_done_at_3 : atB n_done_at (defScope s_done_at) 3 "number" = true := by decide +kernel
theorem a_done_at_4 : atB n_done_at (defScope s_done_at) 4 "command" = true := by decide +kernel
theorem a_done_at_5 : atB n_done_at (defScope s_done_at) 5 "when" = true := by decide +kernel
theorem a_done_at_6 : atB n_done_at (defScope s_done_at) 6 "until" = true := by decide +kernel
theorem a_done_at_7 : atB n_done_at (defScope s_done_at) 7 "wants" = true := by decide +kernel
theorem a_done_at_8 : atB n_done_at (defScope s_done_at) 8 "some" = true := by decide +kernel
theorem a_done_at_9 : atB n_done_at (defScope s_done_at) 9 "beat" = true := by decide +kernel
local macro_rules | `(tactic| wtm_at "v done_at") => `(tactic| first
  | ((with_reducible refine' ex_var (i := 0) (x := "book") ?h ?g ?q); (case h => exact At.of rfl rfl a_done_at_0); (case g => rfl))
  | ((with_reducible refine' ex_var (i := 1) (x := "comes") ?h ?g ?q); (case h => exact At.of rfl rfl a_done_at_1); (case g => rfl))
  | ((with_reducible refine' ex_var (i := 2) (x := "found") ?h ?g ?q); (case h => exact At.of rfl rfl a_done_at_2); (case g => rfl))
  | ((with_reducible refine' ex_var (i := 3) (x := "number") ?h ?g ?q); (case h => exact At.of rfl rfl a_done_at_3); (case g => rfl))
  | ((with_reducible refine' ex_var (i := 4) (x := "command") ?h ?g ?q); (case h => exact At.of rfl rfl a_done_at_4); (case g => rfl))
  | ((with_reducible refine' ex_var (i := 5) (x := "when") ?h ?g ?q); (case h => exact At.of rfl rfl a_done_at_5); (case g => rfl))
  | ((with_reducible refine' ex_var (i := 6) (x := "until") ?h ?g ?q); (case h => exact At.of rfl rfl a_done_at_6); (case g => rfl))
  | ((with_reducible refine' ex_var (i := 7) (x := "wants") ?h ?g ?q); (case h => exact At.of rfl rfl a_done_at_7); (case g => rfl))
  | ((with_reducible refine' ex_var (i := 8) (x := "some") ?h ?g ?q); (case h => exact At.of rfl rfl a_done_at_8); (case g => rfl))
  | ((with_reducible refine' ex_var (i := 9) (x := "beat") ?h ?g ?q); (case h => exact At.of rfl rfl a_done_at_9); (case g => rfl))
  | ((with_reducible refine sx_set (i := 0) (x := "book") ?h ?s ?q); (case h => exact Lc.of sc_done_at.nd rfl rfl (.inl rfl) a_done_at_0); (case s => rfl))
  | ((with_reducible refine gx_name (i := 0) (x := "book") ?h ?q); (case h => exact Lc.of sc_done_at.nd rfl rfl (.inl rfl) a_done_at_0))
  | ((with_reducible refine sx_set (i := 1) (x := "comes") ?h ?s ?q); (case h => exact Lc.of sc_done_at.nd rfl rfl (.inl rfl) a_done_at_1); (case s => rfl))
  | ((with_reducible refine gx_name (i := 1) (x := "comes") ?h ?q); (case h => exact Lc.of sc_done_at.nd rfl rfl (.inl rfl) a_done_at_1))
  | ((with_reducible refine sx_set (i := 2) (x := "found") ?h ?s ?q); (case h => exact Lc.of sc_done_at.nd rfl rfl (.inl rfl) a_done_at_2); (case s => rfl))
  | ((with_reducible refine gx_name (i := 2) (x := "found") ?h ?q); (case h => exact Lc.of sc_done_at.nd rfl rfl (.inl rfl) a_done_at_2))
  | ((with_reducible refine sx_set (i := 3) (x := "number") ?h ?s ?q); (case h => exact Lc.of sc_done_at.nd rfl rfl (.inl rfl) a_done_at_3); (case s => rfl))
  | ((with_reducible refine gx_name (i := 3) (x := "number") ?h ?q); (case h => exact Lc.of sc_done_at.nd rfl rfl (.inl rfl) a_done_at_3))
  | ((with_reducible refine sx_set (i := 4) (x := "command") ?h ?s ?q); (case h => exact Lc.of sc_done_at.nd rfl rfl (.inl rfl) a_done_at_4); (case s => rfl))
  | ((with_reducible refine gx_name (i := 4) (x := "command") ?h ?q); (case h => exact Lc.of sc_done_at.nd rfl rfl (.inl rfl) a_done_at_4))
  | ((with_reducible refine sx_set (i := 5) (x := "when") ?h ?s ?q); (case h => exact Lc.of sc_done_at.nd rfl rfl (.inl rfl) a_done_at_5); (case s => rfl))
  | ((with_reducible refine gx_name (i := 5) (x := "when") ?h ?q); (case h => exact Lc.of sc_done_at.nd rfl rfl (.inl rfl) a_done_at_5))
  | ((with_reducible refine sx_set (i := 6) (x := "until") ?h ?s ?q); (case h => exact Lc.of sc_done_at.nd rfl rfl (.inl rfl) a_done_at_6); (case s => rfl))
  | ((with_reducible refine gx_name (i := 6) (x := "until") ?h ?q); (case h => exact Lc.of sc_done_at.nd rfl rfl (.inl rfl) a_done_at_6))
  | ((with_reducible refine sx_set (i := 7) (x := "wants") ?h ?s ?q); (case h => exact Lc.of sc_done_at.nd rfl rfl (.inl rfl) a_done_at_7); (case s => rfl))
  | ((with_reducible refine gx_name (i := 7) (x := "wants") ?h ?q); (case h => exact Lc.of sc_done_at.nd rfl rfl (.inl rfl) a_done_at_7))
  | ((with_reducible refine sx_set (i := 8) (x := "some") ?h ?s ?q); (case h => exact Lc.of sc_done_at.nd rfl rfl (.inl rfl) a_done_at_8); (case s => rfl))
  | ((with_reducible refine gx_name (i := 8) (x := "some") ?h ?q); (case h => exact Lc.of sc_done_at.nd rfl rfl (.inl rfl) a_done_at_8))
  | ((with_reducible refine sx_set (i := 9) (x := "beat") ?h ?s ?q); (case h => exact Lc.of sc_done_at.nd rfl rfl (.inl rfl) a_done_at_9); (case s => rfl))
  | ((with_reducible refine gx_name (i := 9) (x := "beat") ?h ?q); (case h => exact Lc.of sc_done_at.nd rfl rfl (.inl rfl) a_done_at_9)))
local macro_rules | `(tactic| wtm_at "vb done_at") => `(tactic| first
  | ((with_reducible refine' ex_var (i := 0) (x := "book") ?h ?g ?q); (case h => exact At.b rfl (by first | exact Or.inl rfl | exact Or.inr (Or.inl rfl) | exact Or.inr (Or.inr rfl))); (case g => rfl))
  | ((with_reducible refine' ex_var (i := 1) (x := "comes") ?h ?g ?q); (case h => exact At.b rfl (by first | exact Or.inl rfl | exact Or.inr (Or.inl rfl) | exact Or.inr (Or.inr rfl))); (case g => rfl))
  | ((with_reducible refine' ex_var (i := 2) (x := "found") ?h ?g ?q); (case h => exact At.b rfl (by first | exact Or.inl rfl | exact Or.inr (Or.inl rfl) | exact Or.inr (Or.inr rfl))); (case g => rfl))
  | ((with_reducible refine' ex_var (i := 3) (x := "number") ?h ?g ?q); (case h => exact At.b rfl (by first | exact Or.inl rfl | exact Or.inr (Or.inl rfl) | exact Or.inr (Or.inr rfl))); (case g => rfl))
  | ((with_reducible refine' ex_var (i := 4) (x := "command") ?h ?g ?q); (case h => exact At.b rfl (by first | exact Or.inl rfl | exact Or.inr (Or.inl rfl) | exact Or.inr (Or.inr rfl))); (case g => rfl))
  | ((with_reducible refine' ex_var (i := 5) (x := "when") ?h ?g ?q); (case h => exact At.b rfl (by first | exact Or.inl rfl | exact Or.inr (Or.inl rfl) | exact Or.inr (Or.inr rfl))); (case g => rfl))
  | ((with_reducible refine' ex_var (i := 6) (x := "until") ?h ?g ?q); (case h => exact At.b rfl (by first | exact Or.inl rfl | exact Or.inr (Or.inl rfl) | exact Or.inr (Or.inr rfl))); (case g => rfl))
  | ((with_reducible refine' ex_var (i := 7) (x := "wants") ?h ?g ?q); (case h => exact At.b rfl (by first | exact Or.inl rfl | exact Or.inr (Or.inl rfl) | exact Or.inr (Or.inr rfl))); (case g => rfl))
  | ((with_reducible refine' ex_var (i := 8) (x := "some") ?h ?g ?q); (case h => exact At.b rfl (by first | exact Or.inl rfl | exact Or.inr (Or.inl rfl) | exact Or.inr (Or.inr rfl))); (case g => rfl))
  | ((with_reducible refine' ex_var (i := 9) (x := "beat") ?h ?g ?q); (case h => exact At.b rfl (by first | exact Or.inl rfl | exact Or.inr (Or.inl rfl) | exact Or.inr (Or.inr rfl))); (case g => rfl))
  | ((with_reducible refine' ex_var (i := 10) (x := "one") ?h ?g ?q); (case h => exact At.b rfl (by first | exact Or.inl rfl | exact Or.inr (Or.inl rfl) | exact Or.inr (Or.inr rfl))); (case g => rfl)))
local macro_rules | `(tactic| wtm_at "w done_at") => `(tactic| repeat (first | wtm_at "v done_at" | wtm_at "e" | wtm_at "ei" | wtm_at "c"))
local macro_rules | `(tactic| wtm_at "wb done_at") => `(tactic| repeat (first | wtm_at "vb done_at" | wtm_at "e" | wtm_at "cb"))
local macro_rules | `(tactic| wtm_at "g done_at") => `(tactic| repeat (first | wtm_at "v done_at" | wtm_at "e2" | wtm_at "e" | wtm_at "ei" | wtm_at "c"))
local macro_rules | `(tactic| wtm_at "gb done_at") => `(tactic| repeat (first | wtm_at "vb done_at" | wtm_at "e2" | wtm_at "e" | wtm_at "cb"))
local macro_rules | `(tactic| wtm_at "h done_at") => `(tactic| repeat (first | wtm_at "v done_at" | wtm_at "e2" | wtm_at "e" | wtm_at "c"))
local macro_rules | `(tactic| wtm_at "gx done_at") => `(tactic| repeat (first | wtm_at "v done_at" | wtm_at "e2" | wtm_at "e" | wtm_at "ei" | wtm_at "cx"))
local macro_rules | `(tactic| wtm_at "hx done_at") => `(tactic| repeat (first | wtm_at "v done_at" | wtm_at "e2" | wtm_at "e" | wtm_at "cx"))
local macro_rules | `(tactic| wtm_at "gy done_at") => `(tactic| repeat (first | wtm_at "vb done_at" | wtm_at "e2" | wtm_at "e" | wtm_at "cx"))
local macro_rules | `(tactic| wtm_at "hx1 done_at") => `(tactic| first | wtm_at "v done_at" | wtm_at "e2" | wtm_at "e" | wtm_at "cx")
local macro_rules | `(tactic| wtm_at "lc done_at 0") => `(tactic| refine' ex_lc (own := [("one", 10)]) (t := .inl 10)  rfl sc_done_at.nd (blkOk_by (N := n_done_at) (sc := defScope s_done_at) (by decide +kernel)) (by decide) (fun _ _ _ _ _ => pg_name (i := 10) sc_done_at.nd rfl (by first | exact Or.inl rfl | exact Or.inr rfl)) (fun _ => rfl) ?_)
local macro_rules | `(tactic| wtm_at "lcM done_at 0") => `(tactic| refine' ex_lcM (own := [("one", 10)]) (t := .inl 10)  rfl sc_done_at.nd (blkOk_by (N := n_done_at) (sc := defScope s_done_at) (by decide +kernel)) (by decide) (fun _ _ _ _ _ => pg_name (i := 10) sc_done_at.nd rfl (by first | exact Or.inl rfl | exact Or.inr rfl)) (fun _ => rfl) ?_)
local macro_rules | `(tactic| wtm_at "lcp done_at 0") => `(tactic| refine' ex_lcp (own := [("one", 10)]) (t := .inl 10) ?f rfl sc_done_at.nd (blkOk_by (N := n_done_at) (sc := defScope s_done_at) (by decide +kernel)) (by decide) (fun _ _ _ _ _ => pg_name (i := 10) sc_done_at.nd rfl (by first | exact Or.inl rfl | exact Or.inr rfl)) (fun _ => rfl) ?_)
local macro_rules | `(tactic| wtm_at "lcpM done_at 0") => `(tactic| refine' ex_lcpM (own := [("one", 10)]) (t := .inl 10) ?f rfl sc_done_at.nd (blkOk_by (N := n_done_at) (sc := defScope s_done_at) (by decide +kernel)) (by decide) (fun _ _ _ _ _ => pg_name (i := 10) sc_done_at.nd rfl (by first | exact Or.inl rfl | exact Or.inr rfl)) (fun _ => rfl) ?_)
abbrev X_done_at (P : Program) (w : World) (K : PySem.W.Frag) (mg : Str → Option Value) (base : Heap) (f : Addr) (cdv : Value) (A : Around) (outer : List Env) (s : Shared) (H : Hp) (E : XK) : Cx := (cxOf CX0 P w K mg base n_done_at "done_at" (defScope s_done_at) f cdv A outer s H E).nox
abbrev s_orders : Stmt := top 21
abbrev n_orders : List Str := ["many", "found", "turn", "longer", "order", "number"]
theorem sc_orders : FnScope n_orders ["many"] (defScope s_orders) := ⟨rfl, rfl, rfl, by decide +kernel, rfl, by decide +kernel, by decide +kernel⟩
theorem a_orders_0 : atB n_orders (defScope s_orders) 0 "many" = true := by decide +kernel
theorem a_orders_1 : atB n_orders (defScope s_orders) 1 "found" = true := by decide +kernel
theorem a_orders_2 : atB n_orders (defScope s_orders) 2 "turn" = true := by decide +kernel
theorem a_orders_3 : atB n_orders (defScope s_orders) 3 "longer" = true := by decide +kernel
theorem a_orders_4 : atB n_orders (defScope s_orders) 4 "order" = true := by decide +kernel
local macro_rules | `(tactic| wtm_at "v orders") => `(tactic| first
  | ((with_reducible refine' ex_var (i := 0) (x := "many") ?h ?g ?q); (case h => exact At.of rfl rfl a_orders_0); (case g => rfl))
  | ((with_reducible refine' ex_var (i := 1) (x := "found") ?h ?g ?q); (case h => exact At.of rfl rfl a_orders_1); (case g => rfl))
  | ((with_reducible refine' ex_var (i := 2) (x := "turn") ?h ?g ?q); (case h => exact At.of rfl rfl a_orders_2); (case g => rfl))
  | ((with_reducible refine' ex_var (i := 3) (x := "longer") ?h ?g ?q); (case h => exact At.of rfl rfl a_orders_3); (case g => rfl))
  | ((with_reducible refine' ex_var (i := 4) (x := "order") ?h ?g ?q); (case h => exact At.of rfl rfl a_orders_4); (case g => rfl))
  | ((with_reducible refine sx_set (i := 0) (x := "many") ?h ?s ?q); (case h => exact Lc.of sc_orders.nd rfl rfl (.inl rfl) a_orders_0); (case s => rfl))
  | ((with_reducible refine gx_name (i := 0) (x := "many") ?h ?q); (case h => exact Lc.of sc_orders.nd rfl rfl (.inl rfl) a_orders_0))
  | ((with_reducible refine sx_set (i := 1) (x := "found") ?h ?s ?q); (case h => exact Lc.of sc_orders.nd rfl rfl (.inl rfl) a_orders_1); (case s => rfl))
  | ((with_reducible refine gx_name (i := 1) (x := "found") ?h ?q); (case h => exact Lc.of sc_orders.nd rfl rfl (.inl rfl) a_orders_1))
  | ((with_reducible refine sx_set (i := 2) (x := "turn") ?h ?s ?q); (case h => exact Lc.of sc_orders.nd rfl rfl (.inl rfl) a_orders_2); (case s => rfl))
  | ((with_reducible refine gx_name (i := 2) (x := "turn") ?h ?q); (case h => exact Lc.of sc_orders.nd rfl rfl (.inl rfl) a_orders_2))
  | ((with_reducible refine sx_set (i := 3) (x := "longer") ?h ?s ?q); (case h => exact Lc.of sc_orders.nd rfl rfl (.inl rfl) a_orders_3); (case s => rfl))
  | ((with_reducible refine gx_name (i := 3) (x := "longer") ?h ?q); (case h => exact Lc.of sc_orders.nd rfl rfl (.inl rfl) a_orders_3))
  | ((with_reducible refine sx_set (i := 4) (x := "order") ?h ?s ?q); (case h => exact Lc.of sc_orders.nd rfl rfl (.inl rfl) a_orders_4); (case s => rfl))
  | ((with_reducible refine gx_name (i := 4) (x := "order") ?h ?q); (case h => exact Lc.of sc_orders.nd rfl rfl (.inl rfl) a_orders_4)))
local macro_rules | `(tactic| wtm_at "vb orders") => `(tactic| first
  | ((with_reducible refine' ex_var (i := 0) (x := "many") ?h ?g ?q); (case h => exact At.b rfl (by first | exact Or.inl rfl | exact Or.inr (Or.inl rfl) | exact Or.inr (Or.inr rfl))); (case g => rfl))
  | ((with_reducible refine' ex_var (i := 1) (x := "found") ?h ?g ?q); (case h => exact At.b rfl (by first | exact Or.inl rfl | exact Or.inr (Or.inl rfl) | exact Or.inr (Or.inr rfl))); (case g => rfl))
  | ((with_reducible refine' ex_var (i := 2) (x := "turn") ?h ?g ?q); (case h => exact At.b rfl (by first | exact Or.inl rfl | exact Or.inr (Or.inl rfl) | exact Or.inr (Or.inr rfl))); (case g => rfl))
  | ((with_reducible refine' ex_var (i := 3) (x := "longer") ?h ?g ?q); (case h => exact At.b rfl (by first | exact Or.inl rfl | exact Or.inr (Or.inl rfl) | exact Or.inr (Or.inr rfl))); (case g => rfl))
  | ((with_reducible refine' ex_var (i := 4) (x := "order") ?h ?g ?q); (case h => exact At.b rfl (by first | exact Or.inl rfl | exact Or.inr (Or.inl rfl) | exact Or.inr (Or.inr rfl))); (case g => rfl))
  | ((with_reducible refine' ex_var (i := 5) (x := "number") ?h ?g ?q); (case h => exact At.b rfl (by first | exact Or.inl rfl | exact Or.inr (Or.inl rfl) | exact Or.inr (Or.inr rfl))); (case g => rfl)))
local macro_rules | `(tactic| wtm_at "w orders") => `(tactic| repeat (first | wtm_at "v orders" | wtm_at "e" | wtm_at "ei" | wtm_at "c"))
local macro_rules | `(tactic| wtm_at "wb orders") => `(tactic| repeat (first | wtm_at "vb orders" | wtm_at "e" | wtm_at "cb"))
local macro_rules | `(tactic| wtm_at "g orders") => `(tactic| repeat (first | wtm_at "v orders" | wtm_at "e2" | wtm_at "e" | wtm_at "ei" | wtm_at "c"))
local macro_rules | `(tactic| wtm_at "gb orders") => `(tactic| repeat (first | wtm_at "vb orders" | wtm_at "e2" | wtm_at "e" | wtm_at "cb"))
local macro_rules | `(tactic| wtm_at "h orders") => `(tactic| repeat (first | wtm_at "v orders" | wtm_at "e2" | wtm_at "e" | wtm_at "c"))
local macro_rules | `(tactic| wtm_at "gx orders") => `(tactic| repeat (first | wtm_at "v orders" | wtm_at "e2" | wtm_at "e" | wtm_at "ei" | wtm_at "cx"))
local macro_rules | `(tactic| wtm_at "hx orders") => `(tactic| repeat (first | wtm_at "v orders" | wtm_at "e2" | wtm_at "e" | wtm_at "cx"))
local macro_rules | `(tactic| wtm_at "gy orders") => `(tactic| repeat (first | wtm_at "vb orders" | wtm_at "e2" | wtm_at "e" | wtm_at "cx"))
local macro_rules | `(tactic| wtm_at "hx1 orders") => `(tactic| first | wtm_at "v orders" | wtm_at "e2" | wtm_at "e" | wtm_at "cx")
local macro_rules | `(tactic| wtm_at "lc orders 0") => `(tactic| refine' ex_lc (own := [("number", 5)]) (t := .inl 5)  rfl sc_orders.nd (blkOk_by (N := n_orders) (sc := defScope s_orders) (by decide +kernel)) (by decide) (fun _ _ _ _ _ => pg_name (i := 5) sc_orders.nd rfl (by first | exact Or.inl rfl | exact Or.inr rfl)) (fun _ => rfl) ?_)
local macro_rules | `(tactic| wtm_at "lcM orders 0") => `(tactic| refine' ex_lcM (own := [("number", 5)]) (t := .inl 5)  rfl sc_orders.nd (blkOk_by (N := n_orders) (sc := defScope s_orders) (by decide +kernel)) (by decide) (fun _ _ _ _ _ => pg_name (i := 5) sc_orders.nd rfl (by first | exact Or.inl rfl | exact Or.inr rfl)) (fun _ => rfl) ?_)
local macro_rules | `(tactic| wtm_at "lcp orders 0") => `(tactic| refine' ex_lcp (own := [("number", 5)]) (t := .inl 5) ?f rfl sc_orders.nd (blkOk_by (N := n_orders) (sc := defScope s_orders) (by decide +kernel)) (by decide) (fun _ _ _ _ _ => pg_name (i := 5) sc_orders.nd rfl (by first | exact Or.inl rfl | exact Or.inr rfl)) (fun _ => rfl) ?_)
local macro_rules | `(tactic| wtm_at "lcpM orders 0") => `(tactic| refine' ex_lcpM (own := [("number", 5)]) (t := .inl 5) ?f rfl sc_orders.nd (blkOk_by (N := n_orders) (sc := defScope s_orders) (by decide +kernel)) (by decide) (fun _ _ _ _ _ => pg_name (i := 5) sc_orders.nd rfl (by first | exact Or.inl rfl | exact Or.inr rfl)) (fun _ => rfl) ?_)
abbrev X_orders (P : Program) (w : World) (K : PySem.W.Frag) (mg : Str → Option Value) (base : Heap) (f : Addr) (cdv : Value) (A : Around) (outer : List Env) (s : Shared) (H : Hp) (E : XK) : Cx := (cxOf CX0 P w K mg base n_orders "orders" (defScope s_orders) f cdv A outer s H E).nox
abbrev s_open_beats : Stmt := top 22
abbrev n_open_beats : List Str := ["windows", "many", "beat"]
theorem sc_open_beats : FnScope n_open_beats ["windows", "many"] (defScope s_open_beats) := ⟨rfl, rfl, rfl, by decide +kernel, rfl, by decide +kernel, by decide +kernel⟩
theorem a_open_beats_0 : atB n_open_beats (defScope s_open_beats) 0 "windows" = true := by decide +kernel
theorem a_open_beats_1 : atB n_open_beats (defScope s_open_beats) 1 "many" = true := by decide +kernel
local macro_rules | `(tactic| wtm_at "v open_beats") => `(tactic| first
  | ((with_reducible refine' ex_var (i := 0) (x := "windows") ?h ?g ?q); (case h => exact At.of rfl rfl a_open_beats_0); (case g => rfl))
  | ((with_reducible refine' ex_var (i := 1) (x := "many") ?h ?g ?q); (case h => exact At.of rfl rfl a_open_beats_1); (case g => rfl))
  | ((with_reducible refine sx_set (i := 0) (x := "windows") ?h ?s ?q); (case h => exact Lc.of sc_open_beats.nd rfl rfl (.inl rfl) a_open_beats_0); (case s => rfl))
  | ((with_reducible refine gx_name (i := 0) (x := "windows") ?h ?q); (case h => exact Lc.of sc_open_beats.nd rfl rfl (.inl rfl) a_open_beats_0))
  | ((with_reducible refine sx_set (i := 1) (x := "many") ?h ?s ?q); (case h => exact Lc.of sc_open_beats.nd rfl rfl (.inl rfl) a_open_beats_1); (case s => rfl))
  | ((with_reducible refine gx_name (i := 1) (x := "many") ?h ?q); (case h => exact Lc.of sc_open_beats.nd rfl rfl (.inl rfl) a_open_beats_1)))
local macro_rules | `(tactic| wtm_at "vb open_beats") => `(tactic| first
  | ((with_reducible refine' ex_var (i := 0) (x := "windows") ?h ?g ?q); (case h => exact At.b rfl (by first | exact Or.inl rfl | exact Or.inr (Or.inl rfl) | exact Or.inr (Or.inr rfl))); (case g => rfl))
  | ((with_reducible refine' ex_var (i := 1) (x := "many") ?h ?g ?q); (case h => exact At.b rfl (by first | exact Or.inl rfl | exact Or.inr (Or.inl rfl) | exact Or.inr (Or.inr rfl))); (case g => rfl))
  | ((with_reducible refine' ex_var (i := 2) (x := "beat") ?h ?g ?q); (case h => exact At.b rfl (by first | exact Or.inl rfl | exact Or.inr (Or.inl rfl) | exact Or.inr (Or.inr rfl))); (case g => rfl)))
local macro_rules | `(tactic| wtm_at "w open_beats") => `(tactic| repeat (first | wtm_at "v open_beats" | wtm_at "e" | wtm_at "ei" | wtm_at "c"))
local macro_rules | `(tactic| wtm_at "wb open_beats") => `(tactic| repeat (first | wtm_at "vb open_beats" | wtm_at "e" | wtm_at "cb"))
local macro_rules | `(tactic| wtm_at "g open_beats") => `(tactic| repeat (first | wtm_at "v open_beats" | wtm_at "e2" | wtm_at "e" | wtm_at "ei" | wtm_at "c"))
local macro_rules | `(tactic| wtm_at "gb open_beats") => `(tactic| repeat (first | wtm_at "vb open_beats" | wtm_at "e2" | wtm_at "e" | wtm_at "cb"))
local macro_rules | `(tactic| wtm_at "h open_beats") => `(tactic| repeat (first | wtm_at "v open_beats" | wtm_at "e2" | wtm_at "e" | wtm_at "c"))
local macro_rules | `(tactic| wtm_at "gx open_beats") => `(tactic| repeat (first | wtm_at "v open_beats" | wtm_at "e2" | wtm_at "e" | wtm_at "ei" | wtm_at "cx"))
local macro_rules | `(tactic| wtm_at "hx open_beats") => `(tactic| repeat (first | wtm_at "v open_beats" | wtm_at "e2" | wtm_at "e" | wtm_at "cx"))
local macro_rules | `(tactic| wtm_at "gy open_beats") => `(tactic| repeat (first | wtm_at "vb open_beats" | wtm_at "e2" | wtm_at "e" | wtm_at "cx"))
local macro_rules | `(tactic| wtm_at "hx1 open_beats") => `(tactic| first | wtm_at "v open_beats" | wtm_at "e2" | wtm_at "e" | wtm_at "cx")
local macro_rules | `(tactic| wtm_at "lc open_beats 0") => `(tactic| refine' ex_lc (own := [("beat", 2)]) (t := .inl 2)  rfl sc_open_beats.nd (blkOk_by (N := n_open_beats) (sc := defScope s_open_beats) (by decide +kernel)) (by decide) (fun _ _ _ _ _ => pg_name (i := 2) sc_open_beats.nd rfl (by first | exact Or.inl rfl | exact Or.inr rfl)) (fun _ => rfl) ?_)
local macro_rules | `(tactic| wtm_at "lcM open_beats 0") => `(tactic| refine' ex_lcM (own := [("beat", 2)]) (t := .inl 2)  rfl sc_open_beats.nd (blkOk_by (N := n_open_beats) (sc := defScope s_open_beats) (by decide +kernel)) (by decide) (fun _ _ _ _ _ => pg_name (i := 2) sc_open_beats.nd rfl (by first | exact Or.inl rfl | exact Or.inr rfl)) (fun _ => rfl) ?_)
local macro_rules | `(tactic| wtm_at "lcp open_beats 0") => `(tactic| refine' ex_lcp (own := [("beat", 2)]) (t := .inl 2) ?f rfl sc_open_beats.nd (blkOk_by (N := n_open_beats) (sc := defScope s_open_beats) (by decide +kernel)) (by decide) (fun _ _ _ _ _ => pg_name (i := 2) sc_open_beats.nd rfl (by first | exact Or.inl rfl | exact Or.inr rfl)) (fun _ => rfl) ?_)
local macro_rules | `(tactic| wtm_at "lcpM open_beats 0") => `(tactic| refine' ex_lcpM (own := [("beat", 2)]) (t := .inl 2) ?f rfl sc_open_beats.nd (blkOk_by (N := n_open_beats) (sc := defScope s_open_beats) (by decide +kernel)) (by decide) (fun _ _ _ _ _ => pg_name (i := 2) sc_open_beats.nd rfl (by first | exact Or.inl rfl | exact Or.inr rfl)) (fun _ => rfl) ?_)
abbrev X_open_beats (P : Program) (w : World) (K : PySem.W.Frag) (mg : Str → Option Value) (base : Heap) (f : Addr) (cdv : Value) (A : Around) (outer : List Env) (s : Shared) (H : Hp) (E : XK) : Cx := (cxOf CX0 P w K mg base n_open_beats "open_beats" (defScope s_open_beats) f cdv A outer s H E).nox
abbrev s_best_order : Stmt := top 23
abbrev n_best_order : List Str := ["book", "delay", "beats", "best", "order", "comes", "done", "number"]
theorem sc_best_order : FnScope n_best_order ["book", "delay", "beats"] (defScope s_best_order) := ⟨rfl, rfl, rfl, by decide +kernel, rfl, by decide +kernel, by decide +kernel⟩
theorem a_best_order_0 : atB n_best_order (defScope s_best_order) 0 "book" = true := by decide +kernel
theorem a_best_order_1 : atB n_best_order (defScope s_best_order) 1 "delay" = true := by decide +kernel
theorem a_best_order_2 : atB n_best_order (defScope s_best_order) 2 "beats" = true := by decide +kernel
theorem a_best_order_3 : atB n_best_order (defScope s_best_order) 3 "best" = true := by decide +kernel
theorem a_best_order_4 : atB n_best_order (defScope s_best_order) 4 "order" = true := by decide +kernel
theorem a_best_order_5 : atB n_best_order (defScope s_best_order) 5 "comes" = true := by decide +kernel
theorem a_best_order_6 : atB n_best_order (defScope s_best_order) 6 "done" = true := by decide +kernel
local macro_rules | `(tactic| wtm_at "v best_order") => `(tactic| first
  | ((with_reducible refine' ex_var (i := 0) (x := "book") ?h ?g ?q); (case h => exact At.of rfl rfl a_best_order_0); (case g => rfl))
  | ((with_reducible refine' ex_var (i := 1) (x := "delay") ?h ?g ?q); (case h => exact At.of rfl rfl a_best_order_1); (case g => rfl))
  | ((with_reducible refine' ex_var (i := 2) (x := "beats") ?h ?g ?q); (case h => exact At.of rfl rfl a_best_order_2); (case g => rfl))
  | ((with_reducible refine' ex_var (i := 3) (x := "best") ?h ?g ?q); (case h => exact At.of rfl rfl a_best_order_3); (case g => rfl))
  | ((with_reducible refine' ex_var (i := 4) (x := "order") ?h ?g ?q); (case h => exact At.of rfl rfl a_best_order_4); (case g => rfl))
  | ((with_reducible refine' ex_var (i := 5) (x := "comes") ?h ?g ?q); (case h => exact At.of rfl rfl a_best_order_5); (case g => rfl))
  | ((with_reducible refine' ex_var (i := 6) (x := "done") ?h ?g ?q); (case h => exact At.of rfl rfl a_best_order_6); (case g => rfl))
  | ((with_reducible refine sx_set (i := 0) (x := "book") ?h ?s ?q); (case h => exact Lc.of sc_best_order.nd rfl rfl (.inl rfl) a_best_order_0); (case s => rfl))
  | ((with_reducible refine gx_name (i := 0) (x := "book") ?h ?q); (case h => exact Lc.of sc_best_order.nd rfl rfl (.inl rfl) a_best_order_0))
  | ((with_reducible refine sx_set (i := 1) (x := "delay") ?h ?s ?q); (case h => exact Lc.of sc_best_order.nd rfl rfl (.inl rfl) a_best_order_1); (case s => rfl))
  | ((with_reducible refine gx_name (i := 1) (x := "delay") ?h ?q); (case h => exact Lc.of sc_best_order.nd rfl rfl (.inl rfl) a_best_order_1))
  | ((with_reducible refine sx_set (i := 2) (x := "beats") ?h ?s ?q); (case h => exact Lc.of sc_best_order.nd rfl rfl (.inl rfl) a_best_order_2); (case s => rfl))
  | ((with_reducible refine gx_name (i := 2) (x := "beats") ?h ?q); (case h => exact Lc.of sc_best_order.nd rfl rfl (.inl rfl) a_best_order_2))
  | ((with_reducible refine sx_set (i := 3) (x := "best") ?h ?s ?q); (case h => exact Lc.of sc_best_order.nd rfl rfl (.inl rfl) a_best_order_3); (case s => rfl))
  | ((with_reducible refine gx_name (i := 3) (x := "best") ?h ?q); (case h => exact Lc.of sc_best_order.nd rfl rfl (.inl rfl) a_best_order_3))
  | ((with_reducible refine sx_set (i := 4) (x := "order") ?h ?s ?q); (case h => exact Lc.of sc_best_order.nd rfl rfl (.inl rfl) a_best_order_4); (case s => rfl))
  | ((with_reducible refine gx_name (i := 4) (x := "order") ?h ?q); (case h => exact Lc.of sc_best_order.nd rfl rfl (.inl rfl) a_best_order_4))
  | ((with_reducible refine sx_set (i := 5) (x := "comes") ?h ?s ?q); (case h => exact Lc.of sc_best_order.nd rfl rfl (.inl rfl) a_best_order_5); (case s => rfl))
  | ((with_reducible refine gx_name (i := 5) (x := "comes") ?h ?q); (case h => exact Lc.of sc_best_order.nd rfl rfl (.inl rfl) a_best_order_5))
  | ((with_reducible refine sx_set (i := 6) (x := "done") ?h ?s ?q); (case h => exact Lc.of sc_best_order.nd rfl rfl (.inl rfl) a_best_order_6); (case s => rfl))
  | ((with_reducible refine gx_name (i := 6) (x := "done") ?h ?q); (case h => exact Lc.of sc_best_order.nd rfl rfl (.inl rfl) a_best_order_6)))
local macro_rules | `(tactic| wtm_at "vb best_order") => `(tactic| first
  | ((with_reducible refine' ex_var (i := 0) (x := "book") ?h ?g ?q); (case h => exact At.b rfl (by first | exact Or.inl rfl | exact Or.inr (Or.inl rfl) | exact Or.inr (Or.inr rfl))); (case g => rfl))
  | ((with_reducible refine' ex_var (i := 1) (x := "delay") ?h ?g ?q); (case h => exact At.b rfl (by first | exact Or.inl rfl | exact Or.inr (Or.inl rfl) | exact Or.inr (Or.inr rfl))); (case g => rfl))
  | ((with_reducible refine' ex_var (i := 2) (x := "beats") ?h ?g ?q); (case h => exact At.b rfl (by first | exact Or.inl rfl | exact Or.inr (Or.inl rfl) | exact Or.inr (Or.inr rfl))); (case g => rfl))
  | ((with_reducible refine' ex_var (i := 3) (x := "best") ?h ?g ?q); (case h => exact At.b rfl (by first | exact Or.inl rfl | exact Or.inr (Or.inl rfl) | exact Or.inr (Or.inr rfl))); (case g => rfl))
  | ((with_reducible refine' ex_var (i := 4) (x := "order") ?h ?g ?q); (case h => exact At.b rfl (by first | exact Or.inl rfl | exact Or.inr (Or.inl rfl) | exact Or.inr (Or.inr rfl))); (case g => rfl))
  | ((with_reducible refine' ex_var (i := 5) (x := "comes") ?h ?g ?q); (case h => exact At.b rfl (by first | exact Or.inl rfl | exact Or.inr (Or.inl rfl) | exact Or.inr (Or.inr rfl))); (case g => rfl))
  | ((with_reducible refine' ex_var (i := 6) (x := "done") ?h ?g ?q); (case h => exact At.b rfl (by first | exact Or.inl rfl | exact Or.inr (Or.inl rfl) | exact Or.inr (Or.inr rfl))); (case g => rfl))
  | ((with_reducible refine' ex_var (i := 7) (x := "number") ?h ?g ?q); (case h => exact At.b rfl (by first | exact Or.inl rfl | exact Or.inr (Or.inl rfl) | exact Or.inr (Or.inr rfl))); (case g => rfl)))
local macro_rules | `(tactic| wtm_at "w best_order") => `(tactic| repeat (first | wtm_at "v best_order" | wtm_at "e" | wtm_at "ei" | wtm_at "c"))
local macro_rules | `(tactic| wtm_at "wb best_order") => `(tactic| repeat (first | wtm_at "vb best_order" | wtm_at "e" | wtm_at "cb"))
local macro_rules | `(tactic| wtm_at "g best_order") => `(tactic| repeat (first | wtm_at "v best_order" | wtm_at "e2" | wtm_at "e" | wtm_at "ei" | wtm_at "c"))
local macro_rules | `(tactic| wtm_at "gb best_order") => `(tactic| repeat (first | wtm_at "vb best_order" | wtm_at "e2" | wtm_at "e" | wtm_at "cb"))
local macro_rules | `(tactic| wtm_at "h best_order") => `(tactic| repeat (first | wtm_at "v best_order" | wtm_at "e2" | wtm_at "e" | wtm_at "c"))
local macro_rules | `(tactic| wtm_at "gx best_order") => `(tactic| repeat (first | wtm_at "v best_order" | wtm_at "e2" | wtm_at "e" | wtm_at "ei" | wtm_at "cx"))
local macro_rules | `(tactic| wtm_at "hx best_order") => `(tactic| repeat (first | wtm_at "v best_order" | wtm_at "e2" | wtm_at "e" | wtm_at "cx"))
local macro_rules | `(tactic| wtm_at "gy best_order") => `(tactic| repeat (first | wtm_at "vb best_order" | wtm_at "e2" | wtm_at "e" | wtm_at "cx"))
local macro_rules | `(tactic| wtm_at "hx1 best_order") => `(tactic| first | wtm_at "v best_order" | wtm_at "e2" | wtm_at "e" | wtm_at "cx")
local macro_rules | `(tactic| wtm_at "lc best_order 0") => `(tactic| refine' ex_lc (own := [("number", 7)]) (t := .inl 7)  rfl sc_best_order.nd (blkOk_by (N := n_best_order) (sc := defScope s_best_order) (by decide +kernel)) (by decide) (fun _ _ _ _ _ => pg_name (i := 7) sc_best_order.nd rfl (by first | exact Or.inl rfl | exact Or.inr rfl)) (fun _ => rfl) ?_)
local macro_rules | `(tactic| wtm_at "lcM best_order 0") => `(tactic| refine' ex_lcM (own := [("number", 7)]) (t := .inl 7)  rfl sc_best_order.nd (blkOk_by (N := n_best_order) (sc := defScope s_best_order) (by decide +kernel)) (by decide) (fun _ _ _ _ _ => pg_name (i := 7) sc_best_order.nd rfl (by first | exact Or.inl rfl | exact Or.inr rfl)) (fun _ => rfl) ?_)
local macro_rules | `(tactic| wtm_at "lcp best_order 0") => `(tactic| refine' ex_lcp (own := [("number", 7)]) (t := .inl 7) ?f rfl sc_best_order.nd (blkOk_by (N := n_best_order) (sc := defScope s_best_order) (by decide +kernel)) (by decide) (fun _ _ _ _ _ => pg_name (i := 7) sc_best_order.nd rfl (by first | exact Or.inl rfl | exact Or.inr rfl)) (fun _ => rfl) ?_)
local macro_rules | `(tactic| wtm_at "lcpM best_order 0") => `(tactic| refine' ex_lcpM (own := [("number", 7)]) (t := .inl 7) ?f rfl sc_best_order.nd (blkOk_by (N := n_best_order) (sc := defScope s_best_order) (by decide +kernel)) (by decide) (fun _ _ _ _ _ => pg_name (i := 7) sc_best_order.nd rfl (by first | exact Or.inl rfl | exact Or.inr rfl)) (fun _ => rfl) ?_)
local macro_rules | `(tactic| wtm_at "slc best_order 0") => `(tactic| refine' sx_setLc (i := 5) (own := [("number", 7)]) (t := .inl 7)  rfl sc_best_order.nd rfl rfl (sw_true rfl rfl rfl (by decide +kernel)) (blkOk_by (N := n_best_order) (sc := defScope s_best_order) (by decide +kernel)) (by decide) (fun _ _ _ _ _ => pg_name (i := 7) sc_best_order.nd rfl (by first | exact Or.inl rfl | exact Or.inr rfl)) (fun _ => rfl) ?_)
local macro_rules | `(tactic| wtm_at "slcM best_order 0") => `(tactic| refine' sx_setLcM (i := 5) (own := [("number", 7)]) (t := .inl 7)  rfl sc_best_order.nd rfl rfl (sw_true rfl rfl rfl (by decide +kernel)) (blkOk_by (N := n_best_order) (sc := defScope s_best_order) (by decide +kernel)) (by decide) (fun _ _ _ _ _ => pg_name (i := 7) sc_best_order.nd rfl (by first | exact Or.inl rfl | exact Or.inr rfl)) (fun _ => rfl) ?_)
local macro_rules | `(tactic| wtm_at "slcp best_order 0") => `(tactic| refine' sx_setLcp (i := 5) (own := [("number", 7)]) (t := .inl 7) ?f rfl sc_best_order.nd rfl rfl (sw_true rfl rfl rfl (by decide +kernel)) (blkOk_by (N := n_best_order) (sc := defScope s_best_order) (by decide +kernel)) (by decide) (fun _ _ _ _ _ => pg_name (i := 7) sc_best_order.nd rfl (by first | exact Or.inl rfl | exact Or.inr rfl)) (fun _ => rfl) ?_)
abbrev X_best_order (P : Program) (w : World) (K : PySem.W.Frag) (mg : Str → Option Value) (base : Heap) (f : Addr) (cdv : Value) (A : Around) (outer : List Env) (s : Shared) (H : Hp) (E : XK) : Cx := (cxOf CX0 P w K mg base n_best_order "best_order" (defScope s_best_order) f cdv A outer s H E).nox
abbrev s_soonest : Stmt := top 24
abbrev n_soonest : List Str := ["book", "delay", "windows"]
theorem sc_soonest : FnScope n_soonest ["book", "delay", "windows"] (defScope s_soonest) := ⟨rfl, rfl, rfl, by decide +kernel, rfl, by decide +kernel, by decide +kernel⟩
theorem a_soonest_0 : atB n_soonest (defScope s_soonest) 0 "book" = true := by decide +kernel
theorem a_soonest_1 : atB n_soonest (defScope s_soonest) 1 "delay" = true := by decide +kernel
theorem a_soonest_2 : atB n_soonest (defScope s_soonest) 2 "windows" = true := by decide +kernel
local macro_rules | `(tactic| wtm_at "v soonest") => `(tactic| first
  | ((with_reducible refine' ex_var (i := 0) (x := "book") ?h ?g ?q); (case h => exact At.of rfl rfl a_soonest_0); (case g => rfl))
  | ((with_reducible refine' ex_var (i := 1) (x := "delay") ?h ?g ?q); (case h => exact At.of rfl rfl a_soonest_1); (case g => rfl))
  | ((with_reducible refine' ex_var (i := 2) (x := "windows") ?h ?g ?q); (case h => exact At.of rfl rfl a_soonest_2); (case g => rfl))
  | ((with_reducible refine sx_set (i := 0) (x := "book") ?h ?s ?q); (case h => exact Lc.of sc_soonest.nd rfl rfl (.inl rfl) a_soonest_0); (case s => rfl))
  | ((with_reducible refine gx_name (i := 0) (x := "book") ?h ?q); (case h => exact Lc.of sc_soonest.nd rfl rfl (.inl rfl) a_soonest_0))
  | ((with_reducible refine sx_set (i := 1) (x := "delay") ?h ?s ?q); (case h => exact Lc.of sc_soonest.nd rfl rfl (.inl rfl) a_soonest_1); (case s => rfl))
  | ((with_reducible refine gx_name (i := 1) (x := "delay") ?h ?q); (case h => exact Lc.of sc_soonest.nd rfl rfl (.inl rfl) a_soonest_1))
  | ((with_reducible refine sx_set (i := 2) (x := "windows") ?h ?s ?q); (case h => exact Lc.of sc_soonest.nd rfl rfl (.inl rfl) a_soonest_2); (case s => rfl))
  | ((with_reducible refine gx_name (i := 2) (x := "windows") ?h ?q); (case h => exact Lc.of sc_soonest.nd rfl rfl (.inl rfl) a_soonest_2)))
local macro_rules | `(tactic| wtm_at "vb soonest") => `(tactic| first
  | ((with_reducible refine' ex_var (i := 0) (x := "book") ?h ?g ?q); (case h => exact At.b rfl (by first | exact Or.inl rfl | exact Or.inr (Or.inl rfl) | exact Or.inr (Or.inr rfl))); (case g => rfl))
  | ((with_reducible refine' ex_var (i := 1) (x := "delay") ?h ?g ?q); (case h => exact At.b rfl (by first | exact Or.inl rfl | exact Or.inr (Or.inl rfl) | exact Or.inr (Or.inr rfl))); (case g => rfl))
  | ((with_reducible refine' ex_var (i := 2) (x := "windows") ?h ?g ?q); (case h => exact At.b rfl (by first | exact Or.inl rfl | exact Or.inr (Or.inl rfl) | exact Or.inr (Or.inr rfl))); (case g => rfl)))
local macro_rules | `(tactic| wtm_at "w soonest") => `(tactic| repeat (first | wtm_at "v soonest" | wtm_at "e" | wtm_at "ei" | wtm_at "c"))
local macro_rules | `(tactic| wtm_at "wb soonest") => `(tactic| repeat (first | wtm_at "vb soonest" | wtm_at "e" | wtm_at "cb"))
local macro_rules | `(tactic| wtm_at "g soonest") => `(tactic| repeat (first | wtm_at "v soonest" | wtm_at "e2" | wtm_at "e" | wtm_at "ei" | wtm_at "c"))
local macro_rules | `(tactic| wtm_at "gb soonest") => `(tactic| repeat (first | wtm_at "vb soonest" | wtm_at "e2" | wtm_at "e" | wtm_at "cb"))
local macro_rules | `(tactic| wtm_at "h soonest") => `(tactic| repeat (first | wtm_at "v soonest" | wtm_at "e2" | wtm_at "e" | wtm_at "c"))
local macro_rules | `(tactic| wtm_at "gx soonest") => `(tactic| repeat (first | wtm_at "v soonest" | wtm_at "e2" | wtm_at "e" | wtm_at "ei" | wtm_at "cx"))
local macro_rules | `(tactic| wtm_at "hx soonest") => `(tactic| repeat (first | wtm_at "v soonest" | wtm_at "e2" | wtm_at "e" | wtm_at "cx"))
local macro_rules | `(tactic| wtm_at "gy soonest") => `(tactic| repeat (first | wtm_at "vb soonest" | wtm_at "e2" | wtm_at "e" | wtm_at "cx"))
local macro_rules | `(tactic| wtm_at "hx1 soonest") => `(tactic| first | wtm_at "v soonest" | wtm_at "e2" | wtm_at "e" | wtm_at "cx")
abbrev X_soonest (P : Program) (w : World) (K : PySem.W.Frag) (mg : Str → Option Value) (base : Heap) (f : Addr) (cdv : Value) (A : Around) (outer : List Env) (s : Shared) (H : Hp) (E : XK) : Cx := (cxOf CX0 P w K mg base n_soonest "soonest" (defScope s_soonest) f cdv A outer s H E).nox
abbrev s_sturdy : Stmt := top 25
abbrev n_sturdy : List Str := ["book", "delay", "windows", "lost", "often", "beats", "best", "k"]
theorem sc_sturdy : FnScope n_sturdy ["book", "delay", "windows", "lost"] (defScope s_sturdy) := ⟨rfl, rfl, rfl, by decide +kernel, rfl, by decide +kernel, by decide +kernel⟩
theorem a_sturdy_0 : atB n_sturdy (defScope s_sturdy) 0 "book" = true := by decide +kernel
theorem a_sturdy_1 : atB n_sturdy (defScope s_sturdy) 1 "delay" = true := by decide +kernel
theorem a_sturdy_2 : atB n_sturdy (defScope s_sturdy) 2 "windows" = true := by decide +kernel
theorem a_sturdy_3 : atB n_sturdy (defScope s_sturdy) 3 "lost" = true := by decide +kernel
theorem a_sturdy_4 : atB n_sturdy (defScope s_sturdy) 4 "often" = true := by decide +kernel
theorem a_sturdy_5 : atB n_sturdy (defScope s_sturdy) 5 "beats" = true := by decide +kernel
theorem a_sturdy_6 : atB n_sturdy (defScope s_sturdy) 6 "best" = true := by decide +kernel
local macro_rules | `(tactic| wtm_at "v sturdy") => `(tactic| first
  | ((with_reducible refine' ex_var (i := 0) (x := "book") ?h ?g ?q); (case h => exact At.of rfl rfl a_sturdy_0); (case g => rfl))
  | ((with_reducible refine' ex_var (i := 1) (x := "delay") ?h ?g ?q); (case h => exact At.of rfl rfl a_sturdy_1); (case g => rfl))
  | ((with_reducible refine' ex_var (i := 2) (x := "windows") ?h ?g ?q); (case h => exact At.of rfl rfl a_sturdy_2); (case g => rfl))
  | ((with_reducible refine' ex_var (i := 3) (x := "lost") ?h ?g ?q); (case h => exact At.of rfl rfl a_sturdy_3); (case g => rfl))
  | ((with_reducible refine' ex_var (i := 4) (x := "often") ?h ?g ?q); (case h => exact At.of rfl rfl a_sturdy_4); (case g => rfl))
  | ((with_reducible refine' ex_var (i := 5) (x := "beats") ?h ?g ?q); (case h => exact At.of rfl rfl a_sturdy_5); (case g => rfl))
  | ((with_reducible refine' ex_var (i := 6) (x := "best") ?h ?g ?q); (case h => exact At.of rfl rfl a_sturdy_6); (case g => rfl))
  | ((with_reducible refine sx_set (i := 0) (x := "book") ?h ?s ?q); (case h => exact Lc.of sc_sturdy.nd rfl rfl (.inl rfl) a_sturdy_0); (case s => rfl))
  | ((with_reducible refine gx_name (i := 0) (x := "book") ?h ?q); (case h => exact Lc.of sc_sturdy.nd rfl rfl (.inl rfl) a_sturdy_0))
  | ((with_reducible refine sx_set (i := 1) (x := "delay") ?h ?s ?q); (case h => exact Lc.of sc_sturdy.nd rfl rfl (.inl rfl) a_sturdy_1); (case s => rfl))
  | ((with_reducible refine gx_name (i := 1) (x := "delay") ?h ?q); (case h => exact Lc.of sc_sturdy.nd rfl rfl (.inl rfl) a_sturdy_1))
  | ((with_reducible refine sx_set (i := 2) (x := "windows") ?h ?s ?q); (case h => exact Lc.of sc_sturdy.nd rfl rfl (.inl rfl) a_sturdy_2); (case s => rfl))
  | ((with_reducible refine gx_name (i := 2) (x := "windows") ?h ?q); (case h => exact Lc.of sc_sturdy.nd rfl rfl (.inl rfl) a_sturdy_2))
  | ((with_reducible refine sx_set (i := 3) (x := "lost") ?h ?s ?q); (case h => exact Lc.of sc_sturdy.nd rfl rfl (.inl rfl) a_sturdy_3); (case s => rfl))
  | ((with_reducible refine gx_name (i := 3) (x := "lost") ?h ?q); (case h => exact Lc.of sc_sturdy.nd rfl rfl (.inl rfl) a_sturdy_3))
  | ((with_reducible refine sx_set (i := 4) (x := "often") ?h ?s ?q); (case h => exact Lc.of sc_sturdy.nd rfl rfl (.inl rfl) a_sturdy_4); (case s => rfl))
  | ((with_reducible refine gx_name (i := 4) (x := "often") ?h ?q); (case h => exact Lc.of sc_sturdy.nd rfl rfl (.inl rfl) a_sturdy_4))
  | ((with_reducible refine sx_set (i := 5) (x := "beats") ?h ?s ?q); (case h => exact Lc.of sc_sturdy.nd rfl rfl (.inl rfl) a_sturdy_5); (case s => rfl))
  | ((with_reducible refine gx_name (i := 5) (x := "beats") ?h ?q); (case h => exact Lc.of sc_sturdy.nd rfl rfl (.inl rfl) a_sturdy_5))
  | ((with_reducible refine sx_set (i := 6) (x := "best") ?h ?s ?q); (case h => exact Lc.of sc_sturdy.nd rfl rfl (.inl rfl) a_sturdy_6); (case s => rfl))
  | ((with_reducible refine gx_name (i := 6) (x := "best") ?h ?q); (case h => exact Lc.of sc_sturdy.nd rfl rfl (.inl rfl) a_sturdy_6)))
local macro_rules | `(tactic| wtm_at "vb sturdy") => `(tactic| first
  | ((with_reducible refine' ex_var (i := 0) (x := "book") ?h ?g ?q); (case h => exact At.b rfl (by first | exact Or.inl rfl | exact Or.inr (Or.inl rfl) | exact Or.inr (Or.inr rfl))); (case g => rfl))
  | ((with_reducible refine' ex_var (i := 1) (x := "delay") ?h ?g ?q); (case h => exact At.b rfl (by first | exact Or.inl rfl | exact Or.inr (Or.inl rfl) | exact Or.inr (Or.inr rfl))); (case g => rfl))
  | ((with_reducible refine' ex_var (i := 2) (x := "windows") ?h ?g ?q); (case h => exact At.b rfl (by first | exact Or.inl rfl | exact Or.inr (Or.inl rfl) | exact Or.inr (Or.inr rfl))); (case g => rfl))
  | ((with_reducible refine' ex_var (i := 3) (x := "lost") ?h ?g ?q); (case h => exact At.b rfl (by first | exact Or.inl rfl | exact Or.inr (Or.inl rfl) | exact Or.inr (Or.inr rfl))); (case g => rfl))
  | ((with_reducible refine' ex_var (i := 4) (x := "often") ?h ?g ?q); (case h => exact At.b rfl (by first | exact Or.inl rfl | exact Or.inr (Or.inl rfl) | exact Or.inr (Or.inr rfl))); (case g => rfl))
  | ((with_reducible refine' ex_var (i := 5) (x := "beats") ?h ?g ?q); (case h => exact At.b rfl (by first | exact Or.inl rfl | exact Or.inr (Or.inl rfl) | exact Or.inr (Or.inr rfl))); (case g => rfl))
  | ((with_reducible refine' ex_var (i := 6) (x := "best") ?h ?g ?q); (case h => exact At.b rfl (by first | exact Or.inl rfl | exact Or.inr (Or.inl rfl) | exact Or.inr (Or.inr rfl))); (case g => rfl))
  | ((with_reducible refine' ex_var (i := 7) (x := "k") ?h ?g ?q); (case h => exact At.b rfl (by first | exact Or.inl rfl | exact Or.inr (Or.inl rfl) | exact Or.inr (Or.inr rfl))); (case g => rfl)))
local macro_rules | `(tactic| wtm_at "w sturdy") => `(tactic| repeat (first | wtm_at "v sturdy" | wtm_at "e" | wtm_at "ei" | wtm_at "c"))
local macro_rules | `(tactic| wtm_at "wb sturdy") => `(tactic| repeat (first | wtm_at "vb sturdy" | wtm_at "e" | wtm_at "cb"))
local macro_rules | `(tactic| wtm_at "g sturdy") => `(tactic| repeat (first | wtm_at "v sturdy" | wtm_at "e2" | wtm_at "e" | wtm_at "ei" | wtm_at "c"))
local macro_rules | `(tactic| wtm_at "gb sturdy") => `(tactic| repeat (first | wtm_at "vb sturdy" | wtm_at "e2" | wtm_at "e" | wtm_at "cb"))
local macro_rules | `(tactic| wtm_at "h sturdy") => `(tactic| repeat (first | wtm_at "v sturdy" | wtm_at "e2" | wtm_at "e" | wtm_at "c"))
local macro_rules | `(tactic| wtm_at "gx sturdy") => `(tactic| repeat (first | wtm_at "v sturdy" | wtm_at "e2" | wtm_at "e" | wtm_at "ei" | wtm_at "cx"))
local macro_rules | `(tactic| wtm_at "hx sturdy") => `(tactic| repeat (first | wtm_at "v sturdy" | wtm_at "e2" | wtm_at "e" | wtm_at "cx"))
local macro_rules | `(tactic| wtm_at "gy sturdy") => `(tactic| repeat (first | wtm_at "vb sturdy" | wtm_at "e2" | wtm_at "e" | wtm_at "cx"))
local macro_rules | `(tactic| wtm_at "hx1 sturdy") => `(tactic| first | wtm_at "v sturdy" | wtm_at "e2" | wtm_at "e" | wtm_at "cx")
local macro_rules | `(tactic| wtm_at "lc sturdy 0") => `(tactic| refine' ex_lc (own := [("k", 7)]) (t := .inl 7)  rfl sc_sturdy.nd (blkOk_by (N := n_sturdy) (sc := defScope s_sturdy) (by decide +kernel)) (by decide) (fun _ _ _ _ _ => pg_name (i := 7) sc_sturdy.nd rfl (by first | exact Or.inl rfl | exact Or.inr rfl)) (fun _ => rfl) ?_)
local macro_rules | `(tactic| wtm_at "lcM sturdy 0") => `(tactic| refine' ex_lcM (own := [("k", 7)]) (t := .inl 7)  rfl sc_sturdy.nd (blkOk_by (N := n_sturdy) (sc := defScope s_sturdy) (by decide +kernel)) (by decide) (fun _ _ _ _ _ => pg_name (i := 7) sc_sturdy.nd rfl (by first | exact Or.inl rfl | exact Or.inr rfl)) (fun _ => rfl) ?_)
local macro_rules | `(tactic| wtm_at "lcp sturdy 0") => `(tactic| refine' ex_lcp (own := [("k", 7)]) (t := .inl 7) ?f rfl sc_sturdy.nd (blkOk_by (N := n_sturdy) (sc := defScope s_sturdy) (by decide +kernel)) (by decide) (fun _ _ _ _ _ => pg_name (i := 7) sc_sturdy.nd rfl (by first | exact Or.inl rfl | exact Or.inr rfl)) (fun _ => rfl) ?_)
local macro_rules | `(tactic| wtm_at "lcpM sturdy 0") => `(tactic| refine' ex_lcpM (own := [("k", 7)]) (t := .inl 7) ?f rfl sc_sturdy.nd (blkOk_by (N := n_sturdy) (sc := defScope s_sturdy) (by decide +kernel)) (by decide) (fun _ _ _ _ _ => pg_name (i := 7) sc_sturdy.nd rfl (by first | exact Or.inl rfl | exact Or.inr rfl)) (fun _ => rfl) ?_)
abbrev X_sturdy (P : Program) (w : World) (K : PySem.W.Frag) (mg : Str → Option Value) (base : Heap) (f : Addr) (cdv : Value) (A : Around) (outer : List Env) (s : Shared) (H : Hp) (E : XK) : Cx := (cxOf CX0 P w K mg base n_sturdy "sturdy" (defScope s_sturdy) f cdv A outer s H E).nox
abbrev s_L_taken : Stmt := top 27
abbrev n_L_taken : List Str := ["_law_row", "_law_many", "_law_cell"]
theorem sc_L_taken : FnScope n_L_taken ["_law_row", "_law_many"] (defScope s_L_taken) := ⟨rfl, rfl, rfl, by decide +kernel, rfl, by decide +kernel, by decide +kernel⟩
theorem a_L_taken_0 : atB n_L_taken (defScope s_L_taken) 0 "_law_row" = true := by decide +kernel
theorem a_L_taken_1 : atB n_L_taken (defScope s_L_taken) 1 "_law_many" = true := by decide +kernel
theorem a_L_taken_2 : atB n_L_taken (defScope s_L_taken) 2 "_law_cell" = true := by decide +kernel
local macro_rules | `(tactic| wtm_at "v L_taken") => `(tactic| first
  | ((with_reducible refine' ex_var (i := 0) (x := "_law_row") ?h ?g ?q); (case h => exact At.of rfl rfl a_L_taken_0); (case g => rfl))
  | ((with_reducible refine' ex_var (i := 1) (x := "_law_many") ?h ?g ?q); (case h => exact At.of rfl rfl a_L_taken_1); (case g => rfl))
  | ((with_reducible refine' ex_var (i := 2) (x := "_law_cell") ?h ?g ?q); (case h => exact At.of rfl rfl a_L_taken_2); (case g => rfl))
  | ((with_reducible refine sx_set (i := 0) (x := "_law_row") ?h ?s ?q); (case h => exact Lc.of sc_L_taken.nd rfl rfl (.inl rfl) a_L_taken_0); (case s => rfl))
  | ((with_reducible refine gx_name (i := 0) (x := "_law_row") ?h ?q); (case h => exact Lc.of sc_L_taken.nd rfl rfl (.inl rfl) a_L_taken_0))
  | ((with_reducible refine sx_set (i := 1) (x := "_law_many") ?h ?s ?q); (case h => exact Lc.of sc_L_taken.nd rfl rfl (.inl rfl) a_L_taken_1); (case s => rfl))
  | ((with_reducible refine gx_name (i := 1) (x := "_law_many") ?h ?q); (case h => exact Lc.of sc_L_taken.nd rfl rfl (.inl rfl) a_L_taken_1))
  | ((with_reducible refine sx_set (i := 2) (x := "_law_cell") ?h ?s ?q); (case h => exact Lc.of sc_L_taken.nd rfl rfl (.inl rfl) a_L_taken_2); (case s => rfl))
  | ((with_reducible refine gx_name (i := 2) (x := "_law_cell") ?h ?q); (case h => exact Lc.of sc_L_taken.nd rfl rfl (.inl rfl) a_L_taken_2)))
local macro_rules | `(tactic| wtm_at "vb L_taken") => `(tactic| first
  | ((with_reducible refine' ex_var (i := 0) (x := "_law_row") ?h ?g ?q); (case h => exact At.b rfl (by first | exact Or.inl rfl | exact Or.inr (Or.inl rfl) | exact Or.inr (Or.inr rfl))); (case g => rfl))
  | ((with_reducible refine' ex_var (i := 1) (x := "_law_many") ?h ?g ?q); (case h => exact At.b rfl (by first | exact Or.inl rfl | exact Or.inr (Or.inl rfl) | exact Or.inr (Or.inr rfl))); (case g => rfl))
  | ((with_reducible refine' ex_var (i := 2) (x := "_law_cell") ?h ?g ?q); (case h => exact At.b rfl (by first | exact Or.inl rfl | exact Or.inr (Or.inl rfl) | exact Or.inr (Or.inr rfl))); (case g => rfl)))
local macro_rules | `(tactic| wtm_at "w L_taken") => `(tactic| repeat (first | wtm_at "v L_taken" | wtm_at "e" | wtm_at "ei" | wtm_at "c"))
local macro_rules | `(tactic| wtm_at "wb L_taken") => `(tactic| repeat (first | wtm_at "vb L_taken" | wtm_at "e" | wtm_at "cb"))
local macro_rules | `(tactic| wtm_at "g L_taken") => `(tactic| repeat (first | wtm_at "v L_taken" | wtm_at "e2" | wtm_at "e" | wtm_at "ei" | wtm_at "c"))
local macro_rules | `(tactic| wtm_at "gb L_taken") => `(tactic| repeat (first | wtm_at "vb L_taken" | wtm_at "e2" | wtm_at "e" | wtm_at "cb"))
local macro_rules | `(tactic| wtm_at "h L_taken") => `(tactic| repeat (first | wtm_at "v L_taken" | wtm_at "e2" | wtm_at "e" | wtm_at "c"))
local macro_rules | `(tactic| wtm_at "gx L_taken") => `(tactic| repeat (first | wtm_at "v L_taken" | wtm_at "e2" | wtm_at "e" | wtm_at "ei" | wtm_at "cx"))
local macro_rules | `(tactic| wtm_at "hx L_taken") => `(tactic| repeat (first | wtm_at "v L_taken" | wtm_at "e2" | wtm_at "e" | wtm_at "cx"))
local macro_rules | `(tactic| wtm_at "gy L_taken") => `(tactic| repeat (first | wtm_at "vb L_taken" | wtm_at "e2" | wtm_at "e" | wtm_at "cx"))
local macro_rules | `(tactic| wtm_at "hx1 L_taken") => `(tactic| first | wtm_at "v L_taken" | wtm_at "e2" | wtm_at "e" | wtm_at "cx")
abbrev X_L_taken (P : Program) (w : World) (K : PySem.W.Frag) (mg : Str → Option Value) (base : Heap) (f : Addr) (cdv : Value) (A : Around) (outer : List Env) (s : Shared) (H : Hp) (E : XK) : Cx := (cxOf CX0 P w K mg base n_L_taken "_law_taken" (defScope s_L_taken) f cdv A outer s H E).nox
abbrev s_L_alike : Stmt := top 28
abbrev n_L_alike : List Str := ["_law_found", "_law_due", "_law_k"]
theorem sc_L_alike : FnScope n_L_alike ["_law_found", "_law_due"] (defScope s_L_alike) := ⟨rfl, rfl, rfl, by decide +kernel, rfl, by decide +kernel, by decide +kernel⟩
theorem a_L_alike_0 : atB n_L_alike (defScope s_L_alike) 0 "_law_found" = true := by decide +kernel
theorem a_L_alike_1 : atB n_L_alike (defScope s_L_alike) 1 "_law_due" = true := by decide +kernel
local macro_rules | `(tactic| wtm_at "v L_alike") => `(tactic| first
  | ((with_reducible refine' ex_var (i := 0) (x := "_law_found") ?h ?g ?q); (case h => exact At.of rfl rfl a_L_alike_0); (case g => rfl))
  | ((with_reducible refine' ex_var (i := 1) (x := "_law_due") ?h ?g ?q); (case h => exact At.of rfl rfl a_L_alike_1); (case g => rfl))
  | ((with_reducible refine sx_set (i := 0) (x := "_law_found") ?h ?s ?q); (case h => exact Lc.of sc_L_alike.nd rfl rfl (.inl rfl) a_L_alike_0); (case s => rfl))
  | ((with_reducible refine gx_name (i := 0) (x := "_law_found") ?h ?q); (case h => exact Lc.of sc_L_alike.nd rfl rfl (.inl rfl) a_L_alike_0))
  | ((with_reducible refine sx_set (i := 1) (x := "_law_due") ?h ?s ?q); (case h => exact Lc.of sc_L_alike.nd rfl rfl (.inl rfl) a_L_alike_1); (case s => rfl))
  | ((with_reducible refine gx_name (i := 1) (x := "_law_due") ?h ?q); (case h => exact Lc.of sc_L_alike.nd rfl rfl (.inl rfl) a_L_alike_1)))
local macro_rules | `(tactic| wtm_at "vb L_alike") => `(tactic| first
  | ((with_reducible refine' ex_var (i := 0) (x := "_law_found") ?h ?g ?q); (case h => exact At.b rfl (by first | exact Or.inl rfl | exact Or.inr (Or.inl rfl) | exact Or.inr (Or.inr rfl))); (case g => rfl))
  | ((with_reducible refine' ex_var (i := 1) (x := "_law_due") ?h ?g ?q); (case h => exact At.b rfl (by first | exact Or.inl rfl | exact Or.inr (Or.inl rfl) | exact Or.inr (Or.inr rfl))); (case g => rfl))
  | ((with_reducible refine' ex_var (i := 2) (x := "_law_k") ?h ?g ?q); (case h => exact At.b rfl (by first | exact Or.inl rfl | exact Or.inr (Or.inl rfl) | exact Or.inr (Or.inr rfl))); (case g => rfl)))
local macro_rules | `(tactic| wtm_at "w L_alike") => `(tactic| repeat (first | wtm_at "v L_alike" | wtm_at "e" | wtm_at "ei" | wtm_at "c"))
local macro_rules | `(tactic| wtm_at "wb L_alike") => `(tactic| repeat (first | wtm_at "vb L_alike" | wtm_at "e" | wtm_at "cb"))
local macro_rules | `(tactic| wtm_at "g L_alike") => `(tactic| repeat (first | wtm_at "v L_alike" | wtm_at "e2" | wtm_at "e" | wtm_at "ei" | wtm_at "c"))
local macro_rules | `(tactic| wtm_at "gb L_alike") => `(tactic| repeat (first | wtm_at "vb L_alike" | wtm_at "e2" | wtm_at "e" | wtm_at "cb"))
local macro_rules | `(tactic| wtm_at "h L_alike") => `(tactic| repeat (first | wtm_at "v L_alike" | wtm_at "e2" | wtm_at "e" | wtm_at "c"))
local macro_rules | `(tactic| wtm_at "gx L_alike") => `(tactic| repeat (first | wtm_at "v L_alike" | wtm_at "e2" | wtm_at "e" | wtm_at "ei" | wtm_at "cx"))
local macro_rules | `(tactic| wtm_at "hx L_alike") => `(tactic| repeat (first | wtm_at "v L_alike" | wtm_at "e2" | wtm_at "e" | wtm_at "cx"))
local macro_rules | `(tactic| wtm_at "gy L_alike") => `(tactic| repeat (first | wtm_at "vb L_alike" | wtm_at "e2" | wtm_at "e" | wtm_at "cx"))
local macro_rules | `(tactic| wtm_at "hx1 L_alike") => `(tactic| first | wtm_at "v L_alike" | wtm_at "e2" | wtm_at "e" | wtm_at "cx")
local macro_rules | `(tactic| wtm_at "lc L_alike 0") => `(tactic| refine' ex_lc (own := [("_law_k", 2)]) (t := .inl 2)  rfl sc_L_alike.nd (blkOk_by (N := n_L_alike) (sc := defScope s_L_alike) (by decide +kernel)) (by decide) (fun _ _ _ _ _ => pg_name (i := 2) sc_L_alike.nd rfl (by first | exact Or.inl rfl | exact Or.inr rfl)) (fun _ => rfl) ?_)
local macro_rules | `(tactic| wtm_at "lcM L_alike 0") => `(tactic| refine' ex_lcM (own := [("_law_k", 2)]) (t := .inl 2)  rfl sc_L_alike.nd (blkOk_by (N := n_L_alike) (sc := defScope s_L_alike) (by decide +kernel)) (by decide) (fun _ _ _ _ _ => pg_name (i := 2) sc_L_alike.nd rfl (by first | exact Or.inl rfl | exact Or.inr rfl)) (fun _ => rfl) ?_)
local macro_rules | `(tactic| wtm_at "lcp L_alike 0") => `(tactic| refine' ex_lcp (own := [("_law_k", 2)]) (t := .inl 2) ?f rfl sc_L_alike.nd (blkOk_by (N := n_L_alike) (sc := defScope s_L_alike) (by decide +kernel)) (by decide) (fun _ _ _ _ _ => pg_name (i := 2) sc_L_alike.nd rfl (by first | exact Or.inl rfl | exact Or.inr rfl)) (fun _ => rfl) ?_)
local macro_rules | `(tactic| wtm_at "lcpM L_alike 0") => `(tactic| refine' ex_lcpM (own := [("_law_k", 2)]) (t := .inl 2) ?f rfl sc_L_alike.nd (blkOk_by (N := n_L_alike) (sc := defScope s_L_alike) (by decide +kernel)) (by decide) (fun _ _ _ _ _ => pg_name (i := 2) sc_L_alike.nd rfl (by first | exact Or.inl rfl | exact Or.inr rfl)) (fun _ => rfl) ?_)
abbrev X_L_alike (P : Program) (w : World) (K : PySem.W.Frag) (mg : Str → Option Value) (base : Heap) (f : Addr) (cdv : Value) (A : Around) (outer : List Env) (s : Shared) (H : Hp) (E : XK) : Cx := (cxOf CX0 P w K mg base n_L_alike "_law_alike" (defScope s_L_alike) f cdv A outer s H E).nox
abbrev s_L_book : Stmt := top 29
abbrev n_L_book : List Str := ["_law_row", "_law_most", "_law_far", "_law_found", "_law_number", "_law_when", "_law_until", "_law_wants", "_law_one"]
theorem sc_L_book : FnScope n_L_book ["_law_row", "_law_most", "_law_far"] (defScope s_L_book) := ⟨rfl, rfl, rfl, by decide +kernel, rfl, by decide +kernel, by decide +kernel⟩
theorem a_L_book_0 : atB n_L_book (defScope s_L_book) 0 "_law_row" = true := by decide +kernel
theorem a_L_book_1 : atB n_L_book (defScope s_L_book) 1 "_law_most" = true := by decide +kernel
theorem a_L_book_2 : atB n_L_book (defScope s_L_book) 2 "_law_far" = true := by decide +kernel
theorem a_L_book_3 : atB n_L_book (defScope s_L_book) 3 "_law_found" = true := by decide +kernel
theorem a_L_book_4 : atB n_L_book (defScope s_L_book) 4 "_law_number" = true := by decide +kernel
theorem a_L_book_5 : atB n_L_book (defScope s_L_book) 5 "_law_when" = true := by decide +kernel
theorem a_L_book_6 : atB n_L_book (defScope s_L_book) 6 "_law_until" = true := by decide +kernel
theorem a_L_book_7 : atB n_L_book (defScope s_L_book) 7 "_law_wants" = true := by decide +kernel
local macro_rules | `(tactic| wtm_at "v L_book") => `(tactic| first
  | ((with_reducible refine' ex_var (i := 0) (x := "_law_row") ?h ?g ?q); (case h => exact At.of rfl rfl a_L_book_0); (case g => rfl))
  | ((with_reducible refine' ex_var (i := 1) (x := "_law_most") ?h ?g ?q); (case h => exact At.of rfl rfl a_L_book_1); (case g => rfl))
  | ((with_reducible refine' ex_var (i := 2) (x := "_law_far") ?h ?g ?q); (case h => exact At.of rfl rfl a_L_book_2); (case g => rfl))
  | ((with_reducible refine' ex_var (i := 3) (x := "_law_found") ?h ?g ?q); (case h => exact At.of rfl rfl a_L_book_3); (case g => rfl))
  | ((with_reducible refine' ex_var (i := 4) (x := "_law_number") ?h ?g ?q); (case h => exact At.of rfl rfl a_L_book_4); (case g => rfl))
  | ((with_reducible refine' ex_var (i := 5) (x := "_law_when") ?h ?g ?q); (case h => exact At.of rfl rfl a_L_book_5); (case g => rfl))
  | ((with_reducible refine' ex_var (i := 6) (x := "_law_until") ?h ?g ?q); (case h => exact At.of rfl rfl a_L_book_6); (case g => rfl))
  | ((with_reducible refine' ex_var (i := 7) (x := "_law_wants") ?h ?g ?q); (case h => exact At.of rfl rfl a_L_book_7); (case g => rfl))
  | ((with_reducible refine sx_set (i := 0) (x := "_law_row") ?h ?s ?q); (case h => exact Lc.of sc_L_book.nd rfl rfl (.inl rfl) a_L_book_0); (case s => rfl))
  | ((with_reducible refine gx_name (i := 0) (x := "_law_row") ?h ?q); (case h => exact Lc.of sc_L_book.nd rfl rfl (.inl rfl) a_L_book_0))
  | ((with_reducible refine sx_set (i := 1) (x := "_law_most") ?h ?s ?q); (case h => exact Lc.of sc_L_book.nd rfl rfl (.inl rfl) a_L_book_1); (case s => rfl))
  | ((with_reducible refine gx_name (i := 1) (x := "_law_most") ?h ?q); (case h => exact Lc.of sc_L_book.nd rfl rfl (.inl rfl) a_L_book_1))
  | ((with_reducible refine sx_set (i := 2) (x := "_law_far") ?h ?s ?q); (case h => exact Lc.of sc_L_book.nd rfl rfl (.inl rfl) a_L_book_2); (case s => rfl))
  | ((with_reducible refine gx_name (i := 2) (x := "_law_far") ?h ?q); (case h => exact Lc.of sc_L_book.nd rfl rfl (.inl rfl) a_L_book_2))
  | ((with_reducible refine sx_set (i := 3) (x := "_law_found") ?h ?s ?q); (case h => exact Lc.of sc_L_book.nd rfl rfl (.inl rfl) a_L_book_3); (case s => rfl))
  | ((with_reducible refine gx_name (i := 3) (x := "_law_found") ?h ?q); (case h => exact Lc.of sc_L_book.nd rfl rfl (.inl rfl) a_L_book_3))
  | ((with_reducible refine sx_set (i := 4) (x := "_law_number") ?h ?s ?q); (case h => exact Lc.of sc_L_book.nd rfl rfl (.inl rfl) a_L_book_4); (case s => rfl))
  | ((with_reducible refine gx_name (i := 4) (x := "_law_number") ?h ?q); (case h => exact Lc.of sc_L_book.nd rfl rfl (.inl rfl) a_L_book_4))
  | ((with_reducible refine sx_set (i := 5) (x := "_law_when") ?h ?s ?q); (case h => exact Lc.of sc_L_book.nd rfl rfl (.inl rfl) a_L_book_5); (case s => rfl))
  | ((with_reducible refine gx_name (i := 5) (x := "_law_when") ?h ?q); (case h => exact Lc.of sc_L_book.nd rfl rfl (.inl rfl) a_L_book_5))
  | ((with_reducible refine sx_set (i := 6) (x := "_law_until") ?h ?s ?q); (case h => exact Lc.of sc_L_book.nd rfl rfl (.inl rfl) a_L_book_6); (case s => rfl))
  | ((with_reducible refine gx_name (i := 6) (x := "_law_until") ?h ?q); (case h => exact Lc.of sc_L_book.nd rfl rfl (.inl rfl) a_L_book_6))
  | ((with_reducible refine sx_set (i := 7) (x := "_law_wants") ?h ?s ?q); (case h => exact Lc.of sc_L_book.nd rfl rfl (.inl rfl) a_L_book_7); (case s => rfl))
  | ((with_reducible refine gx_name (i := 7) (x := "_law_wants") ?h ?q); (case h => exact Lc.of sc_L_book.nd rfl rfl (.inl rfl) a_L_book_7)))
local macro_rules | `(tactic| wtm_at "vb L_book") => `(tactic| first
  | ((with_reducible refine' ex_var (i := 0) (x := "_law_row") ?h ?g ?q); (case h => exact At.b rfl (by first | exact Or.inl rfl | exact Or.inr (Or.inl rfl) | exact Or.inr (Or.inr rfl))); (case g => rfl))
  | ((with_reducible refine' ex_var (i := 1) (x := "_law_most") ?h ?g ?q); (case h => exact At.b rfl (by first | exact Or.inl rfl | exact Or.inr (Or.inl rfl) | exact Or.inr (Or.inr rfl))); (case g => rfl))
  | ((with_reducible refine' ex_var (i := 2) (x := "_law_far") ?h ?g ?q); (case h => exact At.b rfl (by first | exact Or.inl rfl | exact Or.inr (Or.inl rfl) | exact Or.inr (Or.inr rfl))); (case g => rfl))
  | ((with_reducible refine' ex_var (i := 3) (x := "_law_found") ?h ?g ?q); (case h => exact At.b rfl (by first | exact Or.inl rfl | exact Or.inr (Or.inl rfl) | exact Or.inr (Or.inr rfl))); (case g => rfl))
  | ((with_reducible refine' ex_var (i := 4) (x := "_law_number") ?h ?g ?q); (case h => exact At.b rfl (by first | exact Or.inl rfl | exact Or.inr (Or.inl rfl) | exact Or.inr (Or.inr rfl))); (case g => rfl))
  | ((with_reducible refine' ex_var (i := 5) (x := "_law_when") ?h ?g ?q); (case h => exact At.b rfl (by first | exact Or.inl rfl | exact Or.inr (Or.inl rfl) | exact Or.inr (Or.inr rfl))); (case g => rfl))
  | ((with_reducible refine' ex_var (i := 6) (x := "_law_until") ?h ?g ?q); (case h => exact At.b rfl (by first | exact Or.inl rfl | exact Or.inr (Or.inl rfl) | exact Or.inr (Or.inr rfl))); (case g => rfl))
  | ((with_reducible refine' ex_var (i := 7) (x := "_law_wants") ?h ?g ?q); (case h => exact At.b rfl (by first | exact Or.inl rfl | exact Or.inr (Or.inl rfl) | exact Or.inr (Or.inr rfl))); (case g => rfl))
  | ((with_reducible refine' ex_var (i := 8) (x := "_law_one") ?h ?g ?q); (case h => exact At.b rfl (by first | exact Or.inl rfl | exact Or.inr (Or.inl rfl) | exact Or.inr (Or.inr rfl))); (case g => rfl)))
local macro_rules | `(tactic| wtm_at "w L_book") => `(tactic| repeat (first | wtm_at "v L_book" | wtm_at "e" | wtm_at "ei" | wtm_at "c"))
local macro_rules | `(tactic| wtm_at "wb L_book") => `(tactic| repeat (first | wtm_at "vb L_book" | wtm_at "e" | wtm_at "cb"))
local macro_rules | `(tactic| wtm_at "g L_book") => `(tactic| repeat (first | wtm_at "v L_book" | wtm_at "e2" | wtm_at "e" | wtm_at "ei" | wtm_at "c"))
local macro_rules | `(tactic| wtm_at "gb L_book") => `(tactic| repeat (first | wtm_at "vb L_book" | wtm_at "e2" | wtm_at "e" | wtm_at "cb"))
local macro_rules | `(tactic| wtm_at "h L_book") => `(tactic| repeat (first | wtm_at "v L_book" | wtm_at "e2" | wtm_at "e" | wtm_at "c"))
local macro_rules | `(tactic| wtm_at "gx L_book") => `(tactic| repeat (first | wtm_at "v L_book" | wtm_at "e2" | wtm_at "e" | wtm_at "ei" | wtm_at "cx"))
local macro_rules | `(tactic| wtm_at "hx L_book") => `(tactic| repeat (first | wtm_at "v L_book" | wtm_at "e2" | wtm_at "e" | wtm_at "cx"))
local macro_rules | `(tactic| wtm_at "gy L_book") => `(tactic| repeat (first | wtm_at "vb L_book" | wtm_at "e2" | wtm_at "e" | wtm_at "cx"))
local macro_rules | `(tactic| wtm_at "hx1 L_book") => `(tactic| first | wtm_at "v L_book" | wtm_at "e2" | wtm_at "e" | wtm_at "cx")
local macro_rules | `(tactic| wtm_at "lc L_book 0") => `(tactic| refine' ex_lc (own := [("_law_one", 8)]) (t := .inl 8)  rfl sc_L_book.nd (blkOk_by (N := n_L_book) (sc := defScope s_L_book) (by decide +kernel)) (by decide) (fun _ _ _ _ _ => pg_name (i := 8) sc_L_book.nd rfl (by first | exact Or.inl rfl | exact Or.inr rfl)) (fun _ => rfl) ?_)
local macro_rules | `(tactic| wtm_at "lcM L_book 0") => `(tactic| refine' ex_lcM (own := [("_law_one", 8)]) (t := .inl 8)  rfl sc_L_book.nd (blkOk_by (N := n_L_book) (sc := defScope s_L_book) (by decide +kernel)) (by decide) (fun _ _ _ _ _ => pg_name (i := 8) sc_L_book.nd rfl (by first | exact Or.inl rfl | exact Or.inr rfl)) (fun _ => rfl) ?_)
local macro_rules | `(tactic| wtm_at "lcp L_book 0") => `(tactic| refine' ex_lcp (own := [("_law_one", 8)]) (t := .inl 8) ?f rfl sc_L_book.nd (blkOk_by (N := n_L_book) (sc := defScope s_L_book) (by decide +kernel)) (by decide) (fun _ _ _ _ _ => pg_name (i := 8) sc_L_book.nd rfl (by first | exact Or.inl rfl | exact Or.inr rfl)) (fun _ => rfl) ?_)
local macro_rules | `(tactic| wtm_at "lcpM L_book 0") => `(tactic| refine' ex_lcpM (own := [("_law_one", 8)]) (t := .inl 8) ?f rfl sc_L_book.nd (blkOk_by (N := n_L_book) (sc := defScope s_L_book) (by decide +kernel)) (by decide) (fun _ _ _ _ _ => pg_name (i := 8) sc_L_book.nd rfl (by first | exact Or.inl rfl | exact Or.inr rfl)) (fun _ => rfl) ?_)
abbrev X_L_book (P : Program) (w : World) (K : PySem.W.Frag) (mg : Str → Option Value) (base : Heap) (f : Addr) (cdv : Value) (A : Around) (outer : List Env) (s : Shared) (H : Hp) (E : XK) : Cx := (cxOf CX0 P w K mg base n_L_book "_law_book" (defScope s_L_book) f cdv A outer s H E).nox
abbrev s_L_windows : Stmt := top 30
abbrev n_L_windows : List Str := ["_law_row", "_law_far", "_law_found", "_law_last", "_law_begin", "_law_end"]
theorem sc_L_windows : FnScope n_L_windows ["_law_row", "_law_far"] (defScope s_L_windows) := ⟨rfl, rfl, rfl, by decide +kernel, rfl, by decide +kernel, by decide +kernel⟩
theorem a_L_windows_0 : atB n_L_windows (defScope s_L_windows) 0 "_law_row" = true := by decide +kernel
theorem a_L_windows_1 : atB n_L_windows (defScope s_L_windows) 1 "_law_far" = true := by decide +kernel
theorem a_L_windows_2 : atB n_L_windows (defScope s_L_windows) 2 "_law_found" = true := by decide +kernel
theorem a_L_windows_3 : atB n_L_windows (defScope s_L_windows) 3 "_law_last" = true := by decide +kernel
theorem a_L_windows_4 : atB n_L_windows (defScope s_L_windows) 4 "_law_begin" = true := by decide +kernel
theorem a_L_windows_5 : atB n_L_windows (defScope s_L_windows) 5 "_law_end" = true := by decide +kernel
local macro_rules | `(tactic| wtm_at "v L_windows") => `(tactic| first
  | ((with_reducible refine' ex_var (i := 0) (x := "_law_row") ?h ?g ?q); (case h => exact At.of rfl rfl a_L_windows_0); (case g => rfl))
  | ((with_reducible refine' ex_var (i := 1) (x := "_law_far") ?h ?g ?q); (case h => exact At.of rfl rfl a_L_windows_1); (case g => rfl))
  | ((with_reducible refine' ex_var (i := 2) (x := "_law_found") ?h ?g ?q); (case h => exact At.of rfl rfl a_L_windows_2); (case g => rfl))
  | ((with_reducible refine' ex_var (i := 3) (x := "_law_last") ?h ?g ?q); (case h => exact At.of rfl rfl a_L_windows_3); (case g => rfl))
  | ((with_reducible refine' ex_var (i := 4) (x := "_law_begin") ?h ?g ?q); (case h => exact At.of rfl rfl a_L_windows_4); (case g => rfl))
  | ((with_reducible refine' ex_var (i := 5) (x := "_law_end") ?h ?g ?q); (case h => exact At.of rfl rfl a_L_windows_5); (case g => rfl))
  | ((with_reducible refine sx_set (i := 0) (x := "_law_row") ?h ?s ?q); (case h => exact Lc.of sc_L_windows.nd rfl rfl (.inl rfl) a_L_windows_0); (case s => rfl))
  | ((with_reducible refine gx_name (i := 0) (x := "_law_row") ?h ?q); (case h => exact Lc.of sc_L_windows.nd rfl rfl (.inl rfl) a_L_windows_0))
  | ((with_reducible refine sx_set (i := 1) (x := "_law_far") ?h ?s ?q); (case h => exact Lc.of sc_L_windows.nd rfl rfl (.inl rfl) a_L_windows_1); (case s => rfl))
  | ((with_reducible refine gx_name (i := 1) (x := "_law_far") ?h ?q); (case h => exact Lc.of sc_L_windows.nd rfl rfl (.inl rfl) a_L_windows_1))
  | ((with_reducible refine sx_set (i := 2) (x := "_law_found") ?h ?s ?q); (case h => exact Lc.of sc_L_windows.nd rfl rfl (.inl rfl) a_L_windows_2); (case s => rfl))
  | ((with_reducible refine gx_name (i := 2) (x := "_law_found") ?h ?q); (case h => exact Lc.of sc_L_windows.nd rfl rfl (.inl rfl) a_L_windows_2))
  | ((with_reducible refine sx_set (i := 3) (x := "_law_last") ?h ?s ?q); (case h => exact Lc.of sc_L_windows.nd rfl rfl (.inl rfl) a_L_windows_3); (case s => rfl))
  | ((with_reducible refine gx_name (i := 3) (x := "_law_last") ?h ?q); (case h => exact Lc.of sc_L_windows.nd rfl rfl (.inl rfl) a_L_windows_3))
  | ((with_reducible refine sx_set (i := 4) (x := "_law_begin") ?h ?s ?q); (case h => exact Lc.of sc_L_windows.nd rfl rfl (.inl rfl) a_L_windows_4); (case s => rfl))
  | ((with_reducible refine gx_name (i := 4) (x := "_law_begin") ?h ?q); (case h => exact Lc.of sc_L_windows.nd rfl rfl (.inl rfl) a_L_windows_4))
  | ((with_reducible refine sx_set (i := 5) (x := "_law_end") ?h ?s ?q); (case h => exact Lc.of sc_L_windows.nd rfl rfl (.inl rfl) a_L_windows_5); (case s => rfl))
  | ((with_reducible refine gx_name (i := 5) (x := "_law_end") ?h ?q); (case h => exact Lc.of sc_L_windows.nd rfl rfl (.inl rfl) a_L_windows_5)))
local macro_rules | `(tactic| wtm_at "vb L_windows") => `(tactic| first
  | ((with_reducible refine' ex_var (i := 0) (x := "_law_row") ?h ?g ?q); (case h => exact At.b rfl (by first | exact Or.inl rfl | exact Or.inr (Or.inl rfl) | exact Or.inr (Or.inr rfl))); (case g => rfl))
  | ((with_reducible refine' ex_var (i := 1) (x := "_law_far") ?h ?g ?q); (case h => exact At.b rfl (by first | exact Or.inl rfl | exact Or.inr (Or.inl rfl) | exact Or.inr (Or.inr rfl))); (case g => rfl))
  | ((with_reducible refine' ex_var (i := 2) (x := "_law_found") ?h ?g ?q); (case h => exact At.b rfl (by first | exact Or.inl rfl | exact Or.inr (Or.inl rfl) | exact Or.inr (Or.inr rfl))); (case g => rfl))
  | ((with_reducible refine' ex_var (i := 3) (x := "_law_last") ?h ?g ?q); (case h => exact At.b rfl (by first | exact Or.inl rfl | exact Or.inr (Or.inl rfl) | exact Or.inr (Or.inr rfl))); (case g => rfl))
  | ((with_reducible refine' ex_var (i := 4) (x := "_law_begin") ?h ?g ?q); (case h => exact At.b rfl (by first | exact Or.inl rfl | exact Or.inr (Or.inl rfl) | exact Or.inr (Or.inr rfl))); (case g => rfl))
  | ((with_reducible refine' ex_var (i := 5) (x := "_law_end") ?h ?g ?q); (case h => exact At.b rfl (by first | exact Or.inl rfl | exact Or.inr (Or.inl rfl) | exact Or.inr (Or.inr rfl))); (case g => rfl)))
local macro_rules | `(tactic| wtm_at "w L_windows") => `(tactic| repeat (first | wtm_at "v L_windows" | wtm_at "e" | wtm_at "ei" | wtm_at "c"))
local macro_rules | `(tactic| wtm_at "wb L_windows") => `(tactic| repeat (first | wtm_at "vb L_windows" | wtm_at "e" | wtm_at "cb"))
local macro_rules | `(tactic| wtm_at "g L_windows") => `(tactic| repeat (first | wtm_at "v L_windows" | wtm_at "e2" | wtm_at "e" | wtm_at "ei" | wtm_at "c"))
local macro_rules | `(tactic| wtm_at "gb L_windows") => `(tactic| repeat (first | wtm_at "vb L_windows" | wtm_at "e2" | wtm_at "e" | wtm_at "cb"))
local macro_rules | `(tactic| wtm_at "h L_windows") => `(tactic| repeat (first | wtm_at "v L_windows" | wtm_at "e2" | wtm_at "e" | wtm_at "c"))
local macro_rules | `(tactic| wtm_at "gx L_windows") => `(tactic| repeat (first | wtm_at "v L_windows" | wtm_at "e2" | wtm_at "e" | wtm_at "ei" | wtm_at "cx"))
local macro_rules | `(tactic| wtm_at "hx L_windows") => `(tactic| repeat (first | wtm_at "v L_windows" | wtm_at "e2" | wtm_at "e" | wtm_at "cx"))
local macro_rules | `(tactic| wtm_at "gy L_windows") => `(tactic| repeat (first | wtm_at "vb L_windows" | wtm_at "e2" | wtm_at "e" | wtm_at "cx"))
local macro_rules | `(tactic| wtm_at "hx1 L_windows") => `(tactic| first | wtm_at "v L_windows" | wtm_at "e2" | wtm_at "e" | wtm_at "cx")
abbrev X_L_windows (P : Program) (w : World) (K : PySem.W.Frag) (mg : Str → Option Value) (base : Heap) (f : Addr) (cdv : Value) (A : Around) (outer : List Env) (s : Shared) (H : Hp) (E : XK) : Cx := (cxOf CX0 P w K mg base n_L_windows "_law_windows" (defScope s_L_windows) f cdv A outer s H E).nox
abbrev s_L_open : Stmt := top 31
abbrev n_L_open : List Str := ["_law_windows_here", "_law_beat", "_law_one"]
theorem sc_L_open : FnScope n_L_open ["_law_windows_here", "_law_beat"] (defScope s_L_open) := ⟨rfl, rfl, rfl, by decide +kernel, rfl, by decide +kernel, by decide +kernel⟩
theorem a_L_open_0 : atB n_L_open (defScope s_L_open) 0 "_law_windows_here" = true := by decide +kernel
theorem a_L_open_1 : atB n_L_open (defScope s_L_open) 1 "_law_beat" = true := by decide +kernel
local macro_rules | `(tactic| wtm_at "v L_open") => `(tactic| first
  | ((with_reducible refine' ex_var (i := 0) (x := "_law_windows_here") ?h ?g ?q); (case h => exact At.of rfl rfl a_L_open_0); (case g => rfl))
  | ((with_reducible refine' ex_var (i := 1) (x := "_law_beat") ?h ?g ?q); (case h => exact At.of rfl rfl a_L_open_1); (case g => rfl))
  | ((with_reducible refine sx_set (i := 0) (x := "_law_windows_here") ?h ?s ?q); (case h => exact Lc.of sc_L_open.nd rfl rfl (.inl rfl) a_L_open_0); (case s => rfl))
  | ((with_reducible refine gx_name (i := 0) (x := "_law_windows_here") ?h ?q); (case h => exact Lc.of sc_L_open.nd rfl rfl (.inl rfl) a_L_open_0))
  | ((with_reducible refine sx_set (i := 1) (x := "_law_beat") ?h ?s ?q); (case h => exact Lc.of sc_L_open.nd rfl rfl (.inl rfl) a_L_open_1); (case s => rfl))
  | ((with_reducible refine gx_name (i := 1) (x := "_law_beat") ?h ?q); (case h => exact Lc.of sc_L_open.nd rfl rfl (.inl rfl) a_L_open_1)))
local macro_rules | `(tactic| wtm_at "vb L_open") => `(tactic| first
  | ((with_reducible refine' ex_var (i := 0) (x := "_law_windows_here") ?h ?g ?q); (case h => exact At.b rfl (by first | exact Or.inl rfl | exact Or.inr (Or.inl rfl) | exact Or.inr (Or.inr rfl))); (case g => rfl))
  | ((with_reducible refine' ex_var (i := 1) (x := "_law_beat") ?h ?g ?q); (case h => exact At.b rfl (by first | exact Or.inl rfl | exact Or.inr (Or.inl rfl) | exact Or.inr (Or.inr rfl))); (case g => rfl))
  | ((with_reducible refine' ex_var (i := 2) (x := "_law_one") ?h ?g ?q); (case h => exact At.b rfl (by first | exact Or.inl rfl | exact Or.inr (Or.inl rfl) | exact Or.inr (Or.inr rfl))); (case g => rfl)))
local macro_rules | `(tactic| wtm_at "w L_open") => `(tactic| repeat (first | wtm_at "v L_open" | wtm_at "e" | wtm_at "ei" | wtm_at "c"))
local macro_rules | `(tactic| wtm_at "wb L_open") => `(tactic| repeat (first | wtm_at "vb L_open" | wtm_at "e" | wtm_at "cb"))
local macro_rules | `(tactic| wtm_at "g L_open") => `(tactic| repeat (first | wtm_at "v L_open" | wtm_at "e2" | wtm_at "e" | wtm_at "ei" | wtm_at "c"))
local macro_rules | `(tactic| wtm_at "gb L_open") => `(tactic| repeat (first | wtm_at "vb L_open" | wtm_at "e2" | wtm_at "e" | wtm_at "cb"))
local macro_rules | `(tactic| wtm_at "h L_open") => `(tactic| repeat (first | wtm_at "v L_open" | wtm_at "e2" | wtm_at "e" | wtm_at "c"))
local macro_rules | `(tactic| wtm_at "gx L_open") => `(tactic| repeat (first | wtm_at "v L_open" | wtm_at "e2" | wtm_at "e" | wtm_at "ei" | wtm_at "cx"))
local macro_rules | `(tactic| wtm_at "hx L_open") => `(tactic| repeat (first | wtm_at "v L_open" | wtm_at "e2" | wtm_at "e" | wtm_at "cx"))
local macro_rules | `(tactic| wtm_at "gy L_open") => `(tactic| repeat (first | wtm_at "vb L_open" | wtm_at "e2" | wtm_at "e" | wtm_at "cx"))
local macro_rules | `(tactic| wtm_at "hx1 L_open") => `(tactic| first | wtm_at "v L_open" | wtm_at "e2" | wtm_at "e" | wtm_at "cx")
local macro_rules | `(tactic| wtm_at "lc L_open 0") => `(tactic| refine' ex_lc (own := [("_law_one", 2)]) (t := .inl 2)  rfl sc_L_open.nd (blkOk_by (N := n_L_open) (sc := defScope s_L_open) (by decide +kernel)) (by decide) (fun _ _ _ _ _ => pg_name (i := 2) sc_L_open.nd rfl (by first | exact Or.inl rfl | exact Or.inr rfl)) (fun _ => rfl) ?_)
local macro_rules | `(tactic| wtm_at "lcM L_open 0") => `(tactic| refine' ex_lcM (own := [("_law_one", 2)]) (t := .inl 2)  rfl sc_L_open.nd (blkOk_by (N := n_L_open) (sc := defScope s_L_open) (by decide +kernel)) (by decide) (fun _ _ _ _ _ => pg_name (i := 2) sc_L_open.nd rfl (by first | exact Or.inl rfl | exact Or.inr rfl)) (fun _ => rfl) ?_)
local macro_rules | `(tactic| wtm_at "lcp L_open 0") => `(tactic| refine' ex_lcp (own := [("_law_one", 2)]) (t := .inl 2) ?f rfl sc_L_open.nd (blkOk_by (N := n_L_open) (sc := defScope s_L_open) (by decide +kernel)) (by decide) (fun _ _ _ _ _ => pg_name (i := 2) sc_L_open.nd rfl (by first | exact Or.inl rfl | exact Or.inr rfl)) (fun _ => rfl) ?_)
local macro_rules | `(tactic| wtm_at "lcpM L_open 0") => `(tactic| refine' ex_lcpM (own := [("_law_one", 2)]) (t := .inl 2) ?f rfl sc_L_open.nd (blkOk_by (N := n_L_open) (sc := defScope s_L_open) (by decide +kernel)) (by decide) (fun _ _ _ _ _ => pg_name (i := 2) sc_L_open.nd rfl (by first | exact Or.inl rfl | exact Or.inr rfl)) (fun _ => rfl) ?_)
abbrev X_L_open (P : Program) (w : World) (K : PySem.W.Frag) (mg : Str → Option Value) (base : Heap) (f : Addr) (cdv : Value) (A : Around) (outer : List Env) (s : Shared) (H : Hp) (E : XK) : Cx := (cxOf CX0 P w K mg base n_L_open "_law_open" (defScope s_L_open) f cdv A outer s H E).nox
abbrev s_L_beaten : Stmt := top 32
abbrev n_L_beaten : List Str := ["_law_book_here", "_law_state", "_law_letters", "_law_beat", "_law_found", "_law_word", "_law_number", "_law_when", "_law_until", "_law_wants", "_law_one"]
theorem sc_L_beaten : FnScope n_L_beaten ["_law_book_here", "_law_state", "_law_letters", "_law_beat"] (defScope s_L_beaten) := ⟨rfl, rfl, rfl, by decide +kernel, rfl, by decide +kernel, by decide +kernel⟩
theorem a_L_beaten_0 : atB n_L_beaten (defScope s_L_beaten) 0 "_law_book_here" = true := by decide +kernel
theorem a_L_beaten_1 : atB n_L_beaten (defScope s_L_beaten) 1 "_law_state" = true := by decide +kernel
theorem a_L_beaten_2 : atB n_L_beaten (defScope s_L_beaten) 2 "_law_letters" = true := by decide +kernel
theorem a_L_beaten_3 : atB n_L_beaten (defScope s_L_beaten) 3 "_law_beat" = true := by decide +kernel
theorem a_L_beaten_4 : atB n_L_beaten (defScope s_L_beaten) 4 "_law_found" = true := by decide +kernel
theorem a_L_beaten_5 : atB n_L_beaten (defScope s_L_beaten) 5 "_law_word" = true := by decide +kernel
theorem a_L_beaten_6 : atB n_L_beaten (defScope s_L_beaten) 6 "_law_number" = true := by decide +kernel
theorem a_L_beaten_7 : atB n_L_beaten (defScope s_L_beaten) 7 "_law_when" = true := by decide +kernel
theorem a_L_beaten_8 : atB n_L_beaten (defScope s_L_beaten) 8 "_law_until" = true := by decide +kernel
theorem a_L_beaten_9 : atB n_L_beaten (defScope s_L_beaten) 9 "_law_wants" = true := by decide +kernel
local macro_rules | `(tactic| wtm_at "v L_beaten") => `(tactic| first
  | ((with_reducible refine' ex_var (i := 0) (x := "_law_book_here") ?h ?g ?q); (case h => exact At.of rfl rfl a_L_beaten_0); (case g => rfl))
  | ((with_reducible refine' ex_var (i := 1) (x := "_law_state") ?h ?g ?q); (case h => exact At.of rfl rfl a_L_beaten_1); (case g => rfl))
  | ((with_reducible refine' ex_var (i := 2) (x := "_law_letters") ?h ?g ?q); (case h => exact At.of rfl rfl a_L_beaten_2); (case g => rfl))
  | ((with_reducible refine' ex_var (i := 3) (x := "_law_beat") ?h ?g ?q); (case h => exact At.of rfl rfl a_L_beaten_3); (case g => rfl))
  | ((with_reducible refine' ex_var (i := 4) (x := "_law_found") ?h ?g ?q); (case h => exact At.of rfl rfl a_L_beaten_4); (case g => rfl))
  | ((with_reducible refine' ex_var (i := 5) (x := "_law_word") ?h ?g ?q); (case h => exact At.of rfl rfl a_L_beaten_5); (case g => rfl))
  | ((with_reducible refine' ex_var (i := 6) (x := "_law_number") ?h ?g ?q); (case h => exact At.of rfl rfl a_L_beaten_6); (case g => rfl))
  | ((with_reducible refine' ex_var (i := 7) (x := "_law_when") ?h ?g ?q); (case h => exact At.of rfl rfl a_L_beaten_7); (case g => rfl))
  | ((with_reducible refine' ex_var (i := 8) (x := "_law_until") ?h ?g ?q); (case h => exact At.of rfl rfl a_L_beaten_8); (case g => rfl))
  | ((with_reducible refine' ex_var (i := 9) (x := "_law_wants") ?h ?g ?q); (case h => exact At.of rfl rfl a_L_beaten_9); (case g => rfl))
  | ((with_reducible refine sx_set (i := 0) (x := "_law_book_here") ?h ?s ?q); (case h => exact Lc.of sc_L_beaten.nd rfl rfl (.inl rfl) a_L_beaten_0); (case s => rfl))
  | ((with_reducible refine gx_name (i := 0) (x := "_law_book_here") ?h ?q); (case h => exact Lc.of sc_L_beaten.nd rfl rfl (.inl rfl) a_L_beaten_0))
  | ((with_reducible refine sx_set (i := 1) (x := "_law_state") ?h ?s ?q); (case h => exact Lc.of sc_L_beaten.nd rfl rfl (.inl rfl) a_L_beaten_1); (case s => rfl))
  | ((with_reducible refine gx_name (i := 1) (x := "_law_state") ?h ?q); (case h => exact Lc.of sc_L_beaten.nd rfl rfl (.inl rfl) a_L_beaten_1))
  | ((with_reducible refine sx_set (i := 2) (x := "_law_letters") ?h ?s ?q); (case h => exact Lc.of sc_L_beaten.nd rfl rfl (.inl rfl) a_L_beaten_2); (case s => rfl))
  | ((with_reducible refine gx_name (i := 2) (x := "_law_letters") ?h ?q); (case h => exact Lc.of sc_L_beaten.nd rfl rfl (.inl rfl) a_L_beaten_2))
  | ((with_reducible refine sx_set (i := 3) (x := "_law_beat") ?h ?s ?q); (case h => exact Lc.of sc_L_beaten.nd rfl rfl (.inl rfl) a_L_beaten_3); (case s => rfl))
  | ((with_reducible refine gx_name (i := 3) (x := "_law_beat") ?h ?q); (case h => exact Lc.of sc_L_beaten.nd rfl rfl (.inl rfl) a_L_beaten_3))
  | ((with_reducible refine sx_set (i := 4) (x := "_law_found") ?h ?s ?q); (case h => exact Lc.of sc_L_beaten.nd rfl rfl (.inl rfl) a_L_beaten_4); (case s => rfl))
  | ((with_reducible refine gx_name (i := 4) (x := "_law_found") ?h ?q); (case h => exact Lc.of sc_L_beaten.nd rfl rfl (.inl rfl) a_L_beaten_4))
  | ((with_reducible refine sx_set (i := 5) (x := "_law_word") ?h ?s ?q); (case h => exact Lc.of sc_L_beaten.nd rfl rfl (.inl rfl) a_L_beaten_5); (case s => rfl))
  | ((with_reducible refine gx_name (i := 5) (x := "_law_word") ?h ?q); (case h => exact Lc.of sc_L_beaten.nd rfl rfl (.inl rfl) a_L_beaten_5))
  | ((with_reducible refine sx_set (i := 6) (x := "_law_number") ?h ?s ?q); (case h => exact Lc.of sc_L_beaten.nd rfl rfl (.inl rfl) a_L_beaten_6); (case s => rfl))
  | ((with_reducible refine gx_name (i := 6) (x := "_law_number") ?h ?q); (case h => exact Lc.of sc_L_beaten.nd rfl rfl (.inl rfl) a_L_beaten_6))
  | ((with_reducible refine sx_set (i := 7) (x := "_law_when") ?h ?s ?q); (case h => exact Lc.of sc_L_beaten.nd rfl rfl (.inl rfl) a_L_beaten_7); (case s => rfl))
  | ((with_reducible refine gx_name (i := 7) (x := "_law_when") ?h ?q); (case h => exact Lc.of sc_L_beaten.nd rfl rfl (.inl rfl) a_L_beaten_7))
  | ((with_reducible refine sx_set (i := 8) (x := "_law_until") ?h ?s ?q); (case h => exact Lc.of sc_L_beaten.nd rfl rfl (.inl rfl) a_L_beaten_8); (case s => rfl))
  | ((with_reducible refine gx_name (i := 8) (x := "_law_until") ?h ?q); (case h => exact Lc.of sc_L_beaten.nd rfl rfl (.inl rfl) a_L_beaten_8))
  | ((with_reducible refine sx_set (i := 9) (x := "_law_wants") ?h ?s ?q); (case h => exact Lc.of sc_L_beaten.nd rfl rfl (.inl rfl) a_L_beaten_9); (case s => rfl))
  | ((with_reducible refine gx_name (i := 9) (x := "_law_wants") ?h ?q); (case h => exact Lc.of sc_L_beaten.nd rfl rfl (.inl rfl) a_L_beaten_9)))
local macro_rules | `(tactic| wtm_at "vb L_beaten") => `(tactic| first
  | ((with_reducible refine' ex_var (i := 0) (x := "_law_book_here") ?h ?g ?q); (case h => exact At.b rfl (by first | exact Or.inl rfl | exact Or.inr (Or.inl rfl) | exact Or.inr (Or.inr rfl))); (case g => rfl))
  | ((with_reducible refine' ex_var (i := 1) (x := "_law_state") ?h ?g ?q); (case h => exact At.b rfl (by first | exact Or.inl rfl | exact Or.inr (Or.inl rfl) | exact Or.inr (Or.inr rfl))); (case g => rfl))
  | ((with_reducible refine' ex_var (i := 2) (x := "_law_letters") ?h ?g ?q); (case h => exact At.b rfl (by first | exact Or.inl rfl | exact Or.inr (Or.inl rfl) | exact Or.inr (Or.inr rfl))); (case g => rfl))
  | ((with_reducible refine' ex_var (i := 3) (x := "_law_beat") ?h ?g ?q); (case h => exact At.b rfl (by first | exact Or.inl rfl | exact Or.inr (Or.inl rfl) | exact Or.inr (Or.inr rfl))); (case g => rfl))
  | ((with_reducible refine' ex_var (i := 4) (x := "_law_found") ?h ?g ?q); (case h => exact At.b rfl (by first | exact Or.inl rfl | exact Or.inr (Or.inl rfl) | exact Or.inr (Or.inr rfl))); (case g => rfl))
  | ((with_reducible refine' ex_var (i := 5) (x := "_law_word") ?h ?g ?q); (case h => exact At.b rfl (by first | exact Or.inl rfl | exact Or.inr (Or.inl rfl) | exact Or.inr (Or.inr rfl))); (case g => rfl))
  | ((with_reducible refine' ex_var (i := 6) (x := "_law_number") ?h ?g ?q); (case h => exact At.b rfl (by first | exact Or.inl rfl | exact Or.inr (Or.inl rfl) | exact Or.inr (Or.inr rfl))); (case g => rfl))
  | ((with_reducible refine' ex_var (i := 7) (x := "_law_when") ?h ?g ?q); (case h => exact At.b rfl (by first | exact Or.inl rfl | exact Or.inr (Or.inl rfl) | exact Or.inr (Or.inr rfl))); (case g => rfl))
  | ((with_reducible refine' ex_var (i := 8) (x := "_law_until") ?h ?g ?q); (case h => exact At.b rfl (by first | exact Or.inl rfl | exact Or.inr (Or.inl rfl) | exact Or.inr (Or.inr rfl))); (case g => rfl))
  | ((with_reducible refine' ex_var (i := 9) (x := "_law_wants") ?h ?g ?q); (case h => exact At.b rfl (by first | exact Or.inl rfl | exact Or.inr (Or.inl rfl) | exact Or.inr (Or.inr rfl))); (case g => rfl))
  | ((with_reducible refine' ex_var (i := 10) (x := "_law_one") ?h ?g ?q); (case h => exact At.b rfl (by first | exact Or.inl rfl | exact Or.inr (Or.inl rfl) | exact Or.inr (Or.inr rfl))); (case g => rfl)))
local macro_rules | `(tactic| wtm_at "w L_beaten") => `(tactic| repeat (first | wtm_at "v L_beaten" | wtm_at "e" | wtm_at "ei" | wtm_at "c"))
local macro_rules | `(tactic| wtm_at "wb L_beaten") => `(tactic| repeat (first | wtm_at "vb L_beaten" | wtm_at "e" | wtm_at "cb"))
local macro_rules | `(tactic| wtm_at "g L_beaten") => `(tactic| repeat (first | wtm_at "v L_beaten" | wtm_at "e2" | wtm_at "e" | wtm_at "ei" | wtm_at "c"))
local macro_rules | `(tactic| wtm_at "gb L_beaten") => `(tactic| repeat (first | wtm_at "vb L_beaten" | wtm_at "e2" | wtm_at "e" | wtm_at "cb"))
local macro_rules | `(tactic| wtm_at "h L_beaten") => `(tactic| repeat (first | wtm_at "v L_beaten" | wtm_at "e2" | wtm_at "e" | wtm_at "c"))
local macro_rules | `(tactic| wtm_at "gx L_beaten") => `(tactic| repeat (first | wtm_at "v L_beaten" | wtm_at "e2" | wtm_at "e" | wtm_at "ei" | wtm_at "cx"))
local macro_rules | `(tactic| wtm_at "hx L_beaten") => `(tactic| repeat (first | wtm_at "v L_beaten" | wtm_at "e2" | wtm_at "e" | wtm_at "cx"))
local macro_rules | `(tactic| wtm_at "gy L_beaten") => `(tactic| repeat (first | wtm_at "vb L_beaten" | wtm_at "e2" | wtm_at "e" | wtm_at "cx"))
local macro_rules | `(tactic| wtm_at "hx1 L_beaten") => `(tactic| first | wtm_at "v L_beaten" | wtm_at "e2" | wtm_at "e" | wtm_at "cx")
local macro_rules | `(tactic| wtm_at "lc L_beaten 0") => `(tactic| refine' ex_lc (own := [("_law_one", 10)]) (t := .inl 10)  rfl sc_L_beaten.nd (blkOk_by (N := n_L_beaten) (sc := defScope s_L_beaten) (by decide +kernel)) (by decide) (fun _ _ _ _ _ => pg_name (i := 10) sc_L_beaten.nd rfl (by first | exact Or.inl rfl | exact Or.inr rfl)) (fun _ => rfl) ?_)
local macro_rules | `(tactic| wtm_at "lcM L_beaten 0") => `(tactic| refine' ex_lcM (own := [("_law_one", 10)]) (t := .inl 10)  rfl sc_L_beaten.nd (blkOk_by (N := n_L_beaten) (sc := defScope s_L_beaten) (by decide +kernel)) (by decide) (fun _ _ _ _ _ => pg_name (i := 10) sc_L_beaten.nd rfl (by first | exact Or.inl rfl | exact Or.inr rfl)) (fun _ => rfl) ?_)
local macro_rules | `(tactic| wtm_at "lcp L_beaten 0") => `(tactic| refine' ex_lcp (own := [("_law_one", 10)]) (t := .inl 10) ?f rfl sc_L_beaten.nd (blkOk_by (N := n_L_beaten) (sc := defScope s_L_beaten) (by decide +kernel)) (by decide) (fun _ _ _ _ _ => pg_name (i := 10) sc_L_beaten.nd rfl (by first | exact Or.inl rfl | exact Or.inr rfl)) (fun _ => rfl) ?_)
local macro_rules | `(tactic| wtm_at "lcpM L_beaten 0") => `(tactic| refine' ex_lcpM (own := [("_law_one", 10)]) (t := .inl 10) ?f rfl sc_L_beaten.nd (blkOk_by (N := n_L_beaten) (sc := defScope s_L_beaten) (by decide +kernel)) (by decide) (fun _ _ _ _ _ => pg_name (i := 10) sc_L_beaten.nd rfl (by first | exact Or.inl rfl | exact Or.inr rfl)) (fun _ => rfl) ?_)
abbrev X_L_beaten (P : Program) (w : World) (K : PySem.W.Frag) (mg : Str → Option Value) (base : Heap) (f : Addr) (cdv : Value) (A : Around) (outer : List Env) (s : Shared) (H : Hp) (E : XK) : Cx := (cxOf CX0 P w K mg base n_L_beaten "_law_beaten" (defScope s_L_beaten) f cdv A outer s H E).nox
abbrev s_L_done_at : Stmt := top 33
abbrev n_L_done_at : List Str := ["_law_book_here", "_law_comes", "_law_state", "_law_found", "_law_last", "_law_beat", "_law_k", "_law_letters", "_law_after", "_law_one", "_law_command"]
theorem sc_L_done_at : FnScope n_L_done_at ["_law_book_here", "_law_comes"] (defScope s_L_done_at) := ⟨rfl, rfl, rfl, by decide +kernel, rfl, by decide +kernel, by decide +kernel⟩
theorem a_L_done_at_0 : atB n_L_done_at (defScope s_L_done_at) 0 "_law_book_here" = true := by decide +kernel
theorem a_L_done_at_1 : atB n_L_done_at (defScope s_L_done_at) 1 "_law_comes" = true := by decide +kernel
theorem a_L_done_at_2 : atB n_L_done_at (defScope s_L_done_at) 2 "_law_state" = true := by decide +kernel
theorem a_L_done_at_3 : atB n_L_done_at (defScope s_L_done_at) 3 "_law_found" = true := by decide +kernel
theorem a_L_done_at_4 : atB n_L_done_at (defScope s_L_done_at) 4 "_law_last" = true := by decide +kernel
theorem a_L_done_at_5 : atB n_L_done_at (defScope s_L_done_at) 5 "_law_beat" = true := by decide +kernel
theorem a_L_done_at_6 : atB n_L_done_at (defScope s_L_done_at) 6 "_law_k" = true := by decide +kernel
theorem a_L_done_at_7 : atB n_L_done_at (defScope s_L_done_at) 7 "_law_letters" = true := by decide +kernel
theorem a_L_done_at_8 : atB n_L_done_at (defScope s_L_done_at) 8 "_law_after" = true := by decide +kernel
local macro_rules | `(tactic| wtm_at "v L_done_at") => `(tactic| first
  | ((with_reducible refine' ex_var (i := 0) (x := "_law_book_here") ?h ?g ?q); (case h => exact At.of rfl rfl a_L_done_at_0); (case g => rfl))
  | ((with_reducible refine' ex_var (i := 1) (x := "_law_comes") ?h ?g ?q); (case h => exact At.of rfl rfl a_L_done_at_1); (case g => rfl))
  | ((with_reducible refine' ex_var (i := 2) (x := "_law_state") ?h ?g ?q); (case h => exact At.of rfl rfl a_L_done_at_2); (case g => rfl))
  | ((with_reducible refine' ex_var (i := 3) (x := "_law_found") ?h ?g ?q); (case h => exact At.of rfl rfl a_L_done_at_3); (case g => rfl))
  | ((with_reducible refine' ex_var (i := 4) (x := "_law_last") ?h ?g ?q); (case h => exact At.of rfl rfl a_L_done_at_4); (case g => rfl))
  | ((with_reducible refine' ex_var (i := 5) (x := "_law_beat") ?h ?g ?q); (case h => exact At.of rfl rfl a_L_done_at_5); (case g => rfl))
  | ((with_reducible refine' ex_var (i := 6) (x := "_law_k") ?h ?g ?q); (case h => exact At.of rfl rfl a_L_done_at_6); (case g => rfl))
  | ((with_reducible refine' ex_var (i := 7) (x := "_law_letters") ?h ?g ?q); (case h => exact At.of rfl rfl a_L_done_at_7); (case g => rfl))
  | ((with_reducible refine' ex_var (i := 8) (x := "_law_after") ?h ?g ?q); (case h => exact At.of rfl rfl a_L_done_at_8); (case g => rfl))
  | ((with_reducible refine sx_set (i := 0) (x := "_law_book_here") ?h ?s ?q); (case h => exact Lc.of sc_L_done_at.nd rfl rfl (.inl rfl) a_L_done_at_0); (case s => rfl))
  | ((with_reducible refine gx_name (i := 0) (x := "_law_book_here") ?h ?q); (case h => exact Lc.of sc_L_done_at.nd rfl rfl (.inl rfl) a_L_done_at_0))
  | ((with_reducible refine sx_set (i := 1) (x := "_law_comes") ?h ?s ?q); (case h => exact Lc.of sc_L_done_at.nd rfl rfl (.inl rfl) a_L_done_at_1); (case s => rfl))
  | ((with_reducible refine gx_name (i := 1) (x := "_law_comes") ?h ?q); (case h => exact Lc.of sc_L_done_at.nd rfl rfl (.inl rfl) a_L_done_at_1))
  | ((with_reducible refine sx_set (i := 2) (x := "_law_state") ?h ?s ?q); (case h => exact Lc.of sc_L_done_at.nd rfl rfl (.inl rfl) a_L_done_at_2); (case s => rfl))
  | ((with_reducible refine gx_name (i := 2) (x := "_law_state") ?h ?q); (case h => exact Lc.of sc_L_done_at.nd rfl rfl (.inl rfl) a_L_done_at_2))
  | ((with_reducible refine sx_set (i := 3) (x := "_law_found") ?h ?s ?q); (case h => exact Lc.of sc_L_done_at.nd rfl rfl (.inl rfl) a_L_done_at_3); (case s => rfl))
  | ((with_reducible refine gx_name (i := 3) (x := "_law_found") ?h ?q); (case h => exact Lc.of sc_L_done_at.nd rfl rfl (.inl rfl) a_L_done_at_3))
  | ((with_reducible refine sx_set (i := 4) (x := "_law_last") ?h ?s ?q); (case h => exact Lc.of sc_L_done_at.nd rfl rfl (.inl rfl) a_L_done_at_4); (case s => rfl))
  | ((with_reducible refine gx_name (i := 4) (x := "_law_last") ?h ?q); (case h => exact Lc.of sc_L_done_at.nd rfl rfl (.inl rfl) a_L_done_at_4))
  | ((with_reducible refine sx_set (i := 5) (x := "_law_beat") ?h ?s ?q); (case h => exact Lc.of sc_L_done_at.nd rfl rfl (.inl rfl) a_L_done_at_5); (case s => rfl))
  | ((with_reducible refine gx_name (i := 5) (x := "_law_beat") ?h ?q); (case h => exact Lc.of sc_L_done_at.nd rfl rfl (.inl rfl) a_L_done_at_5))
  | ((with_reducible refine sx_set (i := 6) (x := "_law_k") ?h ?s ?q); (case h => exact Lc.of sc_L_done_at.nd rfl rfl (.inl rfl) a_L_done_at_6); (case s => rfl))
  | ((with_reducible refine gx_name (i := 6) (x := "_law_k") ?h ?q); (case h => exact Lc.of sc_L_done_at.nd rfl rfl (.inl rfl) a_L_done_at_6))
  | ((with_reducible refine sx_set (i := 7) (x := "_law_letters") ?h ?s ?q); (case h => exact Lc.of sc_L_done_at.nd rfl rfl (.inl rfl) a_L_done_at_7); (case s => rfl))
  | ((with_reducible refine gx_name (i := 7) (x := "_law_letters") ?h ?q); (case h => exact Lc.of sc_L_done_at.nd rfl rfl (.inl rfl) a_L_done_at_7))
  | ((with_reducible refine sx_set (i := 8) (x := "_law_after") ?h ?s ?q); (case h => exact Lc.of sc_L_done_at.nd rfl rfl (.inl rfl) a_L_done_at_8); (case s => rfl))
  | ((with_reducible refine gx_name (i := 8) (x := "_law_after") ?h ?q); (case h => exact Lc.of sc_L_done_at.nd rfl rfl (.inl rfl) a_L_done_at_8)))
local macro_rules | `(tactic| wtm_at "vb L_done_at") => `(tactic| first
  | ((with_reducible refine' ex_var (i := 0) (x := "_law_book_here") ?h ?g ?q); (case h => exact At.b rfl (by first | exact Or.inl rfl | exact Or.inr (Or.inl rfl) | exact Or.inr (Or.inr rfl))); (case g => rfl))
  | ((with_reducible refine' ex_var (i := 1) (x := "_law_comes") ?h ?g ?q); (case h => exact At.b rfl (by first | exact Or.inl rfl | exact Or.inr (Or.inl rfl) | exact Or.inr (Or.inr rfl))); (case g => rfl))
  | ((with_reducible refine' ex_var (i := 2) (x := "_law_state") ?h ?g ?q); (case h => exact At.b rfl (by first | exact Or.inl rfl | exact Or.inr (Or.inl rfl) | exact Or.inr (Or.inr rfl))); (case g => rfl))
  | ((with_reducible refine' ex_var (i := 3) (x := "_law_found") ?h ?g ?q); (case h => exact At.b rfl (by first | exact Or.inl rfl | exact Or.inr (Or.inl rfl) | exact Or.inr (Or.inr rfl))); (case g => rfl))
  | ((with_reducible refine' ex_var (i := 4) (x := "_law_last") ?h ?g ?q); (case h => exact At.b rfl (by first | exact Or.inl rfl | exact Or.inr (Or.inl rfl) | exact Or.inr (Or.inr rfl))); (case g => rfl))
  | ((with_reducible refine' ex_var (i := 5) (x := "_law_beat") ?h ?g ?q); (case h => exact At.b rfl (by first | exact Or.inl rfl | exact Or.inr (Or.inl rfl) | exact Or.inr (Or.inr rfl))); (case g => rfl))
  | ((with_reducible refine' ex_var (i := 6) (x := "_law_k") ?h ?g ?q); (case h => exact At.b rfl (by first | exact Or.inl rfl | exact Or.inr (Or.inl rfl) | exact Or.inr (Or.inr rfl))); (case g => rfl))
  | ((with_reducible refine' ex_var (i := 7) (x := "_law_letters") ?h ?g ?q); (case h => exact At.b rfl (by first | exact Or.inl rfl | exact Or.inr (Or.inl rfl) | exact Or.inr (Or.inr rfl))); (case g => rfl))
  | ((with_reducible refine' ex_var (i := 8) (x := "_law_after") ?h ?g ?q); (case h => exact At.b rfl (by first | exact Or.inl rfl | exact Or.inr (Or.inl rfl) | exact Or.inr (Or.inr rfl))); (case g => rfl))
  | ((with_reducible refine' ex_var (i := 9) (x := "_law_one") ?h ?g ?q); (case h => exact At.b rfl (by first | exact Or.inl rfl | exact Or.inr (Or.inl rfl) | exact Or.inr (Or.inr rfl))); (case g => rfl))
  | ((with_reducible refine' ex_var (i := 10) (x := "_law_command") ?h ?g ?q); (case h => exact At.b rfl (by first | exact Or.inl rfl | exact Or.inr (Or.inl rfl) | exact Or.inr (Or.inr rfl))); (case g => rfl)))
local macro_rules | `(tactic| wtm_at "w L_done_at") => `(tactic| repeat (first | wtm_at "v L_done_at" | wtm_at "e" | wtm_at "ei" | wtm_at "c"))
local macro_rules | `(tactic| wtm_at "wb L_done_at") => `(tactic| repeat (first | wtm_at "vb L_done_at" | wtm_at "e" | wtm_at "cb"))
local macro_rules | `(tactic| wtm_at "g L_done_at") => `(tactic| repeat (first | wtm_at "v L_done_at" | wtm_at "e2" | wtm_at "e" | wtm_at "ei" | wtm_at "c"))
local macro_rules | `(tactic| wtm_at "gb L_done_at") => `(tactic| repeat (first | wtm_at "vb L_done_at" | wtm_at "e2" | wtm_at "e" | wtm_at "cb"))
local macro_rules | `(tactic| wtm_at "h L_done_at") => `(tactic| repeat (first | wtm_at "v L_done_at" | wtm_at "e2" | wtm_at "e" | wtm_at "c"))
local macro_rules | `(tactic| wtm_at "gx L_done_at") => `(tactic| repeat (first | wtm_at "v L_done_at" | wtm_at "e2" | wtm_at "e" | wtm_at "ei" | wtm_at "cx"))
local macro_rules | `(tactic| wtm_at "hx L_done_at") => `(tactic| repeat (first | wtm_at "v L_done_at" | wtm_at "e2" | wtm_at "e" | wtm_at "cx"))
local macro_rules | `(tactic| wtm_at "gy L_done_at") => `(tactic| repeat (first | wtm_at "vb L_done_at" | wtm_at "e2" | wtm_at "e" | wtm_at "cx"))
local macro_rules | `(tactic| wtm_at "hx1 L_done_at") => `(tactic| first | wtm_at "v L_done_at" | wtm_at "e2" | wtm_at "e" | wtm_at "cx")
local macro_rules | `(tactic| wtm_at "lc L_done_at 0") => `(tactic| refine' ex_lc (own := [("_law_one", 9)]) (t := .inl 9)  rfl sc_L_done_at.nd (blkOk_by (N := n_L_done_at) (sc := defScope s_L_done_at) (by decide +kernel)) (by decide) (fun _ _ _ _ _ => pg_name (i := 9) sc_L_done_at.nd rfl (by first | exact Or.inl rfl | exact Or.inr rfl)) (fun _ => rfl) ?_)
local macro_rules | `(tactic| wtm_at "lcM L_done_at 0") => `(tactic| refine' ex_lcM (own := [("_law_one", 9)]) (t := .inl 9)  rfl sc_L_done_at.nd (blkOk_by (N := n_L_done_at) (sc := defScope s_L_done_at) (by decide +kernel)) (by decide) (fun _ _ _ _ _ => pg_name (i := 9) sc_L_done_at.nd rfl (by first | exact Or.inl rfl | exact Or.inr rfl)) (fun _ => rfl) ?_)
local macro_rules | `(tactic| wtm_at "lcp L_done_at 0") => `(tactic| refine' ex_lcp (own := [("_law_one", 9)]) (t := .inl 9) ?f rfl sc_L_done_at.nd (blkOk_by (N := n_L_done_at) (sc := defScope s_L_done_at) (by decide +kernel)) (by decide) (fun _ _ _ _ _ => pg_name (i := 9) sc_L_done_at.nd rfl (by first | exact Or.inl rfl | exact Or.inr rfl)) (fun _ => rfl) ?_)
local macro_rules | `(tactic| wtm_at "lcpM L_done_at 0") => `(tactic| refine' ex_lcpM (own := [("_law_one", 9)]) (t := .inl 9) ?f rfl sc_L_done_at.nd (blkOk_by (N := n_L_done_at) (sc := defScope s_L_done_at) (by decide +kernel)) (by decide) (fun _ _ _ _ _ => pg_name (i := 9) sc_L_done_at.nd rfl (by first | exact Or.inl rfl | exact Or.inr rfl)) (fun _ => rfl) ?_)
local macro_rules | `(tactic| wtm_at "lc L_done_at 1") => `(tactic| refine' ex_lc (own := [("_law_command", 10)]) (t := .inl 10)  rfl sc_L_done_at.nd (blkOk_by (N := n_L_done_at) (sc := defScope s_L_done_at) (by decide +kernel)) (by decide) (fun _ _ _ _ _ => pg_name (i := 10) sc_L_done_at.nd rfl (by first | exact Or.inl rfl | exact Or.inr rfl)) (fun _ => rfl) ?_)
local macro_rules | `(tactic| wtm_at "lcM L_done_at 1") => `(tactic| refine' ex_lcM (own := [("_law_command", 10)]) (t := .inl 10)  rfl sc_L_done_at.nd (blkOk_by (N := n_L_done_at) (sc := defScope s_L_done_at) (by decide +kernel)) (by decide) (fun _ _ _ _ _ => pg_name (i := 10) sc_L_done_at.nd rfl (by first | exact Or.inl rfl | exact Or.inr rfl)) (fun _ => rfl) ?_)
local macro_rules | `(tactic| wtm_at "lcp L_done_at 1") => `(tactic| refine' ex_lcp (own := [("_law_command", 10)]) (t := .inl 10) ?f rfl sc_L_done_at.nd (blkOk_by (N := n_L_done_at) (sc := defScope s_L_done_at) (by decide +kernel)) (by decide) (fun _ _ _ _ _ => pg_name (i := 10) sc_L_done_at.nd rfl (by first | exact Or.inl rfl | exact Or.inr rfl)) (fun _ => rfl) ?_)
local macro_rules | `(tactic| wtm_at "lcpM L_done_at 1") => `(tactic| refine' ex_lcpM (own := [("_law_command", 10)]) (t := .inl 10) ?f rfl sc_L_done_at.nd (blkOk_by (N := n_L_done_at) (sc := defScope s_L_done_at) (by decide +kernel)) (by decide) (fun _ _ _ _ _ => pg_name (i := 10) sc_L_done_at.nd rfl (by first | exact Or.inl rfl | exact Or.inr rfl)) (fun _ => rfl) ?_)
local macro_rules | `(tactic| wtm_at "lc L_done_at 2") => `(tactic| refine' ex_lc (own := [("_law_k", 6)]) (t := .inl 6)  rfl sc_L_done_at.nd (blkOk_by (N := n_L_done_at) (sc := defScope s_L_done_at) (by decide +kernel)) (by decide) (fun _ _ _ _ _ => pg_name (i := 6) sc_L_done_at.nd rfl (by first | exact Or.inl rfl | exact Or.inr rfl)) (fun _ => rfl) ?_)
local macro_rules | `(tactic| wtm_at "lcM L_done_at 2") => `(tactic| refine' ex_lcM (own := [("_law_k", 6)]) (t := .inl 6)  rfl sc_L_done_at.nd (blkOk_by (N := n_L_done_at) (sc := defScope s_L_done_at) (by decide +kernel)) (by decide) (fun _ _ _ _ _ => pg_name (i := 6) sc_L_done_at.nd rfl (by first | exact Or.inl rfl | exact Or.inr rfl)) (fun _ => rfl) ?_)
local macro_rules | `(tactic| wtm_at "lcp L_done_at 2") => `(tactic| refine' ex_lcp (own := [("_law_k", 6)]) (t := .inl 6) ?f rfl sc_L_done_at.nd (blkOk_by (N := n_L_done_at) (sc := defScope s_L_done_at) (by decide +kernel)) (by decide) (fun _ _ _ _ _ => pg_name (i := 6) sc_L_done_at.nd rfl (by first | exact Or.inl rfl | exact Or.inr rfl)) (fun _ => rfl) ?_)
local macro_rules | `(tactic| wtm_at "lcpM L_done_at 2") => `(tactic| refine' ex_lcpM (own := [("_law_k", 6)]) (t := .inl 6) ?f rfl sc_L_done_at.nd (blkOk_by (N := n_L_done_at) (sc := defScope s_L_done_at) (by decide +kernel)) (by decide) (fun _ _ _ _ _ => pg_name (i := 6) sc_L_done_at.nd rfl (by first | exact Or.inl rfl | exact Or.inr rfl)) (fun _ => rfl) ?_)
local macro_rules | `(tactic| wtm_at "slc L_done_at 2") => `(tactic| refine' sx_setLc (i := 7) (own := [("_law_k", 6)]) (t := .inl 6)  rfl sc_L_done_at.nd rfl rfl (sw_true rfl rfl rfl (by decide +kernel)) (blkOk_by (N := n_L_done_at) (sc := defScope s_L_done_at) (by decide +kernel)) (by decide) (fun _ _ _ _ _ => pg_name (i := 6) sc_L_done_at.nd rfl (by first | exact Or.inl rfl | exact Or.inr rfl)) (fun _ => rfl) ?_)
local macro_rules | `(tactic| wtm_at "slcM L_done_at 2") => `(tactic| refine' sx_setLcM (i := 7) (own := [("_law_k", 6)]) (t := .inl 6)  rfl sc_L_done_at.nd rfl rfl (sw_true rfl rfl rfl (by decide +kernel)) (blkOk_by (N := n_L_done_at) (sc := defScope s_L_done_at) (by decide +kernel)) (by decide) (fun _ _ _ _ _ => pg_name (i := 6) sc_L_done_at.nd rfl (by first | exact Or.inl rfl | exact Or.inr rfl)) (fun _ => rfl) ?_)
local macro_rules | `(tactic| wtm_at "slcp L_done_at 2") => `(tactic| refine' sx_setLcp (i := 7) (own := [("_law_k", 6)]) (t := .inl 6) ?f rfl sc_L_done_at.nd rfl rfl (sw_true rfl rfl rfl (by decide +kernel)) (blkOk_by (N := n_L_done_at) (sc := defScope s_L_done_at) (by decide +kernel)) (by decide) (fun _ _ _ _ _ => pg_name (i := 6) sc_L_done_at.nd rfl (by first | exact Or.inl rfl | exact Or.inr rfl)) (fun _ => rfl) ?_)
abbrev X_L_done_at (P : Program) (w : World) (K : PySem.W.Frag) (mg : Str → Option Value) (base : Heap) (f : Addr) (cdv : Value) (A : Around) (outer : List Env) (s : Shared) (H : Hp) (E : XK) : Cx := (cxOf CX0 P w K mg base n_L_done_at "_law_done_at" (defScope s_L_done_at) f cdv A outer s H E).nox
abbrev s_L_slots : Stmt := top 34
abbrev n_L_slots : List Str := ["_law_windows_here", "_law_many", "_law_found", "_law_beat"]
theorem sc_L_slots : FnScope n_L_slots ["_law_windows_here", "_law_many"] (defScope s_L_slots) := ⟨rfl, rfl, rfl, by decide +kernel, rfl, by decide +kernel, by decide +kernel⟩
theorem a_L_slots_0 : atB n_L_slots (defScope s_L_slots) 0 "_law_windows_here" = true := by decide +kernel
theorem a_L_slots_1 : atB n_L_slots (defScope s_L_slots) 1 "_law_many" = true := by decide +kernel
theorem a_L_slots_2 : atB n_L_slots (defScope s_L_slots) 2 "_law_found" = true := by decide +kernel
theorem a_L_slots_3 : atB n_L_slots (defScope s_L_slots) 3 "_law_beat" = true := by decide +kernel
local macro_rules | `(tactic| wtm_at "v L_slots") => `(tactic| first
  | ((with_reducible refine' ex_var (i := 0) (x := "_law_windows_here") ?h ?g ?q); (case h => exact At.of rfl rfl a_L_slots_0); (case g => rfl))
  | ((with_reducible refine' ex_var (i := 1) (x := "_law_many") ?h ?g ?q); (case h => exact At.of rfl rfl a_L_slots_1); (case g => rfl))
  | ((with_reducible refine' ex_var (i := 2) (x := "_law_found") ?h ?g ?q); (case h => exact At.of rfl rfl a_L_slots_2); (case g => rfl))
  | ((with_reducible refine' ex_var (i := 3) (x := "_law_beat") ?h ?g ?q); (case h => exact At.of rfl rfl a_L_slots_3); (case g => rfl))
  | ((with_reducible refine sx_set (i := 0) (x := "_law_windows_here") ?h ?s ?q); (case h => exact Lc.of sc_L_slots.nd rfl rfl (.inl rfl) a_L_slots_0); (case s => rfl))
  | ((with_reducible refine gx_name (i := 0) (x := "_law_windows_here") ?h ?q); (case h => exact Lc.of sc_L_slots.nd rfl rfl (.inl rfl) a_L_slots_0))
  | ((with_reducible refine sx_set (i := 1) (x := "_law_many") ?h ?s ?q); (case h => exact Lc.of sc_L_slots.nd rfl rfl (.inl rfl) a_L_slots_1); (case s => rfl))
  | ((with_reducible refine gx_name (i := 1) (x := "_law_many") ?h ?q); (case h => exact Lc.of sc_L_slots.nd rfl rfl (.inl rfl) a_L_slots_1))
  | ((with_reducible refine sx_set (i := 2) (x := "_law_found") ?h ?s ?q); (case h => exact Lc.of sc_L_slots.nd rfl rfl (.inl rfl) a_L_slots_2); (case s => rfl))
  | ((with_reducible refine gx_name (i := 2) (x := "_law_found") ?h ?q); (case h => exact Lc.of sc_L_slots.nd rfl rfl (.inl rfl) a_L_slots_2))
  | ((with_reducible refine sx_set (i := 3) (x := "_law_beat") ?h ?s ?q); (case h => exact Lc.of sc_L_slots.nd rfl rfl (.inl rfl) a_L_slots_3); (case s => rfl))
  | ((with_reducible refine gx_name (i := 3) (x := "_law_beat") ?h ?q); (case h => exact Lc.of sc_L_slots.nd rfl rfl (.inl rfl) a_L_slots_3)))
local macro_rules | `(tactic| wtm_at "vb L_slots") => `(tactic| first
  | ((with_reducible refine' ex_var (i := 0) (x := "_law_windows_here") ?h ?g ?q); (case h => exact At.b rfl (by first | exact Or.inl rfl | exact Or.inr (Or.inl rfl) | exact Or.inr (Or.inr rfl))); (case g => rfl))
  | ((with_reducible refine' ex_var (i := 1) (x := "_law_many") ?h ?g ?q); (case h => exact At.b rfl (by first | exact Or.inl rfl | exact Or.inr (Or.inl rfl) | exact Or.inr (Or.inr rfl))); (case g => rfl))
  | ((with_reducible refine' ex_var (i := 2) (x := "_law_found") ?h ?g ?q); (case h => exact At.b rfl (by first | exact Or.inl rfl | exact Or.inr (Or.inl rfl) | exact Or.inr (Or.inr rfl))); (case g => rfl))
  | ((with_reducible refine' ex_var (i := 3) (x := "_law_beat") ?h ?g ?q); (case h => exact At.b rfl (by first | exact Or.inl rfl | exact Or.inr (Or.inl rfl) | exact Or.inr (Or.inr rfl))); (case g => rfl)))
local macro_rules | `(tactic| wtm_at "w L_slots") => `(tactic| repeat (first | wtm_at "v L_slots" | wtm_at "e" | wtm_at "ei" | wtm_at "c"))
local macro_rules | `(tactic| wtm_at "wb L_slots") => `(tactic| repeat (first | wtm_at "vb L_slots" | wtm_at "e" | wtm_at "cb"))
local macro_rules | `(tactic| wtm_at "g L_slots") => `(tactic| repeat (first | wtm_at "v L_slots" | wtm_at "e2" | wtm_at "e" | wtm_at "ei" | wtm_at "c"))
local macro_rules | `(tactic| wtm_at "gb L_slots") => `(tactic| repeat (first | wtm_at "vb L_slots" | wtm_at "e2" | wtm_at "e" | wtm_at "cb"))
local macro_rules | `(tactic| wtm_at "h L_slots") => `(tactic| repeat (first | wtm_at "v L_slots" | wtm_at "e2" | wtm_at "e" | wtm_at "c"))
local macro_rules | `(tactic| wtm_at "gx L_slots") => `(tactic| repeat (first | wtm_at "v L_slots" | wtm_at "e2" | wtm_at "e" | wtm_at "ei" | wtm_at "cx"))
local macro_rules | `(tactic| wtm_at "hx L_slots") => `(tactic| repeat (first | wtm_at "v L_slots" | wtm_at "e2" | wtm_at "e" | wtm_at "cx"))
local macro_rules | `(tactic| wtm_at "gy L_slots") => `(tactic| repeat (first | wtm_at "vb L_slots" | wtm_at "e2" | wtm_at "e" | wtm_at "cx"))
local macro_rules | `(tactic| wtm_at "hx1 L_slots") => `(tactic| first | wtm_at "v L_slots" | wtm_at "e2" | wtm_at "e" | wtm_at "cx")
abbrev X_L_slots (P : Program) (w : World) (K : PySem.W.Frag) (mg : Str → Option Value) (base : Heap) (f : Addr) (cdv : Value) (A : Around) (outer : List Env) (s : Shared) (H : Hp) (E : XK) : Cx := (cxOf CX0 P w K mg base n_L_slots "_law_slots" (defScope s_L_slots) f cdv A outer s H E).nox
abbrev s_L_orders : Stmt := top 35
abbrev n_L_orders : List Str := ["_law_some", "_law_found", "_law_one", "_law_others", "_law_other", "_law_rest"]
theorem sc_L_orders : FnScope n_L_orders ["_law_some"] (defScope s_L_orders) := ⟨rfl, rfl, rfl, by decide +kernel, rfl, by decide +kernel, by decide +kernel⟩
theorem a_L_orders_0 : atB n_L_orders (defScope s_L_orders) 0 "_law_some" = true := by decide +kernel
theorem a_L_orders_1 : atB n_L_orders (defScope s_L_orders) 1 "_law_found" = true := by decide +kernel
theorem a_L_orders_2 : atB n_L_orders (defScope s_L_orders) 2 "_law_one" = true := by decide +kernel
theorem a_L_orders_3 : atB n_L_orders (defScope s_L_orders) 3 "_law_others" = true := by decide +kernel
local macro_rules | `(tactic| wtm_at "v L_orders") => `(tactic| first
  | ((with_reducible refine' ex_var (i := 0) (x := "_law_some") ?h ?g ?q); (case h => exact At.of rfl rfl a_L_orders_0); (case g => rfl))
  | ((with_reducible refine' ex_var (i := 1) (x := "_law_found") ?h ?g ?q); (case h => exact At.of rfl rfl a_L_orders_1); (case g => rfl))
  | ((with_reducible refine' ex_var (i := 2) (x := "_law_one") ?h ?g ?q); (case h => exact At.of rfl rfl a_L_orders_2); (case g => rfl))
  | ((with_reducible refine' ex_var (i := 3) (x := "_law_others") ?h ?g ?q); (case h => exact At.of rfl rfl a_L_orders_3); (case g => rfl))
  | ((with_reducible refine sx_set (i := 0) (x := "_law_some") ?h ?s ?q); (case h => exact Lc.of sc_L_orders.nd rfl rfl (.inl rfl) a_L_orders_0); (case s => rfl))
  | ((with_reducible refine gx_name (i := 0) (x := "_law_some") ?h ?q); (case h => exact Lc.of sc_L_orders.nd rfl rfl (.inl rfl) a_L_orders_0))
  | ((with_reducible refine sx_set (i := 1) (x := "_law_found") ?h ?s ?q); (case h => exact Lc.of sc_L_orders.nd rfl rfl (.inl rfl) a_L_orders_1); (case s => rfl))
  | ((with_reducible refine gx_name (i := 1) (x := "_law_found") ?h ?q); (case h => exact Lc.of sc_L_orders.nd rfl rfl (.inl rfl) a_L_orders_1))
  | ((with_reducible refine sx_set (i := 2) (x := "_law_one") ?h ?s ?q); (case h => exact Lc.of sc_L_orders.nd rfl rfl (.inl rfl) a_L_orders_2); (case s => rfl))
  | ((with_reducible refine gx_name (i := 2) (x := "_law_one") ?h ?q); (case h => exact Lc.of sc_L_orders.nd rfl rfl (.inl rfl) a_L_orders_2))
  | ((with_reducible refine sx_set (i := 3) (x := "_law_others") ?h ?s ?q); (case h => exact Lc.of sc_L_orders.nd rfl rfl (.inl rfl) a_L_orders_3); (case s => rfl))
  | ((with_reducible refine gx_name (i := 3) (x := "_law_others") ?h ?q); (case h => exact Lc.of sc_L_orders.nd rfl rfl (.inl rfl) a_L_orders_3)))
local macro_rules | `(tactic| wtm_at "vb L_orders") => `(tactic| first
  | ((with_reducible refine' ex_var (i := 0) (x := "_law_some") ?h ?g ?q); (case h => exact At.b rfl (by first | exact Or.inl rfl | exact Or.inr (Or.inl rfl) | exact Or.inr (Or.inr rfl))); (case g => rfl))
  | ((with_reducible refine' ex_var (i := 1) (x := "_law_found") ?h ?g ?q); (case h => exact At.b rfl (by first | exact Or.inl rfl | exact Or.inr (Or.inl rfl) | exact Or.inr (Or.inr rfl))); (case g => rfl))
  | ((with_reducible refine' ex_var (i := 2) (x := "_law_one") ?h ?g ?q); (case h => exact At.b rfl (by first | exact Or.inl rfl | exact Or.inr (Or.inl rfl) | exact Or.inr (Or.inr rfl))); (case g => rfl))
  | ((with_reducible refine' ex_var (i := 3) (x := "_law_others") ?h ?g ?q); (case h => exact At.b rfl (by first | exact Or.inl rfl | exact Or.inr (Or.inl rfl) | exact Or.inr (Or.inr rfl))); (case g => rfl))
  | ((with_reducible refine' ex_var (i := 4) (x := "_law_other") ?h ?g ?q); (case h => exact At.b rfl (by first | exact Or.inl rfl | exact Or.inr (Or.inl rfl) | exact Or.inr (Or.inr rfl))); (case g => rfl))
  | ((with_reducible refine' ex_var (i := 5) (x := "_law_rest") ?h ?g ?q); (case h => exact At.b rfl (by first | exact Or.inl rfl | exact Or.inr (Or.inl rfl) | exact Or.inr (Or.inr rfl))); (case g => rfl)))
local macro_rules | `(tactic| wtm_at "w L_orders") => `(tactic| repeat (first | wtm_at "v L_orders" | wtm_at "e" | wtm_at "ei" | wtm_at "c"))
local macro_rules | `(tactic| wtm_at "wb L_orders") => `(tactic| repeat (first | wtm_at "vb L_orders" | wtm_at "e" | wtm_at "cb"))
local macro_rules | `(tactic| wtm_at "g L_orders") => `(tactic| repeat (first | wtm_at "v L_orders" | wtm_at "e2" | wtm_at "e" | wtm_at "ei" | wtm_at "c"))
local macro_rules | `(tactic| wtm_at "gb L_orders") => `(tactic| repeat (first | wtm_at "vb L_orders" | wtm_at "e2" | wtm_at "e" | wtm_at "cb"))
local macro_rules | `(tactic| wtm_at "h L_orders") => `(tactic| repeat (first | wtm_at "v L_orders" | wtm_at "e2" | wtm_at "e" | wtm_at "c"))
local macro_rules | `(tactic| wtm_at "gx L_orders") => `(tactic| repeat (first | wtm_at "v L_orders" | wtm_at "e2" | wtm_at "e" | wtm_at "ei" | wtm_at "cx"))
local macro_rules | `(tactic| wtm_at "hx L_orders") => `(tactic| repeat (first | wtm_at "v L_orders" | wtm_at "e2" | wtm_at "e" | wtm_at "cx"))
local macro_rules | `(tactic| wtm_at "gy L_orders") => `(tactic| repeat (first | wtm_at "vb L_orders" | wtm_at "e2" | wtm_at "e" | wtm_at "cx"))
local macro_rules | `(tactic| wtm_at "hx1 L_orders") => `(tactic| first | wtm_at "v L_orders" | wtm_at "e2" | wtm_at "e" | wtm_at "cx")
local macro_rules | `(tactic| wtm_at "lc L_orders 0") => `(tactic| refine' ex_lc (own := [("_law_other", 4)]) (t := .inl 4)  rfl sc_L_orders.nd (blkOk_by (N := n_L_orders) (sc := defScope s_L_orders) (by decide +kernel)) (by decide) (fun _ _ _ _ _ => pg_name (i := 4) sc_L_orders.nd rfl (by first | exact Or.inl rfl | exact Or.inr rfl)) (fun _ => rfl) ?_)
local macro_rules | `(tactic| wtm_at "lcM L_orders 0") => `(tactic| refine' ex_lcM (own := [("_law_other", 4)]) (t := .inl 4)  rfl sc_L_orders.nd (blkOk_by (N := n_L_orders) (sc := defScope s_L_orders) (by decide +kernel)) (by decide) (fun _ _ _ _ _ => pg_name (i := 4) sc_L_orders.nd rfl (by first | exact Or.inl rfl | exact Or.inr rfl)) (fun _ => rfl) ?_)
local macro_rules | `(tactic| wtm_at "lcp L_orders 0") => `(tactic| refine' ex_lcp (own := [("_law_other", 4)]) (t := .inl 4) ?f rfl sc_L_orders.nd (blkOk_by (N := n_L_orders) (sc := defScope s_L_orders) (by decide +kernel)) (by decide) (fun _ _ _ _ _ => pg_name (i := 4) sc_L_orders.nd rfl (by first | exact Or.inl rfl | exact Or.inr rfl)) (fun _ => rfl) ?_)
local macro_rules | `(tactic| wtm_at "lcpM L_orders 0") => `(tactic| refine' ex_lcpM (own := [("_law_other", 4)]) (t := .inl 4) ?f rfl sc_L_orders.nd (blkOk_by (N := n_L_orders) (sc := defScope s_L_orders) (by decide +kernel)) (by decide) (fun _ _ _ _ _ => pg_name (i := 4) sc_L_orders.nd rfl (by first | exact Or.inl rfl | exact Or.inr rfl)) (fun _ => rfl) ?_)
local macro_rules | `(tactic| wtm_at "slc L_orders 0") => `(tactic| refine' sx_setLc (i := 3) (own := [("_law_other", 4)]) (t := .inl 4)  rfl sc_L_orders.nd rfl rfl (sw_true rfl rfl rfl (by decide +kernel)) (blkOk_by (N := n_L_orders) (sc := defScope s_L_orders) (by decide +kernel)) (by decide) (fun _ _ _ _ _ => pg_name (i := 4) sc_L_orders.nd rfl (by first | exact Or.inl rfl | exact Or.inr rfl)) (fun _ => rfl) ?_)
local macro_rules | `(tactic| wtm_at "slcM L_orders 0") => `(tactic| refine' sx_setLcM (i := 3) (own := [("_law_other", 4)]) (t := .inl 4)  rfl sc_L_orders.nd rfl rfl (sw_true rfl rfl rfl (by decide +kernel)) (blkOk_by (N := n_L_orders) (sc := defScope s_L_orders) (by decide +kernel)) (by decide) (fun _ _ _ _ _ => pg_name (i := 4) sc_L_orders.nd rfl (by first | exact Or.inl rfl | exact Or.inr rfl)) (fun _ => rfl) ?_)
local macro_rules | `(tactic| wtm_at "slcp L_orders 0") => `(tactic| refine' sx_setLcp (i := 3) (own := [("_law_other", 4)]) (t := .inl 4) ?f rfl sc_L_orders.nd rfl rfl (sw_true rfl rfl rfl (by decide +kernel)) (blkOk_by (N := n_L_orders) (sc := defScope s_L_orders) (by decide +kernel)) (by decide) (fun _ _ _ _ _ => pg_name (i := 4) sc_L_orders.nd rfl (by first | exact Or.inl rfl | exact Or.inr rfl)) (fun _ => rfl) ?_)
local macro_rules | `(tactic| wtm_at "lc L_orders 1") => `(tactic| refine' ex_lc (own := [("_law_rest", 5)]) (t := .inl 5)  rfl sc_L_orders.nd (blkOk_by (N := n_L_orders) (sc := defScope s_L_orders) (by decide +kernel)) (by decide) (fun _ _ _ _ _ => pg_name (i := 5) sc_L_orders.nd rfl (by first | exact Or.inl rfl | exact Or.inr rfl)) (fun _ => rfl) ?_)
local macro_rules | `(tactic| wtm_at "lcM L_orders 1") => `(tactic| refine' ex_lcM (own := [("_law_rest", 5)]) (t := .inl 5)  rfl sc_L_orders.nd (blkOk_by (N := n_L_orders) (sc := defScope s_L_orders) (by decide +kernel)) (by decide) (fun _ _ _ _ _ => pg_name (i := 5) sc_L_orders.nd rfl (by first | exact Or.inl rfl | exact Or.inr rfl)) (fun _ => rfl) ?_)
local macro_rules | `(tactic| wtm_at "lcp L_orders 1") => `(tactic| refine' ex_lcp (own := [("_law_rest", 5)]) (t := .inl 5) ?f rfl sc_L_orders.nd (blkOk_by (N := n_L_orders) (sc := defScope s_L_orders) (by decide +kernel)) (by decide) (fun _ _ _ _ _ => pg_name (i := 5) sc_L_orders.nd rfl (by first | exact Or.inl rfl | exact Or.inr rfl)) (fun _ => rfl) ?_)
local macro_rules | `(tactic| wtm_at "lcpM L_orders 1") => `(tactic| refine' ex_lcpM (own := [("_law_rest", 5)]) (t := .inl 5) ?f rfl sc_L_orders.nd (blkOk_by (N := n_L_orders) (sc := defScope s_L_orders) (by decide +kernel)) (by decide) (fun _ _ _ _ _ => pg_name (i := 5) sc_L_orders.nd rfl (by first | exact Or.inl rfl | exact Or.inr rfl)) (fun _ => rfl) ?_)
abbrev X_L_orders (P : Program) (w : World) (K : PySem.W.Frag) (mg : Str → Option Value) (base : Heap) (f : Addr) (cdv : Value) (A : Around) (outer : List Env) (s : Shared) (H : Hp) (E : XK) : Cx := (cxOf CX0 P w K mg base n_L_orders "_law_orders" (defScope s_L_orders) f cdv A outer s H E).nox
abbrev s_law : Stmt := top 36
abbrev n_law : List Str := ["_law_script", "_law_row", "_law_turn", "_law_most", "_law_book_here", "_law_far", "_law_delay", "_law_windows_here", "_law_slots_here", "_law_best", "_law_many", "_law_order", "_law_comes", "_law_done", "_law_due", "_law_again", "_law_found", "_law_k"]
theorem sc_law : FnScope n_law ["_law_script"] (defScope s_law) := ⟨rfl, rfl, rfl, by decide +kernel, rfl, by decide +kernel, by decide +kernel⟩
theorem a_law_0 : atB n_law (defScope s_law) 0 "_law_script" = true := by decide +kernel
theorem a_law_1 : atB n_law (defScope s_law) 1 "_law_row" = true := by decide +kernel
theorem a_law_2 : atB n_law (defScope s_law) 2 "_law_turn" = true := by decide +kernel
theorem a_law_3 : atB n_law (defScope s_law) 3 "_law_most" = true := by decide +kernel
theorem a_law_4 : atB n_law (defScope s_law) 4 "_law_book_here" = true := by decide +kernel
theorem a_law_5 : atB n_law (defScope s_law) 5 "_law_far" = true := by decide +kernel
theorem a_law_6 : atB n_law (defScope s_law) 6 "_law_delay" = true := by decide +kernel
theorem a_law_7 : atB n_law (defScope s_law) 7 "_law_windows_here" = true := by decide +kernel
theorem a_law_8 : atB n_law (defScope s_law) 8 "_law_slots_here" = true := by decide +kernel
theorem a_law_9 : atB n_law (defScope s_law) 9 "_law_best" = true := by decide +kernel
theorem a_law_10 : atB n_law (defScope s_law) 10 "_law_many" = true := by decide +kernel
theorem a_law_11 : atB n_law (defScope s_law) 11 "_law_order" = true := by decide +kernel
theorem a_law_12 : atB n_law (defScope s_law) 12 "_law_comes" = true := by decide +kernel
theorem a_law_13 : atB n_law (defScope s_law) 13 "_law_done" = true := by decide +kernel
theorem a_law_14 : atB n_law (defScope s_law) 14 "_law_due" = true := by decide +kernel
theorem a_law_15 : atB n_law (defScope s_law) 15 "_law_again" = true := by decide +kernel
theorem a_law_16 : atB n_law (defScope s_law) 16 "_law_found" = true := by decide +kernel
local macro_rules | `(tactic| wtm_at "v law") => `(tactic| first
  | ((with_reducible refine' ex_var (i := 0) (x := "_law_script") ?h ?g ?q); (case h => exact At.of rfl rfl a_law_0); (case g => rfl))
  | ((with_reducible refine' ex_var (i := 1) (x := "_law_row") ?h ?g ?q); (case h => exact At.of rfl rfl a_law_1); (case g => rfl))
  | ((with_reducible refine' ex_var (i := 2) (x := "_law_turn") ?h ?g ?q); (case h => exact At.of rfl rfl a_law_2); (case g => rfl))
  | ((with_reducible refine' ex_var (i := 3) (x := "_law_most") ?h ?g ?q); (case h => exact At.of rfl rfl a_law_3); (case g => rfl))
  | ((with_reducible refine' ex_var (i := 4) (x := "_law_book_here") ?h ?g ?q); (case h => exact At.of rfl rfl a_law_4); (case g => rfl))
  | ((with_reducible refine' ex_var (i := 5) (x := "_law_far") ?h ?g ?q); (case h => exact At.of rfl rfl a_law_5); (case g => rfl))
  | ((with_reducible refine' ex_var (i := 6) (x := "_law_delay") ?h ?g ?q); (case h => exact At.of rfl rfl a_law_6); (case g => rfl))
  | ((with_reducible refine' ex_var (i := 7) (x := "_law_windows_here") ?h ?g ?q); (case h => exact At.of rfl rfl a_law_7); (case g => rfl))
  | ((with_reducible refine' ex_var (i := 8) (x := "_law_slots_here") ?h ?g ?q); (case h => exact At.of rfl rfl a_law_8); (case g => rfl))
  | ((with_reducible refine' ex_var (i := 9) (x := "_law_best") ?h ?g ?q); (case h => exact At.of rfl rfl a_law_9); (case g => rfl))
  | ((with_reducible refine' ex_var (i := 10) (x := "_law_many") ?h ?g ?q); (case h => exact At.of rfl rfl a_law_10); (case g => rfl))
  | ((with_reducible refine' ex_var (i := 11) (x := "_law_order") ?h ?g ?q); (case h => exact At.of rfl rfl a_law_11); (case g => rfl))
  | ((with_reducible refine' ex_var (i := 12) (x := "_law_comes") ?h ?g ?q); (case h => exact At.of rfl rfl a_law_12); (case g => rfl))
  | ((with_reducible refine' ex_var (i := 13) (x := "_law_done") ?h ?g ?q); (case h => exact At.of rfl rfl a_law_13); (case g => rfl))
  | ((with_reducible refine' ex_var (i := 14) (x := "_law_due") ?h ?g ?q); (case h => exact At.of rfl rfl a_law_14); (case g => rfl))
  | ((with_reducible refine' ex_var (i := 15) (x := "_law_again") ?h ?g ?q); (case h => exact At.of rfl rfl a_law_15); (case g => rfl))
  | ((with_reducible refine' ex_var (i := 16) (x := "_law_found") ?h ?g ?q); (case h => exact At.of rfl rfl a_law_16); (case g => rfl))
  | ((with_reducible refine sx_set (i := 0) (x := "_law_script") ?h ?s ?q); (case h => exact Lc.of sc_law.nd rfl rfl (.inl rfl) a_law_0); (case s => rfl))
  | ((with_reducible refine gx_name (i := 0) (x := "_law_script") ?h ?q); (case h => exact Lc.of sc_law.nd rfl rfl (.inl rfl) a_law_0))
  | ((with_reducible refine sx_set (i := 1) (x := "_law_row") ?h ?s ?q); (case h => exact Lc.of sc_law.nd rfl rfl (.inl rfl) a_law_1); (case s => rfl))
  | ((with_reducible refine gx_name (i := 1) (x := "_law_row") ?h ?q); (case h => exact Lc.of sc_law.nd rfl rfl (.inl rfl) a_law_1))
  | ((with_reducible refine sx_set (i := 2) (x := "_law_turn") ?h ?s ?q); (case h => exact Lc.of sc_law.nd rfl rfl (.inl rfl) a_law_2); (case s => rfl))
  | ((with_reducible refine gx_name (i := 2) (x := "_law_turn") ?h ?q); (case h => exact Lc.of sc_law.nd rfl rfl (.inl rfl) a_law_2))
  | ((with_reducible refine sx_set (i := 3) (x := "_law_most") ?h ?s ?q); (case h => exact Lc.of sc_law.nd rfl rfl (.inl rfl) a_law_3); (case s => rfl))
  | ((with_reducible refine gx_name (i := 3) (x := "_law_most") ?h ?q); (case h => exact Lc.of sc_law.nd rfl rfl (.inl rfl) a_law_3))
  | ((with_reducible refine sx_set (i := 4) (x := "_law_book_here") ?h ?s ?q); (case h => exact Lc.of sc_law.nd rfl rfl (.inl rfl) a_law_4); (case s => rfl))
  | ((with_reducible refine gx_name (i := 4) (x := "_law_book_here") ?h ?q); (case h => exact Lc.of sc_law.nd rfl rfl (.inl rfl) a_law_4))
  | ((with_reducible refine sx_set (i := 5) (x := "_law_far") ?h ?s ?q); (case h => exact Lc.of sc_law.nd rfl rfl (.inl rfl) a_law_5); (case s => rfl))
  | ((with_reducible refine gx_name (i := 5) (x := "_law_far") ?h ?q); (case h => exact Lc.of sc_law.nd rfl rfl (.inl rfl) a_law_5))
  | ((with_reducible refine sx_set (i := 6) (x := "_law_delay") ?h ?s ?q); (case h => exact Lc.of sc_law.nd rfl rfl (.inl rfl) a_law_6); (case s => rfl))
  | ((with_reducible refine gx_name (i := 6) (x := "_law_delay") ?h ?q); (case h => exact Lc.of sc_law.nd rfl rfl (.inl rfl) a_law_6))
  | ((with_reducible refine sx_set (i := 7) (x := "_law_windows_here") ?h ?s ?q); (case h => exact Lc.of sc_law.nd rfl rfl (.inl rfl) a_law_7); (case s => rfl))
  | ((with_reducible refine gx_name (i := 7) (x := "_law_windows_here") ?h ?q); (case h => exact Lc.of sc_law.nd rfl rfl (.inl rfl) a_law_7))
  | ((with_reducible refine sx_set (i := 8) (x := "_law_slots_here") ?h ?s ?q); (case h => exact Lc.of sc_law.nd rfl rfl (.inl rfl) a_law_8); (case s => rfl))
  | ((with_reducible refine gx_name (i := 8) (x := "_law_slots_here") ?h ?q); (case h => exact Lc.of sc_law.nd rfl rfl (.inl rfl) a_law_8))
  | ((with_reducible refine sx_set (i := 9) (x := "_law_best") ?h ?s ?q); (case h => exact Lc.of sc_law.nd rfl rfl (.inl rfl) a_law_9); (case s => rfl))
  | ((with_reducible refine gx_name (i := 9) (x := "_law_best") ?h ?q); (case h => exact Lc.of sc_law.nd rfl rfl (.inl rfl) a_law_9))
  | ((with_reducible refine sx_set (i := 10) (x := "_law_many") ?h ?s ?q); (case h => exact Lc.of sc_law.nd rfl rfl (.inl rfl) a_law_10); (case s => rfl))
  | ((with_reducible refine gx_name (i := 10) (x := "_law_many") ?h ?q); (case h => exact Lc.of sc_law.nd rfl rfl (.inl rfl) a_law_10))
  | ((with_reducible refine sx_set (i := 11) (x := "_law_order") ?h ?s ?q); (case h => exact Lc.of sc_law.nd rfl rfl (.inl rfl) a_law_11); (case s => rfl))
  | ((with_reducible refine gx_name (i := 11) (x := "_law_order") ?h ?q); (case h => exact Lc.of sc_law.nd rfl rfl (.inl rfl) a_law_11))
  | ((with_reducible refine sx_set (i := 12) (x := "_law_comes") ?h ?s ?q); (case h => exact Lc.of sc_law.nd rfl rfl (.inl rfl) a_law_12); (case s => rfl))
  | ((with_reducible refine gx_name (i := 12) (x := "_law_comes") ?h ?q); (case h => exact Lc.of sc_law.nd rfl rfl (.inl rfl) a_law_12))
  | ((with_reducible refine sx_set (i := 13) (x := "_law_done") ?h ?s ?q); (case h => exact Lc.of sc_law.nd rfl rfl (.inl rfl) a_law_13); (case s => rfl))
  | ((with_reducible refine gx_name (i := 13) (x := "_law_done") ?h ?q); (case h => exact Lc.of sc_law.nd rfl rfl (.inl rfl) a_law_13))
  | ((with_reducible refine sx_set (i := 14) (x := "_law_due") ?h ?s ?q); (case h => exact Lc.of sc_law.nd rfl rfl (.inl rfl) a_law_14); (case s => rfl))
  | ((with_reducible refine gx_name (i := 14) (x := "_law_due") ?h ?q); (case h => exact Lc.of sc_law.nd rfl rfl (.inl rfl) a_law_14))
  | ((with_reducible refine sx_set (i := 15) (x := "_law_again") ?h ?s ?q); (case h => exact Lc.of sc_law.nd rfl rfl (.inl rfl) a_law_15); (case s => rfl))
  | ((with_reducible refine gx_name (i := 15) (x := "_law_again") ?h ?q); (case h => exact Lc.of sc_law.nd rfl rfl (.inl rfl) a_law_15))
  | ((with_reducible refine sx_set (i := 16) (x := "_law_found") ?h ?s ?q); (case h => exact Lc.of sc_law.nd rfl rfl (.inl rfl) a_law_16); (case s => rfl))
  | ((with_reducible refine gx_name (i := 16) (x := "_law_found") ?h ?q); (case h => exact Lc.of sc_law.nd rfl rfl (.inl rfl) a_law_16)))
local macro_rules | `(tactic| wtm_at "vb law") => `(tactic| first
  | ((with_reducible refine' ex_var (i := 0) (x := "_law_script") ?h ?g ?q); (case h => exact At.b rfl (by first | exact Or.inl rfl | exact Or.inr (Or.inl rfl) | exact Or.inr (Or.inr rfl))); (case g => rfl))
  | ((with_reducible refine' ex_var (i := 1) (x := "_law_row") ?h ?g ?q); (case h => exact At.b rfl (by first | exact Or.inl rfl | exact Or.inr (Or.inl rfl) | exact Or.inr (Or.inr rfl))); (case g => rfl))
  | ((with_reducible refine' ex_var (i := 2) (x := "_law_turn") ?h ?g ?q); (case h => exact At.b rfl (by first | exact Or.inl rfl | exact Or.inr (Or.inl rfl) | exact Or.inr (Or.inr rfl))); (case g => rfl))
  | ((with_reducible refine' ex_var (i := 3) (x := "_law_most") ?h ?g ?q); (case h => exact At.b rfl (by first | exact Or.inl rfl | exact Or.inr (Or.inl rfl) | exact Or.inr (Or.inr rfl))); (case g => rfl))
  | ((with_reducible refine' ex_var (i := 4) (x := "_law_book_here") ?h ?g ?q); (case h => exact At.b rfl (by first | exact Or.inl rfl | exact Or.inr (Or.inl rfl) | exact Or.inr (Or.inr rfl))); (case g => rfl))
  | ((with_reducible refine' ex_var (i := 5) (x := "_law_far") ?h ?g ?q); (case h => exact At.b rfl (by first | exact Or.inl rfl | exact Or.inr (Or.inl rfl) | exact Or.inr (Or.inr rfl))); (case g => rfl))
  | ((with_reducible refine' ex_var (i := 6) (x := "_law_delay") ?h ?g ?q); (case h => exact At.b rfl (by first | exact Or.inl rfl | exact Or.inr (Or.inl rfl) | exact Or.inr (Or.inr rfl))); (case g => rfl))
  | ((with_reducible refine' ex_var (i := 7) (x := "_law_windows_here") ?h ?g ?q); (case h => exact At.b rfl (by first | exact Or.inl rfl | exact Or.inr (Or.inl rfl) | exact Or.inr (Or.inr rfl))); (case g => rfl))
  | ((with_reducible refine' ex_var (i := 8) (x := "_law_slots_here") ?h ?g ?q); (case h => exact At.b rfl (by first | exact Or.inl rfl | exact Or.inr (Or.inl rfl) | exact Or.inr (Or.inr rfl))); (case g => rfl))
  | ((with_reducible refine' ex_var (i := 9) (x := "_law_best") ?h ?g ?q); (case h => exact At.b rfl (by first | exact Or.inl rfl | exact Or.inr (Or.inl rfl) | exact Or.inr (Or.inr rfl))); (case g => rfl))
  | ((with_reducible refine' ex_var (i := 10) (x := "_law_many") ?h ?g ?q); (case h => exact At.b rfl (by first | exact Or.inl rfl | exact Or.inr (Or.inl rfl) | exact Or.inr (Or.inr rfl))); (case g => rfl))
  | ((with_reducible refine' ex_var (i := 11) (x := "_law_order") ?h ?g ?q); (case h => exact At.b rfl (by first | exact Or.inl rfl | exact Or.inr (Or.inl rfl) | exact Or.inr (Or.inr rfl))); (case g => rfl))
  | ((with_reducible refine' ex_var (i := 12) (x := "_law_comes") ?h ?g ?q); (case h => exact At.b rfl (by first | exact Or.inl rfl | exact Or.inr (Or.inl rfl) | exact Or.inr (Or.inr rfl))); (case g => rfl))
  | ((with_reducible refine' ex_var (i := 13) (x := "_law_done") ?h ?g ?q); (case h => exact At.b rfl (by first | exact Or.inl rfl | exact Or.inr (Or.inl rfl) | exact Or.inr (Or.inr rfl))); (case g => rfl))
  | ((with_reducible refine' ex_var (i := 14) (x := "_law_due") ?h ?g ?q); (case h => exact At.b rfl (by first | exact Or.inl rfl | exact Or.inr (Or.inl rfl) | exact Or.inr (Or.inr rfl))); (case g => rfl))
  | ((with_reducible refine' ex_var (i := 15) (x := "_law_again") ?h ?g ?q); (case h => exact At.b rfl (by first | exact Or.inl rfl | exact Or.inr (Or.inl rfl) | exact Or.inr (Or.inr rfl))); (case g => rfl))
  | ((with_reducible refine' ex_var (i := 16) (x := "_law_found") ?h ?g ?q); (case h => exact At.b rfl (by first | exact Or.inl rfl | exact Or.inr (Or.inl rfl) | exact Or.inr (Or.inr rfl))); (case g => rfl))
  | ((with_reducible refine' ex_var (i := 17) (x := "_law_k") ?h ?g ?q); (case h => exact At.b rfl (by first | exact Or.inl rfl | exact Or.inr (Or.inl rfl) | exact Or.inr (Or.inr rfl))); (case g => rfl)))
local macro_rules | `(tactic| wtm_at "w law") => `(tactic| repeat (first | wtm_at "v law" | wtm_at "e" | wtm_at "ei" | wtm_at "c"))
local macro_rules | `(tactic| wtm_at "wb law") => `(tactic| repeat (first | wtm_at "vb law" | wtm_at "e" | wtm_at "cb"))
local macro_rules | `(tactic| wtm_at "g law") => `(tactic| repeat (first | wtm_at "v law" | wtm_at "e2" | wtm_at "e" | wtm_at "ei" | wtm_at "c"))
local macro_rules | `(tactic| wtm_at "gb law") => `(tactic| repeat (first | wtm_at "vb law" | wtm_at "e2" | wtm_at "e" | wtm_at "cb"))
local macro_rules | `(tactic| wtm_at "h law") => `(tactic| repeat (first | wtm_at "v law" | wtm_at "e2" | wtm_at "e" | wtm_at "c"))
local macro_rules | `(tactic| wtm_at "gx law") => `(tactic| repeat (first | wtm_at "v law" | wtm_at "e2" | wtm_at "e" | wtm_at "ei" | wtm_at "cx"))
local macro_rules | `(tactic| wtm_at "hx law") => `(tactic| repeat (first | wtm_at "v law" | wtm_at "e2" | wtm_at "e" | wtm_at "cx"))
local macro_rules | `(tactic| wtm_at "gy law") => `(tactic| repeat (first | wtm_at "vb law" | wtm_at "e2" | wtm_at "e" | wtm_at "cx"))
local macro_rules | `(tactic| wtm_at "hx1 law") => `(tactic| first | wtm_at "v law" | wtm_at "e2" | wtm_at "e" | wtm_at "cx")
local macro_rules | `(tactic| wtm_at "lc law 0") => `(tactic| refine' ex_lc (own := [("_law_k", 17)]) (t := .inl 17)  rfl sc_law.nd (blkOk_by (N := n_law) (sc := defScope s_law) (by decide +kernel)) (by decide) (fun _ _ _ _ _ => pg_name (i := 17) sc_law.nd rfl (by first | exact Or.inl rfl | exact Or.inr rfl)) (fun _ => rfl) ?_)
local macro_rules | `(tactic| wtm_at "lcM law 0") => `(tactic| refine' ex_lcM (own := [("_law_k", 17)]) (t := .inl 17)  rfl sc_law.nd (blkOk_by (N := n_law) (sc := defScope s_law) (by decide +kernel)) (by decide) (fun _ _ _ _ _ => pg_name (i := 17) sc_law.nd rfl (by first | exact Or.inl rfl | exact Or.inr rfl)) (fun _ => rfl) ?_)
local macro_rules | `(tactic| wtm_at "lcp law 0") => `(tactic| refine' ex_lcp (own := [("_law_k", 17)]) (t := .inl 17) ?f rfl sc_law.nd (blkOk_by (N := n_law) (sc := defScope s_law) (by decide +kernel)) (by decide) (fun _ _ _ _ _ => pg_name (i := 17) sc_law.nd rfl (by first | exact Or.inl rfl | exact Or.inr rfl)) (fun _ => rfl) ?_)
local macro_rules | `(tactic| wtm_at "lcpM law 0") => `(tactic| refine' ex_lcpM (own := [("_law_k", 17)]) (t := .inl 17) ?f rfl sc_law.nd (blkOk_by (N := n_law) (sc := defScope s_law) (by decide +kernel)) (by decide) (fun _ _ _ _ _ => pg_name (i := 17) sc_law.nd rfl (by first | exact Or.inl rfl | exact Or.inr rfl)) (fun _ => rfl) ?_)
local macro_rules | `(tactic| wtm_at "slc law 0") => `(tactic| refine' sx_setLc (i := 12) (own := [("_law_k", 17)]) (t := .inl 17)  rfl sc_law.nd rfl rfl (sw_true rfl rfl rfl (by decide +kernel)) (blkOk_by (N := n_law) (sc := defScope s_law) (by decide +kernel)) (by decide) (fun _ _ _ _ _ => pg_name (i := 17) sc_law.nd rfl (by first | exact Or.inl rfl | exact Or.inr rfl)) (fun _ => rfl) ?_)
local macro_rules | `(tactic| wtm_at "slcM law 0") => `(tactic| refine' sx_setLcM (i := 12) (own := [("_law_k", 17)]) (t := .inl 17)  rfl sc_law.nd rfl rfl (sw_true rfl rfl rfl (by decide +kernel)) (blkOk_by (N := n_law) (sc := defScope s_law) (by decide +kernel)) (by decide) (fun _ _ _ _ _ => pg_name (i := 17) sc_law.nd rfl (by first | exact Or.inl rfl | exact Or.inr rfl)) (fun _ => rfl) ?_)
local macro_rules | `(tactic| wtm_at "slcp law 0") => `(tactic| refine' sx_setLcp (i := 12) (own := [("_law_k", 17)]) (t := .inl 17) ?f rfl sc_law.nd rfl rfl (sw_true rfl rfl rfl (by decide +kernel)) (blkOk_by (N := n_law) (sc := defScope s_law) (by decide +kernel)) (by decide) (fun _ _ _ _ _ => pg_name (i := 17) sc_law.nd rfl (by first | exact Or.inl rfl | exact Or.inr rfl)) (fun _ => rfl) ?_)
local macro_rules | `(tactic| wtm_at "lc law 1") => `(tactic| refine' ex_lc (own := [("_law_k", 17)]) (t := .inl 17)  rfl sc_law.nd (blkOk_by (N := n_law) (sc := defScope s_law) (by decide +kernel)) (by decide) (fun _ _ _ _ _ => pg_name (i := 17) sc_law.nd rfl (by first | exact Or.inl rfl | exact Or.inr rfl)) (fun _ => rfl) ?_)
local macro_rules | `(tactic| wtm_at "lcM law 1") => `(tactic| refine' ex_lcM (own := [("_law_k", 17)]) (t := .inl 17)  rfl sc_law.nd (blkOk_by (N := n_law) (sc := defScope s_law) (by decide +kernel)) (by decide) (fun _ _ _ _ _ => pg_name (i := 17) sc_law.nd rfl (by first | exact Or.inl rfl | exact Or.inr rfl)) (fun _ => rfl) ?_)
local macro_rules | `(tactic| wtm_at "lcp law 1") => `(tactic| refine' ex_lcp (own := [("_law_k", 17)]) (t := .inl 17) ?f rfl sc_law.nd (blkOk_by (N := n_law) (sc := defScope s_law) (by decide +kernel)) (by decide) (fun _ _ _ _ _ => pg_name (i := 17) sc_law.nd rfl (by first | exact Or.inl rfl | exact Or.inr rfl)) (fun _ => rfl) ?_)
local macro_rules | `(tactic| wtm_at "lcpM law 1") => `(tactic| refine' ex_lcpM (own := [("_law_k", 17)]) (t := .inl 17) ?f rfl sc_law.nd (blkOk_by (N := n_law) (sc := defScope s_law) (by decide +kernel)) (by decide) (fun _ _ _ _ _ => pg_name (i := 17) sc_law.nd rfl (by first | exact Or.inl rfl | exact Or.inr rfl)) (fun _ => rfl) ?_)
abbrev X_law (P : Program) (w : World) (K : PySem.W.Frag) (mg : Str → Option Value) (base : Heap) (f : Addr) (cdv : Value) (A : Around) (outer : List Env) (s : Shared) (H : Hp) (E : XK) : Cx := (cxOf CX0 P w K mg base n_law "law" (defScope s_law) f cdv A outer s H E).nox

/-! ### numbers -/
def isNum : D → Int → Int → Bool
  | .int i, lo, hi => decide (lo ≤ i) && decide (i ≤ hi)
  | _, _, _ => false
def spIsNumber : DSp := fun ds M Q => ∃ d lo hi, ds = [d, .int lo, .int hi] ∧ d.tyd = true ∧ Q (.bl (isNum d lo hi)) M
section
variable {P : Program} {w : World} {K : PySem.W.Frag} {mg : Str → Option Value} {base : Heap}
theorem ok_is_number {f : Addr} {fd : FuncData} (Fn : Fun K "is_number" "is_number" s_is_number f fd) (zi : mg "isinstance" = none) (zn : mg "int" = none) (zb : mg "bool" = none) : FnOk P w K mg base CX0 1 f fd ["part", "low", "high"] (lift K spIsNumber) := by
  refine fun_ok Fn sc_is_number (fun ds M Q ⟨_, _, _, e, _⟩ => by rw [e]; rfl) fun cdv A outer s H E hr ds M Q h B => ?_
  obtain ⟨d, lo, hi, rfl, hd, k⟩ := h
  have b1 : Blt (X_is_number P w K mg base f cdv A outer s H E) "isinstance" (.builtin "isinstance") := ⟨rfl, zi, bb_isinstance, by decide, by decide⟩
  have b2 : Blt (X_is_number P w K mg base f cdv A outer s H E) "int" (.type "int") := ⟨rfl, zn, bb_int, by decide, by decide⟩
  have b3 : Blt (X_is_number P w K mg base f cdv A outer s H E) "bool" (.type "bool") := ⟨rfl, zb, bb_bool, by decide, by decide⟩
  (refine sxs_one ?_)
  cases d with
  | int i =>
    (with_reducible refine sx_ret ?_)
    (with_reducible refine ex_and ?_)
    ((with_reducible refine' ex_callB ?c_4 ?he_4 ?hp_4 ?q_4); (case c_4 => first | with_reducible assumption | exact Blt.fn (by with_reducible assumption) rfl (by first | with_reducible exact bb_len | with_reducible exact bb_isinstance | with_reducible exact bb_max | with_reducible exact bb_min)); (case he_4 => rfl); (case hp_4 => rfl))
    ((with_reducible refine ax_cons ?h_5 ?q_5); (case h_5 => rfl))
    ((with_reducible refine' ex_var (i := 0) (x := "part") ?h_6 ?g_6 ?q_6); (case h_6 => exact At.of rfl rfl a_is_number_0); (case g_6 => rfl))
    ((with_reducible refine ax_cons ?h_7 ?q_7); (case h_7 => rfl))
    ((with_reducible refine' ex_ty ?c_8 ?q_8); (case c_8 => first | with_reducible assumption | exact Blt.fn (by with_reducible assumption) rfl (by first | with_reducible exact bb_int | with_reducible exact bb_bool | with_reducible exact bb_str | with_reducible exact bb_tuple | with_reducible exact bb_list | with_reducible exact bb_dict)))
    (with_reducible refine ax_nil ?_)
    ((with_reducible refine bx_isiI ?h_10 ?q_10); (case h_10 => first | rfl | assumption))
    (with_reducible refine asB_bl ?_)
    ((with_reducible show (ite (_ = true) _ _)); first | refine iteT' rfl ?_ | refine iteF' rfl ?_)
    (with_reducible refine ex_and ?_)
    (with_reducible refine ex_not ?_)
    ((with_reducible refine' ex_callB ?c_15 ?he_15 ?hp_15 ?q_15); (case c_15 => first | with_reducible assumption | exact Blt.fn (by with_reducible assumption) rfl (by first | with_reducible exact bb_len | with_reducible exact bb_isinstance | with_reducible exact bb_max | with_reducible exact bb_min)); (case he_15 => rfl); (case hp_15 => rfl))
    ((with_reducible refine ax_cons ?h_16 ?q_16); (case h_16 => rfl))
    ((with_reducible refine' ex_var (i := 0) (x := "part") ?h_17 ?g_17 ?q_17); (case h_17 => exact At.of rfl rfl a_is_number_0); (case g_17 => rfl))
    ((with_reducible refine ax_cons ?h_18 ?q_18); (case h_18 => rfl))
    ((with_reducible refine' ex_ty ?c_19 ?q_19); (case c_19 => first | with_reducible assumption | exact Blt.fn (by with_reducible assumption) rfl (by first | with_reducible exact bb_int | with_reducible exact bb_bool | with_reducible exact bb_str | with_reducible exact bb_tuple | with_reducible exact bb_list | with_reducible exact bb_dict)))
    (with_reducible refine ax_nil ?_)
    ((with_reducible refine bx_isiB ?h_21 ?q_21); (case h_21 => first | rfl | assumption))
    (with_reducible refine asB_bl ?_)
    (with_reducible refine asB_bl ?_)
    ((with_reducible show (ite (_ = true) _ _)); first | refine iteT' rfl ?_ | refine iteF' rfl ?_)
    (with_reducible refine ex_one ?_)
    ((with_reducible refine ex_chain ?h_26 ?q_26); (case h_26 => with_unfolding_all rfl))
    ((with_reducible refine' ex_var (i := 1) (x := "low") ?h_27 ?g_27 ?q_27); (case h_27 => exact At.of rfl rfl a_is_number_1); (case g_27 => rfl))
    ((with_reducible refine' ex_var (i := 0) (x := "part") ?h_28 ?g_28 ?q_28); (case h_28 => exact At.of rfl rfl a_is_number_0); (case g_28 => rfl))
    (with_reducible refine ox_le ?_)
    (with_reducible refine asB_bl ?_)
    refine ite_dec (fun h1 => ?_) (fun h1 => ?_)
    · ((with_reducible refine' ex_var (i := 2) (x := "high") ?h_31 ?g_31 ?q_31); (case h_31 => exact At.of rfl rfl a_is_number_2); (case g_31 => rfl))
      (with_reducible refine ox_le ?_)
      simpa [isNum, h1] using k
    · simpa [isNum, h1] using k
  | ref _ => cases hd
  | fzl _ => cases hd
  | ty n => cases hd
  | _ =>
    wtm_at "w is_number"
    exact k
end

/-! ### commands, books -/
structure Cmd where
  when : Int
  til : Int
  wants : List Nat
def encN (n : Nat) : D := .int (n : Int)
def Cmd.enc (c : Cmd) : D := .tup [.int c.when, .int c.til, .tup (c.wants.map encN)]
def encB (b : List Cmd) : D := .tup (b.map Cmd.enc)
structure CmdOk (c : Cmd) (i : Nat) : Prop where
  w0 : 0 ≤ c.when
  w1 : c.when ≤ c.til
  w2 : c.til ≤ 200
  lt : ∀ n ∈ c.wants, n < i
  up : c.wants.Pairwise (· < ·)
structure BookOk (b : List Cmd) : Prop where
  ne : b ≠ []
  le : b.length ≤ 8
  ok : ∀ i c, b[i]? = some c → CmdOk c i
theorem num_ok {i lo hi : Int} {M : Mem} {Q : D → Mem → Prop} (h0 : lo ≤ i) (h1 : i ≤ hi) (q : Q (.bl true) M) : spIsNumber [.int i, .int lo, .int hi] M Q := by
  refine ⟨_, _, _, rfl, rfl, ?_⟩
  have e : isNum (.int i) lo hi = true := by simp [isNum, h0, h1]
  rw [e]; exact q
theorem up_len_aux {i : Nat} : ∀ (l : List Nat) (k : Nat), l.Pairwise (· < ·) → (∀ n ∈ l, k ≤ n ∧ n < i) → l.length + k ≤ max i k := by
  intro l
  induction l with
  | nil => intro k _ _; simp; omega
  | cons x l ih =>
    intro k hp h
    rw [List.pairwise_cons] at hp
    have h1 := h x (by simp)
    have h2 := ih (k + 1) hp.2 fun n hn => ⟨by have := hp.1 n hn; omega, (h n (List.mem_cons_of_mem _ hn)).2⟩
    simp only [List.length_cons]
    omega
theorem up_len {i : Nat} {l : List Nat} (hp : l.Pairwise (· < ·)) (h : ∀ n ∈ l, n < i) : l.length ≤ i := by
  have := up_len_aux l 0 hp fun n hn => ⟨Nat.zero_le _, h n hn⟩
  omega
theorem enc_okE (c : Cmd) : c.enc.okE = true ∧ c.enc.dep ≤ 2 := by
  have h1 : okEs (c.wants.map encN) = true := okEs_all.mpr fun d hd => by
    obtain ⟨n, _, rfl⟩ := List.mem_map.mp hd
    rfl
  have h2 : deps (c.wants.map encN) ≤ 0 := deps_le.mpr fun d hd => by
    obtain ⟨n, _, rfl⟩ := List.mem_map.mp hd
    exact Nat.le_refl 0
  unfold Cmd.enc
  constructor
  · simp [D.okE, okEs, h1]
  · simp [D.dep, deps]
    omega
theorem encB_okE (b : List Cmd) : (encB b).okE = true ∧ (encB b).dep ≤ 3 := by
  unfold encB
  constructor
  · unfold D.okE
    exact okEs_all.mpr fun d hd => by
      obtain ⟨c, _, rfl⟩ := List.mem_map.mp hd
      exact (enc_okE c).1
  · exact dep_tup.mpr ⟨by decide, fun d hd => by
      obtain ⟨c, _, rfl⟩ := List.mem_map.mp hd
      exact (enc_okE c).2⟩
theorem bx_lenB {B : Bs} {X : Cx} {G : Sl} {M : Mem} {Q : D → Mem → Prop} {b : List Cmd} (q : Q (.int (b.length : Nat)) M) : BX B X (.builtin "len") [encB b] G M Q := by
  unfold encB
  refine bx_lenT ?_
  rw [List.length_map]; exact q
def spIsCommand : DSp := fun ds M Q => ∃ (c : Cmd) (i : Nat), ds = [c.enc, .int i] ∧ CmdOk c i ∧ i ≤ 8 ∧ Q (.bl true) M
def spNeedBook : DSp := fun ds M Q => ∃ b : List Cmd, ds = [encB b] ∧ BookOk b ∧ Q .non M
def spNeedDelay : DSp := fun ds M Q => ∃ n : Int, ds = [.int n] ∧ 1 ≤ n ∧ n ≤ 9 ∧ Q .non M
section
variable {P : Program} {w : World} {K : PySem.W.Frag} {mg : Str → Option Value} {base : Heap}
theorem ok_is_command {f : Addr} {fd : FuncData} (Fn : Fun K "is_command" "is_command" s_is_command f fd) (zi : mg "isinstance" = none) (zt : mg "tuple" = none) (zl : mg "len" = none) (zr : mg "range" = none) (gM : Cst K mg "MOST_BEAT" (.int 200)) (dN : Dfn P w K mg base 1 "is_number" spIsNumber) :
    FnOk P w K mg base CX0 2 f fd ["part", "number"] (lift K spIsCommand) := by
  refine fun_ok Fn sc_is_command (fun ds M Q ⟨_, _, e, _⟩ => by rw [e]; rfl) fun cdv A outer s H E hr ds M Q h B => ?_
  obtain ⟨c, i, rfl, ok, hi, k⟩ := h
  have hlen := up_len ok.up ok.lt
  unfold Cmd.enc
  (refine sxs_cons ?_)
  with_reducible refine sx_if ?_
  ((with_reducible show TX _ _ (.BoolOp _ _ _) _ _ _); refine TW.tx ?_)
  (with_reducible refine tw_or ?_)
  (with_reducible refine tx_not ?_)
  ((with_reducible show TX _ _ (.Call _ _ _ _) _ _ _); refine tx_val (fun _ => rfl) ?_)
  ((with_reducible refine' ex_callB ?c_7 ?he_7 ?hp_7 ?q_7); (case c_7 => first | with_reducible assumption | exact Blt.fn (by with_reducible assumption) rfl (by first | with_reducible exact bb_len | with_reducible exact bb_isinstance | with_reducible exact bb_max | with_reducible exact bb_min)); (case he_7 => rfl); (case hp_7 => rfl))
  ((with_reducible refine ax_cons ?h_8 ?q_8); (case h_8 => rfl))
  ((with_reducible refine' ex_var (i := 0) (x := "part") ?h_9 ?g_9 ?q_9); (case h_9 => exact At.of rfl rfl a_is_command_0); (case g_9 => rfl))
  ((with_reducible refine ax_cons ?h_10 ?q_10); (case h_10 => rfl))
  ((with_reducible refine' ex_ty ?c_11 ?q_11); (case c_11 => first | with_reducible assumption | exact Blt.fn (by with_reducible assumption) rfl (by first | with_reducible exact bb_int | with_reducible exact bb_bool | with_reducible exact bb_str | with_reducible exact bb_tuple | with_reducible exact bb_list | with_reducible exact bb_dict)))
  (with_reducible refine ax_nil ?_)
  ((with_reducible refine bx_isiTu ?h_13 ?q_13); (case h_13 => first | rfl | assumption))
  (with_reducible refine asB_bl ?_)
  ((with_reducible show (ite (_ = true) _ _)); first | refine iteT' rfl ?_ | refine iteF' rfl ?_)
  (with_reducible refine tw_or ?_)
  ((with_reducible refine tx_cmp ?h_17 ?q_17); (case h_17 => first | exact nomark _ | rfl))
  ((with_reducible refine' ex_callB ?c_18 ?he_18 ?hp_18 ?q_18); (case c_18 => first | with_reducible assumption | exact Blt.fn (by with_reducible assumption) rfl (by first | with_reducible exact bb_len | with_reducible exact bb_isinstance | with_reducible exact bb_max | with_reducible exact bb_min)); (case he_18 => rfl); (case hp_18 => rfl))
  ((with_reducible refine ax_cons ?h_19 ?q_19); (case h_19 => rfl))
  ((with_reducible refine' ex_var (i := 0) (x := "part") ?h_20 ?g_20 ?q_20); (case h_20 => exact At.of rfl rfl a_is_command_0); (case g_20 => rfl))
  (with_reducible refine ax_nil ?_)
  (with_reducible refine bx_lenT ?_)
  (with_reducible refine ex_int ?_)
  (with_reducible refine ox_neI ?_)
  (with_reducible refine asB_bl ?_)
  ((with_reducible show (ite ((!decide (_ = _)) = true) _ _)); (with_reducible refine ite_ndec (fun h => absurd rfl h) (fun _ => ?_)))
  (with_reducible refine tw_or1 ?_)
  (with_reducible refine tx_not ?_)
  ((with_reducible show TX _ _ (.Call _ _ _ _) _ _ _); refine tx_val (fun _ => rfl) ?_)
  ((with_reducible refine' ex_call ?c_30 ?hr_30 ?hg_30 ?hd_30 ?he_30 ?hp_30 ?q_30); (case c_30 => first | with_reducible assumption | exact Dfn.fn (by with_reducible assumption)); (case hr_30 => first | assumption | exact Room.mono (by assumption) (by decide)); (case hg_30 => rfl); (case hd_30 => rfl); (case he_30 => rfl); (case hp_30 => rfl))
  ((with_reducible refine ax_cons ?h_31 ?q_31); (case h_31 => rfl))
  ((with_reducible refine ex_sub ?h_32 ?q_32); (case h_32 => exact fun _ _ => rfl))
  ((with_reducible refine' ex_var (i := 0) (x := "part") ?h_33 ?g_33 ?q_33); (case h_33 => exact At.of rfl rfl a_is_command_0); (case g_33 => rfl))
  (with_reducible refine ex_int ?_)
  ((with_reducible show (IX _ _ (.tup _) (.int _) _ _ _)); refine ix_t rfl ?_)
  ((with_reducible refine ax_cons ?h_36 ?q_36); (case h_36 => rfl))
  (with_reducible refine ex_int ?_)
  ((with_reducible refine ax_cons ?h_38 ?q_38); (case h_38 => rfl))
  ((with_reducible refine' ex_glob ?c_39 ?q_39); (case c_39 => first | with_reducible assumption | exact Gb.fn (by with_reducible assumption) rfl))
  (with_reducible refine ax_nil ?_)
  refine num_ok ok.w0 (Int.le_trans ok.w1 ok.w2) ?_
  (with_reducible refine asB_bl ?_)
  ((with_reducible show (ite (_ = true) _ _)); first | refine iteT' rfl ?_ | refine iteF' rfl ?_)
  (with_reducible refine sxs_nil ?_)
  (with_reducible refine sxs_cons ?_)
  with_reducible refine sx_if ?_
  ((with_reducible show TX _ _ (.BoolOp _ _ _) _ _ _); refine TW.tx ?_)
  (with_reducible refine tw_or ?_)
  (with_reducible refine tx_not ?_)
  ((with_reducible show TX _ _ (.Call _ _ _ _) _ _ _); refine tx_val (fun _ => rfl) ?_)
  ((with_reducible refine' ex_call ?c_50 ?hr_50 ?hg_50 ?hd_50 ?he_50 ?hp_50 ?q_50); (case c_50 => first | with_reducible assumption | exact Dfn.fn (by with_reducible assumption)); (case hr_50 => first | assumption | exact Room.mono (by assumption) (by decide)); (case hg_50 => rfl); (case hd_50 => rfl); (case he_50 => rfl); (case hp_50 => rfl))
  ((with_reducible refine ax_cons ?h_51 ?q_51); (case h_51 => rfl))
  ((with_reducible refine ex_sub ?h_52 ?q_52); (case h_52 => exact fun _ _ => rfl))
  ((with_reducible refine' ex_var (i := 0) (x := "part") ?h_53 ?g_53 ?q_53); (case h_53 => exact At.of rfl rfl a_is_command_0); (case g_53 => rfl))
  (with_reducible refine ex_int ?_)
  ((with_reducible show (IX _ _ (.tup _) (.int _) _ _ _)); refine ix_t rfl ?_)
  ((with_reducible refine ax_cons ?h_56 ?q_56); (case h_56 => rfl))
  ((with_reducible refine ex_sub ?h_57 ?q_57); (case h_57 => exact fun _ _ => rfl))
  ((with_reducible refine' ex_var (i := 0) (x := "part") ?h_58 ?g_58 ?q_58); (case h_58 => exact At.of rfl rfl a_is_command_0); (case g_58 => rfl))
  (with_reducible refine ex_int ?_)
  ((with_reducible show (IX _ _ (.tup _) (.int _) _ _ _)); refine ix_t rfl ?_)
  ((with_reducible refine ax_cons ?h_61 ?q_61); (case h_61 => rfl))
  ((with_reducible refine' ex_glob ?c_62 ?q_62); (case c_62 => first | with_reducible assumption | exact Gb.fn (by with_reducible assumption) rfl))
  (with_reducible refine ax_nil ?_)
  refine num_ok ok.w1 ok.w2 ?_
  (with_reducible refine asB_bl ?_)
  ((with_reducible show (ite (_ = true) _ _)); first | refine iteT' rfl ?_ | refine iteF' rfl ?_)
  (with_reducible refine tw_or1 ?_)
  (with_reducible refine tx_not ?_)
  ((with_reducible show TX _ _ (.Call _ _ _ _) _ _ _); refine tx_val (fun _ => rfl) ?_)
  ((with_reducible refine' ex_callB ?c_69 ?he_69 ?hp_69 ?q_69); (case c_69 => first | with_reducible assumption | exact Blt.fn (by with_reducible assumption) rfl (by first | with_reducible exact bb_len | with_reducible exact bb_isinstance | with_reducible exact bb_max | with_reducible exact bb_min)); (case he_69 => rfl); (case hp_69 => rfl))
  ((with_reducible refine ax_cons ?h_70 ?q_70); (case h_70 => rfl))
  ((with_reducible refine ex_sub ?h_71 ?q_71); (case h_71 => exact fun _ _ => rfl))
  ((with_reducible refine' ex_var (i := 0) (x := "part") ?h_72 ?g_72 ?q_72); (case h_72 => exact At.of rfl rfl a_is_command_0); (case g_72 => rfl))
  (with_reducible refine ex_int ?_)
  ((with_reducible show (IX _ _ (.tup _) (.int _) _ _ _)); refine ix_t rfl ?_)
  ((with_reducible refine ax_cons ?h_75 ?q_75); (case h_75 => rfl))
  ((with_reducible refine' ex_ty ?c_76 ?q_76); (case c_76 => first | with_reducible assumption | exact Blt.fn (by with_reducible assumption) rfl (by first | with_reducible exact bb_int | with_reducible exact bb_bool | with_reducible exact bb_str | with_reducible exact bb_tuple | with_reducible exact bb_list | with_reducible exact bb_dict)))
  (with_reducible refine ax_nil ?_)
  ((with_reducible refine bx_isiTu ?h_78 ?q_78); (case h_78 => first | rfl | assumption))
  (with_reducible refine asB_bl ?_)
  ((with_reducible show (ite (_ = true) _ _)); first | refine iteT' rfl ?_ | refine iteF' rfl ?_)
  (with_reducible refine sxs_nil ?_)
  (with_reducible refine sxs_cons ?_)
  ((with_reducible refine sx_set (i := 2) (x := "wants") ?h_83 ?s_83 ?q_83); (case h_83 => exact Lc.of sc_is_command.nd rfl rfl (.inl rfl) a_is_command_2); (case s_83 => rfl))
  ((with_reducible refine ex_sub ?h_84 ?q_84); (case h_84 => exact fun _ _ => rfl))
  ((with_reducible refine' ex_var (i := 0) (x := "part") ?h_85 ?g_85 ?q_85); (case h_85 => exact At.of rfl rfl a_is_command_0); (case g_85 => rfl))
  (with_reducible refine ex_int ?_)
  ((with_reducible show (IX _ _ (.tup _) (.int _) _ _ _)); refine ix_t rfl ?_)
  (with_reducible refine sxs_cons ?_)
  with_reducible refine sx_if ?_
  ((with_reducible refine tx_cmp ?h_90 ?q_90); (case h_90 => first | exact nomark _ | rfl))
  refine' ex_lcp (own := [("one", 3)]) (t := .inl 3) ?f rfl sc_is_command.nd (blkOk_by (N := n_is_command) (sc := defScope s_is_command) (by decide +kernel)) (by decide) (fun _ _ _ _ _ => pg_name (i := 3) sc_is_command.nd rfl (by first | exact Or.inl rfl | exact Or.inr rfl)) (fun _ => rfl) ?_
  case f => exact fun _ => none
  refine lx_tup ?_
  ((with_reducible refine' ex_var (i := 2) (x := "wants") ?h_92 ?g_92 ?q_92); (case h_92 => exact At.of rfl rfl a_is_command_2); (case g_92 => rfl))
  refine ⟨_, rfl, ⟨?_, fun d M' hd hm => ?_⟩, ?_⟩
  · rw [List.length_map]
    exact Nat.lt_of_le_of_lt (by omega : _ ≤ 8) (by decide)
  · obtain ⟨n, hn, rfl⟩ := List.mem_map.mp hd
    have hlt := ok.lt n hn
    refine fun s1 H1 C1 cl1 fp1 => txs_one ?_
    (with_reducible refine tx_not ?_)
    ((with_reducible show TX _ _ (.Call _ _ _ _) _ _ _); refine tx_val (fun _ => rfl) ?_)
    ((with_reducible refine' ex_call ?c_95 ?hr_95 ?hg_95 ?hd_95 ?he_95 ?hp_95 ?q_95); (case c_95 => first | exact Dfn.blk (by with_reducible assumption) | exact Dfn.fnb (by with_reducible assumption)); (case hr_95 => first | assumption | exact Room.mono (by assumption) (by decide)); (case hg_95 => rfl); (case hd_95 => rfl); (case he_95 => rfl); (case hp_95 => rfl))
    ((with_reducible refine ax_cons ?h_96 ?q_96); (case h_96 => rfl))
    ((with_reducible refine' ex_var (i := 3) (x := "one") ?h_97 ?g_97 ?q_97); (case h_97 => exact At.b rfl (by first | exact Or.inl rfl | exact Or.inr (Or.inl rfl) | exact Or.inr (Or.inr rfl))); (case g_97 => rfl))
    ((with_reducible refine ax_cons ?h_98 ?q_98); (case h_98 => rfl))
    (with_reducible refine ex_int ?_)
    ((with_reducible refine ax_cons ?h_100 ?q_100); (case h_100 => rfl))
    (with_reducible refine ex_bin ?_)
    ((with_reducible refine' ex_var (i := 1) (x := "number") ?h_102 ?g_102 ?q_102); (case h_102 => exact At.b rfl (by first | exact Or.inl rfl | exact Or.inr (Or.inl rfl) | exact Or.inr (Or.inr rfl))); (case g_102 => rfl))
    (with_reducible refine ex_int ?_)
    (with_reducible refine ox_sub ?_)
    (with_reducible refine ax_nil ?_)
    refine num_ok (by omega) (by omega) ⟨rfl, rfl⟩
  rw [filterMap_none]
  (with_reducible refine ex_cmp0 ?_)
  refine ox_ne0 (n := 0) hr.units (by simp) (by decide) ?_
  (with_reducible refine asB_bl ?_)
  ((with_reducible show (ite (_ = true) _ _)); first | refine iteT' rfl ?_ | refine iteF' rfl ?_)
  (with_reducible refine sxs_nil ?_)
  (with_reducible refine sxs_one ?_)
  (with_reducible refine sx_ret ?_)
  ((with_reducible refine ex_cmp ?h_112 ?q_112); (case h_112 => first | exact nomark _ | rfl))
  refine' ex_lcp (own := [("k", 4)]) (t := .inl 4) ?f rfl sc_is_command.nd (blkOk_by (N := n_is_command) (sc := defScope s_is_command) (by decide +kernel)) (by decide) (fun _ _ _ _ _ => pg_name (i := 4) sc_is_command.nd rfl (by first | exact Or.inl rfl | exact Or.inr rfl)) (fun _ => rfl) ?_
  case f => exact fun _ => none
  refine lx_range2 rfl zr rfl rfl ?_
  (with_reducible refine ex_int ?_)
  ((with_reducible refine' ex_callB ?c_115 ?he_115 ?hp_115 ?q_115); (case c_115 => first | with_reducible assumption | exact Blt.fn (by with_reducible assumption) rfl (by first | with_reducible exact bb_len | with_reducible exact bb_isinstance | with_reducible exact bb_max | with_reducible exact bb_min)); (case he_115 => rfl); (case hp_115 => rfl))
  ((with_reducible refine ax_cons ?h_116 ?q_116); (case h_116 => rfl))
  ((with_reducible refine' ex_var (i := 2) (x := "wants") ?h_117 ?g_117 ?q_117); (case h_117 => exact At.of rfl rfl a_is_command_2); (case g_117 => rfl))
  (with_reducible refine ax_nil ?_)
  (with_reducible refine bx_lenT ?_)
  refine ⟨_, _, rfl, rfl, by rw [List.length_map]; omega, ⟨?_, fun d M' hd hm => ?_⟩, ?_⟩
  · rw [rangeD_len, List.length_map]
    exact Nat.lt_of_le_of_lt (by omega : _ ≤ 8) (by decide)
  · obtain ⟨j, hj⟩ := List.mem_iff_getElem?.mp hd
    obtain ⟨hlt, rfl⟩ := rangeD_at hj
    rw [List.length_map] at hlt
    have h1 : j + 1 < c.wants.length := by omega
    have h0 : j < c.wants.length := by omega
    have e1 : (c.wants.map encN)[j + 1]? = some (encN c.wants[j + 1]) := by rw [List.getElem?_map, List.getElem?_eq_getElem h1]; rfl
    have e0 : (c.wants.map encN)[j]? = some (encN c.wants[j]) := by rw [List.getElem?_map, List.getElem?_eq_getElem h0]; rfl
    have up := List.pairwise_iff_getElem.mp ok.up j (j + 1) h0 h1 (by omega)
    refine fun s1 H1 C1 cl1 fp1 => txs_one ?_
    ((with_reducible refine tx_cmp ?h_120 ?q_120); (case h_120 => first | exact nomark _ | rfl))
    ((with_reducible refine ex_sub ?h_121 ?q_121); (case h_121 => exact fun _ _ => rfl))
    ((with_reducible refine' ex_var (i := 2) (x := "wants") ?h_122 ?g_122 ?q_122); (case h_122 => exact At.b rfl (by first | exact Or.inl rfl | exact Or.inr (Or.inl rfl) | exact Or.inr (Or.inr rfl))); (case g_122 => rfl))
    ((with_reducible refine' ex_var (i := 4) (x := "k") ?h_123 ?g_123 ?q_123); (case h_123 => exact At.b rfl (by first | exact Or.inl rfl | exact Or.inr (Or.inl rfl) | exact Or.inr (Or.inr rfl))); (case g_123 => rfl))
    refine ix_t (atI_of (j := j + 1) (by omega) e1) ?_
    ((with_reducible refine ex_sub ?h_124 ?q_124); (case h_124 => exact fun _ _ => rfl))
    ((with_reducible refine' ex_var (i := 2) (x := "wants") ?h_125 ?g_125 ?q_125); (case h_125 => exact At.b rfl (by first | exact Or.inl rfl | exact Or.inr (Or.inl rfl) | exact Or.inr (Or.inr rfl))); (case g_125 => rfl))
    (with_reducible refine ex_bin ?_)
    ((with_reducible refine' ex_var (i := 4) (x := "k") ?h_127 ?g_127 ?q_127); (case h_127 => exact At.b rfl (by first | exact Or.inl rfl | exact Or.inr (Or.inl rfl) | exact Or.inr (Or.inr rfl))); (case g_127 => rfl))
    (with_reducible refine ex_int ?_)
    (with_reducible refine ox_sub ?_)
    refine ix_t (atI_of (j := j) (by omega) e0) ?_
    unfold encN
    (with_reducible refine ox_le ?_)
    (with_reducible refine asB_bl ?_)
    refine iteF' (decide_eq_false (by omega)) ⟨rfl, rfl⟩
  · rw [filterMap_none]
    (with_reducible refine ex_cmp0 ?_)
    exact ox_eq0 (n := 0) hr.units (by simp) (by decide) k
theorem ok_need_book {f : Addr} {fd : FuncData} (Fn : Fun K "need_book" "need_book" s_need_book f fd) (zi : mg "isinstance" = none) (zt : mg "tuple" = none) (ze : mg "enumerate" = none) (gM : Cst K mg "MOST_COMMANDS" (.int 8)) (dN : Dfn P w K mg base 2 "is_command" spIsCommand) :
    FnOk P w K mg base CX0 3 f fd ["book"] (lift K spNeedBook) := by
  refine fun_ok Fn sc_need_book (fun ds M Q ⟨_, e, _⟩ => by rw [e]; rfl) fun cdv A outer s H E hr ds M Q h B => ?_
  obtain ⟨b, rfl, ok, k⟩ := h
  unfold encB
  (refine sxs_cons ?_)
  with_reducible refine sx_if ?_
  ((with_reducible show TX _ _ (.BoolOp _ _ _) _ _ _); refine TW.tx ?_)
  (with_reducible refine tw_or ?_)
  (with_reducible refine tx_not ?_)
  ((with_reducible show TX _ _ (.Call _ _ _ _) _ _ _); refine tx_val (fun _ => rfl) ?_)
  ((with_reducible refine' ex_callB ?c_139 ?he_139 ?hp_139 ?q_139); (case c_139 => first | with_reducible assumption | exact Blt.fn (by with_reducible assumption) rfl (by first | with_reducible exact bb_len | with_reducible exact bb_isinstance | with_reducible exact bb_max | with_reducible exact bb_min)); (case he_139 => rfl); (case hp_139 => rfl))
  ((with_reducible refine ax_cons ?h_140 ?q_140); (case h_140 => rfl))
  ((with_reducible refine' ex_var (i := 0) (x := "book") ?h_141 ?g_141 ?q_141); (case h_141 => exact At.of rfl rfl a_need_book_0); (case g_141 => rfl))
  ((with_reducible refine ax_cons ?h_142 ?q_142); (case h_142 => rfl))
  ((with_reducible refine' ex_ty ?c_143 ?q_143); (case c_143 => first | with_reducible assumption | exact Blt.fn (by with_reducible assumption) rfl (by first | with_reducible exact bb_int | with_reducible exact bb_bool | with_reducible exact bb_str | with_reducible exact bb_tuple | with_reducible exact bb_list | with_reducible exact bb_dict)))
  (with_reducible refine ax_nil ?_)
  ((with_reducible refine bx_isiTu ?h_145 ?q_145); (case h_145 => first | rfl | assumption))
  (with_reducible refine asB_bl ?_)
  ((with_reducible show (ite (_ = true) _ _)); first | refine iteT' rfl ?_ | refine iteF' rfl ?_)
  (with_reducible refine tw_or1 ?_)
  ((with_reducible refine tx_cmp ?h_149 ?q_149); (case h_149 => first | exact nomark _ | rfl))
  ((with_reducible refine' ex_var (i := 0) (x := "book") ?h_150 ?g_150 ?q_150); (case h_150 => exact At.of rfl rfl a_need_book_0); (case g_150 => rfl))
  ((with_reducible refine ex_tup ?q_151))
  (with_reducible refine ax_nil ?_)
  ((with_reducible show (List.length _ ≤ sizeLine ∧ _)); refine And.intro (Nat.le_of_ble_eq_true rfl) ?_)
  refine ox_eqD hr.units (okEq_of (encB_okE b).1 (Nat.le_trans (encB_okE b).2 (by decide))) (okEq_tup (n := 0) (by simp) (by decide)) ?_
  rw [eqD_tup, eqDs_nil_r]
  have h0 : (b.map Cmd.enc).isEmpty = false := by
    cases b with
    | nil => exact absurd rfl ok.ne
    | cons c b => rfl
  rw [h0]
  (with_reducible refine asB_bl ?_)
  ((with_reducible show (ite (_ = true) _ _)); first | refine iteT' rfl ?_ | refine iteF' rfl ?_)
  (with_reducible refine sxs_nil ?_)
  (with_reducible refine sxs_one ?_)
  refine sx_for PassesOwn.never rfl (fun _ => rfl) ?_
  refine lx_enumT rfl ze rfl ⟨_, _, _, rfl⟩ ?_
  ((with_reducible refine' ex_var (i := 0) (x := "book") ?h_158 ?g_158 ?q_158); (case h_158 => exact At.of rfl rfl a_need_book_0); (case g_158 => rfl))
  refine ⟨_, rfl, fun i G' M' => ∃ a c, G' = [some (.tup (b.map Cmd.enc)), a, c] ∧ M' = M, ⟨_, _, rfl, rfl⟩, ?_, ?_⟩
  · rintro i d G' M' hd ⟨a, c, rfl, rfl⟩
    obtain ⟨x, hx, rfl⟩ := enumD_at hd
    rw [List.getElem?_map] at hx
    obtain ⟨cm, hcm, rfl⟩ := Option.map_eq_some_iff.mp hx
    have hi : i < b.length := (List.getElem?_eq_some_iff.mp hcm).1
    have h8 := ok.le
    ((with_reducible refine' gx_tup ?c_159 ?l_159 ?h_159 ?g_159 ?q_159); (case c_159 => rfl); (case l_159 => rfl); (case h_159 => rfl); (case g_159 => rfl))
    ((with_reducible refine gxs_cons ?h_160 ?q_160); (case h_160 => rfl))
    ((with_reducible refine gx_name (i := 1) (x := "number") ?h_161 ?q_161); (case h_161 => exact Lc.of sc_need_book.nd rfl rfl (.inl rfl) a_need_book_1))
    ((with_reducible refine gxs_cons ?h_162 ?q_162); (case h_162 => rfl))
    ((with_reducible refine gx_name (i := 2) (x := "command") ?h_163 ?q_163); (case h_163 => exact Lc.of sc_need_book.nd rfl rfl (.inl rfl) a_need_book_2))
    (with_reducible refine gxs_nil ?_)
    (with_reducible refine sxs_one ?_)
    with_reducible refine sx_if ?_
    ((with_reducible show TX _ _ (.BoolOp _ _ _) _ _ _); refine TW.tx ?_)
    (with_reducible refine tw_or ?_)
    ((with_reducible refine tx_cmp ?h_169 ?q_169); (case h_169 => first | exact nomark _ | rfl))
    ((with_reducible refine' ex_var (i := 1) (x := "number") ?h_170 ?g_170 ?q_170); (case h_170 => exact At.of rfl rfl a_need_book_1); (case g_170 => rfl))
    ((with_reducible refine' ex_glob ?c_171 ?q_171); (case c_171 => first | with_reducible assumption | exact Gb.fn (by with_reducible assumption) rfl))
    (with_reducible refine ox_ge ?_)
    (with_reducible refine asB_bl ?_)
    refine ite_dec (fun h1 => by omega) (fun _ => ?_)
    (with_reducible refine tw_or1 ?_)
    (with_reducible refine tx_not ?_)
    ((with_reducible show TX _ _ (.Call _ _ _ _) _ _ _); refine tx_val (fun _ => rfl) ?_)
    ((with_reducible refine' ex_call ?c_177 ?hr_177 ?hg_177 ?hd_177 ?he_177 ?hp_177 ?q_177); (case c_177 => first | with_reducible assumption | exact Dfn.fn (by with_reducible assumption)); (case hr_177 => first | assumption | exact Room.mono (by assumption) (by decide)); (case hg_177 => rfl); (case hd_177 => rfl); (case he_177 => rfl); (case hp_177 => rfl))
    ((with_reducible refine ax_cons ?h_178 ?q_178); (case h_178 => rfl))
    ((with_reducible refine' ex_var (i := 2) (x := "command") ?h_179 ?g_179 ?q_179); (case h_179 => exact At.of rfl rfl a_need_book_2); (case g_179 => rfl))
    ((with_reducible refine ax_cons ?h_180 ?q_180); (case h_180 => rfl))
    ((with_reducible refine' ex_var (i := 1) (x := "number") ?h_181 ?g_181 ?q_181); (case h_181 => exact At.of rfl rfl a_need_book_1); (case g_181 => rfl))
    (with_reducible refine ax_nil ?_)
    refine ⟨cm, i, rfl, ok.ok i cm hcm, by omega, ?_⟩
    (with_reducible refine asB_bl ?_)
    ((with_reducible show (ite (_ = true) _ _)); first | refine iteT' rfl ?_ | refine iteF' rfl ?_)
    (with_reducible refine sxs_nil ?_)
    exact ⟨_, _, rfl, rfl⟩
  · rintro G' M' ⟨a, c, rfl, rfl⟩
    exact k
end

section
variable {P : Program} {w : World} {K : PySem.W.Frag} {mg : Str → Option Value} {base : Heap}
theorem ok_need_delay {f : Addr} {fd : FuncData} (Fn : Fun K "need_delay" "need_delay" s_need_delay f fd) (gM : Cst K mg "MOST_DELAY" (.int 9)) (dN : Dfn P w K mg base 1 "is_number" spIsNumber) :
    FnOk P w K mg base CX0 2 f fd ["delay"] (lift K spNeedDelay) := by
  refine fun_ok Fn sc_need_delay (fun ds M Q ⟨_, e, _⟩ => by rw [e]; rfl) fun cdv A outer s H E hr ds M Q h B => ?_
  obtain ⟨n, rfl, h0, h1, k⟩ := h
  (refine sxs_one ?_)
  with_reducible refine sx_if ?_
  (with_reducible refine tx_not ?_)
  ((with_reducible show TX _ _ (.Call _ _ _ _) _ _ _); refine tx_val (fun _ => rfl) ?_)
  ((with_reducible refine' ex_call ?c_5 ?hr_5 ?hg_5 ?hd_5 ?he_5 ?hp_5 ?q_5); (case c_5 => first | with_reducible assumption | exact Dfn.fn (by with_reducible assumption)); (case hr_5 => first | assumption | exact Room.mono (by assumption) (by decide)); (case hg_5 => rfl); (case hd_5 => rfl); (case he_5 => rfl); (case hp_5 => rfl))
  ((with_reducible refine ax_cons ?h_6 ?q_6); (case h_6 => rfl))
  ((with_reducible refine' ex_var (i := 0) (x := "delay") ?h_7 ?g_7 ?q_7); (case h_7 => exact At.of rfl rfl a_need_delay_0); (case g_7 => rfl))
  ((with_reducible refine ax_cons ?h_8 ?q_8); (case h_8 => rfl))
  (with_reducible refine ex_int ?_)
  ((with_reducible refine ax_cons ?h_10 ?q_10); (case h_10 => rfl))
  ((with_reducible refine' ex_glob ?c_11 ?q_11); (case c_11 => first | with_reducible assumption | exact Gb.fn (by with_reducible assumption) rfl))
  (with_reducible refine ax_nil ?_)
  refine num_ok h0 h1 ?_
  (with_reducible refine asB_bl ?_)
  ((with_reducible show (ite (_ = true) _ _)); first | refine iteT' rfl ?_ | refine iteF' rfl ?_)
  (with_reducible refine sxs_nil ?_)
  exact k
end

/-! ### sends, lists of numbers as data -/
def encSd (s : Int × Nat) : D := .tup [.int s.1, encN s.2]
structure SendsOk (n : Nat) (ss : List (Int × Nat)) : Prop where
  ok : ∀ s ∈ ss, 0 ≤ s.1 ∧ s.1 ≤ 199 ∧ s.2 < n
  up : ss.Pairwise (fun a b => a.1 < b.1)
def encNs (l : List Nat) : D := .lst (l.map encN)
def encLL (xs : List (List Nat)) : D := .lst (xs.map encNs)

/-! ### what a craft has of a command -/
inductive Wd where
  | none | held | done | back | late
  deriving DecidableEq
def Wd.str : Wd → Str
  | .none => "none" | .held => "held" | .done => "done" | .back => "back" | .late => "late"
def Wd.all : List Wd := [.none, .held, .done, .back, .late]
theorem Wd.mem (a : Wd) : a ∈ Wd.all := by cases a <;> decide
theorem Wd.inj {a b : Wd} : a.str = b.str ↔ a = b := by
  have h : ∀ a ∈ Wd.all, ∀ b ∈ Wd.all, (a.str = b.str ↔ a = b) := by decide +kernel
  exact h a a.mem b b.mem
theorem Wd.strOk (a : Wd) : PyData.strOk a.str = true := by
  have h : ∀ a ∈ Wd.all, PyData.strOk a.str = true := by decide +kernel
  exact h a a.mem
def encW (w : Wd) : D := .str w.str
def encSt (s : List Wd) : D := .tup (s.map encW)
/-- a letter: whether it calls back, the number -/
abbrev Lt := Bool × Nat
def Lt.wd (l : Lt) : Str := if l.1 then "back" else "cmd"
def encLt (l : Lt) : D := .tup [.str l.wd, encN l.2]
def hearW (bk : Bool) (w : Wd) : Wd := if bk then (if w = .none ∨ w = .held then .back else w) else (if w = .none then .held else w)
def heardF (s : List Wd) (l : Lt) : List Wd := s.set l.2 (hearW l.1 (s.getD l.2 .none))
def goneOne (c : Cmd) (t : Int) (s : List Wd) (w : Wd) : Wd := if w = .held then (if c.til < t then .late else if c.when ≤ t ∧ ∀ j ∈ c.wants, s.getD j .none = .done then .done else .held) else w
def goneGo (t : Int) : List Cmd → Nat → List Wd → List Wd
  | [], _, s => s
  | c :: cs, i, s => goneGo t cs (i + 1) (s.set i (goneOne c t s (s.getD i .none)))
def goneF (b : List Cmd) (t : Int) (s : List Wd) : List Wd := goneGo t b 0 s
def beatenF (b : List Cmd) (s : List Wd) (ls : List Lt) (t : Int) : List Wd := goneF b t (ls.foldl heardF s)
theorem heardF_len {s : List Wd} {l : Lt} : (heardF s l).length = s.length := by simp [heardF]
theorem foldl_heard_len : ∀ {ls : List Lt} {s : List Wd}, (ls.foldl heardF s).length = s.length
  | [], _ => rfl
  | l :: ls, s => by rw [List.foldl_cons, foldl_heard_len, heardF_len]
theorem goneGo_len {t : Int} : ∀ {b : List Cmd} {i : Nat} {s : List Wd}, (goneGo t b i s).length = s.length
  | [], _, _ => rfl
  | c :: cs, i, s => by rw [goneGo, goneGo_len]; simp
theorem beatenF_len {b : List Cmd} {s : List Wd} {ls : List Lt} {t : Int} : (beatenF b s ls t).length = s.length := by rw [beatenF, goneF, goneGo_len, foldl_heard_len]
theorem encW_at {s : List Wd} {n : Nat} (h : n < s.length) : (s.map encW)[n]? = some (encW (s.getD n .none)) := by
  rw [List.getElem?_map, List.getElem?_eq_getElem h, List.getD_eq_getElem?_getD, List.getElem?_eq_getElem h]; rfl
theorem set_getD {s : List Wd} {n : Nat} (h : n < s.length) : s.set n (s.getD n .none) = s := by
  rw [List.getD_eq_getElem?_getD, List.getElem?_eq_getElem h]
  exact List.set_getElem_self h
theorem strs_okE {ws : List Wd} : ∀ d ∈ ws.map encW, d.okE = true ∧ d.dep ≤ 0 := fun d hd => by
  obtain ⟨x, _, rfl⟩ := List.mem_map.mp hd
  exact ⟨by unfold encW D.okE; exact x.strOk, by unfold encW D.dep; exact Nat.le_refl 0⟩
theorem eqDs_encW {xs ys : List Wd} : eqDs (xs.map encW) (ys.map encW) = decide (xs = ys) := eqDs_enc (fun x y => by
  unfold encW
  rw [eqD_str']
  exact dec_of Wd.inj) xs ys
theorem done_eq : ∀ {s : List Wd} {ws : List Nat}, ((ws.map fun j => s.getD j .none) = List.replicate ws.length .done) ↔ ∀ j ∈ ws, s.getD j .none = .done
  | s, [] => by simp
  | s, j :: ws => by
    rw [List.map_cons, List.length_cons, List.replicate_succ, List.cons.injEq, done_eq (ws := ws)]
    simp
theorem inD_w {w : Wd} {ws : List Wd} : inD (encW w) (ws.map encW) = decide (w ∈ ws) := by
  have e : ws.map encW = (ws.map Wd.str).map D.str := by rw [List.map_map]; rfl
  unfold encW at e ⊢
  rw [e, inD_str]
  refine dec_of ?_
  rw [List.mem_map]
  constructor
  · rintro ⟨a, ha, h⟩
    rw [← Wd.inj.mp h]; exact ha
  · exact fun h => ⟨w, h, rfl⟩
theorem flat_encW {ws : List Wd} : (ws.map encW).all D.flat = true := by
  simp only [List.all_map, List.all_eq_true]
  intro x _; rfl
section
variable {B : Bs} {X : Cx} {G : Sl} {M : Mem} {Q : D → Mem → Prop} {w v : Wd} {ws : List Wd}
theorem ox_inW (q : Q (.bl (decide (w ∈ ws))) M) : OX B X (compareOp .In) (encW w) (.tup (ws.map encW)) G M Q := ox_inT rfl flat_encW (by rw [inD_w]; exact q)
theorem ox_notInW (q : Q (.bl (!decide (w ∈ ws))) M) : OX B X (compareOp .NotIn) (encW w) (.tup (ws.map encW)) G M Q := ox_notInT rfl flat_encW (by rw [inD_w]; exact q)
theorem ox_eqW (v : Wd) (q : Q (.bl (decide (w = v))) M) : OX B X (compareOp .Eq) (encW w) (.str v.str) G M Q := by
  unfold encW
  refine ox_eqS ?_
  rw [dec_of Wd.inj]; exact q
theorem ox_neW (v : Wd) (q : Q (.bl (!decide (w = v))) M) : OX B X (compareOp .NotEq) (encW w) (.str v.str) G M Q := by
  unfold encW
  refine ox_neS ?_
  rw [dec_of Wd.inj]; exact q
end

/-! ### windows -/
def encP (p : Int × Int) : D := .tup [.int p.1, .int p.2]
def encWn (ws : List (Int × Int)) : D := .tup (ws.map encP)
def WinFrom : Int → List (Int × Int) → Prop
  | _, [] => True
  | l, p :: r => l ≤ p.1 ∧ p.1 ≤ 199 ∧ p.1 + 1 ≤ p.2 ∧ p.2 ≤ 200 ∧ WinFrom p.2 r
def openB (ws : List (Int × Int)) (t : Int) : Bool := ws.any fun p => decide (p.1 ≤ t) && decide (t < p.2)
def beatsF (ws : List (Int × Int)) (many : Nat) : List Nat := ((List.range 200).filter fun t : Nat => openB ws t).take many
theorem cutD_to' {ds : List D} {n : Nat} : cutD ds none (some (n : Int)) = ds.take n := by
  unfold FL.cutD
  rw [HT.sIx_none, HT.sIx_nat, List.drop_zero, Nat.sub_zero]
  by_cases h : n ≤ ds.length
  · rw [Nat.min_eq_left h]
  · rw [Nat.min_eq_right (by omega), List.take_of_length_le (Nat.le_refl _), List.take_of_length_le (by omega)]
def fOpen (t : Int) : D → Option D
  | .tup [.int a, .int b] => if a ≤ t ∧ t < b then some (.tup [.int a, .int b]) else none
  | _ => none
theorem fOpen_all {t : Int} : ∀ ws : List (Int × Int), (ws.map encP).filterMap (fOpen t) = (ws.filter fun p => decide (p.1 ≤ t) && decide (t < p.2)).map encP
  | [] => rfl
  | p :: ws => by
    rw [List.map_cons, List.filterMap_cons, List.filter_cons]
    have e : fOpen t (encP p) = if p.1 ≤ t ∧ t < p.2 then some (encP p) else none := rfl
    rw [e, fOpen_all ws]
    by_cases h1 : p.1 ≤ t
    · by_cases h2 : t < p.2
      · simp [h1, h2]
      · simp [h1, h2]
    · simp [h1]
theorem open_ne {t : Int} {ws : List (Int × Int)} : (!((ws.filter fun p => decide (p.1 ≤ t) && decide (t < p.2)).map encP).isEmpty) = openB ws t := by
  unfold openB
  rw [List.isEmpty_map]
  induction ws with
  | nil => rfl
  | cons p ws ih =>
    rw [List.filter_cons, List.any_cons]
    cases h : (decide (p.1 ≤ t) && decide (t < p.2)) with
    | true => rfl
    | false => simp only [Bool.false_eq_true, if_false, Bool.false_or]; exact ih
theorem encP_ok {ws : List (Int × Int)} : ∀ d ∈ ws.map encP, d.okE = true ∧ d.dep ≤ 1 := fun d hd => by
  obtain ⟨p, _, rfl⟩ := List.mem_map.mp hd
  exact ⟨rfl, Nat.le_refl 1⟩
def spNeedWindows : DSp := fun ds M Q => ∃ ws : List (Int × Int), ds = [encWn ws] ∧ WinFrom 0 ws ∧ Q .non M
def spIsOpen : DSp := fun ds M Q => ∃ (ws : List (Int × Int)) (t : Int), ds = [encWn ws, .int t] ∧ ws.length ≤ 1000 ∧ Q (.bl (openB ws t)) M
def spOpenBeats : DSp := fun ds M Q => ∃ (ws : List (Int × Int)) (many : Nat), ds = [encWn ws, .int many] ∧ ws.length ≤ 1000 ∧ Q (.lst ((beatsF ws many).map encN)) M
section
variable {P : Program} {w : World} {K : PySem.W.Frag} {mg : Str → Option Value} {base : Heap}
theorem ok_need_windows {f : Addr} {fd : FuncData} (Fn : Fun K "need_windows" "need_windows" s_need_windows f fd) (zi : mg "isinstance" = none) (zt : mg "tuple" = none) (zl : mg "len" = none) (gM : Cst K mg "MOST_BEAT" (.int 200)) (dN : Dfn P w K mg base 1 "is_number" spIsNumber) :
    FnOk P w K mg base CX0 2 f fd ["windows"] (lift K spNeedWindows) := by
  refine fun_ok Fn sc_need_windows (fun ds M Q ⟨_, e, _⟩ => by rw [e]; rfl) fun cdv A outer s H E hr ds M Q h B => ?_
  obtain ⟨ws, rfl, ok, k⟩ := h
  unfold encWn
  (refine sxs_cons ?_)
  with_reducible refine sx_if ?_
  (with_reducible refine tx_not ?_)
  ((with_reducible show TX _ _ (.Call _ _ _ _) _ _ _); refine tx_val (fun _ => rfl) ?_)
  ((with_reducible refine' ex_callB ?c_5 ?he_5 ?hp_5 ?q_5); (case c_5 => first | with_reducible assumption | exact Blt.fn (by with_reducible assumption) rfl (by first | with_reducible exact bb_len | with_reducible exact bb_isinstance | with_reducible exact bb_max | with_reducible exact bb_min)); (case he_5 => rfl); (case hp_5 => rfl))
  ((with_reducible refine ax_cons ?h_6 ?q_6); (case h_6 => rfl))
  ((with_reducible refine' ex_var (i := 0) (x := "windows") ?h_7 ?g_7 ?q_7); (case h_7 => exact At.of rfl rfl a_need_windows_0); (case g_7 => rfl))
  ((with_reducible refine ax_cons ?h_8 ?q_8); (case h_8 => rfl))
  ((with_reducible refine' ex_ty ?c_9 ?q_9); (case c_9 => first | with_reducible assumption | exact Blt.fn (by with_reducible assumption) rfl (by first | with_reducible exact bb_int | with_reducible exact bb_bool | with_reducible exact bb_str | with_reducible exact bb_tuple | with_reducible exact bb_list | with_reducible exact bb_dict)))
  (with_reducible refine ax_nil ?_)
  ((with_reducible refine bx_isiTu ?h_11 ?q_11); (case h_11 => first | rfl | assumption))
  (with_reducible refine asB_bl ?_)
  ((with_reducible show (ite (_ = true) _ _)); first | refine iteT' rfl ?_ | refine iteF' rfl ?_)
  (with_reducible refine sxs_nil ?_)
  (with_reducible refine sxs_cons ?_)
  ((with_reducible refine sx_set (i := 1) (x := "last") ?h_16 ?s_16 ?q_16); (case h_16 => exact Lc.of sc_need_windows.nd rfl rfl (.inl rfl) a_need_windows_1); (case s_16 => rfl))
  (with_reducible refine ex_int ?_)
  (with_reducible refine sxs_one ?_)
  refine sx_for PassesOwn.never rfl (fun _ => rfl) ?_
  refine lx_tup ?_
  ((with_reducible refine' ex_var (i := 0) (x := "windows") ?h_19 ?g_19 ?q_19); (case h_19 => exact At.of rfl rfl a_need_windows_0); (case g_19 => rfl))
  refine ⟨_, rfl, fun i G' M' => ∃ (last : Int) (a2 : Option D), G' = [some (.tup (ws.map encP)), some (.int last), a2] ∧ WinFrom last (ws.drop i) ∧ M' = M, ⟨0, _, rfl, ok, rfl⟩, ?_, ?_⟩
  · rintro i d G' M' hd ⟨last, a2, rfl, hw, rfl⟩
    rw [List.getElem?_map] at hd
    obtain ⟨p, hp, rfl⟩ := Option.map_eq_some_iff.mp hd
    have hi : i < ws.length := (List.getElem?_eq_some_iff.mp hp).1
    have ep : ws[i] = p := by
      rw [List.getElem?_eq_getElem hi] at hp; exact Option.some.inj hp
    rw [List.drop_eq_getElem_cons hi, ep] at hw
    obtain ⟨w1, w2, w3, w4, w5⟩ := hw
    unfold encP
    ((with_reducible refine gx_name (i := 2) (x := "pair") ?h_20 ?q_20); (case h_20 => exact Lc.of sc_need_windows.nd rfl rfl (.inl rfl) a_need_windows_2))
    (with_reducible refine sxs_cons ?_)
    with_reducible refine sx_if ?_
    ((with_reducible show TX _ _ (.BoolOp _ _ _) _ _ _); refine TW.tx ?_)
    (with_reducible refine tw_or ?_)
    (with_reducible refine tx_not ?_)
    ((with_reducible show TX _ _ (.Call _ _ _ _) _ _ _); refine tx_val (fun _ => rfl) ?_)
    ((with_reducible refine' ex_callB ?c_27 ?he_27 ?hp_27 ?q_27); (case c_27 => first | with_reducible assumption | exact Blt.fn (by with_reducible assumption) rfl (by first | with_reducible exact bb_len | with_reducible exact bb_isinstance | with_reducible exact bb_max | with_reducible exact bb_min)); (case he_27 => rfl); (case hp_27 => rfl))
    ((with_reducible refine ax_cons ?h_28 ?q_28); (case h_28 => rfl))
    ((with_reducible refine' ex_var (i := 2) (x := "pair") ?h_29 ?g_29 ?q_29); (case h_29 => exact At.of rfl rfl a_need_windows_2); (case g_29 => rfl))
    ((with_reducible refine ax_cons ?h_30 ?q_30); (case h_30 => rfl))
    ((with_reducible refine' ex_ty ?c_31 ?q_31); (case c_31 => first | with_reducible assumption | exact Blt.fn (by with_reducible assumption) rfl (by first | with_reducible exact bb_int | with_reducible exact bb_bool | with_reducible exact bb_str | with_reducible exact bb_tuple | with_reducible exact bb_list | with_reducible exact bb_dict)))
    (with_reducible refine ax_nil ?_)
    ((with_reducible refine bx_isiTu ?h_33 ?q_33); (case h_33 => first | rfl | assumption))
    (with_reducible refine asB_bl ?_)
    ((with_reducible show (ite (_ = true) _ _)); first | refine iteT' rfl ?_ | refine iteF' rfl ?_)
    (with_reducible refine tw_or ?_)
    ((with_reducible refine tx_cmp ?h_37 ?q_37); (case h_37 => first | exact nomark _ | rfl))
    ((with_reducible refine' ex_callB ?c_38 ?he_38 ?hp_38 ?q_38); (case c_38 => first | with_reducible assumption | exact Blt.fn (by with_reducible assumption) rfl (by first | with_reducible exact bb_len | with_reducible exact bb_isinstance | with_reducible exact bb_max | with_reducible exact bb_min)); (case he_38 => rfl); (case hp_38 => rfl))
    ((with_reducible refine ax_cons ?h_39 ?q_39); (case h_39 => rfl))
    ((with_reducible refine' ex_var (i := 2) (x := "pair") ?h_40 ?g_40 ?q_40); (case h_40 => exact At.of rfl rfl a_need_windows_2); (case g_40 => rfl))
    (with_reducible refine ax_nil ?_)
    (with_reducible refine bx_lenT ?_)
    (with_reducible refine ex_int ?_)
    (with_reducible refine ox_neI ?_)
    (with_reducible refine asB_bl ?_)
    ((with_reducible show (ite ((!decide (_ = _)) = true) _ _)); (with_reducible refine ite_ndec (fun h => absurd rfl h) (fun _ => ?_)))
    (with_reducible refine tw_or1 ?_)
    (with_reducible refine tx_not ?_)
    ((with_reducible show TX _ _ (.Call _ _ _ _) _ _ _); refine tx_val (fun _ => rfl) ?_)
    ((with_reducible refine' ex_call ?c_50 ?hr_50 ?hg_50 ?hd_50 ?he_50 ?hp_50 ?q_50); (case c_50 => first | with_reducible assumption | exact Dfn.fn (by with_reducible assumption)); (case hr_50 => first | assumption | exact Room.mono (by assumption) (by decide)); (case hg_50 => rfl); (case hd_50 => rfl); (case he_50 => rfl); (case hp_50 => rfl))
    ((with_reducible refine ax_cons ?h_51 ?q_51); (case h_51 => rfl))
    ((with_reducible refine ex_sub ?h_52 ?q_52); (case h_52 => exact fun _ _ => rfl))
    ((with_reducible refine' ex_var (i := 2) (x := "pair") ?h_53 ?g_53 ?q_53); (case h_53 => exact At.of rfl rfl a_need_windows_2); (case g_53 => rfl))
    (with_reducible refine ex_int ?_)
    ((with_reducible show (IX _ _ (.tup _) (.int _) _ _ _)); refine ix_t rfl ?_)
    ((with_reducible refine ax_cons ?h_56 ?q_56); (case h_56 => rfl))
    ((with_reducible refine' ex_var (i := 1) (x := "last") ?h_57 ?g_57 ?q_57); (case h_57 => exact At.of rfl rfl a_need_windows_1); (case g_57 => rfl))
    ((with_reducible refine ax_cons ?h_58 ?q_58); (case h_58 => rfl))
    (with_reducible refine ex_bin ?_)
    ((with_reducible refine' ex_glob ?c_60 ?q_60); (case c_60 => first | with_reducible assumption | exact Gb.fn (by with_reducible assumption) rfl))
    (with_reducible refine ex_int ?_)
    (with_reducible refine ox_sub ?_)
    (with_reducible refine ax_nil ?_)
    refine num_ok w1 w2 ?_
    (with_reducible refine asB_bl ?_)
    ((with_reducible show (ite (_ = true) _ _)); first | refine iteT' rfl ?_ | refine iteF' rfl ?_)
    (with_reducible refine sxs_nil ?_)
    (with_reducible refine sxs_cons ?_)
    with_reducible refine sx_if ?_
    (with_reducible refine tx_not ?_)
    ((with_reducible show TX _ _ (.Call _ _ _ _) _ _ _); refine tx_val (fun _ => rfl) ?_)
    ((with_reducible refine' ex_call ?c_71 ?hr_71 ?hg_71 ?hd_71 ?he_71 ?hp_71 ?q_71); (case c_71 => first | with_reducible assumption | exact Dfn.fn (by with_reducible assumption)); (case hr_71 => first | assumption | exact Room.mono (by assumption) (by decide)); (case hg_71 => rfl); (case hd_71 => rfl); (case he_71 => rfl); (case hp_71 => rfl))
    ((with_reducible refine ax_cons ?h_72 ?q_72); (case h_72 => rfl))
    ((with_reducible refine ex_sub ?h_73 ?q_73); (case h_73 => exact fun _ _ => rfl))
    ((with_reducible refine' ex_var (i := 2) (x := "pair") ?h_74 ?g_74 ?q_74); (case h_74 => exact At.of rfl rfl a_need_windows_2); (case g_74 => rfl))
    (with_reducible refine ex_int ?_)
    ((with_reducible show (IX _ _ (.tup _) (.int _) _ _ _)); refine ix_t rfl ?_)
    ((with_reducible refine ax_cons ?h_77 ?q_77); (case h_77 => rfl))
    (with_reducible refine ex_bin ?_)
    ((with_reducible refine ex_sub ?h_79 ?q_79); (case h_79 => exact fun _ _ => rfl))
    ((with_reducible refine' ex_var (i := 2) (x := "pair") ?h_80 ?g_80 ?q_80); (case h_80 => exact At.of rfl rfl a_need_windows_2); (case g_80 => rfl))
    (with_reducible refine ex_int ?_)
    ((with_reducible show (IX _ _ (.tup _) (.int _) _ _ _)); refine ix_t rfl ?_)
    (with_reducible refine ex_int ?_)
    (with_reducible refine ox_add ?_)
    ((with_reducible refine ax_cons ?h_85 ?q_85); (case h_85 => rfl))
    ((with_reducible refine' ex_glob ?c_86 ?q_86); (case c_86 => first | with_reducible assumption | exact Gb.fn (by with_reducible assumption) rfl))
    (with_reducible refine ax_nil ?_)
    refine num_ok w3 w4 ?_
    (with_reducible refine asB_bl ?_)
    ((with_reducible show (ite (_ = true) _ _)); first | refine iteT' rfl ?_ | refine iteF' rfl ?_)
    (with_reducible refine sxs_nil ?_)
    (with_reducible refine sxs_one ?_)
    ((with_reducible refine sx_set (i := 1) (x := "last") ?h_92 ?s_92 ?q_92); (case h_92 => exact Lc.of sc_need_windows.nd rfl rfl (.inl rfl) a_need_windows_1); (case s_92 => rfl))
    ((with_reducible refine ex_sub ?h_93 ?q_93); (case h_93 => exact fun _ _ => rfl))
    ((with_reducible refine' ex_var (i := 2) (x := "pair") ?h_94 ?g_94 ?q_94); (case h_94 => exact At.of rfl rfl a_need_windows_2); (case g_94 => rfl))
    (with_reducible refine ex_int ?_)
    ((with_reducible show (IX _ _ (.tup _) (.int _) _ _ _)); refine ix_t rfl ?_)
    exact ⟨p.2, _, rfl, w5, rfl⟩
  · rintro G' M' ⟨last, a2, rfl, hw, rfl⟩
    exact k
theorem ok_is_open {f : Addr} {fd : FuncData} (Fn : Fun K "is_open" "is_open" s_is_open f fd) : FnOk P w K mg base CX0 1 f fd ["windows", "beat"] (lift K spIsOpen) := by
  refine fun_ok Fn sc_is_open (fun ds M Q ⟨_, _, e, _⟩ => by rw [e]; rfl) fun cdv A outer s H E hr ds M Q h B => ?_
  obtain ⟨ws, t, rfl, hl, k⟩ := h
  unfold encWn
  (refine sxs_one ?_)
  (with_reducible refine sx_ret ?_)
  ((with_reducible refine ex_cmp ?h_99 ?q_99); (case h_99 => first | exact nomark _ | rfl))
  refine' ex_lcp (own := [("pair", 2)]) (t := .inl 2) ?f rfl sc_is_open.nd (blkOk_by (N := n_is_open) (sc := defScope s_is_open) (by decide +kernel)) (by decide) (fun _ _ _ _ _ => pg_name (i := 2) sc_is_open.nd rfl (by first | exact Or.inl rfl | exact Or.inr rfl)) (fun _ => rfl) ?_
  case f => exact fOpen t
  refine lx_tup ?_
  ((with_reducible refine' ex_var (i := 0) (x := "windows") ?h_101 ?g_101 ?q_101); (case h_101 => exact At.of rfl rfl a_is_open_0); (case g_101 => rfl))
  refine ⟨_, rfl, ⟨Nat.lt_of_le_of_lt (by rw [List.length_map]; exact hl) (by decide), fun d M' hd hm => ?_⟩, ?_⟩
  · obtain ⟨p, hp, rfl⟩ := List.mem_map.mp hd
    unfold encP
    refine fun s1 H1 C1 cl1 fp1 => txs_one ?_
    ((with_reducible refine tx_chain ?h_102 ?q_102); (case h_102 => with_unfolding_all rfl))
    ((with_reducible refine ex_sub ?h_103 ?q_103); (case h_103 => exact fun _ _ => rfl))
    ((with_reducible refine' ex_var (i := 2) (x := "pair") ?h_104 ?g_104 ?q_104); (case h_104 => exact At.b rfl (by first | exact Or.inl rfl | exact Or.inr (Or.inl rfl) | exact Or.inr (Or.inr rfl))); (case g_104 => rfl))
    (with_reducible refine ex_int ?_)
    ((with_reducible show (IX _ _ (.tup _) (.int _) _ _ _)); refine ix_t rfl ?_)
    ((with_reducible refine' ex_var (i := 1) (x := "beat") ?h_107 ?g_107 ?q_107); (case h_107 => exact At.b rfl (by first | exact Or.inl rfl | exact Or.inr (Or.inl rfl) | exact Or.inr (Or.inr rfl))); (case g_107 => rfl))
    (with_reducible refine ox_le ?_)
    (with_reducible refine asB_bl ?_)
    refine ite_dec (fun h1 => ?_) (fun h1 => ?_)
    · ((with_reducible refine ex_sub ?h_110 ?q_110); (case h_110 => exact fun _ _ => rfl))
      ((with_reducible refine' ex_var (i := 2) (x := "pair") ?h_111 ?g_111 ?q_111); (case h_111 => exact At.b rfl (by first | exact Or.inl rfl | exact Or.inr (Or.inl rfl) | exact Or.inr (Or.inr rfl))); (case g_111 => rfl))
      (with_reducible refine ex_int ?_)
      ((with_reducible show (IX _ _ (.tup _) (.int _) _ _ _)); refine ix_t rfl ?_)
      (with_reducible refine ox_lt ?_)
      (with_reducible refine asB_bl ?_)
      refine ite_dec (fun h2 => fun s2 H2 C2 cl2 fp2 => ?_) (fun h2 => ?_)
      · ((with_reducible refine' ex_var (i := 2) (x := "pair") ?h_116 ?g_116 ?q_116); (case h_116 => exact At.b rfl (by first | exact Or.inl rfl | exact Or.inr (Or.inl rfl) | exact Or.inr (Or.inr rfl))); (case g_116 => rfl))
        exact ⟨rfl, if_pos ⟨h1, h2⟩⟩
      · exact ⟨rfl, if_neg (fun z => h2 z.2)⟩
    · exact ⟨rfl, if_neg (fun z => h1 z.1)⟩
  rw [fOpen_all]
  (with_reducible refine ex_cmp0 ?_)
  refine ox_ne0 hr.units encP_ok (by decide) ?_
  rw [open_ne]
  exact k
theorem ok_open_beats {f : Addr} {fd : FuncData} (Fn : Fun K "open_beats" "open_beats" s_open_beats f fd) (zr : mg "range" = none) (gM : Cst K mg "MOST_BEAT" (.int 200)) (dO : Dfn P w K mg base 1 "is_open" spIsOpen) : FnOk P w K mg base CX0 2 f fd ["windows", "many"] (lift K spOpenBeats) := by
  refine fun_ok Fn sc_open_beats (fun ds M Q ⟨_, _, e, _⟩ => by rw [e]; rfl) fun cdv A outer s H E hr ds M Q h B => ?_
  obtain ⟨ws, many, rfl, hl, k⟩ := h
  (refine sxs_one ?_)
  (with_reducible refine sx_ret ?_)
  (with_reducible refine ex_slice ?_)
  refine' ex_lcp (own := [("beat", 2)]) (t := .inl 2) ?f rfl sc_open_beats.nd (blkOk_by (N := n_open_beats) (sc := defScope s_open_beats) (by decide +kernel)) (by decide) (fun _ _ _ _ _ => pg_name (i := 2) sc_open_beats.nd rfl (by first | exact Or.inl rfl | exact Or.inr rfl)) (fun _ => rfl) ?_
  case f => exact fun d => match d with
    | .int t => if openB ws t = true then some (.int t) else none
    | _ => none
  refine lx_range1 rfl zr rfl ?_
  ((with_reducible refine' ex_glob ?c_122 ?q_122); (case c_122 => first | with_reducible assumption | exact Gb.fn (by with_reducible assumption) rfl))
  refine ⟨_, rfl, by decide, by decide, ⟨by rw [rangeD_len]; decide, fun d M' hd hm => ?_⟩, ?_⟩
  · obtain ⟨j, hj⟩ := List.mem_iff_getElem?.mp hd
    obtain ⟨hlt, rfl⟩ := rangeD_at hj
    refine fun s1 H1 C1 cl1 fp1 => txs_one ?_
    ((with_reducible show TX _ _ (.Call _ _ _ _) _ _ _); refine tx_val (fun _ => rfl) ?_)
    ((with_reducible refine' ex_call ?c_124 ?hr_124 ?hg_124 ?hd_124 ?he_124 ?hp_124 ?q_124); (case c_124 => first | exact Dfn.blk (by with_reducible assumption) | exact Dfn.fnb (by with_reducible assumption)); (case hr_124 => first | assumption | exact Room.mono (by assumption) (by decide)); (case hg_124 => rfl); (case hd_124 => rfl); (case he_124 => rfl); (case hp_124 => rfl))
    ((with_reducible refine ax_cons ?h_125 ?q_125); (case h_125 => rfl))
    ((with_reducible refine' ex_var (i := 0) (x := "windows") ?h_126 ?g_126 ?q_126); (case h_126 => exact At.b rfl (by first | exact Or.inl rfl | exact Or.inr (Or.inl rfl) | exact Or.inr (Or.inr rfl))); (case g_126 => rfl))
    ((with_reducible refine ax_cons ?h_127 ?q_127); (case h_127 => rfl))
    ((with_reducible refine' ex_var (i := 2) (x := "beat") ?h_128 ?g_128 ?q_128); (case h_128 => exact At.b rfl (by first | exact Or.inl rfl | exact Or.inr (Or.inl rfl) | exact Or.inr (Or.inr rfl))); (case g_128 => rfl))
    (with_reducible refine ax_nil ?_)
    refine ⟨ws, _, rfl, hl, ?_⟩
    refine asB_bl (ite_b (fun h1 => fun s2 H2 C2 cl2 fp2 => ?_) (fun h1 => ?_))
    · ((with_reducible refine' ex_var (i := 2) (x := "beat") ?h_130 ?g_130 ?q_130); (case h_130 => exact At.b rfl (by first | exact Or.inl rfl | exact Or.inr (Or.inl rfl) | exact Or.inr (Or.inr rfl))); (case g_130 => rfl))
      exact ⟨rfl, if_pos h1⟩
    · refine ⟨rfl, if_neg (by rw [h1]; simp)⟩
  have e : (rangeD 0 (200 : Int).toNat).filterMap (fun d => match d with
    | .int t => if openB ws t = true then some (.int t) else none
    | _ => none) = ((List.range 200).filter fun t : Nat => openB ws t).map encN := by
    unfold rangeD
    rw [List.filterMap_map]
    show (List.range 200).filterMap (fun t : Nat => if openB ws (0 + (t : Int)) = true then some (D.int (0 + (t : Int))) else none) = _
    generalize List.range 200 = l
    induction l with
    | nil => rfl
    | cons t l ih =>
      rw [List.filterMap_cons, List.filter_cons, Int.zero_add]
      cases h : openB ws (t : Int) with
      | true => simp only [if_true, List.map_cons]; rw [ih]; rfl
      | false => simp only [Bool.false_eq_true, if_false]; exact ih
  rw [e]
  (with_reducible refine pox_none ?_)
  (with_reducible refine pox_some ?_)
  ((with_reducible refine' ex_var (i := 1) (x := "many") ?h_133 ?g_133 ?q_133); (case h_133 => exact At.of rfl rfl a_open_beats_1); (case g_133 => rfl))
  (refine ⟨_, (rfl : D.int _ = D.int _), (?_ : SLX _ _ _ _ _ _ _ _)⟩)
  first | refine ⟨_, rfl, slx_l IsL.fz ?_⟩ | refine slx_l IsL.fz ?_
  rw [cutD_to', ← List.map_take]
  exact k
end

/-! ### when each is done -/
def encO' : Option Int → D
  | none => .non
  | some i => .int i
/-- the greatest, none if one is -/
def maxO (w : Int) : List (Option Int) → Option Int
  | [] => some w
  | none :: _ => none
  | some x :: r => (maxO w r).map (max x)
def doneOne (c : Cmd) (come : Option Int) (found : List (Option Int)) : Option Int :=
  match maxO c.when (come :: c.wants.map fun j => found.getD j none) with
  | none => none
  | some m => if m ≤ c.til then some m else none
def doneList (comes : List (Option Int)) : List Cmd → List (Option Int) → List (Option Int)
  | [], found => found
  | c :: cs, found => doneList comes cs (found ++ [doneOne c (comes.getD found.length none) found])
def doneAt (b : List Cmd) (comes : List (Option Int)) : List (Option Int) := doneList comes b []
theorem doneList_len {comes : List (Option Int)} : ∀ {b : List Cmd} {found : List (Option Int)}, (doneList comes b found).length = found.length + b.length
  | [], found => by simp [doneList]
  | c :: cs, found => by
    rw [doneList, doneList_len]; simp; omega
theorem doneAt_len {b : List Cmd} {comes : List (Option Int)} : (doneAt b comes).length = b.length := by simp [doneAt, doneList_len]
theorem inD_non : ∀ {xs : List (Option Int)}, inD .non (xs.map encO') = decide (none ∈ xs)
  | [] => by simp [inD, inV]
  | none :: ys => by
    have e : inD .non ((none :: ys).map encO') = (true || inD .non (ys.map encO')) := rfl
    rw [e]; simp
  | some x :: ys => by
    have ih : inD .non (ys.map encO') = decide (none ∈ ys) := inD_non
    have e : inD .non ((some x :: ys).map encO') = (false || inD .non (ys.map encO')) := rfl
    rw [e, ih]; simp
theorem flat_encO {xs : List (Option Int)} : (xs.map encO').all D.flat = true := by
  simp only [List.all_map, List.all_eq_true]
  intro x _
  cases x <;> rfl
theorem maxO_none {w : Int} : ∀ {l : List (Option Int)}, none ∈ l → maxO w l = none
  | none :: _, _ => rfl
  | some x :: r, h => by
    have h' : none ∈ r := by simpa using h
    show (maxO w r).map (max x) = none
    rw [maxO_none h']; rfl
theorem maxO_some {w : Int} : ∀ {l : List (Option Int)}, none ∉ l → ∃ ns : List Int, l.map encO' = ns.map D.int ∧ ∃ m, maxO w l = some m ∧ m ∈ ns ++ [w] ∧ ∀ y ∈ ns ++ [w], y ≤ m
  | [], _ => ⟨[], rfl, w, rfl, by simp, by simp⟩
  | none :: _, h => by simp at h
  | some x :: r, h => by
    obtain ⟨ns, e, m, h1, h2, h3⟩ := maxO_some (w := w) (l := r) (by simpa using h)
    refine ⟨x :: ns, by rw [List.map_cons, e]; rfl, max x m, by show (maxO w r).map (max x) = _; rw [h1]; rfl, ?_, ?_⟩
    · rw [List.cons_append]
      rcases Int.le_total x m with hx | hx
      · rw [Int.max_eq_right hx]; exact List.mem_cons_of_mem _ h2
      · rw [Int.max_eq_left hx]; simp
    · intro y hy
      rw [List.cons_append] at hy
      rcases List.mem_cons.mp hy with rfl | hy
      · exact Int.le_max_left _ _
      · exact Int.le_trans (h3 y hy) (Int.le_max_right _ _)
def spDoneAt : DSp := fun ds M Q => ∃ (b : List Cmd) (comes : List (Option Int)), ds = [encB b, .lst (comes.map encO')] ∧ BookOk b ∧ comes.length = b.length ∧ Q (.lst ((doneAt b comes).map encO')) M
section
variable {P : Program} {w : World} {K : PySem.W.Frag} {mg : Str → Option Value} {base : Heap}
theorem ok_done_at {f : Addr} {fd : FuncData} (Fn : Fun K "done_at" "done_at" s_done_at f fd) (ze : mg "enumerate" = none) (zm : mg "max" = none) : FnOk P w K mg base CX0 1 f fd ["book", "comes"] (lift K spDoneAt) := by
  refine fun_ok Fn sc_done_at (fun ds M Q ⟨_, _, e, _⟩ => by rw [e]; rfl) fun cdv A outer s H E hr ds M Q h B => ?_
  obtain ⟨b, comes, rfl, ok, hlen, k⟩ := h
  unfold encB
  (refine sxs_cons ?_)
  ((with_reducible refine sx_set (i := 2) (x := "found") ?h_2 ?s_2 ?q_2); (case h_2 => exact Lc.of sc_done_at.nd rfl rfl (.inl rfl) a_done_at_2); (case s_2 => rfl))
  refine ex_lstM ?_
  (with_reducible refine ax_nil ?_)
  ((with_reducible show (List.length _ ≤ sizeLine ∧ _)); refine And.intro (Nat.le_of_ble_eq_true rfl) ?_)
  refine fun l fl => ?_
  (with_reducible refine sxs_cons ?_)
  refine sx_for PassesOwn.never rfl (fun _ => rfl) ?_
  refine lx_enumT rfl ze rfl ⟨_, _, _, rfl⟩ ?_
  ((with_reducible refine' ex_var (i := 0) (x := "book") ?h_6 ?g_6 ?q_6); (case h_6 => exact At.of rfl rfl a_done_at_0); (case g_6 => rfl))
  refine ⟨_, rfl, fun i G' M' => ∃ found a3 a4 a5 a6 a7 a8 a9 a10, G' = [some (.tup (b.map Cmd.enc)), some (.lst (comes.map encO')), some (.ref l), a3, a4, a5, a6, a7, a8, a9, a10] ∧ found.length = i ∧ doneList comes (b.drop i) found = doneAt b comes ∧ M' = mupd M l (.lst (found.map encO')),
    ⟨[], _, _, _, _, _, _, _, _, rfl, rfl, rfl, rfl⟩, ?_, ?_⟩
  · rintro i d G' M' hd ⟨found, a3, a4, a5, a6, a7, a8, a9, a10, rfl, hfl, hdl, rfl⟩
    obtain ⟨x, hx, rfl⟩ := enumD_at hd
    rw [List.getElem?_map] at hx
    obtain ⟨c, hc, rfl⟩ := Option.map_eq_some_iff.mp hx
    have hi : i < b.length := (List.getElem?_eq_some_iff.mp hc).1
    have cok := ok.ok i c hc
    have h8 := ok.le
    have hwl := up_len cok.up cok.lt
    have hcm : (comes.map encO')[i]? = some (encO' (comes.getD i none)) := by
      rw [List.getElem?_map, List.getElem?_eq_getElem (by omega), List.getD_eq_getElem?_getD, List.getElem?_eq_getElem (by omega)]; rfl
    unfold Cmd.enc
    ((with_reducible refine' gx_tup ?c_7 ?l_7 ?h_7 ?g_7 ?q_7); (case c_7 => rfl); (case l_7 => rfl); (case h_7 => rfl); (case g_7 => rfl))
    ((with_reducible refine gxs_cons ?h_8 ?q_8); (case h_8 => rfl))
    ((with_reducible refine gx_name (i := 3) (x := "number") ?h_9 ?q_9); (case h_9 => exact Lc.of sc_done_at.nd rfl rfl (.inl rfl) a_done_at_3))
    ((with_reducible refine gxs_cons ?h_10 ?q_10); (case h_10 => rfl))
    ((with_reducible refine gx_name (i := 4) (x := "command") ?h_11 ?q_11); (case h_11 => exact Lc.of sc_done_at.nd rfl rfl (.inl rfl) a_done_at_4))
    (with_reducible refine gxs_nil ?_)
    (with_reducible refine sxs_cons ?_)
    ((with_reducible refine sx_asg ?h_14 ?g_14 ?i_14 ?q_14); (case h_14 => rfl); (case g_14 => rfl); (case i_14 => rfl))
    ((with_reducible refine' ex_var (i := 4) (x := "command") ?h_15 ?g_15 ?q_15); (case h_15 => exact At.of rfl rfl a_done_at_4); (case g_15 => rfl))
    ((with_reducible refine' gx_tup ?c_16 ?l_16 ?h_16 ?g_16 ?q_16); (case c_16 => rfl); (case l_16 => rfl); (case h_16 => rfl); (case g_16 => rfl))
    ((with_reducible refine gxs_cons ?h_17 ?q_17); (case h_17 => rfl))
    ((with_reducible refine gx_name (i := 5) (x := "when") ?h_18 ?q_18); (case h_18 => exact Lc.of sc_done_at.nd rfl rfl (.inl rfl) a_done_at_5))
    ((with_reducible refine gxs_cons ?h_19 ?q_19); (case h_19 => rfl))
    ((with_reducible refine gx_name (i := 6) (x := "until") ?h_20 ?q_20); (case h_20 => exact Lc.of sc_done_at.nd rfl rfl (.inl rfl) a_done_at_6))
    ((with_reducible refine gxs_cons ?h_21 ?q_21); (case h_21 => rfl))
    ((with_reducible refine gx_name (i := 7) (x := "wants") ?h_22 ?q_22); (case h_22 => exact Lc.of sc_done_at.nd rfl rfl (.inl rfl) a_done_at_7))
    (with_reducible refine gxs_nil ?_)
    (with_reducible refine sxs_cons ?_)
    ((with_reducible refine sx_set (i := 8) (x := "some") ?h_25 ?s_25 ?q_25); (case h_25 => exact Lc.of sc_done_at.nd rfl rfl (.inl rfl) a_done_at_8); (case s_25 => rfl))
    (with_reducible refine ex_binL ?_)
    ((with_reducible refine ax_cons ?h_27 ?q_27); (case h_27 => rfl))
    ((with_reducible refine ex_sub ?h_28 ?q_28); (case h_28 => exact fun _ _ => rfl))
    ((with_reducible refine' ex_var (i := 1) (x := "comes") ?h_29 ?g_29 ?q_29); (case h_29 => exact At.of rfl rfl a_done_at_1); (case g_29 => rfl))
    ((with_reducible refine' ex_var (i := 3) (x := "number") ?h_30 ?g_30 ?q_30); (case h_30 => exact At.of rfl rfl a_done_at_3); (case g_30 => rfl))
    refine ix_l (atI_of rfl hcm) ?_
    (with_reducible refine ax_nil ?_)
    ((with_reducible show (List.length _ ≤ sizeLine ∧ _)); refine And.intro (Nat.le_of_ble_eq_true rfl) ?_)
    refine' ex_lcp (own := [("one", 10)]) (t := .inl 10) ?f rfl sc_done_at.nd (blkOk_by (N := n_done_at) (sc := defScope s_done_at) (by decide +kernel)) (by decide) (fun _ _ _ _ _ => pg_name (i := 10) sc_done_at.nd rfl (by first | exact Or.inl rfl | exact Or.inr rfl)) (fun _ => rfl) ?_
    case f => exact fun d => match d with
      | .int j => some (encO' (found.getD j.toNat none))
      | _ => none
    refine lx_tup ?_
    ((with_reducible refine' ex_var (i := 7) (x := "wants") ?h_34 ?g_34 ?q_34); (case h_34 => exact At.of rfl rfl a_done_at_7); (case g_34 => rfl))
    refine ⟨_, rfl, ⟨?_, fun d M' hd hm => ?_⟩, ?_⟩
    · rw [List.length_map]
      exact Nat.lt_of_le_of_lt (by omega : _ ≤ 8) (by decide)
    · obtain ⟨n, hn, rfl⟩ := List.mem_map.mp hd
      have hlt := cok.lt n hn
      have hfm : (found.map encO')[n]? = some (encO' (found.getD n none)) := by
        rw [List.getElem?_map, List.getElem?_eq_getElem (by omega), List.getD_eq_getElem?_getD, List.getElem?_eq_getElem (by omega)]; rfl
      refine fun s1 H1 C1 cl1 fp1 => txs_nil (iteT fun s2 H2 C2 cl2 fp2 => ?_)
      ((with_reducible refine ex_sub ?h_35 ?q_35); (case h_35 => exact fun _ _ => rfl))
      ((with_reducible refine' ex_var (i := 2) (x := "found") ?h_36 ?g_36 ?q_36); (case h_36 => exact At.b rfl (by first | exact Or.inl rfl | exact Or.inr (Or.inl rfl) | exact Or.inr (Or.inr rfl))); (case g_36 => rfl))
      ((with_reducible refine' ex_var (i := 10) (x := "one") ?h_37 ?g_37 ?q_37); (case h_37 => exact At.b rfl (by first | exact Or.inl rfl | exact Or.inr (Or.inl rfl) | exact Or.inr (Or.inr rfl))); (case g_37 => rfl))
      refine ix_c (hm l _ mupd_same) (atI_of rfl hfm) ?_
      exact ⟨rfl, rfl⟩
    have eW : (c.wants.map encN).filterMap (fun d => match d with
      | .int j => some (encO' (found.getD j.toNat none))
      | _ => none) = (c.wants.map fun j => found.getD j none).map encO' := by
      rw [filterMap_enc (enc := encN) (g := fun j => encO' (found.getD j none)) (fun _ _ => rfl), List.map_map]; rfl
    rw [eW]
    refine ox_catL IsL.fz IsL.fz ?_ ?_
    · rw [List.length_map, List.length_map]
      exact Nat.le_trans (by simp; omega : _ ≤ 9) (by decide)
    show SXs _ _ _ _ (_ : Sl) _
    have eS : [encO' (comes.getD i none)] ++ (c.wants.map fun j => found.getD j none).map encO' = (comes.getD i none :: c.wants.map fun j => found.getD j none).map encO' := rfl
    rw [eS]
    generalize hS : (comes.getD i none :: c.wants.map fun j => found.getD j none) = some_ at *
    (with_reducible refine sxs_cons ?_)
    ((with_reducible refine sx_set (i := 9) (x := "beat") ?h_39 ?s_39 ?q_39); (case h_39 => exact Lc.of sc_done_at.nd rfl rfl (.inl rfl) a_done_at_9); (case s_39 => rfl))
    (with_reducible refine ex_if ?_)
    ((with_reducible refine tx_cmp ?h_41 ?q_41); (case h_41 => first | exact nomark _ | rfl))
    (with_reducible refine ex_non ?_)
    ((with_reducible refine' ex_var (i := 8) (x := "some") ?h_43 ?g_43 ?q_43); (case h_43 => exact At.of rfl rfl a_done_at_8); (case g_43 => rfl))
    have hone : doneOne c (comes.getD i none) found = match maxO c.when some_ with
        | none => none
        | some m => if m ≤ c.til then some m else none := by unfold doneOne; rw [hS]
    have fin : ∀ v : Option Int, v = doneOne c (comes.getD i none) found → doneList comes (b.drop (i + 1)) (found ++ [v]) = doneAt b comes ∧ (found ++ [v]).length = i + 1 := by
      intro v hv
      rw [← hdl, List.drop_eq_getElem_cons hi, doneList, hfl, hv]
      have e : b[i] = c := by
        have := List.getElem?_eq_getElem hi
        rw [this] at hc; exact Option.some.inj hc
      rw [e]
      exact ⟨rfl, by simp [hfl]⟩
    have hsz : (found.map encO').length < sizeLine := by
      rw [List.length_map]
      exact Nat.lt_of_le_of_lt (by omega : _ ≤ 8) (by decide)
    refine ox_inL rfl flat_encO ?_
    rw [inD_non]
    refine asB_bl (ite_dec (fun hn => ?_) (fun hn => ?_))
    · rw [maxO_none hn] at hone
      obtain ⟨f1, f2⟩ := fin none hone.symm
      (with_reducible refine ex_non ?_)
      (with_reducible refine sxs_one ?_)
      ((with_reducible refine sx_expr ?h_46 ?q_46); (case h_46 => rfl))
      refine ex_append rfl rfl rfl rfl rfl ?_
      ((with_reducible refine' ex_var (i := 2) (x := "found") ?h_47 ?g_47 ?q_47); (case h_47 => exact At.of rfl rfl a_done_at_2); (case g_47 => rfl))
      refine ⟨l, _, rfl, mupd_same, ?_⟩
      (with_reducible refine ex_if ?_)
      ((with_reducible show TX _ _ (.BoolOp _ _ _) _ _ _); refine TW.tx ?_)
      (with_reducible refine tw_and ?_)
      ((with_reducible refine tx_cmp ?h_51 ?q_51); (case h_51 => first | exact nomark _ | rfl))
      ((with_reducible refine' ex_var (i := 9) (x := "beat") ?h_52 ?g_52 ?q_52); (case h_52 => exact At.of rfl rfl a_done_at_9); (case g_52 => rfl))
      (with_reducible refine ex_non ?_)
      (with_reducible refine ox_isnot ?_)
      (with_reducible refine asB_bl ?_)
      ((with_reducible show (ite (_ = true) _ _)); first | refine iteT' rfl ?_ | refine iteF' rfl ?_)
      ((with_reducible show (ite (_ = true) _ _)); first | refine iteT' rfl ?_ | refine iteF' rfl ?_)
      (with_reducible refine ex_non ?_)
      refine ⟨_, mupd_same, hsz, ?_⟩
      skip
      refine ⟨_, _, _, _, _, _, _, _, _, rfl, f2, f1, ?_⟩
      rw [mupd_mupd, List.map_append]
      rfl
    · obtain ⟨ns, ens, m, hm1, hm2, hm3⟩ := maxO_some (w := c.when) hn
      rw [hm1] at hone
      ((with_reducible refine' ex_callB ?c_59 ?he_59 ?hp_59 ?q_59); (case c_59 => first | with_reducible assumption | exact Blt.fn (by with_reducible assumption) rfl (by first | with_reducible exact bb_len | with_reducible exact bb_isinstance | with_reducible exact bb_max | with_reducible exact bb_min)); (case he_59 => rfl); (case hp_59 => rfl))
      ((with_reducible refine ax_cons ?h_60 ?q_60); (case h_60 => rfl))
      (with_reducible refine ex_binR ?_)
      ((with_reducible refine' ex_var (i := 8) (x := "some") ?h_62 ?g_62 ?q_62); (case h_62 => exact At.of rfl rfl a_done_at_8); (case g_62 => rfl))
      ((with_reducible refine ax_cons ?h_63 ?q_63); (case h_63 => rfl))
      ((with_reducible refine' ex_var (i := 5) (x := "when") ?h_64 ?g_64 ?q_64); (case h_64 => exact At.of rfl rfl a_done_at_5); (case g_64 => rfl))
      (with_reducible refine ax_nil ?_)
      ((with_reducible show (List.length _ ≤ sizeLine ∧ _)); refine And.intro (Nat.le_of_ble_eq_true rfl) ?_)
      rw [ens]
      refine ox_catL IsL.fz IsL.fz ?_ ?_
      · have : some_.length = ns.length := by
          have := congrArg List.length ens
          simpa using this
        rw [List.length_map, ← this, ← hS]
        exact Nat.le_trans (by simp; omega : _ ≤ 12) (by decide)
      (with_reducible refine ax_nil ?_)
      refine bx_maxL (ns := ns ++ [c.when]) rfl (by rw [List.map_append]; exact IsL.fz) (by simp) fun m' h1 h2 => ?_
      have em : m' = m := Int.le_antisymm (hm3 m' h1) (h2 m hm2)
      subst em
      (with_reducible refine sxs_one ?_)
      ((with_reducible refine sx_expr ?h_69 ?q_69); (case h_69 => rfl))
      refine ex_append rfl rfl rfl rfl rfl ?_
      ((with_reducible refine' ex_var (i := 2) (x := "found") ?h_70 ?g_70 ?q_70); (case h_70 => exact At.of rfl rfl a_done_at_2); (case g_70 => rfl))
      refine ⟨l, _, rfl, mupd_same, ?_⟩
      (with_reducible refine ex_if ?_)
      ((with_reducible show TX _ _ (.BoolOp _ _ _) _ _ _); refine TW.tx ?_)
      (with_reducible refine tw_and ?_)
      ((with_reducible refine tx_cmp ?h_74 ?q_74); (case h_74 => first | exact nomark _ | rfl))
      ((with_reducible refine' ex_var (i := 9) (x := "beat") ?h_75 ?g_75 ?q_75); (case h_75 => exact At.of rfl rfl a_done_at_9); (case g_75 => rfl))
      (with_reducible refine ex_non ?_)
      (with_reducible refine ox_isnot ?_)
      (with_reducible refine asB_bl ?_)
      ((with_reducible show (ite (_ = true) _ _)); first | refine iteT' rfl ?_ | refine iteF' rfl ?_)
      (with_reducible refine tw_and1 ?_)
      ((with_reducible refine tx_cmp ?h_81 ?q_81); (case h_81 => first | exact nomark _ | rfl))
      ((with_reducible refine' ex_var (i := 9) (x := "beat") ?h_82 ?g_82 ?q_82); (case h_82 => exact At.of rfl rfl a_done_at_9); (case g_82 => rfl))
      ((with_reducible refine' ex_var (i := 6) (x := "until") ?h_83 ?g_83 ?q_83); (case h_83 => exact At.of rfl rfl a_done_at_6); (case g_83 => rfl))
      (with_reducible refine ox_le ?_)
      (with_reducible refine asB_bl ?_)
      refine ite_dec (fun hle => ?_) (fun hle => ?_)
      · obtain ⟨f1, f2⟩ := fin (some m') (by rw [hone]; exact (if_pos hle).symm)
        ((with_reducible refine' ex_var (i := 9) (x := "beat") ?h_86 ?g_86 ?q_86); (case h_86 => exact At.of rfl rfl a_done_at_9); (case g_86 => rfl))
        refine ⟨_, mupd_same, hsz, ?_⟩
        skip
        refine ⟨_, _, _, _, _, _, _, _, _, rfl, f2, f1, ?_⟩
        rw [mupd_mupd, List.map_append]
        rfl
      · obtain ⟨f1, f2⟩ := fin none (by rw [hone]; exact (if_neg hle).symm)
        (with_reducible refine ex_non ?_)
        refine ⟨_, mupd_same, hsz, ?_⟩
        skip
        refine ⟨_, _, _, _, _, _, _, _, _, rfl, f2, f1, ?_⟩
        rw [mupd_mupd, List.map_append]
        rfl
  · rintro G' M' ⟨found, a3, a4, a5, a6, a7, a8, a9, a10, rfl, hfl, hdl, rfl⟩
    rw [enumD_len, List.length_map] at hfl
    refine sxs_one (sx_ret (ex_freeze ?_))
    ((with_reducible refine' ex_var (i := 2) (x := "found") ?h_88 ?g_88 ?q_88); (case h_88 => exact At.of rfl rfl a_done_at_2); (case g_88 => rfl))
    refine ⟨l, _, rfl, mupd_same, ?_⟩
    rw [mdel_mupd fl]
    rw [enumD_len, List.length_map, List.drop_length] at hdl
    have e : found = doneAt b comes := hdl
    rw [e]
    exact k
end

/-! ### going on: each word by those behind it (no program here) -/
theorem getD_set_self {α : Type} {l : List α} {i : Nat} {x d : α} (h : i < l.length) : (l.set i x).getD i d = x := by
  rw [List.getD_eq_getElem?_getD, List.getElem?_set_self h]; rfl
theorem getD_set_ne {α : Type} {l : List α} {i j : Nat} {x d : α} (h : i ≠ j) : (l.set i x).getD j d = l.getD j d := by
  rw [List.getD_eq_getElem?_getD, List.getElem?_set_ne h, List.getD_eq_getElem?_getD]
theorem getD_app_left {α : Type} {l m : List α} {j : Nat} {d : α} (h : j < l.length) : (l ++ m).getD j d = l.getD j d := by
  rw [List.getD_eq_getElem?_getD, List.getElem?_append_left h, List.getD_eq_getElem?_getD]
theorem ext_getD {α : Type} {l m : List α} (d : α) (hl : l.length = m.length) (h : ∀ k, k < l.length → l.getD k d = m.getD k d) : l = m := by
  apply List.ext_getElem hl
  intro i h1 h2
  have z := h i h1
  rw [List.getD_eq_getElem?_getD, List.getD_eq_getElem?_getD, List.getElem?_eq_getElem h1, List.getElem?_eq_getElem h2] at z
  exact z
theorem goneOne_congr {c : Cmd} {t : Int} {s s' : List Wd} {w : Wd} (h : ∀ j ∈ c.wants, s'.getD j .none = s.getD j .none) : goneOne c t s' w = goneOne c t s w := by
  have e : (∀ j ∈ c.wants, s'.getD j .none = .done) ↔ ∀ j ∈ c.wants, s.getD j .none = .done :=
    ⟨fun z j hj => by rw [← h j hj]; exact z j hj, fun z j hj => by rw [h j hj]; exact z j hj⟩
  unfold goneOne
  simp only [e]
theorem goneGo_spec {t : Int} : ∀ (cs : List Cmd) (i : Nat) (s : List Wd), (∀ j c, cs[j]? = some c → ∀ n ∈ c.wants, n < i + j) → s.length = i + cs.length →
    (∀ k, k < i → (goneGo t cs i s).getD k .none = s.getD k .none) ∧ ∀ j c, cs[j]? = some c → (goneGo t cs i s).getD (i + j) .none = goneOne c t (goneGo t cs i s) (s.getD (i + j) .none)
  | [], i, s, _, _ => ⟨fun _ _ => rfl, fun j c h => by simp at h⟩
  | c :: cs, i, s, hw, hl => by
    have hil : i < s.length := by rw [hl]; simp
    obtain ⟨h1, h2⟩ := goneGo_spec cs (i + 1) (s.set i (goneOne c t s (s.getD i .none))) (fun j c' hj n hn => by
      have := hw (j + 1) c' (by simpa using hj) n hn; omega) (by rw [List.length_set, hl, List.length_cons]; omega)
    rw [goneGo]
    refine ⟨fun k hk => ?_, fun j c' hj => ?_⟩
    · rw [h1 k (by omega), getD_set_ne (by omega)]
    · cases j with
      | zero =>
        have e : c' = c := by simpa using hj.symm
        subst e
        show (goneGo t cs (i + 1) _).getD i .none = goneOne c' t _ (s.getD i .none)
        rw [h1 i (by omega), getD_set_self hil]
        refine (goneOne_congr fun n hn => ?_).symm
        have := hw 0 c' rfl n hn
        rw [h1 n (by omega), getD_set_ne (by omega)]
      | succ j =>
        have z := h2 j c' (by simpa using hj)
        rw [show i + (j + 1) = i + 1 + j from by omega, z, getD_set_ne (by omega)]
theorem goneF_spec {b : List Cmd} {t : Int} {s : List Wd} (ok : BookOk b) (hl : s.length = b.length) {k : Nat} {c : Cmd} (h : b[k]? = some c) : (goneF b t s).getD k .none = goneOne c t (goneF b t s) (s.getD k .none) := by
  have z := (goneGo_spec (t := t) b 0 s (fun j c hj n hn => by have := (ok.ok j c hj).lt n hn; omega) (by omega)).2 k c h
  rw [Nat.zero_add] at z
  exact z

/-! ### beat by beat: what is done, and when (no program here) -/
theorem doneOne_congr {c : Cmd} {x : Option Int} {s s' : List (Option Int)} (h : ∀ j ∈ c.wants, s'.getD j none = s.getD j none) : doneOne c x s' = doneOne c x s := by
  have e : (c.wants.map fun j => s'.getD j none) = c.wants.map fun j => s.getD j none := List.map_congr_left h
  unfold doneOne
  rw [e]
theorem doneList_spec {comes : List (Option Int)} : ∀ (cs : List Cmd) (found : List (Option Int)), (∀ j c, cs[j]? = some c → ∀ n ∈ c.wants, n < found.length + j) →
    (∀ k, k < found.length → (doneList comes cs found).getD k none = found.getD k none) ∧ ∀ j c, cs[j]? = some c → (doneList comes cs found).getD (found.length + j) none = doneOne c (comes.getD (found.length + j) none) (doneList comes cs found)
  | [], found, _ => ⟨fun _ _ => rfl, fun j c h => by simp at h⟩
  | c :: cs, found, hw => by
    have e1 : (found ++ [doneOne c (comes.getD found.length none) found]).length = found.length + 1 := by simp
    obtain ⟨h1, h2⟩ := doneList_spec (comes := comes) cs (found ++ [doneOne c (comes.getD found.length none) found]) (fun j c' hj n hn => by
      have := hw (j + 1) c' (by simpa using hj) n hn; omega)
    rw [e1] at h1 h2
    rw [doneList]
    refine ⟨fun k hk => ?_, fun j c' hj => ?_⟩
    · rw [h1 k (by omega), getD_app_left hk]
    · cases j with
      | zero =>
        have e : c' = c := by simpa using hj.symm
        subst e
        show (doneList comes cs _).getD found.length none = doneOne c' (comes.getD found.length none) _
        rw [h1 found.length (by omega)]
        have e2 : (found ++ [doneOne c' (comes.getD found.length none) found]).getD found.length none = doneOne c' (comes.getD found.length none) found := by
          rw [List.getD_eq_getElem?_getD, List.getElem?_append_right (Nat.le_refl _), Nat.sub_self]; rfl
        rw [e2]
        refine (doneOne_congr fun n hn => ?_).symm
        have := hw 0 c' rfl n hn
        rw [h1 n (by omega), getD_app_left (by omega)]
      | succ j =>
        have z := h2 j c' (by simpa using hj)
        rw [show found.length + (j + 1) = found.length + 1 + j from by omega, z]
theorem doneAt_spec {b : List Cmd} {comes : List (Option Int)} (ok : BookOk b) {k : Nat} {c : Cmd} (h : b[k]? = some c) : (doneAt b comes).getD k none = doneOne c (comes.getD k none) (doneAt b comes) := by
  have z := (doneList_spec (comes := comes) b [] (fun j c hj n hn => by have := (ok.ok j c hj).lt n hn; simpa using this)).2 k c h
  rw [show ([] : List (Option Int)).length + k = k from Nat.zero_add k] at z
  exact z
theorem maxO_iff {w m : Int} : ∀ {l : List (Option Int)}, maxO w l = some m → (∀ o ∈ l, ∃ y, o = some y ∧ y ≤ m) ∧ w ≤ m ∧ (m = w ∨ some m ∈ l)
  | [], h => by
    have e : w = m := Option.some.inj h
    exact ⟨by simp, by omega, .inl e.symm⟩
  | none :: _, h => by cases h
  | some x :: r, h => by
    have h' : (maxO w r).map (max x) = some m := h
    obtain ⟨m', h1, h2⟩ := Option.map_eq_some_iff.mp h'
    obtain ⟨a1, a2, a3⟩ := maxO_iff h1
    refine ⟨fun o ho => ?_, by omega, ?_⟩
    · rcases List.mem_cons.mp ho with rfl | ho
      · exact ⟨x, rfl, by omega⟩
      · obtain ⟨y, hy, hle⟩ := a1 o ho
        exact ⟨y, hy, by omega⟩
    · rcases Int.le_total x m' with hx | hx
      · rw [Int.max_eq_right hx] at h2
        subst h2
        rcases a3 with a3 | a3
        · exact .inl a3
        · exact .inr (List.mem_cons_of_mem _ a3)
      · rw [Int.max_eq_left hx] at h2
        subst h2
        exact .inr (by simp)
theorem maxO_le {w t : Int} : ∀ {l : List (Option Int)}, (∀ o ∈ l, ∃ y, o = some y ∧ y ≤ t) → w ≤ t → ∃ m, maxO w l = some m ∧ m ≤ t
  | [], _, hw => ⟨w, rfl, hw⟩
  | o :: r, h, hw => by
    obtain ⟨y, rfl, hy⟩ := h o (by simp)
    obtain ⟨m, hm, hle⟩ := maxO_le (l := r) (fun o ho => h o (List.mem_cons_of_mem _ ho)) hw
    refine ⟨max y m, ?_, by omega⟩
    show (maxO w r).map (max y) = _
    rw [hm]; rfl
section
variable {b : List Cmd} {comes : List (Option Int)} {k : Nat} {c : Cmd} {d t : Int}
/-- what is done came, at its time, behind those that it wants -/
theorem done_facts (ok : BookOk b) (h : b[k]? = some c) (hd : (doneAt b comes).getD k none = some d) :
    (∃ x, comes.getD k none = some x ∧ x ≤ d) ∧ c.when ≤ d ∧ d ≤ c.til ∧ (∀ j ∈ c.wants, ∃ y, (doneAt b comes).getD j none = some y ∧ y ≤ d) ∧ (d = c.when ∨ comes.getD k none = some d ∨ ∃ j ∈ c.wants, (doneAt b comes).getD j none = some d) := by
  rw [doneAt_spec ok h] at hd
  unfold doneOne at hd
  split at hd
  · cases hd
  · rename_i m hm
    split at hd
    · rename_i hle
      have e : m = d := Option.some.inj hd
      subst e
      obtain ⟨a1, a2, a3⟩ := maxO_iff hm
      refine ⟨a1 _ (by simp), a2, hle, fun j hj => a1 _ (List.mem_cons_of_mem _ (List.mem_map.mpr ⟨j, hj, rfl⟩)), ?_⟩
      rcases a3 with a3 | a3
      · exact .inl a3
      · rcases List.mem_cons.mp a3 with a3 | a3
        · exact .inr (.inl a3.symm)
        · obtain ⟨j, hj, e⟩ := List.mem_map.mp a3
          exact .inr (.inr ⟨j, hj, e⟩)
    · cases hd
theorem done_by (ok : BookOk b) (h : b[k]? = some c) {x : Int} (hx : comes.getD k none = some x) (hxt : x ≤ t) (hw : c.when ≤ t) (hu : t ≤ c.til) (hj : ∀ j ∈ c.wants, ∃ y, (doneAt b comes).getD j none = some y ∧ y ≤ t) : ∃ d, (doneAt b comes).getD k none = some d ∧ d ≤ t := by
  obtain ⟨m, hm, hle⟩ := maxO_le (w := c.when) (t := t) (l := comes.getD k none :: c.wants.map fun j => (doneAt b comes).getD j none) (fun o ho => by
    rcases List.mem_cons.mp ho with rfl | ho
    · exact ⟨x, hx, hxt⟩
    · obtain ⟨j, hj', e⟩ := List.mem_map.mp ho
      obtain ⟨y, hy, hle⟩ := hj j hj'
      exact ⟨y, by rw [← e]; exact hy, hle⟩) hw
  refine ⟨m, ?_, hle⟩
  rw [doneAt_spec ok h]
  unfold doneOne
  rw [hm]
  exact if_pos (by omega)
/-- no later than all that comes, and all whens -/
theorem done_le (ok : BookOk b) {m : Int} (hc : ∀ x, some x ∈ comes → x ≤ m) (hw : ∀ c ∈ b, c.when ≤ m) : ∀ k d, k < b.length → (doneAt b comes).getD k none = some d → d ≤ m := by
  intro k
  induction k using Nat.strongRecOn with
  | _ k ih =>
    intro d hk hd
    have hb : b[k]? = some b[k] := List.getElem?_eq_getElem hk
    obtain ⟨_, _, _, _, h5⟩ := done_facts ok hb hd
    rcases h5 with e | e | ⟨j, hj, e⟩
    · rw [e]; exact hw _ (List.getElem_mem hk)
    · refine hc d ?_
      rw [List.getD_eq_getElem?_getD] at e
      cases q : comes[k]? with
      | none => rw [q] at e; cases e
      | some o =>
        rw [q] at e
        have : o = some d := e
        rw [← this]
        exact List.mem_of_getElem? q
    · have hlt := (ok.ok k _ hb).lt j hj
      exact ih j hlt d (by omega) e
end
/-! ### going on -/
def lettersAt (n : Nat) (comes : List (Option Int)) (t : Int) : List Lt := (List.range n).filterMap fun k => if comes.getD k none = some t then some (false, k) else none
def simS (b : List Cmd) (comes : List (Option Int)) : Nat → List Wd
  | 0 => List.replicate b.length .none
  | t + 1 => beatenF b (simS b comes t) (lettersAt b.length comes t) t
theorem simS_len {b : List Cmd} {comes : List (Option Int)} : ∀ {t : Nat}, (simS b comes t).length = b.length
  | 0 => by simp [simS]
  | t + 1 => by rw [simS, beatenF_len]; exact simS_len
theorem foldl_cmd : ∀ {ls : List Lt} {s : List Wd} {k : Nat}, (∀ l ∈ ls, l.1 = false ∧ l.2 < s.length) → (ls.foldl heardF s).getD k .none = if (false, k) ∈ ls ∧ s.getD k .none = .none ∧ k < s.length then .held else s.getD k .none
  | [], s, k, _ => by simp
  | l :: ls, s, k, h => by
    obtain ⟨h1, h2⟩ := h l (by simp)
    obtain ⟨bk, n⟩ := l
    have e1 : bk = false := h1
    have h2' : n < s.length := h2
    subst e1
    rw [List.foldl_cons, foldl_cmd (fun l hl => by rw [heardF_len]; exact h l (List.mem_cons_of_mem _ hl)), heardF_len]
    have eh : heardF s (false, n) = s.set n (if s.getD n .none = .none then .held else s.getD n .none) := rfl
    rw [eh]
    by_cases hk : n = k
    · subst hk
      rw [getD_set_self h2']
      by_cases hs : s.getD n .none = .none
      · rw [if_pos hs, if_pos (⟨by simp, hs, h2'⟩ : (false, n) ∈ (false, n) :: ls ∧ s.getD n .none = .none ∧ n < s.length)]
        split <;> rfl
      · rw [if_neg hs, if_neg (fun z => hs z.2.1), if_neg (fun z => hs z.2.1)]
    · rw [getD_set_ne hk]
      have : (false, k) ∈ (false, n) :: ls ↔ (false, k) ∈ ls := by
        rw [List.mem_cons]
        constructor
        · rintro (e | e)
          · exact absurd (Prod.mk.inj e).2.symm hk
          · exact e
        · exact .inr
      simp only [this]
theorem mem_lettersAt {n k : Nat} {comes : List (Option Int)} {t : Int} : (false, k) ∈ lettersAt n comes t ↔ k < n ∧ comes.getD k none = some t := by
  unfold lettersAt
  rw [List.mem_filterMap]
  constructor
  · rintro ⟨j, hj, h⟩
    split at h
    · rename_i e
      have : j = k := by simpa using h
      subst this
      exact ⟨by simpa using hj, e⟩
    · cases h
  · rintro ⟨h1, h2⟩
    exact ⟨k, by simpa using h1, by rw [if_pos h2]⟩
theorem lettersAt_ok {n : Nat} {comes : List (Option Int)} {t : Int} : ∀ l ∈ lettersAt n comes t, l.1 = false ∧ l.2 < n := by
  intro l hl
  unfold lettersAt at hl
  obtain ⟨j, hj, h⟩ := List.mem_filterMap.mp hl
  split at h
  · have : l = (false, j) := by simpa using h.symm
    rw [this]
    exact ⟨rfl, by simpa using hj⟩
  · cases h
/-- the word behind the beats ahead of t -/
def wordAt (c : Cmd) (come dn : Option Int) (t : Int) : Wd :=
  match come with
  | none => .none
  | some x => if t ≤ x then .none else match dn with
    | some d => if d < t then .done else if c.til < t - 1 then .late else .held
    | none => if c.til < t - 1 then .late else .held
theorem sim_word {b : List Cmd} {comes : List (Option Int)} (ok : BookOk b) (h0 : ∀ x, some x ∈ comes → 0 ≤ x) : ∀ (t : Nat) (k : Nat) (c : Cmd), b[k]? = some c → (simS b comes t).getD k .none = wordAt c (comes.getD k none) ((doneAt b comes).getD k none) t
  | 0, k, c, hc => by
    have hk : k < b.length := (List.getElem?_eq_some_iff.mp hc).1
    have e : (simS b comes 0).getD k .none = .none := by
      unfold simS
      rw [List.getD_eq_getElem?_getD, List.getElem?_replicate]; split <;> rfl
    rw [e]
    cases q : comes.getD k none with
    | none => rfl
    | some x =>
      have hx : 0 ≤ x := by
        refine h0 x ?_
        rw [List.getD_eq_getElem?_getD] at q
        cases z : comes[k]? with
        | none => rw [z] at q; cases q
        | some o =>
          rw [z] at q
          have : o = some x := q
          rw [← this]; exact List.mem_of_getElem? z
      show _ = if (0 : Int) ≤ x then Wd.none else _
      rw [if_pos hx]
  | t + 1, k, c, hc => by
    induction k using Nat.strongRecOn generalizing c with
    | _ k ih =>
      have hk : k < b.length := (List.getElem?_eq_some_iff.mp hc).1
      have prev := sim_word ok h0 t k c hc
      have cok := ok.ok k c hc
      have hlen : ((lettersAt b.length comes t).foldl heardF (simS b comes t)).length = b.length := by rw [foldl_heard_len, simS_len]
      have spec := goneF_spec (t := t) ok hlen hc
      have efull : simS b comes (t + 1) = goneF b t ((lettersAt b.length comes t).foldl heardF (simS b comes t)) := rfl
      rw [← efull] at spec
      rw [spec, foldl_cmd (fun l hl => by rw [simS_len]; exact lettersAt_ok l hl), simS_len]
      simp only [mem_lettersAt]
      -- those that it wants, by now
      have wants : (∀ j ∈ c.wants, (simS b comes (t + 1)).getD j .none = .done) ↔ ∀ j ∈ c.wants, ∃ y, (doneAt b comes).getD j none = some y ∧ y ≤ t := by
        constructor
        · intro h j hj
          have hjk := cok.lt j hj
          have hbj : b[j]? = some b[j] := List.getElem?_eq_getElem (by omega)
          have z := ih j hjk _ hbj
          rw [h j hj] at z
          unfold wordAt at z
          split at z
          · cases z
          · split at z
            · cases z
            · split at z
              · rename_i d hd
                split at z
                · exact ⟨d, hd, by omega⟩
                · split at z <;> cases z
              · split at z <;> cases z
        · intro h j hj
          have hjk := cok.lt j hj
          have hbj : b[j]? = some b[j] := List.getElem?_eq_getElem (by omega)
          obtain ⟨y, hy, hyt⟩ := h j hj
          obtain ⟨⟨x, hx, hxy⟩, _⟩ := done_facts ok hbj hy
          rw [ih j hjk _ hbj, hx, hy]
          show (if ((t + 1 : Nat) : Int) ≤ x then Wd.none else if y < ((t + 1 : Nat) : Int) then Wd.done else _) = _
          rw [if_neg (by omega), if_pos (by omega)]
      have hone : ∀ w, goneOne c t (simS b comes (t + 1)) w = if w = .held then (if c.til < t then .late else if c.when ≤ t ∧ ∀ j ∈ c.wants, ∃ y, (doneAt b comes).getD j none = some y ∧ y ≤ t then .done else .held) else w := by
        intro w
        unfold goneOne
        simp only [wants]
      rw [hone]
      cases q : comes.getD k none with
      | none =>
        rw [q] at prev
        have p : (simS b comes t).getD k .none = .none := prev
        rw [p]
        simp [wordAt]
      | some x =>
        rw [q] at prev
        by_cases hxt : (t : Int) + 1 ≤ x
        · have p : (simS b comes t).getD k .none = .none := by
            rw [prev]
            show (if (t : Int) ≤ x then Wd.none else _) = _
            rw [if_pos (by omega)]
          have hw1 : (if (k < b.length ∧ some x = some (t : Int)) ∧ (simS b comes t).getD k .none = .none ∧ k < b.length then Wd.held else (simS b comes t).getD k .none) = .none := by
            rw [if_neg (by intro z; have := Option.some.inj z.1.2; omega)]
            exact p
          rw [hw1, if_neg (by intro z; cases z)]
          show _ = if ((t + 1 : Nat) : Int) ≤ x then Wd.none else _
          rw [if_pos (by omega)]
        · have target : wordAt c (some x) ((doneAt b comes).getD k none) ((t + 1 : Nat) : Int) = (match (doneAt b comes).getD k none with
              | some d => if d < ((t + 1 : Nat) : Int) then Wd.done else if c.til < ((t + 1 : Nat) : Int) - 1 then .late else .held
              | none => if c.til < ((t + 1 : Nat) : Int) - 1 then Wd.late else .held) := by
            show (if ((t + 1 : Nat) : Int) ≤ x then Wd.none else _) = _
            rw [if_neg (by omega)]
          rw [target]
          by_cases hdn : ∃ d, (doneAt b comes).getD k none = some d ∧ d < t
          · obtain ⟨d, hd, hdt⟩ := hdn
            obtain ⟨⟨x', hx', hxd⟩, _⟩ := done_facts ok hc hd
            rw [q] at hx'
            have exx : x = x' := Option.some.inj hx'
            have p : (simS b comes t).getD k .none = .done := by
              rw [prev, hd]
              show (if (t : Int) ≤ x then Wd.none else if d < (t : Int) then Wd.done else _) = _
              rw [if_neg (by omega), if_pos hdt]
            have hw1 : (if (k < b.length ∧ some x = some (t : Int)) ∧ (simS b comes t).getD k .none = .none ∧ k < b.length then Wd.held else (simS b comes t).getD k .none) = .done := by
              rw [p]
              exact if_neg (by intro z; cases z.2.1)
            rw [hw1, if_neg (by intro z; cases z), hd]
            show _ = if d < ((t + 1 : Nat) : Int) then Wd.done else _
            rw [if_pos (by omega)]
          · have notd : ∀ d, (doneAt b comes).getD k none = some d → (t : Int) ≤ d := fun d hd => by
              by_cases z : d < t
              · exact absurd ⟨d, hd, z⟩ hdn
              · omega
            -- the word once all letters are heard: held, or late already
            have hw1 : (if (k < b.length ∧ some x = some (t : Int)) ∧ (simS b comes t).getD k .none = .none ∧ k < b.length then Wd.held else (simS b comes t).getD k .none) = if x < t ∧ c.til < (t : Int) - 1 then .late else .held := by
              by_cases hx : x = t
              · have p : (simS b comes t).getD k .none = .none := by
                  rw [prev]
                  show (if (t : Int) ≤ x then Wd.none else _) = _
                  rw [if_pos (by omega)]
                rw [if_pos ⟨⟨hk, by rw [hx]⟩, p, hk⟩, if_neg (by omega)]
              · have p : (simS b comes t).getD k .none = if c.til < (t : Int) - 1 then .late else .held := by
                  rw [prev]
                  show (if (t : Int) ≤ x then Wd.none else _) = _
                  rw [if_neg (by omega)]
                  cases hq : (doneAt b comes).getD k none with
                  | none => rfl
                  | some d =>
                    have := notd d hq
                    show (if d < (t : Int) then Wd.done else _) = _
                    rw [if_neg (by omega)]
                rw [if_neg (by intro z; exact hx (Option.some.inj z.1.2)), p]
                by_cases h3 : c.til < (t : Int) - 1
                · rw [if_pos h3, if_pos ⟨by omega, h3⟩]
                · rw [if_neg h3, if_neg (fun z => h3 z.2)]
            rw [hw1]
            by_cases hl : x < t ∧ c.til < (t : Int) - 1
            · rw [if_pos hl, if_neg (by intro z; cases z)]
              cases hq : (doneAt b comes).getD k none with
              | none =>
                show _ = if c.til < ((t + 1 : Nat) : Int) - 1 then Wd.late else .held
                rw [if_pos (by omega)]
              | some d =>
                have h1 := notd d hq
                obtain ⟨_, _, h2, _⟩ := done_facts ok hc hq
                omega
            · rw [if_neg hl, if_pos rfl]
              by_cases h4 : c.til < (t : Int)
              · rw [if_pos h4]
                cases hq : (doneAt b comes).getD k none with
                | none =>
                  show _ = if c.til < ((t + 1 : Nat) : Int) - 1 then Wd.late else .held
                  rw [if_pos (by omega)]
                | some d =>
                  have h1 := notd d hq
                  obtain ⟨_, _, h2, _⟩ := done_facts ok hc hq
                  omega
              · rw [if_neg h4]
                by_cases h5 : c.when ≤ (t : Int) ∧ ∀ j ∈ c.wants, ∃ y, (doneAt b comes).getD j none = some y ∧ y ≤ (t : Int)
                · rw [if_pos h5]
                  obtain ⟨d, hd, hdt⟩ := done_by ok hc q (by omega) h5.1 (by omega) h5.2
                  rw [hd]
                  show _ = if d < ((t + 1 : Nat) : Int) then Wd.done else _
                  rw [if_pos (by omega)]
                · rw [if_neg h5]
                  cases hq : (doneAt b comes).getD k none with
                  | none =>
                    show _ = if c.til < ((t + 1 : Nat) : Int) - 1 then Wd.late else .held
                    rw [if_neg (by omega)]
                  | some d =>
                    have h1 := notd d hq
                    obtain ⟨_, h6, _, h7, _⟩ := done_facts ok hc hq
                    show _ = if d < ((t + 1 : Nat) : Int) then Wd.done else if c.til < ((t + 1 : Nat) : Int) - 1 then Wd.late else .held
                    by_cases h8 : d < ((t + 1 : Nat) : Int)
                    · exfalso
                      refine h5 ⟨by omega, fun j hj => ?_⟩
                      obtain ⟨y, hy, hyd⟩ := h7 j hj
                      exact ⟨y, hy, by omega⟩
                    · rw [if_neg h8, if_neg (by omega)]
theorem sim_done {b : List Cmd} {comes : List (Option Int)} (ok : BookOk b) (h0 : ∀ x, some x ∈ comes → 0 ≤ x) {t k : Nat} {c : Cmd} (hc : b[k]? = some c) : (simS b comes t).getD k .none = .done ↔ ∃ d, (doneAt b comes).getD k none = some d ∧ d < t := by
  rw [sim_word ok h0 t k c hc]
  constructor
  · intro z
    unfold wordAt at z
    split at z
    · cases z
    · split at z
      · cases z
      · split at z
        · rename_i d hd
          split at z
          · exact ⟨d, hd, by assumption⟩
          · split at z <;> cases z
        · split at z <;> cases z
  · rintro ⟨d, hd, hdt⟩
    obtain ⟨⟨x, hx, hxd⟩, _⟩ := done_facts ok hc hd
    rw [hx, hd]
    show (if (t : Int) ≤ x then Wd.none else if d < (t : Int) then Wd.done else _) = _
    rw [if_neg (by omega), if_pos hdt]

/-! ### all orders -/
def ordStep (many : Nat) (o : List Nat) : List (List Nat) := ((List.range many).filter fun n => decide (n ∉ o)).map fun n => o ++ [n]
def ordersK (many : Nat) : Nat → List (List Nat)
  | 0 => [[]]
  | k + 1 => (ordersK many k).flatMap (ordStep many)
def ordersF (many : Nat) : List (List Nat) := ordersK many many
structure OrdOk (many k : Nat) (o : List Nat) : Prop where
  len : o.length = k
  nd : o.Nodup
  lt : ∀ x ∈ o, x < many
  left : ((List.range many).filter fun n => decide (n ∉ o)).length + k = many
theorem ord_ok {many : Nat} : ∀ {k : Nat} {o : List Nat}, o ∈ ordersK many k → OrdOk many k o
  | 0, o, h => by
    have : o = [] := by simpa [ordersK] using h
    subst this
    refine ⟨rfl, .nil, by simp, ?_⟩
    have : ((List.range many).filter fun n => decide (n ∉ ([] : List Nat))) = List.range many := List.filter_eq_self.mpr (by simp)
    rw [this]; simp
  | k + 1, o, h => by
    rw [ordersK, List.mem_flatMap] at h
    obtain ⟨p, hp, h⟩ := h
    have ih := ord_ok hp
    unfold ordStep at h
    obtain ⟨n, hn, rfl⟩ := List.mem_map.mp h
    obtain ⟨hn1, hn2⟩ := List.mem_filter.mp hn
    have hnp : n ∉ p := of_decide_eq_true hn2
    have hnm : n < many := by simpa using hn1
    refine ⟨by simp [ih.len], ?_, ?_, ?_⟩
    · rw [List.nodup_append]
      refine ⟨ih.nd, by simp, fun a ha b hb => ?_⟩
      rw [List.mem_singleton.mp hb]
      exact fun e => hnp (e ▸ ha)
    · intro x hx
      rcases List.mem_append.mp hx with hx | hx
      · exact ih.lt x hx
      · rw [List.mem_singleton.mp hx]; exact hnm
    · have e : ((List.range many).filter fun m => decide (m ∉ p ++ [n])) = (((List.range many).filter fun m => decide (m ∉ p))).filter fun m => m != n := by
        rw [List.filter_filter]
        refine List.filter_congr fun m _ => ?_
        by_cases h1 : m = n
        · subst h1; simp
        · by_cases h2 : m ∈ p <;> simp [h1, h2]
      have nd : ((List.range many).filter fun m => decide (m ∉ p)).Nodup := List.nodup_range.filter _
      have l1 := ih.left
      rw [e, ← nd.erase_eq_filter, List.length_erase_of_mem (List.mem_filter.mpr ⟨hn1, hn2⟩)]
      have : 0 < ((List.range many).filter fun m => decide (m ∉ p)).length := List.length_pos_of_mem hn
      omega
theorem ord_all {many : Nat} {o : List Nat} (h : o ∈ ordersF many) : ∀ k, k < many → k ∈ o := by
  intro k hk
  have l := (ord_ok h).left
  have e : ((List.range many).filter fun n => decide (n ∉ o)) = [] := List.eq_nil_of_length_eq_zero (by omega)
  rw [List.filter_eq_nil_iff] at e
  have := e k (by simpa using hk)
  simpa using this
theorem flatMap_len' {α β : Type} {f : α → List β} {c : Nat} : ∀ {l : List α}, (∀ x ∈ l, (f x).length ≤ c) → (l.flatMap f).length ≤ l.length * c
  | [], _ => by simp
  | x :: l, h => by
    have h1 := h x (by simp)
    have h2 := flatMap_len' (l := l) fun y hy => h y (List.mem_cons_of_mem _ hy)
    rw [List.flatMap_cons, List.length_append, List.length_cons, Nat.succ_mul]
    omega
theorem ordersK_len {many : Nat} : ∀ {k : Nat}, (ordersK many k).length ≤ many ^ k
  | 0 => by simp [ordersK]
  | k + 1 => by
    rw [ordersK, Nat.pow_succ]
    refine Nat.le_trans (flatMap_len' (c := many) fun o _ => ?_) (Nat.mul_le_mul_right _ ordersK_len)
    unfold ordStep
    rw [List.length_map]
    exact Nat.le_trans (List.length_filter_le _ _) (by simp)
theorem ordersK_small {many k : Nat} (h : many ≤ 6) (hk : k ≤ 6) : (ordersK many k).length ≤ 46656 := by
  refine Nat.le_trans ordersK_len (Nat.le_trans (Nat.pow_le_pow_left h k) (Nat.pow_le_pow_right (n := 6) (by decide) hk))
def spOrders : DSp := fun ds M Q => ∃ many : Nat, ds = [.int many] ∧ many ≤ 6 ∧ ∀ M', Ext M M' → Q (encLL (ordersF many)) M'
section
variable {P : Program} {w : World} {K : PySem.W.Frag} {mg : Str → Option Value} {base : Heap}
theorem ok_orders {f : Addr} {fd : FuncData} (Fn : Fun K "orders" "orders" s_orders f fd) (zr : mg "range" = none) : FnOk P w K mg base CX0 1 f fd ["many"] (lift K spOrders) := by
  refine fun_ok Fn sc_orders (fun ds M Q ⟨_, e, _⟩ => by rw [e]; rfl) fun cdv A outer sh H E hr ds M Q h B => ?_
  obtain ⟨many, rfl, h6, k⟩ := h
  (refine sxs_cons ?_)
  ((with_reducible refine sx_set (i := 1) (x := "found") ?h_2 ?s_2 ?q_2); (case h_2 => exact Lc.of sc_orders.nd rfl rfl (.inl rfl) a_orders_1); (case s_2 => rfl))
  refine ex_lst (ax_cons rfl (ex_lst (ax_nil ⟨Nat.zero_le _, ax_nil ⟨by decide, ?_⟩⟩)))
  (with_reducible refine sxs_cons ?_)
  refine sx_for PassesOwn.never rfl (fun _ => rfl) ?_
  refine lx_range1 rfl zr rfl ?_
  ((with_reducible refine' ex_var (i := 0) (x := "many") ?h_4 ?g_4 ?q_4); (case h_4 => exact At.of rfl rfl a_orders_0); (case g_4 => rfl))
  refine ⟨_, rfl, by omega, by omega, fun i G' M' => ∃ a2 a3 a4 a5 : Option D, G' = [some (.int many), some (encLL (ordersK many i)), a2, a3, a4, a5] ∧ Ext M M', ⟨_, _, _, _, rfl, Ext.refl M⟩, ?_, ?_⟩
  · rintro i d G' M' hd ⟨a2, a3, a4, a5, rfl, hE⟩
    obtain ⟨hi, rfl⟩ := rangeD_at hd
    have h1 := ordersK_small (many := many) (k := i) h6 (by omega)
    ((with_reducible refine gx_name (i := 2) (x := "turn") ?h_5 ?q_5); (case h_5 => exact Lc.of sc_orders.nd rfl rfl (.inl rfl) a_orders_2))
    (with_reducible refine sxs_cons ?_)
    ((with_reducible refine sx_set (i := 3) (x := "longer") ?h_7 ?s_7 ?q_7); (case h_7 => exact Lc.of sc_orders.nd rfl rfl (.inl rfl) a_orders_3); (case s_7 => rfl))
    refine ex_lstM (ax_nil ⟨Nat.zero_le _, fun c fc => ?_⟩)
    (with_reducible refine sxs_cons ?_)
    refine sx_for PassesOwn.never rfl (fun _ => rfl) ?_
    refine lx_list ?_
    ((with_reducible refine' ex_var (i := 1) (x := "found") ?h_9 ?g_9 ?q_9); (case h_9 => exact At.of rfl rfl a_orders_1); (case g_9 => rfl))
    refine ⟨_, rfl, fun j G2 M2 => ∃ a4 a5 : Option D, G2 = [some (.int many), some (encLL (ordersK many i)), some (.int (0 + (i : Int))), some (.ref c), a4, a5] ∧ M2 = mupd M' c (.lst ((((ordersK many i).take j).flatMap (ordStep many)).map encNs)), ⟨_, _, rfl, rfl⟩, ?_, ?_⟩
    · rintro j d G2 M2 hd2 ⟨a4, a5, rfl, rfl⟩
      rw [List.getElem?_map] at hd2
      obtain ⟨o, ho, rfl⟩ := Option.map_eq_some_iff.mp hd2
      have ook := ord_ok (List.mem_of_getElem? ho)
      have hol := ook.len
      ((with_reducible refine gx_name (i := 4) (x := "order") ?h_10 ?q_10); (case h_10 => exact Lc.of sc_orders.nd rfl rfl (.inl rfl) a_orders_4))
      (with_reducible refine sxs_one ?_)
      ((with_reducible refine sx_expr ?h_12 ?q_12); (case h_12 => rfl))
      refine ex_bmC PySem.F.slot_list_extend PySem.F.type_list_extend rfl rfl rfl rfl rfl ?_
      ((with_reducible refine' ex_var (i := 3) (x := "longer") ?h_13 ?g_13 ?q_13); (case h_13 => exact At.of rfl rfl a_orders_3); (case g_13 => rfl))
      refine ⟨c, _, rfl, mupd_same, ?_⟩
      refine ax_cons rfl ?_
      refine' ex_lcp (own := [("number", 5)]) (t := .inl 5) ?f rfl sc_orders.nd (blkOk_by (N := n_orders) (sc := defScope s_orders) (by decide +kernel)) (by decide) (fun _ _ _ _ _ => pg_name (i := 5) sc_orders.nd rfl (by first | exact Or.inl rfl | exact Or.inr rfl)) (fun _ => rfl) ?_
      case f => exact fun d => match d with
        | .int m => if m.toNat ∈ o then none else some (.lst (o.map encN ++ [.int m]))
        | _ => none
      refine lx_range1 rfl zr rfl ?_
      ((with_reducible refine' ex_var (i := 0) (x := "many") ?h_15 ?g_15 ?q_15); (case h_15 => exact At.of rfl rfl a_orders_0); (case g_15 => rfl))
      refine ⟨_, rfl, by omega, by omega, ⟨?_, fun d M3 hd3 hm => ?_⟩, ?_⟩
      · rw [rangeD_len]
        exact Nat.lt_of_le_of_lt (by omega : _ ≤ 6) (by decide)
      · obtain ⟨m, hm0⟩ := List.mem_iff_getElem?.mp hd3
        obtain ⟨hmlt, rfl⟩ := rangeD_at hm0
        have et : ((0 : Int) + (m : Int)).toNat = m := by omega
        refine fun s1 H1 C1 cl1 fp1 => txs_one ?_
        unfold encNs
        ((with_reducible refine tx_cmp ?h_16 ?q_16); (case h_16 => first | exact nomark _ | rfl))
        ((with_reducible refine' ex_var (i := 5) (x := "number") ?h_17 ?g_17 ?q_17); (case h_17 => exact At.b rfl (by first | exact Or.inl rfl | exact Or.inr (Or.inl rfl) | exact Or.inr (Or.inr rfl))); (case g_17 => rfl))
        ((with_reducible refine' ex_var (i := 4) (x := "order") ?h_18 ?g_18 ?q_18); (case h_18 => exact At.b rfl (by first | exact Or.inl rfl | exact Or.inr (Or.inl rfl) | exact Or.inr (Or.inr rfl))); (case g_18 => rfl))
        refine ox_notInL rfl ?_ ?_
        · simp only [List.all_map, List.all_eq_true]
          intro y _; rfl
        have e0 : inD (.int (0 + (m : Int))) (o.map encN) = decide (m ∈ o) := by
          have e1 : o.map encN = (o.map fun n : Nat => (n : Int)).map D.int := by rw [List.map_map]; rfl
          rw [e1, inD_int]
          refine dec_of ?_
          simp only [Int.zero_add, List.mem_map]
          constructor
          · rintro ⟨a, ha, e⟩
            have : a = m := by omega
            exact this ▸ ha
          · exact fun hx => ⟨m, hx, rfl⟩
        rw [e0]
        refine asB_bl (ite_ndec (fun h4 => fun s2 H2 C2 cl2 fp2 => ?_) (fun h4 => ?_))
        · (with_reducible refine ex_binR ?_)
          ((with_reducible refine' ex_var (i := 4) (x := "order") ?h_20 ?g_20 ?q_20); (case h_20 => exact At.b rfl (by first | exact Or.inl rfl | exact Or.inr (Or.inl rfl) | exact Or.inr (Or.inr rfl))); (case g_20 => rfl))
          ((with_reducible refine ax_cons ?h_21 ?q_21); (case h_21 => rfl))
          ((with_reducible refine' ex_var (i := 5) (x := "number") ?h_22 ?g_22 ?q_22); (case h_22 => exact At.b rfl (by first | exact Or.inl rfl | exact Or.inr (Or.inl rfl) | exact Or.inr (Or.inr rfl))); (case g_22 => rfl))
          (with_reducible refine ax_nil ?_)
          ((with_reducible show (List.length _ ≤ sizeLine ∧ _)); refine And.intro (Nat.le_of_ble_eq_true rfl) ?_)
          refine ox_catL IsL.fz IsL.fz ?_ ⟨rfl, ?_⟩
          · rw [List.length_map]
            exact Nat.le_trans (by simp; omega : _ ≤ 8) (by decide)
          · show (if ((0 : Int) + (m : Int)).toNat ∈ o then none else _) = _
            rw [et, if_neg h4]
        · refine ⟨rfl, ?_⟩
          show (if ((0 : Int) + (m : Int)).toNat ∈ o then none else _) = _
          rw [et, if_pos h4]
      have eK : (rangeD 0 (many : Int).toNat).filterMap (fun d => match d with
        | .int m => if m.toNat ∈ o then none else some (.lst (o.map encN ++ [.int m]))
        | _ => none) = (ordStep many o).map encNs := by
        unfold rangeD ordStep
        rw [List.filterMap_map, List.map_map, Int.toNat_natCast]
        show (List.range many).filterMap (fun t : Nat => if ((0 : Int) + (t : Int)).toNat ∈ o then none else some (D.lst (o.map encN ++ [D.int (0 + (t : Int))]))) = _
        generalize List.range many = l
        induction l with
        | nil => rfl
        | cons t l ih =>
          rw [List.filterMap_cons, List.filter_cons, Int.zero_add, Int.toNat_natCast]
          by_cases h : t ∈ o
          · rw [if_pos h]
            simp only [h, not_true, decide_false, Bool.false_eq_true, if_false]
            exact ih
          · rw [if_neg h]
            simp only [h, not_false_eq_true, decide_true, if_true, List.map_cons]
            rw [ih]
            congr 1
            show D.lst (o.map encN ++ [.int (t : Int)]) = encNs (o ++ [t])
            unfold encNs
            rw [List.map_append]; rfl
      rw [eK]
      refine ax_nil (mx_extend mupd_same IsL.fz (fun z => by cases z) ?_ ?_)
      · have h2 : ((((ordersK many i).take j).flatMap (ordStep many))).length ≤ 46656 * 6 := by
          refine Nat.le_trans (flatMap_len' (c := 6) fun o _ => ?_) ?_
          · unfold ordStep
            rw [List.length_map]
            exact Nat.le_trans (List.length_filter_le _ _) (by simpa using h6)
          · refine Nat.mul_le_mul_right _ (Nat.le_trans ?_ h1)
            rw [List.length_take]; omega
        have h3 : (ordStep many o).length ≤ 6 := by
          unfold ordStep
          rw [List.length_map]
          exact Nat.le_trans (List.length_filter_le _ _) (by simpa using h6)
        rw [List.length_map, List.length_map]
        exact Nat.le_trans (by omega : _ ≤ 46656 * 6 + 6) (by decide)
      · refine ⟨_, _, rfl, ?_⟩
        rw [mupd_mupd, List.take_add_one, ho, List.flatMap_append, List.map_append]
        simp
    · rintro G2 M2 ⟨a4, a5, rfl, rfl⟩
      rw [List.length_map, List.take_length]
      refine sxs_freeze (i := 3) rfl mupd_same ?_
      rw [mdel_mupd fc]
      (refine sxs_one ?_)
      ((with_reducible refine sx_set (i := 1) (x := "found") ?h_26 ?s_26 ?q_26); (case h_26 => exact Lc.of sc_orders.nd rfl rfl (.inl rfl) a_orders_1); (case s_26 => rfl))
      ((with_reducible refine' ex_var (i := 3) (x := "longer") ?h_27 ?g_27 ?q_27); (case h_27 => exact At.of rfl rfl a_orders_3); (case g_27 => rfl))
      exact ⟨_, _, _, _, rfl, hE⟩
  · rintro G' M' ⟨a2, a3, a4, a5, rfl, hE⟩
    have hn : (rangeD 0 (many : Int).toNat).length = many := by rw [rangeD_len]; omega
    rw [hn]
    (refine sxs_one ?_)
    (with_reducible refine sx_ret ?_)
    ((with_reducible refine' ex_var (i := 1) (x := "found") ?h_30 ?g_30 ?q_30); (case h_30 => exact At.of rfl rfl a_orders_1); (case g_30 => rfl))
    exact k M' hE
end

/-! ### the best order -/
def comesOrd (n : Nat) (d : Int) (beats order : List Nat) : List (Option Int) := (List.range n).map fun k => some (((beats.getD (order.idxOf k) 0 : Nat) : Int) + d)
/-- the beat by which all is done, if it is -/
def lastOf (b : List Cmd) (d : Int) (beats order : List Nat) : Option Int := maxO 0 (doneAt b (comesOrd b.length d beats order))
def bestStep (b : List Cmd) (d : Int) (beats : List Nat) (best : Option (Int × List Nat)) (order : List Nat) : Option (Int × List Nat) :=
  match lastOf b d beats order with
  | none => best
  | some m => if best = none ∨ ∃ z, best = some z ∧ m < z.1 then some (m, order) else best
def bestO (b : List Cmd) (d : Int) (beats : List Nat) : Option (Int × List Nat) := (ordersF b.length).foldl (bestStep b d beats) none
def encBest : Option (Int × List Nat) → D
  | none => .non
  | some z => .tup [.int z.1, encNs z.2]
theorem idx_of {o : List Nat} {k : Nat} (h : k ∈ o) : o.idxOf k < o.length ∧ o[o.idxOf k]? = some k ∧ ∀ m z, m < o.idxOf k → o[m]? = some z → z ≠ k := by
  have h1 : o.idxOf k < o.length := List.idxOf_lt_length_of_mem h
  refine ⟨h1, ?_, fun m z hm hz e => ?_⟩
  · rw [List.getElem?_eq_getElem h1, List.getElem_idxOf]
  · have h2 : m < o.length := (List.getElem?_eq_some_iff.mp hz).1
    rw [List.getElem?_eq_getElem h2] at hz
    have e2 : o[m] = k := (Option.some.inj hz).trans e
    have h3 : o.idxOf k ≤ m := by
      have : (o.findIdx (· == k)) ≤ m := by
        by_cases q : m < o.findIdx (· == k)
        · have := List.not_of_lt_findIdx q
          simp [e2] at this
        · omega
      exact this
    omega
/-- all is done -/
theorem last_none {b : List Cmd} {d : Int} {beats order : List Nat} : lastOf b d beats order = none ↔ none ∈ doneAt b (comesOrd b.length d beats order) := by
  unfold lastOf
  constructor
  · intro h
    by_cases q : none ∈ doneAt b (comesOrd b.length d beats order)
    · exact q
    · obtain ⟨_, _, m, h1, _⟩ := maxO_some (w := 0) q
      rw [h1] at h; cases h
  · exact fun h => maxO_none h
theorem done_pos {b : List Cmd} {comes : List (Option Int)} (ok : BookOk b) {x : Int} (h : some x ∈ doneAt b comes) : 0 ≤ x := by
  obtain ⟨k, hk⟩ := List.mem_iff_getElem?.mp h
  have hkl := (List.getElem?_eq_some_iff.mp hk).1
  rw [doneAt_len] at hkl
  have hb : b[k]? = some b[k] := List.getElem?_eq_getElem hkl
  have hd : (doneAt b comes).getD k none = some x := by rw [List.getD_eq_getElem?_getD, hk]; rfl
  have h1 := (done_facts ok hb hd).2.1
  have h2 := (ok.ok k _ hb).w0
  omega
/-- max(done) -/
theorem max_done {b : List Cmd} {comes : List (Option Int)} (ok : BookOk b) (h : none ∉ doneAt b comes) : ∃ ns : List Int, (doneAt b comes).map encO' = ns.map D.int ∧ ns ≠ [] ∧ ∃ m, maxO 0 (doneAt b comes) = some m ∧ ∀ m', m' ∈ ns → (∀ y ∈ ns, y ≤ m') → m' = m := by
  obtain ⟨ns, e, m, h1, h2, h3⟩ := maxO_some (w := 0) h
  have hl : ns.length = b.length := by
    have := congrArg List.length e
    rw [List.length_map, List.length_map, doneAt_len] at this
    exact this.symm
  have hne : ns ≠ [] := fun z => ok.ne (List.eq_nil_of_length_eq_zero (by rw [← hl, z]; rfl))
  refine ⟨ns, e, hne, m, h1, fun m' hm hy => ?_⟩
  have pos : ∀ y ∈ ns, 0 ≤ y := fun y hy => by
    have : D.int y ∈ (doneAt b comes).map encO' := by rw [e]; exact List.mem_map.mpr ⟨y, hy, rfl⟩
    obtain ⟨o, ho, e2⟩ := List.mem_map.mp this
    cases o with
    | none => cases e2
    | some x =>
      have : x = y := D.int.inj e2
      subst this
      exact done_pos ok ho
  have a := h3 m' (List.mem_append_left _ hm)
  rcases List.mem_append.mp h2 with z | z
  · have := hy m z; omega
  · have : m = 0 := by simpa using z
    have := pos m' hm
    omega
def spBestOrder : DSp := fun ds M Q => ∃ (b : List Cmd) (d : Int) (beats : List Nat), ds = [encB b, .int d, .lst (beats.map encN)] ∧ BookOk b ∧ b.length ≤ 6 ∧ beats.length = b.length ∧ ∀ M', Ext M M' → Q (encBest (bestO b d beats)) M'
section
variable {P : Program} {w : World} {K : PySem.W.Frag} {mg : Str → Option Value} {base : Heap}
theorem ok_best_order {f : Addr} {fd : FuncData} (Fn : Fun K "best_order" "best_order" s_best_order f fd) (zl : mg "len" = none) (zr : mg "range" = none) (zx : mg "max" = none) (dO : Dfn P w K mg base 1 "orders" spOrders) (dD : Dfn P w K mg base 1 "done_at" spDoneAt) : FnOk P w K mg base CX0 2 f fd ["book", "delay", "beats"] (lift K spBestOrder) := by
  refine fun_ok Fn sc_best_order (fun ds M Q ⟨_, _, _, e, _⟩ => by rw [e]; rfl) fun cdv A outer sh H E hr ds M Q h B => ?_
  obtain ⟨b, d, beats, rfl, ok, h6, hbl, k⟩ := h
  have eB : encB b = .tup (b.map Cmd.enc) := rfl
  rw [eB]
  (refine sxs_cons ?_)
  ((with_reducible refine sx_set (i := 3) (x := "best") ?h_2 ?s_2 ?q_2); (case h_2 => exact Lc.of sc_best_order.nd rfl rfl (.inl rfl) a_best_order_3); (case s_2 => rfl))
  (with_reducible refine ex_non ?_)
  (with_reducible refine sxs_cons ?_)
  refine sx_for PassesOwn.never rfl (fun _ => rfl) ?_
  refine lx_list ?_
  ((with_reducible refine' ex_call ?c_5 ?hr_5 ?hg_5 ?hd_5 ?he_5 ?hp_5 ?q_5); (case c_5 => first | with_reducible assumption | exact Dfn.fn (by with_reducible assumption)); (case hr_5 => first | assumption | exact Room.mono (by assumption) (by decide)); (case hg_5 => rfl); (case hd_5 => rfl); (case he_5 => rfl); (case hp_5 => rfl))
  ((with_reducible refine ax_cons ?h_6 ?q_6); (case h_6 => rfl))
  ((with_reducible refine' ex_callB ?c_7 ?he_7 ?hp_7 ?q_7); (case c_7 => first | with_reducible assumption | exact Blt.fn (by with_reducible assumption) rfl (by first | with_reducible exact bb_len | with_reducible exact bb_isinstance | with_reducible exact bb_max | with_reducible exact bb_min)); (case he_7 => rfl); (case hp_7 => rfl))
  ((with_reducible refine ax_cons ?h_8 ?q_8); (case h_8 => rfl))
  ((with_reducible refine' ex_var (i := 0) (x := "book") ?h_9 ?g_9 ?q_9); (case h_9 => exact At.of rfl rfl a_best_order_0); (case g_9 => rfl))
  (with_reducible refine ax_nil ?_)
  (with_reducible refine bx_lenT ?_)
  (with_reducible refine ax_nil ?_)
  refine ⟨b.length, by rw [List.length_map], h6, fun M1 hE1 => ?_⟩
  refine ⟨_, rfl, fun j G' M' => ∃ (best : Option (Int × List Nat)) (a4 a5 a6 a7 : Option D), G' = [some (encB b), some (.int d), some (.lst (beats.map encN)), some (encBest best), a4, a5, a6, a7] ∧ best = ((ordersF b.length).take j).foldl (bestStep b d beats) none ∧ Ext M M', ⟨none, _, _, _, _, rfl, rfl, hE1⟩, ?_, ?_⟩
  · rintro j dd G' M' hd ⟨best, a4, a5, a6, a7, rfl, hbest, hE⟩
    rw [List.getElem?_map] at hd
    obtain ⟨o, ho, rfl⟩ := Option.map_eq_some_iff.mp hd
    have hom := List.mem_of_getElem? ho
    have ook := ord_ok hom
    have enext : ((ordersF b.length).take (j + 1)).foldl (bestStep b d beats) none = bestStep b d beats best o := by
      rw [List.take_add_one, ho, List.foldl_append, hbest]; rfl
    rw [eB]
    ((with_reducible refine gx_name (i := 4) (x := "order") ?h_13 ?q_13); (case h_13 => exact Lc.of sc_best_order.nd rfl rfl (.inl rfl) a_best_order_4))
    (refine sxs_cons ?_)
    refine' sx_setLcp (i := 5) (own := [("number", 7)]) (t := .inl 7) ?f rfl sc_best_order.nd rfl rfl (sw_true rfl rfl rfl (by decide +kernel)) (blkOk_by (N := n_best_order) (sc := defScope s_best_order) (by decide +kernel)) (by decide) (fun _ _ _ _ _ => pg_name (i := 7) sc_best_order.nd rfl (by first | exact Or.inl rfl | exact Or.inr rfl)) (fun _ => rfl) ?_
    case f => exact fun d0 => match d0 with
      | .int m => some (.int (((beats.getD (o.idxOf m.toNat) 0 : Nat) : Int) + d))
      | _ => none
    refine lx_range1 rfl zr rfl ?_
    ((with_reducible refine' ex_callB ?c_16 ?he_16 ?hp_16 ?q_16); (case c_16 => first | with_reducible assumption | exact Blt.fn (by with_reducible assumption) rfl (by first | with_reducible exact bb_len | with_reducible exact bb_isinstance | with_reducible exact bb_max | with_reducible exact bb_min)); (case he_16 => rfl); (case hp_16 => rfl))
    ((with_reducible refine ax_cons ?h_17 ?q_17); (case h_17 => rfl))
    ((with_reducible refine' ex_var (i := 0) (x := "book") ?h_18 ?g_18 ?q_18); (case h_18 => exact At.of rfl rfl a_best_order_0); (case g_18 => rfl))
    (with_reducible refine ax_nil ?_)
    (with_reducible refine bx_lenT ?_)
    rw [List.length_map]
    refine ⟨_, rfl, by omega, by omega, ⟨?_, fun d0 M3 hd3 hm => ?_⟩, ?_⟩
    · rw [rangeD_len]
      exact Nat.lt_of_le_of_lt (by omega : _ ≤ 6) (by decide)
    · obtain ⟨m, hm0⟩ := List.mem_iff_getElem?.mp hd3
      obtain ⟨hmlt, rfl⟩ := rangeD_at hm0
      have et : ((0 : Int) + (m : Int)).toNat = m := by omega
      obtain ⟨i1, i2, i3⟩ := idx_of (ord_all hom m (by omega))
      have hol := ook.len
      refine fun s1 H1 C1 cl1 fp1 => txs_nil (iteT fun s2 H2 C2 cl2 fp2 => ?_)
      (with_reducible refine ex_bin ?_)
      ((with_reducible refine ex_sub ?h_22 ?q_22); (case h_22 => exact fun _ _ => rfl))
      ((with_reducible refine' ex_var (i := 2) (x := "beats") ?h_23 ?g_23 ?q_23); (case h_23 => exact At.b rfl (by first | exact Or.inl rfl | exact Or.inr (Or.inl rfl) | exact Or.inr (Or.inr rfl))); (case g_23 => rfl))
      refine ex_bmL PySem.F.slot_list_index PySem.F.type_list_index rfl rfl rfl rfl rfl ?_
      ((with_reducible refine' ex_var (i := 4) (x := "order") ?h_24 ?g_24 ?q_24); (case h_24 => exact At.b rfl (by first | exact Or.inl rfl | exact Or.inr (Or.inl rfl) | exact Or.inr (Or.inr rfl))); (case g_24 => rfl))
      refine ⟨_, IsL.fz, ?_⟩
      ((with_reducible refine ax_cons ?h_25 ?q_25); (case h_25 => rfl))
      ((with_reducible refine' ex_var (i := 7) (x := "number") ?h_26 ?g_26 ?q_26); (case h_26 => exact At.b rfl (by first | exact Or.inl rfl | exact Or.inr (Or.inl rfl) | exact Or.inr (Or.inr rfl))); (case g_26 => rfl))
      (with_reducible refine ax_nil ?_)
      refine mx_index (j := o.idxOf m) IsL.fz rfl ?_ ⟨encN m, by rw [List.getElem?_map, i2]; rfl, ?_⟩ (fun q z hq hz => ?_) ?_
      · simp only [List.all_map, List.all_eq_true]
        intro y _; rfl
      · show ((m : Int) == 0 + (m : Int)) = true
        rw [Int.zero_add]; exact beq_self_eq_true _
      · rw [List.getElem?_map] at hz
        obtain ⟨x, hx, rfl⟩ := Option.map_eq_some_iff.mp hz
        have := i3 q x hq hx
        show ((x : Int) == 0 + (m : Int)) = false
        rw [Int.zero_add]
        exact beq_eq_false_iff_ne.mpr (by omega)
      have hb2 : (beats.map encN)[o.idxOf m]? = some (encN (beats.getD (o.idxOf m) 0)) := by
        rw [List.getElem?_map, List.getElem?_eq_getElem (by omega), List.getD_eq_getElem?_getD, List.getElem?_eq_getElem (by omega)]; rfl
      refine ix_l (atI_of rfl hb2) ?_
      unfold encN
      ((with_reducible refine' ex_var (i := 1) (x := "delay") ?h_28 ?g_28 ?q_28); (case h_28 => exact At.b rfl (by first | exact Or.inl rfl | exact Or.inr (Or.inl rfl) | exact Or.inr (Or.inr rfl))); (case g_28 => rfl))
      (with_reducible refine ox_add ?_)
      refine ⟨rfl, ?_⟩
      show some (D.int (((beats.getD (o.idxOf ((0 : Int) + (m : Int)).toNat) 0 : Nat) : Int) + d)) = _
      rw [et]
    have eC : (rangeD 0 (b.length : Int).toNat).filterMap (fun d0 => match d0 with
      | .int m => some (.int (((beats.getD (o.idxOf m.toNat) 0 : Nat) : Int) + d))
      | _ => none) = (comesOrd b.length d beats o).map encO' := by
      unfold rangeD comesOrd
      rw [List.filterMap_map, List.map_map, Int.toNat_natCast]
      show (List.range b.length).filterMap (fun t : Nat => some (D.int (((beats.getD (o.idxOf ((0 : Int) + (t : Int)).toNat) 0 : Nat) : Int) + d))) = _
      rw [List.filterMap_eq_map']
      refine List.map_congr_left fun t _ => ?_
      rw [Int.zero_add, Int.toNat_natCast]; rfl
    rw [eC]
    have hcl : (comesOrd b.length d beats o).length = b.length := by simp [comesOrd]
    (with_reducible refine sxs_cons ?_)
    ((with_reducible refine sx_set (i := 6) (x := "done") ?h_31 ?s_31 ?q_31); (case h_31 => exact Lc.of sc_best_order.nd rfl rfl (.inl rfl) a_best_order_6); (case s_31 => rfl))
    ((with_reducible refine' ex_call ?c_32 ?hr_32 ?hg_32 ?hd_32 ?he_32 ?hp_32 ?q_32); (case c_32 => first | with_reducible assumption | exact Dfn.fn (by with_reducible assumption)); (case hr_32 => first | assumption | exact Room.mono (by assumption) (by decide)); (case hg_32 => rfl); (case hd_32 => rfl); (case he_32 => rfl); (case hp_32 => rfl))
    ((with_reducible refine ax_cons ?h_33 ?q_33); (case h_33 => rfl))
    ((with_reducible refine' ex_var (i := 0) (x := "book") ?h_34 ?g_34 ?q_34); (case h_34 => exact At.of rfl rfl a_best_order_0); (case g_34 => rfl))
    ((with_reducible refine ax_cons ?h_35 ?q_35); (case h_35 => rfl))
    ((with_reducible refine' ex_var (i := 5) (x := "comes") ?h_36 ?g_36 ?q_36); (case h_36 => exact At.of rfl rfl a_best_order_5); (case g_36 => rfl))
    (with_reducible refine ax_nil ?_)
    refine ⟨b, comesOrd b.length d beats o, rfl, ok, hcl, ?_⟩
    (with_reducible refine sxs_one ?_)
    with_reducible refine sx_if ?_
    ((with_reducible show TX _ _ (.BoolOp _ _ _) _ _ _); refine TW.tx ?_)
    (with_reducible refine tw_and ?_)
    ((with_reducible refine tx_cmp ?h_42 ?q_42); (case h_42 => first | exact nomark _ | rfl))
    (with_reducible refine ex_non ?_)
    ((with_reducible refine' ex_var (i := 6) (x := "done") ?h_44 ?g_44 ?q_44); (case h_44 => exact At.of rfl rfl a_best_order_6); (case g_44 => rfl))
    refine ox_notInL rfl flat_encO ?_
    rw [inD_non]
    clear hbest
    refine asB_bl (ite_ndec (fun hn => ?_) (fun hn => ?_))
    · obtain ⟨ns, ens, hne, m, hm1, hm2⟩ := max_done ok hn
      have el : lastOf b d beats o = some m := hm1
      have es : bestStep b d beats best o = if best = none ∨ ∃ z, best = some z ∧ m < z.1 then some (m, o) else best := by
        unfold bestStep; rw [el]
      cases best with
      | none =>
        (with_reducible refine tw_and1 ?_)
        ((with_reducible show TX _ _ (.BoolOp _ _ _) _ _ _); refine TW.tx ?_)
        (with_reducible refine tw_or ?_)
        ((with_reducible refine tx_cmp ?h_48 ?q_48); (case h_48 => first | exact nomark _ | rfl))
        ((with_reducible refine' ex_var (i := 3) (x := "best") ?h_49 ?g_49 ?q_49); (case h_49 => exact At.of rfl rfl a_best_order_3); (case g_49 => rfl))
        (with_reducible refine ex_non ?_)
        (with_reducible refine ox_is ?_)
        (with_reducible refine asB_bl ?_)
        ((with_reducible show (ite (_ = true) _ _)); first | refine iteT' rfl ?_ | refine iteF' rfl ?_)
        ((with_reducible show (ite (_ = true) _ _)); first | refine iteT' rfl ?_ | refine iteF' rfl ?_)
        (with_reducible refine sxs_one ?_)
        ((with_reducible refine sx_set (i := 3) (x := "best") ?h_56 ?s_56 ?q_56); (case h_56 => exact Lc.of sc_best_order.nd rfl rfl (.inl rfl) a_best_order_3); (case s_56 => rfl))
        ((with_reducible refine ex_tup ?q_57))
        ((with_reducible refine ax_cons ?h_58 ?q_58); (case h_58 => rfl))
        ((with_reducible refine' ex_callB ?c_59 ?he_59 ?hp_59 ?q_59); (case c_59 => first | with_reducible assumption | exact Blt.fn (by with_reducible assumption) rfl (by first | with_reducible exact bb_len | with_reducible exact bb_isinstance | with_reducible exact bb_max | with_reducible exact bb_min)); (case he_59 => rfl); (case hp_59 => rfl))
        ((with_reducible refine ax_cons ?h_60 ?q_60); (case h_60 => rfl))
        ((with_reducible refine' ex_var (i := 6) (x := "done") ?h_61 ?g_61 ?q_61); (case h_61 => exact At.of rfl rfl a_best_order_6); (case g_61 => rfl))
        (with_reducible refine ax_nil ?_)
        rw [ens]
        refine bx_maxL rfl IsL.fz hne fun m' g1 g2 => ?_
        have e := hm2 m' g1 g2
        subst e
        ((with_reducible refine ax_cons ?h_63 ?q_63); (case h_63 => rfl))
        ((with_reducible refine' ex_var (i := 4) (x := "order") ?h_64 ?g_64 ?q_64); (case h_64 => exact At.of rfl rfl a_best_order_4); (case g_64 => rfl))
        (with_reducible refine ax_nil ?_)
        ((with_reducible show (List.length _ ≤ sizeLine ∧ _)); refine And.intro (Nat.le_of_ble_eq_true rfl) ?_)
        exact ⟨some (m', o), _, _, _, _, rfl, by rw [enext, es, if_pos (.inl rfl)], hE⟩
      | some z =>
        (with_reducible refine tw_and1 ?_)
        ((with_reducible show TX _ _ (.BoolOp _ _ _) _ _ _); refine TW.tx ?_)
        (with_reducible refine tw_or ?_)
        ((with_reducible refine tx_cmp ?h_70 ?q_70); (case h_70 => first | exact nomark _ | rfl))
        ((with_reducible refine' ex_var (i := 3) (x := "best") ?h_71 ?g_71 ?q_71); (case h_71 => exact At.of rfl rfl a_best_order_3); (case g_71 => rfl))
        (with_reducible refine ex_non ?_)
        (with_reducible refine ox_is ?_)
        (with_reducible refine asB_bl ?_)
        ((with_reducible show (ite (_ = true) _ _)); first | refine iteT' rfl ?_ | refine iteF' rfl ?_)
        (with_reducible refine tw_or1 ?_)
        ((with_reducible refine tx_cmp ?h_77 ?q_77); (case h_77 => first | exact nomark _ | rfl))
        ((with_reducible refine' ex_callB ?c_78 ?he_78 ?hp_78 ?q_78); (case c_78 => first | with_reducible assumption | exact Blt.fn (by with_reducible assumption) rfl (by first | with_reducible exact bb_len | with_reducible exact bb_isinstance | with_reducible exact bb_max | with_reducible exact bb_min)); (case he_78 => rfl); (case hp_78 => rfl))
        ((with_reducible refine ax_cons ?h_79 ?q_79); (case h_79 => rfl))
        ((with_reducible refine' ex_var (i := 6) (x := "done") ?h_80 ?g_80 ?q_80); (case h_80 => exact At.of rfl rfl a_best_order_6); (case g_80 => rfl))
        (with_reducible refine ax_nil ?_)
        rw [ens]
        refine bx_maxL rfl IsL.fz hne fun m' g1 g2 => ?_
        have e := hm2 m' g1 g2
        subst e
        unfold encBest
        ((with_reducible refine ex_sub ?h_82 ?q_82); (case h_82 => exact fun _ _ => rfl))
        ((with_reducible refine' ex_var (i := 3) (x := "best") ?h_83 ?g_83 ?q_83); (case h_83 => exact At.of rfl rfl a_best_order_3); (case g_83 => rfl))
        (with_reducible refine ex_int ?_)
        ((with_reducible show (IX _ _ (.tup _) (.int _) _ _ _)); refine ix_t rfl ?_)
        (with_reducible refine ox_lt ?_)
        (with_reducible refine asB_bl ?_)
        refine ite_dec (fun h1 => ?_) (fun h1 => ?_)
        · (with_reducible refine sxs_one ?_)
          ((with_reducible refine sx_set (i := 3) (x := "best") ?h_89 ?s_89 ?q_89); (case h_89 => exact Lc.of sc_best_order.nd rfl rfl (.inl rfl) a_best_order_3); (case s_89 => rfl))
          ((with_reducible refine ex_tup ?q_90))
          ((with_reducible refine ax_cons ?h_91 ?q_91); (case h_91 => rfl))
          ((with_reducible refine' ex_callB ?c_92 ?he_92 ?hp_92 ?q_92); (case c_92 => first | with_reducible assumption | exact Blt.fn (by with_reducible assumption) rfl (by first | with_reducible exact bb_len | with_reducible exact bb_isinstance | with_reducible exact bb_max | with_reducible exact bb_min)); (case he_92 => rfl); (case hp_92 => rfl))
          ((with_reducible refine ax_cons ?h_93 ?q_93); (case h_93 => rfl))
          ((with_reducible refine' ex_var (i := 6) (x := "done") ?h_94 ?g_94 ?q_94); (case h_94 => exact At.of rfl rfl a_best_order_6); (case g_94 => rfl))
          (with_reducible refine ax_nil ?_)
          refine bx_maxL rfl IsL.fz hne fun m2 g1 g2 => ?_
          have e := hm2 m2 g1 g2
          subst e
          ((with_reducible refine ax_cons ?h_96 ?q_96); (case h_96 => rfl))
          ((with_reducible refine' ex_var (i := 4) (x := "order") ?h_97 ?g_97 ?q_97); (case h_97 => exact At.of rfl rfl a_best_order_4); (case g_97 => rfl))
          (with_reducible refine ax_nil ?_)
          ((with_reducible show (List.length _ ≤ sizeLine ∧ _)); refine And.intro (Nat.le_of_ble_eq_true rfl) ?_)
          exact ⟨some (m2, o), _, _, _, _, rfl, by rw [enext, es, if_pos (.inr ⟨z, rfl, h1⟩)], hE⟩
        · (with_reducible refine sxs_nil ?_)
          refine ⟨some z, _, _, _, _, rfl, ?_, hE⟩
          rw [enext, es, if_neg (by
            rintro (q | ⟨y, hy, q⟩)
            · cases q
            · cases hy; exact h1 q)]
    · have el : lastOf b d beats o = none := last_none.mpr hn
      ((with_reducible show (ite (_ = true) _ _)); first | refine iteT' rfl ?_ | refine iteF' rfl ?_)
      (with_reducible refine sxs_nil ?_)
      refine ⟨best, _, _, _, _, rfl, ?_, hE⟩
      rw [enext]
      unfold bestStep
      rw [el]
  · rintro G' M' ⟨best, a4, a5, a6, a7, rfl, hbest, hE⟩
    have hn : (List.map encNs (ordersF b.length)).length = (ordersF b.length).length := List.length_map ..
    rw [hn, List.take_length] at hbest
    rw [hbest]
    (refine sxs_one ?_)
    (with_reducible refine sx_ret ?_)
    ((with_reducible refine' ex_var (i := 3) (x := "best") ?h_105 ?g_105 ?q_105); (case h_105 => exact At.of rfl rfl a_best_order_3); (case g_105 => rfl))
    exact k M' hE
end

/-! ### sent so often that some may be lost -/
def sturdyF (b : List Cmd) (d : Int) (ws : List (Int × Int)) (lost : Nat) : Option (Int × List (Int × Nat)) :=
  if (beatsF ws ((lost + 1) * b.length)).length < (lost + 1) * b.length then none else
  match bestO b d ((List.range b.length).filterMap fun k => (beatsF ws ((lost + 1) * b.length))[lost + (lost + 1) * k]?) with
  | none => none
  | some z => some (z.1, (List.range ((lost + 1) * b.length)).map fun k => (((beatsF ws ((lost + 1) * b.length)).getD k 0 : Nat), z.2.getD (k / (lost + 1)) 0))
def spSturdy : DSp := fun ds M Q => ∃ (b : List Cmd) (d : Int) (ws : List (Int × Int)) (lost : Nat), ds = [encB b, .int d, encWn ws, .int lost] ∧ BookOk b ∧ 1 ≤ d ∧ d ≤ 9 ∧ WinFrom 0 ws ∧ ws.length ≤ 1000 ∧ lost ≤ 3 ∧ b.length ≤ 6 ∧
  ∀ M', Ext M M' → (sturdyF b d ws lost = none → Q .non M') ∧ ∀ m sends l, sturdyF b d ws lost = some (m, sends) → M l = none → M' l = some (.lst (sends.map encSd)) → Q (.tup [.int m, .ref l]) M'
def spSoonest : DSp := fun ds M Q => ∃ (b : List Cmd) (d : Int) (ws : List (Int × Int)), ds = [encB b, .int d, encWn ws] ∧ BookOk b ∧ 1 ≤ d ∧ d ≤ 9 ∧ WinFrom 0 ws ∧ ws.length ≤ 1000 ∧ b.length ≤ 6 ∧
  ∀ M', Ext M M' → (sturdyF b d ws 0 = none → Q .non M') ∧ ∀ m sends l, sturdyF b d ws 0 = some (m, sends) → M l = none → M' l = some (.lst (sends.map encSd)) → Q (.tup [.int m, .ref l]) M'
theorem best_mem {b : List Cmd} {d : Int} {beats : List Nat} {z : Int × List Nat} (h : bestO b d beats = some z) : z.2 ∈ ordersF b.length := by
  have key : ∀ (xs : List (List Nat)) (r : Option (Int × List Nat)), (∀ y, r = some y → y.2 ∈ ordersF b.length) → (∀ o ∈ xs, o ∈ ordersF b.length) → ∀ y, xs.foldl (bestStep b d beats) r = some y → y.2 ∈ ordersF b.length := by
    intro xs
    induction xs with
    | nil => exact fun r hr _ y hy => hr y hy
    | cons o xs ih =>
      intro r hr hx y hy
      refine ih _ (fun y hy => ?_) (fun o ho => hx o (List.mem_cons_of_mem _ ho)) y hy
      unfold bestStep at hy
      split at hy
      · exact hr y hy
      · split at hy
        · cases hy; exact hx o (by simp)
        · exact hr y hy
  exact key _ none (fun y hy => by cases hy) (fun o ho => ho) z h
theorem beatsF_le {ws : List (Int × Int)} {n : Nat} : (beatsF ws n).length ≤ n := by
  unfold beatsF
  rw [List.length_take]; omega
section
variable {P : Program} {w : World} {K : PySem.W.Frag} {mg : Str → Option Value} {base : Heap}
theorem ok_sturdy {f : Addr} {fd : FuncData} (Fn : Fun K "sturdy" "sturdy" s_sturdy f fd) (zl : mg "len" = none) (zr : mg "range" = none) (gM : Cst K mg "MOST_LOST" (.int 3)) (gO : Cst K mg "MOST_ORDERED" (.int 6)) (dB : Dfn P w K mg base 3 "need_book" spNeedBook) (dD : Dfn P w K mg base 2 "need_delay" spNeedDelay) (dW : Dfn P w K mg base 2 "need_windows" spNeedWindows)
    (dN : Dfn P w K mg base 1 "is_number" spIsNumber) (dO : Dfn P w K mg base 2 "open_beats" spOpenBeats) (dBo : Dfn P w K mg base 2 "best_order" spBestOrder) : FnOk P w K mg base CX0 4 f fd ["book", "delay", "windows", "lost"] (lift K spSturdy) := by
  refine fun_ok Fn sc_sturdy (fun ds M Q ⟨_, _, _, _, e, _⟩ => by rw [e]; rfl) fun cdv A outer sh H E hr ds M Q h B => ?_
  obtain ⟨b, d, ws, lost, rfl, ok, d1, d9, hw, hwl, hl3, hb6, k⟩ := h
  have hbp : 0 < b.length := List.length_pos_iff.mpr ok.ne
  have eB : encB b = .tup (b.map Cmd.enc) := rfl
  (refine sxs_cons ?_)
  ((with_reducible refine sx_expr ?h_2 ?q_2); (case h_2 => rfl))
  ((with_reducible refine' ex_call ?c_3 ?hr_3 ?hg_3 ?hd_3 ?he_3 ?hp_3 ?q_3); (case c_3 => first | with_reducible assumption | exact Dfn.fn (by with_reducible assumption)); (case hr_3 => first | assumption | exact Room.mono (by assumption) (by decide)); (case hg_3 => rfl); (case hd_3 => rfl); (case he_3 => rfl); (case hp_3 => rfl))
  ((with_reducible refine ax_cons ?h_4 ?q_4); (case h_4 => rfl))
  ((with_reducible refine' ex_var (i := 0) (x := "book") ?h_5 ?g_5 ?q_5); (case h_5 => exact At.of rfl rfl a_sturdy_0); (case g_5 => rfl))
  (with_reducible refine ax_nil ?_)
  refine ⟨b, rfl, ok, ?_⟩
  (with_reducible refine sxs_cons ?_)
  ((with_reducible refine sx_expr ?h_8 ?q_8); (case h_8 => rfl))
  ((with_reducible refine' ex_call ?c_9 ?hr_9 ?hg_9 ?hd_9 ?he_9 ?hp_9 ?q_9); (case c_9 => first | with_reducible assumption | exact Dfn.fn (by with_reducible assumption)); (case hr_9 => first | assumption | exact Room.mono (by assumption) (by decide)); (case hg_9 => rfl); (case hd_9 => rfl); (case he_9 => rfl); (case hp_9 => rfl))
  ((with_reducible refine ax_cons ?h_10 ?q_10); (case h_10 => rfl))
  ((with_reducible refine' ex_var (i := 1) (x := "delay") ?h_11 ?g_11 ?q_11); (case h_11 => exact At.of rfl rfl a_sturdy_1); (case g_11 => rfl))
  (with_reducible refine ax_nil ?_)
  refine ⟨d, rfl, d1, d9, ?_⟩
  (with_reducible refine sxs_cons ?_)
  ((with_reducible refine sx_expr ?h_14 ?q_14); (case h_14 => rfl))
  ((with_reducible refine' ex_call ?c_15 ?hr_15 ?hg_15 ?hd_15 ?he_15 ?hp_15 ?q_15); (case c_15 => first | with_reducible assumption | exact Dfn.fn (by with_reducible assumption)); (case hr_15 => first | assumption | exact Room.mono (by assumption) (by decide)); (case hg_15 => rfl); (case hd_15 => rfl); (case he_15 => rfl); (case hp_15 => rfl))
  ((with_reducible refine ax_cons ?h_16 ?q_16); (case h_16 => rfl))
  ((with_reducible refine' ex_var (i := 2) (x := "windows") ?h_17 ?g_17 ?q_17); (case h_17 => exact At.of rfl rfl a_sturdy_2); (case g_17 => rfl))
  (with_reducible refine ax_nil ?_)
  refine ⟨ws, rfl, hw, ?_⟩
  (with_reducible refine sxs_cons ?_)
  with_reducible refine sx_if ?_
  (with_reducible refine tx_not ?_)
  ((with_reducible show TX _ _ (.Call _ _ _ _) _ _ _); refine tx_val (fun _ => rfl) ?_)
  ((with_reducible refine' ex_call ?c_23 ?hr_23 ?hg_23 ?hd_23 ?he_23 ?hp_23 ?q_23); (case c_23 => first | with_reducible assumption | exact Dfn.fn (by with_reducible assumption)); (case hr_23 => first | assumption | exact Room.mono (by assumption) (by decide)); (case hg_23 => rfl); (case hd_23 => rfl); (case he_23 => rfl); (case hp_23 => rfl))
  ((with_reducible refine ax_cons ?h_24 ?q_24); (case h_24 => rfl))
  ((with_reducible refine' ex_var (i := 3) (x := "lost") ?h_25 ?g_25 ?q_25); (case h_25 => exact At.of rfl rfl a_sturdy_3); (case g_25 => rfl))
  ((with_reducible refine ax_cons ?h_26 ?q_26); (case h_26 => rfl))
  (with_reducible refine ex_int ?_)
  ((with_reducible refine ax_cons ?h_28 ?q_28); (case h_28 => rfl))
  ((with_reducible refine' ex_glob ?c_29 ?q_29); (case c_29 => first | with_reducible assumption | exact Gb.fn (by with_reducible assumption) rfl))
  (with_reducible refine ax_nil ?_)
  refine num_ok (by omega) (by omega) ?_
  rw [eB]
  (with_reducible refine asB_bl ?_)
  ((with_reducible show (ite (_ = true) _ _)); first | refine iteT' rfl ?_ | refine iteF' rfl ?_)
  (with_reducible refine sxs_nil ?_)
  (with_reducible refine sxs_cons ?_)
  with_reducible refine sx_if ?_
  ((with_reducible refine tx_cmp ?h_36 ?q_36); (case h_36 => first | exact nomark _ | rfl))
  ((with_reducible refine' ex_callB ?c_37 ?he_37 ?hp_37 ?q_37); (case c_37 => first | with_reducible assumption | exact Blt.fn (by with_reducible assumption) rfl (by first | with_reducible exact bb_len | with_reducible exact bb_isinstance | with_reducible exact bb_max | with_reducible exact bb_min)); (case he_37 => rfl); (case hp_37 => rfl))
  ((with_reducible refine ax_cons ?h_38 ?q_38); (case h_38 => rfl))
  ((with_reducible refine' ex_var (i := 0) (x := "book") ?h_39 ?g_39 ?q_39); (case h_39 => exact At.of rfl rfl a_sturdy_0); (case g_39 => rfl))
  (with_reducible refine ax_nil ?_)
  (with_reducible refine bx_lenT ?_)
  ((with_reducible refine' ex_glob ?c_42 ?q_42); (case c_42 => first | with_reducible assumption | exact Gb.fn (by with_reducible assumption) rfl))
  (with_reducible refine ox_gt ?_)
  (with_reducible refine asB_bl ?_)
  rw [List.length_map]
  refine ite_dec (fun h => by omega) (fun _ => ?_)
  (with_reducible refine sxs_nil ?_)
  (with_reducible refine sxs_cons ?_)
  ((with_reducible refine sx_set (i := 4) (x := "often") ?h_47 ?s_47 ?q_47); (case h_47 => exact Lc.of sc_sturdy.nd rfl rfl (.inl rfl) a_sturdy_4); (case s_47 => rfl))
  (with_reducible refine ex_bin ?_)
  ((with_reducible refine' ex_var (i := 3) (x := "lost") ?h_49 ?g_49 ?q_49); (case h_49 => exact At.of rfl rfl a_sturdy_3); (case g_49 => rfl))
  (with_reducible refine ex_int ?_)
  (with_reducible refine ox_add ?_)
  (with_reducible refine sxs_cons ?_)
  ((with_reducible refine sx_set (i := 5) (x := "beats") ?h_53 ?s_53 ?q_53); (case h_53 => exact Lc.of sc_sturdy.nd rfl rfl (.inl rfl) a_sturdy_5); (case s_53 => rfl))
  ((with_reducible refine' ex_call ?c_54 ?hr_54 ?hg_54 ?hd_54 ?he_54 ?hp_54 ?q_54); (case c_54 => first | with_reducible assumption | exact Dfn.fn (by with_reducible assumption)); (case hr_54 => first | assumption | exact Room.mono (by assumption) (by decide)); (case hg_54 => rfl); (case hd_54 => rfl); (case he_54 => rfl); (case hp_54 => rfl))
  ((with_reducible refine ax_cons ?h_55 ?q_55); (case h_55 => rfl))
  ((with_reducible refine' ex_var (i := 2) (x := "windows") ?h_56 ?g_56 ?q_56); (case h_56 => exact At.of rfl rfl a_sturdy_2); (case g_56 => rfl))
  ((with_reducible refine ax_cons ?h_57 ?q_57); (case h_57 => rfl))
  (with_reducible refine ex_bin ?_)
  ((with_reducible refine' ex_var (i := 4) (x := "often") ?h_59 ?g_59 ?q_59); (case h_59 => exact At.of rfl rfl a_sturdy_4); (case g_59 => rfl))
  ((with_reducible refine' ex_callB ?c_60 ?he_60 ?hp_60 ?q_60); (case c_60 => first | with_reducible assumption | exact Blt.fn (by with_reducible assumption) rfl (by first | with_reducible exact bb_len | with_reducible exact bb_isinstance | with_reducible exact bb_max | with_reducible exact bb_min)); (case he_60 => rfl); (case hp_60 => rfl))
  ((with_reducible refine ax_cons ?h_61 ?q_61); (case h_61 => rfl))
  ((with_reducible refine' ex_var (i := 0) (x := "book") ?h_62 ?g_62 ?q_62); (case h_62 => exact At.of rfl rfl a_sturdy_0); (case g_62 => rfl))
  (with_reducible refine ax_nil ?_)
  (with_reducible refine bx_lenT ?_)
  rw [List.length_map]
  refine ox_mul (.inl ⟨by omega, by omega⟩) ?_
  have hmulN : ((lost : Int) + 1) * (b.length : Int) = (((lost + 1) * b.length : Nat) : Int) := by simp
  rw [hmulN]
  generalize hN : (lost + 1) * b.length = N
  have hN24 : N ≤ 24 := by
    have : (lost + 1) * b.length ≤ 4 * 6 := Nat.mul_le_mul (by omega) hb6
    omega
  (with_reducible refine ax_nil ?_)
  refine ⟨ws, N, rfl, hwl, ?_⟩
  (with_reducible refine sxs_cons ?_)
  with_reducible refine sx_if ?_
  ((with_reducible refine tx_cmp ?h_68 ?q_68); (case h_68 => first | exact nomark _ | rfl))
  ((with_reducible refine' ex_callB ?c_69 ?he_69 ?hp_69 ?q_69); (case c_69 => first | with_reducible assumption | exact Blt.fn (by with_reducible assumption) rfl (by first | with_reducible exact bb_len | with_reducible exact bb_isinstance | with_reducible exact bb_max | with_reducible exact bb_min)); (case he_69 => rfl); (case hp_69 => rfl))
  ((with_reducible refine ax_cons ?h_70 ?q_70); (case h_70 => rfl))
  ((with_reducible refine' ex_var (i := 5) (x := "beats") ?h_71 ?g_71 ?q_71); (case h_71 => exact At.of rfl rfl a_sturdy_5); (case g_71 => rfl))
  (with_reducible refine ax_nil ?_)
  (with_reducible refine bx_lenL ?_)
  (with_reducible refine ex_bin ?_)
  ((with_reducible refine' ex_var (i := 4) (x := "often") ?h_75 ?g_75 ?q_75); (case h_75 => exact At.of rfl rfl a_sturdy_4); (case g_75 => rfl))
  ((with_reducible refine' ex_callB ?c_76 ?he_76 ?hp_76 ?q_76); (case c_76 => first | with_reducible assumption | exact Blt.fn (by with_reducible assumption) rfl (by first | with_reducible exact bb_len | with_reducible exact bb_isinstance | with_reducible exact bb_max | with_reducible exact bb_min)); (case he_76 => rfl); (case hp_76 => rfl))
  ((with_reducible refine ax_cons ?h_77 ?q_77); (case h_77 => rfl))
  ((with_reducible refine' ex_var (i := 0) (x := "book") ?h_78 ?g_78 ?q_78); (case h_78 => exact At.of rfl rfl a_sturdy_0); (case g_78 => rfl))
  (with_reducible refine ax_nil ?_)
  (with_reducible refine bx_lenT ?_)
  rw [List.length_map, List.length_map]
  refine ox_mul (.inl ⟨by omega, by omega⟩) ?_
  rw [hmulN, hN]
  have hble := beatsF_le (ws := ws) (n := N)
  (with_reducible refine ox_lt ?_)
  (with_reducible refine asB_bl ?_)
  refine ite_dec (fun h1 => ?_) (fun h1 => ?_)
  · (with_reducible refine sxs_one ?_)
    (with_reducible refine sx_ret ?_)
    (with_reducible refine ex_non ?_)
    refine (k M (Ext.refl M)).1 ?_
    unfold sturdyF
    rw [hN, if_pos (by omega)]
  have hbl : (beatsF ws N).length = N := by omega
  have eS : sturdyF b d ws lost = match bestO b d ((List.range b.length).filterMap fun k => (beatsF ws N)[lost + (lost + 1) * k]?) with
      | none => none
      | some z => some (z.1, (List.range N).map fun k => (((beatsF ws N).getD k 0 : Nat), z.2.getD (k / (lost + 1)) 0)) := by
    unfold sturdyF
    rw [hN, if_neg (by omega)]
  (with_reducible refine sxs_nil ?_)
  (with_reducible refine sxs_cons ?_)
  ((with_reducible refine sx_set (i := 6) (x := "best") ?h_88 ?s_88 ?q_88); (case h_88 => exact Lc.of sc_sturdy.nd rfl rfl (.inl rfl) a_sturdy_6); (case s_88 => rfl))
  ((with_reducible refine' ex_call ?c_89 ?hr_89 ?hg_89 ?hd_89 ?he_89 ?hp_89 ?q_89); (case c_89 => first | with_reducible assumption | exact Dfn.fn (by with_reducible assumption)); (case hr_89 => first | assumption | exact Room.mono (by assumption) (by decide)); (case hg_89 => rfl); (case hd_89 => rfl); (case he_89 => rfl); (case hp_89 => rfl))
  ((with_reducible refine ax_cons ?h_90 ?q_90); (case h_90 => rfl))
  ((with_reducible refine' ex_var (i := 0) (x := "book") ?h_91 ?g_91 ?q_91); (case h_91 => exact At.of rfl rfl a_sturdy_0); (case g_91 => rfl))
  ((with_reducible refine ax_cons ?h_92 ?q_92); (case h_92 => rfl))
  ((with_reducible refine' ex_var (i := 1) (x := "delay") ?h_93 ?g_93 ?q_93); (case h_93 => exact At.of rfl rfl a_sturdy_1); (case g_93 => rfl))
  ((with_reducible refine ax_cons ?h_94 ?q_94); (case h_94 => rfl))
  (with_reducible refine ex_sliceSt ?_)
  ((with_reducible refine' ex_var (i := 5) (x := "beats") ?h_96 ?g_96 ?q_96); (case h_96 => exact At.of rfl rfl a_sturdy_5); (case g_96 => rfl))
  (with_reducible refine pox_some ?_)
  ((with_reducible refine' ex_var (i := 3) (x := "lost") ?h_98 ?g_98 ?q_98); (case h_98 => exact At.of rfl rfl a_sturdy_3); (case g_98 => rfl))
  (refine ⟨_, (rfl : D.int _ = D.int _), (?_ : POX _ _ _ _ _ _)⟩)
  (with_reducible refine pox_none ?_)
  ((with_reducible refine' ex_var (i := 4) (x := "often") ?h_101 ?g_101 ?q_101); (case h_101 => exact At.of rfl rfl a_sturdy_4); (case g_101 => rfl))
  try (refine ⟨_, (rfl : D.int _ = D.int _), ?_⟩; wtm_at "g sturdy")
  refine ⟨_, _, IsL.fz, rfl, by omega, ?_⟩
  have e1 : ((lost : Int) + 1) = ((lost + 1 : Nat) : Int) := by omega
  have ePick : pickOf ((beatsF ws N).map encN) (some (lost : Int)) none (some ((lost : Int) + 1)) = ((List.range b.length).filterMap fun k => (beatsF ws N)[lost + (lost + 1) * k]?).map encN := by
    rw [e1, pick_from (n := b.length) (by omega) (by omega) (by rw [List.length_map, hbl, hN]), List.map_filterMap]
    refine congrArg (fun f => List.filterMap f (List.range b.length)) (funext fun k => ?_)
    rw [List.getElem?_map]
  have hplen : ((List.range b.length).filterMap fun k => (beatsF ws N)[lost + (lost + 1) * k]?).length = b.length := by
    have key : ∀ (l : List Nat), (∀ k ∈ l, k < b.length) → (l.filterMap fun k => (beatsF ws N)[lost + (lost + 1) * k]?).length = l.length := by
      intro l
      induction l with
      | nil => exact fun _ => rfl
      | cons k l ih =>
        intro hk
        have h1 := hk k (by simp)
        have h2 : lost + (lost + 1) * k < (beatsF ws N).length := by
          rw [hbl, ← hN]
          have : (lost + 1) * (k + 1) ≤ (lost + 1) * b.length := Nat.mul_le_mul_left _ h1
          rw [Nat.mul_succ] at this
          omega
        rw [List.filterMap_cons, List.getElem?_eq_getElem h2]
        simp only [List.length_cons]
        rw [ih fun k hk' => hk k (List.mem_cons_of_mem _ hk')]
    rw [key _ (by simp), List.length_range]
  rw [ePick]
  (with_reducible refine ax_nil ?_)
  refine ⟨b, d, _, rfl, ok, hb6, hplen, fun M1 hE1 => ?_⟩
  generalize ((List.range b.length).filterMap fun k => (beatsF ws N)[lost + (lost + 1) * k]?) = pk at *
  (with_reducible refine sxs_cons ?_)
  with_reducible refine sx_if ?_
  ((with_reducible refine tx_cmp ?h_105 ?q_105); (case h_105 => first | exact nomark _ | rfl))
  ((with_reducible refine' ex_var (i := 6) (x := "best") ?h_106 ?g_106 ?q_106); (case h_106 => exact At.of rfl rfl a_sturdy_6); (case g_106 => rfl))
  (with_reducible refine ex_non ?_)
  (with_reducible refine ox_is ?_)
  (with_reducible refine asB_bl ?_)
  cases hq : bestO b d pk with
  | none =>
    rw [hq] at eS
    ((with_reducible show (ite (_ = true) _ _)); first | refine iteT' rfl ?_ | refine iteF' rfl ?_)
    (with_reducible refine sxs_one ?_)
    (with_reducible refine sx_ret ?_)
    (with_reducible refine ex_non ?_)
    exact (k M1 hE1).1 eS
  | some z =>
    rw [hq] at eS
    have ook := ord_ok (best_mem hq)
    have hzl := ook.len
    unfold encBest
    ((with_reducible show (ite (_ = true) _ _)); first | refine iteT' rfl ?_ | refine iteF' rfl ?_)
    (with_reducible refine sxs_nil ?_)
    (with_reducible refine sxs_one ?_)
    (with_reducible refine sx_ret ?_)
    ((with_reducible refine ex_tup ?q_118))
    ((with_reducible refine ax_cons ?h_119 ?q_119); (case h_119 => rfl))
    ((with_reducible refine ex_sub ?h_120 ?q_120); (case h_120 => exact fun _ _ => rfl))
    ((with_reducible refine' ex_var (i := 6) (x := "best") ?h_121 ?g_121 ?q_121); (case h_121 => exact At.of rfl rfl a_sturdy_6); (case g_121 => rfl))
    (with_reducible refine ex_int ?_)
    ((with_reducible show (IX _ _ (.tup _) (.int _) _ _ _)); refine ix_t rfl ?_)
    ((with_reducible refine ax_cons ?h_124 ?q_124); (case h_124 => rfl))
    refine' ex_lcpM (own := [("k", 7)]) (t := .inl 7) ?f rfl sc_sturdy.nd (blkOk_by (N := n_sturdy) (sc := defScope s_sturdy) (by decide +kernel)) (by decide) (fun _ _ _ _ _ => pg_name (i := 7) sc_sturdy.nd rfl (by first | exact Or.inl rfl | exact Or.inr rfl)) (fun _ => rfl) ?_
    case f => exact fun d0 => match d0 with
      | .int m => some (encSd (((beatsF ws N).getD m.toNat 0 : Nat), z.2.getD (m.toNat / (lost + 1)) 0))
      | _ => none
    refine lx_range1 rfl zr rfl ?_
    ((with_reducible refine' ex_callB ?c_126 ?he_126 ?hp_126 ?q_126); (case c_126 => first | with_reducible assumption | exact Blt.fn (by with_reducible assumption) rfl (by first | with_reducible exact bb_len | with_reducible exact bb_isinstance | with_reducible exact bb_max | with_reducible exact bb_min)); (case he_126 => rfl); (case hp_126 => rfl))
    ((with_reducible refine ax_cons ?h_127 ?q_127); (case h_127 => rfl))
    ((with_reducible refine' ex_var (i := 5) (x := "beats") ?h_128 ?g_128 ?q_128); (case h_128 => exact At.of rfl rfl a_sturdy_5); (case g_128 => rfl))
    (with_reducible refine ax_nil ?_)
    (with_reducible refine bx_lenL ?_)
    rw [List.length_map, hbl]
    refine ⟨_, rfl, by omega, by omega, ⟨?_, fun d0 M3 hd3 hm => ?_⟩, fun l fl => ?_⟩
    · rw [rangeD_len]
      exact Nat.lt_of_le_of_lt (by omega : _ ≤ 24) (by decide)
    · obtain ⟨m, hm0⟩ := List.mem_iff_getElem?.mp hd3
      obtain ⟨hmlt, rfl⟩ := rangeD_at hm0
      have et : ((0 : Int) + (m : Int)).toNat = m := by omega
      have hmN : m < N := by omega
      have hdiv : m / (lost + 1) < b.length := by
        rw [Nat.div_lt_iff_lt_mul (by omega), Nat.mul_comm]
        omega
      have g1 : ((beatsF ws N).map encN)[m]? = some (encN ((beatsF ws N).getD m 0)) := by
        rw [List.getElem?_map, List.getElem?_eq_getElem (by omega), List.getD_eq_getElem?_getD, List.getElem?_eq_getElem (by omega)]; rfl
      have g2 : (z.2.map encN)[m / (lost + 1)]? = some (encN (z.2.getD (m / (lost + 1)) 0)) := by
        rw [List.getElem?_map, List.getElem?_eq_getElem (by omega), List.getD_eq_getElem?_getD, List.getElem?_eq_getElem (by omega)]; rfl
      refine fun s1 H1 C1 cl1 fp1 => txs_nil (iteT fun s2 H2 C2 cl2 fp2 => ?_)
      ((with_reducible refine ex_tup ?q_131))
      ((with_reducible refine ax_cons ?h_132 ?q_132); (case h_132 => rfl))
      ((with_reducible refine ex_sub ?h_133 ?q_133); (case h_133 => exact fun _ _ => rfl))
      ((with_reducible refine' ex_var (i := 5) (x := "beats") ?h_134 ?g_134 ?q_134); (case h_134 => exact At.b rfl (by first | exact Or.inl rfl | exact Or.inr (Or.inl rfl) | exact Or.inr (Or.inr rfl))); (case g_134 => rfl))
      ((with_reducible refine' ex_var (i := 7) (x := "k") ?h_135 ?g_135 ?q_135); (case h_135 => exact At.b rfl (by first | exact Or.inl rfl | exact Or.inr (Or.inl rfl) | exact Or.inr (Or.inr rfl))); (case g_135 => rfl))
      refine ix_l (atI_of (Int.zero_add _) g1) ?_
      ((with_reducible refine ax_cons ?h_136 ?q_136); (case h_136 => rfl))
      ((with_reducible refine ex_sub ?h_137 ?q_137); (case h_137 => exact fun _ _ => rfl))
      ((with_reducible refine ex_sub ?h_138 ?q_138); (case h_138 => exact fun _ _ => rfl))
      ((with_reducible refine' ex_var (i := 6) (x := "best") ?h_139 ?g_139 ?q_139); (case h_139 => exact At.b rfl (by first | exact Or.inl rfl | exact Or.inr (Or.inl rfl) | exact Or.inr (Or.inr rfl))); (case g_139 => rfl))
      (with_reducible refine ex_int ?_)
      ((with_reducible show (IX _ _ (.tup _) (.int _) _ _ _)); refine ix_t rfl ?_)
      (with_reducible refine ex_bin ?_)
      ((with_reducible refine' ex_var (i := 7) (x := "k") ?h_143 ?g_143 ?q_143); (case h_143 => exact At.b rfl (by first | exact Or.inl rfl | exact Or.inr (Or.inl rfl) | exact Or.inr (Or.inr rfl))); (case g_143 => rfl))
      ((with_reducible refine' ex_var (i := 4) (x := "often") ?h_144 ?g_144 ?q_144); (case h_144 => exact At.b rfl (by first | exact Or.inl rfl | exact Or.inr (Or.inl rfl) | exact Or.inr (Or.inr rfl))); (case g_144 => rfl))
      refine ox_fdiv ⟨by omega, by omega⟩ ?_
      unfold encNs
      refine ix_l (atI_of (j := m / (lost + 1)) ?_ g2) ?_
      · rw [Int.zero_add, e1]
        exact (Int.natCast_ediv _ _).symm
      (with_reducible refine ax_nil ?_)
      ((with_reducible show (List.length _ ≤ sizeLine ∧ _)); refine And.intro (Nat.le_of_ble_eq_true rfl) ?_)
      refine ⟨rfl, ?_⟩
      show some (encSd (((beatsF ws N).getD ((0 : Int) + (m : Int)).toNat 0 : Nat), z.2.getD (((0 : Int) + (m : Int)).toNat / (lost + 1)) 0)) = _
      rw [et]; rfl
    (with_reducible refine ax_nil ?_)
    ((with_reducible show (List.length _ ≤ sizeLine ∧ _)); refine And.intro (Nat.le_of_ble_eq_true rfl) ?_)
    refine (k (mupd M1 l _) (hE1.trans (Ext.new fl))).2 z.1 _ l eS (hE1.free fl) ?_
    rw [mupd_same]
    congr 2
    unfold rangeD
    rw [List.filterMap_map, List.map_map, Int.toNat_natCast]
    show (List.range N).filterMap (fun t : Nat => some (encSd (((beatsF ws N).getD ((0 : Int) + (t : Int)).toNat 0 : Nat), z.2.getD (((0 : Int) + (t : Int)).toNat / (lost + 1)) 0))) = _
    rw [List.filterMap_eq_map']
    refine List.map_congr_left fun t _ => ?_
    rw [Int.zero_add, Int.toNat_natCast]; rfl
theorem ok_soonest {f : Addr} {fd : FuncData} (Fn : Fun K "soonest" "soonest" s_soonest f fd) (dS : Dfn P w K mg base 4 "sturdy" spSturdy) : FnOk P w K mg base CX0 5 f fd ["book", "delay", "windows"] (lift K spSoonest) := by
  refine fun_ok Fn sc_soonest (fun ds M Q ⟨_, _, _, e, _⟩ => by rw [e]; rfl) fun cdv A outer sh H E hr ds M Q h B => ?_
  obtain ⟨b, d, ws, rfl, ok, d1, d9, hw, hwl, hb6, k⟩ := h
  (refine sxs_one ?_)
  (with_reducible refine sx_ret ?_)
  ((with_reducible refine' ex_call ?c_151 ?hr_151 ?hg_151 ?hd_151 ?he_151 ?hp_151 ?q_151); (case c_151 => first | with_reducible assumption | exact Dfn.fn (by with_reducible assumption)); (case hr_151 => first | assumption | exact Room.mono (by assumption) (by decide)); (case hg_151 => rfl); (case hd_151 => rfl); (case he_151 => rfl); (case hp_151 => rfl))
  ((with_reducible refine ax_cons ?h_152 ?q_152); (case h_152 => rfl))
  ((with_reducible refine' ex_var (i := 0) (x := "book") ?h_153 ?g_153 ?q_153); (case h_153 => exact At.of rfl rfl a_soonest_0); (case g_153 => rfl))
  ((with_reducible refine ax_cons ?h_154 ?q_154); (case h_154 => rfl))
  ((with_reducible refine' ex_var (i := 1) (x := "delay") ?h_155 ?g_155 ?q_155); (case h_155 => exact At.of rfl rfl a_soonest_1); (case g_155 => rfl))
  ((with_reducible refine ax_cons ?h_156 ?q_156); (case h_156 => rfl))
  ((with_reducible refine' ex_var (i := 2) (x := "windows") ?h_157 ?g_157 ?q_157); (case h_157 => exact At.of rfl rfl a_soonest_2); (case g_157 => rfl))
  ((with_reducible refine ax_cons ?h_158 ?q_158); (case h_158 => rfl))
  (with_reducible refine ex_int ?_)
  (with_reducible refine ax_nil ?_)
  exact ⟨b, d, ws, 0, rfl, ok, d1, d9, hw, hwl, by decide, hb6, k⟩
end

/-! ### the law's draws -/
/-- the row: the script, a place, a mix -/
def rowO (ns : List Int) (i z : Int) : MO := .lst [.fzl (ns.map D.int), .int i, .int z]
def Row (ns : List Int) (r : Addr) (M : Mem) : Prop := ∃ (i : Nat) (z : Int), M r = some (rowO ns i z) ∧ 0 ≤ z ∧ z < 2147483647
/-- all but the cell r is as it was -/
def But (r : Addr) (M M' : Mem) : Prop := ∀ a, a ≠ r → M' a = M a
def spTaken : DSp := fun ds M Q => ∃ (ns : List Int) (r : Addr) (many : Int), ds = [.ref r, .int many] ∧ Row ns r M ∧ 0 < many ∧ ∀ k M', 0 ≤ k → k < many → Row ns r M' → But r M M' → Q (.int k) M'
section
variable {P : Program} {w : World} {K : PySem.W.Frag} {mg : Str → Option Value} {base : Heap}
theorem ok_taken {f : Addr} {fd : FuncData} (Fn : Fun K "_law_taken" "_law_taken" s_L_taken f fd) (zl : mg "len" = none) : FnOk P w K mg base CX0 1 f fd ["_law_row", "_law_many"] (lift K spTaken) := by
  refine fun_ok Fn sc_L_taken (fun ds M Q ⟨_, _, _, e, _⟩ => by rw [e]; rfl) fun cdv A outer s H E hr ds M Q h B => ?_
  obtain ⟨ns, r, many, rfl, ⟨i, z, hM, z0, z1⟩, hm, k⟩ := h
  (refine sxs_cons ?_)
  have bl : Blt (X_L_taken P w K mg base f cdv A outer s H E) "len" (.builtin "len") := ⟨rfl, zl, PySem.boot_len, by decide, by decide⟩
  ((with_reducible refine sx_asg ?h_2 ?g_2 ?i_2 ?q_2); (case h_2 => rfl); (case g_2 => rfl); (case i_2 => rfl))
  (with_reducible refine ex_bin ?_)
  ((with_reducible refine ex_sub ?h_4 ?q_4); (case h_4 => exact fun _ _ => rfl))
  ((with_reducible refine' ex_var (i := 0) (x := "_law_row") ?h_5 ?g_5 ?q_5); (case h_5 => exact At.of rfl rfl a_L_taken_0); (case g_5 => rfl))
  (with_reducible refine ex_int ?_)
  refine ix_c hM (d := .int i) rfl ?_
  (with_reducible refine ex_int ?_)
  (with_reducible refine ox_add ?_)
  refine gx_sub (fun _ => rfl) ?_
  ((with_reducible refine' ex_var (i := 0) (x := "_law_row") ?h_9 ?g_9 ?q_9); (case h_9 => exact At.of rfl rfl a_L_taken_0); (case g_9 => rfl))
  (with_reducible refine ex_int ?_)
  refine ⟨r, _, 1, 1, rfl, rfl, hM, rfl, ?_⟩
  have h1 : ∀ (j w : Int), But r M (mupd M r (rowO ns j w)) := fun j w a ha => mupd_ne ha
  show SXs _ _ _ _ _ (mupd M r (rowO ns ((i : Int) + 1) z))
  (with_reducible refine sxs_cons ?_)
  with_reducible refine sx_if ?_
  ((with_reducible refine tx_cmp ?h_13 ?q_13); (case h_13 => first | exact nomark _ | rfl))
  ((with_reducible refine ex_sub ?h_14 ?q_14); (case h_14 => exact fun _ _ => rfl))
  ((with_reducible refine' ex_var (i := 0) (x := "_law_row") ?h_15 ?g_15 ?q_15); (case h_15 => exact At.of rfl rfl a_L_taken_0); (case g_15 => rfl))
  (with_reducible refine ex_int ?_)
  refine ix_c mupd_same (d := .int ((i : Int) + 1)) rfl ?_

  ((with_reducible refine' ex_callB ?c_17 ?he_17 ?hp_17 ?q_17); (case c_17 => first | with_reducible assumption | exact Blt.fn (by with_reducible assumption) rfl (by first | with_reducible exact bb_len | with_reducible exact bb_isinstance | with_reducible exact bb_max | with_reducible exact bb_min)); (case he_17 => rfl); (case hp_17 => rfl))
  ((with_reducible refine ax_cons ?h_18 ?q_18); (case h_18 => rfl))
  ((with_reducible refine ex_sub ?h_19 ?q_19); (case h_19 => exact fun _ _ => rfl))
  ((with_reducible refine' ex_var (i := 0) (x := "_law_row") ?h_20 ?g_20 ?q_20); (case h_20 => exact At.of rfl rfl a_L_taken_0); (case g_20 => rfl))
  (with_reducible refine ex_int ?_)
  refine ix_c mupd_same (d := .fzl (ns.map D.int)) rfl ?_
  (with_reducible refine ax_nil ?_)
  (with_reducible refine bx_lenF ?_)
  (with_reducible refine ox_gt ?_)
  (with_reducible refine asB_bl ?_)
  rw [List.length_map]
  refine ite_dec (fun hlt => ?_) (fun hlt => ?_)
  · (with_reducible refine sxs_cons ?_)
    ((with_reducible refine sx_asg ?h_27 ?g_27 ?i_27 ?q_27); (case h_27 => rfl); (case g_27 => rfl); (case i_27 => rfl))
    (with_reducible refine ex_bin ?_)
    (with_reducible refine ex_bin ?_)
    (with_reducible refine ex_bin ?_)
    ((with_reducible refine ex_sub ?h_31 ?q_31); (case h_31 => exact fun _ _ => rfl))
    ((with_reducible refine' ex_var (i := 0) (x := "_law_row") ?h_32 ?g_32 ?q_32); (case h_32 => exact At.of rfl rfl a_L_taken_0); (case g_32 => rfl))
    (with_reducible refine ex_int ?_)
    refine ix_c mupd_same (d := .int z) rfl ?_
    (with_reducible refine ex_int ?_)
    refine ox_mul (Or.inr ⟨by decide, by decide⟩) ?_
    (with_reducible refine ex_int ?_)
    (with_reducible refine ox_add ?_)
    (with_reducible refine ex_int ?_)
    refine ox_mod (by decide) ?_
    refine gx_sub (fun _ => rfl) ?_
    ((with_reducible refine' ex_var (i := 0) (x := "_law_row") ?h_38 ?g_38 ?q_38); (case h_38 => exact At.of rfl rfl a_L_taken_0); (case g_38 => rfl))
    (with_reducible refine ex_int ?_)
    refine ⟨r, _, 2, 2, rfl, rfl, mupd_same, rfl, ?_⟩
    rw [mupd_mupd]
    show SXs _ _ _ _ _ (mupd M r (rowO ns ((i : Int) + 1) ((z * 48271 + 11) % 2147483647)))
    (with_reducible refine sxs_one ?_)
    (with_reducible refine sx_ret ?_)
    (with_reducible refine ex_bin ?_)
    (with_reducible refine ex_bin ?_)
    ((with_reducible refine ex_sub ?h_44 ?q_44); (case h_44 => exact fun _ _ => rfl))
    ((with_reducible refine' ex_var (i := 0) (x := "_law_row") ?h_45 ?g_45 ?q_45); (case h_45 => exact At.of rfl rfl a_L_taken_0); (case g_45 => rfl))
    (with_reducible refine ex_int ?_)
    refine ix_c mupd_same (d := .int ((z * 48271 + 11) % 2147483647)) rfl ?_
    (with_reducible refine ex_int ?_)
    refine ox_fdiv ⟨by decide, by decide⟩ ?_
    ((with_reducible refine' ex_var (i := 1) (x := "_law_many") ?h_48 ?g_48 ?q_48); (case h_48 => exact At.of rfl rfl a_L_taken_1); (case g_48 => rfl))
    refine ox_mod hm ?_
    exact k _ _ (Int.emod_nonneg _ (by omega)) (Int.emod_lt_of_pos _ hm) ⟨i + 1, _, by rw [mupd_same]; rfl, Int.emod_nonneg _ (by decide), Int.emod_lt_of_pos _ (by decide)⟩ (h1 _ _)
  · have hi : i < ns.length := by omega
    (with_reducible refine sxs_nil ?_)
    (with_reducible refine sxs_cons ?_)
    ((with_reducible refine sx_set (i := 2) (x := "_law_cell") ?h_51 ?s_51 ?q_51); (case h_51 => exact Lc.of sc_L_taken.nd rfl rfl (.inl rfl) a_L_taken_2); (case s_51 => rfl))
    ((with_reducible refine ex_sub ?h_52 ?q_52); (case h_52 => exact fun _ _ => rfl))
    ((with_reducible refine ex_sub ?h_53 ?q_53); (case h_53 => exact fun _ _ => rfl))
    ((with_reducible refine' ex_var (i := 0) (x := "_law_row") ?h_54 ?g_54 ?q_54); (case h_54 => exact At.of rfl rfl a_L_taken_0); (case g_54 => rfl))
    (with_reducible refine ex_int ?_)
    refine ix_c mupd_same (d := .fzl (ns.map D.int)) rfl ?_
    (with_reducible refine ex_bin ?_)
    ((with_reducible refine ex_sub ?h_57 ?q_57); (case h_57 => exact fun _ _ => rfl))
    ((with_reducible refine' ex_var (i := 0) (x := "_law_row") ?h_58 ?g_58 ?q_58); (case h_58 => exact At.of rfl rfl a_L_taken_0); (case g_58 => rfl))
    (with_reducible refine ex_int ?_)
    refine ix_c mupd_same (d := .int ((i : Int) + 1)) rfl ?_
    (with_reducible refine ex_int ?_)
    (with_reducible refine ox_sub ?_)
    refine ix_f (d := .int (ns[i])) (atI_of (j := i) (by omega) (by simp)) ?_
    (with_reducible refine sxs_cons ?_)
    ((with_reducible refine sx_asg ?h_63 ?g_63 ?i_63 ?q_63); (case h_63 => rfl); (case g_63 => rfl); (case i_63 => rfl))
    (with_reducible refine ex_bin ?_)
    (with_reducible refine ex_bin ?_)
    (with_reducible refine ex_bin ?_)
    (with_reducible refine ex_bin ?_)
    ((with_reducible refine ex_sub ?h_68 ?q_68); (case h_68 => exact fun _ _ => rfl))
    ((with_reducible refine' ex_var (i := 0) (x := "_law_row") ?h_69 ?g_69 ?q_69); (case h_69 => exact At.of rfl rfl a_L_taken_0); (case g_69 => rfl))
    (with_reducible refine ex_int ?_)
    refine ix_c mupd_same (d := .int z) rfl ?_
    (with_reducible refine ex_int ?_)
    refine ox_mul (Or.inr ⟨by decide, by decide⟩) ?_
    ((with_reducible refine' ex_var (i := 2) (x := "_law_cell") ?h_72 ?g_72 ?q_72); (case h_72 => exact At.of rfl rfl a_L_taken_2); (case g_72 => rfl))
    (with_reducible refine ox_add ?_)
    (with_reducible refine ex_int ?_)
    (with_reducible refine ox_add ?_)
    (with_reducible refine ex_int ?_)
    refine ox_mod (by decide) ?_
    refine gx_sub (fun _ => rfl) ?_
    ((with_reducible refine' ex_var (i := 0) (x := "_law_row") ?h_77 ?g_77 ?q_77); (case h_77 => exact At.of rfl rfl a_L_taken_0); (case g_77 => rfl))
    (with_reducible refine ex_int ?_)
    refine ⟨r, _, 2, 2, rfl, rfl, mupd_same, rfl, ?_⟩
    rw [mupd_mupd]
    show SXs _ _ _ _ _ (mupd M r (rowO ns ((i : Int) + 1) ((z * 48271 + ns[i] + 11) % 2147483647)))
    (with_reducible refine sxs_one ?_)
    (with_reducible refine sx_ret ?_)
    (with_reducible refine ex_bin ?_)
    ((with_reducible refine' ex_var (i := 2) (x := "_law_cell") ?h_82 ?g_82 ?q_82); (case h_82 => exact At.of rfl rfl a_L_taken_2); (case g_82 => rfl))
    ((with_reducible refine' ex_var (i := 1) (x := "_law_many") ?h_83 ?g_83 ?q_83); (case h_83 => exact At.of rfl rfl a_L_taken_1); (case g_83 => rfl))
    refine ox_mod hm ?_
    exact k _ _ (Int.emod_nonneg _ (by omega)) (Int.emod_lt_of_pos _ hm) ⟨i + 1, _, by rw [mupd_same]; rfl, Int.emod_nonneg _ (by decide), Int.emod_lt_of_pos _ (by decide)⟩ (h1 _ _)
end

/-! ### a drawn book -/
/-- all cells but r are there as they were -/
def Kpt (r : Addr) (M M' : Mem) : Prop := ∀ a o, a ≠ r → M a = some o → M' a = some o
theorem But.kpt {r : Addr} {M M' : Mem} (h : But r M M') : Kpt r M M' := fun a o ha e => by rw [h a ha]; exact e
theorem Kpt.refl (r : Addr) (M : Mem) : Kpt r M M := fun _ _ _ h => h
theorem Kpt.trans {r : Addr} {M M1 M2 : Mem} (h : Kpt r M M1) (g : Kpt r M1 M2) : Kpt r M M2 := fun a o ha e => g a o ha (h a o ha e)
theorem Kpt.new {r l : Addr} {M M' : Mem} {o : MO} (h : Kpt r M M') (hl : M l = none) : Kpt r M (mupd M' l o) := fun a u ha e => by
  rw [mupd_ne (mne e hl)]; exact h a u ha e
theorem Ext.kpt {r : Addr} {M M' : Mem} (h : Ext M M') : Kpt r M M' := fun a o _ e => h a o e
theorem Row.ne {ns : List Int} {r l : Addr} {M : Mem} (h : Row ns r M) (hl : M l = none) : l ≠ r := fun e => by
  obtain ⟨i, z, h, _⟩ := h
  rw [e, h] at hl; cases hl
theorem Row.cell' {ns : List Int} {r : Addr} {M : Mem} (h : Row ns r M) : ∃ o, M r = some o := by
  obtain ⟨i, z, h, _⟩ := h
  exact ⟨_, h⟩
theorem Row.upd {ns : List Int} {r l : Addr} {M : Mem} {o : MO} (h : Row ns r M) (hl : l ≠ r) : Row ns r (mupd M l o) := by
  obtain ⟨i, z, h, h2⟩ := h
  exact ⟨i, z, by rw [mupd_ne (Ne.symm hl)]; exact h, h2⟩
theorem Row.del {ns : List Int} {r l : Addr} {M : Mem} (h : Row ns r M) (hl : l ≠ r) : Row ns r (mdel M l) := by
  obtain ⟨i, z, h, h2⟩ := h
  exact ⟨i, z, by unfold mdel; rw [if_neg (Ne.symm hl)]; exact h, h2⟩
theorem Row.ext {ns : List Int} {r : Addr} {M M' : Mem} (h : Row ns r M) (e : Ext M M') : Row ns r M' := by
  obtain ⟨i, z, h, h2⟩ := h
  exact ⟨i, z, e _ _ h, h2⟩
/-- commands of a drawn book -/
def BookTo (b : List Cmd) (far : Int) : Prop := ∀ c ∈ b, c.til ≤ far
def spBook : DSp := fun ds M Q => ∃ (ns : List Int) (r : Addr) (most far : Int), ds = [.ref r, .int most, .int far] ∧ Row ns r M ∧ 1 ≤ most ∧ most ≤ 8 ∧ 6 ≤ far ∧ far ≤ 200 ∧
  ∀ (b : List Cmd) (M' : Mem), BookOk b → (b.length : Int) ≤ most → BookTo b far → Row ns r M' → Kpt r M M' → Q (encB b) M'
section
variable {P : Program} {w : World} {K : PySem.W.Frag} {mg : Str → Option Value} {base : Heap}
theorem ok_L_book {f : Addr} {fd : FuncData} (Fn : Fun K "_law_book" "_law_book" s_L_book f fd) (zr : mg "range" = none) (zt : mg "tuple" = none) (zx : mg "max" = none) (zm : mg "min" = none) (dT : Dfn P w K mg base 1 "_law_taken" spTaken) : FnOk P w K mg base CX0 2 f fd ["_law_row", "_law_most", "_law_far"] (lift K spBook) := by
  refine fun_ok Fn sc_L_book (fun ds M Q ⟨_, _, _, _, e, _⟩ => by rw [e]; rfl) fun cdv A outer s H E hr ds M Q h B => ?_
  obtain ⟨ns, r, most, far, rfl, hR, m1, m8, f6, f200, k⟩ := h
  (refine sxs_cons ?_)
  ((with_reducible refine sx_set (i := 3) (x := "_law_found") ?h_2 ?s_2 ?q_2); (case h_2 => exact Lc.of sc_L_book.nd rfl rfl (.inl rfl) a_L_book_3); (case s_2 => rfl))
  refine ex_lstM (ax_nil ⟨Nat.zero_le _, fun c fc => ?_⟩)
  have hcr : c ≠ r := hR.ne fc
  (with_reducible refine sxs_cons ?_)
  refine sx_for PassesOwn.never rfl (fun _ => rfl) ?_
  refine lx_range1 rfl zr rfl ?_
  (with_reducible refine ex_bin ?_)
  (with_reducible refine ex_int ?_)
  ((with_reducible refine' ex_call ?c_6 ?hr_6 ?hg_6 ?hd_6 ?he_6 ?hp_6 ?q_6); (case c_6 => first | with_reducible assumption | exact Dfn.fn (by with_reducible assumption)); (case hr_6 => first | assumption | exact Room.mono (by assumption) (by decide)); (case hg_6 => rfl); (case hd_6 => rfl); (case he_6 => rfl); (case hp_6 => rfl))
  ((with_reducible refine ax_cons ?h_7 ?q_7); (case h_7 => rfl))
  ((with_reducible refine' ex_var (i := 0) (x := "_law_row") ?h_8 ?g_8 ?q_8); (case h_8 => exact At.of rfl rfl a_L_book_0); (case g_8 => rfl))
  ((with_reducible refine ax_cons ?h_9 ?q_9); (case h_9 => rfl))
  ((with_reducible refine' ex_var (i := 1) (x := "_law_most") ?h_10 ?g_10 ?q_10); (case h_10 => exact At.of rfl rfl a_L_book_1); (case g_10 => rfl))
  (with_reducible refine ax_nil ?_)
  refine ⟨ns, r, _, rfl, hR.upd hcr, by omega, fun k0 M0 z0 z1 hR0 hB0 => ?_⟩
  (with_reducible refine ox_add ?_)
  refine ⟨_, rfl, by omega, by omega, fun i G' M' => ∃ (b : List Cmd) (a4 a5 a6 a7 a8 : Option D), G' = [some (.ref r), some (.int most), some (.int far), some (.ref c), a4, a5, a6, a7, a8] ∧ b.length = i ∧ (∀ j cm, b[j]? = some cm → CmdOk cm j ∧ cm.til ≤ far) ∧ Row ns r M' ∧ M' c = some (.lst (b.map Cmd.enc)) ∧ Kpt r M M',
    ⟨[], _, _, _, _, _, rfl, rfl, by simp, hR0, by rw [hB0 c hcr]; exact mupd_same, (Ext.kpt (Ext.new fc)).trans hB0.kpt⟩, ?_, ?_⟩
  · rintro i d G' M' hd ⟨b, a4, a5, a6, a7, a8, rfl, hbl, hb, hR1, hc, hK⟩
    obtain ⟨hi, rfl⟩ := rangeD_at hd
    ((with_reducible refine gx_name (i := 4) (x := "_law_number") ?h_13 ?q_13); (case h_13 => exact Lc.of sc_L_book.nd rfl rfl (.inl rfl) a_L_book_4))
    (with_reducible refine sxs_cons ?_)
    ((with_reducible refine sx_set (i := 5) (x := "_law_when") ?h_15 ?s_15 ?q_15); (case h_15 => exact Lc.of sc_L_book.nd rfl rfl (.inl rfl) a_L_book_5); (case s_15 => rfl))
    ((with_reducible refine' ex_call ?c_16 ?hr_16 ?hg_16 ?hd_16 ?he_16 ?hp_16 ?q_16); (case c_16 => first | with_reducible assumption | exact Dfn.fn (by with_reducible assumption)); (case hr_16 => first | assumption | exact Room.mono (by assumption) (by decide)); (case hg_16 => rfl); (case hd_16 => rfl); (case he_16 => rfl); (case hp_16 => rfl))
    ((with_reducible refine ax_cons ?h_17 ?q_17); (case h_17 => rfl))
    ((with_reducible refine' ex_var (i := 0) (x := "_law_row") ?h_18 ?g_18 ?q_18); (case h_18 => exact At.of rfl rfl a_L_book_0); (case g_18 => rfl))
    ((with_reducible refine ax_cons ?h_19 ?q_19); (case h_19 => rfl))
    ((with_reducible refine ex_subL ?h_20 ?q_20); (case h_20 => exact fun _ _ => rfl))
    ((with_reducible refine ax_cons ?h_21 ?q_21); (case h_21 => rfl))
    (with_reducible refine ex_bin ?_)
    (with_reducible refine ex_bin ?_)
    ((with_reducible refine' ex_var (i := 2) (x := "_law_far") ?h_24 ?g_24 ?q_24); (case h_24 => exact At.of rfl rfl a_L_book_2); (case g_24 => rfl))
    (with_reducible refine ex_int ?_)
    refine ox_fdiv ⟨by decide, by decide⟩ ?_
    (with_reducible refine ex_int ?_)
    (with_reducible refine ox_add ?_)
    ((with_reducible refine ax_cons ?h_28 ?q_28); (case h_28 => rfl))
    (with_reducible refine ex_int ?_)
    (with_reducible refine ax_nil ?_)
    ((with_reducible show (List.length _ ≤ sizeLine ∧ _)); refine And.intro (Nat.le_of_ble_eq_true rfl) ?_)
    ((with_reducible refine' ex_call ?c_32 ?hr_32 ?hg_32 ?hd_32 ?he_32 ?hp_32 ?q_32); (case c_32 => first | with_reducible assumption | exact Dfn.fn (by with_reducible assumption)); (case hr_32 => first | assumption | exact Room.mono (by assumption) (by decide)); (case hg_32 => rfl); (case hd_32 => rfl); (case he_32 => rfl); (case hp_32 => rfl))
    ((with_reducible refine ax_cons ?h_33 ?q_33); (case h_33 => rfl))
    ((with_reducible refine' ex_var (i := 0) (x := "_law_row") ?h_34 ?g_34 ?q_34); (case h_34 => exact At.of rfl rfl a_L_book_0); (case g_34 => rfl))
    ((with_reducible refine ax_cons ?h_35 ?q_35); (case h_35 => rfl))
    (with_reducible refine ex_int ?_)
    (with_reducible refine ax_nil ?_)
    refine ⟨ns, r, _, rfl, hR1, by decide, fun k2 M2 a0 a1 hR2 hB2 => ?_⟩
    refine ix_li (ns := [far / 2 + 1, 4]) a0 a1 fun top htop => ?_
    have ht : top = far / 2 + 1 ∨ top = 4 := by simpa using htop
    (with_reducible refine ax_nil ?_)
    refine ⟨ns, r, _, rfl, hR2, by omega, fun when M3 b0 b1 hR3 hB3 => ?_⟩
    have hwf : when ≤ far := by omega
    (with_reducible refine sxs_cons ?_)
    ((with_reducible refine sx_set (i := 6) (x := "_law_until") ?h_40 ?s_40 ?q_40); (case h_40 => exact Lc.of sc_L_book.nd rfl rfl (.inl rfl) a_L_book_6); (case s_40 => rfl))
    ((with_reducible refine ex_subL ?h_41 ?q_41); (case h_41 => exact fun _ _ => rfl))
    ((with_reducible refine ax_cons ?h_42 ?q_42); (case h_42 => rfl))
    ((with_reducible refine' ex_var (i := 2) (x := "_law_far") ?h_43 ?g_43 ?q_43); (case h_43 => exact At.of rfl rfl a_L_book_2); (case g_43 => rfl))
    ((with_reducible refine ax_cons ?h_44 ?q_44); (case h_44 => rfl))
    ((with_reducible refine' ex_callB ?c_45 ?he_45 ?hp_45 ?q_45); (case c_45 => first | with_reducible assumption | exact Blt.fn (by with_reducible assumption) rfl (by first | with_reducible exact bb_len | with_reducible exact bb_isinstance | with_reducible exact bb_max | with_reducible exact bb_min)); (case he_45 => rfl); (case hp_45 => rfl))
    ((with_reducible refine ax_cons ?h_46 ?q_46); (case h_46 => rfl))
    ((with_reducible refine' ex_var (i := 2) (x := "_law_far") ?h_47 ?g_47 ?q_47); (case h_47 => exact At.of rfl rfl a_L_book_2); (case g_47 => rfl))
    ((with_reducible refine ax_cons ?h_48 ?q_48); (case h_48 => rfl))
    (with_reducible refine ex_bin ?_)
    ((with_reducible refine' ex_var (i := 5) (x := "_law_when") ?h_50 ?g_50 ?q_50); (case h_50 => exact At.of rfl rfl a_L_book_5); (case g_50 => rfl))
    ((with_reducible refine' ex_call ?c_51 ?hr_51 ?hg_51 ?hd_51 ?he_51 ?hp_51 ?q_51); (case c_51 => first | with_reducible assumption | exact Dfn.fn (by with_reducible assumption)); (case hr_51 => first | assumption | exact Room.mono (by assumption) (by decide)); (case hg_51 => rfl); (case hd_51 => rfl); (case he_51 => rfl); (case hp_51 => rfl))
    ((with_reducible refine ax_cons ?h_52 ?q_52); (case h_52 => rfl))
    ((with_reducible refine' ex_var (i := 0) (x := "_law_row") ?h_53 ?g_53 ?q_53); (case h_53 => exact At.of rfl rfl a_L_book_0); (case g_53 => rfl))
    ((with_reducible refine ax_cons ?h_54 ?q_54); (case h_54 => rfl))
    (with_reducible refine ex_int ?_)
    (with_reducible refine ax_nil ?_)
    refine ⟨ns, r, _, rfl, hR3, by decide, fun k4 M4 c0 c1 hR4 hB4 => ?_⟩
    (with_reducible refine ox_add ?_)
    (with_reducible refine ax_nil ?_)
    refine bx_min2 rfl ?_
    (with_reducible refine ax_nil ?_)
    ((with_reducible show (List.length _ ≤ sizeLine ∧ _)); refine And.intro (Nat.le_of_ble_eq_true rfl) ?_)
    ((with_reducible refine' ex_call ?c_61 ?hr_61 ?hg_61 ?hd_61 ?he_61 ?hp_61 ?q_61); (case c_61 => first | with_reducible assumption | exact Dfn.fn (by with_reducible assumption)); (case hr_61 => first | assumption | exact Room.mono (by assumption) (by decide)); (case hg_61 => rfl); (case hd_61 => rfl); (case he_61 => rfl); (case hp_61 => rfl))
    ((with_reducible refine ax_cons ?h_62 ?q_62); (case h_62 => rfl))
    ((with_reducible refine' ex_var (i := 0) (x := "_law_row") ?h_63 ?g_63 ?q_63); (case h_63 => exact At.of rfl rfl a_L_book_0); (case g_63 => rfl))
    ((with_reducible refine ax_cons ?h_64 ?q_64); (case h_64 => rfl))
    (with_reducible refine ex_int ?_)
    (with_reducible refine ax_nil ?_)
    refine ⟨ns, r, _, rfl, hR4, by decide, fun k5 M5 e0 e1 hR5 hB5 => ?_⟩
    refine ix_li (ns := [far, if when + k4 < far then when + k4 else far]) e0 e1 fun til htil => ?_
    have ht2 : til = far ∨ til = if when + k4 < far then when + k4 else far := by simpa using htil
    have ht3 : til ≤ far := by
      rcases ht2 with e | e
      · omega
      · rw [e]; split <;> omega
    (with_reducible refine sxs_cons ?_)
    ((with_reducible refine sx_set (i := 7) (x := "_law_wants") ?h_68 ?s_68 ?q_68); (case h_68 => exact Lc.of sc_L_book.nd rfl rfl (.inl rfl) a_L_book_7); (case s_68 => rfl))
    ((with_reducible refine' ex_callTy ?c_69 ?he_69 ?hp_69 ?q_69); (case c_69 => first | with_reducible assumption | exact Blt.fn (by with_reducible assumption) rfl (by first | with_reducible exact bb_int | with_reducible exact bb_bool | with_reducible exact bb_str | with_reducible exact bb_tuple | with_reducible exact bb_list | with_reducible exact bb_dict)); (case he_69 => rfl); (case hp_69 => rfl))
    ((with_reducible refine ax_cons ?h_70 ?q_70); (case h_70 => rfl))
    refine' ex_lc (own := [("_law_one", 8)]) (t := .inl 8)  rfl sc_L_book.nd (blkOk_by (N := n_L_book) (sc := defScope s_L_book) (by decide +kernel)) (by decide) (fun _ _ _ _ _ => pg_name (i := 8) sc_L_book.nd rfl (by first | exact Or.inl rfl | exact Or.inr rfl)) (fun _ => rfl) ?_
    refine lx_range1 rfl zr rfl ?_
    ((with_reducible refine' ex_var (i := 4) (x := "_law_number") ?h_72 ?g_72 ?q_72); (case h_72 => exact At.of rfl rfl a_L_book_4); (case g_72 => rfl))
    refine ⟨_, rfl, by omega, by omega, fun L hL => ?_⟩
    have hLr : L ≠ r := hR5.ne hL
    have hc5 : M5 c = some (.lst (b.map Cmd.enc)) := by rw [hB5 c hcr, hB4 c hcr, hB3 c hcr, hB2 c hcr]; exact hc
    have hcL : c ≠ L := mne hc5 hL
    refine ⟨fun j acc M6 => ∃ ws : List Nat, acc = ws.map encN ∧ ws.Pairwise (· < ·) ∧ (∀ n ∈ ws, n < j) ∧ Row ns r M6 ∧ ∀ a, a ≠ r → a ≠ L → M6 a = M5 a, ⟨[], rfl, .nil, by simp, hR5.upd hLr, fun a _ hb => mupd_ne hb⟩, ?_, ?_⟩
    · rintro j d acc M6 hd6 ⟨ws, rfl, hp, hw, hR6, hB6⟩ hM
      obtain ⟨hj, rfl⟩ := rangeD_at hd6
      have hwl := up_len hp hw
      refine fun s1 H1 C1 cl1 fp1 => txs_one ?_
      ((with_reducible refine tx_cmp ?h_73 ?q_73); (case h_73 => first | exact nomark _ | rfl))
      ((with_reducible refine' ex_call ?c_74 ?hr_74 ?hg_74 ?hd_74 ?he_74 ?hp_74 ?q_74); (case c_74 => first | exact Dfn.blk (by with_reducible assumption) | exact Dfn.fnb (by with_reducible assumption)); (case hr_74 => first | assumption | exact Room.mono (by assumption) (by decide)); (case hg_74 => rfl); (case hd_74 => rfl); (case he_74 => rfl); (case hp_74 => rfl))
      ((with_reducible refine ax_cons ?h_75 ?q_75); (case h_75 => rfl))
      ((with_reducible refine' ex_var (i := 0) (x := "_law_row") ?h_76 ?g_76 ?q_76); (case h_76 => exact At.b rfl (by first | exact Or.inl rfl | exact Or.inr (Or.inl rfl) | exact Or.inr (Or.inr rfl))); (case g_76 => rfl))
      ((with_reducible refine ax_cons ?h_77 ?q_77); (case h_77 => rfl))
      (with_reducible refine ex_int ?_)
      (with_reducible refine ax_nil ?_)
      refine ⟨ns, r, _, rfl, hR6, by decide, fun k7 M7 g0 g1 hR7 hB7 => ?_⟩
      (with_reducible refine ex_int ?_)
      (with_reducible refine ox_eqI ?_)
      (with_reducible refine asB_bl ?_)
      refine ite_dec (fun h1 => fun s2 H2 C2 cl2 fp2 => ?_) (fun h1 => ?_)
      · ((with_reducible refine' ex_var (i := 8) (x := "_law_one") ?h_83 ?g_83 ?q_83); (case h_83 => exact At.b rfl (by first | exact Or.inl rfl | exact Or.inr (Or.inl rfl) | exact Or.inr (Or.inr rfl))); (case g_83 => rfl))
        refine ⟨by rw [hB7 L hLr]; exact hM, ?_, ws ++ [j], ?_, ?_, ?_, hR7.upd hLr, fun a ha hb => ?_⟩
        · rw [List.length_map]
          exact Nat.lt_of_le_of_lt (by omega : _ ≤ 8) (by decide)
        · rw [List.map_append, Int.zero_add]; rfl
        · rw [List.pairwise_append]
          exact ⟨hp, by simp, fun a ha b hb => by rw [List.mem_singleton.mp hb]; exact hw a ha⟩
        · intro n hn
          rcases List.mem_append.mp hn with hn | hn
          · have := hw n hn; omega
          · rw [List.mem_singleton.mp hn]; omega
        · rw [mupd_ne hb, hB7 a ha]; exact hB6 a ha hb
      · refine ⟨by rw [hB7 L hLr]; exact hM, ws, rfl, hp, fun n hn => by have := hw n hn; omega, hR7, fun a ha hb => ?_⟩
        rw [hB7 a ha]; exact hB6 a ha hb
    · rintro acc M6 ⟨ws, rfl, hp, hw, hR6, hB6⟩ hM
      rw [rangeD_len] at hw
      have hwi : ∀ n ∈ ws, n < i := fun n hn => by have := hw n hn; omega
      have hc6 : (mdel M6 L) c = some (.lst (b.map Cmd.enc)) := by
        unfold mdel; rw [if_neg hcL, hB6 c hcr hcL]; exact hc5
      (with_reducible refine ax_nil ?_)
      refine bx_tupL ?_
      (with_reducible refine sxs_one ?_)
      ((with_reducible refine sx_expr ?h_86 ?q_86); (case h_86 => rfl))
      refine ex_append rfl rfl rfl rfl rfl ?_
      ((with_reducible refine' ex_var (i := 3) (x := "_law_found") ?h_87 ?g_87 ?q_87); (case h_87 => exact At.of rfl rfl a_L_book_3); (case g_87 => rfl))
      refine ⟨c, _, rfl, hc6, ?_⟩
      ((with_reducible refine ex_tup ?q_88))
      ((with_reducible refine ax_cons ?h_89 ?q_89); (case h_89 => rfl))
      ((with_reducible refine' ex_var (i := 5) (x := "_law_when") ?h_90 ?g_90 ?q_90); (case h_90 => exact At.of rfl rfl a_L_book_5); (case g_90 => rfl))
      ((with_reducible refine ax_cons ?h_91 ?q_91); (case h_91 => rfl))
      ((with_reducible refine' ex_callB ?c_92 ?he_92 ?hp_92 ?q_92); (case c_92 => first | with_reducible assumption | exact Blt.fn (by with_reducible assumption) rfl (by first | with_reducible exact bb_len | with_reducible exact bb_isinstance | with_reducible exact bb_max | with_reducible exact bb_min)); (case he_92 => rfl); (case hp_92 => rfl))
      ((with_reducible refine ax_cons ?h_93 ?q_93); (case h_93 => rfl))
      ((with_reducible refine' ex_var (i := 5) (x := "_law_when") ?h_94 ?g_94 ?q_94); (case h_94 => exact At.of rfl rfl a_L_book_5); (case g_94 => rfl))
      ((with_reducible refine ax_cons ?h_95 ?q_95); (case h_95 => rfl))
      ((with_reducible refine' ex_var (i := 6) (x := "_law_until") ?h_96 ?g_96 ?q_96); (case h_96 => exact At.of rfl rfl a_L_book_6); (case g_96 => rfl))
      (with_reducible refine ax_nil ?_)
      refine bx_max2 rfl ?_
      ((with_reducible refine ax_cons ?h_98 ?q_98); (case h_98 => rfl))
      ((with_reducible refine' ex_var (i := 7) (x := "_law_wants") ?h_99 ?g_99 ?q_99); (case h_99 => exact At.of rfl rfl a_L_book_7); (case g_99 => rfl))
      (with_reducible refine ax_nil ?_)
      ((with_reducible show (List.length _ ≤ sizeLine ∧ _)); refine And.intro (Nat.le_of_ble_eq_true rfl) ?_)
      refine ⟨_, hc6, ?_, ?_⟩
      · rw [List.length_map]
        exact Nat.lt_of_le_of_lt (by omega : _ ≤ 8) (by decide)
      skip
      have hmx : (if til > when then til else when) = max when til := by
        rw [Int.max_def]; split <;> split <;> omega
      refine ⟨b ++ [⟨when, max when til, ws⟩], _, _, _, _, _, rfl, by simp [hbl], ?_, ?_, ?_, ?_⟩
      · intro j cm hj
        by_cases e : j < b.length
        · rw [List.getElem?_append_left e] at hj
          exact hb j cm hj
        · rw [List.getElem?_append_right (by omega)] at hj
          have ej : j - b.length = 0 := by
            have := (List.getElem?_eq_some_iff.mp hj).1
            simp at this; omega
          rw [ej] at hj
          have ec : cm = ⟨when, max when til, ws⟩ := by simpa using hj.symm
          subst ec
          have hj2 : j = i := by omega
          subst hj2
          exact ⟨⟨b0, Int.le_max_left _ _, by show max when til ≤ 200; omega, hwi, hp⟩, by show max when til ≤ far; omega⟩
      · exact (hR6.del hLr).upd hcr
      · rw [mupd_same, List.map_append, hmx]; rfl
      · intro a o ha e
        rw [mupd_ne (mne e fc)]
        have h5 : M5 a = some o := by rw [hB5 a ha, hB4 a ha, hB3 a ha, hB2 a ha]; exact hK a o ha e
        unfold mdel
        rw [if_neg (mne h5 hL), hB6 a ha (mne h5 hL)]
        exact h5
  · rintro G' M' ⟨b, a4, a5, a6, a7, a8, rfl, hbl, hb, hR1, hc, hK⟩
    rw [rangeD_len] at hbl
    (refine sxs_one ?_)
    (with_reducible refine sx_ret ?_)
    ((with_reducible refine' ex_callTy ?c_104 ?he_104 ?hp_104 ?q_104); (case c_104 => first | with_reducible assumption | exact Blt.fn (by with_reducible assumption) rfl (by first | with_reducible exact bb_int | with_reducible exact bb_bool | with_reducible exact bb_str | with_reducible exact bb_tuple | with_reducible exact bb_list | with_reducible exact bb_dict)); (case he_104 => rfl); (case hp_104 => rfl))
    ((with_reducible refine ax_cons ?h_105 ?q_105); (case h_105 => rfl))
    ((with_reducible refine' ex_var (i := 3) (x := "_law_found") ?h_106 ?g_106 ?q_106); (case h_106 => exact At.of rfl rfl a_L_book_3); (case g_106 => rfl))
    (with_reducible refine ax_nil ?_)
    refine bx_tupC hc ?_
    refine k b M' ⟨?_, by omega, fun i c hi => (hb i c hi).1⟩ (by omega) (fun c hc => ?_) hR1 hK
    · intro e
      rw [e] at hbl
      simp at hbl
      omega
    · obtain ⟨i, hi⟩ := List.mem_iff_getElem?.mp hc
      exact (hb i c hi).2
end

/-! ### the law's own windows -/
theorem WinFrom.snoc {a b : Int} : ∀ {l : Int} {ws : List (Int × Int)}, WinFrom l ws → (∀ p ∈ ws, p.2 ≤ a) → l ≤ a → a ≤ 199 → a + 1 ≤ b → b ≤ 200 → WinFrom l (ws ++ [(a, b)])
  | l, [], _, _, h1, h2, h3, h4 => ⟨h1, h2, h3, h4, trivial⟩
  | l, p :: ws, h, hp, h1, h2, h3, h4 => by
    obtain ⟨w1, w2, w3, w4, w5⟩ := h
    exact ⟨w1, w2, w3, w4, w5.snoc (fun q hq => hp q (List.mem_cons_of_mem _ hq)) (hp p (by simp)) h2 h3 h4⟩
def spLWindows : DSp := fun ds M Q => ∃ (ns : List Int) (r : Addr) (far : Int), ds = [.ref r, .int far] ∧ Row ns r M ∧ 0 ≤ far ∧ far ≤ 200 ∧
  ∀ (ws : List (Int × Int)) (M' : Mem), WinFrom 0 ws → ws.length ≤ 200 → (∀ p ∈ ws, p.2 ≤ far) → Row ns r M' → Kpt r M M' → Q (encWn ws) M'
def spSlots : DSp := fun ds M Q => ∃ (ws : List (Int × Int)) (many : Nat), ds = [encWn ws, .int many] ∧ ws.length ≤ 1000 ∧ ∀ M', Ext M M' → Q (.lst ((beatsF ws many).map encN)) M'
section
variable {P : Program} {w : World} {K : PySem.W.Frag} {mg : Str → Option Value} {base : Heap}
theorem ok_L_open {f : Addr} {fd : FuncData} (Fn : Fun K "_law_open" "_law_open" s_L_open f fd) : FnOk P w K mg base CX0 1 f fd ["_law_windows_here", "_law_beat"] (lift K spIsOpen) := by
  refine fun_ok Fn sc_L_open (fun ds M Q ⟨_, _, e, _⟩ => by rw [e]; rfl) fun cdv A outer s H E hr ds M Q h B => ?_
  obtain ⟨ws, t, rfl, hl, k⟩ := h
  unfold encWn
  (refine sxs_one ?_)
  (with_reducible refine sx_ret ?_)
  ((with_reducible refine ex_cmp ?h_3 ?q_3); (case h_3 => first | exact nomark _ | rfl))
  refine' ex_lcp (own := [("_law_one", 2)]) (t := .inl 2) ?f rfl sc_L_open.nd (blkOk_by (N := n_L_open) (sc := defScope s_L_open) (by decide +kernel)) (by decide) (fun _ _ _ _ _ => pg_name (i := 2) sc_L_open.nd rfl (by first | exact Or.inl rfl | exact Or.inr rfl)) (fun _ => rfl) ?_
  case f => exact fOpen t
  refine lx_tup ?_
  ((with_reducible refine' ex_var (i := 0) (x := "_law_windows_here") ?h_5 ?g_5 ?q_5); (case h_5 => exact At.of rfl rfl a_L_open_0); (case g_5 => rfl))
  refine ⟨_, rfl, ⟨Nat.lt_of_le_of_lt (by rw [List.length_map]; exact hl) (by decide), fun d M' hd hm => ?_⟩, ?_⟩
  · obtain ⟨p, hp, rfl⟩ := List.mem_map.mp hd
    unfold encP
    refine fun s1 H1 C1 cl1 fp1 => txs_one ?_
    ((with_reducible refine tx_chain ?h_6 ?q_6); (case h_6 => with_unfolding_all rfl))
    ((with_reducible refine ex_sub ?h_7 ?q_7); (case h_7 => exact fun _ _ => rfl))
    ((with_reducible refine' ex_var (i := 2) (x := "_law_one") ?h_8 ?g_8 ?q_8); (case h_8 => exact At.b rfl (by first | exact Or.inl rfl | exact Or.inr (Or.inl rfl) | exact Or.inr (Or.inr rfl))); (case g_8 => rfl))
    (with_reducible refine ex_int ?_)
    ((with_reducible show (IX _ _ (.tup _) (.int _) _ _ _)); refine ix_t rfl ?_)
    ((with_reducible refine' ex_var (i := 1) (x := "_law_beat") ?h_11 ?g_11 ?q_11); (case h_11 => exact At.b rfl (by first | exact Or.inl rfl | exact Or.inr (Or.inl rfl) | exact Or.inr (Or.inr rfl))); (case g_11 => rfl))
    (with_reducible refine ox_le ?_)
    (with_reducible refine asB_bl ?_)
    refine ite_dec (fun h1 => ?_) (fun h1 => ?_)
    · ((with_reducible refine ex_sub ?h_14 ?q_14); (case h_14 => exact fun _ _ => rfl))
      ((with_reducible refine' ex_var (i := 2) (x := "_law_one") ?h_15 ?g_15 ?q_15); (case h_15 => exact At.b rfl (by first | exact Or.inl rfl | exact Or.inr (Or.inl rfl) | exact Or.inr (Or.inr rfl))); (case g_15 => rfl))
      (with_reducible refine ex_int ?_)
      ((with_reducible show (IX _ _ (.tup _) (.int _) _ _ _)); refine ix_t rfl ?_)
      (with_reducible refine ox_lt ?_)
      (with_reducible refine asB_bl ?_)
      refine ite_dec (fun h2 => fun s2 H2 C2 cl2 fp2 => ?_) (fun h2 => ?_)
      · ((with_reducible refine' ex_var (i := 2) (x := "_law_one") ?h_20 ?g_20 ?q_20); (case h_20 => exact At.b rfl (by first | exact Or.inl rfl | exact Or.inr (Or.inl rfl) | exact Or.inr (Or.inr rfl))); (case g_20 => rfl))
        exact ⟨rfl, if_pos ⟨h1, h2⟩⟩
      · exact ⟨rfl, if_neg (fun z => h2 z.2)⟩
    · exact ⟨rfl, if_neg (fun z => h1 z.1)⟩
  rw [fOpen_all]
  (with_reducible refine ex_cmp0 ?_)
  refine ox_ne0 hr.units encP_ok (by decide) ?_
  rw [open_ne]
  exact k
theorem ok_L_slots {f : Addr} {fd : FuncData} (Fn : Fun K "_law_slots" "_law_slots" s_L_slots f fd) (zr : mg "range" = none) (zl : mg "len" = none) (dO : Dfn P w K mg base 1 "_law_open" spIsOpen) : FnOk P w K mg base CX0 2 f fd ["_law_windows_here", "_law_many"] (lift K spSlots) := by
  refine fun_ok Fn sc_L_slots (fun ds M Q ⟨_, _, e, _⟩ => by rw [e]; rfl) fun cdv A outer s H E hr ds M Q h B => ?_
  obtain ⟨ws, many, rfl, hl, k⟩ := h
  (refine sxs_cons ?_)
  ((with_reducible refine sx_set (i := 2) (x := "_law_found") ?h_23 ?s_23 ?q_23); (case h_23 => exact Lc.of sc_L_slots.nd rfl rfl (.inl rfl) a_L_slots_2); (case s_23 => rfl))
  refine ex_lstM (ax_nil ⟨Nat.zero_le _, fun c fc => ?_⟩)
  (with_reducible refine sxs_cons ?_)
  refine sx_for PassesOwn.never rfl (fun _ => rfl) ?_
  refine lx_range1 rfl zr rfl ?_
  (with_reducible refine ex_int ?_)
  refine ⟨_, rfl, by decide, by decide, fun i G' M' => ∃ (a3 : Option D) (fl : List Nat), G' = [some (encWn ws), some (.int many), some (.ref c), a3] ∧ fl = ((List.range i).filter fun t : Nat => openB ws t).take many ∧ M' = mupd M c (.lst (fl.map encN)), ⟨_, [], rfl, by simp, rfl⟩, ?_, ?_⟩
  · rintro i d G' M' hd ⟨a3, fl, rfl, hfl, rfl⟩
    obtain ⟨hi, rfl⟩ := rangeD_at hd
    have hi2 : i < 200 := hi
    have hlen : fl.length ≤ 200 := by
      rw [hfl, List.length_take]
      have := List.length_filter_le (fun t : Nat => openB ws t) (List.range i)
      rw [List.length_range] at this
      omega
    have hsucc : ((List.range (i + 1)).filter fun t : Nat => openB ws t) = ((List.range i).filter fun t : Nat => openB ws t) ++ if openB ws i = true then [i] else [] := by
      rw [List.range_succ, List.filter_append]
      congr 1
      rw [List.filter_cons, List.filter_nil]
    ((with_reducible refine gx_name (i := 3) (x := "_law_beat") ?h_26 ?q_26); (case h_26 => exact Lc.of sc_L_slots.nd rfl rfl (.inl rfl) a_L_slots_3))
    (with_reducible refine sxs_one ?_)
    with_reducible refine sx_if ?_
    ((with_reducible show TX _ _ (.BoolOp _ _ _) _ _ _); refine TW.tx ?_)
    (with_reducible refine tw_and ?_)
    ((with_reducible show TX _ _ (.Call _ _ _ _) _ _ _); refine tx_val (fun _ => rfl) ?_)
    ((with_reducible refine' ex_call ?c_32 ?hr_32 ?hg_32 ?hd_32 ?he_32 ?hp_32 ?q_32); (case c_32 => first | with_reducible assumption | exact Dfn.fn (by with_reducible assumption)); (case hr_32 => first | assumption | exact Room.mono (by assumption) (by decide)); (case hg_32 => rfl); (case hd_32 => rfl); (case he_32 => rfl); (case hp_32 => rfl))
    ((with_reducible refine ax_cons ?h_33 ?q_33); (case h_33 => rfl))
    ((with_reducible refine' ex_var (i := 0) (x := "_law_windows_here") ?h_34 ?g_34 ?q_34); (case h_34 => exact At.of rfl rfl a_L_slots_0); (case g_34 => rfl))
    ((with_reducible refine ax_cons ?h_35 ?q_35); (case h_35 => rfl))
    ((with_reducible refine' ex_var (i := 3) (x := "_law_beat") ?h_36 ?g_36 ?q_36); (case h_36 => exact At.of rfl rfl a_L_slots_3); (case g_36 => rfl))
    (with_reducible refine ax_nil ?_)
    refine ⟨ws, _, rfl, hl, ?_⟩
    rw [Int.zero_add]
    refine asB_bl (ite_b (fun h1 => ?_) (fun h1 => ?_))
    · rw [if_pos h1] at hsucc
      (with_reducible refine tw_and1 ?_)
      ((with_reducible refine tx_cmp ?h_39 ?q_39); (case h_39 => first | exact nomark _ | rfl))
      ((with_reducible refine' ex_callB ?c_40 ?he_40 ?hp_40 ?q_40); (case c_40 => first | with_reducible assumption | exact Blt.fn (by with_reducible assumption) rfl (by first | with_reducible exact bb_len | with_reducible exact bb_isinstance | with_reducible exact bb_max | with_reducible exact bb_min)); (case he_40 => rfl); (case hp_40 => rfl))
      ((with_reducible refine ax_cons ?h_41 ?q_41); (case h_41 => rfl))
      ((with_reducible refine' ex_var (i := 2) (x := "_law_found") ?h_42 ?g_42 ?q_42); (case h_42 => exact At.of rfl rfl a_L_slots_2); (case g_42 => rfl))
      (with_reducible refine ax_nil ?_)
      refine bx_lenC mupd_same ?_
      ((with_reducible refine' ex_var (i := 1) (x := "_law_many") ?h_44 ?g_44 ?q_44); (case h_44 => exact At.of rfl rfl a_L_slots_1); (case g_44 => rfl))
      (with_reducible refine ox_lt ?_)
      (with_reducible refine asB_bl ?_)
      rw [List.length_map]
      refine ite_dec (fun h2 => ?_) (fun h2 => ?_)
      · (with_reducible refine sxs_one ?_)
        ((with_reducible refine sx_expr ?h_48 ?q_48); (case h_48 => rfl))
        refine ex_append rfl rfl rfl rfl rfl ?_
        ((with_reducible refine' ex_var (i := 2) (x := "_law_found") ?h_49 ?g_49 ?q_49); (case h_49 => exact At.of rfl rfl a_L_slots_2); (case g_49 => rfl))
        refine ⟨c, _, rfl, mupd_same, ?_⟩
        ((with_reducible refine' ex_var (i := 3) (x := "_law_beat") ?h_50 ?g_50 ?q_50); (case h_50 => exact At.of rfl rfl a_L_slots_3); (case g_50 => rfl))
        refine ⟨_, mupd_same, ?_, ?_⟩
        · rw [List.length_map]
          exact Nat.lt_of_le_of_lt hlen (by decide)
        skip
        refine ⟨_, fl ++ [i], rfl, ?_, ?_⟩
        · have hshort : ((List.range i).filter fun t : Nat => openB ws t).length < many := by
            rw [hfl, List.length_take] at h2; omega
          rw [hsucc, hfl, List.take_of_length_le (by omega), List.take_of_length_le (by rw [List.length_append, List.length_singleton]; omega)]
        · rw [mupd_mupd, List.map_append]; rfl
      · (with_reducible refine sxs_nil ?_)
        refine ⟨_, fl, rfl, ?_, rfl⟩
        have hge : many ≤ ((List.range i).filter fun t : Nat => openB ws t).length := by
          rw [hfl, List.length_take] at h2; omega
        rw [hsucc, List.take_append_of_le_length hge, hfl]
    · rw [if_neg (by rw [h1]; simp), List.append_nil] at hsucc
      ((with_reducible show (ite (_ = true) _ _)); first | refine iteT' rfl ?_ | refine iteF' rfl ?_)
      (with_reducible refine sxs_nil ?_)
      exact ⟨_, fl, rfl, by rw [hsucc, hfl], rfl⟩
  · rintro G' M' ⟨a3, fl, rfl, hfl, rfl⟩
    refine sxs_one (sx_ret (ex_freeze ?_))
    ((with_reducible refine' ex_var (i := 2) (x := "_law_found") ?h_54 ?g_54 ?q_54); (case h_54 => exact At.of rfl rfl a_L_slots_2); (case g_54 => rfl))
    refine ⟨c, _, rfl, mupd_same, ?_⟩
    rw [mdel_mupd fc, hfl]
    exact k M (Ext.refl M)
theorem ok_L_windows {f : Addr} {fd : FuncData} (Fn : Fun K "_law_windows" "_law_windows" s_L_windows f fd) (zt : mg "tuple" = none) (dT : Dfn P w K mg base 1 "_law_taken" spTaken) : FnOk P w K mg base CX0 2 f fd ["_law_row", "_law_far"] (lift K spLWindows) := by
  refine fun_ok Fn sc_L_windows (fun ds M Q ⟨_, _, _, e, _⟩ => by rw [e]; rfl) fun cdv A outer s H E hr ds M Q h B => ?_
  obtain ⟨ns, r, far, rfl, hR, f1, f2, k⟩ := h
  (refine sxs_cons ?_)
  refine sx_par (i := 2) (j := 3) rfl sc_L_windows.nd rfl rfl (by decide) rfl rfl rfl rfl rfl rfl ?_
  refine ex_lstM (ax_nil ⟨Nat.zero_le _, fun c fc => ?_⟩)
  have hcr : c ≠ r := hR.ne fc
  refine ex_int ?_
  refine sxs_cons ?_
  refine sx_while PassesOwn.never (fun m G' M' => ∃ (ws : List (Int × Int)) (last : Int) (a4 a5 : Option D), G' = [some (.ref r), some (.int far), some (.ref c), some (.int last), a4, a5] ∧ m = (far - last).toNat ∧ 0 ≤ last ∧ WinFrom 0 ws ∧ (∀ p ∈ ws, p.2 ≤ last ∧ p.2 ≤ far) ∧ (ws.length : Int) ≤ min last far ∧ Row ns r M' ∧ M' c = some (.lst (ws.map encP)) ∧ Kpt r M M')
    (m := far.toNat) ⟨[], 0, _, _, rfl, by omega, by decide, trivial, by simp, by simp; omega, hR.upd hcr, mupd_same, Ext.kpt (Ext.new fc)⟩ ?_
  rintro m G' M' ⟨ws, last, a4, a5, rfl, hm, hl0, hw, hp, hwl, hR1, hc, hK⟩
  ((with_reducible refine tx_cmp ?h_56 ?q_56); (case h_56 => first | exact nomark _ | rfl))
  ((with_reducible refine' ex_var (i := 3) (x := "_law_last") ?h_57 ?g_57 ?q_57); (case h_57 => exact At.of rfl rfl a_L_windows_3); (case g_57 => rfl))
  ((with_reducible refine' ex_var (i := 1) (x := "_law_far") ?h_58 ?g_58 ?q_58); (case h_58 => exact At.of rfl rfl a_L_windows_1); (case g_58 => rfl))
  (with_reducible refine ox_lt ?_)
  (with_reducible refine asB_bl ?_)
  refine ite_dec (fun h1 => ?_) (fun h1 => ?_)
  · (refine sxs_cons ?_)
    ((with_reducible refine sx_set (i := 4) (x := "_law_begin") ?h_62 ?s_62 ?q_62); (case h_62 => exact Lc.of sc_L_windows.nd rfl rfl (.inl rfl) a_L_windows_4); (case s_62 => rfl))
    (with_reducible refine ex_bin ?_)
    ((with_reducible refine' ex_var (i := 3) (x := "_law_last") ?h_64 ?g_64 ?q_64); (case h_64 => exact At.of rfl rfl a_L_windows_3); (case g_64 => rfl))
    ((with_reducible refine' ex_call ?c_65 ?hr_65 ?hg_65 ?hd_65 ?he_65 ?hp_65 ?q_65); (case c_65 => first | with_reducible assumption | exact Dfn.fn (by with_reducible assumption)); (case hr_65 => first | assumption | exact Room.mono (by assumption) (by decide)); (case hg_65 => rfl); (case hd_65 => rfl); (case he_65 => rfl); (case hp_65 => rfl))
    ((with_reducible refine ax_cons ?h_66 ?q_66); (case h_66 => rfl))
    ((with_reducible refine' ex_var (i := 0) (x := "_law_row") ?h_67 ?g_67 ?q_67); (case h_67 => exact At.of rfl rfl a_L_windows_0); (case g_67 => rfl))
    ((with_reducible refine ax_cons ?h_68 ?q_68); (case h_68 => rfl))
    ((with_reducible refine ex_subL ?h_69 ?q_69); (case h_69 => exact fun _ _ => rfl))
    ((with_reducible refine ax_cons ?h_70 ?q_70); (case h_70 => rfl))
    (with_reducible refine ex_int ?_)
    ((with_reducible refine ax_cons ?h_72 ?q_72); (case h_72 => rfl))
    (with_reducible refine ex_int ?_)
    (with_reducible refine ax_nil ?_)
    ((with_reducible show (List.length _ ≤ sizeLine ∧ _)); refine And.intro (Nat.le_of_ble_eq_true rfl) ?_)
    ((with_reducible refine' ex_call ?c_76 ?hr_76 ?hg_76 ?hd_76 ?he_76 ?hp_76 ?q_76); (case c_76 => first | with_reducible assumption | exact Dfn.fn (by with_reducible assumption)); (case hr_76 => first | assumption | exact Room.mono (by assumption) (by decide)); (case hg_76 => rfl); (case hd_76 => rfl); (case he_76 => rfl); (case hp_76 => rfl))
    ((with_reducible refine ax_cons ?h_77 ?q_77); (case h_77 => rfl))
    ((with_reducible refine' ex_var (i := 0) (x := "_law_row") ?h_78 ?g_78 ?q_78); (case h_78 => exact At.of rfl rfl a_L_windows_0); (case g_78 => rfl))
    ((with_reducible refine ax_cons ?h_79 ?q_79); (case h_79 => rfl))
    (with_reducible refine ex_int ?_)
    (with_reducible refine ax_nil ?_)
    refine ⟨ns, r, _, rfl, hR1, by decide, fun k2 M2 x0 x1 hR2 hB2 => ?_⟩
    refine ix_li (ns := [1, 6]) x0 x1 fun t1 ht1 => ?_
    have ht1' : t1 = 1 ∨ t1 = 6 := by simpa using ht1
    (with_reducible refine ax_nil ?_)
    refine ⟨ns, r, _, rfl, hR2, by omega, fun k3 M3 y0 y1 hR3 hB3 => ?_⟩
    (with_reducible refine ox_add ?_)
    (with_reducible refine sxs_cons ?_)
    ((with_reducible refine sx_set (i := 5) (x := "_law_end") ?h_85 ?s_85 ?q_85); (case h_85 => exact Lc.of sc_L_windows.nd rfl rfl (.inl rfl) a_L_windows_5); (case s_85 => rfl))
    (with_reducible refine ex_bin ?_)
    (with_reducible refine ex_bin ?_)
    ((with_reducible refine' ex_var (i := 4) (x := "_law_begin") ?h_88 ?g_88 ?q_88); (case h_88 => exact At.of rfl rfl a_L_windows_4); (case g_88 => rfl))
    (with_reducible refine ex_int ?_)
    (with_reducible refine ox_add ?_)
    ((with_reducible refine' ex_call ?c_91 ?hr_91 ?hg_91 ?hd_91 ?he_91 ?hp_91 ?q_91); (case c_91 => first | with_reducible assumption | exact Dfn.fn (by with_reducible assumption)); (case hr_91 => first | assumption | exact Room.mono (by assumption) (by decide)); (case hg_91 => rfl); (case hd_91 => rfl); (case he_91 => rfl); (case hp_91 => rfl))
    ((with_reducible refine ax_cons ?h_92 ?q_92); (case h_92 => rfl))
    ((with_reducible refine' ex_var (i := 0) (x := "_law_row") ?h_93 ?g_93 ?q_93); (case h_93 => exact At.of rfl rfl a_L_windows_0); (case g_93 => rfl))
    ((with_reducible refine ax_cons ?h_94 ?q_94); (case h_94 => rfl))
    ((with_reducible refine ex_subL ?h_95 ?q_95); (case h_95 => exact fun _ _ => rfl))
    ((with_reducible refine ax_cons ?h_96 ?q_96); (case h_96 => rfl))
    (with_reducible refine ex_int ?_)
    ((with_reducible refine ax_cons ?h_98 ?q_98); (case h_98 => rfl))
    (with_reducible refine ex_int ?_)
    (with_reducible refine ax_nil ?_)
    ((with_reducible show (List.length _ ≤ sizeLine ∧ _)); refine And.intro (Nat.le_of_ble_eq_true rfl) ?_)
    ((with_reducible refine' ex_call ?c_102 ?hr_102 ?hg_102 ?hd_102 ?he_102 ?hp_102 ?q_102); (case c_102 => first | with_reducible assumption | exact Dfn.fn (by with_reducible assumption)); (case hr_102 => first | assumption | exact Room.mono (by assumption) (by decide)); (case hg_102 => rfl); (case hd_102 => rfl); (case he_102 => rfl); (case hp_102 => rfl))
    ((with_reducible refine ax_cons ?h_103 ?q_103); (case h_103 => rfl))
    ((with_reducible refine' ex_var (i := 0) (x := "_law_row") ?h_104 ?g_104 ?q_104); (case h_104 => exact At.of rfl rfl a_L_windows_0); (case g_104 => rfl))
    ((with_reducible refine ax_cons ?h_105 ?q_105); (case h_105 => rfl))
    (with_reducible refine ex_int ?_)
    (with_reducible refine ax_nil ?_)
    refine ⟨ns, r, _, rfl, hR3, by decide, fun k4 M4 z0 z1 hR4 hB4 => ?_⟩
    refine ix_li (ns := [4, 40]) z0 z1 fun t2 ht2 => ?_
    have ht2' : t2 = 4 ∨ t2 = 40 := by simpa using ht2
    (with_reducible refine ax_nil ?_)
    refine ⟨ns, r, _, rfl, hR4, by omega, fun k5 M5 u0 u1 hR5 hB5 => ?_⟩
    have hc5 : M5 c = some (.lst (ws.map encP)) := by rw [hB5 c hcr, hB4 c hcr, hB3 c hcr, hB2 c hcr]; exact hc
    have hK5 : Kpt r M M5 := hK.trans (hB2.kpt.trans (hB3.kpt.trans (hB4.kpt.trans hB5.kpt)))
    (with_reducible refine ox_add ?_)
    (with_reducible refine sxs_cons ?_)
    with_reducible refine sx_if ?_
    ((with_reducible refine tx_cmp ?h_112 ?q_112); (case h_112 => first | exact nomark _ | rfl))
    ((with_reducible refine' ex_var (i := 5) (x := "_law_end") ?h_113 ?g_113 ?q_113); (case h_113 => exact At.of rfl rfl a_L_windows_5); (case g_113 => rfl))
    ((with_reducible refine' ex_var (i := 1) (x := "_law_far") ?h_114 ?g_114 ?q_114); (case h_114 => exact At.of rfl rfl a_L_windows_1); (case g_114 => rfl))
    (with_reducible refine ox_le ?_)
    (with_reducible refine asB_bl ?_)
    refine ite_dec (fun h2 => ?_) (fun h2 => ?_)
    · (with_reducible refine sxs_one ?_)
      ((with_reducible refine sx_expr ?h_118 ?q_118); (case h_118 => rfl))
      refine ex_append rfl rfl rfl rfl rfl ?_
      ((with_reducible refine' ex_var (i := 2) (x := "_law_found") ?h_119 ?g_119 ?q_119); (case h_119 => exact At.of rfl rfl a_L_windows_2); (case g_119 => rfl))
      refine ⟨c, _, rfl, hc5, ?_⟩
      ((with_reducible refine ex_tup ?q_120))
      ((with_reducible refine ax_cons ?h_121 ?q_121); (case h_121 => rfl))
      ((with_reducible refine' ex_var (i := 4) (x := "_law_begin") ?h_122 ?g_122 ?q_122); (case h_122 => exact At.of rfl rfl a_L_windows_4); (case g_122 => rfl))
      ((with_reducible refine ax_cons ?h_123 ?q_123); (case h_123 => rfl))
      ((with_reducible refine' ex_var (i := 5) (x := "_law_end") ?h_124 ?g_124 ?q_124); (case h_124 => exact At.of rfl rfl a_L_windows_5); (case g_124 => rfl))
      (with_reducible refine ax_nil ?_)
      ((with_reducible show (List.length _ ≤ sizeLine ∧ _)); refine And.intro (Nat.le_of_ble_eq_true rfl) ?_)
      refine ⟨_, hc5, ?_, ?_⟩
      · rw [List.length_map]
        exact Nat.lt_of_le_of_lt (by omega : _ ≤ 200) (by decide)
      (with_reducible refine sxs_one ?_)
      ((with_reducible refine sx_set (i := 3) (x := "_law_last") ?h_128 ?s_128 ?q_128); (case h_128 => exact Lc.of sc_L_windows.nd rfl rfl (.inl rfl) a_L_windows_3); (case s_128 => rfl))
      ((with_reducible refine' ex_var (i := 5) (x := "_law_end") ?h_129 ?g_129 ?q_129); (case h_129 => exact At.of rfl rfl a_L_windows_5); (case g_129 => rfl))
      refine ⟨_, ?_, ws ++ [(last + k3, last + k3 + 1 + k5)], _, _, _, rfl, rfl, by omega, hw.snoc (fun p hp' => by have := (hp p hp').1; omega) (by omega) (by omega) (by omega) (by omega), ?_, ?_, hR5.upd hcr, ?_, ?_⟩
      · omega
      · intro p hp'
        rcases List.mem_append.mp hp' with hp' | hp'
        · have := hp p hp'; omega
        · rw [List.mem_singleton.mp hp']
          exact ⟨Int.le_refl _, h2⟩
      · rw [List.length_append, List.length_singleton]; omega
      · rw [mupd_same, List.map_append]; rfl
      · intro a o ha e
        rw [mupd_ne (mne e fc)]
        exact hK5 a o ha e
    · (with_reducible refine sxs_nil ?_)
      (with_reducible refine sxs_one ?_)
      ((with_reducible refine sx_set (i := 3) (x := "_law_last") ?h_132 ?s_132 ?q_132); (case h_132 => exact Lc.of sc_L_windows.nd rfl rfl (.inl rfl) a_L_windows_3); (case s_132 => rfl))
      ((with_reducible refine' ex_var (i := 5) (x := "_law_end") ?h_133 ?g_133 ?q_133); (case h_133 => exact At.of rfl rfl a_L_windows_5); (case g_133 => rfl))
      refine ⟨_, ?_, ws, _, _, _, rfl, rfl, by omega, hw, fun p hp' => ?_, ?_, hR5, hc5, hK5⟩
      · omega
      · have := hp p hp'; omega
      · omega
  · refine sxs_one (sx_ret ?_)
    ((with_reducible refine' ex_callTy ?c_134 ?he_134 ?hp_134 ?q_134); (case c_134 => first | with_reducible assumption | exact Blt.fn (by with_reducible assumption) rfl (by first | with_reducible exact bb_int | with_reducible exact bb_bool | with_reducible exact bb_str | with_reducible exact bb_tuple | with_reducible exact bb_list | with_reducible exact bb_dict)); (case he_134 => rfl); (case hp_134 => rfl))
    ((with_reducible refine ax_cons ?h_135 ?q_135); (case h_135 => rfl))
    ((with_reducible refine' ex_var (i := 2) (x := "_law_found") ?h_136 ?g_136 ?q_136); (case h_136 => exact At.of rfl rfl a_L_windows_2); (case g_136 => rfl))
    (with_reducible refine ax_nil ?_)
    refine bx_tupC hc ?_
    exact k ws M' hw (by omega) (fun p hp' => (hp p hp').2) hR1 hK
end

/-! ### the least order (no program here) -/
def lexN : List Nat → List Nat → Bool
  | [], [] => false
  | [], _ :: _ => true
  | _ :: _, [] => false
  | x :: xs, y :: ys => decide (x < y) || (decide (x = y) && lexN xs ys)
theorem lexN_int : ∀ xs ys : List Nat, lexI (xs.map fun n : Nat => (n : Int)) (ys.map fun n : Nat => (n : Int)) = lexN xs ys
  | [], [] => rfl
  | [], _ :: _ => rfl
  | _ :: _, [] => rfl
  | x :: xs, y :: ys => by
    show (decide ((x : Int) < y) || (decide ((x : Int) = y) && lexI _ _)) = (decide (x < y) || (decide (x = y) && lexN xs ys))
    rw [lexN_int xs ys]
    congr 1
    · exact dec_of (by omega)
    · congr 1
      exact dec_of (by omega)
theorem lexN_irr : ∀ xs : List Nat, lexN xs xs = false
  | [] => rfl
  | x :: xs => by simp [lexN, lexN_irr xs]
theorem lexN_asym : ∀ {xs ys : List Nat}, lexN xs ys = true → lexN ys xs = false
  | [], [], h => by cases h
  | [], _ :: _, _ => rfl
  | _ :: _, [], h => by cases h
  | x :: xs, y :: ys, h => by
    simp only [lexN, Bool.or_eq_true, Bool.and_eq_true, decide_eq_true_eq] at h
    simp only [lexN, Bool.or_eq_false_iff, Bool.and_eq_false_iff, decide_eq_false_iff_not]
    rcases h with h | ⟨h1, h2⟩
    · exact ⟨by omega, .inl (by omega)⟩
    · exact ⟨by omega, .inr (lexN_asym h2)⟩
theorem lexN_tri : ∀ {xs ys : List Nat}, xs ≠ ys → lexN xs ys = true ∨ lexN ys xs = true
  | [], [], h => absurd rfl h
  | [], _ :: _, _ => .inl rfl
  | _ :: _, [], _ => .inr rfl
  | x :: xs, y :: ys, h => by
    simp only [lexN, Bool.or_eq_true, Bool.and_eq_true, decide_eq_true_eq]
    by_cases e : x = y
    · subst e
      rcases lexN_tri (xs := xs) (ys := ys) (fun z => h (by rw [z])) with z | z
      · exact .inl (.inr ⟨rfl, z⟩)
      · exact .inr (.inr ⟨rfl, z⟩)
    · omega
theorem lexN_trans : ∀ {xs ys zs : List Nat}, lexN xs ys = true → lexN ys zs = true → lexN xs zs = true
  | [], [], _, h, _ => by cases h
  | [], _ :: _, [], _, h => by cases h
  | [], _ :: _, _ :: _, _, _ => rfl
  | _ :: _, [], _, h, _ => by cases h
  | _ :: _, _ :: _, [], _, h => by cases h
  | x :: xs, y :: ys, z :: zs, h, g => by
    simp only [lexN, Bool.or_eq_true, Bool.and_eq_true, decide_eq_true_eq] at h g ⊢
    rcases h with h | ⟨h1, h2⟩
    · rcases g with g | ⟨g1, g2⟩
      · exact .inl (by omega)
      · exact .inl (by omega)
    · rcases g with g | ⟨g1, g2⟩
      · exact .inl (by omega)
      · exact .inr ⟨by omega, lexN_trans h2 g2⟩
theorem lexN_app : ∀ {a b x y : List Nat}, a.length = b.length → lexN a b = true → lexN (a ++ x) (b ++ y) = true
  | [], [], _, _, _, h => by cases h
  | [], _ :: _, _, _, e, _ => by cases e
  | _ :: _, [], _, _, e, _ => by cases e
  | p :: a, q :: b, x, y, e, h => by
    simp only [List.cons_append, lexN, Bool.or_eq_true, Bool.and_eq_true, decide_eq_true_eq] at h ⊢
    rcases h with h | ⟨h1, h2⟩
    · exact .inl h
    · exact .inr ⟨h1, lexN_app (by simpa using e) h2⟩
theorem lexN_snoc {n m : Nat} (h : n < m) : ∀ o : List Nat, lexN (o ++ [n]) (o ++ [m]) = true
  | [] => by simp [lexN, h]
  | p :: o => by simp [lexN, lexN_snoc h o]
theorem orders_up {many : Nat} : ∀ {k : Nat}, (ordersK many k).Pairwise (fun a b => lexN a b = true)
  | 0 => by simp [ordersK]
  | k + 1 => by
    rw [ordersK, List.pairwise_flatMap]
    refine ⟨fun o _ => ?_, ?_⟩
    · unfold ordStep
      rw [List.pairwise_map]
      exact (List.pairwise_lt_range.filter _).imp fun {a b} h => lexN_snoc h o
    · have all : ∀ o ∈ ordersK many k, o.length = k := fun o ho => (ord_ok ho).len
      refine (List.Pairwise.imp_of_mem (fun {a b} ha hb h => ?_) (orders_up (many := many) (k := k)))
      intro x hx y hy
      unfold ordStep at hx hy
      obtain ⟨n, _, rfl⟩ := List.mem_map.mp hx
      obtain ⟨m, _, rfl⟩ := List.mem_map.mp hy
      exact lexN_app (by rw [all a ha, all b hb]) h
theorem mem_orders {many : Nat} : ∀ {k : Nat} {l : List Nat}, l ∈ ordersK many k ↔ l.length = k ∧ l.Nodup ∧ ∀ x ∈ l, x < many
  | k, l => by
    constructor
    · intro h
      have := ord_ok h
      exact ⟨this.len, this.nd, this.lt⟩
    · induction k generalizing l with
      | zero =>
        rintro ⟨h, _⟩
        have : l = [] := List.eq_nil_of_length_eq_zero h
        subst this; simp [ordersK]
      | succ k ih =>
        rintro ⟨h1, h2, h3⟩
        obtain ⟨r, x, e⟩ : ∃ r x, l = r ++ [x] := by
          cases hl : l.reverse with
          | nil => rw [List.reverse_eq_nil_iff] at hl; subst hl; cases h1
          | cons x r => exact ⟨r.reverse, x, by rw [← List.reverse_reverse l, hl, List.reverse_cons]⟩
        subst e
        rw [List.nodup_append] at h2
        rw [ordersK, List.mem_flatMap]
        refine ⟨r, ih r ⟨by simpa using h1, h2.1, fun y hy => h3 y (List.mem_append_left _ hy)⟩, ?_⟩
        unfold ordStep
        refine List.mem_map.mpr ⟨x, List.mem_filter.mpr ⟨by simpa using h3 x (by simp), decide_eq_true fun z => h2.2.2 x z x (by simp) rfl⟩, rfl⟩
def permsF : Nat → List Nat → List (List Nat)
  | 0, _ => [[]]
  | k + 1, s => s.flatMap fun x => (permsF k (s.filter fun y => decide (y ≠ x))).map (x :: ·)
theorem filter_ne_len {s : List Nat} {x : Nat} (h : s.Nodup) (hx : x ∈ s) : (s.filter fun y => decide (y ≠ x)).length + 1 = s.length := by
  have e : (s.filter fun y => decide (y ≠ x)) = s.erase x := by
    rw [h.erase_eq_filter]
    refine List.filter_congr fun y _ => ?_
    by_cases e : y = x <;> simp [e]
  rw [e, List.length_erase_of_mem hx]
  have := List.length_pos_of_mem hx
  omega
theorem mem_perms : ∀ {k : Nat} {s l : List Nat}, s.Nodup → s.length = k → (l ∈ permsF k s ↔ l.length = k ∧ l.Nodup ∧ ∀ x ∈ l, x ∈ s)
  | 0, s, l, _, _ => by
    constructor
    · intro h
      have : l = [] := by simpa [permsF] using h
      subst this; simp
    · rintro ⟨h, _⟩
      have : l = [] := List.eq_nil_of_length_eq_zero h
      subst this; simp [permsF]
  | k + 1, s, l, hn, hl => by
    rw [permsF, List.mem_flatMap]
    constructor
    · rintro ⟨x, hx, h⟩
      obtain ⟨r, hr, rfl⟩ := List.mem_map.mp h
      have hfl := filter_ne_len hn hx
      obtain ⟨h1, h2, h3⟩ := (mem_perms (hn.filter _) (by omega)).mp hr
      refine ⟨by simp [h1], List.nodup_cons.mpr ⟨fun z => ?_, h2⟩, fun y hy => ?_⟩
      · have := (List.mem_filter.mp (h3 x z)).2
        simp at this
      · rcases List.mem_cons.mp hy with rfl | hy
        · exact hx
        · exact (List.mem_filter.mp (h3 y hy)).1
    · rintro ⟨h1, h2, h3⟩
      cases l with
      | nil => cases h1
      | cons x r =>
        have hx := h3 x (by simp)
        have hfl := filter_ne_len hn hx
        obtain ⟨n1, n2⟩ := List.nodup_cons.mp h2
        refine ⟨x, hx, List.mem_map.mpr ⟨r, (mem_perms (hn.filter _) (by omega)).mpr ⟨by simpa using h1, n2, fun y hy => List.mem_filter.mpr ⟨h3 y (List.mem_cons_of_mem _ hy), decide_eq_true fun e => n1 (e ▸ hy)⟩⟩, rfl⟩⟩
theorem permsF_len : ∀ {k : Nat} {s : List Nat}, s.length ≤ 6 → (permsF k s).length ≤ 6 ^ k
  | 0, _, _ => by simp [permsF]
  | k + 1, s, h => by
    rw [permsF, Nat.pow_succ, Nat.mul_comm]
    refine Nat.le_trans (flatMap_len' (c := 6 ^ k) fun x _ => ?_) (Nat.mul_le_mul_right _ h)
    rw [List.length_map]
    exact permsF_len (Nat.le_trans (List.length_filter_le _ _) h)
/-- the law's step -/
def lawStep (L : List Nat → Option Int) (best : Option (Int × List Nat)) (o : List Nat) : Option (Int × List Nat) :=
  match L o with
  | none => best
  | some m => if best = none ∨ ∃ z, best = some z ∧ (decide (m < z.1) || (decide (m = z.1) && lexN o z.2)) = true then some (m, o) else best
def ltM (x y : Int × List Nat) : Prop := x.1 < y.1 ∨ x.1 = y.1 ∧ lexN x.2 y.2 = true
theorem ltM_trans {x y z : Int × List Nat} (h : ltM x y) (g : ltM y z) : ltM x z := by
  rcases h with h | ⟨h1, h2⟩
  · rcases g with g | ⟨g1, g2⟩
    · exact .inl (by omega)
    · exact .inl (by omega)
  · rcases g with g | ⟨g1, g2⟩
    · exact .inl (by omega)
    · exact .inr ⟨by omega, lexN_trans h2 g2⟩
theorem ltM_irr {x : Int × List Nat} : ¬ ltM x x := by
  rintro (h | ⟨_, h⟩)
  · omega
  · rw [lexN_irr] at h; cases h
structure MinO (L : List Nat → Option Int) (xs : List (List Nat)) (r : Option (Int × List Nat)) : Prop where
  no : r = none → ∀ o ∈ xs, L o = none
  yes : ∀ z, r = some z → z.2 ∈ xs ∧ L z.2 = some z.1 ∧ ∀ o ∈ xs, ∀ m, L o = some m → ¬ ltM (m, o) z
theorem minO_uniq {L : List Nat → Option Int} {xs ys : List (List Nat)} {r s : Option (Int × List Nat)} (h : MinO L xs r) (g : MinO L ys s) (e : ∀ o, o ∈ xs ↔ o ∈ ys) : r = s := by
  cases r with
  | none =>
    cases s with
    | none => rfl
    | some z =>
      obtain ⟨g1, g2, _⟩ := g.yes z rfl
      rw [h.no rfl _ ((e _).mpr g1)] at g2; cases g2
  | some y =>
    obtain ⟨h1, h2, h3⟩ := h.yes y rfl
    cases s with
    | none => rw [g.no rfl _ ((e _).mp h1)] at h2; cases h2
    | some z =>
      obtain ⟨g1, g2, g3⟩ := g.yes z rfl
      have a := h3 z.2 ((e _).mpr g1) z.1 g2
      have b := g3 y.2 ((e _).mp h1) y.1 h2
      by_cases q : y = z
      · rw [q]
      · exfalso
        have e1 : y.1 = z.1 := by
          rcases Int.lt_trichotomy y.1 z.1 with t | t | t
          · exact absurd (.inl t) b
          · exact t
          · exact absurd (.inl t) a
        have e2 : y.2 ≠ z.2 := fun e2 => q (Prod.ext e1 e2)
        rcases lexN_tri e2 with t | t
        · exact b (.inr ⟨e1, t⟩)
        · exact a (.inr ⟨e1.symm, t⟩)
theorem minO_law {L : List Nat → Option Int} : ∀ {ys xs : List (List Nat)} {r : Option (Int × List Nat)}, MinO L xs r → MinO L (xs ++ ys) (ys.foldl (lawStep L) r)
  | [], xs, r, h => by rw [List.append_nil]; exact h
  | o :: ys, xs, r, h => by
    have step : MinO L (xs ++ [o]) (lawStep L r o) := by
      unfold lawStep
      cases q : L o with
      | none =>
        refine ⟨fun e p hp => ?_, fun z hz => ?_⟩
        · rcases List.mem_append.mp hp with hp | hp
          · exact h.no e p hp
          · rw [List.mem_singleton.mp hp]; exact q
        · obtain ⟨h1, h2, h3⟩ := h.yes z hz
          refine ⟨List.mem_append_left _ h1, h2, fun p hp m hm => ?_⟩
          rcases List.mem_append.mp hp with hp | hp
          · exact h3 p hp m hm
          · rw [List.mem_singleton.mp hp, q] at hm; cases hm
      | some m =>
        show MinO L (xs ++ [o]) (if _ then _ else _)
        by_cases hc : r = none ∨ ∃ z, r = some z ∧ (decide (m < z.1) || (decide (m = z.1) && lexN o z.2)) = true
        · rw [if_pos hc]
          refine ⟨fun e => (by cases e), fun z hz => ?_⟩
          cases hz
          refine ⟨by simp, q, fun p hp m' hm' => ?_⟩
          rcases List.mem_append.mp hp with hp | hp
          · rcases hc with hc | ⟨z, hz, hlt⟩
            · rw [h.no hc p hp] at hm'; cases hm'
            · have h3 := (h.yes z hz).2.2 p hp m' hm'
              have hlt' : ltM (m, o) z := by
                simpa [ltM, Bool.or_eq_true, Bool.and_eq_true] using hlt
              exact fun t => h3 (ltM_trans t hlt')
          · rw [List.mem_singleton.mp hp] at hm' ⊢
            rw [q] at hm'
            cases hm'
            exact ltM_irr
        · rw [if_neg hc]
          refine ⟨fun e => absurd (.inl e) hc, fun z hz => ?_⟩
          obtain ⟨h1, h2, h3⟩ := h.yes z hz
          refine ⟨List.mem_append_left _ h1, h2, fun p hp m' hm' => ?_⟩
          rcases List.mem_append.mp hp with hp | hp
          · exact h3 p hp m' hm'
          · rw [List.mem_singleton.mp hp] at hm' ⊢
            rw [q] at hm'
            cases hm'
            intro t
            refine hc (.inr ⟨z, hz, ?_⟩)
            simpa [ltM, Bool.or_eq_true, Bool.and_eq_true] using t
    have z := minO_law (ys := ys) step
    rw [List.append_assoc] at z
    exact z
theorem minO_best {b : List Cmd} {d : Int} {beats : List Nat} : ∀ {ys xs : List (List Nat)} {r : Option (Int × List Nat)}, (xs ++ ys).Pairwise (fun a b => lexN a b = true) → MinO (lastOf b d beats) xs r → MinO (lastOf b d beats) (xs ++ ys) (ys.foldl (bestStep b d beats) r)
  | [], xs, r, _, h => by rw [List.append_nil]; exact h
  | o :: ys, xs, r, hp, h => by
    have hp1 := hp
    rw [List.pairwise_append] at hp1
    have ho : ∀ p ∈ xs, lexN p o = true := fun p hp' => hp1.2.2 p hp' o (by simp)
    have step : MinO (lastOf b d beats) (xs ++ [o]) (bestStep b d beats r o) := by
      have e : bestStep b d beats r o = lawStep (lastOf b d beats) r o := by
        unfold bestStep lawStep
        cases q : lastOf b d beats o with
        | none => rfl
        | some m =>
          show (if _ then _ else _) = if _ then _ else _
          have : (r = none ∨ ∃ z, r = some z ∧ m < z.1) ↔ (r = none ∨ ∃ z, r = some z ∧ (decide (m < z.1) || (decide (m = z.1) && lexN o z.2)) = true) := by
            constructor
            · rintro (t | ⟨z, hz, t⟩)
              · exact .inl t
              · exact .inr ⟨z, hz, by simp [t]⟩
            · rintro (t | ⟨z, hz, t⟩)
              · exact .inl t
              · refine .inr ⟨z, hz, ?_⟩
                have hzx := ho z.2 (h.yes z hz).1
                rw [lexN_asym hzx, Bool.and_false, Bool.or_false] at t
                exact of_decide_eq_true t
          simp only [this]
      rw [e]
      exact minO_law (ys := [o]) h
    have z := minO_best (ys := ys) (xs := xs ++ [o]) (by rw [List.append_assoc]; exact hp) step
    rw [List.append_assoc] at z
    exact z
theorem best_same {b : List Cmd} {d : Int} {beats : List Nat} : (permsF b.length (List.range b.length)).foldl (lawStep (lastOf b d beats)) none = bestO b d beats := by
  have e0 : MinO (lastOf b d beats) [] none := ⟨fun _ o ho => (by cases ho), fun z hz => (by cases hz)⟩
  have h1 := minO_law (ys := permsF b.length (List.range b.length)) e0
  have h2 := minO_best (ys := ordersF b.length) (xs := []) orders_up e0
  rw [List.nil_append] at h1 h2
  refine minO_uniq h1 h2 fun o => ?_
  rw [mem_perms List.nodup_range (by simp)]
  unfold ordersF
  rw [mem_orders]
  simp
theorem perms_orders {n : Nat} {o : List Nat} : o ∈ permsF n (List.range n) ↔ o ∈ ordersF n := by
  rw [mem_perms List.nodup_range (by simp)]
  unfold ordersF
  rw [mem_orders]
  simp

/-! ### the law's orders -/
def fNot (x : Nat) : D → Option D
  | .int m => if m = (x : Int) then none else some (.int m)
  | _ => none
theorem fNot_all {x : Nat} : ∀ {s : List Nat}, (s.map encN).filterMap (fNot x) = (s.filter fun y => decide (y ≠ x)).map encN
  | [] => rfl
  | y :: s => by
    rw [List.map_cons, List.filterMap_cons, List.filter_cons]
    have e : fNot x (encN y) = if (y : Int) = (x : Int) then none else some (D.int (y : Int)) := rfl
    rw [e]
    by_cases h : y = x
    · subst h
      rw [if_pos rfl]
      have := fNot_all (x := y) (s := s)
      simpa using this
    · rw [if_neg (by omega)]
      simp only [h, ne_eq, not_false_eq_true, decide_true, if_true, List.map_cons]
      rw [fNot_all]; rfl
def fPre (x : Nat) : D → Option D
  | .lst r => some (.lst (encN x :: r))
  | _ => none
theorem fPre_all {x : Nat} : ∀ {s : List (List Nat)}, (s.map encNs).filterMap (fPre x) = (s.map (x :: ·)).map encNs
  | [] => rfl
  | y :: s => by
    rw [List.map_cons, List.filterMap_cons, List.map_cons, List.map_cons, ← fPre_all]; rfl
def spLOrders (n : Nat) : DSp := fun ds M Q => ∃ s : List Nat, ds = [.lst (s.map encN)] ∧ s.Nodup ∧ s.length ≤ n ∧ n ≤ 6 ∧ ∀ M', Ext M M' → Q (encLL (permsF s.length s)) M'
section
variable {P : Program} {w : World} {K : PySem.W.Frag} {mg : Str → Option Value} {base : Heap}
theorem rec_L_orders {f : Addr} {fd : FuncData} (Fn : Fun K "_law_orders" "_law_orders" s_L_orders f fd) (mf : mg "_law_orders" = some (.ref f)) : ∀ n, FnOk P w K mg base CX0 (n + 1) f fd ["_law_some"] (lift K (spLOrders n)) := by
  have bd := Fn.binds (ps := ["_law_some"]) fun _ _ _ _ _ _ us hl => match us, hl with | [_], _ => rfl
  intro n
  have key : ∀ n', (n' = 0 ∨ ∃ m, n' = m + 1 ∧ Dfn P w K mg base (m + 1) "_law_orders" (spLOrders m)) → FnOk P w K mg base CX0 (n' + 1) f fd ["_law_some"] (lift K (spLOrders n')) := by
    intro n' hn'
    refine fun_ok Fn sc_L_orders (fun ds M Q ⟨_, e, _⟩ => by rw [e]; rfl) fun cdv A outer sh H E hr ds M Q h B => ?_
    obtain ⟨s, rfl, hnd, hsz, hn6, k⟩ := h
    (refine sxs_cons ?_)
    with_reducible refine sx_if ?_
    ((with_reducible refine tx_cmp ?h_3 ?q_3); (case h_3 => first | exact nomark _ | rfl))
    ((with_reducible refine' ex_var (i := 0) (x := "_law_some") ?h_4 ?g_4 ?q_4); (case h_4 => exact At.of rfl rfl a_L_orders_0); (case g_4 => rfl))
    (with_reducible refine ex_cmp0 ?_)
    refine ox_eq0 (n := 1) hr.units ?_ (by decide) ?_
    · intro d hd
      obtain ⟨x, _, rfl⟩ := List.mem_map.mp hd
      exact ⟨rfl, Nat.zero_le _⟩
    cases s with
    | nil =>
      (with_reducible refine asB_bl ?_)
      ((with_reducible show (ite (_ = true) _ _)); first | refine iteT' rfl ?_ | refine iteF' rfl ?_)
      (with_reducible refine sxs_one ?_)
      (with_reducible refine sx_ret ?_)
      refine ex_lst (ax_cons rfl (ex_lst (ax_nil ⟨Nat.zero_le _, ax_nil ⟨by decide, ?_⟩⟩)))
      exact k M (Ext.refl M)
    | cons s0 s1 =>
      rcases hn' with e | ⟨m, rfl, dC⟩
      · rw [List.length_cons] at hsz; omega
      obtain ⟨s, hs⟩ : ∃ s, s = s0 :: s1 := ⟨_, rfl⟩
      have hlen : s.length = s1.length + 1 := by rw [hs]; rfl
      rw [← hs] at hnd hsz k ⊢
      have ee : (s.map encN).isEmpty = false := by rw [hs]; rfl
      rw [ee]
      (with_reducible refine asB_bl ?_)
      ((with_reducible show (ite (_ = true) _ _)); first | refine iteT' rfl ?_ | refine iteF' rfl ?_)
      (with_reducible refine sxs_nil ?_)
      (with_reducible refine sxs_cons ?_)
      ((with_reducible refine sx_set (i := 1) (x := "_law_found") ?h_14 ?s_14 ?q_14); (case h_14 => exact Lc.of sc_L_orders.nd rfl rfl (.inl rfl) a_L_orders_1); (case s_14 => rfl))
      refine ex_lstM (ax_nil ⟨Nat.zero_le _, fun c fc => ?_⟩)
      (with_reducible refine sxs_cons ?_)
      refine sx_for PassesOwn.never rfl (fun _ => rfl) ?_
      refine lx_list ?_
      ((with_reducible refine' ex_var (i := 0) (x := "_law_some") ?h_16 ?g_16 ?q_16); (case h_16 => exact At.of rfl rfl a_L_orders_0); (case g_16 => rfl))
      refine ⟨_, rfl, fun j G' M' => ∃ (a2 a3 a4 a5 : Option D), G' = [some (.lst (s.map encN)), some (.ref c), a2, a3, a4, a5] ∧ Ext M M' ∧ M' c = some (.lst (((s.take j).flatMap fun x => (permsF s1.length (s.filter fun y => decide (y ≠ x))).map (x :: ·)).map encNs)),
        ⟨_, _, _, _, rfl, Ext.new fc, mupd_same⟩, ?_, ?_⟩
      · rintro j d G' M' hd ⟨a2, a3, a4, a5, rfl, hE, hc⟩
        rw [List.getElem?_map] at hd
        obtain ⟨x, hx, rfl⟩ := Option.map_eq_some_iff.mp hd
        have hxs := List.mem_of_getElem? hx
        have hfl := filter_ne_len hnd hxs
        have ex : encN x = .int (x : Int) := rfl
        rw [ex]
        ((with_reducible refine gx_name (i := 2) (x := "_law_one") ?h_17 ?q_17); (case h_17 => exact Lc.of sc_L_orders.nd rfl rfl (.inl rfl) a_L_orders_2))
        (refine sxs_cons ?_)
        refine' sx_setLcp (i := 3) (own := [("_law_other", 4)]) (t := .inl 4) ?f rfl sc_L_orders.nd rfl rfl (sw_true rfl rfl rfl (by decide +kernel)) (blkOk_by (N := n_L_orders) (sc := defScope s_L_orders) (by decide +kernel)) (by decide) (fun _ _ _ _ _ => pg_name (i := 4) sc_L_orders.nd rfl (by first | exact Or.inl rfl | exact Or.inr rfl)) (fun _ => rfl) ?_
        case f => exact fNot x
        refine lx_list ?_
        ((with_reducible refine' ex_var (i := 0) (x := "_law_some") ?h_20 ?g_20 ?q_20); (case h_20 => exact At.of rfl rfl a_L_orders_0); (case g_20 => rfl))
        refine ⟨_, rfl, ⟨?_, fun d M3 hd3 hm => ?_⟩, ?_⟩
        · rw [List.length_map]
          exact Nat.lt_of_le_of_lt (by omega : _ ≤ 6) (by decide)
        · obtain ⟨y, hy, rfl⟩ := List.mem_map.mp hd3
          refine fun s1 H1 C1 cl1 fp1 => txs_one ?_
          have ey : encN y = .int (y : Int) := rfl
          rw [ey]
          ((with_reducible refine tx_cmp ?h_21 ?q_21); (case h_21 => first | exact nomark _ | rfl))
          ((with_reducible refine' ex_var (i := 4) (x := "_law_other") ?h_22 ?g_22 ?q_22); (case h_22 => exact At.b rfl (by first | exact Or.inl rfl | exact Or.inr (Or.inl rfl) | exact Or.inr (Or.inr rfl))); (case g_22 => rfl))
          ((with_reducible refine' ex_var (i := 2) (x := "_law_one") ?h_23 ?g_23 ?q_23); (case h_23 => exact At.b rfl (by first | exact Or.inl rfl | exact Or.inr (Or.inl rfl) | exact Or.inr (Or.inr rfl))); (case g_23 => rfl))
          (with_reducible refine ox_neI ?_)
          (with_reducible refine asB_bl ?_)
          refine ite_ndec (fun h1 => fun s2 H2 C2 cl2 fp2 => ?_) (fun h1 => ?_)
          · ((with_reducible refine' ex_var (i := 4) (x := "_law_other") ?h_26 ?g_26 ?q_26); (case h_26 => exact At.b rfl (by first | exact Or.inl rfl | exact Or.inr (Or.inl rfl) | exact Or.inr (Or.inr rfl))); (case g_26 => rfl))
            exact ⟨rfl, if_neg h1⟩
          · exact ⟨rfl, if_pos h1⟩
        rw [fNot_all]
        (with_reducible refine sxs_one ?_)
        ((with_reducible refine sx_expr ?h_28 ?q_28); (case h_28 => rfl))
        refine ex_bmC PySem.F.slot_list_extend PySem.F.type_list_extend rfl rfl rfl rfl rfl ?_
        ((with_reducible refine' ex_var (i := 1) (x := "_law_found") ?h_29 ?g_29 ?q_29); (case h_29 => exact At.of rfl rfl a_L_orders_1); (case g_29 => rfl))
        refine ⟨c, _, rfl, hc, ?_⟩
        refine ax_cons rfl ?_
        refine' ex_lcp (own := [("_law_rest", 5)]) (t := .inl 5) ?f rfl sc_L_orders.nd (blkOk_by (N := n_L_orders) (sc := defScope s_L_orders) (by decide +kernel)) (by decide) (fun _ _ _ _ _ => pg_name (i := 5) sc_L_orders.nd rfl (by first | exact Or.inl rfl | exact Or.inr rfl)) (fun _ => rfl) ?_
        case f => exact fPre x
        refine lx_list ?_
        ((with_reducible refine' ex_call ?c_31 ?hr_31 ?hg_31 ?hd_31 ?he_31 ?hp_31 ?q_31); (case c_31 => first | with_reducible assumption | exact Dfn.fn (by with_reducible assumption)); (case hr_31 => first | assumption | exact Room.mono (by assumption) (by decide)); (case hg_31 => rfl); (case hd_31 => rfl); (case he_31 => rfl); (case hp_31 => rfl))
        ((with_reducible refine ax_cons ?h_32 ?q_32); (case h_32 => rfl))
        ((with_reducible refine' ex_var (i := 3) (x := "_law_others") ?h_33 ?g_33 ?q_33); (case h_33 => exact At.of rfl rfl a_L_orders_3); (case g_33 => rfl))
        (with_reducible refine ax_nil ?_)
        refine ⟨_, rfl, hnd.filter _, by omega, by omega, fun M2 hE2 => ?_⟩
        have efl : (s.filter fun y => decide (y ≠ x)).length = s1.length := by omega
        rw [efl]
        have h6 : ∀ x : Nat, (permsF s1.length (s.filter fun y => decide (y ≠ x))).length ≤ 6 ^ 6 := fun x =>
          Nat.le_trans (permsF_len (Nat.le_trans (List.length_filter_le _ _) (by omega))) (Nat.pow_le_pow_right (by decide) (by omega))
        have h6x := h6 x
        have hpl : ∀ l ∈ permsF s1.length (s.filter fun y => decide (y ≠ x)), l.length = s1.length := fun l hl =>
          ((mem_perms (hnd.filter _) efl).mp hl).1
        refine ⟨_, rfl, ⟨?_, fun d M3 hd3 hm => ?_⟩, ?_⟩
        · rw [List.length_map]
          exact Nat.lt_of_le_of_lt h6x (by decide)
        · obtain ⟨r, hr, rfl⟩ := List.mem_map.mp hd3
          have hrl := hpl r hr
          have er : encNs r = .lst (r.map encN) := rfl
          rw [er]
          refine fun s1 H1 C1 cl1 fp1 => txs_nil (iteT fun s2 H2 C2 cl2 fp2 => ?_)
          (with_reducible refine ex_binL ?_)
          ((with_reducible refine ax_cons ?h_36 ?q_36); (case h_36 => rfl))
          ((with_reducible refine' ex_var (i := 2) (x := "_law_one") ?h_37 ?g_37 ?q_37); (case h_37 => exact At.b rfl (by first | exact Or.inl rfl | exact Or.inr (Or.inl rfl) | exact Or.inr (Or.inr rfl))); (case g_37 => rfl))
          (with_reducible refine ax_nil ?_)
          ((with_reducible show (List.length _ ≤ sizeLine ∧ _)); refine And.intro (Nat.le_of_ble_eq_true rfl) ?_)
          ((with_reducible refine' ex_var (i := 5) (x := "_law_rest") ?h_40 ?g_40 ?q_40); (case h_40 => exact At.b rfl (by first | exact Or.inl rfl | exact Or.inr (Or.inl rfl) | exact Or.inr (Or.inr rfl))); (case g_40 => rfl))
          refine ox_catL IsL.fz IsL.fz ?_ ⟨rfl, rfl⟩
          rw [List.length_map]
          exact Nat.le_trans (by simp; omega : _ ≤ 8) (by decide)
        rw [fPre_all]
        have hcE : M2 c = _ := hE2 c _ hc
        refine ax_nil (mx_extend hcE IsL.fz (fun z => by cases z) ?_ ?_)
        · have h2 : ((s.take j).flatMap fun x => (permsF s1.length (s.filter fun y => decide (y ≠ x))).map (x :: ·)).length ≤ 6 * 6 ^ 6 := by
            refine Nat.le_trans (flatMap_len' (c := 6 ^ 6) fun x _ => by rw [List.length_map]; exact h6 x) (Nat.mul_le_mul_right _ ?_)
            rw [List.length_take]; omega
          rw [List.length_map, List.length_map, List.length_map]
          exact Nat.le_trans (by omega : _ ≤ 7 * 6 ^ 6) (by decide)
        · refine ⟨_, _, _, _, rfl, ?_, ?_⟩
          · intro a o ha
            rw [mupd_ne (mne ha fc)]
            exact hE2 _ _ (hE a o ha)
          · rw [mupd_same, List.take_add_one, hx, List.flatMap_append, List.map_append]
            simp
      · rintro G' M' ⟨a2, a3, a4, a5, rfl, hE, hc⟩
        rw [List.length_map, List.take_length] at hc
        refine sxs_one (sx_ret (ex_freeze ?_))
        ((with_reducible refine' ex_var (i := 1) (x := "_law_found") ?h_41 ?g_41 ?q_41); (case h_41 => exact At.of rfl rfl a_L_orders_1); (case g_41 => rfl))
        refine ⟨c, _, rfl, hc, ?_⟩
        have e : permsF s.length s = s.flatMap fun x => (permsF s1.length (s.filter fun y => decide (y ≠ x))).map (x :: ·) := by rw [hlen]; rfl
        unfold encLL at k
        rw [e] at k
        exact k _ (Ext.del fc hE)
  induction n with
  | zero => exact key 0 (.inl rfl)
  | succ n ih => exact key (n + 1) (.inr ⟨n, rfl, ⟨f, fd, _, ih, mf, Fn.kp, bd⟩⟩)
theorem ok_L_orders {f : Addr} {fd : FuncData} (Fn : Fun K "_law_orders" "_law_orders" s_L_orders f fd) (mf : mg "_law_orders" = some (.ref f)) : FnOk P w K mg base CX0 7 f fd ["_law_some"] (lift K (spLOrders 6)) := by
  exact rec_L_orders Fn mf 6
end

/-! ### the same, place by place -/
def spAlike (n : Nat) : DSp := fun ds M Q => ∃ d, ds = [d, d] ∧ d.okA = true ∧ d.dep ≤ n ∧ Q (.bl true) M
section
variable {P : Program} {w : World} {K : PySem.W.Frag} {mg : Str → Option Value} {base : Heap}
theorem rec_alike {f : Addr} {fd : FuncData} (Fn : Fun K "_law_alike" "_law_alike" s_L_alike f fd) (mf : mg "_law_alike" = some (.ref f)) (zi : mg "isinstance" = none) (zt : mg "tuple" = none) (zL : mg "list" = none) (zl : mg "len" = none) (zr : mg "range" = none) (zb : mg "bool" = none) (zs : mg "str" = none) (zn : mg "int" = none) :
    ∀ n, FnOk P w K mg base CX0 (n + 1) f fd ["_law_found", "_law_due"] (lift K (spAlike n)) := by
  intro n
  induction n with
  | zero =>
    refine fun_ok Fn sc_L_alike (fun ds M Q ⟨_, e, _⟩ => by rw [e]; rfl) fun cdv A outer s H E hr ds M Q h B => ?_
    obtain ⟨d, rfl, ha, hd, k⟩ := h
    (refine sxs_cons ?_)
    cases d with
    | non => wtm_at "g L_alike"; exact k
    | bl b =>
      with_reducible refine sx_if ?_
      ((with_reducible show TX _ _ (.BoolOp _ _ _) _ _ _); refine TW.tx ?_)
      (with_reducible refine tw_or ?_)
      ((with_reducible show TX _ _ (.Call _ _ _ _) _ _ _); refine tx_val (fun _ => rfl) ?_)
      ((with_reducible refine' ex_callB ?c_6 ?he_6 ?hp_6 ?q_6); (case c_6 => first | with_reducible assumption | exact Blt.fn (by with_reducible assumption) rfl (by first | with_reducible exact bb_len | with_reducible exact bb_isinstance | with_reducible exact bb_max | with_reducible exact bb_min)); (case he_6 => rfl); (case hp_6 => rfl))
      ((with_reducible refine ax_cons ?h_7 ?q_7); (case h_7 => rfl))
      ((with_reducible refine' ex_var (i := 1) (x := "_law_due") ?h_8 ?g_8 ?q_8); (case h_8 => exact At.of rfl rfl a_L_alike_1); (case g_8 => rfl))
      ((with_reducible refine ax_cons ?h_9 ?q_9); (case h_9 => rfl))
      ((with_reducible refine' ex_ty ?c_10 ?q_10); (case c_10 => first | with_reducible assumption | exact Blt.fn (by with_reducible assumption) rfl (by first | with_reducible exact bb_int | with_reducible exact bb_bool | with_reducible exact bb_str | with_reducible exact bb_tuple | with_reducible exact bb_list | with_reducible exact bb_dict)))
      (with_reducible refine ax_nil ?_)
      ((with_reducible refine bx_isiTu ?h_12 ?q_12); (case h_12 => first | rfl | assumption))
      (with_reducible refine asB_bl ?_)
      ((with_reducible show (ite (_ = true) _ _)); first | refine iteT' rfl ?_ | refine iteF' rfl ?_)
      (with_reducible refine tw_or1 ?_)
      ((with_reducible show TX _ _ (.Call _ _ _ _) _ _ _); refine tx_val (fun _ => rfl) ?_)
      ((with_reducible refine' ex_callB ?c_17 ?he_17 ?hp_17 ?q_17); (case c_17 => first | with_reducible assumption | exact Blt.fn (by with_reducible assumption) rfl (by first | with_reducible exact bb_len | with_reducible exact bb_isinstance | with_reducible exact bb_max | with_reducible exact bb_min)); (case he_17 => rfl); (case hp_17 => rfl))
      ((with_reducible refine ax_cons ?h_18 ?q_18); (case h_18 => rfl))
      ((with_reducible refine' ex_var (i := 1) (x := "_law_due") ?h_19 ?g_19 ?q_19); (case h_19 => exact At.of rfl rfl a_L_alike_1); (case g_19 => rfl))
      ((with_reducible refine ax_cons ?h_20 ?q_20); (case h_20 => rfl))
      ((with_reducible refine' ex_ty ?c_21 ?q_21); (case c_21 => first | with_reducible assumption | exact Blt.fn (by with_reducible assumption) rfl (by first | with_reducible exact bb_int | with_reducible exact bb_bool | with_reducible exact bb_str | with_reducible exact bb_tuple | with_reducible exact bb_list | with_reducible exact bb_dict)))
      (with_reducible refine ax_nil ?_)
      ((with_reducible refine bx_isiLi ?h_23 ?q_23); (case h_23 => first | rfl | assumption))
      (with_reducible refine asB_bl ?_)
      ((with_reducible show (ite (_ = true) _ _)); first | refine iteT' rfl ?_ | refine iteF' rfl ?_)
      (with_reducible refine sxs_nil ?_)
      (with_reducible refine sxs_cons ?_)
      with_reducible refine sx_if ?_
      ((with_reducible show TX _ _ (.BoolOp _ _ _) _ _ _); refine TW.tx ?_)
      (with_reducible refine tw_or ?_)
      ((with_reducible refine tx_cmp ?h_31 ?q_31); (case h_31 => first | exact nomark _ | rfl))
      ((with_reducible refine' ex_var (i := 1) (x := "_law_due") ?h_32 ?g_32 ?q_32); (case h_32 => exact At.of rfl rfl a_L_alike_1); (case g_32 => rfl))
      (with_reducible refine ex_non ?_)
      (with_reducible refine ox_is ?_)
      (with_reducible refine asB_bl ?_)
      ((with_reducible show (ite (_ = true) _ _)); first | refine iteT' rfl ?_ | refine iteF' rfl ?_)
      (with_reducible refine tw_or1 ?_)
      ((with_reducible refine tx_cmp ?h_38 ?q_38); (case h_38 => first | exact nomark _ | rfl))
      ((with_reducible refine' ex_var (i := 0) (x := "_law_found") ?h_39 ?g_39 ?q_39); (case h_39 => exact At.of rfl rfl a_L_alike_0); (case g_39 => rfl))
      (with_reducible refine ex_non ?_)
      (with_reducible refine ox_is ?_)
      (with_reducible refine asB_bl ?_)
      ((with_reducible show (ite (_ = true) _ _)); first | refine iteT' rfl ?_ | refine iteF' rfl ?_)
      (with_reducible refine sxs_nil ?_)
      (with_reducible refine sxs_cons ?_)
      with_reducible refine sx_if ?_
      ((with_reducible show TX _ _ (.BoolOp _ _ _) _ _ _); refine TW.tx ?_)
      (with_reducible refine tw_or ?_)
      ((with_reducible show TX _ _ (.Call _ _ _ _) _ _ _); refine tx_val (fun _ => rfl) ?_)
      ((with_reducible refine' ex_callB ?c_50 ?he_50 ?hp_50 ?q_50); (case c_50 => first | with_reducible assumption | exact Blt.fn (by with_reducible assumption) rfl (by first | with_reducible exact bb_len | with_reducible exact bb_isinstance | with_reducible exact bb_max | with_reducible exact bb_min)); (case he_50 => rfl); (case hp_50 => rfl))
      ((with_reducible refine ax_cons ?h_51 ?q_51); (case h_51 => rfl))
      ((with_reducible refine' ex_var (i := 1) (x := "_law_due") ?h_52 ?g_52 ?q_52); (case h_52 => exact At.of rfl rfl a_L_alike_1); (case g_52 => rfl))
      ((with_reducible refine ax_cons ?h_53 ?q_53); (case h_53 => rfl))
      ((with_reducible refine' ex_ty ?c_54 ?q_54); (case c_54 => first | with_reducible assumption | exact Blt.fn (by with_reducible assumption) rfl (by first | with_reducible exact bb_int | with_reducible exact bb_bool | with_reducible exact bb_str | with_reducible exact bb_tuple | with_reducible exact bb_list | with_reducible exact bb_dict)))
      (with_reducible refine ax_nil ?_)
      ((with_reducible refine bx_isiB ?h_56 ?q_56); (case h_56 => first | rfl | assumption))
      (with_reducible refine asB_bl ?_)
      ((with_reducible show (ite (_ = true) _ _)); first | refine iteT' rfl ?_ | refine iteF' rfl ?_)
      ((with_reducible show (ite (_ = true) _ _)); first | refine iteT' rfl ?_ | refine iteF' rfl ?_)
      (with_reducible refine sxs_one ?_)
      (with_reducible refine sx_ret ?_)
      (with_reducible refine ex_and ?_)
      ((with_reducible refine' ex_callB ?c_63 ?he_63 ?hp_63 ?q_63); (case c_63 => first | with_reducible assumption | exact Blt.fn (by with_reducible assumption) rfl (by first | with_reducible exact bb_len | with_reducible exact bb_isinstance | with_reducible exact bb_max | with_reducible exact bb_min)); (case he_63 => rfl); (case hp_63 => rfl))
      ((with_reducible refine ax_cons ?h_64 ?q_64); (case h_64 => rfl))
      ((with_reducible refine' ex_var (i := 1) (x := "_law_due") ?h_65 ?g_65 ?q_65); (case h_65 => exact At.of rfl rfl a_L_alike_1); (case g_65 => rfl))
      ((with_reducible refine ax_cons ?h_66 ?q_66); (case h_66 => rfl))
      ((with_reducible refine' ex_ty ?c_67 ?q_67); (case c_67 => first | with_reducible assumption | exact Blt.fn (by with_reducible assumption) rfl (by first | with_reducible exact bb_int | with_reducible exact bb_bool | with_reducible exact bb_str | with_reducible exact bb_tuple | with_reducible exact bb_list | with_reducible exact bb_dict)))
      (with_reducible refine ax_nil ?_)
      ((with_reducible refine bx_isiB ?h_69 ?q_69); (case h_69 => first | rfl | assumption))
      (with_reducible refine asB_bl ?_)
      ((with_reducible show (ite (_ = true) _ _)); first | refine iteT' rfl ?_ | refine iteF' rfl ?_)
      (with_reducible refine ex_and ?_)
      ((with_reducible refine' ex_callB ?c_73 ?he_73 ?hp_73 ?q_73); (case c_73 => first | with_reducible assumption | exact Blt.fn (by with_reducible assumption) rfl (by first | with_reducible exact bb_len | with_reducible exact bb_isinstance | with_reducible exact bb_max | with_reducible exact bb_min)); (case he_73 => rfl); (case hp_73 => rfl))
      ((with_reducible refine ax_cons ?h_74 ?q_74); (case h_74 => rfl))
      ((with_reducible refine' ex_var (i := 0) (x := "_law_found") ?h_75 ?g_75 ?q_75); (case h_75 => exact At.of rfl rfl a_L_alike_0); (case g_75 => rfl))
      ((with_reducible refine ax_cons ?h_76 ?q_76); (case h_76 => rfl))
      ((with_reducible refine' ex_ty ?c_77 ?q_77); (case c_77 => first | with_reducible assumption | exact Blt.fn (by with_reducible assumption) rfl (by first | with_reducible exact bb_int | with_reducible exact bb_bool | with_reducible exact bb_str | with_reducible exact bb_tuple | with_reducible exact bb_list | with_reducible exact bb_dict)))
      (with_reducible refine ax_nil ?_)
      ((with_reducible refine bx_isiB ?h_79 ?q_79); (case h_79 => first | rfl | assumption))
      (with_reducible refine asB_bl ?_)
      ((with_reducible show (ite (_ = true) _ _)); first | refine iteT' rfl ?_ | refine iteF' rfl ?_)
      (with_reducible refine ex_one ?_)
      ((with_reducible refine ex_cmp ?h_83 ?q_83); (case h_83 => first | exact nomark _ | rfl))
      ((with_reducible refine' ex_var (i := 0) (x := "_law_found") ?h_84 ?g_84 ?q_84); (case h_84 => exact At.of rfl rfl a_L_alike_0); (case g_84 => rfl))
      ((with_reducible refine' ex_var (i := 1) (x := "_law_due") ?h_85 ?g_85 ?q_85); (case h_85 => exact At.of rfl rfl a_L_alike_1); (case g_85 => rfl))
      (with_reducible refine ox_eqB ?_)
      rw [decide_eq_true rfl]; exact k
    | int i =>
      with_reducible refine sx_if ?_
      ((with_reducible show TX _ _ (.BoolOp _ _ _) _ _ _); refine TW.tx ?_)
      (with_reducible refine tw_or ?_)
      ((with_reducible show TX _ _ (.Call _ _ _ _) _ _ _); refine tx_val (fun _ => rfl) ?_)
      ((with_reducible refine' ex_callB ?c_91 ?he_91 ?hp_91 ?q_91); (case c_91 => first | with_reducible assumption | exact Blt.fn (by with_reducible assumption) rfl (by first | with_reducible exact bb_len | with_reducible exact bb_isinstance | with_reducible exact bb_max | with_reducible exact bb_min)); (case he_91 => rfl); (case hp_91 => rfl))
      ((with_reducible refine ax_cons ?h_92 ?q_92); (case h_92 => rfl))
      ((with_reducible refine' ex_var (i := 1) (x := "_law_due") ?h_93 ?g_93 ?q_93); (case h_93 => exact At.of rfl rfl a_L_alike_1); (case g_93 => rfl))
      ((with_reducible refine ax_cons ?h_94 ?q_94); (case h_94 => rfl))
      ((with_reducible refine' ex_ty ?c_95 ?q_95); (case c_95 => first | with_reducible assumption | exact Blt.fn (by with_reducible assumption) rfl (by first | with_reducible exact bb_int | with_reducible exact bb_bool | with_reducible exact bb_str | with_reducible exact bb_tuple | with_reducible exact bb_list | with_reducible exact bb_dict)))
      (with_reducible refine ax_nil ?_)
      ((with_reducible refine bx_isiTu ?h_97 ?q_97); (case h_97 => first | rfl | assumption))
      (with_reducible refine asB_bl ?_)
      ((with_reducible show (ite (_ = true) _ _)); first | refine iteT' rfl ?_ | refine iteF' rfl ?_)
      (with_reducible refine tw_or1 ?_)
      ((with_reducible show TX _ _ (.Call _ _ _ _) _ _ _); refine tx_val (fun _ => rfl) ?_)
      ((with_reducible refine' ex_callB ?c_102 ?he_102 ?hp_102 ?q_102); (case c_102 => first | with_reducible assumption | exact Blt.fn (by with_reducible assumption) rfl (by first | with_reducible exact bb_len | with_reducible exact bb_isinstance | with_reducible exact bb_max | with_reducible exact bb_min)); (case he_102 => rfl); (case hp_102 => rfl))
      ((with_reducible refine ax_cons ?h_103 ?q_103); (case h_103 => rfl))
      ((with_reducible refine' ex_var (i := 1) (x := "_law_due") ?h_104 ?g_104 ?q_104); (case h_104 => exact At.of rfl rfl a_L_alike_1); (case g_104 => rfl))
      ((with_reducible refine ax_cons ?h_105 ?q_105); (case h_105 => rfl))
      ((with_reducible refine' ex_ty ?c_106 ?q_106); (case c_106 => first | with_reducible assumption | exact Blt.fn (by with_reducible assumption) rfl (by first | with_reducible exact bb_int | with_reducible exact bb_bool | with_reducible exact bb_str | with_reducible exact bb_tuple | with_reducible exact bb_list | with_reducible exact bb_dict)))
      (with_reducible refine ax_nil ?_)
      ((with_reducible refine bx_isiLi ?h_108 ?q_108); (case h_108 => first | rfl | assumption))
      (with_reducible refine asB_bl ?_)
      ((with_reducible show (ite (_ = true) _ _)); first | refine iteT' rfl ?_ | refine iteF' rfl ?_)
      (with_reducible refine sxs_nil ?_)
      (with_reducible refine sxs_cons ?_)
      with_reducible refine sx_if ?_
      ((with_reducible show TX _ _ (.BoolOp _ _ _) _ _ _); refine TW.tx ?_)
      (with_reducible refine tw_or ?_)
      ((with_reducible refine tx_cmp ?h_116 ?q_116); (case h_116 => first | exact nomark _ | rfl))
      ((with_reducible refine' ex_var (i := 1) (x := "_law_due") ?h_117 ?g_117 ?q_117); (case h_117 => exact At.of rfl rfl a_L_alike_1); (case g_117 => rfl))
      (with_reducible refine ex_non ?_)
      (with_reducible refine ox_is ?_)
      (with_reducible refine asB_bl ?_)
      ((with_reducible show (ite (_ = true) _ _)); first | refine iteT' rfl ?_ | refine iteF' rfl ?_)
      (with_reducible refine tw_or1 ?_)
      ((with_reducible refine tx_cmp ?h_123 ?q_123); (case h_123 => first | exact nomark _ | rfl))
      ((with_reducible refine' ex_var (i := 0) (x := "_law_found") ?h_124 ?g_124 ?q_124); (case h_124 => exact At.of rfl rfl a_L_alike_0); (case g_124 => rfl))
      (with_reducible refine ex_non ?_)
      (with_reducible refine ox_is ?_)
      (with_reducible refine asB_bl ?_)
      ((with_reducible show (ite (_ = true) _ _)); first | refine iteT' rfl ?_ | refine iteF' rfl ?_)
      (with_reducible refine sxs_nil ?_)
      (with_reducible refine sxs_cons ?_)
      with_reducible refine sx_if ?_
      ((with_reducible show TX _ _ (.BoolOp _ _ _) _ _ _); refine TW.tx ?_)
      (with_reducible refine tw_or ?_)
      ((with_reducible show TX _ _ (.Call _ _ _ _) _ _ _); refine tx_val (fun _ => rfl) ?_)
      ((with_reducible refine' ex_callB ?c_135 ?he_135 ?hp_135 ?q_135); (case c_135 => first | with_reducible assumption | exact Blt.fn (by with_reducible assumption) rfl (by first | with_reducible exact bb_len | with_reducible exact bb_isinstance | with_reducible exact bb_max | with_reducible exact bb_min)); (case he_135 => rfl); (case hp_135 => rfl))
      ((with_reducible refine ax_cons ?h_136 ?q_136); (case h_136 => rfl))
      ((with_reducible refine' ex_var (i := 1) (x := "_law_due") ?h_137 ?g_137 ?q_137); (case h_137 => exact At.of rfl rfl a_L_alike_1); (case g_137 => rfl))
      ((with_reducible refine ax_cons ?h_138 ?q_138); (case h_138 => rfl))
      ((with_reducible refine' ex_ty ?c_139 ?q_139); (case c_139 => first | with_reducible assumption | exact Blt.fn (by with_reducible assumption) rfl (by first | with_reducible exact bb_int | with_reducible exact bb_bool | with_reducible exact bb_str | with_reducible exact bb_tuple | with_reducible exact bb_list | with_reducible exact bb_dict)))
      (with_reducible refine ax_nil ?_)
      ((with_reducible refine bx_isiB ?h_141 ?q_141); (case h_141 => first | rfl | assumption))
      (with_reducible refine asB_bl ?_)
      ((with_reducible show (ite (_ = true) _ _)); first | refine iteT' rfl ?_ | refine iteF' rfl ?_)
      (with_reducible refine tw_or1 ?_)
      ((with_reducible show TX _ _ (.Call _ _ _ _) _ _ _); refine tx_val (fun _ => rfl) ?_)
      ((with_reducible refine' ex_callB ?c_146 ?he_146 ?hp_146 ?q_146); (case c_146 => first | with_reducible assumption | exact Blt.fn (by with_reducible assumption) rfl (by first | with_reducible exact bb_len | with_reducible exact bb_isinstance | with_reducible exact bb_max | with_reducible exact bb_min)); (case he_146 => rfl); (case hp_146 => rfl))
      ((with_reducible refine ax_cons ?h_147 ?q_147); (case h_147 => rfl))
      ((with_reducible refine' ex_var (i := 0) (x := "_law_found") ?h_148 ?g_148 ?q_148); (case h_148 => exact At.of rfl rfl a_L_alike_0); (case g_148 => rfl))
      ((with_reducible refine ax_cons ?h_149 ?q_149); (case h_149 => rfl))
      ((with_reducible refine' ex_ty ?c_150 ?q_150); (case c_150 => first | with_reducible assumption | exact Blt.fn (by with_reducible assumption) rfl (by first | with_reducible exact bb_int | with_reducible exact bb_bool | with_reducible exact bb_str | with_reducible exact bb_tuple | with_reducible exact bb_list | with_reducible exact bb_dict)))
      (with_reducible refine ax_nil ?_)
      ((with_reducible refine bx_isiB ?h_152 ?q_152); (case h_152 => first | rfl | assumption))
      (with_reducible refine asB_bl ?_)
      ((with_reducible show (ite (_ = true) _ _)); first | refine iteT' rfl ?_ | refine iteF' rfl ?_)
      (with_reducible refine sxs_nil ?_)
      (with_reducible refine sxs_cons ?_)
      with_reducible refine sx_if ?_
      ((with_reducible show TX _ _ (.Call _ _ _ _) _ _ _); refine tx_val (fun _ => rfl) ?_)
      ((with_reducible refine' ex_callB ?c_159 ?he_159 ?hp_159 ?q_159); (case c_159 => first | with_reducible assumption | exact Blt.fn (by with_reducible assumption) rfl (by first | with_reducible exact bb_len | with_reducible exact bb_isinstance | with_reducible exact bb_max | with_reducible exact bb_min)); (case he_159 => rfl); (case hp_159 => rfl))
      ((with_reducible refine ax_cons ?h_160 ?q_160); (case h_160 => rfl))
      ((with_reducible refine' ex_var (i := 1) (x := "_law_due") ?h_161 ?g_161 ?q_161); (case h_161 => exact At.of rfl rfl a_L_alike_1); (case g_161 => rfl))
      ((with_reducible refine ax_cons ?h_162 ?q_162); (case h_162 => rfl))
      ((with_reducible refine' ex_ty ?c_163 ?q_163); (case c_163 => first | with_reducible assumption | exact Blt.fn (by with_reducible assumption) rfl (by first | with_reducible exact bb_int | with_reducible exact bb_bool | with_reducible exact bb_str | with_reducible exact bb_tuple | with_reducible exact bb_list | with_reducible exact bb_dict)))
      (with_reducible refine ax_nil ?_)
      ((with_reducible refine bx_isiSt ?h_165 ?q_165); (case h_165 => first | rfl | assumption))
      (with_reducible refine asB_bl ?_)
      ((with_reducible show (ite (_ = true) _ _)); first | refine iteT' rfl ?_ | refine iteF' rfl ?_)
      (with_reducible refine sxs_nil ?_)
      (with_reducible refine sxs_one ?_)
      (with_reducible refine sx_ret ?_)
      (with_reducible refine ex_and ?_)
      ((with_reducible refine' ex_callB ?c_172 ?he_172 ?hp_172 ?q_172); (case c_172 => first | with_reducible assumption | exact Blt.fn (by with_reducible assumption) rfl (by first | with_reducible exact bb_len | with_reducible exact bb_isinstance | with_reducible exact bb_max | with_reducible exact bb_min)); (case he_172 => rfl); (case hp_172 => rfl))
      ((with_reducible refine ax_cons ?h_173 ?q_173); (case h_173 => rfl))
      ((with_reducible refine' ex_var (i := 0) (x := "_law_found") ?h_174 ?g_174 ?q_174); (case h_174 => exact At.of rfl rfl a_L_alike_0); (case g_174 => rfl))
      ((with_reducible refine ax_cons ?h_175 ?q_175); (case h_175 => rfl))
      ((with_reducible refine' ex_ty ?c_176 ?q_176); (case c_176 => first | with_reducible assumption | exact Blt.fn (by with_reducible assumption) rfl (by first | with_reducible exact bb_int | with_reducible exact bb_bool | with_reducible exact bb_str | with_reducible exact bb_tuple | with_reducible exact bb_list | with_reducible exact bb_dict)))
      (with_reducible refine ax_nil ?_)
      ((with_reducible refine bx_isiI ?h_178 ?q_178); (case h_178 => first | rfl | assumption))
      (with_reducible refine asB_bl ?_)
      ((with_reducible show (ite (_ = true) _ _)); first | refine iteT' rfl ?_ | refine iteF' rfl ?_)
      (with_reducible refine ex_one ?_)
      ((with_reducible refine ex_cmp ?h_182 ?q_182); (case h_182 => first | exact nomark _ | rfl))
      ((with_reducible refine' ex_var (i := 0) (x := "_law_found") ?h_183 ?g_183 ?q_183); (case h_183 => exact At.of rfl rfl a_L_alike_0); (case g_183 => rfl))
      ((with_reducible refine' ex_var (i := 1) (x := "_law_due") ?h_184 ?g_184 ?q_184); (case h_184 => exact At.of rfl rfl a_L_alike_1); (case g_184 => rfl))
      (with_reducible refine ox_eqI ?_)
      rw [decide_eq_true rfl]; exact k
    | str x =>
      with_reducible refine sx_if ?_
      ((with_reducible show TX _ _ (.BoolOp _ _ _) _ _ _); refine TW.tx ?_)
      (with_reducible refine tw_or ?_)
      ((with_reducible show TX _ _ (.Call _ _ _ _) _ _ _); refine tx_val (fun _ => rfl) ?_)
      ((with_reducible refine' ex_callB ?c_190 ?he_190 ?hp_190 ?q_190); (case c_190 => first | with_reducible assumption | exact Blt.fn (by with_reducible assumption) rfl (by first | with_reducible exact bb_len | with_reducible exact bb_isinstance | with_reducible exact bb_max | with_reducible exact bb_min)); (case he_190 => rfl); (case hp_190 => rfl))
      ((with_reducible refine ax_cons ?h_191 ?q_191); (case h_191 => rfl))
      ((with_reducible refine' ex_var (i := 1) (x := "_law_due") ?h_192 ?g_192 ?q_192); (case h_192 => exact At.of rfl rfl a_L_alike_1); (case g_192 => rfl))
      ((with_reducible refine ax_cons ?h_193 ?q_193); (case h_193 => rfl))
      ((with_reducible refine' ex_ty ?c_194 ?q_194); (case c_194 => first | with_reducible assumption | exact Blt.fn (by with_reducible assumption) rfl (by first | with_reducible exact bb_int | with_reducible exact bb_bool | with_reducible exact bb_str | with_reducible exact bb_tuple | with_reducible exact bb_list | with_reducible exact bb_dict)))
      (with_reducible refine ax_nil ?_)
      ((with_reducible refine bx_isiTu ?h_196 ?q_196); (case h_196 => first | rfl | assumption))
      (with_reducible refine asB_bl ?_)
      ((with_reducible show (ite (_ = true) _ _)); first | refine iteT' rfl ?_ | refine iteF' rfl ?_)
      (with_reducible refine tw_or1 ?_)
      ((with_reducible show TX _ _ (.Call _ _ _ _) _ _ _); refine tx_val (fun _ => rfl) ?_)
      ((with_reducible refine' ex_callB ?c_201 ?he_201 ?hp_201 ?q_201); (case c_201 => first | with_reducible assumption | exact Blt.fn (by with_reducible assumption) rfl (by first | with_reducible exact bb_len | with_reducible exact bb_isinstance | with_reducible exact bb_max | with_reducible exact bb_min)); (case he_201 => rfl); (case hp_201 => rfl))
      ((with_reducible refine ax_cons ?h_202 ?q_202); (case h_202 => rfl))
      ((with_reducible refine' ex_var (i := 1) (x := "_law_due") ?h_203 ?g_203 ?q_203); (case h_203 => exact At.of rfl rfl a_L_alike_1); (case g_203 => rfl))
      ((with_reducible refine ax_cons ?h_204 ?q_204); (case h_204 => rfl))
      ((with_reducible refine' ex_ty ?c_205 ?q_205); (case c_205 => first | with_reducible assumption | exact Blt.fn (by with_reducible assumption) rfl (by first | with_reducible exact bb_int | with_reducible exact bb_bool | with_reducible exact bb_str | with_reducible exact bb_tuple | with_reducible exact bb_list | with_reducible exact bb_dict)))
      (with_reducible refine ax_nil ?_)
      ((with_reducible refine bx_isiLi ?h_207 ?q_207); (case h_207 => first | rfl | assumption))
      (with_reducible refine asB_bl ?_)
      ((with_reducible show (ite (_ = true) _ _)); first | refine iteT' rfl ?_ | refine iteF' rfl ?_)
      (with_reducible refine sxs_nil ?_)
      (with_reducible refine sxs_cons ?_)
      with_reducible refine sx_if ?_
      ((with_reducible show TX _ _ (.BoolOp _ _ _) _ _ _); refine TW.tx ?_)
      (with_reducible refine tw_or ?_)
      ((with_reducible refine tx_cmp ?h_215 ?q_215); (case h_215 => first | exact nomark _ | rfl))
      ((with_reducible refine' ex_var (i := 1) (x := "_law_due") ?h_216 ?g_216 ?q_216); (case h_216 => exact At.of rfl rfl a_L_alike_1); (case g_216 => rfl))
      (with_reducible refine ex_non ?_)
      (with_reducible refine ox_is ?_)
      (with_reducible refine asB_bl ?_)
      ((with_reducible show (ite (_ = true) _ _)); first | refine iteT' rfl ?_ | refine iteF' rfl ?_)
      (with_reducible refine tw_or1 ?_)
      ((with_reducible refine tx_cmp ?h_222 ?q_222); (case h_222 => first | exact nomark _ | rfl))
      ((with_reducible refine' ex_var (i := 0) (x := "_law_found") ?h_223 ?g_223 ?q_223); (case h_223 => exact At.of rfl rfl a_L_alike_0); (case g_223 => rfl))
      (with_reducible refine ex_non ?_)
      (with_reducible refine ox_is ?_)
      (with_reducible refine asB_bl ?_)
      ((with_reducible show (ite (_ = true) _ _)); first | refine iteT' rfl ?_ | refine iteF' rfl ?_)
      (with_reducible refine sxs_nil ?_)
      (with_reducible refine sxs_cons ?_)
      with_reducible refine sx_if ?_
      ((with_reducible show TX _ _ (.BoolOp _ _ _) _ _ _); refine TW.tx ?_)
      (with_reducible refine tw_or ?_)
      ((with_reducible show TX _ _ (.Call _ _ _ _) _ _ _); refine tx_val (fun _ => rfl) ?_)
      ((with_reducible refine' ex_callB ?c_234 ?he_234 ?hp_234 ?q_234); (case c_234 => first | with_reducible assumption | exact Blt.fn (by with_reducible assumption) rfl (by first | with_reducible exact bb_len | with_reducible exact bb_isinstance | with_reducible exact bb_max | with_reducible exact bb_min)); (case he_234 => rfl); (case hp_234 => rfl))
      ((with_reducible refine ax_cons ?h_235 ?q_235); (case h_235 => rfl))
      ((with_reducible refine' ex_var (i := 1) (x := "_law_due") ?h_236 ?g_236 ?q_236); (case h_236 => exact At.of rfl rfl a_L_alike_1); (case g_236 => rfl))
      ((with_reducible refine ax_cons ?h_237 ?q_237); (case h_237 => rfl))
      ((with_reducible refine' ex_ty ?c_238 ?q_238); (case c_238 => first | with_reducible assumption | exact Blt.fn (by with_reducible assumption) rfl (by first | with_reducible exact bb_int | with_reducible exact bb_bool | with_reducible exact bb_str | with_reducible exact bb_tuple | with_reducible exact bb_list | with_reducible exact bb_dict)))
      (with_reducible refine ax_nil ?_)
      ((with_reducible refine bx_isiB ?h_240 ?q_240); (case h_240 => first | rfl | assumption))
      (with_reducible refine asB_bl ?_)
      ((with_reducible show (ite (_ = true) _ _)); first | refine iteT' rfl ?_ | refine iteF' rfl ?_)
      (with_reducible refine tw_or1 ?_)
      ((with_reducible show TX _ _ (.Call _ _ _ _) _ _ _); refine tx_val (fun _ => rfl) ?_)
      ((with_reducible refine' ex_callB ?c_245 ?he_245 ?hp_245 ?q_245); (case c_245 => first | with_reducible assumption | exact Blt.fn (by with_reducible assumption) rfl (by first | with_reducible exact bb_len | with_reducible exact bb_isinstance | with_reducible exact bb_max | with_reducible exact bb_min)); (case he_245 => rfl); (case hp_245 => rfl))
      ((with_reducible refine ax_cons ?h_246 ?q_246); (case h_246 => rfl))
      ((with_reducible refine' ex_var (i := 0) (x := "_law_found") ?h_247 ?g_247 ?q_247); (case h_247 => exact At.of rfl rfl a_L_alike_0); (case g_247 => rfl))
      ((with_reducible refine ax_cons ?h_248 ?q_248); (case h_248 => rfl))
      ((with_reducible refine' ex_ty ?c_249 ?q_249); (case c_249 => first | with_reducible assumption | exact Blt.fn (by with_reducible assumption) rfl (by first | with_reducible exact bb_int | with_reducible exact bb_bool | with_reducible exact bb_str | with_reducible exact bb_tuple | with_reducible exact bb_list | with_reducible exact bb_dict)))
      (with_reducible refine ax_nil ?_)
      ((with_reducible refine bx_isiB ?h_251 ?q_251); (case h_251 => first | rfl | assumption))
      (with_reducible refine asB_bl ?_)
      ((with_reducible show (ite (_ = true) _ _)); first | refine iteT' rfl ?_ | refine iteF' rfl ?_)
      (with_reducible refine sxs_nil ?_)
      (with_reducible refine sxs_cons ?_)
      with_reducible refine sx_if ?_
      ((with_reducible show TX _ _ (.Call _ _ _ _) _ _ _); refine tx_val (fun _ => rfl) ?_)
      ((with_reducible refine' ex_callB ?c_258 ?he_258 ?hp_258 ?q_258); (case c_258 => first | with_reducible assumption | exact Blt.fn (by with_reducible assumption) rfl (by first | with_reducible exact bb_len | with_reducible exact bb_isinstance | with_reducible exact bb_max | with_reducible exact bb_min)); (case he_258 => rfl); (case hp_258 => rfl))
      ((with_reducible refine ax_cons ?h_259 ?q_259); (case h_259 => rfl))
      ((with_reducible refine' ex_var (i := 1) (x := "_law_due") ?h_260 ?g_260 ?q_260); (case h_260 => exact At.of rfl rfl a_L_alike_1); (case g_260 => rfl))
      ((with_reducible refine ax_cons ?h_261 ?q_261); (case h_261 => rfl))
      ((with_reducible refine' ex_ty ?c_262 ?q_262); (case c_262 => first | with_reducible assumption | exact Blt.fn (by with_reducible assumption) rfl (by first | with_reducible exact bb_int | with_reducible exact bb_bool | with_reducible exact bb_str | with_reducible exact bb_tuple | with_reducible exact bb_list | with_reducible exact bb_dict)))
      (with_reducible refine ax_nil ?_)
      ((with_reducible refine bx_isiSt ?h_264 ?q_264); (case h_264 => first | rfl | assumption))
      (with_reducible refine asB_bl ?_)
      ((with_reducible show (ite (_ = true) _ _)); first | refine iteT' rfl ?_ | refine iteF' rfl ?_)
      (with_reducible refine sxs_one ?_)
      (with_reducible refine sx_ret ?_)
      (with_reducible refine ex_and ?_)
      ((with_reducible refine' ex_callB ?c_270 ?he_270 ?hp_270 ?q_270); (case c_270 => first | with_reducible assumption | exact Blt.fn (by with_reducible assumption) rfl (by first | with_reducible exact bb_len | with_reducible exact bb_isinstance | with_reducible exact bb_max | with_reducible exact bb_min)); (case he_270 => rfl); (case hp_270 => rfl))
      ((with_reducible refine ax_cons ?h_271 ?q_271); (case h_271 => rfl))
      ((with_reducible refine' ex_var (i := 0) (x := "_law_found") ?h_272 ?g_272 ?q_272); (case h_272 => exact At.of rfl rfl a_L_alike_0); (case g_272 => rfl))
      ((with_reducible refine ax_cons ?h_273 ?q_273); (case h_273 => rfl))
      ((with_reducible refine' ex_ty ?c_274 ?q_274); (case c_274 => first | with_reducible assumption | exact Blt.fn (by with_reducible assumption) rfl (by first | with_reducible exact bb_int | with_reducible exact bb_bool | with_reducible exact bb_str | with_reducible exact bb_tuple | with_reducible exact bb_list | with_reducible exact bb_dict)))
      (with_reducible refine ax_nil ?_)
      ((with_reducible refine bx_isiSt ?h_276 ?q_276); (case h_276 => first | rfl | assumption))
      (with_reducible refine asB_bl ?_)
      ((with_reducible show (ite (_ = true) _ _)); first | refine iteT' rfl ?_ | refine iteF' rfl ?_)
      (with_reducible refine ex_one ?_)
      ((with_reducible refine ex_cmp ?h_280 ?q_280); (case h_280 => first | exact nomark _ | rfl))
      ((with_reducible refine' ex_var (i := 0) (x := "_law_found") ?h_281 ?g_281 ?q_281); (case h_281 => exact At.of rfl rfl a_L_alike_0); (case g_281 => rfl))
      ((with_reducible refine' ex_var (i := 1) (x := "_law_due") ?h_282 ?g_282 ?q_282); (case h_282 => exact At.of rfl rfl a_L_alike_1); (case g_282 => rfl))
      (with_reducible refine ox_eqS ?_)
      rw [decide_eq_true rfl]; exact k
    | tup ds => exact absurd (dep_tup.mp hd).1 (by decide)
    | lst ds => exact absurd (dep_lst.mp hd).1 (by decide)
    | _ => unfold D.okA at ha; cases ha
  | succ n ih =>
    have bd := Fn.binds (ps := ["_law_found", "_law_due"]) fun _ _ _ _ _ _ us hl => match us, hl with | [_, _], _ => rfl
    refine fun_ok Fn sc_L_alike (fun ds M Q ⟨_, e, _⟩ => by rw [e]; rfl) fun cdv A outer s H E hr ds M Q h B => ?_
    obtain ⟨d, rfl, ha, hd, k⟩ := h
    have c1 : Dfn P w K mg base (n + 1) "_law_alike" (spAlike n) := ⟨f, fd, _, ih, mf, Fn.kp, bd⟩
    (refine sxs_cons ?_)
    cases d with
    | non => wtm_at "g L_alike"; exact k
    | bl b =>
      with_reducible refine sx_if ?_
      ((with_reducible show TX _ _ (.BoolOp _ _ _) _ _ _); refine TW.tx ?_)
      (with_reducible refine tw_or ?_)
      ((with_reducible show TX _ _ (.Call _ _ _ _) _ _ _); refine tx_val (fun _ => rfl) ?_)
      ((with_reducible refine' ex_callB ?c_289 ?he_289 ?hp_289 ?q_289); (case c_289 => first | with_reducible assumption | exact Blt.fn (by with_reducible assumption) rfl (by first | with_reducible exact bb_len | with_reducible exact bb_isinstance | with_reducible exact bb_max | with_reducible exact bb_min)); (case he_289 => rfl); (case hp_289 => rfl))
      ((with_reducible refine ax_cons ?h_290 ?q_290); (case h_290 => rfl))
      ((with_reducible refine' ex_var (i := 1) (x := "_law_due") ?h_291 ?g_291 ?q_291); (case h_291 => exact At.of rfl rfl a_L_alike_1); (case g_291 => rfl))
      ((with_reducible refine ax_cons ?h_292 ?q_292); (case h_292 => rfl))
      ((with_reducible refine' ex_ty ?c_293 ?q_293); (case c_293 => first | with_reducible assumption | exact Blt.fn (by with_reducible assumption) rfl (by first | with_reducible exact bb_int | with_reducible exact bb_bool | with_reducible exact bb_str | with_reducible exact bb_tuple | with_reducible exact bb_list | with_reducible exact bb_dict)))
      (with_reducible refine ax_nil ?_)
      ((with_reducible refine bx_isiTu ?h_295 ?q_295); (case h_295 => first | rfl | assumption))
      (with_reducible refine asB_bl ?_)
      ((with_reducible show (ite (_ = true) _ _)); first | refine iteT' rfl ?_ | refine iteF' rfl ?_)
      (with_reducible refine tw_or1 ?_)
      ((with_reducible show TX _ _ (.Call _ _ _ _) _ _ _); refine tx_val (fun _ => rfl) ?_)
      ((with_reducible refine' ex_callB ?c_300 ?he_300 ?hp_300 ?q_300); (case c_300 => first | with_reducible assumption | exact Blt.fn (by with_reducible assumption) rfl (by first | with_reducible exact bb_len | with_reducible exact bb_isinstance | with_reducible exact bb_max | with_reducible exact bb_min)); (case he_300 => rfl); (case hp_300 => rfl))
      ((with_reducible refine ax_cons ?h_301 ?q_301); (case h_301 => rfl))
      ((with_reducible refine' ex_var (i := 1) (x := "_law_due") ?h_302 ?g_302 ?q_302); (case h_302 => exact At.of rfl rfl a_L_alike_1); (case g_302 => rfl))
      ((with_reducible refine ax_cons ?h_303 ?q_303); (case h_303 => rfl))
      ((with_reducible refine' ex_ty ?c_304 ?q_304); (case c_304 => first | with_reducible assumption | exact Blt.fn (by with_reducible assumption) rfl (by first | with_reducible exact bb_int | with_reducible exact bb_bool | with_reducible exact bb_str | with_reducible exact bb_tuple | with_reducible exact bb_list | with_reducible exact bb_dict)))
      (with_reducible refine ax_nil ?_)
      ((with_reducible refine bx_isiLi ?h_306 ?q_306); (case h_306 => first | rfl | assumption))
      (with_reducible refine asB_bl ?_)
      ((with_reducible show (ite (_ = true) _ _)); first | refine iteT' rfl ?_ | refine iteF' rfl ?_)
      (with_reducible refine sxs_nil ?_)
      (with_reducible refine sxs_cons ?_)
      with_reducible refine sx_if ?_
      ((with_reducible show TX _ _ (.BoolOp _ _ _) _ _ _); refine TW.tx ?_)
      (with_reducible refine tw_or ?_)
      ((with_reducible refine tx_cmp ?h_314 ?q_314); (case h_314 => first | exact nomark _ | rfl))
      ((with_reducible refine' ex_var (i := 1) (x := "_law_due") ?h_315 ?g_315 ?q_315); (case h_315 => exact At.of rfl rfl a_L_alike_1); (case g_315 => rfl))
      (with_reducible refine ex_non ?_)
      (with_reducible refine ox_is ?_)
      (with_reducible refine asB_bl ?_)
      ((with_reducible show (ite (_ = true) _ _)); first | refine iteT' rfl ?_ | refine iteF' rfl ?_)
      (with_reducible refine tw_or1 ?_)
      ((with_reducible refine tx_cmp ?h_321 ?q_321); (case h_321 => first | exact nomark _ | rfl))
      ((with_reducible refine' ex_var (i := 0) (x := "_law_found") ?h_322 ?g_322 ?q_322); (case h_322 => exact At.of rfl rfl a_L_alike_0); (case g_322 => rfl))
      (with_reducible refine ex_non ?_)
      (with_reducible refine ox_is ?_)
      (with_reducible refine asB_bl ?_)
      ((with_reducible show (ite (_ = true) _ _)); first | refine iteT' rfl ?_ | refine iteF' rfl ?_)
      (with_reducible refine sxs_nil ?_)
      (with_reducible refine sxs_cons ?_)
      with_reducible refine sx_if ?_
      ((with_reducible show TX _ _ (.BoolOp _ _ _) _ _ _); refine TW.tx ?_)
      (with_reducible refine tw_or ?_)
      ((with_reducible show TX _ _ (.Call _ _ _ _) _ _ _); refine tx_val (fun _ => rfl) ?_)
      ((with_reducible refine' ex_callB ?c_333 ?he_333 ?hp_333 ?q_333); (case c_333 => first | with_reducible assumption | exact Blt.fn (by with_reducible assumption) rfl (by first | with_reducible exact bb_len | with_reducible exact bb_isinstance | with_reducible exact bb_max | with_reducible exact bb_min)); (case he_333 => rfl); (case hp_333 => rfl))
      ((with_reducible refine ax_cons ?h_334 ?q_334); (case h_334 => rfl))
      ((with_reducible refine' ex_var (i := 1) (x := "_law_due") ?h_335 ?g_335 ?q_335); (case h_335 => exact At.of rfl rfl a_L_alike_1); (case g_335 => rfl))
      ((with_reducible refine ax_cons ?h_336 ?q_336); (case h_336 => rfl))
      ((with_reducible refine' ex_ty ?c_337 ?q_337); (case c_337 => first | with_reducible assumption | exact Blt.fn (by with_reducible assumption) rfl (by first | with_reducible exact bb_int | with_reducible exact bb_bool | with_reducible exact bb_str | with_reducible exact bb_tuple | with_reducible exact bb_list | with_reducible exact bb_dict)))
      (with_reducible refine ax_nil ?_)
      ((with_reducible refine bx_isiB ?h_339 ?q_339); (case h_339 => first | rfl | assumption))
      (with_reducible refine asB_bl ?_)
      ((with_reducible show (ite (_ = true) _ _)); first | refine iteT' rfl ?_ | refine iteF' rfl ?_)
      ((with_reducible show (ite (_ = true) _ _)); first | refine iteT' rfl ?_ | refine iteF' rfl ?_)
      (with_reducible refine sxs_one ?_)
      (with_reducible refine sx_ret ?_)
      (with_reducible refine ex_and ?_)
      ((with_reducible refine' ex_callB ?c_346 ?he_346 ?hp_346 ?q_346); (case c_346 => first | with_reducible assumption | exact Blt.fn (by with_reducible assumption) rfl (by first | with_reducible exact bb_len | with_reducible exact bb_isinstance | with_reducible exact bb_max | with_reducible exact bb_min)); (case he_346 => rfl); (case hp_346 => rfl))
      ((with_reducible refine ax_cons ?h_347 ?q_347); (case h_347 => rfl))
      ((with_reducible refine' ex_var (i := 1) (x := "_law_due") ?h_348 ?g_348 ?q_348); (case h_348 => exact At.of rfl rfl a_L_alike_1); (case g_348 => rfl))
      ((with_reducible refine ax_cons ?h_349 ?q_349); (case h_349 => rfl))
      ((with_reducible refine' ex_ty ?c_350 ?q_350); (case c_350 => first | with_reducible assumption | exact Blt.fn (by with_reducible assumption) rfl (by first | with_reducible exact bb_int | with_reducible exact bb_bool | with_reducible exact bb_str | with_reducible exact bb_tuple | with_reducible exact bb_list | with_reducible exact bb_dict)))
      (with_reducible refine ax_nil ?_)
      ((with_reducible refine bx_isiB ?h_352 ?q_352); (case h_352 => first | rfl | assumption))
      (with_reducible refine asB_bl ?_)
      ((with_reducible show (ite (_ = true) _ _)); first | refine iteT' rfl ?_ | refine iteF' rfl ?_)
      (with_reducible refine ex_and ?_)
      ((with_reducible refine' ex_callB ?c_356 ?he_356 ?hp_356 ?q_356); (case c_356 => first | with_reducible assumption | exact Blt.fn (by with_reducible assumption) rfl (by first | with_reducible exact bb_len | with_reducible exact bb_isinstance | with_reducible exact bb_max | with_reducible exact bb_min)); (case he_356 => rfl); (case hp_356 => rfl))
      ((with_reducible refine ax_cons ?h_357 ?q_357); (case h_357 => rfl))
      ((with_reducible refine' ex_var (i := 0) (x := "_law_found") ?h_358 ?g_358 ?q_358); (case h_358 => exact At.of rfl rfl a_L_alike_0); (case g_358 => rfl))
      ((with_reducible refine ax_cons ?h_359 ?q_359); (case h_359 => rfl))
      ((with_reducible refine' ex_ty ?c_360 ?q_360); (case c_360 => first | with_reducible assumption | exact Blt.fn (by with_reducible assumption) rfl (by first | with_reducible exact bb_int | with_reducible exact bb_bool | with_reducible exact bb_str | with_reducible exact bb_tuple | with_reducible exact bb_list | with_reducible exact bb_dict)))
      (with_reducible refine ax_nil ?_)
      ((with_reducible refine bx_isiB ?h_362 ?q_362); (case h_362 => first | rfl | assumption))
      (with_reducible refine asB_bl ?_)
      ((with_reducible show (ite (_ = true) _ _)); first | refine iteT' rfl ?_ | refine iteF' rfl ?_)
      (with_reducible refine ex_one ?_)
      ((with_reducible refine ex_cmp ?h_366 ?q_366); (case h_366 => first | exact nomark _ | rfl))
      ((with_reducible refine' ex_var (i := 0) (x := "_law_found") ?h_367 ?g_367 ?q_367); (case h_367 => exact At.of rfl rfl a_L_alike_0); (case g_367 => rfl))
      ((with_reducible refine' ex_var (i := 1) (x := "_law_due") ?h_368 ?g_368 ?q_368); (case h_368 => exact At.of rfl rfl a_L_alike_1); (case g_368 => rfl))
      (with_reducible refine ox_eqB ?_)
      rw [decide_eq_true rfl]; exact k
    | int i =>
      with_reducible refine sx_if ?_
      ((with_reducible show TX _ _ (.BoolOp _ _ _) _ _ _); refine TW.tx ?_)
      (with_reducible refine tw_or ?_)
      ((with_reducible show TX _ _ (.Call _ _ _ _) _ _ _); refine tx_val (fun _ => rfl) ?_)
      ((with_reducible refine' ex_callB ?c_374 ?he_374 ?hp_374 ?q_374); (case c_374 => first | with_reducible assumption | exact Blt.fn (by with_reducible assumption) rfl (by first | with_reducible exact bb_len | with_reducible exact bb_isinstance | with_reducible exact bb_max | with_reducible exact bb_min)); (case he_374 => rfl); (case hp_374 => rfl))
      ((with_reducible refine ax_cons ?h_375 ?q_375); (case h_375 => rfl))
      ((with_reducible refine' ex_var (i := 1) (x := "_law_due") ?h_376 ?g_376 ?q_376); (case h_376 => exact At.of rfl rfl a_L_alike_1); (case g_376 => rfl))
      ((with_reducible refine ax_cons ?h_377 ?q_377); (case h_377 => rfl))
      ((with_reducible refine' ex_ty ?c_378 ?q_378); (case c_378 => first | with_reducible assumption | exact Blt.fn (by with_reducible assumption) rfl (by first | with_reducible exact bb_int | with_reducible exact bb_bool | with_reducible exact bb_str | with_reducible exact bb_tuple | with_reducible exact bb_list | with_reducible exact bb_dict)))
      (with_reducible refine ax_nil ?_)
      ((with_reducible refine bx_isiTu ?h_380 ?q_380); (case h_380 => first | rfl | assumption))
      (with_reducible refine asB_bl ?_)
      ((with_reducible show (ite (_ = true) _ _)); first | refine iteT' rfl ?_ | refine iteF' rfl ?_)
      (with_reducible refine tw_or1 ?_)
      ((with_reducible show TX _ _ (.Call _ _ _ _) _ _ _); refine tx_val (fun _ => rfl) ?_)
      ((with_reducible refine' ex_callB ?c_385 ?he_385 ?hp_385 ?q_385); (case c_385 => first | with_reducible assumption | exact Blt.fn (by with_reducible assumption) rfl (by first | with_reducible exact bb_len | with_reducible exact bb_isinstance | with_reducible exact bb_max | with_reducible exact bb_min)); (case he_385 => rfl); (case hp_385 => rfl))
      ((with_reducible refine ax_cons ?h_386 ?q_386); (case h_386 => rfl))
      ((with_reducible refine' ex_var (i := 1) (x := "_law_due") ?h_387 ?g_387 ?q_387); (case h_387 => exact At.of rfl rfl a_L_alike_1); (case g_387 => rfl))
      ((with_reducible refine ax_cons ?h_388 ?q_388); (case h_388 => rfl))
      ((with_reducible refine' ex_ty ?c_389 ?q_389); (case c_389 => first | with_reducible assumption | exact Blt.fn (by with_reducible assumption) rfl (by first | with_reducible exact bb_int | with_reducible exact bb_bool | with_reducible exact bb_str | with_reducible exact bb_tuple | with_reducible exact bb_list | with_reducible exact bb_dict)))
      (with_reducible refine ax_nil ?_)
      ((with_reducible refine bx_isiLi ?h_391 ?q_391); (case h_391 => first | rfl | assumption))
      (with_reducible refine asB_bl ?_)
      ((with_reducible show (ite (_ = true) _ _)); first | refine iteT' rfl ?_ | refine iteF' rfl ?_)
      (with_reducible refine sxs_nil ?_)
      (with_reducible refine sxs_cons ?_)
      with_reducible refine sx_if ?_
      ((with_reducible show TX _ _ (.BoolOp _ _ _) _ _ _); refine TW.tx ?_)
      (with_reducible refine tw_or ?_)
      ((with_reducible refine tx_cmp ?h_399 ?q_399); (case h_399 => first | exact nomark _ | rfl))
      ((with_reducible refine' ex_var (i := 1) (x := "_law_due") ?h_400 ?g_400 ?q_400); (case h_400 => exact At.of rfl rfl a_L_alike_1); (case g_400 => rfl))
      (with_reducible refine ex_non ?_)
      (with_reducible refine ox_is ?_)
      (with_reducible refine asB_bl ?_)
      ((with_reducible show (ite (_ = true) _ _)); first | refine iteT' rfl ?_ | refine iteF' rfl ?_)
      (with_reducible refine tw_or1 ?_)
      ((with_reducible refine tx_cmp ?h_406 ?q_406); (case h_406 => first | exact nomark _ | rfl))
      ((with_reducible refine' ex_var (i := 0) (x := "_law_found") ?h_407 ?g_407 ?q_407); (case h_407 => exact At.of rfl rfl a_L_alike_0); (case g_407 => rfl))
      (with_reducible refine ex_non ?_)
      (with_reducible refine ox_is ?_)
      (with_reducible refine asB_bl ?_)
      ((with_reducible show (ite (_ = true) _ _)); first | refine iteT' rfl ?_ | refine iteF' rfl ?_)
      (with_reducible refine sxs_nil ?_)
      (with_reducible refine sxs_cons ?_)
      with_reducible refine sx_if ?_
      ((with_reducible show TX _ _ (.BoolOp _ _ _) _ _ _); refine TW.tx ?_)
      (with_reducible refine tw_or ?_)
      ((with_reducible show TX _ _ (.Call _ _ _ _) _ _ _); refine tx_val (fun _ => rfl) ?_)
      ((with_reducible refine' ex_callB ?c_418 ?he_418 ?hp_418 ?q_418); (case c_418 => first | with_reducible assumption | exact Blt.fn (by with_reducible assumption) rfl (by first | with_reducible exact bb_len | with_reducible exact bb_isinstance | with_reducible exact bb_max | with_reducible exact bb_min)); (case he_418 => rfl); (case hp_418 => rfl))
      ((with_reducible refine ax_cons ?h_419 ?q_419); (case h_419 => rfl))
      ((with_reducible refine' ex_var (i := 1) (x := "_law_due") ?h_420 ?g_420 ?q_420); (case h_420 => exact At.of rfl rfl a_L_alike_1); (case g_420 => rfl))
      ((with_reducible refine ax_cons ?h_421 ?q_421); (case h_421 => rfl))
      ((with_reducible refine' ex_ty ?c_422 ?q_422); (case c_422 => first | with_reducible assumption | exact Blt.fn (by with_reducible assumption) rfl (by first | with_reducible exact bb_int | with_reducible exact bb_bool | with_reducible exact bb_str | with_reducible exact bb_tuple | with_reducible exact bb_list | with_reducible exact bb_dict)))
      (with_reducible refine ax_nil ?_)
      ((with_reducible refine bx_isiB ?h_424 ?q_424); (case h_424 => first | rfl | assumption))
      (with_reducible refine asB_bl ?_)
      ((with_reducible show (ite (_ = true) _ _)); first | refine iteT' rfl ?_ | refine iteF' rfl ?_)
      (with_reducible refine tw_or1 ?_)
      ((with_reducible show TX _ _ (.Call _ _ _ _) _ _ _); refine tx_val (fun _ => rfl) ?_)
      ((with_reducible refine' ex_callB ?c_429 ?he_429 ?hp_429 ?q_429); (case c_429 => first | with_reducible assumption | exact Blt.fn (by with_reducible assumption) rfl (by first | with_reducible exact bb_len | with_reducible exact bb_isinstance | with_reducible exact bb_max | with_reducible exact bb_min)); (case he_429 => rfl); (case hp_429 => rfl))
      ((with_reducible refine ax_cons ?h_430 ?q_430); (case h_430 => rfl))
      ((with_reducible refine' ex_var (i := 0) (x := "_law_found") ?h_431 ?g_431 ?q_431); (case h_431 => exact At.of rfl rfl a_L_alike_0); (case g_431 => rfl))
      ((with_reducible refine ax_cons ?h_432 ?q_432); (case h_432 => rfl))
      ((with_reducible refine' ex_ty ?c_433 ?q_433); (case c_433 => first | with_reducible assumption | exact Blt.fn (by with_reducible assumption) rfl (by first | with_reducible exact bb_int | with_reducible exact bb_bool | with_reducible exact bb_str | with_reducible exact bb_tuple | with_reducible exact bb_list | with_reducible exact bb_dict)))
      (with_reducible refine ax_nil ?_)
      ((with_reducible refine bx_isiB ?h_435 ?q_435); (case h_435 => first | rfl | assumption))
      (with_reducible refine asB_bl ?_)
      ((with_reducible show (ite (_ = true) _ _)); first | refine iteT' rfl ?_ | refine iteF' rfl ?_)
      (with_reducible refine sxs_nil ?_)
      (with_reducible refine sxs_cons ?_)
      with_reducible refine sx_if ?_
      ((with_reducible show TX _ _ (.Call _ _ _ _) _ _ _); refine tx_val (fun _ => rfl) ?_)
      ((with_reducible refine' ex_callB ?c_442 ?he_442 ?hp_442 ?q_442); (case c_442 => first | with_reducible assumption | exact Blt.fn (by with_reducible assumption) rfl (by first | with_reducible exact bb_len | with_reducible exact bb_isinstance | with_reducible exact bb_max | with_reducible exact bb_min)); (case he_442 => rfl); (case hp_442 => rfl))
      ((with_reducible refine ax_cons ?h_443 ?q_443); (case h_443 => rfl))
      ((with_reducible refine' ex_var (i := 1) (x := "_law_due") ?h_444 ?g_444 ?q_444); (case h_444 => exact At.of rfl rfl a_L_alike_1); (case g_444 => rfl))
      ((with_reducible refine ax_cons ?h_445 ?q_445); (case h_445 => rfl))
      ((with_reducible refine' ex_ty ?c_446 ?q_446); (case c_446 => first | with_reducible assumption | exact Blt.fn (by with_reducible assumption) rfl (by first | with_reducible exact bb_int | with_reducible exact bb_bool | with_reducible exact bb_str | with_reducible exact bb_tuple | with_reducible exact bb_list | with_reducible exact bb_dict)))
      (with_reducible refine ax_nil ?_)
      ((with_reducible refine bx_isiSt ?h_448 ?q_448); (case h_448 => first | rfl | assumption))
      (with_reducible refine asB_bl ?_)
      ((with_reducible show (ite (_ = true) _ _)); first | refine iteT' rfl ?_ | refine iteF' rfl ?_)
      (with_reducible refine sxs_nil ?_)
      (with_reducible refine sxs_one ?_)
      (with_reducible refine sx_ret ?_)
      (with_reducible refine ex_and ?_)
      ((with_reducible refine' ex_callB ?c_455 ?he_455 ?hp_455 ?q_455); (case c_455 => first | with_reducible assumption | exact Blt.fn (by with_reducible assumption) rfl (by first | with_reducible exact bb_len | with_reducible exact bb_isinstance | with_reducible exact bb_max | with_reducible exact bb_min)); (case he_455 => rfl); (case hp_455 => rfl))
      ((with_reducible refine ax_cons ?h_456 ?q_456); (case h_456 => rfl))
      ((with_reducible refine' ex_var (i := 0) (x := "_law_found") ?h_457 ?g_457 ?q_457); (case h_457 => exact At.of rfl rfl a_L_alike_0); (case g_457 => rfl))
      ((with_reducible refine ax_cons ?h_458 ?q_458); (case h_458 => rfl))
      ((with_reducible refine' ex_ty ?c_459 ?q_459); (case c_459 => first | with_reducible assumption | exact Blt.fn (by with_reducible assumption) rfl (by first | with_reducible exact bb_int | with_reducible exact bb_bool | with_reducible exact bb_str | with_reducible exact bb_tuple | with_reducible exact bb_list | with_reducible exact bb_dict)))
      (with_reducible refine ax_nil ?_)
      ((with_reducible refine bx_isiI ?h_461 ?q_461); (case h_461 => first | rfl | assumption))
      (with_reducible refine asB_bl ?_)
      ((with_reducible show (ite (_ = true) _ _)); first | refine iteT' rfl ?_ | refine iteF' rfl ?_)
      (with_reducible refine ex_one ?_)
      ((with_reducible refine ex_cmp ?h_465 ?q_465); (case h_465 => first | exact nomark _ | rfl))
      ((with_reducible refine' ex_var (i := 0) (x := "_law_found") ?h_466 ?g_466 ?q_466); (case h_466 => exact At.of rfl rfl a_L_alike_0); (case g_466 => rfl))
      ((with_reducible refine' ex_var (i := 1) (x := "_law_due") ?h_467 ?g_467 ?q_467); (case h_467 => exact At.of rfl rfl a_L_alike_1); (case g_467 => rfl))
      (with_reducible refine ox_eqI ?_)
      rw [decide_eq_true rfl]; exact k
    | str x =>
      with_reducible refine sx_if ?_
      ((with_reducible show TX _ _ (.BoolOp _ _ _) _ _ _); refine TW.tx ?_)
      (with_reducible refine tw_or ?_)
      ((with_reducible show TX _ _ (.Call _ _ _ _) _ _ _); refine tx_val (fun _ => rfl) ?_)
      ((with_reducible refine' ex_callB ?c_473 ?he_473 ?hp_473 ?q_473); (case c_473 => first | with_reducible assumption | exact Blt.fn (by with_reducible assumption) rfl (by first | with_reducible exact bb_len | with_reducible exact bb_isinstance | with_reducible exact bb_max | with_reducible exact bb_min)); (case he_473 => rfl); (case hp_473 => rfl))
      ((with_reducible refine ax_cons ?h_474 ?q_474); (case h_474 => rfl))
      ((with_reducible refine' ex_var (i := 1) (x := "_law_due") ?h_475 ?g_475 ?q_475); (case h_475 => exact At.of rfl rfl a_L_alike_1); (case g_475 => rfl))
      ((with_reducible refine ax_cons ?h_476 ?q_476); (case h_476 => rfl))
      ((with_reducible refine' ex_ty ?c_477 ?q_477); (case c_477 => first | with_reducible assumption | exact Blt.fn (by with_reducible assumption) rfl (by first | with_reducible exact bb_int | with_reducible exact bb_bool | with_reducible exact bb_str | with_reducible exact bb_tuple | with_reducible exact bb_list | with_reducible exact bb_dict)))
      (with_reducible refine ax_nil ?_)
      ((with_reducible refine bx_isiTu ?h_479 ?q_479); (case h_479 => first | rfl | assumption))
      (with_reducible refine asB_bl ?_)
      ((with_reducible show (ite (_ = true) _ _)); first | refine iteT' rfl ?_ | refine iteF' rfl ?_)
      (with_reducible refine tw_or1 ?_)
      ((with_reducible show TX _ _ (.Call _ _ _ _) _ _ _); refine tx_val (fun _ => rfl) ?_)
      ((with_reducible refine' ex_callB ?c_484 ?he_484 ?hp_484 ?q_484); (case c_484 => first | with_reducible assumption | exact Blt.fn (by with_reducible assumption) rfl (by first | with_reducible exact bb_len | with_reducible exact bb_isinstance | with_reducible exact bb_max | with_reducible exact bb_min)); (case he_484 => rfl); (case hp_484 => rfl))
      ((with_reducible refine ax_cons ?h_485 ?q_485); (case h_485 => rfl))
      ((with_reducible refine' ex_var (i := 1) (x := "_law_due") ?h_486 ?g_486 ?q_486); (case h_486 => exact At.of rfl rfl a_L_alike_1); (case g_486 => rfl))
      ((with_reducible refine ax_cons ?h_487 ?q_487); (case h_487 => rfl))
      ((with_reducible refine' ex_ty ?c_488 ?q_488); (case c_488 => first | with_reducible assumption | exact Blt.fn (by with_reducible assumption) rfl (by first | with_reducible exact bb_int | with_reducible exact bb_bool | with_reducible exact bb_str | with_reducible exact bb_tuple | with_reducible exact bb_list | with_reducible exact bb_dict)))
      (with_reducible refine ax_nil ?_)
      ((with_reducible refine bx_isiLi ?h_490 ?q_490); (case h_490 => first | rfl | assumption))
      (with_reducible refine asB_bl ?_)
      ((with_reducible show (ite (_ = true) _ _)); first | refine iteT' rfl ?_ | refine iteF' rfl ?_)
      (with_reducible refine sxs_nil ?_)
      (with_reducible refine sxs_cons ?_)
      with_reducible refine sx_if ?_
      ((with_reducible show TX _ _ (.BoolOp _ _ _) _ _ _); refine TW.tx ?_)
      (with_reducible refine tw_or ?_)
      ((with_reducible refine tx_cmp ?h_498 ?q_498); (case h_498 => first | exact nomark _ | rfl))
      ((with_reducible refine' ex_var (i := 1) (x := "_law_due") ?h_499 ?g_499 ?q_499); (case h_499 => exact At.of rfl rfl a_L_alike_1); (case g_499 => rfl))
      (with_reducible refine ex_non ?_)
      (with_reducible refine ox_is ?_)
      (with_reducible refine asB_bl ?_)
      ((with_reducible show (ite (_ = true) _ _)); first | refine iteT' rfl ?_ | refine iteF' rfl ?_)
      (with_reducible refine tw_or1 ?_)
      ((with_reducible refine tx_cmp ?h_505 ?q_505); (case h_505 => first | exact nomark _ | rfl))
      ((with_reducible refine' ex_var (i := 0) (x := "_law_found") ?h_506 ?g_506 ?q_506); (case h_506 => exact At.of rfl rfl a_L_alike_0); (case g_506 => rfl))
      (with_reducible refine ex_non ?_)
      (with_reducible refine ox_is ?_)
      (with_reducible refine asB_bl ?_)
      ((with_reducible show (ite (_ = true) _ _)); first | refine iteT' rfl ?_ | refine iteF' rfl ?_)
      (with_reducible refine sxs_nil ?_)
      (with_reducible refine sxs_cons ?_)
      with_reducible refine sx_if ?_
      ((with_reducible show TX _ _ (.BoolOp _ _ _) _ _ _); refine TW.tx ?_)
      (with_reducible refine tw_or ?_)
      ((with_reducible show TX _ _ (.Call _ _ _ _) _ _ _); refine tx_val (fun _ => rfl) ?_)
      ((with_reducible refine' ex_callB ?c_517 ?he_517 ?hp_517 ?q_517); (case c_517 => first | with_reducible assumption | exact Blt.fn (by with_reducible assumption) rfl (by first | with_reducible exact bb_len | with_reducible exact bb_isinstance | with_reducible exact bb_max | with_reducible exact bb_min)); (case he_517 => rfl); (case hp_517 => rfl))
      ((with_reducible refine ax_cons ?h_518 ?q_518); (case h_518 => rfl))
      ((with_reducible refine' ex_var (i := 1) (x := "_law_due") ?h_519 ?g_519 ?q_519); (case h_519 => exact At.of rfl rfl a_L_alike_1); (case g_519 => rfl))
      ((with_reducible refine ax_cons ?h_520 ?q_520); (case h_520 => rfl))
      ((with_reducible refine' ex_ty ?c_521 ?q_521); (case c_521 => first | with_reducible assumption | exact Blt.fn (by with_reducible assumption) rfl (by first | with_reducible exact bb_int | with_reducible exact bb_bool | with_reducible exact bb_str | with_reducible exact bb_tuple | with_reducible exact bb_list | with_reducible exact bb_dict)))
      (with_reducible refine ax_nil ?_)
      ((with_reducible refine bx_isiB ?h_523 ?q_523); (case h_523 => first | rfl | assumption))
      (with_reducible refine asB_bl ?_)
      ((with_reducible show (ite (_ = true) _ _)); first | refine iteT' rfl ?_ | refine iteF' rfl ?_)
      (with_reducible refine tw_or1 ?_)
      ((with_reducible show TX _ _ (.Call _ _ _ _) _ _ _); refine tx_val (fun _ => rfl) ?_)
      ((with_reducible refine' ex_callB ?c_528 ?he_528 ?hp_528 ?q_528); (case c_528 => first | with_reducible assumption | exact Blt.fn (by with_reducible assumption) rfl (by first | with_reducible exact bb_len | with_reducible exact bb_isinstance | with_reducible exact bb_max | with_reducible exact bb_min)); (case he_528 => rfl); (case hp_528 => rfl))
      ((with_reducible refine ax_cons ?h_529 ?q_529); (case h_529 => rfl))
      ((with_reducible refine' ex_var (i := 0) (x := "_law_found") ?h_530 ?g_530 ?q_530); (case h_530 => exact At.of rfl rfl a_L_alike_0); (case g_530 => rfl))
      ((with_reducible refine ax_cons ?h_531 ?q_531); (case h_531 => rfl))
      ((with_reducible refine' ex_ty ?c_532 ?q_532); (case c_532 => first | with_reducible assumption | exact Blt.fn (by with_reducible assumption) rfl (by first | with_reducible exact bb_int | with_reducible exact bb_bool | with_reducible exact bb_str | with_reducible exact bb_tuple | with_reducible exact bb_list | with_reducible exact bb_dict)))
      (with_reducible refine ax_nil ?_)
      ((with_reducible refine bx_isiB ?h_534 ?q_534); (case h_534 => first | rfl | assumption))
      (with_reducible refine asB_bl ?_)
      ((with_reducible show (ite (_ = true) _ _)); first | refine iteT' rfl ?_ | refine iteF' rfl ?_)
      (with_reducible refine sxs_nil ?_)
      (with_reducible refine sxs_cons ?_)
      with_reducible refine sx_if ?_
      ((with_reducible show TX _ _ (.Call _ _ _ _) _ _ _); refine tx_val (fun _ => rfl) ?_)
      ((with_reducible refine' ex_callB ?c_541 ?he_541 ?hp_541 ?q_541); (case c_541 => first | with_reducible assumption | exact Blt.fn (by with_reducible assumption) rfl (by first | with_reducible exact bb_len | with_reducible exact bb_isinstance | with_reducible exact bb_max | with_reducible exact bb_min)); (case he_541 => rfl); (case hp_541 => rfl))
      ((with_reducible refine ax_cons ?h_542 ?q_542); (case h_542 => rfl))
      ((with_reducible refine' ex_var (i := 1) (x := "_law_due") ?h_543 ?g_543 ?q_543); (case h_543 => exact At.of rfl rfl a_L_alike_1); (case g_543 => rfl))
      ((with_reducible refine ax_cons ?h_544 ?q_544); (case h_544 => rfl))
      ((with_reducible refine' ex_ty ?c_545 ?q_545); (case c_545 => first | with_reducible assumption | exact Blt.fn (by with_reducible assumption) rfl (by first | with_reducible exact bb_int | with_reducible exact bb_bool | with_reducible exact bb_str | with_reducible exact bb_tuple | with_reducible exact bb_list | with_reducible exact bb_dict)))
      (with_reducible refine ax_nil ?_)
      ((with_reducible refine bx_isiSt ?h_547 ?q_547); (case h_547 => first | rfl | assumption))
      (with_reducible refine asB_bl ?_)
      ((with_reducible show (ite (_ = true) _ _)); first | refine iteT' rfl ?_ | refine iteF' rfl ?_)
      (with_reducible refine sxs_one ?_)
      (with_reducible refine sx_ret ?_)
      (with_reducible refine ex_and ?_)
      ((with_reducible refine' ex_callB ?c_553 ?he_553 ?hp_553 ?q_553); (case c_553 => first | with_reducible assumption | exact Blt.fn (by with_reducible assumption) rfl (by first | with_reducible exact bb_len | with_reducible exact bb_isinstance | with_reducible exact bb_max | with_reducible exact bb_min)); (case he_553 => rfl); (case hp_553 => rfl))
      ((with_reducible refine ax_cons ?h_554 ?q_554); (case h_554 => rfl))
      ((with_reducible refine' ex_var (i := 0) (x := "_law_found") ?h_555 ?g_555 ?q_555); (case h_555 => exact At.of rfl rfl a_L_alike_0); (case g_555 => rfl))
      ((with_reducible refine ax_cons ?h_556 ?q_556); (case h_556 => rfl))
      ((with_reducible refine' ex_ty ?c_557 ?q_557); (case c_557 => first | with_reducible assumption | exact Blt.fn (by with_reducible assumption) rfl (by first | with_reducible exact bb_int | with_reducible exact bb_bool | with_reducible exact bb_str | with_reducible exact bb_tuple | with_reducible exact bb_list | with_reducible exact bb_dict)))
      (with_reducible refine ax_nil ?_)
      ((with_reducible refine bx_isiSt ?h_559 ?q_559); (case h_559 => first | rfl | assumption))
      (with_reducible refine asB_bl ?_)
      ((with_reducible show (ite (_ = true) _ _)); first | refine iteT' rfl ?_ | refine iteF' rfl ?_)
      (with_reducible refine ex_one ?_)
      ((with_reducible refine ex_cmp ?h_563 ?q_563); (case h_563 => first | exact nomark _ | rfl))
      ((with_reducible refine' ex_var (i := 0) (x := "_law_found") ?h_564 ?g_564 ?q_564); (case h_564 => exact At.of rfl rfl a_L_alike_0); (case g_564 => rfl))
      ((with_reducible refine' ex_var (i := 1) (x := "_law_due") ?h_565 ?g_565 ?q_565); (case h_565 => exact At.of rfl rfl a_L_alike_1); (case g_565 => rfl))
      (with_reducible refine ox_eqS ?_)
      rw [decide_eq_true rfl]; exact k
    | tup ds =>
      obtain ⟨hl, hA⟩ := okA_tup' ha
      have hdd := (dep_tup.mp hd).2
      with_reducible refine sx_if ?_
      ((with_reducible show TX _ _ (.BoolOp _ _ _) _ _ _); refine TW.tx ?_)
      (with_reducible refine tw_or ?_)
      ((with_reducible show TX _ _ (.Call _ _ _ _) _ _ _); refine tx_val (fun _ => rfl) ?_)
      ((with_reducible refine' ex_callB ?c_571 ?he_571 ?hp_571 ?q_571); (case c_571 => first | with_reducible assumption | exact Blt.fn (by with_reducible assumption) rfl (by first | with_reducible exact bb_len | with_reducible exact bb_isinstance | with_reducible exact bb_max | with_reducible exact bb_min)); (case he_571 => rfl); (case hp_571 => rfl))
      ((with_reducible refine ax_cons ?h_572 ?q_572); (case h_572 => rfl))
      ((with_reducible refine' ex_var (i := 1) (x := "_law_due") ?h_573 ?g_573 ?q_573); (case h_573 => exact At.of rfl rfl a_L_alike_1); (case g_573 => rfl))
      ((with_reducible refine ax_cons ?h_574 ?q_574); (case h_574 => rfl))
      ((with_reducible refine' ex_ty ?c_575 ?q_575); (case c_575 => first | with_reducible assumption | exact Blt.fn (by with_reducible assumption) rfl (by first | with_reducible exact bb_int | with_reducible exact bb_bool | with_reducible exact bb_str | with_reducible exact bb_tuple | with_reducible exact bb_list | with_reducible exact bb_dict)))
      (with_reducible refine ax_nil ?_)
      ((with_reducible refine bx_isiTu ?h_577 ?q_577); (case h_577 => first | rfl | assumption))
      (with_reducible refine asB_bl ?_)
      ((with_reducible show (ite (_ = true) _ _)); first | refine iteT' rfl ?_ | refine iteF' rfl ?_)
      ((with_reducible show (ite (_ = true) _ _)); first | refine iteT' rfl ?_ | refine iteF' rfl ?_)
      (with_reducible refine sxs_cons ?_)
      with_reducible refine sx_if ?_
      ((with_reducible show TX _ _ (.BoolOp _ _ _) _ _ _); refine TW.tx ?_)
      (with_reducible refine tw_or ?_)
      ((with_reducible refine tx_cmp ?h_585 ?q_585); (case h_585 => first | exact nomark _ | rfl))
      ((with_reducible refine' ex_callB ?c_586 ?he_586 ?hp_586 ?q_586); (case c_586 => first | with_reducible assumption | exact Blt.fn (by with_reducible assumption) rfl (by first | with_reducible exact bb_len | with_reducible exact bb_isinstance | with_reducible exact bb_max | with_reducible exact bb_min)); (case he_586 => rfl); (case hp_586 => rfl))
      ((with_reducible refine ax_cons ?h_587 ?q_587); (case h_587 => rfl))
      ((with_reducible refine' ex_var (i := 0) (x := "_law_found") ?h_588 ?g_588 ?q_588); (case h_588 => exact At.of rfl rfl a_L_alike_0); (case g_588 => rfl))
      ((with_reducible refine ax_cons ?h_589 ?q_589); (case h_589 => rfl))
      ((with_reducible refine' ex_ty ?c_590 ?q_590); (case c_590 => first | with_reducible assumption | exact Blt.fn (by with_reducible assumption) rfl (by first | with_reducible exact bb_int | with_reducible exact bb_bool | with_reducible exact bb_str | with_reducible exact bb_tuple | with_reducible exact bb_list | with_reducible exact bb_dict)))
      (with_reducible refine ax_nil ?_)
      ((with_reducible refine bx_isiTu ?h_592 ?q_592); (case h_592 => first | rfl | assumption))
      ((with_reducible refine' ex_callB ?c_593 ?he_593 ?hp_593 ?q_593); (case c_593 => first | with_reducible assumption | exact Blt.fn (by with_reducible assumption) rfl (by first | with_reducible exact bb_len | with_reducible exact bb_isinstance | with_reducible exact bb_max | with_reducible exact bb_min)); (case he_593 => rfl); (case hp_593 => rfl))
      ((with_reducible refine ax_cons ?h_594 ?q_594); (case h_594 => rfl))
      ((with_reducible refine' ex_var (i := 1) (x := "_law_due") ?h_595 ?g_595 ?q_595); (case h_595 => exact At.of rfl rfl a_L_alike_1); (case g_595 => rfl))
      ((with_reducible refine ax_cons ?h_596 ?q_596); (case h_596 => rfl))
      ((with_reducible refine' ex_ty ?c_597 ?q_597); (case c_597 => first | with_reducible assumption | exact Blt.fn (by with_reducible assumption) rfl (by first | with_reducible exact bb_int | with_reducible exact bb_bool | with_reducible exact bb_str | with_reducible exact bb_tuple | with_reducible exact bb_list | with_reducible exact bb_dict)))
      (with_reducible refine ax_nil ?_)
      ((with_reducible refine bx_isiTu ?h_599 ?q_599); (case h_599 => first | rfl | assumption))
      (with_reducible refine ox_neB ?_)
      (with_reducible refine asB_bl ?_)
      ((with_reducible show (ite ((!decide (_ = _)) = true) _ _)); (with_reducible refine ite_ndec (fun h => absurd rfl h) (fun _ => ?_)))
      (with_reducible refine tw_or1 ?_)
      (with_reducible refine tx_not ?_)
      ((with_reducible show TX _ _ (.Call _ _ _ _) _ _ _); refine tx_val (fun _ => rfl) ?_)
      ((with_reducible refine' ex_callB ?c_606 ?he_606 ?hp_606 ?q_606); (case c_606 => first | with_reducible assumption | exact Blt.fn (by with_reducible assumption) rfl (by first | with_reducible exact bb_len | with_reducible exact bb_isinstance | with_reducible exact bb_max | with_reducible exact bb_min)); (case he_606 => rfl); (case hp_606 => rfl))
      ((with_reducible refine ax_cons ?h_607 ?q_607); (case h_607 => rfl))
      ((with_reducible refine' ex_var (i := 0) (x := "_law_found") ?h_608 ?g_608 ?q_608); (case h_608 => exact At.of rfl rfl a_L_alike_0); (case g_608 => rfl))
      ((with_reducible refine ax_cons ?h_609 ?q_609); (case h_609 => rfl))
      ((with_reducible refine ex_tup ?q_610))
      ((with_reducible refine ax_cons ?h_611 ?q_611); (case h_611 => rfl))
      ((with_reducible refine' ex_ty ?c_612 ?q_612); (case c_612 => first | with_reducible assumption | exact Blt.fn (by with_reducible assumption) rfl (by first | with_reducible exact bb_int | with_reducible exact bb_bool | with_reducible exact bb_str | with_reducible exact bb_tuple | with_reducible exact bb_list | with_reducible exact bb_dict)))
      ((with_reducible refine ax_cons ?h_613 ?q_613); (case h_613 => rfl))
      ((with_reducible refine' ex_ty ?c_614 ?q_614); (case c_614 => first | with_reducible assumption | exact Blt.fn (by with_reducible assumption) rfl (by first | with_reducible exact bb_int | with_reducible exact bb_bool | with_reducible exact bb_str | with_reducible exact bb_tuple | with_reducible exact bb_list | with_reducible exact bb_dict)))
      (with_reducible refine ax_nil ?_)
      ((with_reducible show (List.length _ ≤ sizeLine ∧ _)); refine And.intro (Nat.le_of_ble_eq_true rfl) ?_)
      (with_reducible refine ax_nil ?_)
      ((with_reducible refine bx_isiTL ?h_618 ?q_618); (case h_618 => first | rfl | assumption))
      (with_reducible refine asB_bl ?_)
      ((with_reducible show (ite (_ = true) _ _)); first | refine iteT' rfl ?_ | refine iteF' rfl ?_)
      (with_reducible refine sxs_nil ?_)
      (with_reducible refine sxs_cons ?_)
      with_reducible refine sx_if ?_
      ((with_reducible refine tx_cmp ?h_624 ?q_624); (case h_624 => first | exact nomark _ | rfl))
      ((with_reducible refine' ex_callB ?c_625 ?he_625 ?hp_625 ?q_625); (case c_625 => first | with_reducible assumption | exact Blt.fn (by with_reducible assumption) rfl (by first | with_reducible exact bb_len | with_reducible exact bb_isinstance | with_reducible exact bb_max | with_reducible exact bb_min)); (case he_625 => rfl); (case hp_625 => rfl))
      ((with_reducible refine ax_cons ?h_626 ?q_626); (case h_626 => rfl))
      ((with_reducible refine' ex_var (i := 0) (x := "_law_found") ?h_627 ?g_627 ?q_627); (case h_627 => exact At.of rfl rfl a_L_alike_0); (case g_627 => rfl))
      (with_reducible refine ax_nil ?_)
      (with_reducible refine bx_lenT ?_)
      ((with_reducible refine' ex_callB ?c_630 ?he_630 ?hp_630 ?q_630); (case c_630 => first | with_reducible assumption | exact Blt.fn (by with_reducible assumption) rfl (by first | with_reducible exact bb_len | with_reducible exact bb_isinstance | with_reducible exact bb_max | with_reducible exact bb_min)); (case he_630 => rfl); (case hp_630 => rfl))
      ((with_reducible refine ax_cons ?h_631 ?q_631); (case h_631 => rfl))
      ((with_reducible refine' ex_var (i := 1) (x := "_law_due") ?h_632 ?g_632 ?q_632); (case h_632 => exact At.of rfl rfl a_L_alike_1); (case g_632 => rfl))
      (with_reducible refine ax_nil ?_)
      (with_reducible refine bx_lenT ?_)
      (with_reducible refine ox_neI ?_)
      (with_reducible refine asB_bl ?_)
      ((with_reducible show (ite ((!decide (_ = _)) = true) _ _)); (with_reducible refine ite_ndec (fun h => absurd rfl h) (fun _ => ?_)))
      (with_reducible refine sxs_nil ?_)
      (with_reducible refine sxs_one ?_)
      (with_reducible refine sx_ret ?_)
      ((with_reducible refine ex_cmp ?h_641 ?q_641); (case h_641 => first | exact nomark _ | rfl))
      refine' ex_lcp (own := [("_law_k", 2)]) (t := .inl 2) ?f rfl sc_L_alike.nd (blkOk_by (N := n_L_alike) (sc := defScope s_L_alike) (by decide +kernel)) (by decide) (fun _ _ _ _ _ => pg_name (i := 2) sc_L_alike.nd rfl (by first | exact Or.inl rfl | exact Or.inr rfl)) (fun _ => rfl) ?_
      case f => exact fun _ => none
      refine lx_range1 rfl zr rfl ?_
      ((with_reducible refine' ex_callB ?c_643 ?he_643 ?hp_643 ?q_643); (case c_643 => first | with_reducible assumption | exact Blt.fn (by with_reducible assumption) rfl (by first | with_reducible exact bb_len | with_reducible exact bb_isinstance | with_reducible exact bb_max | with_reducible exact bb_min)); (case he_643 => rfl); (case hp_643 => rfl))
      ((with_reducible refine ax_cons ?h_644 ?q_644); (case h_644 => rfl))
      ((with_reducible refine' ex_var (i := 1) (x := "_law_due") ?h_645 ?g_645 ?q_645); (case h_645 => exact At.of rfl rfl a_L_alike_1); (case g_645 => rfl))
      (with_reducible refine ax_nil ?_)
      (with_reducible refine bx_lenT ?_)
      refine ⟨_, rfl, by omega, by omega, ⟨?_, fun d M' hdm hm => ?_⟩, ?_⟩
      · rw [rangeD_len]
        exact Nat.lt_of_le_of_lt (by omega : _ ≤ 100000) (by decide)
      · obtain ⟨i, hi⟩ := List.mem_iff_getElem?.mp hdm
        obtain ⟨hlt, rfl⟩ := rangeD_at hi
        have hi2 : i < ds.length := by omega
        have ei : ds[i]? = some ds[i] := List.getElem?_eq_getElem hi2
        refine fun s1 H1 C1 cl1 fp1 => txs_one ?_
        (with_reducible refine tx_not ?_)
        ((with_reducible show TX _ _ (.Call _ _ _ _) _ _ _); refine tx_val (fun _ => rfl) ?_)
        ((with_reducible refine' ex_call ?c_650 ?hr_650 ?hg_650 ?hd_650 ?he_650 ?hp_650 ?q_650); (case c_650 => first | exact Dfn.blk (by with_reducible assumption) | exact Dfn.fnb (by with_reducible assumption)); (case hr_650 => first | assumption | exact Room.mono (by assumption) (by decide)); (case hg_650 => rfl); (case hd_650 => rfl); (case he_650 => rfl); (case hp_650 => rfl))
        ((with_reducible refine ax_cons ?h_651 ?q_651); (case h_651 => rfl))
        ((with_reducible refine ex_sub ?h_652 ?q_652); (case h_652 => exact fun _ _ => rfl))
        ((with_reducible refine' ex_var (i := 0) (x := "_law_found") ?h_653 ?g_653 ?q_653); (case h_653 => exact At.b rfl (by first | exact Or.inl rfl | exact Or.inr (Or.inl rfl) | exact Or.inr (Or.inr rfl))); (case g_653 => rfl))
        ((with_reducible refine' ex_var (i := 2) (x := "_law_k") ?h_654 ?g_654 ?q_654); (case h_654 => exact At.b rfl (by first | exact Or.inl rfl | exact Or.inr (Or.inl rfl) | exact Or.inr (Or.inr rfl))); (case g_654 => rfl))
        refine ix_t (d := ds[i]) (atI_of (i := 0 + (i : Int)) (j := i) (Int.zero_add _) ei) ?_
        ((with_reducible refine ax_cons ?h_655 ?q_655); (case h_655 => rfl))
        ((with_reducible refine ex_sub ?h_656 ?q_656); (case h_656 => exact fun _ _ => rfl))
        ((with_reducible refine' ex_var (i := 1) (x := "_law_due") ?h_657 ?g_657 ?q_657); (case h_657 => exact At.b rfl (by first | exact Or.inl rfl | exact Or.inr (Or.inl rfl) | exact Or.inr (Or.inr rfl))); (case g_657 => rfl))
        ((with_reducible refine' ex_var (i := 2) (x := "_law_k") ?h_658 ?g_658 ?q_658); (case h_658 => exact At.b rfl (by first | exact Or.inl rfl | exact Or.inr (Or.inl rfl) | exact Or.inr (Or.inr rfl))); (case g_658 => rfl))
        refine ix_t (d := ds[i]) (atI_of (i := 0 + (i : Int)) (j := i) (Int.zero_add _) ei) ?_
        (with_reducible refine ax_nil ?_)
        exact ⟨_, rfl, hA _ (List.getElem_mem hi2), hdd _ (List.getElem_mem hi2), rfl, rfl⟩
      · rw [filterMap_none]
        (with_reducible refine ex_cmp0 ?_)
        exact ox_eq0 (n := 0) hr.units (by simp) (by decide) k
    | lst ds =>
      obtain ⟨hl, hA⟩ := okA_lst' ha
      have hdd := (dep_lst.mp hd).2
      with_reducible refine sx_if ?_
      ((with_reducible show TX _ _ (.BoolOp _ _ _) _ _ _); refine TW.tx ?_)
      (with_reducible refine tw_or ?_)
      ((with_reducible show TX _ _ (.Call _ _ _ _) _ _ _); refine tx_val (fun _ => rfl) ?_)
      ((with_reducible refine' ex_callB ?c_665 ?he_665 ?hp_665 ?q_665); (case c_665 => first | with_reducible assumption | exact Blt.fn (by with_reducible assumption) rfl (by first | with_reducible exact bb_len | with_reducible exact bb_isinstance | with_reducible exact bb_max | with_reducible exact bb_min)); (case he_665 => rfl); (case hp_665 => rfl))
      ((with_reducible refine ax_cons ?h_666 ?q_666); (case h_666 => rfl))
      ((with_reducible refine' ex_var (i := 1) (x := "_law_due") ?h_667 ?g_667 ?q_667); (case h_667 => exact At.of rfl rfl a_L_alike_1); (case g_667 => rfl))
      ((with_reducible refine ax_cons ?h_668 ?q_668); (case h_668 => rfl))
      ((with_reducible refine' ex_ty ?c_669 ?q_669); (case c_669 => first | with_reducible assumption | exact Blt.fn (by with_reducible assumption) rfl (by first | with_reducible exact bb_int | with_reducible exact bb_bool | with_reducible exact bb_str | with_reducible exact bb_tuple | with_reducible exact bb_list | with_reducible exact bb_dict)))
      (with_reducible refine ax_nil ?_)
      ((with_reducible refine bx_isiTu ?h_671 ?q_671); (case h_671 => first | rfl | assumption))
      (with_reducible refine asB_bl ?_)
      ((with_reducible show (ite (_ = true) _ _)); first | refine iteT' rfl ?_ | refine iteF' rfl ?_)
      (with_reducible refine tw_or1 ?_)
      ((with_reducible show TX _ _ (.Call _ _ _ _) _ _ _); refine tx_val (fun _ => rfl) ?_)
      ((with_reducible refine' ex_callB ?c_676 ?he_676 ?hp_676 ?q_676); (case c_676 => first | with_reducible assumption | exact Blt.fn (by with_reducible assumption) rfl (by first | with_reducible exact bb_len | with_reducible exact bb_isinstance | with_reducible exact bb_max | with_reducible exact bb_min)); (case he_676 => rfl); (case hp_676 => rfl))
      ((with_reducible refine ax_cons ?h_677 ?q_677); (case h_677 => rfl))
      ((with_reducible refine' ex_var (i := 1) (x := "_law_due") ?h_678 ?g_678 ?q_678); (case h_678 => exact At.of rfl rfl a_L_alike_1); (case g_678 => rfl))
      ((with_reducible refine ax_cons ?h_679 ?q_679); (case h_679 => rfl))
      ((with_reducible refine' ex_ty ?c_680 ?q_680); (case c_680 => first | with_reducible assumption | exact Blt.fn (by with_reducible assumption) rfl (by first | with_reducible exact bb_int | with_reducible exact bb_bool | with_reducible exact bb_str | with_reducible exact bb_tuple | with_reducible exact bb_list | with_reducible exact bb_dict)))
      (with_reducible refine ax_nil ?_)
      ((with_reducible refine bx_isiLi ?h_682 ?q_682); (case h_682 => first | rfl | assumption))
      (with_reducible refine asB_bl ?_)
      ((with_reducible show (ite (_ = true) _ _)); first | refine iteT' rfl ?_ | refine iteF' rfl ?_)
      (with_reducible refine sxs_cons ?_)
      with_reducible refine sx_if ?_
      ((with_reducible show TX _ _ (.BoolOp _ _ _) _ _ _); refine TW.tx ?_)
      (with_reducible refine tw_or ?_)
      ((with_reducible refine tx_cmp ?h_689 ?q_689); (case h_689 => first | exact nomark _ | rfl))
      ((with_reducible refine' ex_callB ?c_690 ?he_690 ?hp_690 ?q_690); (case c_690 => first | with_reducible assumption | exact Blt.fn (by with_reducible assumption) rfl (by first | with_reducible exact bb_len | with_reducible exact bb_isinstance | with_reducible exact bb_max | with_reducible exact bb_min)); (case he_690 => rfl); (case hp_690 => rfl))
      ((with_reducible refine ax_cons ?h_691 ?q_691); (case h_691 => rfl))
      ((with_reducible refine' ex_var (i := 0) (x := "_law_found") ?h_692 ?g_692 ?q_692); (case h_692 => exact At.of rfl rfl a_L_alike_0); (case g_692 => rfl))
      ((with_reducible refine ax_cons ?h_693 ?q_693); (case h_693 => rfl))
      ((with_reducible refine' ex_ty ?c_694 ?q_694); (case c_694 => first | with_reducible assumption | exact Blt.fn (by with_reducible assumption) rfl (by first | with_reducible exact bb_int | with_reducible exact bb_bool | with_reducible exact bb_str | with_reducible exact bb_tuple | with_reducible exact bb_list | with_reducible exact bb_dict)))
      (with_reducible refine ax_nil ?_)
      ((with_reducible refine bx_isiTu ?h_696 ?q_696); (case h_696 => first | rfl | assumption))
      ((with_reducible refine' ex_callB ?c_697 ?he_697 ?hp_697 ?q_697); (case c_697 => first | with_reducible assumption | exact Blt.fn (by with_reducible assumption) rfl (by first | with_reducible exact bb_len | with_reducible exact bb_isinstance | with_reducible exact bb_max | with_reducible exact bb_min)); (case he_697 => rfl); (case hp_697 => rfl))
      ((with_reducible refine ax_cons ?h_698 ?q_698); (case h_698 => rfl))
      ((with_reducible refine' ex_var (i := 1) (x := "_law_due") ?h_699 ?g_699 ?q_699); (case h_699 => exact At.of rfl rfl a_L_alike_1); (case g_699 => rfl))
      ((with_reducible refine ax_cons ?h_700 ?q_700); (case h_700 => rfl))
      ((with_reducible refine' ex_ty ?c_701 ?q_701); (case c_701 => first | with_reducible assumption | exact Blt.fn (by with_reducible assumption) rfl (by first | with_reducible exact bb_int | with_reducible exact bb_bool | with_reducible exact bb_str | with_reducible exact bb_tuple | with_reducible exact bb_list | with_reducible exact bb_dict)))
      (with_reducible refine ax_nil ?_)
      ((with_reducible refine bx_isiTu ?h_703 ?q_703); (case h_703 => first | rfl | assumption))
      (with_reducible refine ox_neB ?_)
      (with_reducible refine asB_bl ?_)
      ((with_reducible show (ite ((!decide (_ = _)) = true) _ _)); (with_reducible refine ite_ndec (fun h => absurd rfl h) (fun _ => ?_)))
      (with_reducible refine tw_or1 ?_)
      (with_reducible refine tx_not ?_)
      ((with_reducible show TX _ _ (.Call _ _ _ _) _ _ _); refine tx_val (fun _ => rfl) ?_)
      ((with_reducible refine' ex_callB ?c_710 ?he_710 ?hp_710 ?q_710); (case c_710 => first | with_reducible assumption | exact Blt.fn (by with_reducible assumption) rfl (by first | with_reducible exact bb_len | with_reducible exact bb_isinstance | with_reducible exact bb_max | with_reducible exact bb_min)); (case he_710 => rfl); (case hp_710 => rfl))
      ((with_reducible refine ax_cons ?h_711 ?q_711); (case h_711 => rfl))
      ((with_reducible refine' ex_var (i := 0) (x := "_law_found") ?h_712 ?g_712 ?q_712); (case h_712 => exact At.of rfl rfl a_L_alike_0); (case g_712 => rfl))
      ((with_reducible refine ax_cons ?h_713 ?q_713); (case h_713 => rfl))
      ((with_reducible refine ex_tup ?q_714))
      ((with_reducible refine ax_cons ?h_715 ?q_715); (case h_715 => rfl))
      ((with_reducible refine' ex_ty ?c_716 ?q_716); (case c_716 => first | with_reducible assumption | exact Blt.fn (by with_reducible assumption) rfl (by first | with_reducible exact bb_int | with_reducible exact bb_bool | with_reducible exact bb_str | with_reducible exact bb_tuple | with_reducible exact bb_list | with_reducible exact bb_dict)))
      ((with_reducible refine ax_cons ?h_717 ?q_717); (case h_717 => rfl))
      ((with_reducible refine' ex_ty ?c_718 ?q_718); (case c_718 => first | with_reducible assumption | exact Blt.fn (by with_reducible assumption) rfl (by first | with_reducible exact bb_int | with_reducible exact bb_bool | with_reducible exact bb_str | with_reducible exact bb_tuple | with_reducible exact bb_list | with_reducible exact bb_dict)))
      (with_reducible refine ax_nil ?_)
      ((with_reducible show (List.length _ ≤ sizeLine ∧ _)); refine And.intro (Nat.le_of_ble_eq_true rfl) ?_)
      (with_reducible refine ax_nil ?_)
      ((with_reducible refine bx_isiTL ?h_722 ?q_722); (case h_722 => first | rfl | assumption))
      (with_reducible refine asB_bl ?_)
      ((with_reducible show (ite (_ = true) _ _)); first | refine iteT' rfl ?_ | refine iteF' rfl ?_)
      (with_reducible refine sxs_nil ?_)
      (with_reducible refine sxs_cons ?_)
      with_reducible refine sx_if ?_
      ((with_reducible refine tx_cmp ?h_728 ?q_728); (case h_728 => first | exact nomark _ | rfl))
      ((with_reducible refine' ex_callB ?c_729 ?he_729 ?hp_729 ?q_729); (case c_729 => first | with_reducible assumption | exact Blt.fn (by with_reducible assumption) rfl (by first | with_reducible exact bb_len | with_reducible exact bb_isinstance | with_reducible exact bb_max | with_reducible exact bb_min)); (case he_729 => rfl); (case hp_729 => rfl))
      ((with_reducible refine ax_cons ?h_730 ?q_730); (case h_730 => rfl))
      ((with_reducible refine' ex_var (i := 0) (x := "_law_found") ?h_731 ?g_731 ?q_731); (case h_731 => exact At.of rfl rfl a_L_alike_0); (case g_731 => rfl))
      (with_reducible refine ax_nil ?_)
      (with_reducible refine bx_lenL ?_)
      ((with_reducible refine' ex_callB ?c_734 ?he_734 ?hp_734 ?q_734); (case c_734 => first | with_reducible assumption | exact Blt.fn (by with_reducible assumption) rfl (by first | with_reducible exact bb_len | with_reducible exact bb_isinstance | with_reducible exact bb_max | with_reducible exact bb_min)); (case he_734 => rfl); (case hp_734 => rfl))
      ((with_reducible refine ax_cons ?h_735 ?q_735); (case h_735 => rfl))
      ((with_reducible refine' ex_var (i := 1) (x := "_law_due") ?h_736 ?g_736 ?q_736); (case h_736 => exact At.of rfl rfl a_L_alike_1); (case g_736 => rfl))
      (with_reducible refine ax_nil ?_)
      (with_reducible refine bx_lenL ?_)
      (with_reducible refine ox_neI ?_)
      (with_reducible refine asB_bl ?_)
      ((with_reducible show (ite ((!decide (_ = _)) = true) _ _)); (with_reducible refine ite_ndec (fun h => absurd rfl h) (fun _ => ?_)))
      (with_reducible refine sxs_nil ?_)
      (with_reducible refine sxs_one ?_)
      (with_reducible refine sx_ret ?_)
      ((with_reducible refine ex_cmp ?h_745 ?q_745); (case h_745 => first | exact nomark _ | rfl))
      refine' ex_lcp (own := [("_law_k", 2)]) (t := .inl 2) ?f rfl sc_L_alike.nd (blkOk_by (N := n_L_alike) (sc := defScope s_L_alike) (by decide +kernel)) (by decide) (fun _ _ _ _ _ => pg_name (i := 2) sc_L_alike.nd rfl (by first | exact Or.inl rfl | exact Or.inr rfl)) (fun _ => rfl) ?_
      case f => exact fun _ => none
      refine lx_range1 rfl zr rfl ?_
      ((with_reducible refine' ex_callB ?c_747 ?he_747 ?hp_747 ?q_747); (case c_747 => first | with_reducible assumption | exact Blt.fn (by with_reducible assumption) rfl (by first | with_reducible exact bb_len | with_reducible exact bb_isinstance | with_reducible exact bb_max | with_reducible exact bb_min)); (case he_747 => rfl); (case hp_747 => rfl))
      ((with_reducible refine ax_cons ?h_748 ?q_748); (case h_748 => rfl))
      ((with_reducible refine' ex_var (i := 1) (x := "_law_due") ?h_749 ?g_749 ?q_749); (case h_749 => exact At.of rfl rfl a_L_alike_1); (case g_749 => rfl))
      (with_reducible refine ax_nil ?_)
      (with_reducible refine bx_lenL ?_)
      refine ⟨_, rfl, by omega, by omega, ⟨?_, fun d M' hdm hm => ?_⟩, ?_⟩
      · rw [rangeD_len]
        exact Nat.lt_of_le_of_lt (by omega : _ ≤ 100000) (by decide)
      · obtain ⟨i, hi⟩ := List.mem_iff_getElem?.mp hdm
        obtain ⟨hlt, rfl⟩ := rangeD_at hi
        have hi2 : i < ds.length := by omega
        have ei : ds[i]? = some ds[i] := List.getElem?_eq_getElem hi2
        refine fun s1 H1 C1 cl1 fp1 => txs_one ?_
        (with_reducible refine tx_not ?_)
        ((with_reducible show TX _ _ (.Call _ _ _ _) _ _ _); refine tx_val (fun _ => rfl) ?_)
        ((with_reducible refine' ex_call ?c_754 ?hr_754 ?hg_754 ?hd_754 ?he_754 ?hp_754 ?q_754); (case c_754 => first | exact Dfn.blk (by with_reducible assumption) | exact Dfn.fnb (by with_reducible assumption)); (case hr_754 => first | assumption | exact Room.mono (by assumption) (by decide)); (case hg_754 => rfl); (case hd_754 => rfl); (case he_754 => rfl); (case hp_754 => rfl))
        ((with_reducible refine ax_cons ?h_755 ?q_755); (case h_755 => rfl))
        ((with_reducible refine ex_sub ?h_756 ?q_756); (case h_756 => exact fun _ _ => rfl))
        ((with_reducible refine' ex_var (i := 0) (x := "_law_found") ?h_757 ?g_757 ?q_757); (case h_757 => exact At.b rfl (by first | exact Or.inl rfl | exact Or.inr (Or.inl rfl) | exact Or.inr (Or.inr rfl))); (case g_757 => rfl))
        ((with_reducible refine' ex_var (i := 2) (x := "_law_k") ?h_758 ?g_758 ?q_758); (case h_758 => exact At.b rfl (by first | exact Or.inl rfl | exact Or.inr (Or.inl rfl) | exact Or.inr (Or.inr rfl))); (case g_758 => rfl))
        refine ix_l (d := ds[i]) (atI_of (i := 0 + (i : Int)) (j := i) (Int.zero_add _) ei) ?_
        ((with_reducible refine ax_cons ?h_759 ?q_759); (case h_759 => rfl))
        ((with_reducible refine ex_sub ?h_760 ?q_760); (case h_760 => exact fun _ _ => rfl))
        ((with_reducible refine' ex_var (i := 1) (x := "_law_due") ?h_761 ?g_761 ?q_761); (case h_761 => exact At.b rfl (by first | exact Or.inl rfl | exact Or.inr (Or.inl rfl) | exact Or.inr (Or.inr rfl))); (case g_761 => rfl))
        ((with_reducible refine' ex_var (i := 2) (x := "_law_k") ?h_762 ?g_762 ?q_762); (case h_762 => exact At.b rfl (by first | exact Or.inl rfl | exact Or.inr (Or.inl rfl) | exact Or.inr (Or.inr rfl))); (case g_762 => rfl))
        refine ix_l (d := ds[i]) (atI_of (i := 0 + (i : Int)) (j := i) (Int.zero_add _) ei) ?_
        (with_reducible refine ax_nil ?_)
        exact ⟨_, rfl, hA _ (List.getElem_mem hi2), hdd _ (List.getElem_mem hi2), rfl, rfl⟩
      · rw [filterMap_none]
        (with_reducible refine ex_cmp0 ?_)
        exact ox_eq0 (n := 0) hr.units (by simp) (by decide) k
    | _ => unfold D.okA at ha; cases ha
theorem ok_L_alike {f : Addr} {fd : FuncData} (Fn : Fun K "_law_alike" "_law_alike" s_L_alike f fd) (mf : mg "_law_alike" = some (.ref f)) (zi : mg "isinstance" = none) (zt : mg "tuple" = none) (zL : mg "list" = none) (zl : mg "len" = none) (zr : mg "range" = none) (zb : mg "bool" = none) (zs : mg "str" = none) (zn : mg "int" = none) :
    FnOk P w K mg base CX0 7 f fd ["_law_found", "_law_due"] (lift K (spAlike 6)) := by
  exact rec_alike Fn mf zi zt zL zl zr zb zs zn 6
end

/-! ### the law's own craft -/
def spLBeaten : DSp := fun ds M Q => ∃ (b : List Cmd) (s : List Wd) (ls : List Lt) (t : Int), ds = [encB b, encSt s, .lst (ls.map encLt), .int t] ∧ BookOk b ∧ s.length = b.length ∧ (∀ l ∈ ls, l.2 < b.length) ∧ ∀ M', Ext M M' → Q (encSt (beatenF b s ls t)) M'
section
variable {P : Program} {w : World} {K : PySem.W.Frag} {mg : Str → Option Value} {base : Heap}
theorem ok_L_beaten {f : Addr} {fd : FuncData} (Fn : Fun K "_law_beaten" "_law_beaten" s_L_beaten f fd) (zl : mg "len" = none) (zr : mg "range" = none) (zL : mg "list" = none) (zt : mg "tuple" = none) : FnOk P w K mg base CX0 1 f fd ["_law_book_here", "_law_state", "_law_letters", "_law_beat"] (lift K spLBeaten) := by
  refine fun_ok Fn sc_L_beaten (fun ds M Q ⟨_, _, _, _, e, _⟩ => by rw [e]; rfl) fun cdv A outer sh H E hr ds M Q h B => ?_
  obtain ⟨b, s, ls, t, rfl, ok, hsl, hls, k⟩ := h
  have h8 := ok.le
  have wb : ("back" : Str) = Wd.back.str := rfl
  unfold encSt encB
  (refine sxs_cons ?_)
  ((with_reducible refine sx_set (i := 4) (x := "_law_found") ?h_2 ?s_2 ?q_2); (case h_2 => exact Lc.of sc_L_beaten.nd rfl rfl (.inl rfl) a_L_beaten_4); (case s_2 => rfl))
  ((with_reducible refine' ex_callTy ?c_3 ?he_3 ?hp_3 ?q_3); (case c_3 => first | with_reducible assumption | exact Blt.fn (by with_reducible assumption) rfl (by first | with_reducible exact bb_int | with_reducible exact bb_bool | with_reducible exact bb_str | with_reducible exact bb_tuple | with_reducible exact bb_list | with_reducible exact bb_dict)); (case he_3 => rfl); (case hp_3 => rfl))
  ((with_reducible refine ax_cons ?h_4 ?q_4); (case h_4 => rfl))
  ((with_reducible refine' ex_var (i := 1) (x := "_law_state") ?h_5 ?g_5 ?q_5); (case h_5 => exact At.of rfl rfl a_L_beaten_1); (case g_5 => rfl))
  (with_reducible refine ax_nil ?_)
  refine bx_listTM fun c fc => ?_
  (with_reducible refine sxs_cons ?_)
  refine sx_for PassesOwn.never rfl (fun _ => rfl) ?_
  refine lx_list ?_
  ((with_reducible refine' ex_var (i := 2) (x := "_law_letters") ?h_8 ?g_8 ?q_8); (case h_8 => exact At.of rfl rfl a_L_beaten_2); (case g_8 => rfl))
  refine ⟨_, rfl, fun i G' M' => ∃ a5 a6 a7 a8 a9 a10 : Option D, G' = [some (.tup (b.map Cmd.enc)), some (.tup (s.map encW)), some (.lst (ls.map encLt)), some (.int t), some (.ref c), a5, a6, a7, a8, a9, a10] ∧ M' = mupd M c (.lst (((ls.take i).foldl heardF s).map encW)), ⟨_, _, _, _, _, _, rfl, rfl⟩, ?_, ?_⟩
  · rintro i d G' M' hd ⟨a5, a6, a7, a8, a9, a10, rfl, rfl⟩
    rw [List.getElem?_map] at hd
    obtain ⟨l, hl, rfl⟩ := Option.map_eq_some_iff.mp hd
    have hn := hls l (List.mem_of_getElem? hl)
    have etk : (ls.take (i + 1)).foldl heardF s = heardF ((ls.take i).foldl heardF s) l := by
      rw [List.take_add_one, hl, List.foldl_append]; rfl
    have hlen : ((ls.take i).foldl heardF s).length = b.length := by rw [foldl_heard_len]; exact hsl
    generalize hq0 : (ls.take i).foldl heardF s = q at *
    clear hq0
    have hq : (q.map encW)[l.2]? = some (encW (q.getD l.2 .none)) := encW_at (by omega)
    have stay : hearW l.1 (q.getD l.2 .none) = q.getD l.2 .none → heardF q l = q := fun e => by
      unfold heardF; rw [e]; exact set_getD (by omega)
    obtain ⟨bk, n⟩ := l
    unfold encLt encN
    have hn' : n < b.length := hn
    cases bk with
    | true =>
      have ew : Lt.wd (true, n) = "back" := rfl
      rw [ew]
      ((with_reducible refine' gx_tup ?c_9 ?l_9 ?h_9 ?g_9 ?q_9); (case c_9 => rfl); (case l_9 => rfl); (case h_9 => rfl); (case g_9 => rfl))
      ((with_reducible refine gxs_cons ?h_10 ?q_10); (case h_10 => rfl))
      ((with_reducible refine gx_name (i := 5) (x := "_law_word") ?h_11 ?q_11); (case h_11 => exact Lc.of sc_L_beaten.nd rfl rfl (.inl rfl) a_L_beaten_5))
      ((with_reducible refine gxs_cons ?h_12 ?q_12); (case h_12 => rfl))
      ((with_reducible refine gx_name (i := 6) (x := "_law_number") ?h_13 ?q_13); (case h_13 => exact Lc.of sc_L_beaten.nd rfl rfl (.inl rfl) a_L_beaten_6))
      (with_reducible refine gxs_nil ?_)
      (with_reducible refine sxs_cons ?_)
      with_reducible refine sx_if ?_
      ((with_reducible show TX _ _ (.BoolOp _ _ _) _ _ _); refine TW.tx ?_)
      (with_reducible refine tw_and ?_)
      ((with_reducible refine tx_cmp ?h_19 ?q_19); (case h_19 => first | exact nomark _ | rfl))
      ((with_reducible refine' ex_var (i := 5) (x := "_law_word") ?h_20 ?g_20 ?q_20); (case h_20 => exact At.of rfl rfl a_L_beaten_5); (case g_20 => rfl))
      (with_reducible refine ex_str ?_)
      (with_reducible refine ox_eqS ?_)
      (with_reducible refine asB_bl ?_)
      ((with_reducible show (ite (decide (_ = _) = true) _ _)); (with_reducible refine ite_dec (fun _ => ?_) (fun h => absurd rfl h)))
      (with_reducible refine tw_and1 ?_)
      ((with_reducible refine tx_cmp ?h_26 ?q_26); (case h_26 => first | exact nomark _ | rfl))
      ((with_reducible refine ex_sub ?h_27 ?q_27); (case h_27 => exact fun _ _ => rfl))
      ((with_reducible refine' ex_var (i := 4) (x := "_law_found") ?h_28 ?g_28 ?q_28); (case h_28 => exact At.of rfl rfl a_L_beaten_4); (case g_28 => rfl))
      ((with_reducible refine' ex_var (i := 6) (x := "_law_number") ?h_29 ?g_29 ?q_29); (case h_29 => exact At.of rfl rfl a_L_beaten_6); (case g_29 => rfl))
      refine ix_c mupd_same (atI_of rfl hq) ?_
      ((with_reducible refine ex_tup ?q_30))
      ((with_reducible refine ax_cons ?h_31 ?q_31); (case h_31 => rfl))
      (with_reducible refine ex_str ?_)
      ((with_reducible refine ax_cons ?h_33 ?q_33); (case h_33 => rfl))
      (with_reducible refine ex_str ?_)
      (with_reducible refine ax_nil ?_)
      ((with_reducible show (List.length _ ≤ sizeLine ∧ _)); refine And.intro (Nat.le_of_ble_eq_true rfl) ?_)
      refine ox_inW (ws := [.none, .held]) ?_
      refine asB_bl (ite_dec (fun h1 => ?_) (fun h1 => ?_))
      · have h1' : q.getD n .none = .none ∨ q.getD n .none = .held := by simpa using h1
        (with_reducible refine sxs_one ?_)
        ((with_reducible refine sx_asg ?h_38 ?g_38 ?i_38 ?q_38); (case h_38 => rfl); (case g_38 => rfl); (case i_38 => rfl))
        (with_reducible refine ex_str ?_)
        refine gx_sub (fun _ => rfl) ?_
        ((with_reducible refine' ex_var (i := 4) (x := "_law_found") ?h_40 ?g_40 ?q_40); (case h_40 => exact At.of rfl rfl a_L_beaten_4); (case g_40 => rfl))
        ((with_reducible refine' ex_var (i := 6) (x := "_law_number") ?h_41 ?g_41 ?q_41); (case h_41 => exact At.of rfl rfl a_L_beaten_6); (case g_41 => rfl))
        refine ⟨c, _, _, n, rfl, rfl, mupd_same, ixN_nat (by rw [List.length_map]; omega), ?_⟩
        (with_reducible refine sxs_one ?_)
        with_reducible refine sx_if ?_
        ((with_reducible show TX _ _ (.BoolOp _ _ _) _ _ _); refine TW.tx ?_)
        (with_reducible refine tw_and ?_)
        ((with_reducible refine tx_cmp ?h_46 ?q_46); (case h_46 => first | exact nomark _ | rfl))
        ((with_reducible refine' ex_var (i := 5) (x := "_law_word") ?h_47 ?g_47 ?q_47); (case h_47 => exact At.of rfl rfl a_L_beaten_5); (case g_47 => rfl))
        (with_reducible refine ex_str ?_)
        (with_reducible refine ox_eqS ?_)
        (with_reducible refine asB_bl ?_)
        ((with_reducible show (ite (_ = true) _ _)); first | refine iteT' rfl ?_ | refine iteF' rfl ?_)
        ((with_reducible show (ite (_ = true) _ _)); first | refine iteT' rfl ?_ | refine iteF' rfl ?_)
        (with_reducible refine sxs_nil ?_)
        refine ⟨_, _, _, _, _, _, rfl, ?_⟩
        rw [mupd_mupd, etk]
        show mupd M c (.lst ((q.map encW).set n (encW .back))) = _
        unfold heardF hearW
        rw [← List.map_set, if_pos rfl, if_pos h1']
      · (with_reducible refine sxs_nil ?_)
        (with_reducible refine sxs_one ?_)
        with_reducible refine sx_if ?_
        ((with_reducible show TX _ _ (.BoolOp _ _ _) _ _ _); refine TW.tx ?_)
        (with_reducible refine tw_and ?_)
        ((with_reducible refine tx_cmp ?h_59 ?q_59); (case h_59 => first | exact nomark _ | rfl))
        ((with_reducible refine' ex_var (i := 5) (x := "_law_word") ?h_60 ?g_60 ?q_60); (case h_60 => exact At.of rfl rfl a_L_beaten_5); (case g_60 => rfl))
        (with_reducible refine ex_str ?_)
        (with_reducible refine ox_eqS ?_)
        (with_reducible refine asB_bl ?_)
        ((with_reducible show (ite (_ = true) _ _)); first | refine iteT' rfl ?_ | refine iteF' rfl ?_)
        ((with_reducible show (ite (_ = true) _ _)); first | refine iteT' rfl ?_ | refine iteF' rfl ?_)
        (with_reducible refine sxs_nil ?_)
        refine ⟨_, _, _, _, _, _, rfl, ?_⟩
        rw [etk, stay ?_]
        show (if true = true then _ else _) = _
        rw [if_pos rfl, if_neg (by simpa using h1)]
    | false =>
      have ew : Lt.wd (false, n) = "cmd" := rfl
      rw [ew]
      ((with_reducible refine' gx_tup ?c_67 ?l_67 ?h_67 ?g_67 ?q_67); (case c_67 => rfl); (case l_67 => rfl); (case h_67 => rfl); (case g_67 => rfl))
      ((with_reducible refine gxs_cons ?h_68 ?q_68); (case h_68 => rfl))
      ((with_reducible refine gx_name (i := 5) (x := "_law_word") ?h_69 ?q_69); (case h_69 => exact Lc.of sc_L_beaten.nd rfl rfl (.inl rfl) a_L_beaten_5))
      ((with_reducible refine gxs_cons ?h_70 ?q_70); (case h_70 => rfl))
      ((with_reducible refine gx_name (i := 6) (x := "_law_number") ?h_71 ?q_71); (case h_71 => exact Lc.of sc_L_beaten.nd rfl rfl (.inl rfl) a_L_beaten_6))
      (with_reducible refine gxs_nil ?_)
      (with_reducible refine sxs_cons ?_)
      with_reducible refine sx_if ?_
      ((with_reducible show TX _ _ (.BoolOp _ _ _) _ _ _); refine TW.tx ?_)
      (with_reducible refine tw_and ?_)
      ((with_reducible refine tx_cmp ?h_77 ?q_77); (case h_77 => first | exact nomark _ | rfl))
      ((with_reducible refine' ex_var (i := 5) (x := "_law_word") ?h_78 ?g_78 ?q_78); (case h_78 => exact At.of rfl rfl a_L_beaten_5); (case g_78 => rfl))
      (with_reducible refine ex_str ?_)
      (with_reducible refine ox_eqS ?_)
      (with_reducible refine asB_bl ?_)
      ((with_reducible show (ite (_ = true) _ _)); first | refine iteT' rfl ?_ | refine iteF' rfl ?_)
      ((with_reducible show (ite (_ = true) _ _)); first | refine iteT' rfl ?_ | refine iteF' rfl ?_)
      (with_reducible refine sxs_nil ?_)
      (with_reducible refine sxs_one ?_)
      with_reducible refine sx_if ?_
      ((with_reducible show TX _ _ (.BoolOp _ _ _) _ _ _); refine TW.tx ?_)
      (with_reducible refine tw_and ?_)
      ((with_reducible refine tx_cmp ?h_89 ?q_89); (case h_89 => first | exact nomark _ | rfl))
      ((with_reducible refine' ex_var (i := 5) (x := "_law_word") ?h_90 ?g_90 ?q_90); (case h_90 => exact At.of rfl rfl a_L_beaten_5); (case g_90 => rfl))
      (with_reducible refine ex_str ?_)
      (with_reducible refine ox_eqS ?_)
      (with_reducible refine asB_bl ?_)
      ((with_reducible show (ite (decide (_ = _) = true) _ _)); (with_reducible refine ite_dec (fun _ => ?_) (fun h => absurd rfl h)))
      (with_reducible refine tw_and1 ?_)
      ((with_reducible refine tx_cmp ?h_96 ?q_96); (case h_96 => first | exact nomark _ | rfl))
      ((with_reducible refine ex_sub ?h_97 ?q_97); (case h_97 => exact fun _ _ => rfl))
      ((with_reducible refine' ex_var (i := 4) (x := "_law_found") ?h_98 ?g_98 ?q_98); (case h_98 => exact At.of rfl rfl a_L_beaten_4); (case g_98 => rfl))
      ((with_reducible refine' ex_var (i := 6) (x := "_law_number") ?h_99 ?g_99 ?q_99); (case h_99 => exact At.of rfl rfl a_L_beaten_6); (case g_99 => rfl))
      refine ix_c mupd_same (atI_of rfl hq) ?_
      (with_reducible refine ex_str ?_)
      refine ox_eqW .none ?_
      refine asB_bl (ite_dec (fun h1 => ?_) (fun h1 => ?_))
      · (with_reducible refine sxs_one ?_)
        ((with_reducible refine sx_asg ?h_102 ?g_102 ?i_102 ?q_102); (case h_102 => rfl); (case g_102 => rfl); (case i_102 => rfl))
        (with_reducible refine ex_str ?_)
        refine gx_sub (fun _ => rfl) ?_
        ((with_reducible refine' ex_var (i := 4) (x := "_law_found") ?h_104 ?g_104 ?q_104); (case h_104 => exact At.of rfl rfl a_L_beaten_4); (case g_104 => rfl))
        ((with_reducible refine' ex_var (i := 6) (x := "_law_number") ?h_105 ?g_105 ?q_105); (case h_105 => exact At.of rfl rfl a_L_beaten_6); (case g_105 => rfl))
        refine ⟨c, _, _, n, rfl, rfl, mupd_same, ixN_nat (by rw [List.length_map]; omega), ?_⟩
        refine ⟨_, _, _, _, _, _, rfl, ?_⟩
        rw [mupd_mupd, etk]
        show mupd M c (.lst ((q.map encW).set n (encW .held))) = _
        unfold heardF hearW
        have h1' : q.getD n .none = .none := h1
        rw [← List.map_set, if_neg (by simp), if_pos h1']
      · (with_reducible refine sxs_nil ?_)
        refine ⟨_, _, _, _, _, _, rfl, ?_⟩
        rw [etk, stay ?_]
        show (if false = true then _ else _) = _
        rw [if_neg (by simp), if_neg h1]
  · rintro G' M' ⟨a5, a6, a7, a8, a9, a10, rfl, rfl⟩
    rw [List.length_map, List.take_length]
    have hlen : (ls.foldl heardF s).length = b.length := by rw [foldl_heard_len]; exact hsl
    have eB : beatenF b s ls t = goneGo t b 0 (ls.foldl heardF s) := rfl
    rw [eB] at k
    generalize ls.foldl heardF s = q0 at *
    (refine sxs_cons ?_)
    refine sx_for PassesOwn.never rfl (fun _ => rfl) ?_
    refine lx_range1 rfl zr rfl ?_
    ((with_reducible refine' ex_callB ?c_108 ?he_108 ?hp_108 ?q_108); (case c_108 => first | with_reducible assumption | exact Blt.fn (by with_reducible assumption) rfl (by first | with_reducible exact bb_len | with_reducible exact bb_isinstance | with_reducible exact bb_max | with_reducible exact bb_min)); (case he_108 => rfl); (case hp_108 => rfl))
    ((with_reducible refine ax_cons ?h_109 ?q_109); (case h_109 => rfl))
    ((with_reducible refine' ex_var (i := 0) (x := "_law_book_here") ?h_110 ?g_110 ?q_110); (case h_110 => exact At.of rfl rfl a_L_beaten_0); (case g_110 => rfl))
    (with_reducible refine ax_nil ?_)
    (with_reducible refine bx_lenT ?_)
    rw [List.length_map]
    refine ⟨_, rfl, by omega, by omega, fun i G' M' => ∃ (q : List Wd) (a5 a6 a7 a8 a9 a10 : Option D), G' = [some (.tup (b.map Cmd.enc)), some (.tup (s.map encW)), some (.lst (ls.map encLt)), some (.int t), some (.ref c), a5, a6, a7, a8, a9, a10] ∧ q.length = b.length ∧ goneGo t (b.drop i) i q = goneGo t b 0 q0 ∧ M' = mupd M c (.lst (q.map encW)),
      ⟨q0, _, _, _, _, _, _, rfl, hlen, rfl, rfl⟩, ?_, ?_⟩
    · rintro i d G' M' hd ⟨q, a5, a6, a7, a8, a9, a10, rfl, hql, hg, rfl⟩
      obtain ⟨hi, rfl⟩ := rangeD_at hd
      have hib : i < b.length := by omega
      have hc : b[i]? = some b[i] := List.getElem?_eq_getElem hib
      generalize hbc : b[i] = cm at hc
      have cok := ok.ok i cm hc
      have hwl := up_len cok.up cok.lt
      have hcm : (b.map Cmd.enc)[i]? = some cm.enc := by rw [List.getElem?_map, hc]; rfl
      have hq : (q.map encW)[i]? = some (encW (q.getD i .none)) := encW_at (by omega)
      rw [List.drop_eq_getElem_cons hib, hbc, goneGo] at hg
      have eone : goneOne cm t q (q.getD i .none) = if q.getD i .none = .held then (if cm.til < t then .late else if cm.when ≤ t ∧ ∀ j ∈ cm.wants, q.getD j .none = .done then .done else .held) else q.getD i .none := rfl
      have stay : goneOne cm t q (q.getD i .none) = q.getD i .none → goneGo t (b.drop (i + 1)) (i + 1) q = goneGo t b 0 q0 := fun e => by
        rw [e, set_getD (by omega)] at hg; exact hg
      ((with_reducible refine gx_name (i := 6) (x := "_law_number") ?h_113 ?q_113); (case h_113 => exact Lc.of sc_L_beaten.nd rfl rfl (.inl rfl) a_L_beaten_6))
      (with_reducible refine sxs_cons ?_)
      ((with_reducible refine sx_asg ?h_115 ?g_115 ?i_115 ?q_115); (case h_115 => rfl); (case g_115 => rfl); (case i_115 => rfl))
      ((with_reducible refine ex_sub ?h_116 ?q_116); (case h_116 => exact fun _ _ => rfl))
      ((with_reducible refine' ex_var (i := 0) (x := "_law_book_here") ?h_117 ?g_117 ?q_117); (case h_117 => exact At.of rfl rfl a_L_beaten_0); (case g_117 => rfl))
      ((with_reducible refine' ex_var (i := 6) (x := "_law_number") ?h_118 ?g_118 ?q_118); (case h_118 => exact At.of rfl rfl a_L_beaten_6); (case g_118 => rfl))
      refine ix_t (atI_of (Int.zero_add _) hcm) ?_
      unfold Cmd.enc
      ((with_reducible refine' gx_tup ?c_119 ?l_119 ?h_119 ?g_119 ?q_119); (case c_119 => rfl); (case l_119 => rfl); (case h_119 => rfl); (case g_119 => rfl))
      ((with_reducible refine gxs_cons ?h_120 ?q_120); (case h_120 => rfl))
      ((with_reducible refine gx_name (i := 7) (x := "_law_when") ?h_121 ?q_121); (case h_121 => exact Lc.of sc_L_beaten.nd rfl rfl (.inl rfl) a_L_beaten_7))
      ((with_reducible refine gxs_cons ?h_122 ?q_122); (case h_122 => rfl))
      ((with_reducible refine gx_name (i := 8) (x := "_law_until") ?h_123 ?q_123); (case h_123 => exact Lc.of sc_L_beaten.nd rfl rfl (.inl rfl) a_L_beaten_8))
      ((with_reducible refine gxs_cons ?h_124 ?q_124); (case h_124 => rfl))
      ((with_reducible refine gx_name (i := 9) (x := "_law_wants") ?h_125 ?q_125); (case h_125 => exact Lc.of sc_L_beaten.nd rfl rfl (.inl rfl) a_L_beaten_9))
      (with_reducible refine gxs_nil ?_)
      (with_reducible refine sxs_one ?_)
      with_reducible refine sx_if ?_
      ((with_reducible show TX _ _ (.BoolOp _ _ _) _ _ _); refine TW.tx ?_)
      (with_reducible refine tw_and ?_)
      ((with_reducible refine tx_cmp ?h_131 ?q_131); (case h_131 => first | exact nomark _ | rfl))
      ((with_reducible refine ex_sub ?h_132 ?q_132); (case h_132 => exact fun _ _ => rfl))
      ((with_reducible refine' ex_var (i := 4) (x := "_law_found") ?h_133 ?g_133 ?q_133); (case h_133 => exact At.of rfl rfl a_L_beaten_4); (case g_133 => rfl))
      ((with_reducible refine' ex_var (i := 6) (x := "_law_number") ?h_134 ?g_134 ?q_134); (case h_134 => exact At.of rfl rfl a_L_beaten_6); (case g_134 => rfl))
      refine ix_c mupd_same (atI_of (Int.zero_add _) hq) ?_
      (with_reducible refine ex_str ?_)
      refine ox_eqW .held ?_
      refine asB_bl (ite_dec (fun h1 => ?_) (fun h1 => ?_))
      · rw [if_pos h1] at eone
        (with_reducible refine tw_and1 ?_)
        ((with_reducible refine tx_cmp ?h_137 ?q_137); (case h_137 => first | exact nomark _ | rfl))
        ((with_reducible refine' ex_var (i := 3) (x := "_law_beat") ?h_138 ?g_138 ?q_138); (case h_138 => exact At.of rfl rfl a_L_beaten_3); (case g_138 => rfl))
        ((with_reducible refine' ex_var (i := 8) (x := "_law_until") ?h_139 ?g_139 ?q_139); (case h_139 => exact At.of rfl rfl a_L_beaten_8); (case g_139 => rfl))
        (with_reducible refine ox_gt ?_)
        (with_reducible refine asB_bl ?_)
        refine ite_dec (fun h2 => ?_) (fun h2 => ?_)
        · rw [if_pos h2] at eone
          (with_reducible refine sxs_one ?_)
          ((with_reducible refine sx_asg ?h_143 ?g_143 ?i_143 ?q_143); (case h_143 => rfl); (case g_143 => rfl); (case i_143 => rfl))
          (with_reducible refine ex_str ?_)
          refine gx_sub (fun _ => rfl) ?_
          ((with_reducible refine' ex_var (i := 4) (x := "_law_found") ?h_145 ?g_145 ?q_145); (case h_145 => exact At.of rfl rfl a_L_beaten_4); (case g_145 => rfl))
          ((with_reducible refine' ex_var (i := 6) (x := "_law_number") ?h_146 ?g_146 ?q_146); (case h_146 => exact At.of rfl rfl a_L_beaten_6); (case g_146 => rfl))
          refine ⟨c, _, _, i, rfl, rfl, mupd_same, (by rw [Int.zero_add]; exact ixN_nat (by rw [List.length_map]; omega)), ?_⟩
          refine ⟨q.set i .late, _, _, _, _, _, _, rfl, by simp [hql], by rw [← eone]; exact hg, ?_⟩
          rw [mupd_mupd, List.map_set]; rfl
        · rw [if_neg h2] at eone
          (with_reducible refine sxs_one ?_)
          with_reducible refine sx_if ?_
          ((with_reducible show TX _ _ (.BoolOp _ _ _) _ _ _); refine TW.tx ?_)
          (with_reducible refine tw_and ?_)
          ((with_reducible refine tx_cmp ?h_151 ?q_151); (case h_151 => first | exact nomark _ | rfl))
          ((with_reducible refine ex_sub ?h_152 ?q_152); (case h_152 => exact fun _ _ => rfl))
          ((with_reducible refine' ex_var (i := 4) (x := "_law_found") ?h_153 ?g_153 ?q_153); (case h_153 => exact At.of rfl rfl a_L_beaten_4); (case g_153 => rfl))
          ((with_reducible refine' ex_var (i := 6) (x := "_law_number") ?h_154 ?g_154 ?q_154); (case h_154 => exact At.of rfl rfl a_L_beaten_6); (case g_154 => rfl))
          refine ix_c mupd_same (atI_of (Int.zero_add _) hq) ?_
          (with_reducible refine ex_str ?_)
          refine ox_eqW .held ?_
          refine asB_bl (iteT' (decide_eq_true h1) ?_)
          (with_reducible refine tw_and1 ?_)
          ((with_reducible refine tx_cmp ?h_157 ?q_157); (case h_157 => first | exact nomark _ | rfl))
          ((with_reducible refine' ex_var (i := 3) (x := "_law_beat") ?h_158 ?g_158 ?q_158); (case h_158 => exact At.of rfl rfl a_L_beaten_3); (case g_158 => rfl))
          ((with_reducible refine' ex_var (i := 7) (x := "_law_when") ?h_159 ?g_159 ?q_159); (case h_159 => exact At.of rfl rfl a_L_beaten_7); (case g_159 => rfl))
          (with_reducible refine ox_ge ?_)
          (with_reducible refine asB_bl ?_)
          refine ite_dec (fun h3 => ?_) (fun h3 => ?_)
          · (with_reducible refine sxs_one ?_)
            with_reducible refine sx_if ?_
            ((with_reducible refine tx_cmp ?h_164 ?q_164); (case h_164 => first | exact nomark _ | rfl))
            refine' ex_lcp (own := [("_law_one", 10)]) (t := .inl 10) ?f rfl sc_L_beaten.nd (blkOk_by (N := n_L_beaten) (sc := defScope s_L_beaten) (by decide +kernel)) (by decide) (fun _ _ _ _ _ => pg_name (i := 10) sc_L_beaten.nd rfl (by first | exact Or.inl rfl | exact Or.inr rfl)) (fun _ => rfl) ?_
            case f => exact fun d => match d with
              | .int j => some (encW (q.getD j.toNat .none))
              | _ => none
            refine lx_tup ?_
            ((with_reducible refine' ex_var (i := 9) (x := "_law_wants") ?h_166 ?g_166 ?q_166); (case h_166 => exact At.of rfl rfl a_L_beaten_9); (case g_166 => rfl))
            refine ⟨_, rfl, ⟨?_, fun d M' hd hm => ?_⟩, ?_⟩
            · rw [List.length_map]
              exact Nat.lt_of_le_of_lt (by omega : _ ≤ 8) (by decide)
            · obtain ⟨n, hn, rfl⟩ := List.mem_map.mp hd
              have hlt := cok.lt n hn
              refine fun s1 H1 C1 cl1 fp1 => txs_nil (iteT fun s2 H2 C2 cl2 fp2 => ?_)
              ((with_reducible refine ex_sub ?h_167 ?q_167); (case h_167 => exact fun _ _ => rfl))
              ((with_reducible refine' ex_var (i := 4) (x := "_law_found") ?h_168 ?g_168 ?q_168); (case h_168 => exact At.b rfl (by first | exact Or.inl rfl | exact Or.inr (Or.inl rfl) | exact Or.inr (Or.inr rfl))); (case g_168 => rfl))
              ((with_reducible refine' ex_var (i := 10) (x := "_law_one") ?h_169 ?g_169 ?q_169); (case h_169 => exact At.b rfl (by first | exact Or.inl rfl | exact Or.inr (Or.inl rfl) | exact Or.inr (Or.inr rfl))); (case g_169 => rfl))
              refine ix_c (hm c _ mupd_same) (atI_of rfl (encW_at (by omega))) ?_
              exact ⟨rfl, rfl⟩
            have eW : (cm.wants.map encN).filterMap (fun d => match d with
              | .int j => some (encW (q.getD j.toNat .none))
              | _ => none) = (cm.wants.map fun j => q.getD j .none).map encW := by
              rw [filterMap_enc (enc := encN) (g := fun j => encW (q.getD j .none)) (fun _ _ => rfl), List.map_map]; rfl
            rw [eW]
            (with_reducible refine ex_binL ?_)
            ((with_reducible refine ax_cons ?h_171 ?q_171); (case h_171 => rfl))
            (with_reducible refine ex_str ?_)
            (with_reducible refine ax_nil ?_)
            ((with_reducible show (List.length _ ≤ sizeLine ∧ _)); refine And.intro (Nat.le_of_ble_eq_true rfl) ?_)
            ((with_reducible refine' ex_callB ?c_175 ?he_175 ?hp_175 ?q_175); (case c_175 => first | with_reducible assumption | exact Blt.fn (by with_reducible assumption) rfl (by first | with_reducible exact bb_len | with_reducible exact bb_isinstance | with_reducible exact bb_max | with_reducible exact bb_min)); (case he_175 => rfl); (case hp_175 => rfl))
            ((with_reducible refine ax_cons ?h_176 ?q_176); (case h_176 => rfl))
            ((with_reducible refine' ex_var (i := 9) (x := "_law_wants") ?h_177 ?g_177 ?q_177); (case h_177 => exact At.of rfl rfl a_L_beaten_9); (case g_177 => rfl))
            (with_reducible refine ax_nil ?_)
            (with_reducible refine bx_lenT ?_)
            rw [List.length_map]
            refine ox_repL (by omega) ?_ (by omega)
            have eD : List.replicate (cm.wants.length : Int).toNat (D.str "done") = (List.replicate cm.wants.length Wd.done).map encW := by
              rw [List.map_replicate]; rfl
            rw [eD]
            refine ox_eqD hr.units (okEq_lst strs_okE (by decide)) (okEq_lst strs_okE (by decide)) ?_
            rw [eqD_lst, eqDs_encW, dec_of done_eq]
            refine asB_bl (ite_dec (fun h4 => ?_) (fun h4 => ?_))
            · rw [if_pos ⟨h3, h4⟩] at eone
              (with_reducible refine sxs_one ?_)
              ((with_reducible refine sx_asg ?h_181 ?g_181 ?i_181 ?q_181); (case h_181 => rfl); (case g_181 => rfl); (case i_181 => rfl))
              (with_reducible refine ex_str ?_)
              refine gx_sub (fun _ => rfl) ?_
              ((with_reducible refine' ex_var (i := 4) (x := "_law_found") ?h_183 ?g_183 ?q_183); (case h_183 => exact At.of rfl rfl a_L_beaten_4); (case g_183 => rfl))
              ((with_reducible refine' ex_var (i := 6) (x := "_law_number") ?h_184 ?g_184 ?q_184); (case h_184 => exact At.of rfl rfl a_L_beaten_6); (case g_184 => rfl))
              refine ⟨c, _, _, i, rfl, rfl, mupd_same, (by rw [Int.zero_add]; exact ixN_nat (by rw [List.length_map]; omega)), ?_⟩
              refine ⟨q.set i .done, _, _, _, _, _, _, rfl, by simp [hql], by rw [← eone]; exact hg, ?_⟩
              rw [mupd_mupd, List.map_set]; rfl
            · rw [if_neg (fun z => h4 z.2)] at eone
              (with_reducible refine sxs_nil ?_)
              exact ⟨q, _, _, _, _, _, _, rfl, hql, stay (by rw [eone, h1]), rfl⟩
          · rw [if_neg (fun z => h3 z.1)] at eone
            (with_reducible refine sxs_nil ?_)
            exact ⟨q, _, _, _, _, _, _, rfl, hql, stay (by rw [eone, h1]), rfl⟩
      · rw [if_neg h1] at eone
        ((with_reducible show (ite (_ = true) _ _)); first | refine iteT' rfl ?_ | refine iteF' rfl ?_)
        (with_reducible refine sxs_one ?_)
        with_reducible refine sx_if ?_
        ((with_reducible show TX _ _ (.BoolOp _ _ _) _ _ _); refine TW.tx ?_)
        (with_reducible refine tw_and ?_)
        ((with_reducible refine tx_cmp ?h_192 ?q_192); (case h_192 => first | exact nomark _ | rfl))
        ((with_reducible refine ex_sub ?h_193 ?q_193); (case h_193 => exact fun _ _ => rfl))
        ((with_reducible refine' ex_var (i := 4) (x := "_law_found") ?h_194 ?g_194 ?q_194); (case h_194 => exact At.of rfl rfl a_L_beaten_4); (case g_194 => rfl))
        ((with_reducible refine' ex_var (i := 6) (x := "_law_number") ?h_195 ?g_195 ?q_195); (case h_195 => exact At.of rfl rfl a_L_beaten_6); (case g_195 => rfl))
        refine ix_c mupd_same (atI_of (Int.zero_add _) hq) ?_
        (with_reducible refine ex_str ?_)
        refine ox_eqW .held ?_
        refine asB_bl (iteF' (decide_eq_false h1) ?_)
        ((with_reducible show (ite (_ = true) _ _)); first | refine iteT' rfl ?_ | refine iteF' rfl ?_)
        (with_reducible refine sxs_nil ?_)
        exact ⟨q, _, _, _, _, _, _, rfl, hql, stay eone, rfl⟩
    · rintro G' M' ⟨q, a5, a6, a7, a8, a9, a10, rfl, hql, hg, rfl⟩
      have hn : (rangeD 0 (b.length : Int).toNat).length = b.length := by rw [rangeD_len]; omega
      rw [hn, List.drop_length] at hg
      have e : q = goneGo t b 0 q0 := hg
      (refine sxs_one ?_)
      (with_reducible refine sx_ret ?_)
      ((with_reducible refine' ex_callTy ?c_201 ?he_201 ?hp_201 ?q_201); (case c_201 => first | with_reducible assumption | exact Blt.fn (by with_reducible assumption) rfl (by first | with_reducible exact bb_int | with_reducible exact bb_bool | with_reducible exact bb_str | with_reducible exact bb_tuple | with_reducible exact bb_list | with_reducible exact bb_dict)); (case he_201 => rfl); (case hp_201 => rfl))
      ((with_reducible refine ax_cons ?h_202 ?q_202); (case h_202 => rfl))
      ((with_reducible refine' ex_var (i := 4) (x := "_law_found") ?h_203 ?g_203 ?q_203); (case h_203 => exact At.of rfl rfl a_L_beaten_4); (case g_203 => rfl))
      (with_reducible refine ax_nil ?_)
      refine bx_tupC mupd_same ?_
      rw [e]
      exact k _ (Ext.new fc)
end

/-! ### the law's own going on -/
def fNow (t : Int) : Option Int → Option Int
  | some d => if d < t then some d else none
  | none => none
def foundAt (D : List (Option Int)) (t : Int) : List (Option Int) := D.map (fNow t)
theorem foundAt_get {D : List (Option Int)} {t : Int} {k : Nat} : (foundAt D t).getD k none = fNow t (D.getD k none) := by
  unfold foundAt
  rw [List.getD_eq_getElem?_getD, List.getElem?_map, List.getD_eq_getElem?_getD]
  cases D[k]? <;> rfl
theorem encO_at {s : List (Option Int)} {n : Nat} (h : n < s.length) : (s.map encO')[n]? = some (encO' (s.getD n none)) := by
  rw [List.getElem?_map, List.getElem?_eq_getElem h, List.getD_eq_getElem?_getD, List.getElem?_eq_getElem h]; rfl
def spLDone : DSp := fun ds M Q => ∃ (b : List Cmd) (comes : List (Option Int)), ds = [encB b, .lst (comes.map encO')] ∧ BookOk b ∧ comes.length = b.length ∧ (∀ x, some x ∈ comes → 0 ≤ x ∧ x ≤ 1000) ∧ ∀ M', Ext M M' → Q (.lst ((doneAt b comes).map encO')) M'
section
variable {P : Program} {w : World} {K : PySem.W.Frag} {mg : Str → Option Value} {base : Heap}
theorem ok_L_done_at {f : Addr} {fd : FuncData} (Fn : Fun K "_law_done_at" "_law_done_at" s_L_done_at f fd) (zl : mg "len" = none) (zr : mg "range" = none) (zx : mg "max" = none) (dB : Dfn P w K mg base 1 "_law_beaten" spLBeaten) : FnOk P w K mg base CX0 2 f fd ["_law_book_here", "_law_comes"] (lift K spLDone) := by
  refine fun_ok Fn sc_L_done_at (fun ds M Q ⟨_, _, e, _⟩ => by rw [e]; rfl) fun cdv A outer sh H E hr ds M Q h B => ?_
  obtain ⟨b, comes, rfl, ok, hlen, hcm, k⟩ := h
  have h8 := ok.le
  have hpos : 0 < b.length := List.length_pos_iff.mpr ok.ne
  have hDl := doneAt_len (b := b) (comes := comes)
  unfold encB
  (refine sxs_cons ?_)
  refine sx_par (i := 2) (j := 3) rfl sc_L_done_at.nd rfl rfl (by decide) rfl rfl rfl rfl rfl rfl ?_
  (with_reducible refine ex_bin ?_)
  ((with_reducible refine ex_tup ?q_3))
  ((with_reducible refine ax_cons ?h_4 ?q_4); (case h_4 => rfl))
  (with_reducible refine ex_str ?_)
  (with_reducible refine ax_nil ?_)
  ((with_reducible show (List.length _ ≤ sizeLine ∧ _)); refine And.intro (Nat.le_of_ble_eq_true rfl) ?_)
  ((with_reducible refine' ex_callB ?c_8 ?he_8 ?hp_8 ?q_8); (case c_8 => first | with_reducible assumption | exact Blt.fn (by with_reducible assumption) rfl (by first | with_reducible exact bb_len | with_reducible exact bb_isinstance | with_reducible exact bb_max | with_reducible exact bb_min)); (case he_8 => rfl); (case hp_8 => rfl))
  ((with_reducible refine ax_cons ?h_9 ?q_9); (case h_9 => rfl))
  ((with_reducible refine' ex_var (i := 0) (x := "_law_book_here") ?h_10 ?g_10 ?q_10); (case h_10 => exact At.of rfl rfl a_L_done_at_0); (case g_10 => rfl))
  (with_reducible refine ax_nil ?_)
  (with_reducible refine bx_lenT ?_)
  rw [List.length_map]
  refine ox_repT (by omega) (by omega) ?_
  (with_reducible refine ex_binL ?_)
  ((with_reducible refine ax_cons ?h_14 ?q_14); (case h_14 => rfl))
  (with_reducible refine ex_non ?_)
  (with_reducible refine ax_nil ?_)
  ((with_reducible show (List.length _ ≤ sizeLine ∧ _)); refine And.intro (Nat.le_of_ble_eq_true rfl) ?_)
  ((with_reducible refine' ex_callB ?c_18 ?he_18 ?hp_18 ?q_18); (case c_18 => first | with_reducible assumption | exact Blt.fn (by with_reducible assumption) rfl (by first | with_reducible exact bb_len | with_reducible exact bb_isinstance | with_reducible exact bb_max | with_reducible exact bb_min)); (case he_18 => rfl); (case hp_18 => rfl))
  ((with_reducible refine ax_cons ?h_19 ?q_19); (case h_19 => rfl))
  ((with_reducible refine' ex_var (i := 0) (x := "_law_book_here") ?h_20 ?g_20 ?q_20); (case h_20 => exact At.of rfl rfl a_L_done_at_0); (case g_20 => rfl))
  (with_reducible refine ax_nil ?_)
  (with_reducible refine bx_lenT ?_)
  rw [List.length_map]
  refine ox_repLM (by omega) (by omega) fun c fc => ?_
  (with_reducible refine sxs_cons ?_)
  ((with_reducible refine sx_set (i := 4) (x := "_law_last") ?h_24 ?s_24 ?q_24); (case h_24 => exact Lc.of sc_L_done_at.nd rfl rfl (.inl rfl) a_L_done_at_4); (case s_24 => rfl))
  ((with_reducible refine' ex_callB ?c_25 ?he_25 ?hp_25 ?q_25); (case c_25 => first | with_reducible assumption | exact Blt.fn (by with_reducible assumption) rfl (by first | with_reducible exact bb_len | with_reducible exact bb_isinstance | with_reducible exact bb_max | with_reducible exact bb_min)); (case he_25 => rfl); (case hp_25 => rfl))
  ((with_reducible refine ax_cons ?h_26 ?q_26); (case h_26 => rfl))
  (with_reducible refine ex_bin ?_)
  refine' ex_lcp (own := [("_law_one", 9)]) (t := .inl 9) ?f rfl sc_L_done_at.nd (blkOk_by (N := n_L_done_at) (sc := defScope s_L_done_at) (by decide +kernel)) (by decide) (fun _ _ _ _ _ => pg_name (i := 9) sc_L_done_at.nd rfl (by first | exact Or.inl rfl | exact Or.inr rfl)) (fun _ => rfl) ?_
  case f => exact fun d => match d with
    | .int x => some (.int x)
    | _ => none
  refine lx_list ?_
  ((with_reducible refine' ex_var (i := 1) (x := "_law_comes") ?h_29 ?g_29 ?q_29); (case h_29 => exact At.of rfl rfl a_L_done_at_1); (case g_29 => rfl))
  refine ⟨_, rfl, ⟨?_, fun d M' hd hm => ?_⟩, ?_⟩
  · rw [List.length_map]
    exact Nat.lt_of_le_of_lt (by omega : _ ≤ 8) (by decide)
  · obtain ⟨o, ho, rfl⟩ := List.mem_map.mp hd
    refine fun s1 H1 C1 cl1 fp1 => txs_one ?_
    cases o with
    | none =>
      ((with_reducible refine tx_cmp ?h_30 ?q_30); (case h_30 => first | exact nomark _ | rfl))
      ((with_reducible refine' ex_var (i := 9) (x := "_law_one") ?h_31 ?g_31 ?q_31); (case h_31 => exact At.b rfl (by first | exact Or.inl rfl | exact Or.inr (Or.inl rfl) | exact Or.inr (Or.inr rfl))); (case g_31 => rfl))
      (with_reducible refine ex_non ?_)
      (with_reducible refine ox_isnot ?_)
      (with_reducible refine asB_bl ?_)
      ((with_reducible show (ite (_ = true) _ _)); first | refine iteT' rfl ?_ | refine iteF' rfl ?_)
      exact ⟨rfl, rfl⟩
    | some x =>
      ((with_reducible refine tx_cmp ?h_36 ?q_36); (case h_36 => first | exact nomark _ | rfl))
      ((with_reducible refine' ex_var (i := 9) (x := "_law_one") ?h_37 ?g_37 ?q_37); (case h_37 => exact At.b rfl (by first | exact Or.inl rfl | exact Or.inr (Or.inl rfl) | exact Or.inr (Or.inr rfl))); (case g_37 => rfl))
      (with_reducible refine ex_non ?_)
      (with_reducible refine ox_isnot ?_)
      (with_reducible refine asB_bl ?_)
      ((with_reducible show (ite (_ = true) _ _)); first | refine iteT' rfl ?_ | refine iteF' rfl ?_)
      refine fun s2 H2 C2 cl2 fp2 => ?_
      ((with_reducible refine' ex_var (i := 9) (x := "_law_one") ?h_42 ?g_42 ?q_42); (case h_42 => exact At.b rfl (by first | exact Or.inl rfl | exact Or.inr (Or.inl rfl) | exact Or.inr (Or.inr rfl))); (case g_42 => rfl))
      exact ⟨rfl, rfl⟩
  have e0 : (comes.map encO').filterMap (fun d => match d with
    | .int x => some (.int x)
    | _ => none) = (comes.filterMap id).map D.int := by
    rw [List.filterMap_map, List.map_filterMap]
    refine congrArg (fun f => List.filterMap f comes) (funext fun o => ?_)
    cases o <;> rfl
  rw [e0]
  refine' ex_lcp (own := [("_law_command", 10)]) (t := .inl 10) ?f rfl sc_L_done_at.nd (blkOk_by (N := n_L_done_at) (sc := defScope s_L_done_at) (by decide +kernel)) (by decide) (fun _ _ _ _ _ => pg_name (i := 10) sc_L_done_at.nd rfl (by first | exact Or.inl rfl | exact Or.inr rfl)) (fun _ => rfl) ?_
  case f => exact fun d => match d with
    | .tup (x :: _) => some x
    | _ => none
  refine lx_tup ?_
  ((with_reducible refine' ex_var (i := 0) (x := "_law_book_here") ?h_44 ?g_44 ?q_44); (case h_44 => exact At.of rfl rfl a_L_done_at_0); (case g_44 => rfl))
  refine ⟨_, rfl, ⟨?_, fun d M' hd hm => ?_⟩, ?_⟩
  · rw [List.length_map]
    exact Nat.lt_of_le_of_lt (by omega : _ ≤ 8) (by decide)
  · obtain ⟨c, hc, rfl⟩ := List.mem_map.mp hd
    refine fun s1 H1 C1 cl1 fp1 => txs_nil (iteT fun s2 H2 C2 cl2 fp2 => ?_)
    unfold Cmd.enc
    ((with_reducible refine ex_sub ?h_45 ?q_45); (case h_45 => exact fun _ _ => rfl))
    ((with_reducible refine' ex_var (i := 10) (x := "_law_command") ?h_46 ?g_46 ?q_46); (case h_46 => exact At.b rfl (by first | exact Or.inl rfl | exact Or.inr (Or.inl rfl) | exact Or.inr (Or.inr rfl))); (case g_46 => rfl))
    (with_reducible refine ex_int ?_)
    ((with_reducible show (IX _ _ (.tup _) (.int _) _ _ _)); refine ix_t rfl ?_)
    exact ⟨rfl, rfl⟩
  have e1 : (b.map Cmd.enc).filterMap (fun d => match d with
    | .tup (x :: _) => some x
    | _ => none) = (b.map Cmd.when).map D.int := by
    rw [filterMap_enc (enc := Cmd.enc) (g := fun c => D.int c.when) (fun _ _ => rfl), List.map_map]; rfl
  rw [e1]
  refine ox_catL IsL.fz IsL.fz ?_ ?_
  · have : (comes.filterMap id).length ≤ comes.length := List.length_filterMap_le _ _
    rw [List.length_map, List.length_map, List.length_map]
    exact Nat.le_trans (by omega : _ ≤ 16) (by decide)
  (with_reducible refine ax_nil ?_)
  refine bx_maxL (ns := comes.filterMap id ++ b.map Cmd.when) rfl (by rw [List.map_append]; exact IsL.fz) ?_ fun m hm1 hm2 => ?_
  · intro e
    have := congrArg List.length e
    simp at this
    exact ok.ne this.2
  have mc : ∀ x, some x ∈ comes → x ≤ m := fun x hx => hm2 x (List.mem_append_left _ (List.mem_filterMap.mpr ⟨some x, hx, rfl⟩))
  have mw : ∀ c ∈ b, c.when ≤ m := fun c hc => hm2 _ (List.mem_append_right _ (List.mem_map.mpr ⟨c, hc, rfl⟩))
  have m0 : 0 ≤ m := by
    have hb0 : b[0]? = some b[0] := List.getElem?_eq_getElem hpos
    have h1 := (ok.ok 0 _ hb0).w0
    have h2 := mw _ (List.getElem_mem hpos)
    omega
  have m1 : m ≤ 1000 := by
    rcases List.mem_append.mp hm1 with z | z
    · obtain ⟨o, ho, e⟩ := List.mem_filterMap.mp z
      have e' : o = some m := e
      exact (hcm m (e' ▸ ho)).2
    · obtain ⟨c, hc, e⟩ := List.mem_map.mp z
      obtain ⟨i, hi⟩ := List.mem_iff_getElem?.mp hc
      have := ok.ok i c hi
      have h1 := this.w1
      have h2 := this.w2
      omega
  (with_reducible refine sxs_cons ?_)
  refine sx_for PassesOwn.never rfl (fun _ => rfl) ?_
  refine lx_range1 rfl zr rfl ?_
  (with_reducible refine ex_bin ?_)
  ((with_reducible refine' ex_var (i := 4) (x := "_law_last") ?h_52 ?g_52 ?q_52); (case h_52 => exact At.of rfl rfl a_L_done_at_4); (case g_52 => rfl))
  (with_reducible refine ex_int ?_)
  (with_reducible refine ox_add ?_)
  have eS : D.tup (List.replicate (b.length : Int).toNat (D.str "none")) = encSt (simS b comes 0) := by
    unfold encSt simS
    rw [List.map_replicate]; rfl
  have eF : List.replicate (b.length : Int).toNat D.non = (foundAt (doneAt b comes) 0).map encO' := by
    have z : foundAt (doneAt b comes) 0 = List.replicate b.length none := by
      refine ext_getD none (by simp [foundAt, hDl]) fun j hj => ?_
      rw [foundAt_get]
      have hj' : j < b.length := by simpa [foundAt, hDl] using hj
      have er : (List.replicate b.length (none : Option Int)).getD j none = none := by
        rw [List.getD_eq_getElem?_getD, List.getElem?_replicate]; split <;> rfl
      rw [er]
      cases q : (doneAt b comes).getD j none with
      | none => rfl
      | some d =>
        have hbj : b[j]? = some b[j] := List.getElem?_eq_getElem hj'
        obtain ⟨_, h1, _⟩ := done_facts ok hbj q
        have h2 := (ok.ok j _ hbj).w0
        show (if d < 0 then _ else _) = _
        rw [if_neg (by omega)]
    rw [z, List.map_replicate]; rfl
  refine ⟨_, rfl, by omega, by omega, fun i G' M' => ∃ (a5 a6 a7 a8 a9 a10 : Option D), G' = [some (.tup (b.map Cmd.enc)), some (.lst (comes.map encO')), some (encSt (simS b comes i)), some (.ref c), some (.int m), a5, a6, a7, a8, a9, a10] ∧ M' c = some (.lst ((foundAt (doneAt b comes) i).map encO')) ∧ Ext M M',
    ⟨_, _, _, _, _, _, by rw [← eS]; rfl, (by show _ = some (MO.lst ((foundAt (doneAt b comes) 0).map encO')); rw [← eF]; exact mupd_same), Ext.new fc⟩, ?_, ?_⟩
  · rintro i d G' M' hd ⟨a5, a6, a7, a8, a9, a10, rfl, hc, hE⟩
    obtain ⟨hi, rfl⟩ := rangeD_at hd
    ((with_reducible refine gx_name (i := 5) (x := "_law_beat") ?h_55 ?q_55); (case h_55 => exact Lc.of sc_L_done_at.nd rfl rfl (.inl rfl) a_L_done_at_5))
    (with_reducible refine sxs_cons ?_)
    refine' sx_setLcp (i := 7) (own := [("_law_k", 6)]) (t := .inl 6) ?f rfl sc_L_done_at.nd rfl rfl (sw_true rfl rfl rfl (by decide +kernel)) (blkOk_by (N := n_L_done_at) (sc := defScope s_L_done_at) (by decide +kernel)) (by decide) (fun _ _ _ _ _ => pg_name (i := 6) sc_L_done_at.nd rfl (by first | exact Or.inl rfl | exact Or.inr rfl)) (fun _ => rfl) ?_
    case f => exact fun d => match d with
      | .int j => if comes.getD j.toNat none = some ((0 : Int) + (i : Int)) then some (.tup [.str "cmd", d]) else none
      | _ => none
    refine lx_range1 rfl zr rfl ?_
    ((with_reducible refine' ex_callB ?c_58 ?he_58 ?hp_58 ?q_58); (case c_58 => first | with_reducible assumption | exact Blt.fn (by with_reducible assumption) rfl (by first | with_reducible exact bb_len | with_reducible exact bb_isinstance | with_reducible exact bb_max | with_reducible exact bb_min)); (case he_58 => rfl); (case hp_58 => rfl))
    ((with_reducible refine ax_cons ?h_59 ?q_59); (case h_59 => rfl))
    ((with_reducible refine' ex_var (i := 0) (x := "_law_book_here") ?h_60 ?g_60 ?q_60); (case h_60 => exact At.of rfl rfl a_L_done_at_0); (case g_60 => rfl))
    (with_reducible refine ax_nil ?_)
    (with_reducible refine bx_lenT ?_)
    rw [List.length_map]
    refine ⟨_, rfl, by omega, by omega, ⟨?_, fun d M1 hd hm => ?_⟩, ?_⟩
    · rw [rangeD_len]
      exact Nat.lt_of_le_of_lt (by omega : _ ≤ 8) (by decide)
    · obtain ⟨j, hj⟩ := List.mem_iff_getElem?.mp hd
      obtain ⟨hjlt, rfl⟩ := rangeD_at hj
      have et : ((0 : Int) + (j : Int)).toNat = j := by omega
      refine fun s1 H1 C1 cl1 fp1 => txs_one ?_
      ((with_reducible refine tx_cmp ?h_63 ?q_63); (case h_63 => first | exact nomark _ | rfl))
      ((with_reducible refine ex_sub ?h_64 ?q_64); (case h_64 => exact fun _ _ => rfl))
      ((with_reducible refine' ex_var (i := 1) (x := "_law_comes") ?h_65 ?g_65 ?q_65); (case h_65 => exact At.b rfl (by first | exact Or.inl rfl | exact Or.inr (Or.inl rfl) | exact Or.inr (Or.inr rfl))); (case g_65 => rfl))
      ((with_reducible refine' ex_var (i := 6) (x := "_law_k") ?h_66 ?g_66 ?q_66); (case h_66 => exact At.b rfl (by first | exact Or.inl rfl | exact Or.inr (Or.inl rfl) | exact Or.inr (Or.inr rfl))); (case g_66 => rfl))
      refine ix_l (atI_of (Int.zero_add _) (encO_at (by omega))) ?_
      ((with_reducible refine' ex_var (i := 5) (x := "_law_beat") ?h_67 ?g_67 ?q_67); (case h_67 => exact At.b rfl (by first | exact Or.inl rfl | exact Or.inr (Or.inl rfl) | exact Or.inr (Or.inr rfl))); (case g_67 => rfl))
      cases q : comes.getD j none with
      | none =>
        refine ox_eqD hr.units rfl rfl ?_
        have e : eqD (encO' none) (.int (0 + (i : Int))) = false := rfl
        rw [e]
        refine asB_bl (iteF ⟨rfl, ?_⟩)
        show (if comes.getD ((0 : Int) + (j : Int)).toNat none = some ((0 : Int) + (i : Int)) then _ else none) = none
        rw [et, q, if_neg (by simp)]
      | some x =>
        refine ox_eqI ?_
        refine asB_bl (ite_dec (fun h1 => fun s2 H2 C2 cl2 fp2 => ?_) (fun h1 => ?_))
        · ((with_reducible refine ex_tup ?q_68))
          ((with_reducible refine ax_cons ?h_69 ?q_69); (case h_69 => rfl))
          (with_reducible refine ex_str ?_)
          ((with_reducible refine ax_cons ?h_71 ?q_71); (case h_71 => rfl))
          ((with_reducible refine' ex_var (i := 6) (x := "_law_k") ?h_72 ?g_72 ?q_72); (case h_72 => exact At.b rfl (by first | exact Or.inl rfl | exact Or.inr (Or.inl rfl) | exact Or.inr (Or.inr rfl))); (case g_72 => rfl))
          (with_reducible refine ax_nil ?_)
          ((with_reducible show (List.length _ ≤ sizeLine ∧ _)); refine And.intro (Nat.le_of_ble_eq_true rfl) ?_)
          refine ⟨rfl, ?_⟩
          show (if comes.getD ((0 : Int) + (j : Int)).toNat none = some ((0 : Int) + (i : Int)) then _ else none) = _
          rw [et, q, if_pos (by rw [h1])]
        · refine ⟨rfl, ?_⟩
          show (if comes.getD ((0 : Int) + (j : Int)).toNat none = some ((0 : Int) + (i : Int)) then _ else none) = none
          rw [et, q, if_neg (fun z => h1 (Option.some.inj z))]
    have eL : (rangeD 0 (b.length : Int).toNat).filterMap (fun d => match d with
      | .int j => if comes.getD j.toNat none = some ((0 : Int) + (i : Int)) then some (.tup [.str "cmd", d]) else none
      | _ => none) = (lettersAt b.length comes i).map encLt := by
      unfold rangeD lettersAt
      rw [List.filterMap_map, List.map_filterMap]
      refine congrArg (fun f => List.filterMap f (List.range b.length)) (funext fun j => ?_)
      show (if comes.getD ((0 : Int) + (j : Int)).toNat none = some ((0 : Int) + (i : Int)) then some (D.tup [.str "cmd", .int (0 + (j : Int))]) else none) = _
      rw [Int.zero_add, Int.zero_add, Int.toNat_natCast]
      by_cases hq : comes.getD j none = some (i : Int)
      · rw [if_pos hq, if_pos hq]; rfl
      · rw [if_neg hq, if_neg hq]; rfl
    rw [eL]
    (with_reducible refine sxs_cons ?_)
    ((with_reducible refine sx_set (i := 8) (x := "_law_after") ?h_76 ?s_76 ?q_76); (case h_76 => exact Lc.of sc_L_done_at.nd rfl rfl (.inl rfl) a_L_done_at_8); (case s_76 => rfl))
    ((with_reducible refine' ex_call ?c_77 ?hr_77 ?hg_77 ?hd_77 ?he_77 ?hp_77 ?q_77); (case c_77 => first | with_reducible assumption | exact Dfn.fn (by with_reducible assumption)); (case hr_77 => first | assumption | exact Room.mono (by assumption) (by decide)); (case hg_77 => rfl); (case hd_77 => rfl); (case he_77 => rfl); (case hp_77 => rfl))
    ((with_reducible refine ax_cons ?h_78 ?q_78); (case h_78 => rfl))
    ((with_reducible refine' ex_var (i := 0) (x := "_law_book_here") ?h_79 ?g_79 ?q_79); (case h_79 => exact At.of rfl rfl a_L_done_at_0); (case g_79 => rfl))
    ((with_reducible refine ax_cons ?h_80 ?q_80); (case h_80 => rfl))
    ((with_reducible refine' ex_var (i := 2) (x := "_law_state") ?h_81 ?g_81 ?q_81); (case h_81 => exact At.of rfl rfl a_L_done_at_2); (case g_81 => rfl))
    ((with_reducible refine ax_cons ?h_82 ?q_82); (case h_82 => rfl))
    ((with_reducible refine' ex_var (i := 7) (x := "_law_letters") ?h_83 ?g_83 ?q_83); (case h_83 => exact At.of rfl rfl a_L_done_at_7); (case g_83 => rfl))
    ((with_reducible refine ax_cons ?h_84 ?q_84); (case h_84 => rfl))
    ((with_reducible refine' ex_var (i := 5) (x := "_law_beat") ?h_85 ?g_85 ?q_85); (case h_85 => exact At.of rfl rfl a_L_done_at_5); (case g_85 => rfl))
    (with_reducible refine ax_nil ?_)
    refine ⟨b, simS b comes i, lettersAt b.length comes i, (i : Int), by rw [Int.zero_add]; rfl, ok, simS_len, fun l hl => (lettersAt_ok l hl).2, fun M2 hE2 => ?_⟩
    have e2 : beatenF b (simS b comes i) (lettersAt b.length comes i) i = simS b comes (i + 1) := rfl
    rw [e2]
    (with_reducible refine sxs_cons ?_)
    refine sx_for PassesOwn.never rfl (fun _ => rfl) ?_
    refine lx_range1 rfl zr rfl ?_
    ((with_reducible refine' ex_callB ?c_88 ?he_88 ?hp_88 ?q_88); (case c_88 => first | with_reducible assumption | exact Blt.fn (by with_reducible assumption) rfl (by first | with_reducible exact bb_len | with_reducible exact bb_isinstance | with_reducible exact bb_max | with_reducible exact bb_min)); (case he_88 => rfl); (case hp_88 => rfl))
    ((with_reducible refine ax_cons ?h_89 ?q_89); (case h_89 => rfl))
    ((with_reducible refine' ex_var (i := 0) (x := "_law_book_here") ?h_90 ?g_90 ?q_90); (case h_90 => exact At.of rfl rfl a_L_done_at_0); (case g_90 => rfl))
    (with_reducible refine ax_nil ?_)
    (with_reducible refine bx_lenT ?_)
    rw [List.length_map]
    refine ⟨_, rfl, by omega, by omega, fun j G' M' => ∃ (fl : List (Option Int)) (a6 a9 a10 : Option D), G' = [some (.tup (b.map Cmd.enc)), some (.lst (comes.map encO')), some (encSt (simS b comes i)), some (.ref c), some (.int m), some (.int (0 + (i : Int))), a6, some (.lst ((lettersAt b.length comes i).map encLt)), some (encSt (simS b comes (i + 1))), a9, a10] ∧ M' c = some (.lst (fl.map encO')) ∧ Ext M M' ∧ fl.length = b.length ∧
        ∀ n, n < b.length → fl.getD n none = if n < j then fNow ((i + 1 : Nat) : Int) ((doneAt b comes).getD n none) else fNow (i : Int) ((doneAt b comes).getD n none),
      ⟨foundAt (doneAt b comes) i, _, _, _, rfl, hE2 _ _ hc, hE.trans hE2, by simp [foundAt, hDl], fun n _ => by rw [if_neg (by omega)]; exact foundAt_get⟩, ?_, ?_⟩
    · rintro j d G' M' hd ⟨fl, a6, a9, a10, rfl, hc3, hE3, hfl, hfn⟩
      obtain ⟨hj, rfl⟩ := rangeD_at hd
      have hjb : j < b.length := by omega
      have hbj : b[j]? = some b[j] := List.getElem?_eq_getElem hjb
      have w0 := sim_done ok (fun x hx => (hcm x hx).1) (t := i) hbj
      have w1 := sim_done ok (fun x hx => (hcm x hx).1) (t := i + 1) hbj
      -- what is written
      have wr : ∀ v : Option Int, v = fNow ((i + 1 : Nat) : Int) ((doneAt b comes).getD j none) → (fl.set j v).length = b.length ∧ ∀ n, n < b.length → (fl.set j v).getD n none = if n < j + 1 then fNow ((i + 1 : Nat) : Int) ((doneAt b comes).getD n none) else fNow (i : Int) ((doneAt b comes).getD n none) := by
        intro v hv
        refine ⟨by simp [hfl], fun n hn => ?_⟩
        by_cases e : j = n
        · subst e
          rw [getD_set_self (by omega), if_pos (by omega)]
          exact hv
        · rw [getD_set_ne e, hfn n hn]
          by_cases h : n < j
          · rw [if_pos h, if_pos (by omega)]
          · rw [if_neg h, if_neg (by omega)]
      have hfj := hfn j hjb
      rw [if_neg (by omega)] at hfj
      have hcE : ∀ v : D, Ext M (mupd M' c (.lst ((fl.map encO').set j v))) := fun v a o e => by rw [mupd_ne (mne e fc)]; exact hE3 a o e
      have keep : (¬ ∃ d, (doneAt b comes).getD j none = some d ∧ d < ((i + 1 : Nat) : Int) ∧ ¬ d < (i : Int)) → fl.getD j none = fNow ((i + 1 : Nat) : Int) ((doneAt b comes).getD j none) := by
        intro hno
        rw [hfj]
        cases q : (doneAt b comes).getD j none with
        | none => rfl
        | some d =>
          show (if d < (i : Int) then some d else none) = if d < ((i + 1 : Nat) : Int) then some d else none
          by_cases h : d < (i : Int)
          · rw [if_pos h, if_pos (by omega)]
          · rw [if_neg h, if_neg (fun z => hno ⟨d, q, z, h⟩)]
      have hfe : (fl.map encO')[j]? = some (encO' (fl.getD j none)) := encO_at (by omega)
      have eix : ixN (fl.map encO').length (0 + (j : Int)) = some j := by rw [Int.zero_add]; exact ixN_nat (by rw [List.length_map]; omega)
      ((with_reducible refine gx_name (i := 6) (x := "_law_k") ?h_93 ?q_93); (case h_93 => exact Lc.of sc_L_done_at.nd rfl rfl (.inl rfl) a_L_done_at_6))
      (with_reducible refine sxs_one ?_)
      ((with_reducible refine sx_asg ?h_95 ?g_95 ?i_95 ?q_95); (case h_95 => rfl); (case g_95 => rfl); (case i_95 => rfl))
      (with_reducible refine ex_if ?_)
      ((with_reducible show TX _ _ (.BoolOp _ _ _) _ _ _); refine TW.tx ?_)
      (with_reducible refine tw_and ?_)
      ((with_reducible refine tx_cmp ?h_99 ?q_99); (case h_99 => first | exact nomark _ | rfl))
      ((with_reducible refine ex_sub ?h_100 ?q_100); (case h_100 => exact fun _ _ => rfl))
      ((with_reducible refine' ex_var (i := 8) (x := "_law_after") ?h_101 ?g_101 ?q_101); (case h_101 => exact At.of rfl rfl a_L_done_at_8); (case g_101 => rfl))
      ((with_reducible refine' ex_var (i := 6) (x := "_law_k") ?h_102 ?g_102 ?q_102); (case h_102 => exact At.of rfl rfl a_L_done_at_6); (case g_102 => rfl))
      refine ix_t (atI_of (Int.zero_add _) (encW_at (by rw [simS_len]; exact hjb))) ?_
      (with_reducible refine ex_str ?_)
      refine ox_eqW .done ?_
      refine asB_bl (ite_dec (fun h1 => ?_) (fun h1 => ?_))
      · (with_reducible refine tw_and1 ?_)
        ((with_reducible refine tx_cmp ?h_105 ?q_105); (case h_105 => first | exact nomark _ | rfl))
        ((with_reducible refine ex_sub ?h_106 ?q_106); (case h_106 => exact fun _ _ => rfl))
        ((with_reducible refine' ex_var (i := 2) (x := "_law_state") ?h_107 ?g_107 ?q_107); (case h_107 => exact At.of rfl rfl a_L_done_at_2); (case g_107 => rfl))
        ((with_reducible refine' ex_var (i := 6) (x := "_law_k") ?h_108 ?g_108 ?q_108); (case h_108 => exact At.of rfl rfl a_L_done_at_6); (case g_108 => rfl))
        refine ix_t (atI_of (Int.zero_add _) (encW_at (by rw [simS_len]; exact hjb))) ?_
        (with_reducible refine ex_str ?_)
        refine ox_neW .done ?_
        refine asB_bl (ite_ndec (fun h2 => ?_) (fun h2 => ?_))
        · obtain ⟨d, hd, hdt⟩ := w1.mp h1
          have hdi : d = (i : Int) := by
            by_cases z : d < (i : Int)
            · exact absurd (w0.mpr ⟨d, hd, z⟩) h2
            · omega
          have hv : some (i : Int) = fNow ((i + 1 : Nat) : Int) ((doneAt b comes).getD j none) := by
            rw [hd, hdi]
            show _ = if (i : Int) < _ then some (i : Int) else none
            rw [if_pos (by omega)]
          obtain ⟨x1, x2⟩ := wr _ hv
          ((with_reducible refine' ex_var (i := 5) (x := "_law_beat") ?h_110 ?g_110 ?q_110); (case h_110 => exact At.of rfl rfl a_L_done_at_5); (case g_110 => rfl))
          refine gx_sub (fun _ => rfl) ?_
          ((with_reducible refine' ex_var (i := 3) (x := "_law_found") ?h_111 ?g_111 ?q_111); (case h_111 => exact At.of rfl rfl a_L_done_at_3); (case g_111 => rfl))
          ((with_reducible refine' ex_var (i := 6) (x := "_law_k") ?h_112 ?g_112 ?q_112); (case h_112 => exact At.of rfl rfl a_L_done_at_6); (case g_112 => rfl))
          refine ⟨c, _, _, j, rfl, rfl, hc3, eix, ?_⟩
          refine ⟨fl.set j (some (i : Int)), _, _, _, rfl, ?_, hcE _, x1, x2⟩
          rw [mupd_same, List.map_set, Int.zero_add]; rfl
        · obtain ⟨x1, x2⟩ := wr _ (keep (by
            rintro ⟨d, hd, _, hdi⟩
            obtain ⟨d', hd', hdi'⟩ := w0.mp h2
            rw [hd] at hd'
            cases hd'
            exact hdi hdi'))
          ((with_reducible refine ex_sub ?h_113 ?q_113); (case h_113 => exact fun _ _ => rfl))
          ((with_reducible refine' ex_var (i := 3) (x := "_law_found") ?h_114 ?g_114 ?q_114); (case h_114 => exact At.of rfl rfl a_L_done_at_3); (case g_114 => rfl))
          ((with_reducible refine' ex_var (i := 6) (x := "_law_k") ?h_115 ?g_115 ?q_115); (case h_115 => exact At.of rfl rfl a_L_done_at_6); (case g_115 => rfl))
          refine ix_c hc3 (atI_of (Int.zero_add _) hfe) ?_
          refine gx_sub (fun _ => rfl) ?_
          ((with_reducible refine' ex_var (i := 3) (x := "_law_found") ?h_116 ?g_116 ?q_116); (case h_116 => exact At.of rfl rfl a_L_done_at_3); (case g_116 => rfl))
          ((with_reducible refine' ex_var (i := 6) (x := "_law_k") ?h_117 ?g_117 ?q_117); (case h_117 => exact At.of rfl rfl a_L_done_at_6); (case g_117 => rfl))
          refine ⟨c, _, _, j, rfl, rfl, hc3, eix, ?_⟩
          refine ⟨_, _, _, _, rfl, ?_, hcE _, x1, x2⟩
          rw [mupd_same, List.map_set]
      · obtain ⟨x1, x2⟩ := wr _ (keep (by
          rintro ⟨d, hd, hdt, _⟩
          exact h1 (w1.mpr ⟨d, hd, hdt⟩)))
        ((with_reducible show (ite (_ = true) _ _)); first | refine iteT' rfl ?_ | refine iteF' rfl ?_)
        ((with_reducible refine ex_sub ?h_119 ?q_119); (case h_119 => exact fun _ _ => rfl))
        ((with_reducible refine' ex_var (i := 3) (x := "_law_found") ?h_120 ?g_120 ?q_120); (case h_120 => exact At.of rfl rfl a_L_done_at_3); (case g_120 => rfl))
        ((with_reducible refine' ex_var (i := 6) (x := "_law_k") ?h_121 ?g_121 ?q_121); (case h_121 => exact At.of rfl rfl a_L_done_at_6); (case g_121 => rfl))
        refine ix_c hc3 (atI_of (Int.zero_add _) hfe) ?_
        refine gx_sub (fun _ => rfl) ?_
        ((with_reducible refine' ex_var (i := 3) (x := "_law_found") ?h_122 ?g_122 ?q_122); (case h_122 => exact At.of rfl rfl a_L_done_at_3); (case g_122 => rfl))
        ((with_reducible refine' ex_var (i := 6) (x := "_law_k") ?h_123 ?g_123 ?q_123); (case h_123 => exact At.of rfl rfl a_L_done_at_6); (case g_123 => rfl))
        refine ⟨c, _, _, j, rfl, rfl, hc3, eix, ?_⟩
        refine ⟨_, _, _, _, rfl, ?_, hcE _, x1, x2⟩
        rw [mupd_same, List.map_set]
    · rintro G' M' ⟨fl, a6, a9, a10, rfl, hc3, hE3, hfl, hfn⟩
      have hn : (rangeD 0 (b.length : Int).toNat).length = b.length := by rw [rangeD_len]; omega
      rw [hn] at hfn
      have e : fl = foundAt (doneAt b comes) ((i + 1 : Nat) : Int) := by
        refine ext_getD none (by simp [foundAt, hDl, hfl]) fun n hn => ?_
        rw [hfn n (by omega), if_pos (by omega), foundAt_get]
      (refine sxs_one ?_)
      ((with_reducible refine sx_set (i := 2) (x := "_law_state") ?h_125 ?s_125 ?q_125); (case h_125 => exact Lc.of sc_L_done_at.nd rfl rfl (.inl rfl) a_L_done_at_2); (case s_125 => rfl))
      ((with_reducible refine' ex_var (i := 8) (x := "_law_after") ?h_126 ?g_126 ?q_126); (case h_126 => exact At.of rfl rfl a_L_done_at_8); (case g_126 => rfl))
      exact ⟨_, _, _, _, _, _, rfl, by rw [← e]; exact hc3, hE3⟩
  · rintro G' M' ⟨a5, a6, a7, a8, a9, a10, rfl, hc, hE⟩
    have hn : (rangeD 0 (m + 1).toNat).length = (m + 1).toNat := rangeD_len
    rw [hn] at hc
    have e : foundAt (doneAt b comes) ((m + 1).toNat : Nat) = doneAt b comes := by
      refine ext_getD none (by simp [foundAt]) fun n hn => ?_
      have hn' : n < b.length := by simpa [foundAt, hDl] using hn
      rw [foundAt_get]
      cases q : (doneAt b comes).getD n none with
      | none => rfl
      | some d =>
        have := done_le ok mc mw n d hn' q
        show (if d < _ then _ else _) = _
        rw [if_pos (by omega)]
    rw [e] at hc
    refine sxs_one (sx_ret (ex_freeze ?_))
    ((with_reducible refine' ex_var (i := 3) (x := "_law_found") ?h_127 ?g_127 ?q_127); (case h_127 => exact At.of rfl rfl a_L_done_at_3); (case g_127 => rfl))
    exact ⟨c, _, rfl, hc, k _ (Ext.del fc hE)⟩
end

theorem pick_all {l : List Nat} {n : Nat} (h : l.length = n) : ((List.range n).filterMap fun k => l[0 + (0 + 1) * k]?) = l := by
  have e : (fun k => l[0 + (0 + 1) * k]?) = fun k => l[k]? := by
    funext k
    rw [Nat.zero_add, Nat.zero_add, Nat.one_mul]
  rw [e]
  subst h
  refine List.ext_getElem? fun i => ?_
  have e2 : ((List.range l.length).filterMap fun k => l[k]?) = (List.range l.length).map fun k => l.getD k 0 := by
    have key : ∀ xs : List Nat, (∀ k ∈ xs, k < l.length) → xs.filterMap (fun k => l[k]?) = xs.map fun k => l.getD k 0 := by
      intro xs
      induction xs with
      | nil => exact fun _ => rfl
      | cons x xs ih =>
        intro hx
        have hk2 : x < l.length := hx x (by simp)
        rw [List.filterMap_cons, List.getElem?_eq_getElem hk2, List.map_cons, ih fun k hk => hx k (List.mem_cons_of_mem _ hk), List.getD_eq_getElem?_getD, List.getElem?_eq_getElem hk2]
        rfl
    exact key _ fun k hk => by simpa using hk
  rw [e2, List.getElem?_map]
  by_cases hi : i < l.length
  · rw [List.getElem?_range hi, List.getElem?_eq_getElem hi]
    show some (l.getD i 0) = _
    rw [List.getD_eq_getElem?_getD, List.getElem?_eq_getElem hi]; rfl
  · rw [List.getElem?_eq_none (by simp; omega), List.getElem?_eq_none (by omega)]; rfl
/-- the law's own best -/
def lawBest (b : List Cmd) (d : Int) (ws : List (Int × Int)) : Option (Int × List Nat) := if (beatsF ws b.length).length = b.length then bestO b d (beatsF ws b.length) else none
theorem soon_law {b : List Cmd} {d : Int} {ws : List (Int × Int)} : sturdyF b d ws 0 = match lawBest b d ws with
    | none => none
    | some z => some (z.1, (List.range b.length).map fun k => (((beatsF ws b.length).getD k 0 : Nat), z.2.getD k 0)) := by
  have e1 : (0 + 1) * b.length = b.length := by omega
  unfold sturdyF lawBest
  rw [e1]
  have hle := beatsF_le (ws := ws) (n := b.length)
  by_cases h : (beatsF ws b.length).length = b.length
  · rw [if_neg (by omega), if_pos h, pick_all h]
    cases bestO b d (beatsF ws b.length) with
    | none => rfl
    | some z =>
      show some _ = some _
      congr 2
      refine List.map_congr_left fun k _ => ?_
      rw [Nat.zero_add, Nat.div_one]
  · rw [if_pos (by omega), if_neg h]
def encSoon : Option (Int × List (Int × Nat)) → D
  | none => .non
  | some z => .tup [.int z.1, .lst (z.2.map encSd)]
section
variable {P : Program} {w : World} {K : PySem.W.Frag} {mg : Str → Option Value} {base : Heap}
theorem ok_law {f : Addr} {fd : FuncData} (Fn : Fun K "law" "law" s_law f fd) (zr : mg "range" = none) (zl : mg "len" = none) (zL : mg "list" = none) (zx : mg "max" = none) (dT : Dfn P w K mg base 1 "_law_taken" spTaken) (dBk : Dfn P w K mg base 2 "_law_book" spBook) (dWn : Dfn P w K mg base 2 "_law_windows" spLWindows) (dSl : Dfn P w K mg base 2 "_law_slots" spSlots)
    (dAl0 : Dfn P w K mg base 7 "_law_alike" (spAlike 6)) (dO : Dfn P w K mg base 7 "_law_orders" (spLOrders 6)) (dD : Dfn P w K mg base 2 "_law_done_at" spLDone) (dS : Dfn P w K mg base 5 "soonest" spSoonest) : FnOk P w K mg base CX0 8 f fd ["_law_script"] (lift K spTrue) := by
  have dAl := dAl0.ro
  clear dAl0
  refine fun_ok Fn sc_law (fun ds M Q ⟨_, e, _⟩ => by rw [e]; rfl) fun cdv A outer sh H E hr ds M Q h B => ?_
  obtain ⟨ns, rfl, hl, rfl, k⟩ := h
  (refine sxs_cons ?_)
  ((with_reducible refine sx_set (i := 1) (x := "_law_row") ?h_2 ?s_2 ?q_2); (case h_2 => exact Lc.of sc_law.nd rfl rfl (.inl rfl) a_law_1); (case s_2 => rfl))
  refine ex_lstM ?_
  ((with_reducible refine ax_cons ?h_3 ?q_3); (case h_3 => rfl))
  ((with_reducible refine' ex_var (i := 0) (x := "_law_script") ?h_4 ?g_4 ?q_4); (case h_4 => exact At.of rfl rfl a_law_0); (case g_4 => rfl))
  ((with_reducible refine ax_cons ?h_5 ?q_5); (case h_5 => rfl))
  (with_reducible refine ex_int ?_)
  ((with_reducible refine ax_cons ?h_7 ?q_7); (case h_7 => rfl))
  (with_reducible refine ex_int ?_)
  (with_reducible refine ax_nil ?_)
  ((with_reducible show (List.length _ ≤ sizeLine ∧ _)); refine And.intro (Nat.le_of_ble_eq_true rfl) ?_)
  refine fun r fr => ?_
  have hR0 : Row ns r (mupd noM r (.lst [.fzl (ns.map D.int), .int 0, .int 0])) := ⟨0, 0, mupd_same, by decide, by decide⟩
  (with_reducible refine sxs_cons ?_)
  refine sx_for PassesOwn.never rfl (fun _ => rfl) ?_
  refine lx_range1 rfl zr rfl ?_
  (with_reducible refine ex_int ?_)
  refine ⟨_, rfl, by decide, by decide, fun i G' M' => ∃ (a2 a3 a4 a5 a6 a7 a8 a9 a10 a11 a12 a13 a14 a15 a16 a17 : Option D), G' = [some (.fzl (ns.map D.int)), some (.ref r), a2, a3, a4, a5, a6, a7, a8, a9, a10, a11, a12, a13, a14, a15, a16, a17] ∧ Row ns r M', ⟨_, _, _, _, _, _, _, _, _, _, _, _, _, _, _, _, rfl, hR0⟩, ?_, ?_⟩
  · rintro i dd G' M' hd ⟨a2, a3, a4, a5, a6, a7, a8, a9, a10, a11, a12, a13, a14, a15, a16, a17, rfl, hR⟩
    -- behind the drawn book
    have rest : ∀ (b : List Cmd) (d : Int) (ws : List (Int × Int)) (M5 : Mem) (a2 a3 a5 a8 a9 a10 a11 a12 a13 a14 a15 a16 a17 : Option D), BookOk b → b.length ≤ 6 → 1 ≤ d → d ≤ 9 → WinFrom 0 ws → ws.length ≤ 200 → Row ns r M5 →
        SXs B (X_law P w K mg base f cdv A outer sh H E) ((loopBody ((defBody s_law).getD 1 (.Pass ⟨0, 0, 0, 0⟩))).drop 5) ((En.sq (En.df Q) (SXs B (X_law P w K mg base f cdv A outer sh H E) ((defBody s_law).drop 2) (En.df Q))).lp (fun G' M' => ∃ (a2 a3 a4 a5 a6 a7 a8 a9 a10 a11 a12 a13 a14 a15 a16 a17 : Option D), G' = [some (.fzl (ns.map D.int)), some (.ref r), a2, a3, a4, a5, a6, a7, a8, a9, a10, a11, a12, a13, a14, a15, a16, a17] ∧ Row ns r M')) [some (.fzl (ns.map D.int)), some (.ref r), a2, a3, some (encB b), a5, some (.int d), some (encWn ws), a8, a9, a10, a11, a12, a13, a14, a15, a16, a17] M5 := by
      intro b d ws M5 a2 a3 a5 a8 a9 a10 a11 a12 a13 a14 a15 a16 a17 ok h6 hd1 hd9 hW hWl hR5
      have hbp : 0 < b.length := List.length_pos_iff.mpr ok.ne
      have eB : encB b = .tup (b.map Cmd.enc) := rfl
      have hle := beatsF_le (ws := ws) (n := b.length)
      have hb200 : ∀ x ∈ beatsF ws b.length, x < 200 := fun x hx => by
        have := (List.mem_filter.mp (List.mem_of_mem_take hx)).1
        simpa using this
      rw [eB]
      (refine sxs_cons ?_)
      ((with_reducible refine sx_set (i := 8) (x := "_law_slots_here") ?h_14 ?s_14 ?q_14); (case h_14 => exact Lc.of sc_law.nd rfl rfl (.inl rfl) a_law_8); (case s_14 => rfl))
      ((with_reducible refine' ex_call ?c_15 ?hr_15 ?hg_15 ?hd_15 ?he_15 ?hp_15 ?q_15); (case c_15 => first | with_reducible assumption | exact Dfn.fn (by with_reducible assumption)); (case hr_15 => first | assumption | exact Room.mono (by assumption) (by decide)); (case hg_15 => rfl); (case hd_15 => rfl); (case he_15 => rfl); (case hp_15 => rfl))
      ((with_reducible refine ax_cons ?h_16 ?q_16); (case h_16 => rfl))
      ((with_reducible refine' ex_var (i := 7) (x := "_law_windows_here") ?h_17 ?g_17 ?q_17); (case h_17 => exact At.of rfl rfl a_law_7); (case g_17 => rfl))
      ((with_reducible refine ax_cons ?h_18 ?q_18); (case h_18 => rfl))
      ((with_reducible refine' ex_callB ?c_19 ?he_19 ?hp_19 ?q_19); (case c_19 => first | with_reducible assumption | exact Blt.fn (by with_reducible assumption) rfl (by first | with_reducible exact bb_len | with_reducible exact bb_isinstance | with_reducible exact bb_max | with_reducible exact bb_min)); (case he_19 => rfl); (case hp_19 => rfl))
      ((with_reducible refine ax_cons ?h_20 ?q_20); (case h_20 => rfl))
      ((with_reducible refine' ex_var (i := 4) (x := "_law_book_here") ?h_21 ?g_21 ?q_21); (case h_21 => exact At.of rfl rfl a_law_4); (case g_21 => rfl))
      (with_reducible refine ax_nil ?_)
      (with_reducible refine bx_lenT ?_)
      (with_reducible refine ax_nil ?_)
      rw [List.length_map]
      refine ⟨ws, b.length, rfl, by omega, fun M6 hE6 => ?_⟩
      have hR6 := hR5.ext hE6
      generalize hbe : beatsF ws b.length = beats at hle hb200
      clear hE6 hR5
      (with_reducible refine sxs_cons ?_)
      ((with_reducible refine sx_set (i := 9) (x := "_law_best") ?h_26 ?s_26 ?q_26); (case h_26 => exact Lc.of sc_law.nd rfl rfl (.inl rfl) a_law_9); (case s_26 => rfl))
      (with_reducible refine ex_non ?_)
      (with_reducible refine sxs_cons ?_)
      ((with_reducible refine sx_set (i := 10) (x := "_law_many") ?h_29 ?s_29 ?q_29); (case h_29 => exact Lc.of sc_law.nd rfl rfl (.inl rfl) a_law_10); (case s_29 => rfl))
      ((with_reducible refine' ex_callB ?c_30 ?he_30 ?hp_30 ?q_30); (case c_30 => first | with_reducible assumption | exact Blt.fn (by with_reducible assumption) rfl (by first | with_reducible exact bb_len | with_reducible exact bb_isinstance | with_reducible exact bb_max | with_reducible exact bb_min)); (case he_30 => rfl); (case hp_30 => rfl))
      ((with_reducible refine ax_cons ?h_31 ?q_31); (case h_31 => rfl))
      ((with_reducible refine' ex_var (i := 4) (x := "_law_book_here") ?h_32 ?g_32 ?q_32); (case h_32 => exact At.of rfl rfl a_law_4); (case g_32 => rfl))
      (with_reducible refine ax_nil ?_)
      (with_reducible refine bx_lenT ?_)
      (with_reducible refine sxs_cons ?_)
      rw [List.length_map]
      refine sx_for PassesOwn.never rfl (fun _ => rfl) ?_
      refine lx_list ?_
      refine EX.imp (Q := fun d1 M1 => d1 = encLL (if beats.length = b.length then permsF b.length (List.range b.length) else []) ∧ Ext M6 M1) ?_ ?_
      · (with_reducible refine ex_if ?_)
        ((with_reducible refine tx_cmp ?h_37 ?q_37); (case h_37 => first | exact nomark _ | rfl))
        ((with_reducible refine' ex_callB ?c_38 ?he_38 ?hp_38 ?q_38); (case c_38 => first | with_reducible assumption | exact Blt.fn (by with_reducible assumption) rfl (by first | with_reducible exact bb_len | with_reducible exact bb_isinstance | with_reducible exact bb_max | with_reducible exact bb_min)); (case he_38 => rfl); (case hp_38 => rfl))
        ((with_reducible refine ax_cons ?h_39 ?q_39); (case h_39 => rfl))
        ((with_reducible refine' ex_var (i := 8) (x := "_law_slots_here") ?h_40 ?g_40 ?q_40); (case h_40 => exact At.of rfl rfl a_law_8); (case g_40 => rfl))
        (with_reducible refine ax_nil ?_)
        (with_reducible refine bx_lenL ?_)
        ((with_reducible refine' ex_var (i := 10) (x := "_law_many") ?h_43 ?g_43 ?q_43); (case h_43 => exact At.of rfl rfl a_law_10); (case g_43 => rfl))
        (with_reducible refine ox_eqI ?_)
        (with_reducible refine asB_bl ?_)
        rw [List.length_map]
        refine ite_dec (fun h1 => ?_) (fun h1 => ?_)
        · rw [if_pos (by omega)]
          ((with_reducible refine' ex_call ?c_46 ?hr_46 ?hg_46 ?hd_46 ?he_46 ?hp_46 ?q_46); (case c_46 => first | with_reducible assumption | exact Dfn.fn (by with_reducible assumption)); (case hr_46 => first | assumption | exact Room.mono (by assumption) (by decide)); (case hg_46 => rfl); (case hd_46 => rfl); (case he_46 => rfl); (case hp_46 => rfl))
          ((with_reducible refine ax_cons ?h_47 ?q_47); (case h_47 => rfl))
          ((with_reducible refine' ex_listRg ?c_48 ?l_48 ?lm_48 ?g_48 ?gm_48 ?s_48 ?t_48 ?q_48); (case c_48 => rfl); (case l_48 => rfl); (case lm_48 => assumption); (case g_48 => rfl); (case gm_48 => assumption); (case s_48 => rfl); (case t_48 => rfl))
          ((with_reducible refine' ex_var (i := 10) (x := "_law_many") ?h_49 ?g_49 ?q_49); (case h_49 => exact At.of rfl rfl a_law_10); (case g_49 => rfl))
          refine ⟨_, rfl, by omega, by omega, ?_⟩
          (with_reducible refine ax_nil ?_)
          have er : rangeD 0 (b.length : Int).toNat = (List.range b.length).map encN := by
            unfold rangeD
            rw [Int.toNat_natCast]
            refine List.map_congr_left fun t _ => ?_
            rw [Int.zero_add]; rfl
          rw [er]
          refine ⟨List.range b.length, rfl, List.nodup_range, by simpa using h6, by decide, fun M7 hE7 => ?_⟩
          rw [List.length_range]
          exact ⟨rfl, hE7⟩
        · rw [if_neg (by omega)]
          skip
          refine ex_lst (ax_nil ⟨Nat.zero_le _, rfl, Ext.refl _⟩)
      rintro dd1 M7 ⟨rfl, hE7⟩
      have hR7 := hR6.ext hE7
      have hxs : ∀ o ∈ (if beats.length = b.length then permsF b.length (List.range b.length) else []), beats.length = b.length ∧ o ∈ ordersF b.length := fun o ho => by
        by_cases q : beats.length = b.length
        · rw [if_pos q] at ho
          exact ⟨q, perms_orders.mp ho⟩
        · rw [if_neg q] at ho; cases ho
      have hfin : (if beats.length = b.length then permsF b.length (List.range b.length) else []).foldl (lawStep (lastOf b d beats)) none = lawBest b d ws := by
        unfold lawBest
        rw [hbe]
        by_cases q : beats.length = b.length
        · rw [if_pos q, if_pos q, best_same]
        · rw [if_neg q, if_neg q]; rfl
      generalize (if beats.length = b.length then permsF b.length (List.range b.length) else []) = xs at hxs hfin
      refine ⟨_, rfl, fun j G' M' => ∃ (best : Option (Int × List Nat)), ∃ (a2 a3 a5 a11 a12 a13 a14 a15 a16 a17 : Option D), G' = [some (.fzl (ns.map D.int)), some (.ref r), a2, a3, some (encB b), a5, some (.int d), some (encWn ws), some (.lst (beats.map encN)), some (encBest best), some (.int (b.length : Nat)), a11, a12, a13, a14, a15, a16, a17] ∧ best = (xs.take j).foldl (lawStep (lastOf b d beats)) none ∧ Row ns r M', ⟨none, _, _, _, _, _, _, _, _, _, _, rfl, rfl, hR7⟩, ?_, ?_⟩
      · rintro j dd G' M' hd ⟨best, a2, a3, a5, a11, a12, a13, a14, a15, a16, a17, rfl, hbest, hRj⟩
        rw [List.getElem?_map] at hd
        obtain ⟨o, ho, rfl⟩ := Option.map_eq_some_iff.mp hd
        obtain ⟨hbl, hom⟩ := hxs o (List.mem_of_getElem? ho)
        have ook := ord_ok hom
        have enext : (xs.take (j + 1)).foldl (lawStep (lastOf b d beats)) none = lawStep (lastOf b d beats) best o := by
          rw [List.take_add_one, ho, List.foldl_append, hbest]; rfl
        clear hbest
        ((with_reducible refine gx_name (i := 11) (x := "_law_order") ?h_51 ?q_51); (case h_51 => exact Lc.of sc_law.nd rfl rfl (.inl rfl) a_law_11))
        (refine sxs_cons ?_)
        refine' sx_setLcp (i := 12) (own := [("_law_k", 17)]) (t := .inl 17) ?f rfl sc_law.nd rfl rfl (sw_true rfl rfl rfl (by decide +kernel)) (blkOk_by (N := n_law) (sc := defScope s_law) (by decide +kernel)) (by decide) (fun _ _ _ _ _ => pg_name (i := 17) sc_law.nd rfl (by first | exact Or.inl rfl | exact Or.inr rfl)) (fun _ => rfl) ?_
        case f => exact fun d0 => match d0 with
          | .int m => some (.int (((beats.getD (o.idxOf m.toNat) 0 : Nat) : Int) + d))
          | _ => none
        refine lx_range1 rfl zr rfl ?_
        ((with_reducible refine' ex_var (i := 10) (x := "_law_many") ?h_54 ?g_54 ?q_54); (case h_54 => exact At.of rfl rfl a_law_10); (case g_54 => rfl))
        refine ⟨_, rfl, by omega, by omega, ⟨?_, fun d0 M3 hd3 hm => ?_⟩, ?_⟩
        · rw [rangeD_len]
          exact Nat.lt_of_le_of_lt (by omega : _ ≤ 6) (by decide)
        · obtain ⟨m, hm0⟩ := List.mem_iff_getElem?.mp hd3
          obtain ⟨hmlt, rfl⟩ := rangeD_at hm0
          have et : ((0 : Int) + (m : Int)).toNat = m := by omega
          obtain ⟨i1, i2, i3⟩ := idx_of (ord_all hom m (by omega))
          have hol := ook.len
          refine fun s1 H1 C1 cl1 fp1 => txs_nil (iteT fun s2 H2 C2 cl2 fp2 => ?_)
          (with_reducible refine ex_bin ?_)
          ((with_reducible refine ex_sub ?h_56 ?q_56); (case h_56 => exact fun _ _ => rfl))
          ((with_reducible refine' ex_var (i := 8) (x := "_law_slots_here") ?h_57 ?g_57 ?q_57); (case h_57 => exact At.b rfl (by first | exact Or.inl rfl | exact Or.inr (Or.inl rfl) | exact Or.inr (Or.inr rfl))); (case g_57 => rfl))
          refine ex_bmL PySem.F.slot_list_index PySem.F.type_list_index rfl rfl rfl rfl rfl ?_
          ((with_reducible refine' ex_var (i := 11) (x := "_law_order") ?h_58 ?g_58 ?q_58); (case h_58 => exact At.b rfl (by first | exact Or.inl rfl | exact Or.inr (Or.inl rfl) | exact Or.inr (Or.inr rfl))); (case g_58 => rfl))
          refine ⟨_, IsL.fz, ?_⟩
          ((with_reducible refine ax_cons ?h_59 ?q_59); (case h_59 => rfl))
          ((with_reducible refine' ex_var (i := 17) (x := "_law_k") ?h_60 ?g_60 ?q_60); (case h_60 => exact At.b rfl (by first | exact Or.inl rfl | exact Or.inr (Or.inl rfl) | exact Or.inr (Or.inr rfl))); (case g_60 => rfl))
          (with_reducible refine ax_nil ?_)
          refine mx_index (j := o.idxOf m) IsL.fz rfl ?_ ⟨encN m, by rw [List.getElem?_map, i2]; rfl, ?_⟩ (fun q z hq hz => ?_) ?_
          · simp only [List.all_map, List.all_eq_true]
            intro y _; rfl
          · show ((m : Int) == 0 + (m : Int)) = true
            rw [Int.zero_add]; exact beq_self_eq_true _
          · rw [List.getElem?_map] at hz
            obtain ⟨x, hx, rfl⟩ := Option.map_eq_some_iff.mp hz
            have := i3 q x hq hx
            show ((x : Int) == 0 + (m : Int)) = false
            rw [Int.zero_add]
            exact beq_eq_false_iff_ne.mpr (by omega)
          have hb2 : (beats.map encN)[o.idxOf m]? = some (encN (beats.getD (o.idxOf m) 0)) := by
            rw [List.getElem?_map, List.getElem?_eq_getElem (by omega), List.getD_eq_getElem?_getD, List.getElem?_eq_getElem (by omega)]; rfl
          refine ix_l (atI_of rfl hb2) ?_
          unfold encN
          ((with_reducible refine' ex_var (i := 6) (x := "_law_delay") ?h_62 ?g_62 ?q_62); (case h_62 => exact At.b rfl (by first | exact Or.inl rfl | exact Or.inr (Or.inl rfl) | exact Or.inr (Or.inr rfl))); (case g_62 => rfl))
          (with_reducible refine ox_add ?_)
          refine ⟨rfl, ?_⟩
          show some (D.int (((beats.getD (o.idxOf ((0 : Int) + (m : Int)).toNat) 0 : Nat) : Int) + d)) = _
          rw [et]
        have eC : (rangeD 0 (b.length : Int).toNat).filterMap (fun d0 => match d0 with
          | .int m => some (.int (((beats.getD (o.idxOf m.toNat) 0 : Nat) : Int) + d))
          | _ => none) = (comesOrd b.length d beats o).map encO' := by
          unfold rangeD comesOrd
          rw [List.filterMap_map, List.map_map, Int.toNat_natCast]
          show (List.range b.length).filterMap (fun t : Nat => some (D.int (((beats.getD (o.idxOf ((0 : Int) + (t : Int)).toNat) 0 : Nat) : Int) + d))) = _
          rw [List.filterMap_eq_map']
          refine List.map_congr_left fun t _ => ?_
          rw [Int.zero_add, Int.toNat_natCast]; rfl
        rw [eC]
        have hcl : (comesOrd b.length d beats o).length = b.length := by simp [comesOrd]
        (with_reducible refine sxs_cons ?_)
        ((with_reducible refine sx_set (i := 13) (x := "_law_done") ?h_65 ?s_65 ?q_65); (case h_65 => exact Lc.of sc_law.nd rfl rfl (.inl rfl) a_law_13); (case s_65 => rfl))
        ((with_reducible refine' ex_call ?c_66 ?hr_66 ?hg_66 ?hd_66 ?he_66 ?hp_66 ?q_66); (case c_66 => first | with_reducible assumption | exact Dfn.fn (by with_reducible assumption)); (case hr_66 => first | assumption | exact Room.mono (by assumption) (by decide)); (case hg_66 => rfl); (case hd_66 => rfl); (case he_66 => rfl); (case hp_66 => rfl))
        ((with_reducible refine ax_cons ?h_67 ?q_67); (case h_67 => rfl))
        ((with_reducible refine' ex_var (i := 4) (x := "_law_book_here") ?h_68 ?g_68 ?q_68); (case h_68 => exact At.of rfl rfl a_law_4); (case g_68 => rfl))
        ((with_reducible refine ax_cons ?h_69 ?q_69); (case h_69 => rfl))
        ((with_reducible refine' ex_var (i := 12) (x := "_law_comes") ?h_70 ?g_70 ?q_70); (case h_70 => exact At.of rfl rfl a_law_12); (case g_70 => rfl))
        (with_reducible refine ax_nil ?_)
        refine ⟨b, comesOrd b.length d beats o, rfl, ok, hcl, fun x hx => ?_, fun M8 hE8 => ?_⟩
        · unfold comesOrd at hx
          obtain ⟨t, ht, e⟩ := List.mem_map.mp hx
          have ht2 : t < b.length := by simpa using ht
          have hi := (idx_of (ord_all hom t ht2)).1
          have hol := ook.len
          have hlt : o.idxOf t < beats.length := by omega
          have h200 := hb200 _ (List.getElem_mem hlt)
          have e2 : beats.getD (o.idxOf t) 0 = beats[o.idxOf t] := by rw [List.getD_eq_getElem?_getD, List.getElem?_eq_getElem hlt]; rfl
          rw [e2] at e
          have e3 := Option.some.inj e
          omega
        have hR8 := hRj.ext hE8
        (with_reducible refine sxs_one ?_)
        with_reducible refine sx_if ?_
        ((with_reducible show TX _ _ (.BoolOp _ _ _) _ _ _); refine TW.tx ?_)
        (with_reducible refine tw_and ?_)
        ((with_reducible refine tx_cmp ?h_76 ?q_76); (case h_76 => first | exact nomark _ | rfl))
        (with_reducible refine ex_non ?_)
        ((with_reducible refine' ex_var (i := 13) (x := "_law_done") ?h_78 ?g_78 ?q_78); (case h_78 => exact At.of rfl rfl a_law_13); (case g_78 => rfl))
        refine ox_notInL rfl flat_encO ?_
        rw [inD_non]
        refine asB_bl (ite_ndec (fun hn => ?_) (fun hn => ?_))
        · obtain ⟨ns1, ens, hne, m, hm1, hm2⟩ := max_done ok hn
          have el : lastOf b d beats o = some m := hm1
          have es : lawStep (lastOf b d beats) best o = if best = none ∨ ∃ z, best = some z ∧ (decide (m < z.1) || (decide (m = z.1) && lexN o z.2)) = true then some (m, o) else best := by
            unfold lawStep; rw [el]
          cases best with
          | none =>
            (with_reducible refine tw_and1 ?_)
            ((with_reducible show TX _ _ (.BoolOp _ _ _) _ _ _); refine TW.tx ?_)
            (with_reducible refine tw_or ?_)
            ((with_reducible refine tx_cmp ?h_82 ?q_82); (case h_82 => first | exact nomark _ | rfl))
            ((with_reducible refine' ex_var (i := 9) (x := "_law_best") ?h_83 ?g_83 ?q_83); (case h_83 => exact At.of rfl rfl a_law_9); (case g_83 => rfl))
            (with_reducible refine ex_non ?_)
            (with_reducible refine ox_is ?_)
            (with_reducible refine asB_bl ?_)
            ((with_reducible show (ite (_ = true) _ _)); first | refine iteT' rfl ?_ | refine iteF' rfl ?_)
            ((with_reducible show (ite (_ = true) _ _)); first | refine iteT' rfl ?_ | refine iteF' rfl ?_)
            (with_reducible refine sxs_one ?_)
            ((with_reducible refine sx_set (i := 9) (x := "_law_best") ?h_90 ?s_90 ?q_90); (case h_90 => exact Lc.of sc_law.nd rfl rfl (.inl rfl) a_law_9); (case s_90 => rfl))
            ((with_reducible refine ex_tup ?q_91))
            ((with_reducible refine ax_cons ?h_92 ?q_92); (case h_92 => rfl))
            ((with_reducible refine' ex_callB ?c_93 ?he_93 ?hp_93 ?q_93); (case c_93 => first | with_reducible assumption | exact Blt.fn (by with_reducible assumption) rfl (by first | with_reducible exact bb_len | with_reducible exact bb_isinstance | with_reducible exact bb_max | with_reducible exact bb_min)); (case he_93 => rfl); (case hp_93 => rfl))
            ((with_reducible refine ax_cons ?h_94 ?q_94); (case h_94 => rfl))
            ((with_reducible refine' ex_var (i := 13) (x := "_law_done") ?h_95 ?g_95 ?q_95); (case h_95 => exact At.of rfl rfl a_law_13); (case g_95 => rfl))
            (with_reducible refine ax_nil ?_)
            rw [ens]
            refine bx_maxL rfl IsL.fz hne fun m' g1 g2 => ?_
            have e := hm2 m' g1 g2
            subst e
            ((with_reducible refine ax_cons ?h_97 ?q_97); (case h_97 => rfl))
            ((with_reducible refine' ex_var (i := 11) (x := "_law_order") ?h_98 ?g_98 ?q_98); (case h_98 => exact At.of rfl rfl a_law_11); (case g_98 => rfl))
            (with_reducible refine ax_nil ?_)
            ((with_reducible show (List.length _ ≤ sizeLine ∧ _)); refine And.intro (Nat.le_of_ble_eq_true rfl) ?_)
            exact ⟨some (m', o), _, _, _, _, _, _, _, _, _, _, rfl, by rw [enext, es, if_pos (.inl rfl)], hR8⟩
          | some z =>
            have ep : ∀ (n : Int) (l : List Nat), (D.tup [.int n, .lst (l.map encN)]).py = .tuple [.int n, .list ((l.map fun n : Nat => (n : Int)).map PyData.int)] := fun n l => by
              have e1 : l.map encN = (l.map fun n : Nat => (n : Int)).map D.int := by rw [List.map_map]; rfl
              rw [D.py, pys, pys, pys, D.py, D.py, e1, pys_int]
            have eP : ∀ (n : Int) (l : List Nat), (D.tup [.int n, .lst (l.map encN)]).isPy = true := fun n l => by
              have e1 : arePy (l.map encN) = true := by
                induction l with
                | nil => rfl
                | cons a l ih => rw [List.map_cons, arePy, ih]; rfl
              simp [D.isPy, arePy, e1]
            unfold encBest encNs
            (with_reducible refine tw_and1 ?_)
            ((with_reducible show TX _ _ (.BoolOp _ _ _) _ _ _); refine TW.tx ?_)
            (with_reducible refine tw_or ?_)
            ((with_reducible refine tx_cmp ?h_104 ?q_104); (case h_104 => first | exact nomark _ | rfl))
            ((with_reducible refine' ex_var (i := 9) (x := "_law_best") ?h_105 ?g_105 ?q_105); (case h_105 => exact At.of rfl rfl a_law_9); (case g_105 => rfl))
            (with_reducible refine ex_non ?_)
            (with_reducible refine ox_is ?_)
            (with_reducible refine asB_bl ?_)
            ((with_reducible show (ite (_ = true) _ _)); first | refine iteT' rfl ?_ | refine iteF' rfl ?_)
            (with_reducible refine tw_or1 ?_)
            ((with_reducible refine tx_cmp ?h_111 ?q_111); (case h_111 => first | exact nomark _ | rfl))
            ((with_reducible refine ex_tup ?q_112))
            ((with_reducible refine ax_cons ?h_113 ?q_113); (case h_113 => rfl))
            ((with_reducible refine' ex_callB ?c_114 ?he_114 ?hp_114 ?q_114); (case c_114 => first | with_reducible assumption | exact Blt.fn (by with_reducible assumption) rfl (by first | with_reducible exact bb_len | with_reducible exact bb_isinstance | with_reducible exact bb_max | with_reducible exact bb_min)); (case he_114 => rfl); (case hp_114 => rfl))
            ((with_reducible refine ax_cons ?h_115 ?q_115); (case h_115 => rfl))
            ((with_reducible refine' ex_var (i := 13) (x := "_law_done") ?h_116 ?g_116 ?q_116); (case h_116 => exact At.of rfl rfl a_law_13); (case g_116 => rfl))
            (with_reducible refine ax_nil ?_)
            rw [ens]
            refine bx_maxL rfl IsL.fz hne fun m' g1 g2 => ?_
            have e := hm2 m' g1 g2
            subst e
            ((with_reducible refine ax_cons ?h_118 ?q_118); (case h_118 => rfl))
            ((with_reducible refine' ex_var (i := 11) (x := "_law_order") ?h_119 ?g_119 ?q_119); (case h_119 => exact At.of rfl rfl a_law_11); (case g_119 => rfl))
            (with_reducible refine ax_nil ?_)
            ((with_reducible show (List.length _ ≤ sizeLine ∧ _)); refine And.intro (Nat.le_of_ble_eq_true rfl) ?_)
            ((with_reducible refine' ex_var (i := 9) (x := "_law_best") ?h_122 ?g_122 ?q_122); (case h_122 => exact At.of rfl rfl a_law_9); (case g_122 => rfl))
            refine ox_ltD hr.units (eP m' o) (eP z.1 z.2) ?_ ?_ ?_ ?_
            · rw [ep, ep]
              simp only [PySem.W.alike, PySem.W.alikeAll, alike_ints, Bool.and_self]
            · rw [ep]; intro z; cases z
            · have : deps (o.map encN) ≤ 0 := deps_le.mpr fun x hx => by
                obtain ⟨n, _, rfl⟩ := List.mem_map.mp hx
                exact Nat.le_refl 0
              simp [D.dep, deps]
              omega
            · rw [ep, ep, lt_pair, lexN_int]
              refine asB_bl ?_
              cases hlt : (decide (m' < z.1) || (decide (m' = z.1) && lexN o z.2)) with
              | true =>
                ((with_reducible show (ite (_ = true) _ _)); first | refine iteT' rfl ?_ | refine iteF' rfl ?_)
                (with_reducible refine sxs_one ?_)
                ((with_reducible refine sx_set (i := 9) (x := "_law_best") ?h_125 ?s_125 ?q_125); (case h_125 => exact Lc.of sc_law.nd rfl rfl (.inl rfl) a_law_9); (case s_125 => rfl))
                ((with_reducible refine ex_tup ?q_126))
                ((with_reducible refine ax_cons ?h_127 ?q_127); (case h_127 => rfl))
                ((with_reducible refine' ex_callB ?c_128 ?he_128 ?hp_128 ?q_128); (case c_128 => first | with_reducible assumption | exact Blt.fn (by with_reducible assumption) rfl (by first | with_reducible exact bb_len | with_reducible exact bb_isinstance | with_reducible exact bb_max | with_reducible exact bb_min)); (case he_128 => rfl); (case hp_128 => rfl))
                ((with_reducible refine ax_cons ?h_129 ?q_129); (case h_129 => rfl))
                ((with_reducible refine' ex_var (i := 13) (x := "_law_done") ?h_130 ?g_130 ?q_130); (case h_130 => exact At.of rfl rfl a_law_13); (case g_130 => rfl))
                (with_reducible refine ax_nil ?_)
                refine bx_maxL rfl IsL.fz hne fun m2 g1 g2 => ?_
                have e := hm2 m2 g1 g2
                subst e
                ((with_reducible refine ax_cons ?h_132 ?q_132); (case h_132 => rfl))
                ((with_reducible refine' ex_var (i := 11) (x := "_law_order") ?h_133 ?g_133 ?q_133); (case h_133 => exact At.of rfl rfl a_law_11); (case g_133 => rfl))
                (with_reducible refine ax_nil ?_)
                ((with_reducible show (List.length _ ≤ sizeLine ∧ _)); refine And.intro (Nat.le_of_ble_eq_true rfl) ?_)
                exact ⟨some (m2, o), _, _, _, _, _, _, _, _, _, _, rfl, by rw [enext, es, if_pos (.inr ⟨z, rfl, hlt⟩)], hR8⟩
              | false =>
                ((with_reducible show (ite (_ = true) _ _)); first | refine iteT' rfl ?_ | refine iteF' rfl ?_)
                (with_reducible refine sxs_nil ?_)
                refine ⟨some z, _, _, _, _, _, _, _, _, _, _, rfl, ?_, hR8⟩
                rw [enext, es, if_neg (by
                  rintro (q | ⟨y, hy, q⟩)
                  · cases q
                  · cases hy; rw [hlt] at q; cases q)]
        · have el : lastOf b d beats o = none := last_none.mpr hn
          ((with_reducible show (ite (_ = true) _ _)); first | refine iteT' rfl ?_ | refine iteF' rfl ?_)
          (with_reducible refine sxs_nil ?_)
          refine ⟨best, _, _, _, _, _, _, _, _, _, _, rfl, ?_, hR8⟩
          rw [enext]
          unfold lawStep
          rw [el]
      · rintro G' M' ⟨best, a2, a3, a5, a11, a12, a13, a14, a15, a16, a17, rfl, hbest, hRj⟩
        rw [List.length_map, List.take_length, hfin] at hbest
        have hS := soon_law (b := b) (d := d) (ws := ws)
        rw [hbe] at hS
        -- behind the due answer
        have rest2 : ∀ (M8 : Mem) (a2 a3 a5 a9 a11 a12 a13 a15 a16 a17 : Option D), Row ns r M8 →
            SXs B (X_law P w K mg base f cdv A outer sh H E) ((loopBody ((defBody s_law).getD 1 (.Pass ⟨0, 0, 0, 0⟩))).drop 11) ((En.sq (En.df Q) (SXs B (X_law P w K mg base f cdv A outer sh H E) ((defBody s_law).drop 2) (En.df Q))).lp (fun G' M' => ∃ (a2 a3 a4 a5 a6 a7 a8 a9 a10 a11 a12 a13 a14 a15 a16 a17 : Option D), G' = [some (.fzl (ns.map D.int)), some (.ref r), a2, a3, a4, a5, a6, a7, a8, a9, a10, a11, a12, a13, a14, a15, a16, a17] ∧ Row ns r M')) [some (.fzl (ns.map D.int)), some (.ref r), a2, a3, some (encB b), a5, some (.int d), some (encWn ws), some (.lst (beats.map encN)), a9, some (.int (b.length : Nat)), a11, a12, a13, some (encSoon (sturdyF b d ws 0)), a15, a16, a17] M8 := by
          intro M8 a2 a3 a5 a9 a11 a12 a13 a15 a16 a17 hR8
          refine sxs_one ?_
          refine sx_for PassesOwn.never rfl (fun _ => rfl) ?_
          refine lx_range1 rfl zr rfl ?_
          (with_reducible refine ex_int ?_)
          refine ⟨_, rfl, by decide, by decide, fun q G' M' => ∃ (a2 a3 a5 a9 a11 a12 a13 a15 a16 a17 : Option D), G' = [some (.fzl (ns.map D.int)), some (.ref r), a2, a3, some (encB b), a5, some (.int d), some (encWn ws), some (.lst (beats.map encN)), a9, some (.int (b.length : Nat)), a11, a12, a13, some (encSoon (sturdyF b d ws 0)), a15, a16, a17] ∧ Row ns r M', ⟨_, _, _, _, _, _, _, _, _, _, rfl, hR8⟩, ?_, ?_⟩
          · rintro q dd G' M' hd ⟨a2, a3, a5, a9, a11, a12, a13, a15, a16, a17, rfl, hRq⟩
            ((with_reducible refine gx_name (i := 15) (x := "_law_again") ?h_141 ?q_141); (case h_141 => exact Lc.of sc_law.nd rfl rfl (.inl rfl) a_law_15))
            (with_reducible refine sxs_cons ?_)
            ((with_reducible refine sx_set (i := 16) (x := "_law_found") ?h_143 ?s_143 ?q_143); (case h_143 => exact Lc.of sc_law.nd rfl rfl (.inl rfl) a_law_16); (case s_143 => rfl))
            ((with_reducible refine' ex_call ?c_144 ?hr_144 ?hg_144 ?hd_144 ?he_144 ?hp_144 ?q_144); (case c_144 => first | with_reducible assumption | exact Dfn.fn (by with_reducible assumption)); (case hr_144 => first | assumption | exact Room.mono (by assumption) (by decide)); (case hg_144 => rfl); (case hd_144 => rfl); (case he_144 => rfl); (case hp_144 => rfl))
            ((with_reducible refine ax_cons ?h_145 ?q_145); (case h_145 => rfl))
            ((with_reducible refine' ex_var (i := 4) (x := "_law_book_here") ?h_146 ?g_146 ?q_146); (case h_146 => exact At.of rfl rfl a_law_4); (case g_146 => rfl))
            ((with_reducible refine ax_cons ?h_147 ?q_147); (case h_147 => rfl))
            ((with_reducible refine' ex_var (i := 6) (x := "_law_delay") ?h_148 ?g_148 ?q_148); (case h_148 => exact At.of rfl rfl a_law_6); (case g_148 => rfl))
            ((with_reducible refine ax_cons ?h_149 ?q_149); (case h_149 => rfl))
            ((with_reducible refine' ex_var (i := 7) (x := "_law_windows_here") ?h_150 ?g_150 ?q_150); (case h_150 => exact At.of rfl rfl a_law_7); (case g_150 => rfl))
            (with_reducible refine ax_nil ?_)
            refine ⟨b, d, ws, rfl, ok, hd1, hd9, hW, by omega, h6, fun M1 hE1 => ⟨fun hn => ?_, fun m sends l hs hl0 hl1 => ?_⟩⟩
            · rw [hn]
              (with_reducible refine sxs_cons ?_)
              with_reducible refine sx_if ?_
              (with_reducible refine tx_not ?_)
              ((with_reducible show TX _ _ (.Call _ _ _ _) _ _ _); refine tx_val (fun _ => rfl) ?_)
              ((with_reducible refine' ex_call ?c_156 ?hr_156 ?hg_156 ?hd_156 ?he_156 ?hp_156 ?q_156); (case c_156 => first | with_reducible assumption | exact Dfn.fn (by with_reducible assumption)); (case hr_156 => first | assumption | exact Room.mono (by assumption) (by decide)); (case hg_156 => rfl); (case hd_156 => rfl); (case he_156 => rfl); (case hp_156 => rfl))
              ((with_reducible refine ax_cons ?h_157 ?q_157); (case h_157 => rfl))
              ((with_reducible refine' ex_var (i := 16) (x := "_law_found") ?h_158 ?g_158 ?q_158); (case h_158 => exact At.of rfl rfl a_law_16); (case g_158 => rfl))
              ((with_reducible refine ax_cons ?h_159 ?q_159); (case h_159 => rfl))
              ((with_reducible refine' ex_var (i := 14) (x := "_law_due") ?h_160 ?g_160 ?q_160); (case h_160 => exact At.of rfl rfl a_law_14); (case g_160 => rfl))
              (with_reducible refine ax_nil ?_)
              refine ro1 (.bl true) (DeepAll.self _) ⟨.non, rfl, rfl, Nat.zero_le _, rfl⟩ rfl ?_
              (with_reducible refine asB_bl ?_)
              ((with_reducible show (ite (_ = true) _ _)); first | refine iteT' rfl ?_ | refine iteF' rfl ?_)
              (with_reducible refine sxs_nil ?_)
              (with_reducible refine sxs_one ?_)
              with_reducible refine sx_if ?_
              ((with_reducible refine tx_cmp ?h_167 ?q_167); (case h_167 => first | exact nomark _ | rfl))
              ((with_reducible refine' ex_var (i := 16) (x := "_law_found") ?h_168 ?g_168 ?q_168); (case h_168 => exact At.of rfl rfl a_law_16); (case g_168 => rfl))
              (with_reducible refine ex_non ?_)
              (with_reducible refine ox_isnot ?_)
              (with_reducible refine asB_bl ?_)
              ((with_reducible show (ite (_ = true) _ _)); first | refine iteT' rfl ?_ | refine iteF' rfl ?_)
              (with_reducible refine sxs_nil ?_)
              exact ⟨_, _, _, _, _, _, _, _, _, _, rfl, hRq.ext hE1⟩
            · have hsl : sends.length ≤ 6 := by
                rw [hS] at hs
                cases q : lawBest b d ws with
                | none => rw [q] at hs; cases hs
                | some z =>
                  rw [q] at hs
                  have e := congrArg (fun z => z.map fun y : Int × List (Int × Nat) => y.2.length) hs
                  simp at e
                  omega
              rw [hs]
              have hlr : l ≠ r := hRq.ne hl0
              have hA : (encSoon (some (m, sends))).okA = true := okA_tup (by show 2 ≤ 100000; decide) fun x hx => by
                rcases List.mem_cons.mp hx with rfl | hx
                · rfl
                rw [List.mem_singleton.mp hx]
                refine okA_lst (by rw [List.length_map]; show sends.length ≤ _; omega) fun x hx => ?_
                obtain ⟨n, _, rfl⟩ := List.mem_map.mp hx
                rfl
              have hdp : (encSoon (some (m, sends))).dep ≤ 3 := dep_tup.mpr ⟨by decide, fun x hx => by
                rcases List.mem_cons.mp hx with rfl | hx
                · exact Nat.zero_le _
                rw [List.mem_singleton.mp hx]
                refine dep_lst.mpr ⟨by decide, fun x hx => ?_⟩
                obtain ⟨n, _, rfl⟩ := List.mem_map.mp hx
                simp [encSd, encN, D.dep, deps]⟩
              (with_reducible refine sxs_cons ?_)
              with_reducible refine sx_if ?_
              (with_reducible refine tx_not ?_)
              ((with_reducible show TX _ _ (.Call _ _ _ _) _ _ _); refine tx_val (fun _ => rfl) ?_)
              ((with_reducible refine' ex_call ?c_178 ?hr_178 ?hg_178 ?hd_178 ?he_178 ?hp_178 ?q_178); (case c_178 => first | with_reducible assumption | exact Dfn.fn (by with_reducible assumption)); (case hr_178 => first | assumption | exact Room.mono (by assumption) (by decide)); (case hg_178 => rfl); (case hd_178 => rfl); (case he_178 => rfl); (case hp_178 => rfl))
              ((with_reducible refine ax_cons ?h_179 ?q_179); (case h_179 => rfl))
              ((with_reducible refine' ex_var (i := 16) (x := "_law_found") ?h_180 ?g_180 ?q_180); (case h_180 => exact At.of rfl rfl a_law_16); (case g_180 => rfl))
              ((with_reducible refine ax_cons ?h_181 ?q_181); (case h_181 => rfl))
              ((with_reducible refine' ex_var (i := 14) (x := "_law_due") ?h_182 ?g_182 ?q_182); (case h_182 => exact At.of rfl rfl a_law_14); (case g_182 => rfl))
              (with_reducible refine ax_nil ?_)
              refine ro1 (.bl true) (.cons (.tup (.cons (.self _) (.cons (.cell hl1 (DeepAll.self _)) .nil))) (DeepAll.self _)) ⟨encSoon (some (m, sends)), rfl, hA, by omega, rfl⟩ rfl ?_
              (with_reducible refine asB_bl ?_)
              ((with_reducible show (ite (_ = true) _ _)); first | refine iteT' rfl ?_ | refine iteF' rfl ?_)
              (with_reducible refine sxs_nil ?_)
              (with_reducible refine sxs_one ?_)
              with_reducible refine sx_if ?_
              ((with_reducible refine tx_cmp ?h_189 ?q_189); (case h_189 => first | exact nomark _ | rfl))
              ((with_reducible refine' ex_var (i := 16) (x := "_law_found") ?h_190 ?g_190 ?q_190); (case h_190 => exact At.of rfl rfl a_law_16); (case g_190 => rfl))
              (with_reducible refine ex_non ?_)
              (with_reducible refine ox_isnot ?_)
              (with_reducible refine asB_bl ?_)
              ((with_reducible show (ite (_ = true) _ _)); first | refine iteT' rfl ?_ | refine iteF' rfl ?_)
              (with_reducible refine sxs_one ?_)
              ((with_reducible refine sx_expr ?h_196 ?q_196); (case h_196 => rfl))
              refine ex_append rfl rfl rfl rfl rfl ?_
              ((with_reducible refine ex_sub ?h_197 ?q_197); (case h_197 => exact fun _ _ => rfl))
              ((with_reducible refine' ex_var (i := 16) (x := "_law_found") ?h_198 ?g_198 ?q_198); (case h_198 => exact At.of rfl rfl a_law_16); (case g_198 => rfl))
              (with_reducible refine ex_int ?_)
              ((with_reducible show (IX _ _ (.tup _) (.int _) _ _ _)); refine ix_t rfl ?_)
              refine ⟨l, _, rfl, hl1, ?_⟩
              ((with_reducible refine ex_tup ?q_201))
              (with_reducible refine ax_nil ?_)
              ((with_reducible show (List.length _ ≤ sizeLine ∧ _)); refine And.intro (Nat.le_of_ble_eq_true rfl) ?_)
              refine ⟨_, hl1, ?_, ?_⟩
              · rw [List.length_map]
                exact Nat.lt_of_le_of_lt hsl (by decide)
              skip
              exact ⟨_, _, _, _, _, _, _, _, _, _, rfl, (hRq.ext hE1).upd hlr⟩
          · rintro G' M' ⟨a2, a3, a5, a9, a11, a12, a13, a15, a16, a17, rfl, hRq⟩
            exact ⟨_, _, _, _, _, _, _, _, _, _, _, _, _, _, _, _, rfl, hRq⟩
        have hlb : ∀ z, lawBest b d ws = some z → beats.length = b.length ∧ z.2.length = b.length := fun z hz => by
          unfold lawBest at hz
          rw [hbe] at hz
          by_cases q : beats.length = b.length
          · rw [if_pos q] at hz
            exact ⟨q, (ord_ok (best_mem hz)).len⟩
          · rw [if_neg q] at hz; cases hz
        rw [← hbest] at hS hlb
        clear hbest hfin
        cases best with
        | none =>
          have eS : encSoon (sturdyF b d ws 0) = .non := by rw [hS]; rfl
          rw [eS] at rest2
          (refine sxs_cons ?_)
          ((with_reducible refine sx_set (i := 14) (x := "_law_due") ?h_205 ?s_205 ?q_205); (case h_205 => exact Lc.of sc_law.nd rfl rfl (.inl rfl) a_law_14); (case s_205 => rfl))
          refine ex_non ?_
          refine sxs_cons (sx_if ?_)
          refine TX.imp (Q := fun t M1 => t = false ∧ M1 = M') ?_ ?_
          · ((with_reducible refine tx_cmp ?h_206 ?q_206); (case h_206 => first | exact nomark _ | rfl))
            ((with_reducible refine' ex_var (i := 9) (x := "_law_best") ?h_207 ?g_207 ?q_207); (case h_207 => exact At.of rfl rfl a_law_9); (case g_207 => rfl))
            (with_reducible refine ex_non ?_)
            (with_reducible refine ox_isnot ?_)
            (with_reducible refine asB_bl ?_)
            exact ⟨rfl, rfl⟩
          rintro t M1 ⟨rfl, rfl⟩
          refine iteF' rfl (sxs_nil ?_)
          exact rest2 _ _ _ _ _ _ _ _ _ _ _ hRj
        | some z =>
          obtain ⟨hbl, hzl⟩ := hlb z rfl
          have eS : encSoon (sturdyF b d ws 0) = .tup [.int z.1, .lst ((List.range b.length).map fun k => encSd ((beats.getD k 0 : Nat), z.2.getD k 0))] := by
            rw [hS]
            show D.tup [.int z.1, .lst (((List.range b.length).map fun k => (((beats.getD k 0 : Nat) : Int), z.2.getD k 0)).map encSd)] = _
            rw [List.map_map]; rfl
          rw [eS] at rest2
          (refine sxs_cons ?_)
          ((with_reducible refine sx_set (i := 14) (x := "_law_due") ?h_212 ?s_212 ?q_212); (case h_212 => exact Lc.of sc_law.nd rfl rfl (.inl rfl) a_law_14); (case s_212 => rfl))
          refine ex_non ?_
          refine sxs_cons (sx_if ?_)
          refine TX.imp (Q := fun t M1 => t = true ∧ M' = M1) ?_ ?_
          · unfold encBest
            ((with_reducible refine tx_cmp ?h_213 ?q_213); (case h_213 => first | exact nomark _ | rfl))
            ((with_reducible refine' ex_var (i := 9) (x := "_law_best") ?h_214 ?g_214 ?q_214); (case h_214 => exact At.of rfl rfl a_law_9); (case g_214 => rfl))
            (with_reducible refine ex_non ?_)
            (with_reducible refine ox_isnot ?_)
            (with_reducible refine asB_bl ?_)
            exact ⟨rfl, rfl⟩
          rintro t M1 ⟨rfl, rfl⟩
          refine iteT' rfl (sxs_one ?_)
          ((with_reducible refine sx_set (i := 14) (x := "_law_due") ?h_218 ?s_218 ?q_218); (case h_218 => exact Lc.of sc_law.nd rfl rfl (.inl rfl) a_law_14); (case s_218 => rfl))
          refine EX.imp (Q := fun d1 M1 => d1 = .tup [.int z.1, .lst ((List.range b.length).map fun k => encSd ((beats.getD k 0 : Nat), z.2.getD k 0))] ∧ M' = M1) ?_ ?_
          · unfold encBest
            ((with_reducible refine ex_tup ?q_219))
            ((with_reducible refine ax_cons ?h_220 ?q_220); (case h_220 => rfl))
            ((with_reducible refine ex_sub ?h_221 ?q_221); (case h_221 => exact fun _ _ => rfl))
            ((with_reducible refine' ex_var (i := 9) (x := "_law_best") ?h_222 ?g_222 ?q_222); (case h_222 => exact At.of rfl rfl a_law_9); (case g_222 => rfl))
            (with_reducible refine ex_int ?_)
            ((with_reducible show (IX _ _ (.tup _) (.int _) _ _ _)); refine ix_t rfl ?_)
            ((with_reducible refine ax_cons ?h_225 ?q_225); (case h_225 => rfl))
            refine' ex_lcp (own := [("_law_k", 17)]) (t := .inl 17) ?f rfl sc_law.nd (blkOk_by (N := n_law) (sc := defScope s_law) (by decide +kernel)) (by decide) (fun _ _ _ _ _ => pg_name (i := 17) sc_law.nd rfl (by first | exact Or.inl rfl | exact Or.inr rfl)) (fun _ => rfl) ?_
            case f => exact fun d0 => match d0 with
              | .int m => some (encSd ((beats.getD m.toNat 0 : Nat), z.2.getD m.toNat 0))
              | _ => none
            refine lx_range1 rfl zr rfl ?_
            ((with_reducible refine' ex_var (i := 10) (x := "_law_many") ?h_227 ?g_227 ?q_227); (case h_227 => exact At.of rfl rfl a_law_10); (case g_227 => rfl))
            refine ⟨_, rfl, by omega, by omega, ⟨?_, fun d0 M3 hd3 hm => ?_⟩, ?_⟩
            · rw [rangeD_len]
              exact Nat.lt_of_le_of_lt (by omega : _ ≤ 6) (by decide)
            · obtain ⟨m, hm0⟩ := List.mem_iff_getElem?.mp hd3
              obtain ⟨hmlt, rfl⟩ := rangeD_at hm0
              have et : ((0 : Int) + (m : Int)).toNat = m := by omega
              have hmN : m < b.length := by omega
              have g1 : (beats.map encN)[m]? = some (encN (beats.getD m 0)) := by
                rw [List.getElem?_map, List.getElem?_eq_getElem (by omega), List.getD_eq_getElem?_getD, List.getElem?_eq_getElem (by omega)]; rfl
              have g2 : (z.2.map encN)[m]? = some (encN (z.2.getD m 0)) := by
                rw [List.getElem?_map, List.getElem?_eq_getElem (by omega), List.getD_eq_getElem?_getD, List.getElem?_eq_getElem (by omega)]; rfl
              refine fun s1 H1 C1 cl1 fp1 => txs_nil (iteT fun s2 H2 C2 cl2 fp2 => ?_)
              ((with_reducible refine ex_tup ?q_228))
              ((with_reducible refine ax_cons ?h_229 ?q_229); (case h_229 => rfl))
              ((with_reducible refine ex_sub ?h_230 ?q_230); (case h_230 => exact fun _ _ => rfl))
              ((with_reducible refine' ex_var (i := 8) (x := "_law_slots_here") ?h_231 ?g_231 ?q_231); (case h_231 => exact At.b rfl (by first | exact Or.inl rfl | exact Or.inr (Or.inl rfl) | exact Or.inr (Or.inr rfl))); (case g_231 => rfl))
              ((with_reducible refine' ex_var (i := 17) (x := "_law_k") ?h_232 ?g_232 ?q_232); (case h_232 => exact At.b rfl (by first | exact Or.inl rfl | exact Or.inr (Or.inl rfl) | exact Or.inr (Or.inr rfl))); (case g_232 => rfl))
              refine ix_l (atI_of (Int.zero_add _) g1) ?_
              ((with_reducible refine ax_cons ?h_233 ?q_233); (case h_233 => rfl))
              ((with_reducible refine ex_sub ?h_234 ?q_234); (case h_234 => exact fun _ _ => rfl))
              ((with_reducible refine ex_sub ?h_235 ?q_235); (case h_235 => exact fun _ _ => rfl))
              ((with_reducible refine' ex_var (i := 9) (x := "_law_best") ?h_236 ?g_236 ?q_236); (case h_236 => exact At.b rfl (by first | exact Or.inl rfl | exact Or.inr (Or.inl rfl) | exact Or.inr (Or.inr rfl))); (case g_236 => rfl))
              (with_reducible refine ex_int ?_)
              ((with_reducible show (IX _ _ (.tup _) (.int _) _ _ _)); refine ix_t rfl ?_)
              ((with_reducible refine' ex_var (i := 17) (x := "_law_k") ?h_239 ?g_239 ?q_239); (case h_239 => exact At.b rfl (by first | exact Or.inl rfl | exact Or.inr (Or.inl rfl) | exact Or.inr (Or.inr rfl))); (case g_239 => rfl))
              unfold encNs
              refine ix_l (atI_of (Int.zero_add _) g2) ?_
              (with_reducible refine ax_nil ?_)
              ((with_reducible show (List.length _ ≤ sizeLine ∧ _)); refine And.intro (Nat.le_of_ble_eq_true rfl) ?_)
              refine ⟨rfl, ?_⟩
              show some (encSd ((beats.getD ((0 : Int) + (m : Int)).toNat 0 : Nat), z.2.getD ((0 : Int) + (m : Int)).toNat 0)) = _
              rw [et]; rfl
            have eL : (rangeD 0 (b.length : Int).toNat).filterMap (fun d0 => match d0 with
              | .int m => some (encSd ((beats.getD m.toNat 0 : Nat), z.2.getD m.toNat 0))
              | _ => none) = (List.range b.length).map fun k => encSd ((beats.getD k 0 : Nat), z.2.getD k 0) := by
              unfold rangeD
              rw [List.filterMap_map, Int.toNat_natCast]
              show (List.range b.length).filterMap (fun t : Nat => some (encSd ((beats.getD ((0 : Int) + (t : Int)).toNat 0 : Nat), z.2.getD ((0 : Int) + (t : Int)).toNat 0))) = _
              rw [List.filterMap_eq_map']
              refine List.map_congr_left fun t _ => ?_
              rw [Int.zero_add, Int.toNat_natCast]
            rw [eL]
            (with_reducible refine ax_nil ?_)
            ((with_reducible show (List.length _ ≤ sizeLine ∧ _)); refine And.intro (Nat.le_of_ble_eq_true rfl) ?_)
            exact ⟨rfl, rfl⟩
          rintro d1 M1 ⟨rfl, rfl⟩
          exact rest2 _ _ _ _ _ _ _ _ _ _ _ hRj
    ((with_reducible refine gx_name (i := 2) (x := "_law_turn") ?h_244 ?q_244); (case h_244 => exact Lc.of sc_law.nd rfl rfl (.inl rfl) a_law_2))
    (with_reducible refine sxs_cons ?_)
    ((with_reducible refine sx_set (i := 3) (x := "_law_most") ?h_246 ?s_246 ?q_246); (case h_246 => exact Lc.of sc_law.nd rfl rfl (.inl rfl) a_law_3); (case s_246 => rfl))
    ((with_reducible refine ex_subL ?h_247 ?q_247); (case h_247 => exact fun _ _ => rfl))
    ((with_reducible refine ax_cons ?h_248 ?q_248); (case h_248 => rfl))
    (with_reducible refine ex_int ?_)
    ((with_reducible refine ax_cons ?h_250 ?q_250); (case h_250 => rfl))
    (with_reducible refine ex_int ?_)
    ((with_reducible refine ax_cons ?h_252 ?q_252); (case h_252 => rfl))
    (with_reducible refine ex_int ?_)
    ((with_reducible refine ax_cons ?h_254 ?q_254); (case h_254 => rfl))
    (with_reducible refine ex_int ?_)
    (with_reducible refine ax_nil ?_)
    ((with_reducible show (List.length _ ≤ sizeLine ∧ _)); refine And.intro (Nat.le_of_ble_eq_true rfl) ?_)
    ((with_reducible refine' ex_call ?c_258 ?hr_258 ?hg_258 ?hd_258 ?he_258 ?hp_258 ?q_258); (case c_258 => first | with_reducible assumption | exact Dfn.fn (by with_reducible assumption)); (case hr_258 => first | assumption | exact Room.mono (by assumption) (by decide)); (case hg_258 => rfl); (case hd_258 => rfl); (case he_258 => rfl); (case hp_258 => rfl))
    ((with_reducible refine ax_cons ?h_259 ?q_259); (case h_259 => rfl))
    ((with_reducible refine' ex_var (i := 1) (x := "_law_row") ?h_260 ?g_260 ?q_260); (case h_260 => exact At.of rfl rfl a_law_1); (case g_260 => rfl))
    ((with_reducible refine ax_cons ?h_261 ?q_261); (case h_261 => rfl))
    (with_reducible refine ex_int ?_)
    (with_reducible refine ax_nil ?_)
    refine ⟨ns, r, _, rfl, hR, by decide, fun k1 M1 x0 x1 hR1 hB1 => ?_⟩
    refine ix_li (ns := [4, 5, 5, 6]) x0 x1 fun most hmost => ?_
    have hmost' : 4 ≤ most ∧ most ≤ 6 := by
      have : most = 4 ∨ most = 5 ∨ most = 5 ∨ most = 6 := by simpa using hmost
      omega
    have hdv : most / 6 = 0 ∨ most / 6 = 1 := by omega
    generalize hdv0 : most / 6 = mq at hdv
    (with_reducible refine sxs_cons ?_)
    ((with_reducible refine sx_set (i := 4) (x := "_law_book_here") ?h_265 ?s_265 ?q_265); (case h_265 => exact Lc.of sc_law.nd rfl rfl (.inl rfl) a_law_4); (case s_265 => rfl))
    ((with_reducible refine' ex_call ?c_266 ?hr_266 ?hg_266 ?hd_266 ?he_266 ?hp_266 ?q_266); (case c_266 => first | with_reducible assumption | exact Dfn.fn (by with_reducible assumption)); (case hr_266 => first | assumption | exact Room.mono (by assumption) (by decide)); (case hg_266 => rfl); (case hd_266 => rfl); (case he_266 => rfl); (case hp_266 => rfl))
    ((with_reducible refine ax_cons ?h_267 ?q_267); (case h_267 => rfl))
    ((with_reducible refine' ex_var (i := 1) (x := "_law_row") ?h_268 ?g_268 ?q_268); (case h_268 => exact At.of rfl rfl a_law_1); (case g_268 => rfl))
    ((with_reducible refine ax_cons ?h_269 ?q_269); (case h_269 => rfl))
    ((with_reducible refine' ex_var (i := 3) (x := "_law_most") ?h_270 ?g_270 ?q_270); (case h_270 => exact At.of rfl rfl a_law_3); (case g_270 => rfl))
    ((with_reducible refine ax_cons ?h_271 ?q_271); (case h_271 => rfl))
    ((with_reducible refine ex_subL ?h_272 ?q_272); (case h_272 => exact fun _ _ => rfl))
    ((with_reducible refine ax_cons ?h_273 ?q_273); (case h_273 => rfl))
    (with_reducible refine ex_int ?_)
    ((with_reducible refine ax_cons ?h_275 ?q_275); (case h_275 => rfl))
    (with_reducible refine ex_int ?_)
    ((with_reducible refine ax_cons ?h_277 ?q_277); (case h_277 => rfl))
    ((with_reducible refine ex_subL ?h_278 ?q_278); (case h_278 => exact fun _ _ => rfl))
    ((with_reducible refine ax_cons ?h_279 ?q_279); (case h_279 => rfl))
    (with_reducible refine ex_int ?_)
    ((with_reducible refine ax_cons ?h_281 ?q_281); (case h_281 => rfl))
    (with_reducible refine ex_int ?_)
    (with_reducible refine ax_nil ?_)
    ((with_reducible show (List.length _ ≤ sizeLine ∧ _)); refine And.intro (Nat.le_of_ble_eq_true rfl) ?_)
    (with_reducible refine ex_bin ?_)
    ((with_reducible refine' ex_var (i := 3) (x := "_law_most") ?h_286 ?g_286 ?q_286); (case h_286 => exact At.of rfl rfl a_law_3); (case g_286 => rfl))
    (with_reducible refine ex_int ?_)
    refine ox_fdiv ⟨by decide, by decide⟩ ?_
    rw [hdv0]
    refine ix_li (ns := [200, 60]) (by omega) (by show mq < 2; omega) fun f1 hf1 => ?_
    have hf1' : f1 = 200 ∨ f1 = 60 := by simpa using hf1
    (with_reducible refine ax_nil ?_)
    ((with_reducible show (List.length _ ≤ sizeLine ∧ _)); refine And.intro (Nat.le_of_ble_eq_true rfl) ?_)
    ((with_reducible refine' ex_call ?c_290 ?hr_290 ?hg_290 ?hd_290 ?he_290 ?hp_290 ?q_290); (case c_290 => first | with_reducible assumption | exact Dfn.fn (by with_reducible assumption)); (case hr_290 => first | assumption | exact Room.mono (by assumption) (by decide)); (case hg_290 => rfl); (case hd_290 => rfl); (case he_290 => rfl); (case hp_290 => rfl))
    ((with_reducible refine ax_cons ?h_291 ?q_291); (case h_291 => rfl))
    ((with_reducible refine' ex_var (i := 1) (x := "_law_row") ?h_292 ?g_292 ?q_292); (case h_292 => exact At.of rfl rfl a_law_1); (case g_292 => rfl))
    ((with_reducible refine ax_cons ?h_293 ?q_293); (case h_293 => rfl))
    (with_reducible refine ex_int ?_)
    (with_reducible refine ax_nil ?_)
    refine ⟨ns, r, _, rfl, hR1, by decide, fun k2 M2 y0 y1 hR2 hB2 => ?_⟩
    refine ix_li (ns := [12, 60, f1]) y0 y1 fun f2 hf2 => ?_
    have hf2' : f2 = 12 ∨ f2 = 60 ∨ f2 = f1 := by simpa using hf2
    (with_reducible refine ax_nil ?_)
    refine ⟨ns, r, most, f2, rfl, hR2, by omega, by omega, by omega, by omega, fun b0 M3 ok0 bl0 bt0 hR3 hK3 => ?_⟩
    (with_reducible refine sxs_cons ?_)
    ((with_reducible refine sx_set (i := 5) (x := "_law_far") ?h_298 ?s_298 ?q_298); (case h_298 => exact Lc.of sc_law.nd rfl rfl (.inl rfl) a_law_5); (case s_298 => rfl))
    ((with_reducible refine ex_subL ?h_299 ?q_299); (case h_299 => exact fun _ _ => rfl))
    ((with_reducible refine ax_cons ?h_300 ?q_300); (case h_300 => rfl))
    (with_reducible refine ex_int ?_)
    ((with_reducible refine ax_cons ?h_302 ?q_302); (case h_302 => rfl))
    (with_reducible refine ex_int ?_)
    ((with_reducible refine ax_cons ?h_304 ?q_304); (case h_304 => rfl))
    (with_reducible refine ex_int ?_)
    ((with_reducible refine ax_cons ?h_306 ?q_306); (case h_306 => rfl))
    ((with_reducible refine ex_subL ?h_307 ?q_307); (case h_307 => exact fun _ _ => rfl))
    ((with_reducible refine ax_cons ?h_308 ?q_308); (case h_308 => rfl))
    (with_reducible refine ex_int ?_)
    ((with_reducible refine ax_cons ?h_310 ?q_310); (case h_310 => rfl))
    (with_reducible refine ex_int ?_)
    (with_reducible refine ax_nil ?_)
    ((with_reducible show (List.length _ ≤ sizeLine ∧ _)); refine And.intro (Nat.le_of_ble_eq_true rfl) ?_)
    (with_reducible refine ex_bin ?_)
    ((with_reducible refine' ex_var (i := 3) (x := "_law_most") ?h_315 ?g_315 ?q_315); (case h_315 => exact At.of rfl rfl a_law_3); (case g_315 => rfl))
    (with_reducible refine ex_int ?_)
    refine ox_fdiv ⟨by decide, by decide⟩ ?_
    rw [hdv0]
    refine ix_li (ns := [200, 60]) (by omega) (by show mq < 2; omega) fun f3 hf3 => ?_
    have hf3' : f3 = 200 ∨ f3 = 60 := by simpa using hf3
    (with_reducible refine ax_nil ?_)
    ((with_reducible show (List.length _ ≤ sizeLine ∧ _)); refine And.intro (Nat.le_of_ble_eq_true rfl) ?_)
    ((with_reducible refine' ex_call ?c_319 ?hr_319 ?hg_319 ?hd_319 ?he_319 ?hp_319 ?q_319); (case c_319 => first | with_reducible assumption | exact Dfn.fn (by with_reducible assumption)); (case hr_319 => first | assumption | exact Room.mono (by assumption) (by decide)); (case hg_319 => rfl); (case hd_319 => rfl); (case he_319 => rfl); (case hp_319 => rfl))
    ((with_reducible refine ax_cons ?h_320 ?q_320); (case h_320 => rfl))
    ((with_reducible refine' ex_var (i := 1) (x := "_law_row") ?h_321 ?g_321 ?q_321); (case h_321 => exact At.of rfl rfl a_law_1); (case g_321 => rfl))
    ((with_reducible refine ax_cons ?h_322 ?q_322); (case h_322 => rfl))
    (with_reducible refine ex_int ?_)
    (with_reducible refine ax_nil ?_)
    refine ⟨ns, r, _, rfl, hR3, by decide, fun k4 M4 z0 z1 hR4 hB4 => ?_⟩
    refine ix_li (ns := [3, 12, 60, f3]) z0 z1 fun f4 hf4 => ?_
    have hf4' : f4 = 3 ∨ f4 = 12 ∨ f4 = 60 ∨ f4 = f3 := by simpa using hf4
    (with_reducible refine sxs_cons ?_)
    ((with_reducible refine sx_asg ?h_326 ?g_326 ?i_326 ?q_326); (case h_326 => rfl); (case g_326 => rfl); (case i_326 => rfl))
    ((with_reducible refine ex_tup ?q_327))
    ((with_reducible refine ax_cons ?h_328 ?q_328); (case h_328 => rfl))
    (with_reducible refine ex_bin ?_)
    (with_reducible refine ex_int ?_)
    ((with_reducible refine' ex_call ?c_331 ?hr_331 ?hg_331 ?hd_331 ?he_331 ?hp_331 ?q_331); (case c_331 => first | with_reducible assumption | exact Dfn.fn (by with_reducible assumption)); (case hr_331 => first | assumption | exact Room.mono (by assumption) (by decide)); (case hg_331 => rfl); (case hd_331 => rfl); (case he_331 => rfl); (case hp_331 => rfl))
    ((with_reducible refine ax_cons ?h_332 ?q_332); (case h_332 => rfl))
    ((with_reducible refine' ex_var (i := 1) (x := "_law_row") ?h_333 ?g_333 ?q_333); (case h_333 => exact At.of rfl rfl a_law_1); (case g_333 => rfl))
    ((with_reducible refine ax_cons ?h_334 ?q_334); (case h_334 => rfl))
    (with_reducible refine ex_int ?_)
    (with_reducible refine ax_nil ?_)
    refine ⟨ns, r, _, rfl, hR4, by decide, fun k5 M5 u0 u1 hR5 hB5 => ?_⟩
    (with_reducible refine ox_add ?_)
    ((with_reducible refine ax_cons ?h_338 ?q_338); (case h_338 => rfl))
    ((with_reducible refine' ex_call ?c_339 ?hr_339 ?hg_339 ?hd_339 ?he_339 ?hp_339 ?q_339); (case c_339 => first | with_reducible assumption | exact Dfn.fn (by with_reducible assumption)); (case hr_339 => first | assumption | exact Room.mono (by assumption) (by decide)); (case hg_339 => rfl); (case hd_339 => rfl); (case he_339 => rfl); (case hp_339 => rfl))
    ((with_reducible refine ax_cons ?h_340 ?q_340); (case h_340 => rfl))
    ((with_reducible refine' ex_var (i := 1) (x := "_law_row") ?h_341 ?g_341 ?q_341); (case h_341 => exact At.of rfl rfl a_law_1); (case g_341 => rfl))
    ((with_reducible refine ax_cons ?h_342 ?q_342); (case h_342 => rfl))
    ((with_reducible refine' ex_var (i := 5) (x := "_law_far") ?h_343 ?g_343 ?q_343); (case h_343 => exact At.of rfl rfl a_law_5); (case g_343 => rfl))
    (with_reducible refine ax_nil ?_)
    refine ⟨ns, r, f4, rfl, hR5, by omega, by omega, fun ws0 M6 hW0 hWl0 _ hR6 hK6 => ?_⟩
    have hd1 : 1 ≤ 1 + k5 ∧ 1 + k5 ≤ 9 := by omega
    generalize 1 + k5 = d at hd1
    (with_reducible refine ax_nil ?_)
    ((with_reducible show (List.length _ ≤ sizeLine ∧ _)); refine And.intro (Nat.le_of_ble_eq_true rfl) ?_)
    ((with_reducible refine' gx_tup ?c_347 ?l_347 ?h_347 ?g_347 ?q_347); (case c_347 => rfl); (case l_347 => rfl); (case h_347 => rfl); (case g_347 => rfl))
    ((with_reducible refine gxs_cons ?h_348 ?q_348); (case h_348 => rfl))
    ((with_reducible refine gx_name (i := 6) (x := "_law_delay") ?h_349 ?q_349); (case h_349 => exact Lc.of sc_law.nd rfl rfl (.inl rfl) a_law_6))
    ((with_reducible refine gxs_cons ?h_350 ?q_350); (case h_350 => rfl))
    ((with_reducible refine gx_name (i := 7) (x := "_law_windows_here") ?h_351 ?q_351); (case h_351 => exact Lc.of sc_law.nd rfl rfl (.inl rfl) a_law_7))
    (with_reducible refine gxs_nil ?_)
    (with_reducible refine sxs_cons ?_)
    with_reducible refine sx_if ?_
    ((with_reducible refine tx_cmp ?h_355 ?q_355); (case h_355 => first | exact nomark _ | rfl))
    ((with_reducible refine' ex_call ?c_356 ?hr_356 ?hg_356 ?hd_356 ?he_356 ?hp_356 ?q_356); (case c_356 => first | with_reducible assumption | exact Dfn.fn (by with_reducible assumption)); (case hr_356 => first | assumption | exact Room.mono (by assumption) (by decide)); (case hg_356 => rfl); (case hd_356 => rfl); (case he_356 => rfl); (case hp_356 => rfl))
    ((with_reducible refine ax_cons ?h_357 ?q_357); (case h_357 => rfl))
    ((with_reducible refine' ex_var (i := 1) (x := "_law_row") ?h_358 ?g_358 ?q_358); (case h_358 => exact At.of rfl rfl a_law_1); (case g_358 => rfl))
    ((with_reducible refine ax_cons ?h_359 ?q_359); (case h_359 => rfl))
    (with_reducible refine ex_int ?_)
    (with_reducible refine ax_nil ?_)
    refine ⟨ns, r, _, rfl, hR6, by decide, fun k7 M7 v0 v1 hR7 hB7 => ?_⟩
    (with_reducible refine ex_int ?_)
    (with_reducible refine ox_eqI ?_)
    (with_reducible refine asB_bl ?_)
    refine ite_dec (fun h1 => ?_) (fun h1 => ?_)
    · (refine sxs_one ?_)
      refine sx_par (i := 4) (j := 7) rfl sc_law.nd rfl rfl (by decide) rfl rfl rfl rfl rfl rfl ?_
      ((with_reducible refine' ex_call ?c_366 ?hr_366 ?hg_366 ?hd_366 ?he_366 ?hp_366 ?q_366); (case c_366 => first | with_reducible assumption | exact Dfn.fn (by with_reducible assumption)); (case hr_366 => first | assumption | exact Room.mono (by assumption) (by decide)); (case hg_366 => rfl); (case hd_366 => rfl); (case he_366 => rfl); (case hp_366 => rfl))
      ((with_reducible refine ax_cons ?h_367 ?q_367); (case h_367 => rfl))
      ((with_reducible refine' ex_var (i := 1) (x := "_law_row") ?h_368 ?g_368 ?q_368); (case h_368 => exact At.of rfl rfl a_law_1); (case g_368 => rfl))
      ((with_reducible refine ax_cons ?h_369 ?q_369); (case h_369 => rfl))
      (with_reducible refine ex_int ?_)
      ((with_reducible refine ax_cons ?h_371 ?q_371); (case h_371 => rfl))
      (with_reducible refine ex_int ?_)
      (with_reducible refine ax_nil ?_)
      refine ⟨ns, r, 4, 200, rfl, hR7, by decide, by decide, by decide, by decide, fun b1 M8 ok1 bl1 bt1 hR8 hK8 => ?_⟩
      refine EX.imp (Q := fun d2 M2 => ∃ k9 : Int, 0 ≤ k9 ∧ k9 < 20 ∧ d2 = .tup [.tup [.int (172 + k9), .int 200]] ∧ Row ns r M2) ?_ ?_
      · ((with_reducible refine ex_tup ?q_374))
        ((with_reducible refine ax_cons ?h_375 ?q_375); (case h_375 => rfl))
        ((with_reducible refine ex_tup ?q_376))
        ((with_reducible refine ax_cons ?h_377 ?q_377); (case h_377 => rfl))
        (with_reducible refine ex_bin ?_)
        (with_reducible refine ex_int ?_)
        ((with_reducible refine' ex_call ?c_380 ?hr_380 ?hg_380 ?hd_380 ?he_380 ?hp_380 ?q_380); (case c_380 => first | with_reducible assumption | exact Dfn.fn (by with_reducible assumption)); (case hr_380 => first | assumption | exact Room.mono (by assumption) (by decide)); (case hg_380 => rfl); (case hd_380 => rfl); (case he_380 => rfl); (case hp_380 => rfl))
        ((with_reducible refine ax_cons ?h_381 ?q_381); (case h_381 => rfl))
        ((with_reducible refine' ex_var (i := 1) (x := "_law_row") ?h_382 ?g_382 ?q_382); (case h_382 => exact At.of rfl rfl a_law_1); (case g_382 => rfl))
        ((with_reducible refine ax_cons ?h_383 ?q_383); (case h_383 => rfl))
        (with_reducible refine ex_int ?_)
        (with_reducible refine ax_nil ?_)
        refine ⟨ns, r, _, rfl, hR8, by decide, fun k9 M9 w0 w1 hR9 hB9 => ?_⟩
        (with_reducible refine ox_add ?_)
        ((with_reducible refine ax_cons ?h_387 ?q_387); (case h_387 => rfl))
        (with_reducible refine ex_int ?_)
        (with_reducible refine ax_nil ?_)
        ((with_reducible show (List.length _ ≤ sizeLine ∧ _)); refine And.intro (Nat.le_of_ble_eq_true rfl) ?_)
        (with_reducible refine ax_nil ?_)
        ((with_reducible show (List.length _ ≤ sizeLine ∧ _)); refine And.intro (Nat.le_of_ble_eq_true rfl) ?_)
        exact ⟨k9, w0, w1, rfl, hR9⟩
      rintro d2 M9 ⟨k9, w0, w1, rfl, hR9⟩
      exact rest b1 d [(172 + k9, 200)] M9 _ _ _ _ _ _ _ _ _ _ _ _ _ ok1 (by omega) hd1.1 hd1.2 ⟨by omega, by omega, by omega, Int.le_refl _, trivial⟩ (by simp) hR9
    · refine sxs_nil ?_
      exact rest b0 d ws0 M7 _ _ _ _ _ _ _ _ _ _ _ _ _ ok0 (by omega) hd1.1 hd1.2 hW0 hWl0 hR7
  · rintro G' M' ⟨a2, a3, a4, a5, a6, a7, a8, a9, a10, a11, a12, a13, a14, a15, a16, a17, rfl, hR⟩
    (refine sxs_one ?_)
    (with_reducible refine sx_ret ?_)
    (with_reducible refine ex_bl ?_)
    exact k _
end

def hfn : List He.DefD := [defAt ("is_number", none) "is_number" "is_number" s_is_number,
  defAt ("is_command", none) "is_command" "is_command" s_is_command,
  defAt ("need_book", none) "need_book" "need_book" s_need_book,
  defAt ("need_delay", none) "need_delay" "need_delay" s_need_delay,
  defAt ("need_windows", none) "need_windows" "need_windows" s_need_windows,
  defAt ("is_open", none) "is_open" "is_open" s_is_open,
  defAt ("open_beats", none) "open_beats" "open_beats" s_open_beats,
  defAt ("done_at", none) "done_at" "done_at" s_done_at,
  defAt ("orders", none) "orders" "orders" s_orders,
  defAt ("best_order", none) "best_order" "best_order" s_best_order,
  defAt ("sturdy", none) "sturdy" "sturdy" s_sturdy,
  defAt ("soonest", none) "soonest" "soonest" s_soonest,
  defAt ("_law_taken", none) "_law_taken" "_law_taken" s_L_taken,
  defAt ("_law_book", none) "_law_book" "_law_book" s_L_book,
  defAt ("_law_open", none) "_law_open" "_law_open" s_L_open,
  defAt ("_law_slots", none) "_law_slots" "_law_slots" s_L_slots,
  defAt ("_law_windows", none) "_law_windows" "_law_windows" s_L_windows,
  defAt ("_law_orders", none) "_law_orders" "_law_orders" s_L_orders,
  defAt ("_law_alike", none) "_law_alike" "_law_alike" s_L_alike,
  defAt ("_law_beaten", none) "_law_beaten" "_law_beaten" s_L_beaten,
  defAt ("_law_done_at", none) "_law_done_at" "_law_done_at" s_L_done_at,
  defAt ("law", none) "law" "law" s_law]
def hfa0 : List He.Fa := [.glo "is_number", .glo "is_command", .glo "need_book", .glo "need_delay", .glo "need_windows", .glo "is_open", .glo "open_beats", .glo "done_at", .glo "orders", .glo "best_order", .glo "sturdy", .glo "soonest", .glo "_law_taken", .glo "_law_book", .glo "_law_open", .glo "_law_slots", .glo "_law_windows", .glo "_law_orders", .glo "_law_alike", .glo "_law_beaten", .glo "_law_done_at", .glo "law", .free "bool", .free "enumerate", .free "int", .free "isinstance", .free "len", .free "list", .free "max", .free "min"]
def hfa1 : List He.Fa := [.free "range", .free "str", .free "tuple", .int "MOST_BEAT" 200, .int "MOST_COMMANDS" 8, .int "MOST_DELAY" 9, .int "MOST_LOST" 3, .int "MOST_ORDERED" 6]
def hfa : List He.Fa := hfa0 ++ hfa1
def hloose0 : List Str := ["__name__", "LinkError", "BadBook", "BadDelay", "BadWindows", "TooMany", "BadCount", "MOST_COMMANDS", "MOST_BEAT", "MOST_DELAY", "is_number", "is_command", "need_book", "need_delay", "need_windows", "is_open", "MOST_ORDERED", "MOST_LOST", "done_at", "orders", "open_beats", "best_order", "soonest", "sturdy", "_law_taken", "_law_alike", "_law_book", "_law_windows", "_law_open", "_law_beaten"]
def hloose1 : List Str := ["_law_done_at", "_law_slots", "_law_orders"]
def hloose : List Str := hloose0 ++ hloose1
def hexB (K : PySem.W.Frag) : Bool := true
abbrev hR : PySem.W.OpenRow := PySem.W.OpenLaw.row PySem.Challenge.rw_faruplink_k10_soonest_by_trying_all
abbrev hk : PySem.W.Hook := He.hookX 6 hfa hfn [] [] hexB
def hob (s : PySem.W.SharedT) : He.AlX := He.obsX 6 hfa hfn [] [] hexB (HandSHeadRun.getT s)
theorem hob_eq (s : PySem.W.SharedT) : hob s = hk.obs s.abs := He.obsX_eq (HandSHeadRun.getT_eq s)
set_option maxHeartbeats 0 in
theorem hrun (w : World) : HandSHeadRun.RunEq hR (PySem.W.view hR.prog [36]) hk hob 4000 hloose w := by
  intro os
  kernel_rfl
theorem hfacts {P : Program} {w : World} {K : PySem.W.Frag} {h : Heap} {mg : Str → Option Value} {fl : Addr} (X : K.In h) (G : h.Ns mainGlobals mg) (hfa0 : mg ("law" : Str) = some (.ref fl)) (c0 : He.SaysX hfa hfn [] [] hexB w h K) :
    ∃ fd : FuncData, (∀ (s : Shared) (v : Value), BindsTo s fd ⟨[v], []⟩ [("_law_script", v)]) ∧ ∀ base : Heap, K.In base → base.Ns mainGlobals mg → FnOk P w K mg base CX0 8 fl fd ["_law_script"] (lift K spTrue) := by
  have c : He.SaysD hfa hfn K := c0.t.d
  have cx : hexB K = true := c0.more
  have z_bool : mg "bool" = none := He.free_ok X G (c.fact 22 rfl)
  have z_enumerate : mg "enumerate" = none := He.free_ok X G (c.fact 23 rfl)
  have z_int : mg "int" = none := He.free_ok X G (c.fact 24 rfl)
  have z_isinstance : mg "isinstance" = none := He.free_ok X G (c.fact 25 rfl)
  have z_len : mg "len" = none := He.free_ok X G (c.fact 26 rfl)
  have z_list : mg "list" = none := He.free_ok X G (c.fact 27 rfl)
  have z_max : mg "max" = none := He.free_ok X G (c.fact 28 rfl)
  have z_min : mg "min" = none := He.free_ok X G (c.fact 29 rfl)
  have z_range : mg "range" = none := He.free_ok X G (c.fact 30 rfl)
  have z_str : mg "str" = none := He.free_ok X G (c.fact 31 rfl)
  have z_tuple : mg "tuple" = none := He.free_ok X G (c.fact 32 rfl)
  have k_MOST_BEAT := cst_int X G (x := "MOST_BEAT") (i := 200) (c.fact 33 rfl)
  have k_MOST_COMMANDS := cst_int X G (x := "MOST_COMMANDS") (i := 8) (c.fact 34 rfl)
  have k_MOST_DELAY := cst_int X G (x := "MOST_DELAY") (i := 9) (c.fact 35 rfl)
  have k_MOST_LOST := cst_int X G (x := "MOST_LOST") (i := 3) (c.fact 36 rfl)
  have k_MOST_ORDERED := cst_int X G (x := "MOST_ORDERED") (i := 6) (c.fact 37 rfl)
  obtain ⟨fd_is_number, F0_is_number⟩ := c.def_ 0 (d := defAt ("is_number", none) "is_number" "is_number" s_is_number) rfl
  have F_is_number : Fun K "is_number" "is_number" s_is_number _ fd_is_number := fun_of F0_is_number
  have m_is_number := He.glo_ok X G (c.fact 0 (f := .glo "is_number") rfl)
  have b_is_number := F_is_number.binds (ps := ["part", "low", "high"]) fun _ _ _ _ _ _ us hl => match us, hl with | [_, _, _], _ => rfl
  have d_is_number : ∀ base : Heap, Dfn P w K mg base 1 "is_number" spIsNumber := fun base => dfn_mk (by apply ok_is_number F_is_number <;> first | assumption | apply_assumption) m_is_number F_is_number.kp b_is_number
  obtain ⟨fd_is_command, F0_is_command⟩ := c.def_ 1 (d := defAt ("is_command", none) "is_command" "is_command" s_is_command) rfl
  have F_is_command : Fun K "is_command" "is_command" s_is_command _ fd_is_command := fun_of F0_is_command
  have m_is_command := He.glo_ok X G (c.fact 1 (f := .glo "is_command") rfl)
  have b_is_command := F_is_command.binds (ps := ["part", "number"]) fun _ _ _ _ _ _ us hl => match us, hl with | [_, _], _ => rfl
  have d_is_command : ∀ base : Heap, Dfn P w K mg base 2 "is_command" spIsCommand := fun base => dfn_mk (by apply ok_is_command F_is_command <;> first | assumption | apply_assumption) m_is_command F_is_command.kp b_is_command
  obtain ⟨fd_need_book, F0_need_book⟩ := c.def_ 2 (d := defAt ("need_book", none) "need_book" "need_book" s_need_book) rfl
  have F_need_book : Fun K "need_book" "need_book" s_need_book _ fd_need_book := fun_of F0_need_book
  have m_need_book := He.glo_ok X G (c.fact 2 (f := .glo "need_book") rfl)
  have b_need_book := F_need_book.binds (ps := ["book"]) fun _ _ _ _ _ _ us hl => match us, hl with | [_], _ => rfl
  have d_need_book : ∀ base : Heap, Dfn P w K mg base 3 "need_book" spNeedBook := fun base => dfn_mk (by apply ok_need_book F_need_book <;> first | assumption | apply_assumption) m_need_book F_need_book.kp b_need_book
  obtain ⟨fd_need_delay, F0_need_delay⟩ := c.def_ 3 (d := defAt ("need_delay", none) "need_delay" "need_delay" s_need_delay) rfl
  have F_need_delay : Fun K "need_delay" "need_delay" s_need_delay _ fd_need_delay := fun_of F0_need_delay
  have m_need_delay := He.glo_ok X G (c.fact 3 (f := .glo "need_delay") rfl)
  have b_need_delay := F_need_delay.binds (ps := ["delay"]) fun _ _ _ _ _ _ us hl => match us, hl with | [_], _ => rfl
  have d_need_delay : ∀ base : Heap, Dfn P w K mg base 2 "need_delay" spNeedDelay := fun base => dfn_mk (by apply ok_need_delay F_need_delay <;> first | assumption | apply_assumption) m_need_delay F_need_delay.kp b_need_delay
  obtain ⟨fd_need_windows, F0_need_windows⟩ := c.def_ 4 (d := defAt ("need_windows", none) "need_windows" "need_windows" s_need_windows) rfl
  have F_need_windows : Fun K "need_windows" "need_windows" s_need_windows _ fd_need_windows := fun_of F0_need_windows
  have m_need_windows := He.glo_ok X G (c.fact 4 (f := .glo "need_windows") rfl)
  have b_need_windows := F_need_windows.binds (ps := ["windows"]) fun _ _ _ _ _ _ us hl => match us, hl with | [_], _ => rfl
  have d_need_windows : ∀ base : Heap, Dfn P w K mg base 2 "need_windows" spNeedWindows := fun base => dfn_mk (by apply ok_need_windows F_need_windows <;> first | assumption | apply_assumption) m_need_windows F_need_windows.kp b_need_windows
  obtain ⟨fd_is_open, F0_is_open⟩ := c.def_ 5 (d := defAt ("is_open", none) "is_open" "is_open" s_is_open) rfl
  have F_is_open : Fun K "is_open" "is_open" s_is_open _ fd_is_open := fun_of F0_is_open
  have m_is_open := He.glo_ok X G (c.fact 5 (f := .glo "is_open") rfl)
  have b_is_open := F_is_open.binds (ps := ["windows", "beat"]) fun _ _ _ _ _ _ us hl => match us, hl with | [_, _], _ => rfl
  have d_is_open : ∀ base : Heap, Dfn P w K mg base 1 "is_open" spIsOpen := fun base => dfn_mk (by apply ok_is_open F_is_open <;> first | assumption | apply_assumption) m_is_open F_is_open.kp b_is_open
  obtain ⟨fd_open_beats, F0_open_beats⟩ := c.def_ 6 (d := defAt ("open_beats", none) "open_beats" "open_beats" s_open_beats) rfl
  have F_open_beats : Fun K "open_beats" "open_beats" s_open_beats _ fd_open_beats := fun_of F0_open_beats
  have m_open_beats := He.glo_ok X G (c.fact 6 (f := .glo "open_beats") rfl)
  have b_open_beats := F_open_beats.binds (ps := ["windows", "many"]) fun _ _ _ _ _ _ us hl => match us, hl with | [_, _], _ => rfl
  have d_open_beats : ∀ base : Heap, Dfn P w K mg base 2 "open_beats" spOpenBeats := fun base => dfn_mk (by apply ok_open_beats F_open_beats <;> first | assumption | apply_assumption) m_open_beats F_open_beats.kp b_open_beats
  obtain ⟨fd_done_at, F0_done_at⟩ := c.def_ 7 (d := defAt ("done_at", none) "done_at" "done_at" s_done_at) rfl
  have F_done_at : Fun K "done_at" "done_at" s_done_at _ fd_done_at := fun_of F0_done_at
  have m_done_at := He.glo_ok X G (c.fact 7 (f := .glo "done_at") rfl)
  have b_done_at := F_done_at.binds (ps := ["book", "comes"]) fun _ _ _ _ _ _ us hl => match us, hl with | [_, _], _ => rfl
  have d_done_at : ∀ base : Heap, Dfn P w K mg base 1 "done_at" spDoneAt := fun base => dfn_mk (by apply ok_done_at F_done_at <;> first | assumption | apply_assumption) m_done_at F_done_at.kp b_done_at
  obtain ⟨fd_orders, F0_orders⟩ := c.def_ 8 (d := defAt ("orders", none) "orders" "orders" s_orders) rfl
  have F_orders : Fun K "orders" "orders" s_orders _ fd_orders := fun_of F0_orders
  have m_orders := He.glo_ok X G (c.fact 8 (f := .glo "orders") rfl)
  have b_orders := F_orders.binds (ps := ["many"]) fun _ _ _ _ _ _ us hl => match us, hl with | [_], _ => rfl
  have d_orders : ∀ base : Heap, Dfn P w K mg base 1 "orders" spOrders := fun base => dfn_mk (by apply ok_orders F_orders <;> first | assumption | apply_assumption) m_orders F_orders.kp b_orders
  obtain ⟨fd_best_order, F0_best_order⟩ := c.def_ 9 (d := defAt ("best_order", none) "best_order" "best_order" s_best_order) rfl
  have F_best_order : Fun K "best_order" "best_order" s_best_order _ fd_best_order := fun_of F0_best_order
  have m_best_order := He.glo_ok X G (c.fact 9 (f := .glo "best_order") rfl)
  have b_best_order := F_best_order.binds (ps := ["book", "delay", "beats"]) fun _ _ _ _ _ _ us hl => match us, hl with | [_, _, _], _ => rfl
  have d_best_order : ∀ base : Heap, Dfn P w K mg base 2 "best_order" spBestOrder := fun base => dfn_mk (by apply ok_best_order F_best_order <;> first | assumption | apply_assumption) m_best_order F_best_order.kp b_best_order
  obtain ⟨fd_sturdy, F0_sturdy⟩ := c.def_ 10 (d := defAt ("sturdy", none) "sturdy" "sturdy" s_sturdy) rfl
  have F_sturdy : Fun K "sturdy" "sturdy" s_sturdy _ fd_sturdy := fun_of F0_sturdy
  have m_sturdy := He.glo_ok X G (c.fact 10 (f := .glo "sturdy") rfl)
  have b_sturdy := F_sturdy.binds (ps := ["book", "delay", "windows", "lost"]) fun _ _ _ _ _ _ us hl => match us, hl with | [_, _, _, _], _ => rfl
  have d_sturdy : ∀ base : Heap, Dfn P w K mg base 4 "sturdy" spSturdy := fun base => dfn_mk (by apply ok_sturdy F_sturdy <;> first | assumption | apply_assumption) m_sturdy F_sturdy.kp b_sturdy
  obtain ⟨fd_soonest, F0_soonest⟩ := c.def_ 11 (d := defAt ("soonest", none) "soonest" "soonest" s_soonest) rfl
  have F_soonest : Fun K "soonest" "soonest" s_soonest _ fd_soonest := fun_of F0_soonest
  have m_soonest := He.glo_ok X G (c.fact 11 (f := .glo "soonest") rfl)
  have b_soonest := F_soonest.binds (ps := ["book", "delay", "windows"]) fun _ _ _ _ _ _ us hl => match us, hl with | [_, _, _], _ => rfl
  have d_soonest : ∀ base : Heap, Dfn P w K mg base 5 "soonest" spSoonest := fun base => dfn_mk (by apply ok_soonest F_soonest <;> first | assumption | apply_assumption) m_soonest F_soonest.kp b_soonest
  obtain ⟨fd_taken, F0_taken⟩ := c.def_ 12 (d := defAt ("_law_taken", none) "_law_taken" "_law_taken" s_L_taken) rfl
  have F_taken : Fun K "_law_taken" "_law_taken" s_L_taken _ fd_taken := fun_of F0_taken
  have m_taken := He.glo_ok X G (c.fact 12 (f := .glo "_law_taken") rfl)
  have b_taken := F_taken.binds (ps := ["_law_row", "_law_many"]) fun _ _ _ _ _ _ us hl => match us, hl with | [_, _], _ => rfl
  have d_taken : ∀ base : Heap, Dfn P w K mg base 1 "_law_taken" spTaken := fun base => dfn_mk (by apply ok_taken F_taken <;> first | assumption | apply_assumption) m_taken F_taken.kp b_taken
  obtain ⟨fd_L_book, F0_L_book⟩ := c.def_ 13 (d := defAt ("_law_book", none) "_law_book" "_law_book" s_L_book) rfl
  have F_L_book : Fun K "_law_book" "_law_book" s_L_book _ fd_L_book := fun_of F0_L_book
  have m_L_book := He.glo_ok X G (c.fact 13 (f := .glo "_law_book") rfl)
  have b_L_book := F_L_book.binds (ps := ["_law_row", "_law_most", "_law_far"]) fun _ _ _ _ _ _ us hl => match us, hl with | [_, _, _], _ => rfl
  have d_L_book : ∀ base : Heap, Dfn P w K mg base 2 "_law_book" spBook := fun base => dfn_mk (by apply ok_L_book F_L_book <;> first | assumption | apply_assumption) m_L_book F_L_book.kp b_L_book
  obtain ⟨fd_L_open, F0_L_open⟩ := c.def_ 14 (d := defAt ("_law_open", none) "_law_open" "_law_open" s_L_open) rfl
  have F_L_open : Fun K "_law_open" "_law_open" s_L_open _ fd_L_open := fun_of F0_L_open
  have m_L_open := He.glo_ok X G (c.fact 14 (f := .glo "_law_open") rfl)
  have b_L_open := F_L_open.binds (ps := ["_law_windows_here", "_law_beat"]) fun _ _ _ _ _ _ us hl => match us, hl with | [_, _], _ => rfl
  have d_L_open : ∀ base : Heap, Dfn P w K mg base 1 "_law_open" spIsOpen := fun base => dfn_mk (by apply ok_L_open F_L_open <;> first | assumption | apply_assumption) m_L_open F_L_open.kp b_L_open
  obtain ⟨fd_L_slots, F0_L_slots⟩ := c.def_ 15 (d := defAt ("_law_slots", none) "_law_slots" "_law_slots" s_L_slots) rfl
  have F_L_slots : Fun K "_law_slots" "_law_slots" s_L_slots _ fd_L_slots := fun_of F0_L_slots
  have m_L_slots := He.glo_ok X G (c.fact 15 (f := .glo "_law_slots") rfl)
  have b_L_slots := F_L_slots.binds (ps := ["_law_windows_here", "_law_many"]) fun _ _ _ _ _ _ us hl => match us, hl with | [_, _], _ => rfl
  have d_L_slots : ∀ base : Heap, Dfn P w K mg base 2 "_law_slots" spSlots := fun base => dfn_mk (by apply ok_L_slots F_L_slots <;> first | assumption | apply_assumption) m_L_slots F_L_slots.kp b_L_slots
  obtain ⟨fd_L_windows, F0_L_windows⟩ := c.def_ 16 (d := defAt ("_law_windows", none) "_law_windows" "_law_windows" s_L_windows) rfl
  have F_L_windows : Fun K "_law_windows" "_law_windows" s_L_windows _ fd_L_windows := fun_of F0_L_windows
  have m_L_windows := He.glo_ok X G (c.fact 16 (f := .glo "_law_windows") rfl)
  have b_L_windows := F_L_windows.binds (ps := ["_law_row", "_law_far"]) fun _ _ _ _ _ _ us hl => match us, hl with | [_, _], _ => rfl
  have d_L_windows : ∀ base : Heap, Dfn P w K mg base 2 "_law_windows" spLWindows := fun base => dfn_mk (by apply ok_L_windows F_L_windows <;> first | assumption | apply_assumption) m_L_windows F_L_windows.kp b_L_windows
  obtain ⟨fd_L_orders, F0_L_orders⟩ := c.def_ 17 (d := defAt ("_law_orders", none) "_law_orders" "_law_orders" s_L_orders) rfl
  have F_L_orders : Fun K "_law_orders" "_law_orders" s_L_orders _ fd_L_orders := fun_of F0_L_orders
  have m_L_orders := He.glo_ok X G (c.fact 17 (f := .glo "_law_orders") rfl)
  have b_L_orders := F_L_orders.binds (ps := ["_law_some"]) fun _ _ _ _ _ _ us hl => match us, hl with | [_], _ => rfl
  have d_L_orders : ∀ base : Heap, Dfn P w K mg base 7 "_law_orders" (spLOrders 6) := fun base => dfn_mk (by apply ok_L_orders F_L_orders <;> first | assumption | apply_assumption) m_L_orders F_L_orders.kp b_L_orders
  obtain ⟨fd_L_alike, F0_L_alike⟩ := c.def_ 18 (d := defAt ("_law_alike", none) "_law_alike" "_law_alike" s_L_alike) rfl
  have F_L_alike : Fun K "_law_alike" "_law_alike" s_L_alike _ fd_L_alike := fun_of F0_L_alike
  have m_L_alike := He.glo_ok X G (c.fact 18 (f := .glo "_law_alike") rfl)
  have b_L_alike := F_L_alike.binds (ps := ["_law_found", "_law_due"]) fun _ _ _ _ _ _ us hl => match us, hl with | [_, _], _ => rfl
  have d_L_alike : ∀ base : Heap, Dfn P w K mg base 7 "_law_alike" (spAlike 6) := fun base => dfn_mk (by apply ok_L_alike F_L_alike <;> first | assumption | apply_assumption) m_L_alike F_L_alike.kp b_L_alike
  obtain ⟨fd_L_beaten, F0_L_beaten⟩ := c.def_ 19 (d := defAt ("_law_beaten", none) "_law_beaten" "_law_beaten" s_L_beaten) rfl
  have F_L_beaten : Fun K "_law_beaten" "_law_beaten" s_L_beaten _ fd_L_beaten := fun_of F0_L_beaten
  have m_L_beaten := He.glo_ok X G (c.fact 19 (f := .glo "_law_beaten") rfl)
  have b_L_beaten := F_L_beaten.binds (ps := ["_law_book_here", "_law_state", "_law_letters", "_law_beat"]) fun _ _ _ _ _ _ us hl => match us, hl with | [_, _, _, _], _ => rfl
  have d_L_beaten : ∀ base : Heap, Dfn P w K mg base 1 "_law_beaten" spLBeaten := fun base => dfn_mk (by apply ok_L_beaten F_L_beaten <;> first | assumption | apply_assumption) m_L_beaten F_L_beaten.kp b_L_beaten
  obtain ⟨fd_L_done_at, F0_L_done_at⟩ := c.def_ 20 (d := defAt ("_law_done_at", none) "_law_done_at" "_law_done_at" s_L_done_at) rfl
  have F_L_done_at : Fun K "_law_done_at" "_law_done_at" s_L_done_at _ fd_L_done_at := fun_of F0_L_done_at
  have m_L_done_at := He.glo_ok X G (c.fact 20 (f := .glo "_law_done_at") rfl)
  have b_L_done_at := F_L_done_at.binds (ps := ["_law_book_here", "_law_comes"]) fun _ _ _ _ _ _ us hl => match us, hl with | [_, _], _ => rfl
  have d_L_done_at : ∀ base : Heap, Dfn P w K mg base 2 "_law_done_at" spLDone := fun base => dfn_mk (by apply ok_L_done_at F_L_done_at <;> first | assumption | apply_assumption) m_L_done_at F_L_done_at.kp b_L_done_at
  obtain ⟨fd_law, F0_law⟩ := c.def_ 21 (d := defAt ("law", none) "law" "law" s_law) rfl
  have F_law : Fun K "law" "law" s_law _ fd_law := fun_of F0_law
  have m_law := He.glo_ok X G (c.fact 21 (f := .glo "law") rfl)
  have e := hfa0.symm.trans m_law
  cases e
  exact ⟨fd_law, fun s v => FunD.bindsA (ps := ["_law_script"]) F0_law (fun _ _ _ _ _ _ us hl => match us, hl with | [_], _ => rfl) s [v] rfl, fun base _ _ => by apply ok_law F_law <;> first | assumption | apply_assumption⟩
end Lw
open PySem PySem.W PySem.Calls PyProof.Rows
set_option maxHeartbeats 0 in
theorem PySem.Challenge.cw_faruplink_k10_soonest_by_trying_all_holds : PySem.Challenge.rw_faruplink_k10_soonest_by_trying_all.Holds := by
  w_on; o_law
  refine HandSHeadRun.head_any (r := OpenLaw.row PySem.Challenge.rw_faruplink_k10_soonest_by_trying_all) (q := view (OpenLaw.row PySem.Challenge.rw_faruplink_k10_soonest_by_trying_all).prog [36]) (H := Lw.hk) (ob := Lw.hob) (M := 4000) (loose := Lw.hloose) (d := HandSHeadRun.topDef (OpenLaw.row PySem.Challenge.rw_faruplink_k10_soonest_by_trying_all).prog 36) (kwd := []) Lw.hob_eq
    (by kernel_rfl) (fun s => by kernel_rfl) Lw.hrun (by kernel_rfl) (by kernel_rfl) (by kernel_rfl) (by rfl) (by first | assumption | decide +kernel) (by decide +kernel) ⟨rfl, rfl, rfl, rfl, rfl, by decide +kernel⟩ ?hw ?hc
  case hw => w_witness2
  case hc =>
    refine L2.walk_ofE (l := PySem.Challenge.rw_faruplink_k10_soonest_by_trying_all) (n := 63) (k := 8) (x := "_law_script") (CX := L2.CX0) rfl (by decide) (by kernel_rfl) ⟨rfl, by decide, by decide⟩ ?F (fun _ _ _ _ z => z)
    intro w mg fa h Y G hmg0
    obtain ⟨K, KX, c⟩ := Y
    have hmg : mg ("law" : PySem.Str) = some (.ref fa) := by
      have e : (HandSHeadRun.topDef (OpenLaw.row PySem.Challenge.rw_faruplink_k10_soonest_by_trying_all).prog 36).name = ("law" : PySem.Str) := by kernel_rfl
      rw [← e]
      exact hmg0
    obtain ⟨fd, hb, hF⟩ := Lw.hfacts (P := (PySem.Challenge.rw_faruplink_k10_soonest_by_trying_all).prog) (w := w) KX G hmg c
    exact ⟨K, fd, FL.lift K FL.spTrue, KX, hb, fun H a ns hl _ hS => FL.law_sp hl hS, hF⟩
