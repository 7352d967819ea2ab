import PyProof.Rows.All
import Wide.All
import OpenK.AllK
import Wide.FinOn
import HandS.ForMost
import HandS.ForExc
import HandS.Walk
import HandS.TupAny
import HandS.TupMul
import HandS.TupLe
import HandS.IsInst
import HandS.Deep
import HandS.Zip
import HandS.Wide
import HandS.EndBits
import HandS.Style
import HandS.Sort
import HandS.More
import HandS.SetFor
import KE.GoesMore
import HandS.ExcValue
import HandS.ExcIs
import HandS.Comp
import HandS.NamedTupSort
import HandS.TupSets
import HandS.StrMore
import HandS.Text
import PyProof.StrOps2
import HandS.List
import PySem.Challenge.RW_keybytes_k07_whole_integers
set_option Elab.async false
set_option linter.all false
set_option maxRecDepth 100000
set_option autoImplicit false
set_option maxHeartbeats 4000000
namespace KB
open PySem PySem.Spec PyProof.Rows L2

/-- plain data: what a Python value of this program is, without addresses; a cell is a list (or object) that may change -/
inductive D where
  | non | bl (b : Bool) | int (i : Int) | str (s : Str) | tup (ds : List D) | lst (ds : List D) | cell (n : Nat) | scr (ds : List D) | exc (c : Str) | ptup (ds : List D)

inductive MO where
  | lst (ds : List D)
  | obj (c : Str) (fs : List (Str × D))

structure Kx where
  K : PySem.W.Frag
  mg : Str → Option Value
abbrev kx (X : Cx) : Kx := ⟨X.K, X.mg⟩

/-- an exception object of the class cls at a -/
def CxO (cls : Value) (a : Addr) : HO := .ext fun hp => ∃ (ob : Obj) (fv : Array Value), hp.get? a = some ob ∧ ob.data = .fields fv ∧ Zc cls none ob
mutual
inductive Rp (C : Kx) (L : List Addr) (G : Hp) : V → D → Prop
  | non : Rp C L G .non .non
  | bl (b : Bool) : Rp C L G (.bl b) (.bl b)
  | int (i : Int) : Rp C L G (.int i) (.int i)
  | str (x : Str) : Rp C L G (.str x) (.str x)
  | tup {a : Addr} {vs : List V} {ds : List D} : SqT C.K G a vs → RpL C L G vs ds → Rp C L G (.ref a) (.tup ds)
  | lst {a : Addr} {vs : List V} {ds : List D} : G a = some (.lst vs) → RpL C L G vs ds → Rp C L G (.ref a) (.lst ds)
  | scr {a : Addr} {vs : List V} {ds : List D} : SqL C.K G a vs → RpL C L G vs ds → Rp C L G (.ref a) (.scr ds)
  | cell {a : Addr} {n : Nat} : L[n]? = some a → Rp C L G (.ref a) (.cell n)
  | exc {a : Addr} {c : Str} {u : Value} : C.mg c = some u → G a = some (CxO u a) → Rp C L G (.ref a) (.exc c)
  /-- a tuple whose object is known: it has no dict -/
  | ptup {a : Addr} {ob : Obj} {vs : List V} {ds : List D} : G a = some (.frz ob (.tup vs)) → ob.cls = .type "tuple" → ob.dict = none → RpL C L G vs ds → Rp C L G (.ref a) (.ptup ds)
inductive RpL (C : Kx) (L : List Addr) (G : Hp) : List V → List D → Prop
  | nil : RpL C L G [] []
  | cons {v : V} {d : D} {vs : List V} {ds : List D} : Rp C L G v d → RpL C L G vs ds → RpL C L G (v :: vs) (d :: ds)
end

structure Ext (L : List Addr) (G : Hp) (L' : List Addr) (G' : Hp) : Prop where
  l : ∃ J, L' = L ++ J
  g : Same G G'
theorem Ext.refl (L : List Addr) (G : Hp) : Ext L G L G := ⟨⟨[], by simp⟩, Same.refl G⟩
theorem Ext.trans {L L1 L2' : List Addr} {G G1 G2 : Hp} (a : Ext L G L1 G1) (b : Ext L1 G1 L2' G2) : Ext L G L2' G2 := by
  obtain ⟨⟨J, rfl⟩, g⟩ := a
  obtain ⟨⟨J', rfl⟩, g'⟩ := b
  exact ⟨⟨J ++ J', by simp⟩, g.trans g'⟩
theorem Ext.at {L L' : List Addr} {G G' : Hp} (e : Ext L G L' G') {n : Nat} {a : Addr} (h : L[n]? = some a) : L'[n]? = some a := by
  obtain ⟨⟨J, rfl⟩, _⟩ := e
  rw [List.getElem?_append_left (List.getElem?_eq_some_iff.mp h).1]
  exact h

theorem Same.seqT {K : PySem.W.Frag} {H H' : Hp} {a : Addr} {xs : List V} (e : Same H H') (h : SqT K H a xs) : SqT K H' a xs := by
  rcases h with (h | ⟨o, h⟩) | h
  · exact .inl (.inl (e _ _ h))
  · exact .inl (.inr ⟨o, e _ _ h⟩)
  · exact .inr h

section
variable {C : Kx} {L L' : List Addr} {G G' : Hp}
mutual
theorem Rp.mono (e : Ext L G L' G') : ∀ {d : D} {v : V}, Rp C L G v d → Rp C L' G' v d
  | .non, _, h => by cases h; exact .non
  | .bl _, _, h => by cases h; exact .bl _
  | .int _, _, h => by cases h; exact .int _
  | .str _, _, h => by cases h; exact .str _
  | .tup _, _, h => by cases h with | tup hs hl => exact .tup (Same.seqT e.g hs) (RpL.mono e hl)
  | .lst _, _, h => by cases h with | lst hs hl => exact .lst (e.g _ _ hs) (RpL.mono e hl)
  | .scr _, _, h => by cases h with | scr hs hl => exact .scr (e.g.seq hs) (RpL.mono e hl)
  | .cell _, _, h => by cases h with | cell hs => exact .cell (e.at hs)
  | .exc _, _, h => by cases h with | exc h1 h2 => exact .exc h1 (e.g _ _ h2)
  | .ptup _, _, h => by cases h with | ptup h1 h2 h3 h4 => exact .ptup (e.g _ _ h1) h2 h3 (RpL.mono e h4)
theorem RpL.mono (e : Ext L G L' G') : ∀ {ds : List D} {vs : List V}, RpL C L G vs ds → RpL C L' G' vs ds
  | [], _, h => by cases h; exact .nil
  | _ :: _, _, h => by cases h with | cons h1 h2 => exact .cons (Rp.mono e h1) (RpL.mono e h2)
end
theorem RpL.length : ∀ {ds : List D} {vs : List V}, RpL C L G vs ds → vs.length = ds.length
  | [], _, h => by cases h; rfl
  | _ :: _, _, h => by cases h with | cons h1 h2 => simp [RpL.length h2]
theorem RpL.get : ∀ {ds : List D} {vs : List V}, RpL C L G vs ds → ∀ {i : Nat} {d : D}, ds[i]? = some d → ∃ v, vs[i]? = some v ∧ Rp C L G v d
  | [], _, h, i, d, e => by simp at e
  | _ :: _, _, h, 0, d, e => by
    cases h with
    | cons h1 h2 => simp at e; subst e; exact ⟨_, rfl, h1⟩
  | _ :: _, _, h, i + 1, d, e => by
    cases h with
    | cons h1 h2 => exact RpL.get h2 (i := i) (by simpa using e)
theorem RpL.getV : ∀ {ds : List D} {vs : List V}, RpL C L G vs ds → ∀ {i : Nat} {v : V}, vs[i]? = some v → ∃ d, ds[i]? = some d ∧ Rp C L G v d
  | [], _, h, i, v, e => by cases h; simp at e
  | _ :: _, _, h, 0, v, e => by
    cases h with
    | cons h1 h2 => simp at e; subst e; exact ⟨_, rfl, h1⟩
  | _ :: _, _, h, i + 1, v, e => by
    cases h with
    | cons h1 h2 => exact RpL.getV h2 (i := i) (by simpa using e)
theorem RpL.append : ∀ {ds es : List D} {vs ws : List V}, RpL C L G vs ds → RpL C L G ws es → RpL C L G (vs ++ ws) (ds ++ es)
  | [], _, _, _, h, h' => by cases h; exact h'
  | _ :: _, _, _, _, h, h' => by cases h with | cons h1 h2 => exact .cons h1 (RpL.append h2 h')
theorem RpL.take : ∀ (n : Nat) {ds : List D} {vs : List V}, RpL C L G vs ds → RpL C L G (vs.take n) (ds.take n)
  | 0, _, _, _ => .nil
  | _ + 1, [], _, h => by cases h; exact .nil
  | n + 1, _ :: _, _, h => by cases h with | cons h1 h2 => exact .cons h1 (RpL.take n h2)
theorem RpL.drop : ∀ (n : Nat) {ds : List D} {vs : List V}, RpL C L G vs ds → RpL C L G (vs.drop n) (ds.drop n)
  | 0, _, _, h => h
  | _ + 1, [], _, h => by cases h; exact .nil
  | n + 1, _ :: _, _, h => by cases h with | cons h1 h2 => exact RpL.drop n h2
theorem RpL.set : ∀ (n : Nat) {ds : List D} {vs : List V} {v : V} {d : D}, RpL C L G vs ds → Rp C L G v d → RpL C L G (vs.set n v) (ds.set n d)
  | _, [], _, _, _, h, _ => by cases h; exact .nil
  | 0, _ :: _, _, _, _, h, r => by cases h with | cons h1 h2 => exact .cons r h2
  | n + 1, _ :: _, _, _, _, h, r => by cases h with | cons h1 h2 => exact .cons h1 (RpL.set n h2 r)
theorem RpL.reverse {ds : List D} {vs : List V} (h : RpL C L G vs ds) : RpL C L G vs.reverse ds.reverse := by
  induction ds generalizing vs with
  | nil => cases h; exact .nil
  | cons d ds ih => cases h with | cons h1 h2 => rw [List.reverse_cons, List.reverse_cons]; exact (ih h2).append (.cons h1 .nil)
end

/-- the frame of cells: each stands outside of what never changes -/
def MoOk (C : Kx) (L : List Addr) (G H : Hp) (a : Addr) : MO → Prop
  | .lst ds => ∃ vs, H a = some (.lst vs) ∧ RpL C L G vs ds
  | .obj c fs => ∃ A dx fv, C.mg c = some (.ref A) ∧ H a = some (.ins A dx fv) ∧ fv.map (·.1) = fs.map (·.1) ∧ RpL C L G (fv.map (·.2)) (fs.map (·.2))
structure Ok (C : Kx) (F : Hp) (L : List Addr) (G : Hp) (M : List MO) (H : Hp) : Prop where
  fs : Same F H
  fo : ∀ a o, F a = some o → G a = none ∧ a ∉ L
  sub : Same G H
  len : L.length = M.length
  nd : L.Nodup
  out : ∀ a ∈ L, G a = none
  cells : ∀ (n : Nat) (a : Addr) (o : MO), L[n]? = some a → M[n]? = some o → MoOk C L G H a o
section
variable {C : Kx} {F : Hp} {L L' : List Addr} {G G' H H' : Hp} {M : List MO} {a : Addr}
theorem MoOk.mono (e : Ext L G L' G') (h : H' a = H a) : ∀ {o : MO}, MoOk C L G H a o → MoOk C L' G' H' a o
  | .lst _, ⟨vs, h1, h2⟩ => ⟨vs, by rw [h]; exact h1, h2.mono e⟩
  | .obj _ _, ⟨A, dx, fv, h1, h2, h3, h4⟩ => ⟨A, dx, fv, h1, by rw [h]; exact h2, h3, h4.mono e⟩
theorem MoOk.some : ∀ {o : MO}, MoOk C L G H a o → ∃ u, H a = Option.some u
  | .lst _, ⟨vs, h1, h2⟩ => ⟨_, h1⟩
  | .obj _ _, ⟨A, dx, fv, h1, h2, h3, h4⟩ => ⟨_, h2⟩
theorem Ok.here (o : Ok C F L G M H) {n : Nat} (h : L[n]? = some a) : ∃ u, M[n]? = some u ∧ MoOk C L G H a u := by
  have h1 : n < M.length := by rw [← o.len]; exact (List.getElem?_eq_some_iff.mp h).1
  exact ⟨M[n], List.getElem?_eq_getElem h1, o.cells n a _ h (List.getElem?_eq_getElem h1)⟩
theorem Ok.there (o : Ok C F L G M H) (h : a ∈ L) : ∃ u, H a = some u := by
  obtain ⟨n, hn⟩ := List.getElem?_of_mem h
  obtain ⟨u, _, hu⟩ := o.here hn
  exact hu.some
theorem Ok.freshF (o : Ok C F L G M H) (h : H a = none) : F a = none := by
  cases q : F a with
  | none => rfl
  | some u => rw [o.fs a u q] at h; cases h
theorem Ok.fresh (o : Ok C F L G M H) (h : H a = none) : G a = none ∧ a ∉ L := by
  refine ⟨?_, fun hm => ?_⟩
  · cases q : G a with
    | none => rfl
    | some u => rw [o.sub a u q] at h; cases h
  · obtain ⟨u, hu⟩ := o.there hm
    rw [hu] at h; cases h
/-- a new object that never changes -/
theorem Ok.lay (o : Ok C F L G M H) {p : Addr} {u : HO} (h : H p = none) : Ok C F L (upd G p u) M (upd H p u) ∧ Ext L G L (upd G p u) := by
  obtain ⟨g, nl⟩ := o.fresh h
  have e : Ext L G L (upd G p u) := ⟨⟨[], by simp⟩, fun b x q => by rw [upd_ne (ne_of_none q g)]; exact q⟩
  have nf := o.freshF h
  refine ⟨⟨fun b x q => by rw [upd_ne (ne_of_none q nf)]; exact o.fs b x q, fun b x q => ⟨by rw [upd_ne (ne_of_none q nf)]; exact (o.fo b x q).1, (o.fo b x q).2⟩, fun b x q => ?_, o.len, o.nd, fun b hb => ?_, fun n b x h1 h2 => ?_⟩, e⟩
  · by_cases hb : b = p
    · subst hb; rw [upd_same] at q ⊢; exact q
    · rw [upd_ne hb] at q ⊢; exact o.sub b x q
  · rw [upd_ne (fun z : b = p => nl (z ▸ hb))]; exact o.out b hb
  · have hb : b ∈ L := List.mem_of_getElem? h1
    exact (o.cells n b x h1 h2).mono e (upd_ne (fun z : b = p => nl (z ▸ hb)))
/-- a new object nobody needs -/
theorem Ok.lose (o : Ok C F L G M H) {p : Addr} {u : HO} (h : H p = none) : Ok C F L G M (upd H p u) := by
  obtain ⟨g, nl⟩ := o.fresh h
  have nf := o.freshF h
  refine ⟨fun b x q => by rw [upd_ne (ne_of_none q nf)]; exact o.fs b x q, o.fo, fun b x q => ?_, o.len, o.nd, o.out, fun n b x h1 h2 => ?_⟩
  · rw [upd_ne (ne_of_none q g)]; exact o.sub b x q
  · have hb : b ∈ L := List.mem_of_getElem? h1
    exact (o.cells n b x h1 h2).mono (Ext.refl _ _) (upd_ne (fun z : b = p => nl (z ▸ hb)))
/-- a new cell -/
theorem Ok.cellNew (o : Ok C F L G M H) {p : Addr} {vs : List V} {ds : List D} (h : H p = none) (r : RpL C L G vs ds) :
    Ok C F (L ++ [p]) G (M ++ [.lst ds]) (upd H p (.lst vs)) ∧ Ext L G (L ++ [p]) G ∧ Rp C (L ++ [p]) G (.ref p) (.cell M.length) := by
  obtain ⟨g, nl⟩ := o.fresh h
  have e : Ext L G (L ++ [p]) G := ⟨⟨[p], rfl⟩, Same.refl G⟩
  have nf := o.freshF h
  refine ⟨⟨fun b x q => by rw [upd_ne (ne_of_none q nf)]; exact o.fs b x q, fun b x q => ⟨(o.fo b x q).1, fun z => ?_⟩, fun b x q => ?_, by simp [o.len], ?_, fun b hb => ?_, fun n b x h1 h2 => ?_⟩, e, .cell ?_⟩
  · rcases List.mem_append.mp z with z | z
    · exact (o.fo b x q).2 z
    · simp at z; subst z; rw [nf] at q; cases q
  · rw [upd_ne (ne_of_none q g)]; exact o.sub b x q
  · exact List.nodup_append.mpr ⟨o.nd, by simp, fun b hb c hc => by simp at hc; subst hc; exact fun z => nl (z ▸ hb)⟩
  · rcases List.mem_append.mp hb with hb | hb
    · exact o.out b hb
    · simp at hb; subst hb; exact g
  · by_cases hn : n < L.length
    · rw [List.getElem?_append_left hn] at h1
      rw [List.getElem?_append_left (by rw [← o.len]; exact hn)] at h2
      have hb : b ∈ L := List.mem_of_getElem? h1
      exact (o.cells n b x h1 h2).mono e (upd_ne (fun z : b = p => nl (z ▸ hb)))
    · have hn1 : n = L.length := by
        have := (List.getElem?_eq_some_iff.mp h1).1
        simp at this; omega
      subst hn1
      rw [List.getElem?_append_right (Nat.le_refl _)] at h1
      rw [List.getElem?_append_right (by rw [o.len]; exact Nat.le_refl _)] at h2
      simp at h1
      simp [o.len] at h2
      subst h1 h2
      exact ⟨vs, upd_same, r.mono e⟩
  · rw [← o.len]; simp
/-- a cell's list is changed -/
theorem Ok.cellSet (o : Ok C F L G M H) {n : Nat} {vs : List V} {ds : List D} (h : L[n]? = some a) (r : RpL C L G vs ds) :
    Ok C F L G (M.set n (.lst ds)) (upd H a (.lst vs)) := by
  have ha : a ∈ L := List.mem_of_getElem? h
  refine ⟨fun b x q => by rw [upd_ne (fun z : b = a => (o.fo b x q).2 (z ▸ ha))]; exact o.fs b x q, o.fo, fun b x q => ?_, by simp [o.len], o.nd, o.out, fun m b x h1 h2 => ?_⟩
  · rw [upd_ne (ne_of_none q (o.out a ha))]; exact o.sub b x q
  · by_cases hm : m = n
    · subst hm
      rw [h] at h1
      cases h1
      rw [List.getElem?_set_self (by rw [← o.len]; exact (List.getElem?_eq_some_iff.mp h).1)] at h2
      cases h2
      exact ⟨vs, upd_same, r⟩
    · rw [List.getElem?_set_ne (fun z => hm z.symm)] at h2
      refine (o.cells m b x h1 h2).mono (Ext.refl _ _) (upd_ne fun z => hm ?_)
      subst z
      obtain ⟨i1, e1⟩ := List.getElem?_eq_some_iff.mp h1
      obtain ⟨i2, e2⟩ := List.getElem?_eq_some_iff.mp h
      exact (List.getElem_inj o.nd).mp (e1.trans e2.symm)
/-- the object at an address that is no cell may be anything newer -/
theorem Ok.forget (o : Ok C F L G M H) {M' : List MO} {J : List MO} {L0 : List Addr} {J' : List Addr} (hM : M = M' ++ J) (hL : L = L0 ++ J') (hl : L0.length = M'.length) (hc : ∀ (n : Nat) (b : Addr) (x : MO), L0[n]? = some b → M'[n]? = some x → MoOk C L0 G H b x) : Ok C F L0 G M' H := by
  subst hM hL
  exact ⟨o.fs, fun b x q => ⟨(o.fo b x q).1, fun z => (o.fo b x q).2 (List.mem_append_left _ z)⟩, o.sub, hl, (List.nodup_append.mp o.nd).1, fun b hb => o.out b (List.mem_append_left _ hb), hc⟩
end

/-! ### results -/
inductive R (α : Type) where
  | ok (a : α) (M : List MO)
  | exc (c : Str) (M : List MO)
  | stuck
def R.bind {α β : Type} (r : R α) (f : α → List MO → R β) : R β := match r with
  | .ok a M => f a M
  | .exc c M => .exc c M
  | .stuck => .stuck
@[simp] theorem R.bind_ok {α β : Type} (a : α) (M : List MO) (f : α → List MO → R β) : (R.ok a M).bind f = f a M := rfl
@[simp] theorem R.bind_exc {α β : Type} (c : Str) (M : List MO) (f : α → List MO → R β) : (R.exc c M : R α).bind f = .exc c M := rfl
@[simp] theorem R.bind_stuck {α β : Type} (f : α → List MO → R β) : (R.stuck : R α).bind f = .stuck := rfl
abbrev EN := List (Option D)
abbrev EV := EN → List MO → R D
abbrev EB := EN → List MO → R Bool
abbrev EA := EN → List MO → R (List D)
inductive RS where
  | nx (e : EN) (M : List MO)
  | ret (d : D) (M : List MO)
  | brk (e : EN) (M : List MO)
  | cnt (e : EN) (M : List MO)
  | exc (c : Str) (e : EN) (M : List MO)
  | stuck
abbrev SV := EN → List MO → RS

/-- the slots hold the data -/
structure RpE (C : Kx) (L : List Addr) (G : Hp) (σ : L2.St) (e : EN) : Prop where
  len : σ.length = e.length
  at' : ∀ (i : Nat) (d : D), e[i]? = some (some d) → ∃ v, σ[i]? = some (some v) ∧ Rp C L G v d
section
variable {C : Kx} {L L' : List Addr} {G G' H H' : Hp} {M : List MO} {σ : L2.St} {e : EN}
theorem RpE.mono (h : RpE C L G σ e) (x : Ext L G L' G') : RpE C L' G' σ e :=
  ⟨h.len, fun i d q => by obtain ⟨v, h1, h2⟩ := h.at' i d q; exact ⟨v, h1, h2.mono x⟩⟩
theorem RpE.set (h : RpE C L G σ e) {i : Nat} {v : V} {d : D} (r : Rp C L G v d) : RpE C L G (σ.set i (some v)) (e.set i (some d)) := by
  refine ⟨by simp [h.len], fun j x q => ?_⟩
  by_cases hj : i = j
  · subst hj
    by_cases hi : i < e.length
    · rw [List.getElem?_set_self hi] at q
      cases q
      exact ⟨v, List.getElem?_set_self (by rw [h.len]; exact hi), r⟩
    · rw [List.getElem?_eq_none (by simp; omega)] at q; cases q
  · rw [List.getElem?_set_ne hj] at q ⊢
    exact h.at' j x q
theorem RpE.weak (h : RpE C L G σ e) {e' : EN} (hl : e'.length = e.length) (w : ∀ (i : Nat) (d : D), e'[i]? = some (some d) → e[i]? = some (some d)) : RpE C L G σ e' :=
  ⟨h.len.trans hl.symm, fun i d q => h.at' i d (w i d q)⟩
end

/-- what is wanted behind an expression: k of its data, or the wish of the exception -/
def Aft {α : Type} (X : Cx) (W : WX) (F : Hp) (σ : L2.St) (k : α → List MO → List Addr → Hp → Hp → Prop) (L : List Addr) (G : Hp) : R α → Prop
  | .ok d M' => ∀ L' G' H', Ok (kx X) F L' G' M' H' → Ext L G L' G' → k d M' L' G' H'
  | .exc c M' => ∀ L' G' H' u, Ok (kx X) F L' G' M' H' → Ext L G L' G' → X.mg c = some u → W u none σ H'
  | .stuck => False
section
variable {α β : Type} {X : Cx} {W : WX} {F : Hp} {σ : L2.St} {k k' : α → List MO → List Addr → Hp → Hp → Prop} {L L' : List Addr} {G G' : Hp}
theorem Aft.mono {r : R α} (h : Aft X W F σ k L G r) (e : Ext L G L' G') : Aft X W F σ k L' G' r := by
  cases r with
  | ok d M => exact fun L2 G2 H2 o x => h L2 G2 H2 o (e.trans x)
  | exc c M => exact fun L2 G2 H2 u o x q => h L2 G2 H2 u o (e.trans x) q
  | stuck => exact h.elim
theorem Aft.imp {r : R α} (h : Aft X W F σ k L G r) (f : ∀ a M' L' G' H', Ok (kx X) F L' G' M' H' → Ext L G L' G' → k a M' L' G' H' → k' a M' L' G' H') : Aft X W F σ k' L G r := by
  cases r with
  | ok d M => exact fun L2 G2 H2 o x => f d M L2 G2 H2 o x (h L2 G2 H2 o x)
  | exc c M => exact h
  | stuck => exact h.elim
theorem Aft.bind {r : R α} {f : α → List MO → R β} {kb : β → List MO → List Addr → Hp → Hp → Prop} (h : Aft X W F σ kb L G (r.bind f)) :
    Aft X W F σ (fun a M1 L1 G1 _ => Aft X W F σ kb L1 G1 (f a M1)) L G r := by
  cases r with
  | ok d M => exact fun L2 G2 H2 o x => Aft.mono h x
  | exc c M => exact h
  | stuck => exact h.elim
end
def kE (X : Cx) (Q : VK) : D → List MO → List Addr → Hp → Hp → Prop := fun d _ L' G' H' => ∀ v, Rp (kx X) L' G' v d → Q v H'
def kB (Q : Bool → Hp → Prop) : Bool → List MO → List Addr → Hp → Hp → Prop := fun b _ _ _ H' => Q b H'
def kA (X : Cx) (Q : List V → Hp → Prop) : List D → List MO → List Addr → Hp → Hp → Prop := fun ds _ L' G' H' => ∀ vs, RpL (kx X) L' G' vs ds → Q vs H'
def AftS (X : Cx) (W : WX) (F : Hp) (L : List Addr) (G : Hp) (Dn : Ends) : RS → Prop
  | .nx e M' => ∀ σ' L' G' H', Ok (kx X) F L' G' M' H' → Ext L G L' G' → RpE (kx X) L' G' σ' e → Dn.nx σ' H'
  | .ret d M' => ∀ v L' G' H', Ok (kx X) F L' G' M' H' → Ext L G L' G' → Rp (kx X) L' G' v d → Dn.rt v H'
  | .brk e M' => ∀ σ' L' G' H', Ok (kx X) F L' G' M' H' → Ext L G L' G' → RpE (kx X) L' G' σ' e → Dn.bk σ' H'
  | .cnt e M' => ∀ σ' L' G' H', Ok (kx X) F L' G' M' H' → Ext L G L' G' → RpE (kx X) L' G' σ' e → Dn.ct σ' H'
  | .exc c e M' => ∀ σ' L' G' H' u, Ok (kx X) F L' G' M' H' → Ext L G L' G' → RpE (kx X) L' G' σ' e → X.mg c = some u → W u none σ' H'
  | .stuck => False
theorem AftS.mono {X : Cx} {W : WX} {F : Hp} {L L' : List Addr} {G G' : Hp} {Dn : Ends} {r : RS} (h : AftS X W F L G Dn r) (e : Ext L G L' G') : AftS X W F L' G' Dn r := by
  cases r with
  | nx _ _ => exact fun σ2 L2 G2 H2 o x => h σ2 L2 G2 H2 o (e.trans x)
  | ret _ _ => exact fun σ2 L2 G2 H2 o x => h σ2 L2 G2 H2 o (e.trans x)
  | brk _ _ => exact fun σ2 L2 G2 H2 o x => h σ2 L2 G2 H2 o (e.trans x)
  | cnt _ _ => exact fun σ2 L2 G2 H2 o x => h σ2 L2 G2 H2 o (e.trans x)
  | exc _ _ _ => exact fun σ2 L2 G2 H2 u o x => h σ2 L2 G2 H2 u o (e.trans x)
  | stuck => exact h.elim

def HoE (X : Cx) (W : WX) (t : TE) (ev : EV) : Prop := ∀ (F : Hp) (e : EN) (M : List MO) (σ : L2.St) (L : List Addr) (G H : Hp) (Q : VK),
  Ok (kx X) F L G M H → RpE (kx X) L G σ e → Aft X W F σ (kE X Q) L G (ev e M) → t σ H Q
def HoB (X : Cx) (W : WX) (t : TT) (ev : EB) : Prop := ∀ (F : Hp) (e : EN) (M : List MO) (σ : L2.St) (L : List Addr) (G H : Hp) (Q : Bool → Hp → Prop),
  Ok (kx X) F L G M H → RpE (kx X) L G σ e → Aft X W F σ (kB Q) L G (ev e M) → t σ H Q
def HoA (X : Cx) (W : WX) (t : TA) (ev : EA) : Prop := ∀ (F : Hp) (e : EN) (M : List MO) (σ : L2.St) (L : List Addr) (G H : Hp) (Q : List V → Hp → Prop),
  Ok (kx X) F L G M H → RpE (kx X) L G σ e → Aft X W F σ (kA X Q) L G (ev e M) → t σ H Q
def HoS (X : Cx) (W : WX) (t : TS) (sv : SV) : Prop := ∀ (F : Hp) (e : EN) (M : List MO) (σ : L2.St) (L : List Addr) (G H : Hp) (Dn : Ends),
  Ok (kx X) F L G M H → RpE (kx X) L G σ e → AftS X W F L G Dn (sv e M) → t Dn σ H

/-- the expression is what the evaluator says -/
def PD (X : Cx) (W : WX) (e : Expr) (ev : EV) : Prop := ∃ t, PE X e t ∧ HoE X W t ev
def PB (X : Cx) (W : WX) (e : Expr) (ev : EB) : Prop := ∃ t, PT X e t ∧ HoB X W t ev
def PWD (X : Cx) (W : WX) (e : Expr) (ev : EB) : Prop := ∃ t, PW X e t ∧ HoB X W t ev
def PAD (X : Cx) (W : WX) (es : List Expr) (ev : EA) : Prop := ∃ t, PA X es t ∧ HoA X W t ev
def PSD (X : Cx) (W : WX) (s : Stmt) (sv : SV) : Prop := ∃ t, PS X s t ∧ HoS X W t sv
def PSsD (X : Cx) (W : WX) (s : List Stmt) (sv : SV) : Prop := ∃ t, PSs X s t ∧ HoS X W t sv
end KB
namespace KB
open PySem PySem.Spec PyProof.Rows L2

/-! ### views -/
def res (M : List MO) : D → D
  | .cell n => match M[n]? with
    | some (.lst ds) => .lst ds
    | _ => .cell n
  | d => d
@[simp] theorem res_non (M : List MO) : res M .non = .non := rfl
@[simp] theorem res_bl (M : List MO) (b : Bool) : res M (.bl b) = .bl b := rfl
@[simp] theorem res_int (M : List MO) (b : Int) : res M (.int b) = .int b := rfl
@[simp] theorem res_str (M : List MO) (b : Str) : res M (.str b) = .str b := rfl
@[simp] theorem res_tup (M : List MO) (b : List D) : res M (.tup b) = .tup b := rfl
@[simp] theorem res_lst (M : List MO) (b : List D) : res M (.lst b) = .lst b := rfl
@[simp] theorem res_scr (M : List MO) (b : List D) : res M (.scr b) = .scr b := rfl
theorem res_cell (M : List MO) (n : Nat) : res M (.cell n) = .cell n ∨ ∃ ds, res M (.cell n) = .lst ds := by
  cases h : M[n]? with
  | none => exact .inl (by simp [res, h])
  | some u => cases u with
    | lst ds => exact .inr ⟨ds, by simp [res, h]⟩
    | obj c fs => exact .inl (by simp [res, h])
section
variable {C : Kx} {F : Hp} {L L' : List Addr} {G G' H H' : Hp} {M : List MO} {v : V} {d : D}
theorem Ok.viewL (o : Ok C F L G M H) (r : Rp C L G v d) {ds : List D} (e : res M d = .lst ds) : ∃ a vs, v = .ref a ∧ H a = some (.lst vs) ∧ RpL C L G vs ds := by
  cases r with
  | lst h hl => rw [res_lst] at e; cases e; exact ⟨_, _, rfl, o.sub _ _ h, hl⟩
  | @cell a n h =>
    obtain ⟨u, hu, k⟩ := o.here h
    unfold res at e
    simp only [hu] at e
    cases u with
    | lst es => simp only at e; cases e; obtain ⟨vs, h1, h2⟩ := k; exact ⟨_, vs, rfl, h1, h2⟩
    | obj c fs => simp only at e; cases e
  | non => cases e
  | bl => cases e
  | int => cases e
  | str => cases e
  | tup => cases e
  | scr => cases e
  | exc => cases e
  | ptup => cases e
theorem Ok.viewT (o : Ok C F L G M H) (r : Rp C L G v d) {ds : List D} (e : res M d = .tup ds) : ∃ a vs, v = .ref a ∧ SqT C.K H a vs ∧ RpL C L G vs ds := by
  cases r with
  | tup h hl => rw [res_tup] at e; cases e; exact ⟨_, _, rfl, Same.seqT o.sub h, hl⟩
  | @cell a n h => 
    rcases res_cell M n with z | ⟨ds', z⟩ <;> rw [z] at e <;> cases e
  | non => cases e
  | bl => cases e
  | int => cases e
  | str => cases e
  | lst => cases e
  | scr => cases e
  | exc => cases e
  | ptup => cases e
theorem viewI (r : Rp C L G v d) {i : Int} (e : res M d = .int i) : v = .int i := by
  cases r with
  | int => cases e; rfl
  | @cell a n h => rcases res_cell M n with z | ⟨ds', z⟩ <;> rw [z] at e <;> cases e
  | _ => cases e
theorem viewS (r : Rp C L G v d) {i : Str} (e : res M d = .str i) : v = .str i := by
  cases r with
  | str => cases e; rfl
  | @cell a n h => rcases res_cell M n with z | ⟨ds', z⟩ <;> rw [z] at e <;> cases e
  | _ => cases e
theorem viewB (r : Rp C L G v d) {i : Bool} (e : res M d = .bl i) : v = .bl i := by
  cases r with
  | bl => cases e; rfl
  | @cell a n h => rcases res_cell M n with z | ⟨ds', z⟩ <;> rw [z] at e <;> cases e
  | _ => cases e
theorem viewN (r : Rp C L G v d) (e : res M d = .non) : v = .non := by
  cases r with
  | non => rfl
  | @cell a n h => rcases res_cell M n with z | ⟨ds', z⟩ <;> rw [z] at e <;> cases e
  | _ => cases e
end

/-! ### the evaluators -/
def big : Nat := 1000000
theorem big_line {n : Nat} (h : n ≤ big) : n ≤ sizeLine := Nat.le_trans h (by decide)
theorem big_lt {n : Nat} (h : n ≤ big) : n < sizeLine := Nat.lt_of_le_of_lt h (by decide)
def eVar (i : Nat) : EV := fun e M => match e[i]? with
  | some (some d) => .ok d M
  | _ => .stuck
def eC (d : D) : EV := fun _ M => .ok d M
def eBin (f : D → D → List MO → R D) (ea eb : EV) : EV := fun e M => (ea e M).bind fun x M1 => (eb e M1).bind fun y M2 => f x y M2
def eUn (f : D → List MO → R D) (ea : EV) : EV := fun e M => (ea e M).bind f
def eNil : EA := fun _ M => .ok [] M
def eCons (ea : EV) (er : EA) : EA := fun e M => (ea e M).bind fun x M1 => (er e M1).bind fun xs M2 => .ok (x :: xs) M2
def eArgs (f : List D → List MO → R D) (ea : EA) : EV := fun e M => (ea e M).bind f
def eTest (ea : EV) : EB := fun e M => (ea e M).bind fun x M1 => match x with
  | .bl b => .ok b M1
  | _ => .stuck
def eAnd (ea eb : EB) : EB := fun e M => (ea e M).bind fun b M1 => if b then eb e M1 else .ok false M1
def eOr (ea eb : EB) : EB := fun e M => (ea e M).bind fun b M1 => if b then .ok true M1 else eb e M1
def eNot (ea : EB) : EB := fun e M => (ea e M).bind fun b M1 => .ok (!b) M1
def eAndV (ea eb : EV) : EV := fun e M => (ea e M).bind fun b M1 => match b with
  | .bl true => eb e M1
  | .bl false => .ok (.bl false) M1
  | _ => .stuck
def eOrV (ea eb : EV) : EV := fun e M => (ea e M).bind fun b M1 => match b with
  | .bl false => eb e M1
  | .bl true => .ok (.bl true) M1
  | _ => .stuck
def fNot (b : D) (M1 : List MO) : R D := match b with
  | .bl c => .ok (.bl (!c)) M1
  | _ => .stuck
def eIf (c : EB) (ea eb : EV) : EV := fun e M => (c e M).bind fun b M1 => if b then ea e M1 else eb e M1
def eChain (f g : D → D → List MO → R D) (ea eb ec : EV) : EV := fun e M => (ea e M).bind fun x M1 => (eb e M1).bind fun y M2 => (f x y M2).bind fun z M3 => match z with
  | .bl true => (ec e M3).bind fun w M4 => g y w M4
  | .bl false => .ok (.bl false) M3
  | _ => .stuck

section
variable {X : Cx} {W : WX}
def OpD (X : Cx) (W : WX) (r : R2) (f : D → D → List MO → R D) : Prop := ∀ (x y : V) (dx dy : D) (M : List MO) (F : Hp) (L : List Addr) (G H : Hp) (σ : L2.St) (Q : VK),
  Ok (kx X) F L G M H → Rp (kx X) L G x dx → Rp (kx X) L G y dy → Aft X W F σ (kE X Q) L G (f dx dy M) → r x y H Q
def UnD (X : Cx) (W : WX) (r : V → Hp → VK → Prop) (f : D → List MO → R D) : Prop := ∀ (x : V) (dx : D) (M : List MO) (F : Hp) (L : List Addr) (G H : Hp) (σ : L2.St) (Q : VK),
  Ok (kx X) F L G M H → Rp (kx X) L G x dx → Aft X W F σ (kE X Q) L G (f dx M) → r x H Q
def CallD (X : Cx) (W : WX) (r : List V → Hp → VK → Prop) (f : List D → List MO → R D) : Prop := ∀ (xs : List V) (ds : List D) (M : List MO) (F : Hp) (L : List Addr) (G H : Hp) (σ : L2.St) (Q : VK),
  Ok (kx X) F L G M H → RpL (kx X) L G xs ds → Aft X W F σ (kE X Q) L G (f ds M) → r xs H Q

theorem aok {α : Type} {k : α → List MO → List Addr → Hp → Hp → Prop} {F : Hp} {L : List Addr} {G H : Hp} {σ : L2.St} {d : α} {M : List MO} (h : Aft X W F σ k L G (.ok d M)) (o : Ok (kx X) F L G M H) : k d M L G H := h L G H o (Ext.refl _ _)

theorem pd_var (i : Nat) {x : Str} {pos : Pos} (hN : X.N[i]? = some x := by rfl) (hv : Vis X.env.scope x := by first | exact Or.inl rfl | exact Or.inr (Or.inl rfl) | exact Or.inr (Or.inr rfl)) (hd : (x == ("__debug__" : Str)) = false := by decide)
    (hcd : (x == ("__classdict__" : Str)) = false := by decide) : PD X W (.Name x pos) (eVar i) := by
  refine ⟨_, pe_var hN hv hd hcd, fun F e M σ L G H Q o re h => ?_⟩
  unfold eVar at h
  split at h
  · rename_i d hd
    obtain ⟨v, h1, h2⟩ := re.at' i d hd
    exact ⟨v, h1, aok h o v h2⟩
  · exact h.elim
theorem pd_int {i j pos} : PD X W (.Constant (.int i) j pos) (eC (.int i)) := ⟨_, pe_int, fun F e M σ L G H Q o re h => aok h o _ (.int i)⟩
theorem pd_bl {i j pos} : PD X W (.Constant (.bool i) j pos) (eC (.bl i)) := ⟨_, pe_bl, fun F e M σ L G H Q o re h => aok h o _ (.bl i)⟩
theorem pd_non {j pos} : PD X W (.Constant .none j pos) (eC .non) := ⟨_, pe_non, fun F e M σ L G H Q o re h => aok h o _ .non⟩
theorem pd_str {i j pos} : PD X W (.Constant (.str i) j pos) (eC (.str i)) := ⟨_, pe_str, fun F e M σ L G H Q o re h => aok h o _ (.str i)⟩
theorem pd_globI {x : Str} {i : Int} {t : Tok} {pos : Pos} (hg : Gl X x) (hm : X.mg x = some (.int i t)) (hd : (x == ("__debug__" : Str)) = false := by decide) : PD X W (.Name x pos) (eC (.int i)) :=
  ⟨_, pe_glob (v := .int i) hg hm ⟨t, rfl⟩ hd, fun F e M σ L G H Q o re h => aok h o _ (.int i)⟩
theorem pd_globS {x : Str} {i : Str} {t : Tok} {pos : Pos} (hg : Gl X x) (hm : X.mg x = some (.str i t)) (hd : (x == ("__debug__" : Str)) = false := by decide) : PD X W (.Name x pos) (eC (.str i)) :=
  ⟨_, pe_glob (v := .str i) hg hm ⟨t, rfl⟩ hd, fun F e M σ L G H Q o re h => aok h o _ (.str i)⟩

theorem hoOp {r : R2} {f : D → D → List MO → R D} {ta tb : TE} {ea eb : EV} (hr : OpD X W r f) (ha : HoE X W ta ea) (hb : HoE X W tb eb) : HoE X W (tOp r ta tb) (eBin f ea eb) := by
  intro F e M σ L G H Q o re h
  refine ha F e M σ L G H _ o re ((Aft.bind h).imp fun x M1 L1 G1 H1 o1 x1 h1 v1 r1 => ?_)
  refine hb F e M1 σ L1 G1 H1 _ o1 (re.mono x1) ((Aft.bind h1).imp fun y M2 L2 G2 H2 o2 x2 h2 v2 r2 => ?_)
  exact hr _ _ _ _ M2 F L2 G2 H2 σ Q o2 (r1.mono x2) r2 h2
theorem pd_op {a b : Expr} {pos : Pos} {ea eb : EV} {op : Operator} {r : R2} {f : D → D → List MO → R D} (ho : OpR X (binaryOp op) r) (hr : OpD X W r f) (ha : PD X W a ea) (hb : PD X W b eb) : PD X W (.BinOp a op b pos) (eBin f ea eb) := by
  obtain ⟨ta, pa, qa⟩ := ha
  obtain ⟨tb, pb, qb⟩ := hb
  exact ⟨_, pe_op ho pa pb, hoOp hr qa qb⟩
theorem pd_cmp {a b : Expr} {pos : Pos} {ea eb : EV} {op : CmpOp} {r : R2} {f : D → D → List MO → R D} (ho : OpR X (compareOp op) r) (hr : OpD X W r f) (ha : PD X W a ea) (hb : PD X W b eb) (hm : behindInMarks op b = false) : PD X W (.Compare a [op] [b] pos) (eBin f ea eb) := by
  obtain ⟨ta, pa, qa⟩ := ha
  obtain ⟨tb, pb, qb⟩ := hb
  exact ⟨_, pe_cmpR ho pa pb hm, hoOp hr qa qb⟩
theorem hoTest {t : TE} {ev : EV} (h : HoE X W t ev) : HoB X W (tTest t) (eTest ev) := by
  intro F e M σ L G H Q o re q
  refine h F e M σ L G H _ o re ((Aft.bind q).imp fun x M1 L1 G1 H1 o1 x1 h1 v1 r1 => ?_)
  cases r1 with
  | bl b => exact ⟨b, rfl, aok h1 o1⟩
  | _ => exact h1.elim
theorem pb_cmp {a b : Expr} {pos : Pos} {ea eb : EV} {op : CmpOp} {r : R2} {f : D → D → List MO → R D} (ho : OpR X (compareOp op) r) (hr : OpD X W r f) (ha : PD X W a ea) (hb : PD X W b eb) (hm : behindInMarks op b = false) : PB X W (.Compare a [op] [b] pos) (eTest (eBin f ea eb)) := by
  obtain ⟨ta, pa, qa⟩ := ha
  obtain ⟨tb, pb, qb⟩ := hb
  exact ⟨_, pt_cmpR ho pa pb hm, hoTest (hoOp hr qa qb)⟩
theorem hoChain {r r' : R2} {f g : D → D → List MO → R D} {ta tb tc : TE} {ea eb ec : EV} (hr : OpD X W r f) (hr' : OpD X W r' g) (ha : HoE X W ta ea) (hb : HoE X W tb eb) (hc : HoE X W tc ec) : HoE X W (tChain r r' ta tb tc) (eChain f g ea eb ec) := by
  intro F e M σ L G H Q o re h
  refine ha F e M σ L G H _ o re ((Aft.bind h).imp fun x M1 L1 G1 H1 o1 x1 h1 v1 r1 => ?_)
  refine hb F e M1 σ L1 G1 H1 _ o1 (re.mono x1) ((Aft.bind h1).imp fun y M2 L2 G2 H2 o2 x2 h2 v2 r2 => ?_)
  refine hr _ _ _ _ M2 F L2 G2 H2 σ _ o2 (r1.mono x2) r2 ((Aft.bind h2).imp fun z M3 L3 G3 H3 o3 x3 h3 v3 r3 => ?_)
  cases r3 with
  | bl b =>
    refine ⟨b, rfl, ?_⟩
    cases b with
    | false => (try dsimp only [kB]); rw [if_neg Bool.false_ne_true]; exact aok h3 o3 _ (.bl false)
    | true =>
      rw [if_pos rfl]
      refine (hc F e M3 σ L3 G3 H3 _ o3 (((re.mono x1).mono x2).mono x3) ((Aft.bind h3).imp fun w M4 L4 G4 H4 o4 x4 h4 v4 r4 => ?_))
      exact hr' _ _ _ _ M4 F L4 G4 H4 σ Q o4 ((r2.mono x3).mono x4) r4 h4
  | _ => exact h3.elim
theorem pd_chain {a b c : Expr} {pos : Pos} {ea eb ec : EV} {op op' : CmpOp} {r r' : R2} {f g : D → D → List MO → R D} (ho : OpR X (compareOp op) r) (hr : OpD X W r f) (ho' : OpR X (compareOp op') r') (hr' : OpD X W r' g) (ha : PD X W a ea) (hb : PD X W b eb) (hc : PD X W c ec)
    (hm : lastMarks [op, op'] [b, c] = false := by with_unfolding_all rfl) : PD X W (.Compare a [op, op'] [b, c] pos) (eChain f g ea eb ec) := by
  obtain ⟨ta, pa, qa⟩ := ha
  obtain ⟨tb, pb, qb⟩ := hb
  obtain ⟨tc, pc, qc⟩ := hc
  exact ⟨_, pe_chain ho ho' pa pb pc hm, hoChain hr hr' qa qb qc⟩
theorem pb_chain {a b c : Expr} {pos : Pos} {ea eb ec : EV} {op op' : CmpOp} {r r' : R2} {f g : D → D → List MO → R D} (ho : OpR X (compareOp op) r) (hr : OpD X W r f) (ho' : OpR X (compareOp op') r') (hr' : OpD X W r' g) (ha : PD X W a ea) (hb : PD X W b eb) (hc : PD X W c ec)
    (hm : lastMarks [op, op'] [b, c] = false := by with_unfolding_all rfl) : PB X W (.Compare a [op, op'] [b, c] pos) (eTest (eChain f g ea eb ec)) := by
  obtain ⟨ta, pa, qa⟩ := ha
  obtain ⟨tb, pb, qb⟩ := hb
  obtain ⟨tc, pc, qc⟩ := hc
  exact ⟨_, pt_chain ho ho' pa pb pc hm, hoTest (hoChain hr hr' qa qb qc)⟩
theorem pd_un {a : Expr} {pos : Pos} {ea : EV} {op : UnaryOp} {r : V → Hp → VK → Prop} {f : D → List MO → R D} (ho : UnR X (unaryOp op) r) (hr : UnD X W r f) (ha : PD X W a ea) : PD X W (.UnaryOp op a pos) (eUn f ea) := by
  obtain ⟨ta, pa, qa⟩ := ha
  refine ⟨_, pe_un ho pa, fun F e M σ L G H Q o re h => ?_⟩
  exact qa F e M σ L G H _ o re ((Aft.bind h).imp fun x M1 L1 G1 H1 o1 x1 h1 v1 r1 => hr _ _ M1 F L1 G1 H1 σ Q o1 r1 h1)
/-! tests -/
theorem pb_val {e : Expr} {ev : EV} (h : PD X W e ev) (he : ∀ whole, isTrue e X.env whole = (do let v ← whole; standAt e.pos; holding [v] (truthy v)) := by intro _; rfl) : PB X W e (eTest ev) := by
  obtain ⟨t, p, q⟩ := h
  exact ⟨_, pt_val p he, hoTest q⟩
theorem pw_and1' {a : Expr} {pos : Pos} {ea : EB} (ha : PB X W a ea) : PWD X W (.BoolOp .And [a] pos) ea := by
  obtain ⟨t, p, q⟩ := ha
  exact ⟨_, pw_and1 p, q⟩
theorem pw_or1' {a : Expr} {pos : Pos} {ea : EB} (ha : PB X W a ea) : PWD X W (.BoolOp .Or [a] pos) ea := by
  obtain ⟨t, p, q⟩ := ha
  exact ⟨_, pw_or1 p, q⟩
theorem pw_and' {a b : Expr} {rest : List Expr} {pos : Pos} {ea eb : EB} (ha : PB X W a ea) (hb : PWD X W (.BoolOp .And (b :: rest) pos) eb) : PWD X W (.BoolOp .And (a :: b :: rest) pos) (eAnd ea eb) := by
  obtain ⟨ta, pa, qa⟩ := ha
  obtain ⟨tb, pb, qb⟩ := hb
  refine ⟨_, pw_and pa pb, fun F e M σ L G H Q o re h => ?_⟩
  refine qa F e M σ L G H _ o re ((Aft.bind h).imp fun x M1 L1 G1 H1 o1 x1 h1 => ?_)
  cases x with
  | true => (try dsimp only [kB]); rw [if_pos rfl]; exact qb F e M1 σ L1 G1 H1 _ o1 (re.mono x1) h1
  | false => (try dsimp only [kB]); rw [if_neg Bool.false_ne_true]; exact aok h1 o1
theorem pw_or' {a b : Expr} {rest : List Expr} {pos : Pos} {ea eb : EB} (ha : PB X W a ea) (hb : PWD X W (.BoolOp .Or (b :: rest) pos) eb) : PWD X W (.BoolOp .Or (a :: b :: rest) pos) (eOr ea eb) := by
  obtain ⟨ta, pa, qa⟩ := ha
  obtain ⟨tb, pb, qb⟩ := hb
  refine ⟨_, pw_or pa pb, fun F e M σ L G H Q o re h => ?_⟩
  refine qa F e M σ L G H _ o re ((Aft.bind h).imp fun x M1 L1 G1 H1 o1 x1 h1 => ?_)
  cases x with
  | false => (try dsimp only [kB]); rw [if_neg Bool.false_ne_true]; exact qb F e M1 σ L1 G1 H1 _ o1 (re.mono x1) h1
  | true => (try dsimp only [kB]); rw [if_pos rfl]; exact aok h1 o1
theorem PWD.pb {e : Expr} {ev : EB} (h : PWD X W e ev) : PB X W e ev := by
  obtain ⟨t, p, q⟩ := h
  exact ⟨t, p.pt, q⟩
theorem pb_not {a : Expr} {pos : Pos} {ea : EB} (ha : PB X W a ea) : PB X W (.UnaryOp .Not a pos) (eNot ea) := by
  obtain ⟨ta, pa, qa⟩ := ha
  refine ⟨_, pt_not pa, fun F e M σ L G H Q o re h => ?_⟩
  exact qa F e M σ L G H _ o re ((Aft.bind h).imp fun x M1 L1 G1 H1 o1 x1 (h1 : Aft X W F σ (kB Q) L1 G1 (.ok (!x) M1)) => (aok h1 o1 : kB Q (!x) M1 L1 G1 H1))
theorem pd_one {op} {a : Expr} {pos : Pos} {ea : EV} (ha : PD X W a ea) : PD X W (.BoolOp op [a] pos) ea := by
  obtain ⟨t, p, q⟩ := ha
  exact ⟨_, pe_one p, q⟩
theorem pd_and {a b : Expr} {rest : List Expr} {pos : Pos} {ea eb : EV} (ha : PD X W a ea) (hb : PD X W (.BoolOp .And (b :: rest) pos) eb) : PD X W (.BoolOp .And (a :: b :: rest) pos) (eAndV ea eb) := by
  obtain ⟨ta, pa, qa⟩ := ha
  obtain ⟨tb, pb, qb⟩ := hb
  refine ⟨_, pe_and pa pb, fun F e M σ L G H Q o re h => ?_⟩
  refine qa F e M σ L G H _ o re ((Aft.bind h).imp fun x M1 L1 G1 H1 o1 x1 h1 v1 r1 => ?_)
  cases r1 with
  | bl c =>
    refine ⟨c, rfl, ?_⟩
    cases c with
    | true => (try dsimp only [kB]); rw [if_pos rfl]; exact qb F e M1 σ L1 G1 H1 _ o1 (re.mono x1) h1
    | false => (try dsimp only [kB]); rw [if_neg Bool.false_ne_true]; exact aok h1 o1 _ (.bl false)
  | _ => exact h1.elim
theorem pd_or {a b : Expr} {rest : List Expr} {pos : Pos} {ea eb : EV} (ha : PD X W a ea) (hb : PD X W (.BoolOp .Or (b :: rest) pos) eb) : PD X W (.BoolOp .Or (a :: b :: rest) pos) (eOrV ea eb) := by
  obtain ⟨ta, pa, qa⟩ := ha
  obtain ⟨tb, pb, qb⟩ := hb
  refine ⟨_, pe_or pa pb, fun F e M σ L G H Q o re h => ?_⟩
  refine qa F e M σ L G H _ o re ((Aft.bind h).imp fun x M1 L1 G1 H1 o1 x1 h1 v1 r1 => ?_)
  cases r1 with
  | bl c =>
    refine ⟨c, rfl, ?_⟩
    cases c with
    | false => (try dsimp only [kB]); rw [if_neg Bool.false_ne_true]; exact qb F e M1 σ L1 G1 H1 _ o1 (re.mono x1) h1
    | true => (try dsimp only [kB]); rw [if_pos rfl]; exact aok h1 o1 _ (.bl true)
  | _ => exact h1.elim
theorem pd_not {a : Expr} {pos : Pos} {ea : EV} (ha : PD X W a ea) : PD X W (.UnaryOp .Not a pos) (eUn fNot ea) := by
  obtain ⟨ta, pa, qa⟩ := ha
  refine ⟨_, pe_not pa, fun F e M σ L G H Q o re h => ?_⟩
  refine qa F e M σ L G H _ o re ((Aft.bind h).imp fun x M1 L1 G1 H1 o1 x1 h1 v1 r1 => ?_)
  cases r1 with
  | bl c => exact ⟨c, rfl, aok h1 o1 _ (.bl _)⟩
  | _ => exact h1.elim
theorem pd_if {c a b : Expr} {pos : Pos} {ec : EB} {ea eb : EV} (hc : PB X W c ec) (ha : PD X W a ea) (hb : PD X W b eb) : PD X W (.IfExp c a b pos) (eIf ec ea eb) := by
  obtain ⟨tc, pc, qc⟩ := hc
  obtain ⟨ta, pa, qa⟩ := ha
  obtain ⟨tb, pb, qb⟩ := hb
  refine ⟨_, pe_ifExp pc pa pb, fun F e M σ L G H Q o re h => ?_⟩
  refine qc F e M σ L G H _ o re ((Aft.bind h).imp fun x M1 L1 G1 H1 o1 x1 h1 => ?_)
  cases x with
  | true => (try dsimp only [kB]); rw [if_pos rfl]; exact qa F e M1 σ L1 G1 H1 _ o1 (re.mono x1) h1
  | false => (try dsimp only [kB]); rw [if_neg Bool.false_ne_true]; exact qb F e M1 σ L1 G1 H1 _ o1 (re.mono x1) h1
/-! arguments, displays -/
theorem pad_nil : PAD X W [] eNil := ⟨_, pa_nil, fun F e M σ L G H Q o re h => aok h o _ .nil⟩
theorem pad_cons {a : Expr} {es : List Expr} {ea : EV} {er : EA} (ha : PD X W a ea) (hr : PAD X W es er) (hs : starEach (a :: es) X.env = (false, eval a X.env) :: starEach es X.env := by rfl) : PAD X W (a :: es) (eCons ea er) := by
  obtain ⟨ta, pa, qa⟩ := ha
  obtain ⟨tr, pr, qr⟩ := hr
  refine ⟨_, pa_cons pa pr hs, fun F e M σ L G H Q o re h => ?_⟩
  refine qa F e M σ L G H _ o re ((Aft.bind h).imp fun x M1 L1 G1 H1 o1 x1 h1 v1 r1 => ?_)
  refine qr F e M1 σ L1 G1 H1 _ o1 (re.mono x1) ((Aft.bind h1).imp fun y M2 L2 G2 H2 o2 x2 h2 v2 r2 => ?_)
  exact aok h2 o2 _ (.cons (r1.mono x2) r2)
def fTup (ds : List D) (M : List MO) : R D := if ds.length ≤ big then .ok (.tup ds) M else .stuck
def fLst (ds : List D) (M : List MO) : R D := if ds.length ≤ big then .ok (.lst ds) M else .stuck
def fCell (ds : List D) (M : List MO) : R D := if ds.length ≤ big then .ok (.cell M.length) (M ++ [.lst ds]) else .stuck
theorem newT {F : Hp} {L : List Addr} {G H : Hp} {M : List MO} {σ : L2.St} {Q : VK} {vs : List V} {ds : List D} (o : Ok (kx X) F L G M H) (r : RpL (kx X) L G vs ds) (h : Aft X W F σ (kE X Q) L G (.ok (.tup ds) M)) (p : Addr) (hp : H p = none) : Q (.ref p) (upd H p (.tup vs)) := by
  obtain ⟨o', e'⟩ := o.lay (u := .tup vs) hp
  exact h L _ _ o' e' _ (.tup (.inl (.inl upd_same)) (r.mono e'))
theorem newL {F : Hp} {L : List Addr} {G H : Hp} {M : List MO} {σ : L2.St} {Q : VK} {vs : List V} {ds : List D} (o : Ok (kx X) F L G M H) (r : RpL (kx X) L G vs ds) (h : Aft X W F σ (kE X Q) L G (.ok (.lst ds) M)) (p : Addr) (hp : H p = none) : Q (.ref p) (upd H p (.lst vs)) := by
  obtain ⟨o', e'⟩ := o.lay (u := .lst vs) hp
  exact h L _ _ o' e' _ (.lst upd_same (r.mono e'))
theorem newC {F : Hp} {L : List Addr} {G H : Hp} {M : List MO} {σ : L2.St} {Q : VK} {vs : List V} {ds : List D} (o : Ok (kx X) F L G M H) (r : RpL (kx X) L G vs ds) (h : Aft X W F σ (kE X Q) L G (.ok (.cell M.length) (M ++ [.lst ds]))) (p : Addr) (hp : H p = none) : Q (.ref p) (upd H p (.lst vs)) := by
  obtain ⟨o', e', r'⟩ := o.cellNew hp r
  exact h _ _ _ o' e' _ r'
theorem pd_tup {es : List Expr} {x1 : Nat} {pos : Pos} {ea : EA} (ha : PAD X W es ea) : PD X W (.Tuple es x1 pos) (eArgs fTup ea) := by
  obtain ⟨ta, pa, qa⟩ := ha
  refine ⟨_, pe_tup pa, fun F e M σ L G H Q o re h => ?_⟩
  refine qa F e M σ L G H _ o re ((Aft.bind h).imp fun x M1 L1 G1 H1 o1 x1 h1 vs r1 => ?_)
  unfold fTup at h1
  split at h1
  · exact ⟨by rw [r1.length]; exact big_line (by assumption), newT o1 r1 h1⟩
  · exact h1.elim
theorem pd_lst {es : List Expr} {pos : Pos} {ea : EA} (ha : PAD X W es ea) : PD X W (.List es pos) (eArgs fLst ea) := by
  obtain ⟨ta, pa, qa⟩ := ha
  refine ⟨_, pe_lst pa, fun F e M σ L G H Q o re h => ?_⟩
  refine qa F e M σ L G H _ o re ((Aft.bind h).imp fun x M1 L1 G1 H1 o1 x1 h1 vs r1 => ?_)
  unfold fLst at h1
  split at h1
  · exact ⟨by rw [r1.length]; exact big_line (by assumption), newL o1 r1 h1⟩
  · exact h1.elim
theorem pd_lstC {es : List Expr} {pos : Pos} {ea : EA} (ha : PAD X W es ea) : PD X W (.List es pos) (eArgs fCell ea) := by
  obtain ⟨ta, pa, qa⟩ := ha
  refine ⟨_, pe_lst pa, fun F e M σ L G H Q o re h => ?_⟩
  refine qa F e M σ L G H _ o re ((Aft.bind h).imp fun x M1 L1 G1 H1 o1 x1 h1 vs r1 => ?_)
  unfold fCell at h1
  split at h1
  · exact ⟨by rw [r1.length]; exact big_line (by assumption), newC o1 r1 h1⟩
  · exact h1.elim
/-! calls of builtins by name -/
theorem pd_callB {x : Str} {id : String} {r : List V → Hp → VK → Prop} {f : List D → List MO → R D} {a : Expr} {es : List Expr} {p pos : Pos} {ea : EA} (hc : CallR X (.builtin id) r) (hr : CallD X W r f) (hg : Gl X x) (hm : X.mg x = none) (hv : bootBuiltins x = some (.builtin id)) (ha : PAD X W (a :: es) ea)
    (hn : x ≠ "__name__" := by decide) (hdb : (x == ("__debug__" : Str)) = false := by decide) (hs : starEach (a :: es) X.env = (false, eval a X.env) :: starEach es X.env := by rfl) (hplain : (backTo pos (starEach es X.env)).any (·.1) = false := by rfl) : PD X W (.Call (.Name x p) (a :: es) [] pos) (eArgs f ea) := by
  obtain ⟨ta, pa, qa⟩ := ha
  refine ⟨_, pe_callB hc hg hm hv pa hn hdb hs hplain, fun F e M σ L G H Q o re h => ?_⟩
  exact qa F e M σ L G H _ o re ((Aft.bind h).imp fun x M1 L1 G1 H1 o1 x1 h1 vs r1 => hr _ _ M1 F L1 G1 H1 σ Q o1 r1 h1)
end
end KB
namespace KB
open PySem PySem.Spec PyProof.Rows L2

/-! ### statements -/
def R.toS {α : Type} (r : R α) (e : EN) (k : α → List MO → RS) : RS := match r with
  | .ok a M => k a M
  | .exc c M => .exc c e M
  | .stuck => .stuck
@[simp] theorem R.toS_ok {α : Type} (a : α) (M : List MO) (e : EN) (k : α → List MO → RS) : (R.ok a M).toS e k = k a M := rfl
@[simp] theorem R.toS_exc {α : Type} (c : Str) (M : List MO) (e : EN) (k : α → List MO → RS) : (R.exc c M : R α).toS e k = .exc c e M := rfl
@[simp] theorem R.toS_stuck {α : Type} (e : EN) (k : α → List MO → RS) : (R.stuck : R α).toS e k = .stuck := rfl
def RS.bind (r : RS) (k : EN → List MO → RS) : RS := match r with
  | .nx e M => k e M
  | .ret d M => .ret d M
  | .brk e M => .brk e M
  | .cnt e M => .cnt e M
  | .exc c e M => .exc c e M
  | .stuck => .stuck
@[simp] theorem RS.bind_nx (e : EN) (M : List MO) (k : EN → List MO → RS) : (RS.nx e M).bind k = k e M := rfl
@[simp] theorem RS.bind_ret (d : D) (M : List MO) (k : EN → List MO → RS) : (RS.ret d M).bind k = .ret d M := rfl
@[simp] theorem RS.bind_brk (e : EN) (M : List MO) (k : EN → List MO → RS) : (RS.brk e M).bind k = .brk e M := rfl
@[simp] theorem RS.bind_cnt (e : EN) (M : List MO) (k : EN → List MO → RS) : (RS.cnt e M).bind k = .cnt e M := rfl
@[simp] theorem RS.bind_exc (c : Str) (e : EN) (M : List MO) (k : EN → List MO → RS) : (RS.exc c e M).bind k = .exc c e M := rfl
@[simp] theorem RS.bind_stuck (k : EN → List MO → RS) : (RS.stuck).bind k = .stuck := rfl
/-- behind a loop's body: go on, or leave -/
def RS.turn (r : RS) (k : EN → List MO → RS) : RS := match r with
  | .nx e M => k e M
  | .ret d M => .ret d M
  | .brk e M => .nx e M
  | .cnt e M => k e M
  | .exc c e M => .exc c e M
  | .stuck => .stuck
@[simp] theorem RS.turn_nx (e : EN) (M : List MO) (k : EN → List MO → RS) : (RS.nx e M).turn k = k e M := rfl
@[simp] theorem RS.turn_ret (d : D) (M : List MO) (k : EN → List MO → RS) : (RS.ret d M).turn k = .ret d M := rfl
@[simp] theorem RS.turn_brk (e : EN) (M : List MO) (k : EN → List MO → RS) : (RS.brk e M).turn k = .nx e M := rfl
@[simp] theorem RS.turn_cnt (e : EN) (M : List MO) (k : EN → List MO → RS) : (RS.cnt e M).turn k = k e M := rfl
@[simp] theorem RS.turn_exc (c : Str) (e : EN) (M : List MO) (k : EN → List MO → RS) : (RS.exc c e M).turn k = .exc c e M := rfl
@[simp] theorem RS.turn_stuck (k : EN → List MO → RS) : (RS.stuck).turn k = .stuck := rfl

def sNil : SV := fun e M => .nx e M
def sSeq (a b : SV) : SV := fun e M => (a e M).bind b
def sExpr (ev : EV) : SV := fun e M => (ev e M).toS e fun _ M1 => .nx e M1
def sRet (ev : EV) : SV := fun e M => (ev e M).toS e fun d M1 => .ret d M1
def sRetN : SV := fun _ M => .ret .non M
def sSet (i : Nat) (ev : EV) : SV := fun e M => (ev e M).toS e fun d M1 => .nx (e.set i (some d)) M1
def sIf (c : EB) (a b : SV) : SV := fun e M => (c e M).toS e fun k M1 => if k then a e M1 else b e M1
def sBrk : SV := fun e M => .brk e M
def sCnt : SV := fun e M => .cnt e M
def sNever : SV := fun _ _ => .stuck
abbrev GV := D → EN → Option EN
def gN (i : Nat) : GV := fun d e => some (e.set i (some d))
def setAll : List Nat → List D → EN → Option EN
  | [], [], e => some e
  | i :: is, d :: ds, e => setAll is ds (e.set i (some d))
  | _, _, _ => none
def gT (is : List Nat) : GV := fun d e => match d with
  | .tup ds => setAll is ds e
  | _ => none
def sAsg (g : GV) (ev : EV) : SV := fun e M => (ev e M).toS e fun d M1 => match g d e with
  | some e1 => .nx e1 M1
  | none => .stuck
def sPar (i j : Nat) (ea : EA) : SV := fun e M => (ea e M).toS e fun ds M1 => match ds with
  | [a, b] => .nx ((e.set i (some a)).set j (some b)) M1
  | _ => .stuck
def sPar3 (i j l : Nat) (ea : EA) : SV := fun e M => (ea e M).toS e fun ds M1 => match ds with
  | [a, b, c] => .nx (((e.set i (some a)).set j (some b)).set l (some c)) M1
  | _ => .stuck
def sAug (i : Nat) (f : D → D → List MO → R D) (ev : EV) : SV := fun e M => (eVar i e M).toS e fun x M1 => (ev e M1).toS e fun y M2 => (f x y M2).toS e fun z M3 => .nx (e.set i (some z)) M3
def fuel : Nat := 2000
def whileN (c : EB) (b : SV) : Nat → EN → List MO → RS
  | 0, _, _ => .stuck
  | n + 1, e, M => (c e M).toS e fun k M1 => if k then (b e M1).turn (whileN c b n) else .nx e M1
def sWhile (c : EB) (b : SV) : SV := fun e M => whileN c b fuel e M
def forL (g : GV) (b : SV) : List D → EN → List MO → RS
  | [], e, M => .nx e M
  | d :: ds, e, M => match g d e with
    | some e1 => (b e1 M).turn (forL g b ds)
    | none => .stuck

section
variable {X : Cx} {W : WX} {F : Hp} {L : List Addr} {G H : Hp} {σ : L2.St} {e : EN} {Dn : Ends}
theorem AftS.toS {α : Type} {r : R α} {k : α → List MO → RS} (h : AftS X W F L G Dn (r.toS e k)) (re : RpE (kx X) L G σ e) : Aft X W F σ (fun a M1 L1 G1 _ => AftS X W F L1 G1 Dn (k a M1)) L G r := by
  cases r with
  | ok a M => exact fun L1 G1 H1 o x => AftS.mono h x
  | exc c M => exact fun L1 G1 H1 u o x q => h σ L1 G1 H1 u o x (re.mono x) q
  | stuck => exact h.elim
theorem AftS.bind {r : RS} {k : EN → List MO → RS} {nx : L2.St → Hp → Prop} (h : AftS X W F L G Dn (r.bind k))
    (hn : ∀ e1 M1 σ1 L1 G1 H1, Ok (kx X) F L1 G1 M1 H1 → Ext L G L1 G1 → RpE (kx X) L1 G1 σ1 e1 → AftS X W F L1 G1 Dn (k e1 M1) → nx σ1 H1) : AftS X W F L G { Dn with nx := nx } r := by
  cases r with
  | nx e M => exact fun σ1 L1 G1 H1 o x re => hn e M σ1 L1 G1 H1 o x re (AftS.mono h x)
  | ret d M => exact h
  | brk e M => exact h
  | cnt e M => exact h
  | exc c e M => exact h
  | stuck => exact h.elim
theorem psd_nil : PSsD X W [] sNil := ⟨_, pss_nil, fun F e M σ L G H Dn o re h => h σ L G H o (Ext.refl _ _) re⟩
theorem psd_cons {st : Stmt} {rest : List Stmt} {a b : SV} (ha : PSD X W st a) (hb : PSsD X W rest b) : PSsD X W (st :: rest) (sSeq a b) := by
  obtain ⟨ta, pa, qa⟩ := ha
  obtain ⟨tb, pb, qb⟩ := hb
  refine ⟨_, pss_cons pa pb, fun F e M σ L G H Dn o re h => ?_⟩
  exact qa F e M σ L G H _ o re (AftS.bind h fun e1 M1 σ1 L1 G1 H1 o1 x1 re1 h1 => qb F e1 M1 σ1 L1 G1 H1 Dn o1 re1 h1)
theorem psd_one {st : Stmt} {a : SV} (ha : PSD X W st a) : PSsD X W [st] a := by
  obtain ⟨ta, pa, qa⟩ := ha
  exact ⟨_, pss_one pa, qa⟩
theorem psd_pass {pos : Pos} : PSD X W (.Pass pos) sNil := ⟨_, ps_pass, fun F e M σ L G H Dn o re h => h σ L G H o (Ext.refl _ _) re⟩
theorem psd_brk {pos : Pos} : PSD X W (.Break pos) sBrk := ⟨_, ps_break, fun F e M σ L G H Dn o re h => h σ L G H o (Ext.refl _ _) re⟩
theorem psd_cnt {pos : Pos} : PSD X W (.Continue pos) sCnt := ⟨_, ps_continue, fun F e M σ L G H Dn o re h => h σ L G H o (Ext.refl _ _) re⟩
theorem psd_never {st : Stmt} : PSD X W st sNever := ⟨_, ps_never, fun F e M σ L G H Dn o re h => h.elim⟩
theorem pssd_never {st : List Stmt} : PSsD X W st sNever := ⟨_, pss_never, fun F e M σ L G H Dn o re h => h.elim⟩
theorem psd_expr {ex : Expr} {pos : Pos} {ev : EV} (h : PD X W ex ev) (hs : swapsWith ex none pos.line X.env = pure false := by rfl) : PSD X W (.Expr ex pos) (sExpr ev) := by
  obtain ⟨t, p, q⟩ := h
  refine ⟨_, ps_expr p hs, fun F e M σ L G H Dn o re h => ?_⟩
  exact q F e M σ L G H _ o re ((AftS.toS h re).imp fun d M1 L1 G1 H1 o1 x1 h1 v r => h1 σ L1 G1 H1 o1 (Ext.refl _ _) (re.mono x1))
theorem psd_ret {ex : Expr} {pos : Pos} {ev : EV} (h : PD X W ex ev) : PSD X W (.Return (some ex) pos) (sRet ev) := by
  obtain ⟨t, p, q⟩ := h
  refine ⟨_, ps_ret p, fun F e M σ L G H Dn o re h => ?_⟩
  exact q F e M σ L G H _ o re ((AftS.toS h re).imp fun d M1 L1 G1 H1 o1 x1 h1 v r => h1 v L1 G1 H1 o1 (Ext.refl _ _) r)
theorem psd_retN {pos : Pos} : PSD X W (.Return none pos) sRetN := ⟨_, ps_retN, fun F e M σ L G H Dn o re h => h _ L G H o (Ext.refl _ _) .non⟩
theorem psd_set {i : Nat} {x : Str} {ex : Expr} {ev : EV} {pos pos' : Pos} (h : PD X W ex ev) (hN : X.N.Nodup) (hi : X.N[i]? = some x := by rfl) (hx : Loc X.env.scope x := by first | exact Or.inl rfl | exact Or.inr rfl) (hs : swapsWith ex (some (.Name x pos')) pos.line X.env = pure false := by rfl)
    (hf : X.fn x = true ∨ X.env.scope.names.lookup x = some .local := by first | exact .inl rfl | exact .inr rfl | assumption) : PSD X W (.Assign [.Name x pos'] ex pos) (sSet i ev) := by
  obtain ⟨t, p, q⟩ := h
  refine ⟨_, ps_set hN hi hx p hs hf, fun F e M σ L G H Dn o re h => ?_⟩
  exact q F e M σ L G H _ o re ((AftS.toS h re).imp fun d M1 L1 G1 H1 o1 x1 h1 v r => h1 _ L1 G1 H1 o1 (Ext.refl _ _) ((re.mono x1).set r))
theorem psd_if {c : Expr} {a b : List Stmt} {pos : Pos} {ec : EB} {sa sb : SV} (hc : PB X W c ec) (ha : PSsD X W a sa) (hb : PSsD X W b sb) : PSD X W (.If c a b pos) (sIf ec sa sb) := by
  obtain ⟨tc, pc, qc⟩ := hc
  obtain ⟨ta, pa, qa⟩ := ha
  obtain ⟨tb, pb, qb⟩ := hb
  refine ⟨_, ps_if pc pa pb, fun F e M σ L G H Dn o re h => ?_⟩
  refine qc F e M σ L G H _ o re ((AftS.toS h re).imp fun k M1 L1 G1 H1 o1 x1 h1 => ?_)
  dsimp only [kB]
  cases k with
  | true => rw [if_pos rfl]; exact qa F e M1 σ L1 G1 H1 Dn o1 (re.mono x1) h1
  | false => rw [if_neg Bool.false_ne_true]; exact qb F e M1 σ L1 G1 H1 Dn o1 (re.mono x1) h1
/-! targets -/
structure Upd (is : List Nat) (σ σ' : L2.St) : Prop where
  len : σ'.length = σ.length
  out : ∀ (i : Nat), i ∉ is → σ'[i]? = σ[i]?
theorem Upd.refl (σ : L2.St) : Upd [] σ σ := ⟨rfl, fun _ _ => rfl⟩
theorem Upd.one (i : Nat) (v : Option V) (σ : L2.St) : Upd [i] σ (σ.set i v) := ⟨by simp, fun j hj => by rw [List.getElem?_set_ne (fun z => hj (by simp [z]))]⟩
theorem Upd.trans {is js : List Nat} {σ σ1 σ2 : L2.St} (a : Upd is σ σ1) (b : Upd js σ1 σ2) : Upd (is ++ js) σ σ2 :=
  ⟨b.len.trans a.len, fun i hi => by rw [b.out i (fun z => hi (List.mem_append_right _ z)), a.out i (fun z => hi (List.mem_append_left _ z))]⟩
def PGD (X : Cx) (tg : Expr) (is : List Nat) (g : GV) : Prop := ∃ t, PG X tg t ∧ ∀ (F : Hp) (v : V) (d : D) (e e' : EN) (M : List MO) (σ : L2.St) (L : List Addr) (G H : Hp) (Q : L2.St → Hp → Prop),
  Ok (kx X) F L G M H → RpE (kx X) L G σ e → Rp (kx X) L G v d → g d e = some e' → (∀ σ', RpE (kx X) L G σ' e' → Upd is σ σ' → Q σ' H) → t v σ H Q
def PGsD (X : Cx) (tgs : List Expr) (is : List Nat) : Prop := ∃ t, PGs X tgs t ∧ ∀ (vs : List V) (ds : List D) (e e' : EN) (σ : L2.St) (L : List Addr) (G H : Hp) (Q : L2.St → Hp → Prop),
  RpE (kx X) L G σ e → RpL (kx X) L G vs ds → setAll is ds e = some e' → (∀ σ', RpE (kx X) L G σ' e' → Upd is σ σ' → Q σ' H) → t vs σ H Q
theorem pgd_name {x : Str} {pos : Pos} (i : Nat) (hN : X.N.Nodup) (hi : X.N[i]? = some x := by rfl) (hx : Loc X.env.scope x := by first | exact Or.inl rfl | exact Or.inr rfl)
    (hf : X.fn x = true ∨ X.env.scope.names.lookup x = some .local := by first | exact .inl rfl | exact .inr rfl | assumption) : PGD X (.Name x pos) [i] (gN i) := by
  refine ⟨_, pg_name hN hi hx hf, fun F v d e e' M σ L G H Q o re r hg q => ?_⟩
  unfold gN at hg
  cases hg
  exact q _ (re.set r) (Upd.one i _ σ)
theorem pgsd_nil : PGsD X [] [] := by
  refine ⟨_, pgs_nil, fun vs ds e e' σ L G H Q re r hg q => ?_⟩
  cases ds with
  | nil => cases r; cases hg; exact ⟨rfl, q _ re (Upd.refl σ)⟩
  | cons d ds => cases hg
theorem pgsd_cons {x : Str} {pos : Pos} {es : List Expr} {is : List Nat} (i : Nat) (hN : X.N.Nodup) (hr : PGsD X es is) (hi : X.N[i]? = some x := by rfl) (hx : Loc X.env.scope x := by first | exact Or.inl rfl | exact Or.inr rfl)
    (hf : X.fn x = true ∨ X.env.scope.names.lookup x = some .local := by first | exact .inl rfl | exact .inr rfl | assumption)
    (hs : (assignEach (.Name x pos :: es) X.env).map (·.2) = assign (.Name x pos) X.env :: (assignEach es X.env).map (·.2) := by rfl) : PGsD X (.Name x pos :: es) (i :: is) := by
  obtain ⟨t, p, q⟩ := hr
  refine ⟨_, pgs_cons (pg_name hN hi hx hf) p hs, fun vs ds e e' σ L G H Q re r hg k => ?_⟩
  cases ds with
  | nil => cases hg
  | cons d ds =>
    cases r with
    | cons r1 r2 => exact ⟨_, _, rfl, q _ _ _ _ _ L G H _ (re.set r1) r2 hg fun σ' re' u => k σ' re' ((Upd.one i _ σ).trans u)⟩
theorem pgd_tup {es : List Expr} {k : Nat} {pos : Pos} {is : List Nat} (hc : X.calm = true) (h : PGsD X es is) (hn : (assignEach es X.env).length = is.length := by rfl) (hst : (assignEach es X.env).findIdx? (·.1) = none := by rfl) : PGD X (.Tuple es k pos) is (gT is) := by
  obtain ⟨t, p, q⟩ := h
  refine ⟨_, pg_tup (n := is.length) hc p hn hst, fun F v d e e' M σ L G H Q o re r hg k => ?_⟩
  unfold gT at hg
  cases r with
  | @tup a vs ds h1 h2 =>
    have hl : ∀ (is : List Nat) (ds : List D) (e : EN), setAll is ds e = some e' → ds.length = is.length := by
      intro is
      induction is with
      | nil => intro ds e h; cases ds with
        | nil => rfl
        | cons _ _ => cases h
      | cons i is ih => intro ds e h; cases ds with
        | nil => cases h
        | cons d ds => simp [ih ds _ h]
    exact ⟨a, vs, rfl, Same.seqT o.sub h1, by rw [h2.length]; exact hl _ _ _ hg, q _ _ _ _ _ L G H _ re h2 hg k⟩
  | _ => cases hg
theorem psd_asg {tg ex : Expr} {pos : Pos} {is : List Nat} {g : GV} {ev : EV} (h : PD X W ex ev) (hg : PGD X tg is g) (hs : swapsWithSole [tg] ex pos.line X.env = pure false := by rfl) (hw : swappedStores [tg] ex X.env = pure none := by rfl)
    (h1 : (assignEach [tg] X.env).map (·.2) = [assign tg X.env] := by rfl) : PSD X W (.Assign [tg] ex pos) (sAsg g ev) := by
  obtain ⟨t, p, q⟩ := h
  obtain ⟨tg', pg, qg⟩ := hg
  refine ⟨_, ps_asg p pg hs hw h1, fun F e M σ L G H Dn o re h => ?_⟩
  refine q F e M σ L G H _ o re ((AftS.toS h re).imp fun d M1 L1 G1 H1 o1 x1 h2 v r => ?_)
  split at h2
  · rename_i e1 he
    exact qg F v d e e1 M1 σ L1 G1 H1 _ o1 (re.mono x1) r he fun σ' re' _ => h2 σ' L1 G1 H1 o1 (Ext.refl _ _) re'
  · exact h2.elim
theorem psd_par {i j : Nat} {x y : Str} {a b : Expr} {px py pt pos : Pos} {kt k2 : Nat} {pt2 : Pos} {ea : EA} (hc : X.calm = true) (hN : X.N.Nodup) (ha : PAD X W [a, b] ea) (hi : X.N[i]? = some x := by rfl) (hj : X.N[j]? = some y := by rfl) (hij : i ≠ j := by decide)
    (hx : X.env.scope.names.lookup x = some .local := by rfl) (hy : X.env.scope.names.lookup y = some .local := by rfl)
    (hw : swappedStores [.Tuple [.Name x px, .Name y py] kt pt] (.Tuple [a, b] k2 pt2) X.env = pure (some [x, y]) := by rfl)
    (hs : swapsWithSole [.Tuple [.Name x px, .Name y py] kt pt] (.Tuple [a, b] k2 pt2) pos.line X.env = pure false := by rfl) :
    PSD X W (.Assign [.Tuple [.Name x px, .Name y py] kt pt] (.Tuple [a, b] k2 pt2) pos) (sPar i j ea) := by
  obtain ⟨t, p, q⟩ := ha
  refine ⟨_, ps_par hc hN hi hj hij hx hy p hw hs, fun F e M σ L G H Dn o re h => ?_⟩
  refine q F e M σ L G H _ o re ((AftS.toS h re).imp fun ds M1 L1 G1 H1 o1 x1 h2 vs r => ?_)
  match ds, h2, r with
  | [a, b], h2, .cons r1 (.cons r2 .nil) => exact ⟨_, _, rfl, h2 _ L1 G1 H1 o1 (Ext.refl _ _) (((re.mono x1).set r1).set r2)⟩
theorem psd_par3 {i j l : Nat} {x y z : Str} {a b c : Expr} {px py pz pt pos : Pos} {kt k2 : Nat} {pt2 : Pos} {ea : EA} (hc : X.calm = true) (hN : X.N.Nodup) (ha : PAD X W [a, b, c] ea) (hi : X.N[i]? = some x := by rfl) (hj : X.N[j]? = some y := by rfl) (hl : X.N[l]? = some z := by rfl) (hij : i ≠ j := by decide) (hil : i ≠ l := by decide) (hjl : j ≠ l := by decide)
    (hx : X.env.scope.names.lookup x = some .local := by rfl) (hy : X.env.scope.names.lookup y = some .local := by rfl) (hz : X.env.scope.names.lookup z = some .local := by rfl)
    (hw : swappedStores [.Tuple [.Name x px, .Name y py, .Name z pz] kt pt] (.Tuple [a, b, c] k2 pt2) X.env = pure (some [x, y, z]) := by rfl)
    (hs : swapsWithSole [.Tuple [.Name x px, .Name y py, .Name z pz] kt pt] (.Tuple [a, b, c] k2 pt2) pos.line X.env = pure false := by rfl) :
    PSD X W (.Assign [.Tuple [.Name x px, .Name y py, .Name z pz] kt pt] (.Tuple [a, b, c] k2 pt2) pos) (sPar3 i j l ea) := by
  obtain ⟨t, p, q⟩ := ha
  refine ⟨_, ps_par3 hc hN hi hj hl hij hil hjl hx hy hz p hw hs, fun F e M σ L G H Dn o re h => ?_⟩
  refine q F e M σ L G H _ o re ((AftS.toS h re).imp fun ds M1 L1 G1 H1 o1 x1 h2 vs r => ?_)
  match ds, h2, r with
  | [a, b, c], h2, .cons r1 (.cons r2 (.cons r3 .nil)) => exact ⟨_, _, _, rfl, h2 _ L1 G1 H1 o1 (Ext.refl _ _) ((((re.mono x1).set r1).set r2).set r3)⟩
theorem psd_aug {i : Nat} {x : Str} {ex : Expr} {op : Operator} {pos pos' : Pos} {ev : EV} {r : R2} {f : D → D → List MO → R D} (ho : OpR X (inplaceOp op) r) (hr : OpD X W r f) (hN : X.N.Nodup) (h : PD X W ex ev) (hi : X.N[i]? = some x := by rfl) (hx : Loc X.env.scope x := by first | exact Or.inl rfl | exact Or.inr rfl)
    (hf : X.fn x = true ∨ X.env.scope.names.lookup x = some .local := by first | exact .inl rfl | exact .inr rfl | assumption) : PSD X W (.AugAssign (.Name x pos') op ex pos) (sAug i f ev) := by
  obtain ⟨t, p, q⟩ := h
  refine ⟨_, ps_aug hN hi hx p ho hf, fun F e M σ L G H Dn o re h => ?_⟩
  unfold sAug eVar at h
  split at h
  · rename_i d hd
    obtain ⟨v, h1, h2⟩ := re.at' i d hd
    rw [R.toS_ok] at h
    refine ⟨v, h1, q F e M σ L G H _ o re ((AftS.toS h re).imp fun y M1 L1 G1 H1 o1 x1 h3 v1 r1 => ?_)⟩
    exact hr v v1 d y M1 F L1 G1 H1 σ _ o1 (h2.mono x1) r1 ((AftS.toS h3 (re.mono x1)).imp fun z M2 L2 G2 H2 o2 x2 h4 v2 r2 => h4 _ L2 G2 H2 o2 (Ext.refl _ _) (((re.mono x1).mono x2).set r2))
  · exact h.elim
/-! loops -/
theorem AftS.turn {r : RS} {k : EN → List MO → RS} {nx : L2.St → Hp → Prop} (h : AftS X W F L G Dn (r.turn k))
    (hn : ∀ e1 M1 σ1 L1 G1 H1, Ok (kx X) F L1 G1 M1 H1 → Ext L G L1 G1 → RpE (kx X) L1 G1 σ1 e1 → AftS X W F L1 G1 Dn (k e1 M1) → nx σ1 H1) : AftS X W F L G { Dn with nx := nx, ct := nx, bk := Dn.nx } r := by
  cases r with
  | nx e M => exact fun σ1 L1 G1 H1 o x re => hn e M σ1 L1 G1 H1 o x re (AftS.mono h x)
  | ret d M => exact h
  | brk e M => exact h
  | cnt e M => exact fun σ1 L1 G1 H1 o x re => hn e M σ1 L1 G1 H1 o x re (AftS.mono h x)
  | exc c e M => exact h
  | stuck => exact h.elim
theorem psd_while {c : Expr} {body : List Stmt} {pos : Pos} {ec : EB} {sb : SV} (hp : PassesOwn (model X.prog X.w) X.A X.env X.xe) (hc : PB X W c ec) (hb : PSsD X W body sb) : PSD X W (.While c body [] pos) (sWhile ec sb) := by
  obtain ⟨tc, pc, qc⟩ := hc
  obtain ⟨tb, pb, qb⟩ := hb
  refine ⟨_, ps_while hp pc pb, fun F e M σ L G H Dn o re h => ?_⟩
  refine ⟨fun m σ1 H1 => ∃ e1 M1 L1 G1, Ok (kx X) F L1 G1 M1 H1 ∧ RpE (kx X) L1 G1 σ1 e1 ∧ AftS X W F L1 G1 Dn (whileN ec sb m e1 M1), ⟨fuel, e, M, L, G, o, re, h⟩, ?_⟩
  rintro m σ1 H1 ⟨e1, M1, L1, G1, o1, re1, h1⟩
  cases m with
  | zero => exact h1.elim
  | succ m =>
    unfold whileN at h1
    refine qc F e1 M1 σ1 L1 G1 H1 _ o1 re1 ((AftS.toS h1 re1).imp fun k M2 L2 G2 H2 o2 x2 h2 => ?_)
    dsimp only [kB]
    cases k with
    | true =>
      rw [if_pos rfl]
      refine ⟨_, fun σ' H' n => ⟨m, Nat.lt_succ_self m, n⟩, ?_⟩
      refine qb F e1 M2 σ1 L2 G2 H2 _ o2 (re1.mono x2) (AftS.turn h2 fun e3 M3 σ3 L3 G3 H3 o3 x3 re3 h3 => ?_)
      exact ⟨e3, M3, L3, G3, o3, re3, h3⟩
    | false => rw [if_neg Bool.false_ne_true]; exact h2 σ1 L2 G2 H2 o2 (Ext.refl _ _) (re1.mono x2)

/-- what is walked: the data that come, one a turn -/
def WkOk (X : Cx) (L : List Addr) (G : Hp) (J : It) (ds : List D) : Prop := ∃ (Gd : Hp → Prop) (Y : Nat → Hp → V → Hp → Prop), Walk J ds.length Gd Y ∧ (∀ F' L' G' M' H', Ok (kx X) F' L' G' M' H' → Ext L G L' G' → Gd H') ∧
  ∀ (i : Nat) (d : D) (x : V) (F' : Hp) (L' : List Addr) (G' : Hp) (M' : List MO) (H' H2 : Hp), ds[i]? = some d → Ok (kx X) F' L' G' M' H' → Ext L G L' G' → Y i H' x H2 → ∃ G2, Ok (kx X) F' L' G2 M' H2 ∧ Ext L' G' L' G2 ∧ Rp (kx X) L' G2 x d
inductive Src where
  | snap (ds : List D)
  | cel (n : Nat)
abbrev EI := EN → List MO → R Src
def SrcOk (X : Cx) (L : List Addr) (G : Hp) (J : It) : Src → Prop
  | .snap ds => WkOk X L G J ds
  | .cel n => ∃ a, L[n]? = some a ∧ J = Itl X.K a
def forC (g : GV) (b : SV) (n : Nat) : Nat → Nat → EN → List MO → RS
  | 0, _, _, _ => .stuck
  | m + 1, i, e, M => match M[n]? with
    | some (.lst ds) => match ds[i]? with
      | some d => match g d e with
        | some e1 => (b e1 M).turn (forC g b n m (i + 1))
        | none => .stuck
      | none => .nx e M
    | _ => .stuck
def sFor (src : EI) (g : GV) (b : SV) : SV := fun e M => (src e M).toS e fun s M1 => match s with
  | .snap ds => forL g b ds e M1
  | .cel n => forC g b n fuel 0 e M1
def HoI (X : Cx) (W : WX) (wi : TI) (ev : EI) : Prop := ∀ (F : Hp) (e : EN) (M : List MO) (σ : L2.St) (L : List Addr) (G H : Hp) (Rq : It → Hp → Prop), Ok (kx X) F L G M H → RpE (kx X) L G σ e →
  Aft X W F σ (fun s M1 L1 G1 H1 => ∀ J G2 H2, Ok (kx X) F L1 G2 M1 H2 → Ext L1 G1 L1 G2 → SrcOk X L1 G2 J s → Rq J H2) L G (ev e M) → wi σ H Rq
def PID (X : Cx) (W : WX) (tg iter : Expr) (ev : EI) : Prop := ∃ wi, PI X tg iter wi ∧ HoI X W wi ev
theorem psd_for {tg iter : Expr} {body : List Stmt} {pos : Pos} {src : EI} {is : List Nat} {g : GV} {sb : SV} (hp : PassesOwn (model X.prog X.w) X.A X.env X.xe) (hc : X.calm = true) (hi : PID X W tg iter src) (hg : PGD X tg is g) (hb : PSsD X W body sb) 
    (hs : ∀ x, foldedSetIterable iter X.env x = pure x := by intro _; rfl) : PSD X W (.For tg iter body [] pos) (sFor src g sb) := by
  obtain ⟨wi, pi, qi⟩ := hi
  obtain ⟨tg', pg, qg⟩ := hg
  obtain ⟨tb, pb, qb⟩ := hb
  refine ⟨_, ps_for hp hc pi pg pb hs, fun F e M σ L G H Dn o re h => ?_⟩
  refine qi F e M σ L G H _ o re ((AftS.toS h re).imp fun s M1 L1 G1 H1 o1 x1 h1 J G2 H2 o2 x2 wk => ?_)
  have re2 := (re.mono x1).mono x2
  have h2 := AftS.mono h1 x2
  cases s with
  | snap ds =>
    obtain ⟨Gd, Y, wk, hG, hY⟩ := wk
    refine for_it wk (fun i σ' H' => ∃ e' M' L' G', Ok (kx X) F L' G' M' H' ∧ Ext L1 G2 L' G' ∧ RpE (kx X) L' G' σ' e' ∧ AftS X W F L' G' Dn (forL g sb (ds.drop i) e' M')) ⟨e, M1, L1, G2, o2, Ext.refl _ _, re2, h2⟩ ?_ ?_ ?_
    · rintro i σ' H' _ ⟨e', M', L', G', o', x', _, _⟩
      exact hG F L' G' M' H' o' x'
    · rintro i x σ' H' H3 hlt ⟨e', M', L', G', o', x', re', h'⟩ y
      have hd : ds[i]? = some ds[i] := List.getElem?_eq_getElem hlt
      obtain ⟨G3, o3, x3, r3⟩ := hY i _ x F L' G' M' H' H3 hd o' x' y
      rw [List.drop_eq_getElem_cons hlt] at h'
      unfold forL at h'
      split at h'
      · rename_i e1 he
        refine qg F x _ e' e1 M' σ' L' G3 H3 _ o3 (re'.mono x3) r3 he fun σ4 re4 _ => ?_
        refine qb F e1 M' σ4 L' G3 H3 _ o3 re4 (AftS.turn (AftS.mono h' x3) fun e5 M5 σ5 L5 G5 H5 o5 x5 re5 h5 => ?_)
        exact ⟨e5, M5, L5, G5, o5, (x'.trans x3).trans x5, re5, h5⟩
      · exact h'.elim
    · rintro σ' H' ⟨e', M', L', G', o', x', re', h'⟩
      rw [List.drop_length] at h'
      exact h' σ' L' G' H' o' (Ext.refl _ _) re'
  | cel n =>
    obtain ⟨a, ha, rfl⟩ := wk
    refine ⟨fun i m σ' H' => ∃ e' M' L' G', Ok (kx X) F L' G' M' H' ∧ Ext L1 G2 L' G' ∧ RpE (kx X) L' G' σ' e' ∧ AftS X W F L' G' Dn (forC g sb n m i e' M'), ⟨fuel, e, M1, L1, G2, o2, Ext.refl _ _, re2, h2⟩, ?_⟩
    rintro i m σ' H' ⟨e', M', L', G', o', x', re', h'⟩
    cases m with
    | zero => exact h'.elim
    | succ m =>
      obtain ⟨u, hu, ku⟩ := o'.here (x'.at ha)
      unfold forC at h'
      rw [hu] at h'
      cases u with
      | obj c fs => exact h'.elim
      | lst ds =>
        obtain ⟨vs, hv, rv⟩ := ku
        dsimp only at h'
        cases hd : ds[i]? with
        | none =>
          rw [hd] at h'
          refine .inl ⟨⟨vs, .inl (.inl hv), ?_⟩, h' σ' L' G' H' o' (Ext.refl _ _) re'⟩
          rw [rv.length]; exact List.getElem?_eq_none_iff.mp hd
        | some d =>
          rw [hd] at h'
          dsimp only at h'
          obtain ⟨v, hv1, rv1⟩ := rv.get hd
          refine .inr ⟨⟨vs, v, .inl (.inl hv), hv1⟩, _, fun σ5 H5 n5 => ⟨m, Nat.lt_succ_self m, n5⟩, fun x H3 y => ?_⟩
          obtain ⟨rfl, y⟩ := y
          have ex : x = v := Option.some.inj ((y vs (.inl (.inl hv))).symm.trans hv1)
          subst ex
          split at h'
          · rename_i e1 he
            refine qg F x _ e' e1 M' σ' L' G' H3 _ o' re' rv1 he fun σ4 re4 _ => ?_
            refine qb F e1 M' σ4 L' G' H3 _ o' re4 (AftS.turn h' fun e5 M5 σ5 L5 G5 H5 o5 x5 re5 h5 => ?_)
            exact ⟨e5, M5, L5, G5, o5, x'.trans x5, re5, h5⟩
          · exact h'.elim
end
end KB
namespace KB
open PySem PySem.Spec PyProof.Rows L2

/-! ### sources -/
def eSeq (ev : EV) : EI := fun e M => (ev e M).bind fun d M1 => match d with
  | .lst ds => .ok (.snap ds) M1
  | .tup ds => .ok (.snap ds) M1
  | .cell n => match M1[n]? with
    | some (.lst _) => .ok (.cel n) M1
    | _ => .stuck
  | _ => .stuck
def rangeD (lo : Int) (n : Nat) : List D := (List.range n).map fun i => .int (lo + (i : Nat))
def rgOk (i : Int) : Bool := decide (-1000000000 ≤ i ∧ i ≤ 1000000000)
def eRange1 (ea : EA) : EI := fun e M => (ea e M).bind fun ds M1 => match ds with
  | [.int j] => if rgOk j then .ok (.snap (rangeD 0 j.toNat)) M1 else .stuck
  | _ => .stuck
def eRange2 (ea : EA) : EI := fun e M => (ea e M).bind fun ds M1 => match ds with
  | [.int i, .int j] => if rgOk i && rgOk j then .ok (.snap (rangeD i (j - i).toNat)) M1 else .stuck
  | _ => .stuck
theorem PI.or {X : Cx} {tg iter : Expr} {wi wi' : TI} (h : PI X tg iter wi) (h' : PI X tg iter wi') : PI X tg iter (fun σ H R => wi σ H R ∨ wi' σ H R) :=
  ⟨fun pins s σ H R I q => q.elim (h.run pins s σ H R I) (h'.run pins s σ H R I)⟩
section
variable {X : Cx} {W : WX}
theorem wk_lst {L : List Addr} {G : Hp} {a : Addr} {vs : List V} {ds : List D} (h : G a = some (.lst vs)) (r : RpL (kx X) L G vs ds) : WkOk X L G (Itl X.K a) ds := by
  refine ⟨_, _, r.length ▸ walk_list (K := X.K) (a := a) (xs := vs), fun F' L' G' M' H' o x => .inl (.inl (o.sub _ _ (x.g _ _ h))), ?_⟩
  rintro i d x F' L' G' M' H' H2 hd o e ⟨rfl, hv⟩
  obtain ⟨v, h1, h2⟩ := r.get hd
  rw [h1] at hv; cases hv
  exact ⟨G', o, Ext.refl _ _, h2.mono e⟩
theorem wk_tup {L : List Addr} {G : Hp} {a : Addr} {vs : List V} {ds : List D} (h : SqT X.K G a vs) (r : RpL (kx X) L G vs ds) : WkOk X L G (Itt X.K a) ds := by
  refine ⟨_, _, r.length ▸ walk_tup (K := X.K) (a := a) (xs := vs), fun F' L' G' M' H' o x => Same.seqT o.sub (Same.seqT x.g h), ?_⟩
  rintro i d x F' L' G' M' H' H2 hd o e ⟨rfl, hv⟩
  obtain ⟨v, h1, h2⟩ := r.get hd
  rw [h1] at hv; cases hv
  exact ⟨G', o, Ext.refl _ _, h2.mono e⟩
theorem rangeD_length (lo : Int) (n : Nat) : (rangeD lo n).length = n := by simp [rangeD]
theorem wk_range {L : List Addr} {G : Hp} (lo : Int) (n : Nat) : WkOk X L G (Itr lo n) (rangeD lo n) := by
  refine ⟨_, _, by rw [rangeD_length]; exact walk_range (lo := lo) (n := n), fun F' L' G' M' H' o x => trivial, ?_⟩
  rintro i d x F' L' G' M' H' H2 hd o e ⟨rfl, rfl⟩
  unfold rangeD at hd
  rw [List.getElem?_map] at hd
  have hi : i < n := by
    cases q : (List.range n)[i]? with
    | none => rw [q] at hd; cases hd
    | some z => have := (List.getElem?_eq_some_iff.mp q).1; simpa using this
  rw [List.getElem?_range hi] at hd
  cases hd
  exact ⟨G', o, Ext.refl _ _, .int _⟩
theorem pid_seq {tg l : Expr} {ev : EV} (h : PD X W l ev) : PID X W tg l (eSeq ev) := by
  obtain ⟨t, p, q⟩ := h
  refine ⟨_, PI.or (pi_list p) (pi_tup p), fun F e M σ L G H Rq o re h => ?_⟩
  unfold eSeq at h
  cases hr : ev e M with
  | stuck => rw [hr] at h; exact h.elim
  | exc c M1 =>
    rw [hr] at h
    refine .inl (q F e M σ L G H _ o re ?_)
    rw [hr]; exact h
  | ok d M1 =>
    rw [hr] at h
    cases d with
    | lst ds =>
      refine .inl (q F e M σ L G H _ o re ?_)
      rw [hr]
      intro L1 G1 H1 o1 x1 v r
      cases r with
      | lst hl rl => exact ⟨_, rfl, ⟨_, .inl (.inl (o1.sub _ _ hl))⟩, h L1 G1 H1 o1 x1 _ G1 H1 o1 (Ext.refl _ _) (wk_lst hl rl)⟩
    | tup ds =>
      refine .inr (q F e M σ L G H _ o re ?_)
      rw [hr]
      intro L1 G1 H1 o1 x1 v r
      cases r with
      | tup hl rl => exact ⟨_, rfl, ⟨_, Same.seqT o1.sub hl⟩, h L1 G1 H1 o1 x1 _ G1 H1 o1 (Ext.refl _ _) (wk_tup hl rl)⟩
    | cell n =>
      refine .inl (q F e M σ L G H _ o re ?_)
      rw [hr]
      intro L1 G1 H1 o1 x1 v r
      cases r with
      | @cell a n hl =>
        obtain ⟨u, hu, ku⟩ := o1.here hl
        simp only [R.bind_ok, hu] at h
        cases u with
        | lst ds =>
          have hk := h L1 G1 H1 o1 x1
          obtain ⟨vs, hv, rv⟩ := ku
          exact ⟨a, rfl, ⟨vs, .inl (.inl hv)⟩, hk _ G1 H1 o1 (Ext.refl _ _) ⟨a, hl, rfl⟩⟩
        | obj c fs => exact h.elim
    | _ => exact h.elim
theorem rgOk_b {i : Int} (h : rgOk i = true) : -(2 ^ 62) ≤ i ∧ i < 2 ^ 62 := by
  have := of_decide_eq_true h
  constructor <;> omega
theorem pid_range1 {tg a : Expr} {ea : EA} {p pos : Pos} (hm : X.mg "range" = none) (ha : PAD X W [a] ea) (hg : Gl X "range" := by rfl) (hs : starEach [a] X.env = [(false, eval a X.env)] := by rfl) : PID X W tg (.Call (.Name "range" p) [a] [] pos) (eRange1 ea) := by
  obtain ⟨t, pa, q⟩ := ha
  refine ⟨_, pi_range1 hg hm pa hs, fun F e M σ L G H Rq o re h => ?_⟩
  refine q F e M σ L G H _ o re ((Aft.bind h).imp fun ds M1 L1 G1 H1 o1 x1 h1 vs r => ?_)
  split at h1
  · rename_i j
    cases r with
    | cons r1 r2 =>
      cases r1; cases r2
      split at h1
      · rename_i hj
        exact ⟨j, rfl, (rgOk_b hj).1, (rgOk_b hj).2, h1 L1 G1 H1 o1 (Ext.refl _ _) _ G1 H1 o1 (Ext.refl _ _) (wk_range 0 _)⟩
      · exact h1.elim
  · exact h1.elim
theorem pid_range2 {tg a b : Expr} {ea : EA} {p pos : Pos} (hm : X.mg "range" = none) (ha : PAD X W [a, b] ea) (hg : Gl X "range" := by rfl) (hs : starEach [a, b] X.env = [(false, eval a X.env), (false, eval b X.env)] := by rfl) (hs2 : starEach [b] X.env = [(false, eval b X.env)] := by rfl) : PID X W tg (.Call (.Name "range" p) [a, b] [] pos) (eRange2 ea) := by
  obtain ⟨t, pa, q⟩ := ha
  refine ⟨_, pi_range2 hg hm pa hs hs2, fun F e M σ L G H Rq o re h => ?_⟩
  refine q F e M σ L G H _ o re ((Aft.bind h).imp fun ds M1 L1 G1 H1 o1 x1 h1 vs r => ?_)
  split at h1
  · rename_i i j
    cases r with
    | cons r1 r2 =>
      cases r2 with
      | cons r3 r4 =>
        cases r1; cases r3; cases r4
        split at h1
        · rename_i hj
          rw [Bool.and_eq_true] at hj
          exact ⟨i, j, rfl, ⟨(rgOk_b hj.1).1, (rgOk_b hj.1).2, (rgOk_b hj.2).1, (rgOk_b hj.2).2⟩, h1 L1 G1 H1 o1 (Ext.refl _ _) _ G1 H1 o1 (Ext.refl _ _) (wk_range i _)⟩
        · exact h1.elim
  · exact h1.elim

/-! ### canonical readings, for blocks -/
def teOf (X : Cx) (W : WX) (ev : EV) : TE := fun σ H Q => ∃ F e M L G, Ok (kx X) F L G M H ∧ RpE (kx X) L G σ e ∧ Aft X W F σ (kE X Q) L G (ev e M)
def tbOf (X : Cx) (W : WX) (ev : EB) : TT := fun σ H Q => ∃ F e M L G, Ok (kx X) F L G M H ∧ RpE (kx X) L G σ e ∧ Aft X W F σ (kB Q) L G (ev e M)
def tgOf (X : Cx) (is : List Nat) (g : GV) : TG := fun v σ H Q => ∃ F d e e' M L G, Ok (kx X) F L G M H ∧ RpE (kx X) L G σ e ∧ Rp (kx X) L G v d ∧ g d e = some e' ∧ ∀ σ', RpE (kx X) L G σ' e' → Upd is σ σ' → Q σ' H
theorem PD.pe {e : Expr} {ev : EV} (h : PD X W e ev) : PE X e (teOf X W ev) := by
  obtain ⟨t, p, q⟩ := h
  refine ⟨fun pins s σ H Q I z => ?_⟩
  obtain ⟨F, e, M, L, G, o, re, a⟩ := z
  exact p.run pins s σ H Q I (q F e M σ L G H Q o re a)
theorem PB.pt {e : Expr} {ev : EB} (h : PB X W e ev) : PT X e (tbOf X W ev) := by
  obtain ⟨t, p, q⟩ := h
  refine ⟨fun pins s σ H Q I z => ?_⟩
  obtain ⟨F, e, M, L, G, o, re, a⟩ := z
  exact p.run pins s σ H Q I (q F e M σ L G H Q o re a)
theorem PGD.pg {e : Expr} {is : List Nat} {g : GV} (h : PGD X e is g) : PG X e (tgOf X is g) := by
  obtain ⟨t, p, q⟩ := h
  refine ⟨fun pins s σ H v u Q I r z => ?_⟩
  obtain ⟨F, d, e, e', M, L, G, o, re, rp, hg, k⟩ := z
  exact p.run pins s σ H v u Q I r (q F v d e e' M σ L G H Q o re rp hg k)

/-! ### comprehensions -/
def wipeE (e : EN) : List Nat → EN
  | [] => e
  | v :: vs => (wipeE e vs).set v none
theorem RpE.wipe {C : Kx} {L : List Addr} {G : Hp} {σ : L2.St} {e : EN} (h : RpE C L G σ e) : ∀ vs : List Nat, RpE C L G (wipe σ vs) (wipeE e vs)
  | [] => h
  | v :: vs => by
    have ih := h.wipe vs
    refine ⟨by simp [L2.wipe, wipeE, ih.len], fun i d q => ?_⟩
    unfold wipeE at q
    unfold L2.wipe
    by_cases hi : v = i
    · subst hi
      by_cases hl : v < (wipeE e vs).length
      · rw [List.getElem?_set_self hl] at q; cases q
      · rw [List.getElem?_eq_none (by simp; omega)] at q; cases q
    · rw [List.getElem?_set_ne hi] at q ⊢
      exact ih.at' i d q
theorem wipe_in {σ : L2.St} {i : Nat} : ∀ {vs : List Nat}, i ∈ vs → (wipe σ vs)[i]? = if i < σ.length then some none else none
  | v :: vs, h => by
    unfold L2.wipe
    by_cases hi : v = i
    · subst hi
      split
      · rename_i hl
        rw [List.getElem?_set_self (by rw [wipe_length]; exact hl)]
      · rename_i hl
        rw [List.getElem?_eq_none (by simp [wipe_length]; omega)]
    · rw [List.getElem?_set_ne hi]
      exact wipe_in (by rcases List.mem_cons.mp h with z | z; exact absurd z.symm hi; exact z)
theorem wipe_upd {σ σ2 : L2.St} {is vs : List Nat} (u : Upd is (wipe σ vs) σ2) (h : ∀ i ∈ is, i ∈ vs) : wipe σ2 vs = wipe σ vs := by
  apply List.ext_getElem?
  intro i
  have hl : σ2.length = σ.length := u.len.trans (wipe_length σ vs)
  by_cases hi : i ∈ vs
  · rw [wipe_in hi, wipe_in hi, hl]
  · rw [wipe_out hi, wipe_out hi, u.out i (fun z => hi (h i z)), wipe_out hi]
def R.nox {α β : Type} (r : R α) (f : α → List MO → R β) : R β := match r with
  | .ok a M => f a M
  | _ => .stuck
@[simp] theorem R.nox_ok {α β : Type} (a : α) (M : List MO) (f : α → List MO → R β) : (R.ok a M).nox f = f a M := rfl
@[simp] theorem R.nox_exc {α β : Type} (c : Str) (M : List MO) (f : α → List MO → R β) : (R.exc c M : R α).nox f = .stuck := rfl
@[simp] theorem R.nox_stuck {α β : Type} (f : α → List MO → R β) : (R.stuck : R α).nox f = .stuck := rfl
def eYes : EB := fun _ M => .ok true M
def compL (g : GV) (t : EB) (el : EV) (e : EN) : List D → List D → List MO → R (List D)
  | [], acc, M => .ok acc M
  | d :: ds, acc, M => match g d e with
    | some e1 => (t e1 M).nox fun b M1 => if b then (el e1 M1).nox fun y M2 => if acc.length < big then compL g t el e ds (acc ++ [y]) M2 else .stuck else compL g t el e ds acc M1
    | none => .stuck
def compC (g : GV) (t : EB) (el : EV) (e : EN) (n : Nat) : Nat → Nat → List D → List MO → R (List D)
  | 0, _, _, _ => .stuck
  | m + 1, i, acc, M => match M[n]? with
    | some (.lst ds) => match ds[i]? with
      | some d => match g d e with
        | some e1 => (t e1 M).nox fun b M1 => if b then (el e1 M1).nox fun y M2 => if acc.length < big then compC g t el e n m (i + 1) (acc ++ [y]) M2 else .stuck else compC g t el e n m (i + 1) acc M1
        | none => .stuck
      | none => .ok acc M
    | _ => .stuck
def eLcA (src : EI) (g : GV) (vs : List Nat) (t : EB) (el : EV) : EA := fun e M => (src e M).bind fun s M1 => match s with
  | .snap ds => compL g t el (wipeE e vs) ds [] M1
  | .cel n => compC g t el (wipeE e vs) n fuel 0 [] M1
abbrev W0 : WX := fun _ _ _ _ => False
def fLst' (ds : List D) (M : List MO) : R D := .ok (.lst ds) M
def fCell' (ds : List D) (M : List MO) : R D := .ok (.cell M.length) (M ++ [.lst ds])
theorem Aft.nox {α β : Type} {F : Hp} {L : List Addr} {G : Hp} {σ σ' : L2.St} {r : R α} {f : α → List MO → R β} {kb : β → List MO → List Addr → Hp → Hp → Prop} (h : Aft X W F σ kb L G (r.nox f)) :
    Aft X W0 F σ' (fun a M1 L1 G1 _ => Aft X W F σ kb L1 G1 (f a M1)) L G r := by
  cases r with
  | ok d M => exact fun L2 G2 H2 o x => Aft.mono h x
  | exc c M => exact h.elim
  | stuck => exact h.elim
/-- what never changes may be widened by what a comprehension has made -/
theorem Ok.close {C : Kx} {F : Hp} {L : List Addr} {G H : Hp} {M : List MO} {p : Addr} {vs : List V} (o : Ok C (upd F p (.lst vs)) L G M H) (hF : F p = none) : Ok C F L (upd G p (.lst vs)) M H ∧ Ext L G L (upd G p (.lst vs)) ∧ H p = some (.lst vs) ∧ G p = none ∧ p ∉ L := by
  have hp := o.fs p _ upd_same
  obtain ⟨hg, hl⟩ := o.fo p _ upd_same
  have e : Ext L G L (upd G p (.lst vs)) := ⟨⟨[], by simp⟩, fun b x q => by rw [upd_ne (ne_of_none q hg)]; exact q⟩
  refine ⟨⟨fun b x q => ?_, fun b x q => ?_, fun b x q => ?_, o.len, o.nd, fun b hb => ?_, fun n b x h1 h2 => (o.cells n b x h1 h2).mono e rfl⟩, e, hp, hg, hl⟩
  · exact o.fs b x (by rw [upd_ne (ne_of_none q hF)]; exact q)
  · have nb := ne_of_none q hF
    have := o.fo b x (by rw [upd_ne nb]; exact q)
    exact ⟨by rw [upd_ne nb]; exact this.1, this.2⟩
  · by_cases hb : b = p
    · subst hb; rw [upd_same] at q; cases q; exact hp
    · rw [upd_ne hb] at q; exact o.sub b x q
  · rw [upd_ne (fun z : b = p => hl (z ▸ hb))]; exact o.out b hb
theorem Ok.openF {C : Kx} {F : Hp} {L : List Addr} {G H : Hp} {M : List MO} {p : Addr} {u : HO} (o : Ok C F L G M H) (h : H p = none) : Ok C (upd F p u) L G M (upd H p u) := by
  obtain ⟨g, nl⟩ := o.fresh h
  refine ⟨fun b x q => ?_, fun b x q => ?_, fun b x q => ?_, o.len, o.nd, o.out, fun n b x h1 h2 => ?_⟩
  · by_cases hb : b = p
    · subst hb; rw [upd_same] at q ⊢; exact q
    · rw [upd_ne hb] at q ⊢; exact o.fs b x q
  · by_cases hb : b = p
    · subst hb; exact ⟨g, nl⟩
    · rw [upd_ne hb] at q; exact o.fo b x q
  · rw [upd_ne (ne_of_none q g)]; exact o.sub b x q
  · have hb : b ∈ L := List.mem_of_getElem? h1
    exact (o.cells n b x h1 h2).mono (Ext.refl _ _) (upd_ne (fun z : b = p => nl (z ▸ hb)))
theorem Ok.turnF {C : Kx} {F : Hp} {L : List Addr} {G H : Hp} {M : List MO} {p : Addr} {u u' : HO} (o : Ok C (upd F p u) L G M H) : Ok C (upd F p u') L G M (upd H p u') := by
  obtain ⟨hg, hl⟩ := o.fo p _ upd_same
  refine ⟨fun b x q => ?_, fun b x q => ?_, fun b x q => ?_, o.len, o.nd, o.out, fun n b x h1 h2 => ?_⟩
  · by_cases hb : b = p
    · subst hb; rw [upd_same] at q ⊢; exact q
    · rw [upd_ne hb] at q ⊢; exact o.fs b x (by rw [upd_ne hb]; exact q)
  · by_cases hb : b = p
    · subst hb; exact ⟨hg, hl⟩
    · rw [upd_ne hb] at q; exact o.fo b x (by rw [upd_ne hb]; exact q)
  · rw [upd_ne (ne_of_none q hg)]; exact o.sub b x q
  · have hb : b ∈ L := List.mem_of_getElem? h1
    exact (o.cells n b x h1 h2).mono (Ext.refl _ _) (upd_ne (fun z : b = p => hl (z ▸ hb)))

theorem Ok.dropF {C : Kx} {F : Hp} {L : List Addr} {G H : Hp} {M : List MO} {p : Addr} {u : HO} (hF : F p = none) (o : Ok C (upd F p u) L G M H) : Ok C F L G M H :=
  ⟨fun b x q => o.fs b x (by rw [upd_ne (ne_of_none q hF)]; exact q), fun b x q => o.fo b x (by rw [upd_ne (ne_of_none q hF)]; exact q), o.sub, o.len, o.nd, o.out, o.cells⟩
theorem Aft.reF {α : Type} {F F1 : Hp} {L : List Addr} {G : Hp} {σ : L2.St} {r : R α} {k : α → List MO → List Addr → Hp → Hp → Prop} (h : Aft X W F σ k L G r) (w : ∀ L G M H, Ok (kx X) F1 L G M H → Ok (kx X) F L G M H) : Aft X W F1 σ k L G r := by
  cases r with
  | ok d M => exact fun L2 G2 H2 o x => h L2 G2 H2 (w _ _ _ _ o) x
  | exc c M => exact fun L2 G2 H2 u o x q => h L2 G2 H2 u (w _ _ _ _ o) x q
  | stuck => exact h.elim
/-- what a comprehension is to give: its items at a new address -/
def kL (X : Cx) (F : Hp) (Q : VK) : List D → List MO → List Addr → Hp → Hp → Prop := fun ds M1 L1 G1 _ => ∀ p us H2, F p = none → Ok (kx X) (upd F p (.lst us)) L1 G1 M1 H2 → RpL (kx X) L1 G1 us ds → Q (.ref p) H2
theorem hoLc {wi : TI} {src : EI} {is vs : List Nat} {g : GV} {et : EB} {el : EV} (hi : HoI X W wi src) (hv : ∀ i ∈ is, i ∈ vs) :
    ∀ (F : Hp) (e : EN) (M : List MO) (σ : L2.St) (L : List Addr) (G H : Hp) (Q : VK), Ok (kx X) F L G M H → RpE (kx X) L G σ e →
    Aft X W F σ (kL X F Q) L G (eLcA src g vs et el e M) →
    tLc wi (tgOf X is g) (tbOf X W0 et) (teOf X W0 el) vs σ H Q := by
  intro F e M σ L G H Q o re h
  refine hi F e M σ L G H _ o re ((Aft.bind h).imp fun s M1 L1 G1 H1 o1 x1 h1 J G2 H2 o2 x2 wk => ?_)
  intro Da hD
  have re2 := (re.mono x1).mono x2
  have h2 := Aft.mono h1 x2
  have hFD : F Da = none := o2.freshF hD
  have o3 := o2.openF (u := .lst []) hD
  have rw2 : RpE (kx X) L1 G2 (wipe σ vs) (wipeE e vs) := re2.wipe vs
  cases s with
  | snap ds =>
    obtain ⟨Gd, Y, wk, hG, hY⟩ := wk
    refine lc_it wk (fun i H' => ∃ acc us M' L' G', Ok (kx X) (upd F Da (.lst us)) L' G' M' H' ∧ Ext L1 G2 L' G' ∧ RpL (kx X) L' G' us acc ∧
        Aft X W F σ (kL X F Q) L' G' (compL g et el (wipeE e vs) (ds.drop i) acc M'))
      ⟨[], [], M1, L1, G2, o3, Ext.refl _ _, .nil, h2⟩ ?_ ?_ ?_
    · rintro i H' _ ⟨acc, us, M', L', G', o', x', _, _⟩
      exact hG _ L' G' M' H' o' x'
    · rintro i x H' H3 hlt ⟨acc, us, M', L', G', o', x', ra, h'⟩ y
      have hd : ds[i]? = some ds[i] := List.getElem?_eq_getElem hlt
      obtain ⟨G3, o4, x3, r3⟩ := hY i _ x _ L' G' M' H' H3 hd o' x' y
      rw [List.drop_eq_getElem_cons hlt] at h'
      unfold compL at h'
      split at h'
      · rename_i e1 he
        refine ⟨_, _, _, e1, M', L', G3, o4, (rw2.mono x').mono x3, r3, he, fun σ4 re4 u4 => ⟨wipe_upd u4 hv, ?_⟩⟩
        refine ⟨_, e1, M', L', G3, o4, re4, ?_⟩
        refine ((Aft.nox (σ' := σ4) (Aft.mono h' x3)).reF fun _ _ _ _ => Ok.dropF hFD).imp fun b M5 L5 G5 H5 o5 x5 h6 => ?_
        dsimp only [kB]
        cases b with
        | true =>
          rw [if_pos rfl]
          refine ⟨_, e1, M5, L5, G5, o5, re4.mono x5, ?_⟩
          refine ((Aft.nox (σ' := σ4) h6).reF fun _ _ _ _ => Ok.dropF hFD).imp fun y M6 L6 G6 H6 o6 x6 h7 v r => ?_
          split at h7
          · rename_i hb
            exact ⟨us, o6.fs Da _ upd_same, by rw [ra.length]; exact big_lt (Nat.le_of_lt hb), acc ++ [y], us ++ [v], M6, L6, G6, o6.turnF, ((x'.trans x3).trans x5).trans x6, (((ra.mono x3).mono x5).mono x6).append (.cons r .nil), h7⟩
          · exact h7.elim
        | false =>
          rw [if_neg Bool.false_ne_true]
          exact ⟨acc, us, M5, L5, G5, o5, (x'.trans x3).trans x5, (ra.mono x3).mono x5, h6⟩
      · exact h'.elim
    · rintro H' ⟨acc, us, M', L', G', o', x', ra, h'⟩
      rw [List.drop_length] at h'
      exact h' L' G' H' (o'.dropF hFD) (Ext.refl _ _) Da us H' hFD o' ra
  | cel n =>
    obtain ⟨a, ha, rfl⟩ := wk
    refine ⟨fun i m H' => ∃ acc us M' L' G', Ok (kx X) (upd F Da (.lst us)) L' G' M' H' ∧ Ext L1 G2 L' G' ∧ RpL (kx X) L' G' us acc ∧
        Aft X W F σ (kL X F Q) L' G' (compC g et el (wipeE e vs) n m i acc M'), ⟨fuel, [], [], M1, L1, G2, o3, Ext.refl _ _, .nil, h2⟩, ?_⟩
    rintro i m H' ⟨acc, us, M', L', G', o', x', ra, h'⟩
    cases m with
    | zero => exact h'.elim
    | succ m =>
      obtain ⟨u, hu, ku⟩ := o'.here (x'.at ha)
      unfold compC at h'
      rw [hu] at h'
      cases u with
      | obj c fs => exact h'.elim
      | lst ds =>
        obtain ⟨ws, hv', rv⟩ := ku
        dsimp only at h'
        cases hd : ds[i]? with
        | none =>
          rw [hd] at h'
          refine .inl ⟨⟨ws, .inl (.inl hv'), ?_⟩, h' L' G' H' (o'.dropF hFD) (Ext.refl _ _) Da us H' hFD o' ra⟩
          rw [rv.length]; exact List.getElem?_eq_none_iff.mp hd
        | some d =>
          rw [hd] at h'
          dsimp only at h'
          obtain ⟨v, hv1, rv1⟩ := rv.get hd
          refine .inr ⟨⟨ws, v, .inl (.inl hv'), hv1⟩, _, fun H5 n5 => ⟨m, Nat.lt_succ_self m, n5⟩, fun x H3 y => ?_⟩
          obtain ⟨rfl, y⟩ := y
          have ex : x = v := Option.some.inj ((y ws (.inl (.inl hv'))).symm.trans hv1)
          subst ex
          split at h'
          · rename_i e1 he
            refine ⟨_, _, _, e1, M', L', G', o', rw2.mono x', rv1, he, fun σ4 re4 u4 => ⟨wipe_upd u4 hv, ?_⟩⟩
            refine ⟨_, e1, M', L', G', o', re4, ?_⟩
            refine ((Aft.nox (σ' := σ4) h').reF fun _ _ _ _ => Ok.dropF hFD).imp fun b M5 L5 G5 H5 o5 x5 h6 => ?_
            dsimp only [kB]
            cases b with
            | true =>
              rw [if_pos rfl]
              refine ⟨_, e1, M5, L5, G5, o5, re4.mono x5, ?_⟩
              refine ((Aft.nox (σ' := σ4) h6).reF fun _ _ _ _ => Ok.dropF hFD).imp fun y M6 L6 G6 H6 o6 x6 h7 v r => ?_
              split at h7
              · rename_i hb
                exact ⟨us, o6.fs Da _ upd_same, by rw [ra.length]; exact big_lt (Nat.le_of_lt hb), acc ++ [y], us ++ [v], M6, L6, G6, o6.turnF, (x'.trans x5).trans x6, ((ra.mono x5).mono x6).append (.cons r .nil), h7⟩
              · exact h7.elim
            | false =>
              rw [if_neg Bool.false_ne_true]
              exact ⟨acc, us, M5, L5, G5, o5, x'.trans x5, ra.mono x5, h6⟩
          · exact h'.elim
theorem kL_lst {F : Hp} {L : List Addr} {G : Hp} {σ : L2.St} {Q : VK} {r : R (List D)} (h : Aft X W F σ (kE X Q) L G (r.bind fLst')) : Aft X W F σ (kL X F Q) L G r := by
  refine (Aft.bind h).imp fun ds M1 L1 G1 H1 o1 x1 h1 p us H2 hF o2 ra => ?_
  obtain ⟨o3, x3, _⟩ := o2.close hF
  exact h1 L1 _ H2 o3 x3 _ (.lst upd_same (ra.mono x3))
theorem kL_cell {F : Hp} {L : List Addr} {G : Hp} {σ : L2.St} {Q : VK} {r : R (List D)} (h : Aft X W F σ (kE X Q) L G (r.bind fCell')) : Aft X W F σ (kL X F Q) L G r := by
  refine (Aft.bind h).imp fun ds M1 L1 G1 H1 o1 x1 h1 p us H2 hF o2 ra => ?_
  have hp := o2.fs p _ upd_same
  obtain ⟨hg, hl⟩ := o2.fo p _ upd_same
  have e : Ext L1 G1 (L1 ++ [p]) G1 := ⟨⟨[p], rfl⟩, Same.refl G1⟩
  have o := o2.dropF hF
  refine h1 (L1 ++ [p]) G1 H2 ⟨o.fs, fun b x q => ⟨(o.fo b x q).1, fun z => ?_⟩, o.sub, by simp [o.len], ?_, fun b hb => ?_, fun n b x h1 h2 => ?_⟩ e _ (.cell (by rw [← o.len]; simp))
  · rcases List.mem_append.mp z with z | z
    · exact (o.fo b x q).2 z
    · simp at z; subst z; rw [hF] at q; cases q
  · exact List.nodup_append.mpr ⟨o.nd, by simp, fun b hb c hc => by simp at hc; subst hc; exact fun z => hl (z ▸ hb)⟩
  · rcases List.mem_append.mp hb with hb | hb
    · exact o.out b hb
    · simp at hb; subst hb; exact hg
  · by_cases hn : n < L1.length
    · rw [List.getElem?_append_left hn] at h1
      rw [List.getElem?_append_left (by rw [← o.len]; exact hn)] at h2
      exact (o.cells n b x h1 h2).mono e rfl
    · have hn1 : n = L1.length := by
        have := (List.getElem?_eq_some_iff.mp h1).1
        simp at this; omega
      subst hn1
      rw [List.getElem?_append_right (Nat.le_refl _)] at h1
      rw [List.getElem?_append_right (by rw [o.len]; exact Nat.le_refl _)] at h2
      simp at h1
      simp [o.len] at h2
      subst h1 h2
      exact ⟨us, hp, ra.mono e⟩
/-- the block's parts, in the block's context -/
structure Blk (X : Cx) (W : WX) (N : List Str) (scope : Scope) (tg : Expr) (ifs : List Expr) (elt : Expr) (is : List Nat) (g : GV) (et : EB) (el : EV) : Prop where
  g : ∀ (s : Shared) (H : Hp) (C : Addr) (cl : List (Str × Addr)) (fp : List Addr), PGD (X.blk s H scope (compEnvC scope cl C X.env) fp) tg is g
  t : ∀ (s : Shared) (H : Hp) (C : Addr) (cl : List (Str × Addr)) (fp : List Addr), PTs (X.blk s H scope (compEnvC scope cl C X.env) fp) ifs (tbOf X W0 et)
  e : ∀ (s : Shared) (H : Hp) (C : Addr) (cl : List (Str × Addr)) (fp : List Addr), PD (X.blk s H scope (compEnvC scope cl C X.env) fp) W0 elt el
theorem ptsd_nil : PTs X [] (tbOf X W0 eYes) := by
  refine ⟨fun pins s σ H Q I h => pts_nil.run pins s σ H Q I ?_⟩
  obtain ⟨F, e, M, L, G, o, re, a⟩ := h
  exact aok a o
theorem ptsd_one {c : Expr} {ev : EB} (h : PB X W0 c ev) : PTs X [c] (tbOf X W0 ev) := pts_one h.pt
/-- [elt for tg in iter if ..] -/
theorem pd_lc {elt tg iter : Expr} {ifs : List Expr} {scope : Scope} {own : List (Str × Nat)} {pos : Pos} {src : EI} {is : List Nat} {g : GV} {et : EB} {el : EV} (own : List (Str × Nat)) (hc : X.calm = true) (hN : X.N.Nodup) (hi : PID X W tg iter src)
    (ok : BlkOk X.N X.env.scope scope own) (hv : ∀ i ∈ is, i ∈ own.map (·.2))
    (hg : ∀ (s : Shared) (H : Hp) (C : Addr) (cl : List (Str × Addr)) (fp : List Addr), PGD (X.blk s H scope (compEnvC scope cl C X.env) fp) tg is g)
    (ht : ∀ (s : Shared) (H : Hp) (C : Addr) (cl : List (Str × Addr)) (fp : List Addr), PTs (X.blk s H scope (compEnvC scope cl C X.env) fp) ifs (tbOf X W0 et))
    (he : ∀ (s : Shared) (H : Hp) (C : Addr) (cl : List (Str × Addr)) (fp : List Addr), PD (X.blk s H scope (compEnvC scope cl C X.env) fp) W0 elt el) (hs : ∀ x, foldedSetIterable iter X.env x = pure x := by intro _; rfl) :
    PD X W (.ListComp elt [⟨tg, iter, ifs, 0⟩] scope pos) (eArgs fLst' (eLcA src g (own.map (·.2)) et el)) := by
  obtain ⟨wi, pi, qi⟩ := hi
  refine ⟨_, pe_lc (g := tgOf X is g) (tt := tbOf X W0 et) (te := teOf X W0 el) hc hN pi ok (fun s H C cl fp => (hg s H C cl fp).pg) ht (fun s H C cl fp => (he s H C cl fp).pe) hs, fun F e M σ L G H Q o re h => ?_⟩
  exact hoLc qi hv F e M σ L G H Q o re (kL_lst h)
theorem pd_lcC {elt tg iter : Expr} {ifs : List Expr} {scope : Scope} {own : List (Str × Nat)} {pos : Pos} {src : EI} {is : List Nat} {g : GV} {et : EB} {el : EV} (own : List (Str × Nat)) (hc : X.calm = true) (hN : X.N.Nodup) (hi : PID X W tg iter src)
    (ok : BlkOk X.N X.env.scope scope own) (hv : ∀ i ∈ is, i ∈ own.map (·.2))
    (hg : ∀ (s : Shared) (H : Hp) (C : Addr) (cl : List (Str × Addr)) (fp : List Addr), PGD (X.blk s H scope (compEnvC scope cl C X.env) fp) tg is g)
    (ht : ∀ (s : Shared) (H : Hp) (C : Addr) (cl : List (Str × Addr)) (fp : List Addr), PTs (X.blk s H scope (compEnvC scope cl C X.env) fp) ifs (tbOf X W0 et))
    (he : ∀ (s : Shared) (H : Hp) (C : Addr) (cl : List (Str × Addr)) (fp : List Addr), PD (X.blk s H scope (compEnvC scope cl C X.env) fp) W0 elt el) (hs : ∀ x, foldedSetIterable iter X.env x = pure x := by intro _; rfl) :
    PD X W (.ListComp elt [⟨tg, iter, ifs, 0⟩] scope pos) (eArgs fCell' (eLcA src g (own.map (·.2)) et el)) := by
  obtain ⟨wi, pi, qi⟩ := hi
  refine ⟨_, pe_lc (g := tgOf X is g) (tt := tbOf X W0 et) (te := teOf X W0 el) hc hN pi ok (fun s H C cl fp => (hg s H C cl fp).pg) ht (fun s H C cl fp => (he s H C cl fp).pe) hs, fun F e M σ L G H Q o re h => ?_⟩
  exact hoLc qi hv F e M σ L G H Q o re (kL_cell h)
/-- y = [elt for tg in iter if ..] -/
theorem psd_setLc {i : Nat} {y : Str} {py spos : Pos} {elt tg iter : Expr} {ifs : List Expr} {scope : Scope} {pos : Pos} {src : EI} {is : List Nat} {g : GV} {et : EB} {el : EV} (own : List (Str × Nat)) (fin : List D → List MO → R D) (hfin : fin = fLst' ∨ fin = fCell') (hc : X.calm = true) (hN : X.N.Nodup) (hi : PID X W tg iter src)
    (ok : BlkOk X.N X.env.scope scope own) (hv : ∀ i ∈ is, i ∈ own.map (·.2))
    (hsw : swapsWith (.ListComp elt [⟨tg, iter, ifs, 0⟩] scope pos) (some (.Name y py)) spos.line X.env = pure true)
    (hg : ∀ (s : Shared) (H : Hp) (C : Addr) (cl : List (Str × Addr)) (fp : List Addr), PGD (X.blk s H scope (compEnvC scope cl C X.env) fp) tg is g)
    (ht : ∀ (s : Shared) (H : Hp) (C : Addr) (cl : List (Str × Addr)) (fp : List Addr), PTs (X.blk s H scope (compEnvC scope cl C X.env) fp) ifs (tbOf X W0 et))
    (he : ∀ (s : Shared) (H : Hp) (C : Addr) (cl : List (Str × Addr)) (fp : List Addr), PD (X.blk s H scope (compEnvC scope cl C X.env) fp) W0 elt el) (hy : X.N[i]? = some y := by rfl) (hyl : X.env.scope.names.lookup y = some .local := by rfl) (hs : ∀ x, foldedSetIterable iter X.env x = pure x := by intro _; rfl) :
    PSD X W (.Assign [.Name y py] (.ListComp elt [⟨tg, iter, ifs, 0⟩] scope pos) spos) (sSet i (eArgs fin (eLcA src g (own.map (·.2)) et el))) := by
  obtain ⟨wi, pi, qi⟩ := hi
  refine ⟨_, ps_setLc (g := tgOf X is g) (tt := tbOf X W0 et) (te := teOf X W0 el) hc hN hy hyl hsw pi ok (fun s H C cl fp => (hg s H C cl fp).pg) ht (fun s H C cl fp => (he s H C cl fp).pe) hs, fun F e M σ L G H Dn o re h => ?_⟩
  have h2 : Aft X W F σ (kE X fun v H' => Dn.nx (σ.set i (some v)) H') L G (eArgs fin (eLcA src g (own.map (·.2)) et el) e M) :=
    (AftS.toS h re).imp fun d M1 L1 G1 H1 o1 x1 h1 v r => h1 _ L1 G1 H1 o1 (Ext.refl _ _) ((re.mono x1).set r)
  rcases hfin with rfl | rfl
  · exact hoLc qi hv F e M σ L G H _ o re (kL_lst h2)
  · exact hoLc qi hv F e M σ L G H _ o re (kL_cell h2)

/-! ### defs -/
def startE (n : Nat) (ds : List D) : EN := ds.map some ++ List.replicate (n - ds.length) none
def RS.toR : RS → R D
  | .nx _ M' => .ok .non M'
  | .ret d M' => .ok d M'
  | .exc c _ M' => .exc c M'
  | _ => .stuck
@[simp] theorem RS.toR_nx (e : EN) (M : List MO) : (RS.nx e M).toR = .ok .non M := rfl
@[simp] theorem RS.toR_ret (d : D) (M : List MO) : (RS.ret d M).toR = .ok d M := rfl
@[simp] theorem RS.toR_exc (c : Str) (e : EN) (M : List MO) : (RS.exc c e M).toR = .exc c M := rfl
@[simp] theorem RS.toR_stuck : (RS.stuck).toR = .stuck := rfl
/-- a def of np parameters and n slots -/
def mOf (np n : Nat) (sv : SV) : List D → List MO → R D := fun ds M => if ds.length = np then (sv (startE n ds) M).toR else .stuck
def spOf (C : Kx) (m : List D → List MO → R D) : Sp := fun vs H Q E => ∃ F L G M ds, Ok C F L G M H ∧ RpL C L G vs ds ∧ (match m ds M with
  | .ok d M' => ∀ v L' G' H', Ok C F L' G' M' H' → Ext L G L' G' → Rp C L' G' v d → Q v H'
  | .exc c M' => ∀ L' G' H' u, Ok C F L' G' M' H' → Ext L G L' G' → C.mg c = some u → E u none H'
  | .stuck => False)
structure Has (P : Program) (w : World) (C : Kx) (base : Heap) (x : Str) (k : Nat) (m : List D → List MO → R D) : Prop where
  ex : ∃ (f : Addr) (fd : FuncData) (ps : List Str), FnOk P w C.K C.mg base (L2.CX P w) k f fd ps (spOf C m) ∧ C.mg x = some (.ref f) ∧ PySem.W.keepIn C.K (.ref f) = true ∧ Binds C.K fd ps []
theorem Has.mono {P : Program} {w : World} {C : Kx} {base : Heap} {x : Str} {k k' : Nat} {m : List D → List MO → R D} (h : Has P w C base x k m) (e : k ≤ k') : Has P w C base x k' m := by
  obtain ⟨f, fd, ps, F, r⟩ := h.ex
  exact ⟨f, fd, ps, F.mono e, r⟩
/-- a plainer function that agrees where it is not stuck -/
theorem Has.imp {P : Program} {w : World} {C : Kx} {base : Heap} {x : Str} {k : Nat} {m m' : List D → List MO → R D} (h : Has P w C base x k m) (e : ∀ ds M, m' ds M = .stuck ∨ m ds M = m' ds M) : Has P w C base x k m' := by
  obtain ⟨f, fd, ps, F, r⟩ := h.ex
  refine ⟨f, fd, ps, F.imp ?_, r⟩
  rintro vs H Q E ⟨F, L, G, M, ds, o, r, h⟩
  rcases e ds M with z | z
  · rw [z] at h; exact h.elim
  · exact ⟨F, L, G, M, ds, o, r, by rw [z]; exact h⟩
theorem hoCall {m : List D → List MO → R D} {t : TA} {ea : EA} (q : HoA X W t ea) : HoE X W (tCallS (spOf (kx X) m) (WE W) t) (eArgs m ea) := by
  intro F e M σ L G H Q o re h
  refine q F e M σ L G H _ o re ((Aft.bind h).imp fun ds M1 L1 G1 H1 o1 x1 h1 vs r => ⟨F, L1, G1, M1, ds, o1, r, ?_⟩)
  cases hm : m ds M1 with
  | ok d M' => rw [hm] at h1; exact fun v L' G' H' o' x' r' => h1 L' G' H' o' x' v r'
  | exc c M' => rw [hm] at h1; exact fun L' G' H' u o' x' q' => h1 L' G' H' u o' x' q'
  | stuck => rw [hm] at h1; exact h1.elim
theorem pd_call {x : Str} {k k' : Nat} {m : List D → List MO → R D} {a : Expr} {es : List Expr} {ea : EA} {p pos : Pos} (h : Has X.prog X.w (kx X) X.base x k m) (hr : Room k' X.A) (tk : Takes X W) (ha : PAD X W (a :: es) ea) (hk' : k ≤ k' := by decide) (hg : Gl X x := by rfl)
    (hdb : (x == ("__debug__" : Str)) = false := by decide) (hs : starEach (a :: es) X.env = (false, eval a X.env) :: starEach es X.env := by rfl) (hpl : (backTo pos (starEach es X.env)).any (·.1) = false := by rfl) : PD X W (.Call (.Name x p) (a :: es) [] pos) (eArgs m ea) := by
  obtain ⟨f, fd, ps, F, hm, hk, hb⟩ := h.ex
  obtain ⟨t, pa, q⟩ := ha
  exact ⟨_, pe_callS F (hr.mono hk') hg hm hk hb (fun σ => passAt tk σ) pa hdb hs hpl, hoCall q⟩
theorem RpE.start {C : Kx} {L : List Addr} {G : Hp} {N : List Str} {vs : List V} {ds : List D} (r : RpL C L G vs ds) : RpE C L G (start N vs) (startE N.length ds) := by
  refine ⟨by simp [L2.start, startE, r.length], fun i d q => ?_⟩
  unfold startE at q
  by_cases hi : i < ds.length
  · rw [List.getElem?_append_left (by simpa using hi), List.getElem?_map, List.getElem?_eq_getElem hi] at q
    cases q
    obtain ⟨v, h1, h2⟩ := r.get (List.getElem?_eq_getElem hi)
    refine ⟨v, ?_, h2⟩
    unfold L2.start
    rw [List.getElem?_append_left (by simpa [r.length] using hi), List.getElem?_map, h1]
    rfl
  · rw [List.getElem?_append_right (by simpa using hi), List.getElem?_replicate] at q
    split at q <;> cases q
/-- THE RULE for a def -/
theorem fn_has {P : Program} {w : World} {C : Kx} {base : Heap} {x qual : Str} {st : Stmt} {f : Addr} {fd : FuncData} {N ps : List Str} {k : Nat} {sv : SV} (F : Fun C.K x qual st f fd) (S : FnScope N ps (defScope st)) (gf : C.mg x = some (.ref f)) (b : Binds C.K fd ps [])
    (hb : ∀ (cdv : Value) (A : Around) (outer : List Env) (s : Shared) (H : Hp) (E : XK), Room k (A.deeper (envOfC qual (defScope st) s.heap.objs.size f cdv)) →
      PSsD (cxOf (L2.CX P w) P w C.K C.mg base N qual (defScope st) f cdv A outer s H E) (fun cls d _ H => E cls d H) (defBody st) sv) : Has P w C base x (k + 1) (mOf ps.length N.length sv) := by
  refine ⟨f, fd, ps, F.okX S (fun vs H Q E h => ?_) (fun cdv A outer s H vs Q E hr h => ?_), gf, F.kp, b⟩
  · obtain ⟨F, L, G, M, ds, o, r, h⟩ := h
    unfold mOf at h
    by_cases hl : ds.length = ps.length
    · rw [r.length]; exact hl
    · rw [if_neg hl] at h; exact h.elim
  · obtain ⟨t, p, q⟩ := hb cdv A outer s H E hr
    obtain ⟨F, L, G, M, ds, o, r, h⟩ := h
    refine ⟨t, p, q F (startE N.length ds) M (start N vs) L G H _ o (RpE.start r) ?_⟩
    unfold mOf at h
    by_cases hl : ds.length = ps.length
    · rw [if_pos hl] at h
      cases hs : sv (startE N.length ds) M with
      | nx e M' => rw [hs] at h; exact fun σ' L' G' H' o' x' _ => h .non L' G' H' o' x' .non
      | ret d M' => rw [hs] at h; exact fun v L' G' H' o' x' r' => h v L' G' H' o' x' r'
      | brk e M' => rw [hs] at h; exact h.elim
      | cnt e M' => rw [hs] at h; exact h.elim
      | exc c e M' => rw [hs] at h; exact fun σ' L' G' H' u o' x' _ q' => h L' G' H' u o' x' q'
      | stuck => rw [hs] at h; exact h.elim
    · rw [if_neg hl] at h; exact h.elim
end
end KB
namespace KB
open PySem PySem.Spec PyProof.Rows L2
/-! ### model's rules that the layer lacks -/
section
variable {prog : Program} {w : World} {A : Around} {E : Value → Shared → Prop} {s : Shared}
theorem noI_tuple_add : typeLookup (.type "tuple") (dunderI "add") = pure none := by rw [typeLookup_type, builtinLookup_eq_fast]; kernel_rfl
theorem icat_tup0 {t b : Addr} {ws : List Value} {Q : Value → Shared → Prop} (ht : IsTup s.heap t ([] : List Value).toArray) (hb : IsTup s.heap b ws.toArray) (h : Q (.ref b) s) : wpAny (model prog w) A (inplaceOp .Add (.ref t) (.ref b)) Q E s := by
  obtain ⟨⟨cls, dd, data, sl⟩, ho, hc, n, hd⟩ := id ht
  obtain ⟨⟨cls2, dd2, data2, sl2⟩, ho2, hc2, n2, hd2⟩ := id hb
  simp only at hc hd hc2 hd2
  subst hc hd hc2 hd2
  exact wpAny_inplaceOp_concat ⟨_, ho, rfl⟩ ⟨_, ho2, rfl⟩ noI_tuple_add noFill_tuple_add seq_tuple_add (call_meets PySem.F.slot_tuple_add ⟨_, ho, rfl⟩ PySem.F.entry_tuple_add (PySem.F.args_tuple_add_2 _ _)
    (tuple_addW0 t b ([] : List Value).toArray ws.toArray n n2 dd dd2 sl sl2 (by simp)) ⟨ho, ho2, h⟩)
theorem icat_tup {t b : Addr} {vs ws : List Value} {Q : Value → Shared → Prop} (ht : IsTup s.heap t vs.toArray) (hb : IsTup s.heap b ws.toArray) (hv : vs ≠ [])
    (h1 : ws = [] → Q (.ref t) s) (h2 : ws ≠ [] → Q (.ref s.heap.objs.size) { s with heap := s.heap.push { cls := .type "tuple", data := .seq (vs ++ ws).toArray } })
    (hsz : vs.length + ws.length ≤ sizeLine) : wpAny (model prog w) A (inplaceOp .Add (.ref t) (.ref b)) Q E s := by
  obtain ⟨⟨cls, dd, data, sl⟩, ho, hc, n, hd⟩ := id ht
  obtain ⟨⟨cls2, dd2, data2, sl2⟩, ho2, hc2, n2, hd2⟩ := id hb
  simp only at hc hd hc2 hd2
  subst hc hd hc2 hd2
  have e : vs.toArray ++ ws.toArray = (vs ++ ws).toArray := by simp
  by_cases hw : ws = []
  · exact wpAny_inplaceOp_concat ⟨_, ho, rfl⟩ ⟨_, ho2, rfl⟩ noI_tuple_add noFill_tuple_add seq_tuple_add (call_meets PySem.F.slot_tuple_add ⟨_, ho, rfl⟩ PySem.F.entry_tuple_add (PySem.F.args_tuple_add_2 _ _)
      (tuple_addW1 t b vs.toArray ws.toArray n n2 dd dd2 sl sl2 (by simpa using hv) (by simp [hw])) ⟨ho, ho2, h1 hw⟩)
  · refine wpAny_inplaceOp_concat ⟨_, ho, rfl⟩ ⟨_, ho2, rfl⟩ noI_tuple_add noFill_tuple_add seq_tuple_add (call_meets PySem.F.slot_tuple_add ⟨_, ho, rfl⟩ PySem.F.entry_tuple_add (PySem.F.args_tuple_add_2 _ _)
      (tuple_addW2 t b vs.toArray ws.toArray n n2 dd dd2 sl sl2 (by simpa using hv) (by simpa using hw) (by rw [List.size_toArray, List.size_toArray]; exact hsz)) ⟨ho, ho2, ?_⟩)
    rw [e]
    exact h2 hw
end
section
variable {X : Cx} {W : WX}
theorem iop_catA : OpR X (inplaceOp .Add) (rCatA X.K) := by
  intro pins s σ H x y v u Q I rx ry h
  obtain ⟨a, b, xs, ys, rfl, rfl, ha, hb, hz, q0, q1, q2⟩ := h
  cases rx
  cases ry
  obtain ⟨its, r1, p1, _⟩ := I.tuple ha
  obtain ⟨its2, r2, p2, _⟩ := I.tuple hb
  by_cases hx : xs = []
  · subst hx
    cases r1
    exact icat_tup0 p1 p2 ⟨.ref b, H, I, rfl, q0 rfl⟩
  · refine icat_tup p1 p2 (fun z => hx (r1.nil_iff.mp z)) (fun z => ⟨.ref a, H, I, rfl, q1 hx (r2.nil_iff.mp z)⟩) (fun z => ?_) (by rw [← r1.length, ← r2.length]; exact hz)
    have hf : H s.heap.objs.size = none := I.hok.fresh (Nat.le_refl _)
    refine ⟨.ref s.heap.objs.size, upd H s.heap.objs.size (.tup (xs ++ ys)), I.laid (t' := s.toks) (fun b u e => Heap.get?_push_of_some _ e) (Nat.le_refl _) ?_, rfl, q2 hx (fun e => z (r2.nil_iff.mpr e)) _ hf⟩
    exact ⟨by simpa using hz, its ++ its2, r1.append r2, ⟨_, Heap.get?_push_size _ rfl, rfl, _, rfl⟩⟩

/-! ### + -/
def fAdd (x y : D) (M : List MO) : R D := match res M x, res M y with
  | .int i, .int j => .ok (.int (i + j)) M
  | .tup a, .tup b => if a.length + b.length ≤ big then .ok (.tup (a ++ b)) M else .stuck
  | .lst a, .lst b => if a.length + b.length ≤ big then .ok (.lst (a ++ b)) M else .stuck
  | .str a, .str b => if a.length + b.length ≤ big then .ok (.str (a ++ b)) M else .stuck
  | _, _ => .stuck
def fAddC (x y : D) (M : List MO) : R D := match res M x, res M y with
  | .lst a, .lst b => if a.length + b.length ≤ big then .ok (.cell M.length) (M ++ [.lst (a ++ b)]) else .stuck
  | _, _ => .stuck
theorem catA_D {x y : V} {dx dy : D} {M : List MO} {F : Hp} {L : List Addr} {G H : Hp} {σ : L2.St} {Q : VK} {a b : List D} (o : Ok (kx X) F L G M H) (rx : Rp (kx X) L G x dx) (ry : Rp (kx X) L G y dy) (ex : res M dx = .tup a) (ey : res M dy = .tup b)
    (h : Aft X W F σ (kE X Q) L G (if a.length + b.length ≤ big then .ok (.tup (a ++ b)) M else .stuck)) : rCatA X.K x y H Q := by
  split at h
  · rename_i hz
    obtain ⟨p, vs, rfl, sx, lx⟩ := o.viewT rx ex
    obtain ⟨q, ws, rfl, sy, ly⟩ := o.viewT ry ey
    refine ⟨p, q, vs, ws, rfl, rfl, sx, sy, by rw [lx.length, ly.length]; exact big_line hz, fun z => ?_, fun _ z => ?_, fun _ _ => newT o (lx.append ly) h⟩
    · subst z
      cases a with
      | cons _ _ => cases lx
      | nil =>
        cases ry with
        | tup k1 k2 => cases ey; exact aok h o _ (by rw [List.nil_append]; exact .tup k1 k2)
        | cell => rename_i n _; rcases res_cell M n with z | ⟨_, z⟩ <;> rw [z] at ey <;> cases ey
        | _ => cases ey
    · subst z
      cases b with
      | cons _ _ => cases ly
      | nil =>
        cases rx with
        | tup k1 k2 => cases ex; exact aok h o _ (by rw [List.append_nil]; exact .tup k1 k2)
        | cell => rename_i n _; rcases res_cell M n with z | ⟨_, z⟩ <;> rw [z] at ex <;> cases ex
        | _ => cases ex
  · exact h.elim
def rAddU (K : PySem.W.Frag) : R2 := fun x y H Q => rI0 (fun i j => .int (i + j)) x y H Q ∨ rCatA K x y H Q ∨ rCat x y H Q ∨ (∃ i j, x = .str i ∧ y = .str j ∧ i.length + j.length ≤ sizeLine ∧ Q (.str (i ++ j)) H)
theorem opAdd : OpR X (binaryOp .Add) (rAddU X.K) := op_add.or (op_catA.or (op_cat.or op_add_str))
theorem dAdd : OpD X W (rAddU X.K) fAdd := by
  intro x y dx dy M F L G H σ Q o rx ry h
  unfold fAdd at h
  split at h
  · rename_i i j ex ey
    exact .inl ⟨i, j, viewI rx ex, viewI ry ey, aok h o _ (.int _)⟩
  · rename_i a b ex ey
    exact .inr (.inl (catA_D o rx ry ex ey h))
  · rename_i a b ex ey
    split at h
    · rename_i hz
      obtain ⟨p, vs, rfl, sx, lx⟩ := o.viewL rx ex
      obtain ⟨q, ws, rfl, sy, ly⟩ := o.viewL ry ey
      exact .inr (.inr (.inl ⟨p, q, vs, ws, rfl, rfl, sx, sy, by rw [lx.length, ly.length]; exact big_line hz, newL o (lx.append ly) h⟩))
    · exact h.elim
  · rename_i a b ex ey
    split at h
    · rename_i hz
      exact .inr (.inr (.inr ⟨a, b, viewS rx ex, viewS ry ey, big_line hz, aok h o _ (.str _)⟩))
    · exact h.elim
  · exact h.elim
theorem dAddC : OpD X W (rAddU X.K) fAddC := by
  intro x y dx dy M F L G H σ Q o rx ry h
  unfold fAddC at h
  split at h
  · rename_i a b ex ey
    split at h
    · rename_i hz
      obtain ⟨p, vs, rfl, sx, lx⟩ := o.viewL rx ex
      obtain ⟨q, ws, rfl, sy, ly⟩ := o.viewL ry ey
      exact .inr (.inr (.inl ⟨p, q, vs, ws, rfl, rfl, sx, sy, by rw [lx.length, ly.length]; exact big_line hz, newC o (lx.append ly) h⟩))
    · exact h.elim
  · exact h.elim
def rIAddU (K : PySem.W.Frag) : R2 := fun x y H Q => rI0 (fun i j => .int (i + j)) x y H Q ∨ rCatA K x y H Q
theorem iopAdd : OpR X (inplaceOp .Add) (rIAddU X.K) := iop_add.or iop_catA
def fIAdd (x y : D) (M : List MO) : R D := match res M x, res M y with
  | .int i, .int j => .ok (.int (i + j)) M
  | .tup a, .tup b => if a.length + b.length ≤ big then .ok (.tup (a ++ b)) M else .stuck
  | _, _ => .stuck
theorem dIAdd : OpD X W (rIAddU X.K) fIAdd := by
  intro x y dx dy M F L G H σ Q o rx ry h
  unfold fIAdd at h
  split at h
  · rename_i i j ex ey
    exact .inl ⟨i, j, viewI rx ex, viewI ry ey, aok h o _ (.int _)⟩
  · rename_i a b ex ey
    exact .inr (catA_D o rx ry ex ey h)
  · exact h.elim
/-! ### ints -/
def fI (c : Int → Int → Bool) (g : Int → Int → Int) (x y : D) (M : List MO) : R D := match res M x, res M y with
  | .int i, .int j => if c i j then .ok (.int (g i j)) M else .stuck
  | _, _ => .stuck
theorem dI {C : Int → Int → Prop} {c : Int → Int → Bool} {g : Int → Int → Int} (hc : ∀ i j, c i j = true → C i j) : OpD X W (rI C fun i j => .int (g i j)) (fI c g) := by
  intro x y dx dy M F L G H σ Q o rx ry h
  unfold fI at h
  split at h
  · rename_i i j ex ey
    split at h
    · rename_i hz
      exact ⟨i, j, viewI rx ex, viewI ry ey, hc i j hz, aok h o _ (.int _)⟩
    · exact h.elim
  · exact h.elim
theorem dI0 {g : Int → Int → Int} : OpD X W (rI0 fun i j => .int (g i j)) (fI (fun _ _ => true) g) := by
  intro x y dx dy M F L G H σ Q o rx ry h
  unfold fI at h
  split at h
  · rename_i i j ex ey
    exact ⟨i, j, viewI rx ex, viewI ry ey, aok h o _ (.int _)⟩
  · exact h.elim
def fSub : D → D → List MO → R D := fI (fun _ _ => true) (fun i j => i - j)
theorem dSub : OpD X W (rI0 fun i j => .int (i - j)) fSub := dI0
def w64 (i : Int) : Bool := decide (-(2 ^ 64) < i ∧ i < 2 ^ 64)
def cMul (i j : Int) : Bool := w64 i || w64 j
theorem cMul_ok (i j : Int) (h : cMul i j = true) : CMul i j := by
  unfold cMul w64 at h
  rw [Bool.or_eq_true, decide_eq_true_eq, decide_eq_true_eq] at h
  exact h
def cDiv (i j : Int) : Bool := decide (0 < j ∧ j ≤ 2 ^ 80)
theorem cDiv_ok (i j : Int) (h : cDiv i j = true) : CDivW i j := by
  obtain ⟨h1, h2⟩ := of_decide_eq_true h
  refine wide_div (b := 81) h1 ?_ (by decide) (by decide)
  have : j.natAbs ≤ 2 ^ 80 := by omega
  omega
def fFdiv : D → D → List MO → R D := fI cDiv (fun i j => i / j)
theorem dFdiv : OpD X W (rI CDivW fun i j => .int (i / j)) fFdiv := dI cDiv_ok
theorem iop_fdivW : OpR X (inplaceOp .FloorDiv) (rI CDiv fun i j => .int (i / j)) := iop_fdiv
def cDivS (i j : Int) : Bool := decide (0 < j ∧ j < 1073741824)
def fIFdiv : D → D → List MO → R D := fI cDivS (fun i j => i / j)
theorem dIFdiv : OpD X W (rI CDiv fun i j => .int (i / j)) fIFdiv := dI fun i j h => by
  have q : 0 < j ∧ j < 1073741824 := of_decide_eq_true h
  exact ⟨q.1, q.2⟩
def fMod : D → D → List MO → R D := fI (fun _ j => decide (0 < j)) (fun i j => i % j)
theorem dMod : OpD X W (rI (fun _ j => 0 < j) fun i j => .int (i % j)) fMod := dI fun i j h => of_decide_eq_true h
def cPow (i j : Int) : Bool := decide (0 ≤ j ∧ j ≤ 1000 ∧ i.natAbs < 2 ^ 64)
def fPow : D → D → List MO → R D := fI cPow (fun i j => i ^ j.toNat)
theorem dPow : OpD X W (rI CPow fun i j => .int (i ^ j.toNat)) fPow := dI fun i j h => by
  obtain ⟨h1, h2, h3⟩ := of_decide_eq_true h
  exact ⟨h1, by omega, h3⟩
def fIMul : D → D → List MO → R D := fI cMul (fun i j => i * j)
theorem dIMul : OpD X W (rI CMul fun i j => .int (i * j)) fIMul := dI cMul_ok
def fISub : D → D → List MO → R D := fI (fun _ _ => true) (fun i j => i - j)
theorem dISub : OpD X W (rI0 fun i j => .int (i - j)) fISub := dI0
def fNeg (x : D) (M : List MO) : R D := match x with
  | .int i => .ok (.int (-i)) M
  | _ => .stuck
theorem dNeg : UnD X W (rU fun i => .int (-i)) fNeg := by
  intro x dx M F L G H σ Q o rx h
  unfold fNeg at h
  split at h
  · rename_i i; cases rx; exact ⟨i, rfl, aok h o _ (.int _)⟩
  · exact h.elim
/-! ### order -/
def ints? : List D → Option (List Int)
  | [] => some []
  | .int i :: ds => (ints? ds).map (i :: ·)
  | _ => none
theorem ints_V {C : Kx} {L : List Addr} {G : Hp} : ∀ {ds : List D} {vs : List V} {ns : List Int}, RpL C L G vs ds → ints? ds = some ns → vs = ns.map V.int
  | [], _, _, h, e => by cases h; cases e; rfl
  | d :: ds, _, ns, h, e => by
    cases h with
    | cons h1 h2 =>
      cases h1 with
      | int i =>
        unfold ints? at e
        cases q : ints? ds with
        | none => rw [q] at e; cases e
        | some ms => rw [q] at e; cases e; rw [ints_V h2 q]; rfl
      | _ => cases e
@[simp] theorem ints_map (ns : List Int) : ints? (ns.map D.int) = some ns := by
  induction ns with
  | nil => rfl
  | cons n ns ih => simp [ints?, ih]
theorem lexAt_shift (e r : Nat → Bool) (z : Bool) : ∀ (k i : Nat), Ob.lexAt e r z (i + 1) k = Ob.lexAt (fun j => e (j + 1)) (fun j => r (j + 1)) z i k
  | 0, _ => rfl
  | k + 1, i => by rw [Ob.lexAt_succ, Ob.lexAt_succ, lexAt_shift e r z k (i + 1)]
theorem lexAt_congr {e e' r r' : Nat → Bool} {z z' : Bool} (he : ∀ j, e j = e' j) (hr : ∀ j, r j = r' j) (hz : z = z') : ∀ (k i : Nat), Ob.lexAt e r z i k = Ob.lexAt e' r' z' i k := by
  have h1 : e = e' := funext he
  have h2 : r = r' := funext hr
  subst h1 h2 hz
  intros; rfl
theorem lex_le : ∀ (ns ms : List Int), Ob.lexAt (fun j => decide (ns.getD j 0 = ms.getD j 0)) (fun j => decide (ns.getD j 0 ≤ ms.getD j 0)) (decide (ns.length ≤ ms.length)) 0 (min ns.length ms.length) = !HT.lexLt ms ns
  | [], [] => rfl
  | [], m :: ms => by simp [HT.lexLt, Ob.lexAt]
  | n :: ns, [] => by simp [HT.lexLt, Ob.lexAt]
  | n :: ns, m :: ms => by
    have ih := lex_le ns ms
    have em : min (n :: ns).length (m :: ms).length = min ns.length ms.length + 1 := by simp only [List.length_cons]; omega
    rw [em, Ob.lexAt_succ, lexAt_shift]
    rw [HT.lexLt_cons]
    by_cases h : n = m
    · subst h
      simp only [List.getD_cons_zero, List.getD_cons_succ, decide_true, if_true]
      rw [← ih]
      exact lexAt_congr (fun _ => rfl) (fun _ => rfl) (by simp) _ _
    · simp only [List.getD_cons_zero]
      rw [if_neg (by simpa using h), if_neg (fun z => h z.symm)]
      by_cases h2 : m < n
      · rw [decide_eq_true h2, decide_eq_false (by omega)]; rfl
      · rw [decide_eq_false h2, decide_eq_true (by omega)]; rfl
theorem lex_gt : ∀ (ns ms : List Int), Ob.lexAt (fun j => decide (ns.getD j 0 = ms.getD j 0)) (fun j => decide (ms.getD j 0 < ns.getD j 0)) (decide (ns.length > ms.length)) 0 (min ns.length ms.length) = HT.lexLt ms ns
  | [], [] => rfl
  | [], m :: ms => by simp [HT.lexLt, Ob.lexAt]
  | n :: ns, [] => by simp [HT.lexLt, Ob.lexAt]
  | n :: ns, m :: ms => by
    have ih := lex_gt ns ms
    have em : min (n :: ns).length (m :: ms).length = min ns.length ms.length + 1 := by simp only [List.length_cons]; omega
    rw [em, Ob.lexAt_succ, lexAt_shift]
    rw [HT.lexLt_cons]
    by_cases h : n = m
    · subst h
      simp only [List.getD_cons_zero, List.getD_cons_succ, decide_true, if_true]
      rw [← ih]
      exact lexAt_congr (fun _ => rfl) (fun _ => rfl) (by simp) _ _
    · simp only [List.getD_cons_zero]
      rw [if_neg (by simpa using h), if_neg (fun z => h z.symm)]
theorem lex_ge : ∀ (ns ms : List Int), Ob.lexAt (fun j => decide (ns.getD j 0 = ms.getD j 0)) (fun j => decide (ms.getD j 0 ≤ ns.getD j 0)) (decide (ns.length ≥ ms.length)) 0 (min ns.length ms.length) = !HT.lexLt ns ms
  | [], [] => rfl
  | [], m :: ms => by simp [HT.lexLt, Ob.lexAt]
  | n :: ns, [] => by simp [HT.lexLt, Ob.lexAt]
  | n :: ns, m :: ms => by
    have ih := lex_ge ns ms
    have em : min (n :: ns).length (m :: ms).length = min ns.length ms.length + 1 := by simp only [List.length_cons]; omega
    rw [em, Ob.lexAt_succ, lexAt_shift]
    rw [HT.lexLt_cons]
    by_cases h : n = m
    · subst h
      simp only [List.getD_cons_zero, List.getD_cons_succ, decide_true, if_true]
      rw [← ih]
      exact lexAt_congr (fun _ => rfl) (fun _ => rfl) (by simp) _ _
    · simp only [List.getD_cons_zero]
      rw [if_neg (by simpa using h), if_neg h]
      by_cases h2 : n < m
      · rw [decide_eq_true h2, decide_eq_false (by omega)]; rfl
      · rw [decide_eq_false h2, decide_eq_true (by omega)]; rfl
def rOrdT (K : PySem.W.Frag) (f : List Int → List Int → Bool) : R2 := fun x y H Q => ∃ (a b : Addr) (ns ms : List Int), x = .ref a ∧ y = .ref b ∧ SqT K H a (ns.map V.int) ∧ SqT K H b (ms.map V.int) ∧ Q (.bl (f ns ms)) H
theorem op_leT' (hu : X.A.units < cLine) : OpR X (compareOp .LtE) (rOrdT X.K fun a b => !HT.lexLt b a) := by
  intro pins s σ H x y v u Q I rx ry h
  obtain ⟨a, b, ns, ms, rfl, rfl, ha, hb, q⟩ := h
  exact op_leT hu pins s σ H _ _ v u Q I rx ry ⟨a, b, ns, ms, rfl, rfl, ha, hb, by rw [lex_le]; exact q⟩
theorem at_ints {its : List Value} {ns : List Int} (i1 : IntsAre its ns) : ∀ j (h1 : j < its.toArray.size), ∃ t, its.toArray[j] = .int (ns.getD j 0) t := fun j h1 => PyProof.Rows.IntsAre.int_at i1 _ _ (by simp at h1; simp [h1])
theorem beq_dec (a b : Int) : (a == b) = decide (a = b) := by
  by_cases q : a = b
  · rw [decide_eq_true q]; exact beq_iff_eq.mpr q
  · rw [decide_eq_false q]; exact beq_eq_false_iff_ne.mpr q
theorem op_gtT' (hu : X.A.units < cLine) : OpR X (compareOp .Gt) (rOrdT X.K fun a b => HT.lexLt b a) := by
  intro pins s σ H x y v u Q I rx ry h
  obtain ⟨a, b, ns, ms, rfl, rfl, ha, hb, q⟩ := h
  cases rx
  cases ry
  obtain ⟨its, r1, p1, _⟩ := I.tuple ha
  obtain ⟨its2, r2, p2, _⟩ := I.tuple hb
  have i1 : IntsAre its ns := Vals.ints r1
  have i2 : IntsAre its2 ms := Vals.ints r2
  have e1 : its.toArray.size = ns.length := by rw [List.size_toArray]; exact i1.length
  have e2 : its2.toArray.size = ms.length := by rw [List.size_toArray]; exact i2.length
  have R := Ob.RcOp.tuples_gt (A := X.A) (s := s) (e := fun j => decide (ns.getD j 0 = ms.getD j 0)) (r := fun j => decide (ms.getD j 0 < ns.getD j 0)) p1 p2 hu (fun j h1 h2 => by
    obtain ⟨t, et⟩ := at_ints i1 j h1
    obtain ⟨t', et'⟩ := at_ints i2 j h2
    rw [et, et', ← beq_dec]
    exact SeqAt.EqAt.int_int _ _ _ _) (fun j h1 h2 _ => by
    obtain ⟨t, et⟩ := at_ints i1 j h1
    obtain ⟨t', et'⟩ := at_ints i2 j h2
    rw [et, et']
    exact Ob.RcOp.gt_int _ _ _ _)
  rw [e1, e2, lex_gt] at R
  exact R X.prog X.w X.xe (EP X pins σ Q) ⟨.bl _, H, I, rfl, q⟩
theorem op_geT' (hu : X.A.units < cLine) : OpR X (compareOp .GtE) (rOrdT X.K fun a b => !HT.lexLt a b) := by
  intro pins s σ H x y v u Q I rx ry h
  obtain ⟨a, b, ns, ms, rfl, rfl, ha, hb, q⟩ := h
  cases rx
  cases ry
  obtain ⟨its, r1, p1, _⟩ := I.tuple ha
  obtain ⟨its2, r2, p2, _⟩ := I.tuple hb
  have i1 : IntsAre its ns := Vals.ints r1
  have i2 : IntsAre its2 ms := Vals.ints r2
  have e1 : its.toArray.size = ns.length := by rw [List.size_toArray]; exact i1.length
  have e2 : its2.toArray.size = ms.length := by rw [List.size_toArray]; exact i2.length
  have R := Ob.RcOp.tuples_ge (A := X.A) (s := s) (e := fun j => decide (ns.getD j 0 = ms.getD j 0)) (r := fun j => decide (ms.getD j 0 ≤ ns.getD j 0)) p1 p2 hu (fun j h1 h2 => by
    obtain ⟨t, et⟩ := at_ints i1 j h1
    obtain ⟨t', et'⟩ := at_ints i2 j h2
    rw [et, et', ← beq_dec]
    exact SeqAt.EqAt.int_int _ _ _ _) (fun j h1 h2 _ => by
    obtain ⟨t, et⟩ := at_ints i1 j h1
    obtain ⟨t', et'⟩ := at_ints i2 j h2
    rw [et, et']
    exact Ob.RcOp.ge_int _ _ _ _)
  rw [e1, e2, lex_ge] at R
  exact R X.prog X.w X.xe (EP X pins σ Q) ⟨.bl _, H, I, rfl, q⟩
/-- < of ints, of byte strings -/
def fOrd (g : Int → Int → Bool) (f : List Int → List Int → Bool) (x y : D) (M : List MO) : R D := match res M x, res M y with
  | .int i, .int j => .ok (.bl (g i j)) M
  | .tup a, .tup b => match ints? a, ints? b with
    | some ns, some ms => .ok (.bl (f ns ms)) M
    | _, _ => .stuck
  | _, _ => .stuck
theorem dOrd {g : Int → Int → Bool} {f : List Int → List Int → Bool} : OpD X W (fun x y H Q => rI0 (fun i j => .bl (g i j)) x y H Q ∨ rOrdT X.K f x y H Q) (fOrd g f) := by
  intro x y dx dy M F L G H σ Q o rx ry h
  unfold fOrd at h
  split at h
  · rename_i i j ex ey
    exact .inl ⟨i, j, viewI rx ex, viewI ry ey, aok h o _ (.bl _)⟩
  · rename_i a b ex ey
    split at h
    · rename_i ns ms en em
      obtain ⟨p, vs, rfl, sx, lx⟩ := o.viewT rx ex
      obtain ⟨q, ws, rfl, sy, ly⟩ := o.viewT ry ey
      rw [ints_V lx en] at sx
      rw [ints_V ly em] at sy
      exact .inr ⟨p, q, ns, ms, rfl, rfl, sx, sy, aok h o _ (.bl _)⟩
    · exact h.elim
  · exact h.elim
def fLt : D → D → List MO → R D := fOrd (fun i j => decide (i < j)) HT.lexLt
def fLe : D → D → List MO → R D := fOrd (fun i j => decide (i ≤ j)) (fun a b => !HT.lexLt b a)
def fGt : D → D → List MO → R D := fOrd (fun i j => decide (j < i)) (fun a b => HT.lexLt b a)
def fGe : D → D → List MO → R D := fOrd (fun i j => decide (j ≤ i)) (fun a b => !HT.lexLt a b)
theorem opLt (hu : X.A.units < cLine) : OpR X (compareOp .Lt) (fun x y H Q => rI0 (fun i j => .bl (decide (i < j))) x y H Q ∨ rOrdT X.K HT.lexLt x y H Q) := op_lt.or (op_ltT hu)
theorem opLe (hu : X.A.units < cLine) : OpR X (compareOp .LtE) (fun x y H Q => rI0 (fun i j => .bl (decide (i ≤ j))) x y H Q ∨ rOrdT X.K (fun a b => !HT.lexLt b a) x y H Q) := op_le.or (op_leT' hu)
theorem opGt (hu : X.A.units < cLine) : OpR X (compareOp .Gt) (fun x y H Q => rI0 (fun i j => .bl (decide (j < i))) x y H Q ∨ rOrdT X.K (fun a b => HT.lexLt b a) x y H Q) := op_gt.or (op_gtT' hu)
theorem opGe (hu : X.A.units < cLine) : OpR X (compareOp .GtE) (fun x y H Q => rI0 (fun i j => .bl (decide (j ≤ i))) x y H Q ∨ rOrdT X.K (fun a b => !HT.lexLt a b) x y H Q) := op_ge.or (op_geT' hu)
/-! ### == -/
mutual
def toP : D → PyData
  | .non => .none
  | .bl b => .bool b
  | .int i => .int i
  | .str s => .str s
  | .tup ds => .tuple (toPs ds)
  | .lst ds => .list (toPs ds)
  | .scr ds => .list (toPs ds)
  | .cell _ => .dict []
  | .exc _ => .dict []
  | .ptup _ => .dict []
def toPs : List D → List PyData
  | [] => []
  | d :: ds => toP d :: toPs ds
end
def shp (d : D) : Bool := SeqAt.shaped (toP d)
mutual
theorem dp_of {C : Kx} {L : List Addr} {G H : Hp} (s : Same G H) : ∀ (d : D) (v : V), Rp C L G v d → (toP d).canLay0 = true → Dp C.K H v (toP d)
  | .non, _, h, _ => by cases h; exact .non
  | .bl _, _, h, _ => by cases h; exact .bl _
  | .int _, _, h, _ => by cases h; exact .int _
  | .str _, _, h, _ => by cases h; exact .str _
  | .tup ds, _, h, z => by cases h with | tup h1 h2 => rw [toP] at z ⊢; exact .tup (Same.seqT s h1) (dp_all s ds _ h2 (by simpa [PyData.canLay0] using z))
  | .lst ds, _, h, z => by cases h with | lst h1 h2 => rw [toP] at z ⊢; exact .lst (.inl (.inl (s _ _ h1))) (dp_all s ds _ h2 (by simpa [PyData.canLay0] using z))
  | .scr ds, _, h, z => by cases h with | scr h1 h2 => rw [toP] at z ⊢; exact .lst (s.seq h1) (dp_all s ds _ h2 (by simpa [PyData.canLay0] using z))
  | .cell _, _, _, z => by simp [toP, PyData.canLay0] at z
  | .exc _, _, _, z => by simp [toP, PyData.canLay0] at z
  | .ptup _, _, _, z => by simp [toP, PyData.canLay0] at z
theorem dp_all {C : Kx} {L : List Addr} {G H : Hp} (s : Same G H) : ∀ (ds : List D) (vs : List V), RpL C L G vs ds → PyData.canLayAll0 (toPs ds) = true → DpAll C.K H vs (toPs ds)
  | [], _, h, _ => by cases h; rw [toPs]; exact .nil
  | d :: ds, _, h, z => by
    cases h with
    | cons h1 h2 =>
      rw [toPs] at z ⊢
      have z' : (toP d).canLay0 = true ∧ PyData.canLayAll0 (toPs ds) = true := by simpa [PyData.canLayAll0] using z
      exact .cons (dp_of s d _ h1 z'.1) (dp_all s ds _ h2 z'.2)
end
theorem dp_res {C : Kx} {F : Hp} {L : List Addr} {G H : Hp} {M : List MO} {v : V} {d : D} (o : Ok C F L G M H) (r : Rp C L G v d) (z : shp (res M d) = true) : Dp C.K H v (toP (res M d)) := by
  have zc := SeqAt.canLay_of_shaped z
  cases r with
  | @cell a n h =>
    rcases res_cell M n with e | ⟨ds, e⟩
    · rw [e] at zc; simp [toP, PyData.canLay0] at zc
    · obtain ⟨a', vs, e', h1, h2⟩ := o.viewL (Rp.cell h) e
      cases e'
      rw [e] at zc ⊢
      rw [toP] at zc ⊢
      exact .lst (.inl (.inl h1)) (dp_all o.sub ds _ h2 (by simpa [PyData.canLay0] using zc))
  | non => exact dp_of (L := L) o.sub _ _ .non zc
  | bl => exact dp_of (L := L) o.sub _ _ (.bl _) zc
  | int => exact dp_of (L := L) o.sub _ _ (.int _) zc
  | str => exact dp_of (L := L) o.sub _ _ (.str _) zc
  | tup h1 h2 => exact dp_of o.sub _ _ (.tup h1 h2) zc
  | lst h1 h2 => exact dp_of o.sub _ _ (.lst h1 h2) zc
  | scr h1 h2 => exact dp_of o.sub _ _ (.scr h1 h2) zc
  | exc h1 h2 => exact absurd (show PyData.canLay0 (toP (.exc _)) = true from zc) (by simp [toP, PyData.canLay0])
  | ptup h1 h2 h3 h4 => exact absurd (show PyData.canLay0 (toP (.ptup _)) = true from zc) (by simp [toP, PyData.canLay0])
def dEqv (x y : D) : Bool := PyData.eqv (toP x) (toP y)
def fEq (x y : D) (M : List MO) : R D := if shp (res M x) && shp (res M y) then .ok (.bl (dEqv (res M x) (res M y))) M else .stuck
def fNe (x y : D) (M : List MO) : R D := if shp (res M x) && shp (res M y) then .ok (.bl (!dEqv (res M x) (res M y))) M else .stuck
theorem dEq : OpD X W (rEqD X.K) fEq := by
  intro x y dx dy M F L G H σ Q o rx ry h
  unfold fEq at h
  split at h
  · rename_i hz
    rw [Bool.and_eq_true] at hz
    exact ⟨_, _, dp_res o rx hz.1, dp_res o ry hz.2, hz.1, hz.2, aok h o _ (.bl _)⟩
  · exact h.elim
theorem dNe : OpD X W (rNeD X.K) fNe := by
  intro x y dx dy M F L G H σ Q o rx ry h
  unfold fNe at h
  split at h
  · rename_i hz
    rw [Bool.and_eq_true] at hz
    exact ⟨_, _, dp_res o rx hz.1, dp_res o ry hz.2, hz.1, hz.2, aok h o _ (.bl _)⟩
  · exact h.elim
/-! ### is -/
def isNon : D → Bool
  | .non => true
  | _ => false
theorem isNon_V {C : Kx} {L : List Addr} {G : Hp} {v : V} {d : D} (r : Rp C L G v d) : decide (v = .non) = isNon d := by
  cases r <;> rfl
/-- x is None; x is True -/
def fIs (x y : D) (M : List MO) : R D := match x, y with
  | x, .non => .ok (.bl (isNon x)) M
  | .bl a, .bl b => .ok (.bl (decide (a = b))) M
  | _, _ => .stuck
def fIsNot (x y : D) (M : List MO) : R D := match x, y with
  | x, .non => .ok (.bl (!isNon x)) M
  | .bl a, .bl b => .ok (.bl (!decide (a = b))) M
  | _, _ => .stuck
theorem opIs : OpR X (compareOp .Is) (fun x y H Q => (y = .non ∧ Q (.bl (decide (x = .non))) H) ∨ rIsB x y H Q) := op_isN.or op_isBl
theorem opIsNot : OpR X (compareOp .IsNot) (fun x y H Q => (y = .non ∧ Q (.bl (!decide (x = .non))) H) ∨ rNotB x y H Q) := op_notN.or op_notBl
theorem dIs : OpD X W (fun x y H Q => (y = .non ∧ Q (.bl (decide (x = .non))) H) ∨ rIsB x y H Q) fIs := by
  intro x y dx dy M F L G H σ Q o rx ry h
  unfold fIs at h
  split at h
  · cases ry
    exact .inl ⟨rfl, by rw [isNon_V rx]; exact aok h o _ (.bl _)⟩
  · cases rx; cases ry
    exact .inr ⟨_, _, rfl, rfl, aok h o _ (.bl _)⟩
  · exact h.elim
theorem dIsNot : OpD X W (fun x y H Q => (y = .non ∧ Q (.bl (!decide (x = .non))) H) ∨ rNotB x y H Q) fIsNot := by
  intro x y dx dy M F L G H σ Q o rx ry h
  unfold fIsNot at h
  split at h
  · cases ry
    exact .inl ⟨rfl, by rw [isNon_V rx]; exact aok h o _ (.bl _)⟩
  · cases rx; cases ry
    exact .inr ⟨_, _, rfl, rfl, aok h o _ (.bl _)⟩
  · exact h.elim
end
end KB
namespace KB
open PySem PySem.Spec PyProof.Rows L2
section
variable {X : Cx} {W : WX}
/-! ### len -/
def fLen (ds : List D) (M : List MO) : R D := match ds with
  | [d] => match res M d with
    | .tup xs => .ok (.int xs.length) M
    | .lst xs => .ok (.int xs.length) M
    | .str z => if z.length ≤ big then .ok (.int z.length) M else .stuck
    | _ => .stuck
  | _ => .stuck
theorem one {C : Kx} {L : List Addr} {G : Hp} {vs : List V} {d : D} (h : RpL C L G vs [d]) : ∃ v, vs = [v] ∧ Rp C L G v d := by
  cases h with
  | cons h1 h2 => cases h2; exact ⟨_, rfl, h1⟩
theorem two {C : Kx} {L : List Addr} {G : Hp} {vs : List V} {d e : D} (h : RpL C L G vs [d, e]) : ∃ v w, vs = [v, w] ∧ Rp C L G v d ∧ Rp C L G w e := by
  cases h with
  | cons h1 h2 => cases h2 with
    | cons h3 h4 => cases h4; exact ⟨_, _, rfl, h1, h3⟩
theorem dLen : CallD X W (fun xs H Q => ∃ x n, xs = [x] ∧ LenV X.K x H n ∧ Q (.int n) H) fLen := by
  intro xs ds M F L G H σ Q o r h
  unfold fLen at h
  split at h
  · obtain ⟨v, rfl, rv⟩ := one r
    split at h
    · rename_i ys e
      obtain ⟨a, vs, rfl, s, l⟩ := o.viewT rv e
      exact ⟨_, vs.length, rfl, .inr ⟨vs, s, rfl⟩, by rw [l.length]; exact aok h o _ (.int _)⟩
    · rename_i ys e
      obtain ⟨a, vs, rfl, s, l⟩ := o.viewL rv e
      exact ⟨_, vs.length, rfl, .inl ⟨vs, .inl (.inl s), rfl⟩, by rw [l.length]; exact aok h o _ (.int _)⟩
    · rename_i z e
      split at h
      · rename_i hz
        rw [viewS rv e]
        exact ⟨_, z.length, rfl, ⟨big_line hz, rfl⟩, aok h o _ (.int _)⟩
      · exact h.elim
    · exact h.elim
  · exact h.elim
theorem pd_len {a : Expr} {p pos : Pos} {ea : EA} (hm : X.mg "len" = none) (ha : PAD X W [a] ea) (hg : Gl X "len" := by rfl) (hs : starEach [a] X.env = (false, eval a X.env) :: starEach [] X.env := by rfl) : PD X W (.Call (.Name "len" p) [a] [] pos) (eArgs fLen ea) :=
  pd_callB call_len dLen hg hm PySem.boot_len ha (by decide) (by decide) hs rfl
/-! ### isinstance -/
def isi (T : String) : D → Option Bool
  | .non => kitB "NoneType" T
  | .bl _ => kitB "bool" T
  | .int _ => kitB "int" T
  | .str _ => kitB "str" T
  | .tup _ => kitB "tuple" T
  | .lst _ => kitB "list" T
  | _ => none
def fIsi (T : String) (x : D) (M : List MO) : R D := match isi T (res M x) with
  | some b => .ok (.bl b) M
  | none => .stuck
theorem tyT {K : PySem.W.Frag} {H : Hp} {a : Addr} {vs : List V} (h : SqT K H a vs) : TyX K H (.ref a) (.type "tuple") := by
  rcases h with (h | ⟨o, h⟩) | ⟨o, its, n, h, c, _⟩
  · exact .base (.tup h)
  · exact .fTuple h
  · exact .kTuple h c
theorem isi_ty {F : Hp} {L : List Addr} {G H : Hp} {M : List MO} {v : V} {d : D} {T : String} {b : Bool} (o : Ok (kx X) F L G M H) (r : Rp (kx X) L G v d) (e : isi T (res M d) = some b) : ∃ t, TyX X.K H v t ∧ PySem.W.kitOne X.K t (.type T) = some b := by
  cases hd : res M d with
  | non => rw [hd] at e; rw [viewN r hd]; exact ⟨_, .base .non, kit_ty e⟩
  | bl x => rw [hd] at e; rw [viewB r hd]; exact ⟨_, .base (.bl x), kit_ty e⟩
  | int x => rw [hd] at e; rw [viewI r hd]; exact ⟨_, .base (.int x), kit_ty e⟩
  | str x => rw [hd] at e; rw [viewS r hd]; exact ⟨_, .base (.str x), kit_ty e⟩
  | tup x => rw [hd] at e; obtain ⟨a, vs, rfl, s, l⟩ := o.viewT r hd; exact ⟨_, tyT s, kit_ty e⟩
  | lst x => rw [hd] at e; obtain ⟨a, vs, rfl, s, l⟩ := o.viewL r hd; exact ⟨_, .base (.lst s), kit_ty e⟩
  | scr x => rw [hd] at e; cases e
  | cell x => rw [hd] at e; cases e
  | exc x => rw [hd] at e; cases e
  | ptup x => rw [hd] at e; cases e
theorem pd_isi {a : Expr} {T : Str} {TS : String} {p p2 pos : Pos} {ea : EV} (hm : X.mg "isinstance" = none) (hT : X.mg T = none) (hb : bootBuiltins T = some (.type TS)) (ha : PD X W a ea) (hg : Gl X "isinstance" := by rfl) (hg2 : Gl X T := by rfl) (hn : T ≠ "__name__" := by decide) (hdb : (T == ("__debug__" : Str)) = false := by decide)
    (hs : starEach [a, .Name T p2] X.env = (false, eval a X.env) :: starEach [.Name T p2] X.env := by rfl) (hs2 : starEach [.Name T p2] X.env = (false, eval (.Name T p2) X.env) :: starEach [] X.env := by rfl) (hpl : (backTo pos (starEach [.Name T p2] X.env)).any (·.1) = false := by rfl) :
    PD X W (.Call (.Name "isinstance" p) [a, .Name T p2] [] pos) (eUn (fIsi TS) ea) := by
  obtain ⟨t, pa, q⟩ := ha
  refine ⟨_, pe_callB call_isi hg hm (by decide +kernel) (pa_cons pa (pa_cons (pe_bltn (v := .ty TS) hg2 hT hb rfl hn hdb) pa_nil hs2) hs) (by decide) (by decide) hs hpl, fun F e M σ L G H Q o re h => ?_⟩
  refine q F e M σ L G H _ o re ((Aft.bind h).imp fun d M1 L1 G1 H1 o1 x1 h1 v r => ?_)
  unfold fIsi at h1
  split at h1
  · rename_i b hb
    obtain ⟨t, ty, k⟩ := isi_ty o1 r hb
    exact ⟨v, .ty TS, t, .type TS, b, rfl, .ty TS, ty, k, aok h1 o1 _ (.bl b)⟩
  · exact h1.elim
/-! ### all, abs, min, max, sum -/
def bls? : List D → Option (List Bool)
  | [] => some []
  | .bl i :: ds => (bls? ds).map (i :: ·)
  | _ => none
theorem bls_V {C : Kx} {L : List Addr} {G : Hp} : ∀ {ds : List D} {vs : List V} {ns : List Bool}, RpL C L G vs ds → bls? ds = some ns → vs = ns.map V.bl
  | [], _, _, h, e => by cases h; cases e; rfl
  | d :: ds, _, ns, h, e => by
    cases h with
    | cons h1 h2 =>
      cases h1 with
      | bl i =>
        unfold bls? at e
        cases q : bls? ds with
        | none => rw [q] at e; cases e
        | some ms => rw [q] at e; cases e; rw [bls_V h2 q]; rfl
      | _ => cases e
@[simp] theorem bls_map (ns : List Bool) : bls? (ns.map D.bl) = some ns := by
  induction ns with
  | nil => rfl
  | cons n ns ih => simp [bls?, ih]
def fAll (ds : List D) (M : List MO) : R D := match ds with
  | [d] => match res M d with
    | .lst xs => match bls? xs with
      | some bs => .ok (.bl (bs.all id)) M
      | none => .stuck
    | _ => .stuck
  | _ => .stuck
theorem dAll : CallD X W (rAll X.K) fAll := by
  intro xs ds M F L G H σ Q o r h
  unfold fAll at h
  split at h
  · obtain ⟨v, rfl, rv⟩ := one r
    split at h
    · rename_i ys e
      obtain ⟨a, vs, rfl, s, l⟩ := o.viewL rv e
      split at h
      · rename_i bs eb
        rw [bls_V l eb] at s
        exact ⟨a, bs, rfl, .inl (.inl s), aok h o _ (.bl _)⟩
      · exact h.elim
    · exact h.elim
  · exact h.elim
theorem pd_all {a : Expr} {p pos : Pos} {ea : EA} (hc : X.calm = true) (hm : X.mg "all" = none) (ha : PAD X W [a] ea) (hg : Gl X "all" := by rfl) (hs : starEach [a] X.env = (false, eval a X.env) :: starEach [] X.env := by rfl) : PD X W (.Call (.Name "all" p) [a] [] pos) (eArgs fAll ea) :=
  pd_callB (cr_all hc) dAll hg hm (by decide +kernel) ha (by decide) (by decide) hs rfl
def fSum (ds : List D) (M : List MO) : R D := match ds with
  | [d] => match res M d with
    | .lst xs => match ints? xs with
      | some bs => .ok (.int bs.sum) M
      | none => .stuck
    | _ => .stuck
  | _ => .stuck
theorem dSum : CallD X W (rSum X.K) fSum := by
  intro xs ds M F L G H σ Q o r h
  unfold fSum at h
  split at h
  · obtain ⟨v, rfl, rv⟩ := one r
    split at h
    · rename_i ys e
      obtain ⟨a, vs, rfl, s, l⟩ := o.viewL rv e
      split at h
      · rename_i bs eb
        rw [ints_V l eb] at s
        exact ⟨a, bs, rfl, .inl (.inl s), aok h o _ (.int _)⟩
      · exact h.elim
    · exact h.elim
  · exact h.elim
theorem pd_sum {a : Expr} {p pos : Pos} {ea : EA} (hc : X.calm = true) (hm : X.mg "sum" = none) (ha : PAD X W [a] ea) (hg : Gl X "sum" := by rfl) (hs : starEach [a] X.env = (false, eval a X.env) :: starEach [] X.env := by rfl) : PD X W (.Call (.Name "sum" p) [a] [] pos) (eArgs fSum ea) :=
  pd_callB (cr_sum hc) dSum hg hm (by decide +kernel) ha (by decide) (by decide) hs rfl
def fAbs (ds : List D) (M : List MO) : R D := match ds with
  | [.int i] => .ok (.int (if i < 0 then -i else i)) M
  | _ => .stuck
theorem dAbs : CallD X W (fun xs H Q => ∃ i, xs = [.int i] ∧ Q (.int (if i < 0 then -i else i)) H) fAbs := by
  intro xs ds M F L G H σ Q o r h
  unfold fAbs at h
  split at h
  · obtain ⟨v, rfl, rv⟩ := one r
    cases rv
    exact ⟨_, rfl, aok h o _ (.int _)⟩
  · exact h.elim
theorem pd_abs {a : Expr} {p pos : Pos} {ea : EA} (hm : X.mg "abs" = none) (ha : PAD X W [a] ea) (hg : Gl X "abs" := by rfl) (hs : starEach [a] X.env = (false, eval a X.env) :: starEach [] X.env := by rfl) : PD X W (.Call (.Name "abs" p) [a] [] pos) (eArgs fAbs ea) :=
  pd_callB call_abs dAbs hg hm (by decide +kernel) ha (by decide) (by decide) hs rfl
/-! ### tuple(..), list(..) -/
theorem pd_callTy {x : Str} {id : String} {r : List V → Hp → VK → Prop} {f : List D → List MO → R D} {a : Expr} {es : List Expr} {p pos : Pos} {ea : EA} (hc : CallR X (.type id) r) (hr : CallD X W r f) (hg : Gl X x) (hm : X.mg x = none) (hv : bootBuiltins x = some (.type id)) (ha : PAD X W (a :: es) ea)
    (hn : x ≠ "__name__" := by decide) (hdb : (x == ("__debug__" : Str)) = false := by decide) (hs : starEach (a :: es) X.env = (false, eval a X.env) :: starEach es X.env := by rfl) (hplain : (backTo pos (starEach es X.env)).any (·.1) = false := by rfl) : PD X W (.Call (.Name x p) (a :: es) [] pos) (eArgs f ea) := by
  obtain ⟨ta, pa, qa⟩ := ha
  refine ⟨_, pe_callTy hc hg hm hv pa hn hdb hs hplain, fun F e M σ L G H Q o re h => ?_⟩
  exact qa F e M σ L G H _ o re ((Aft.bind h).imp fun x M1 L1 G1 H1 o1 x1 h1 vs r => hr _ _ M1 F L1 G1 H1 σ Q o1 r h1)
def fTuple (ds : List D) (M : List MO) : R D := match ds with
  | [d] => match res M d with
    | .lst xs => .ok (.tup xs) M
    | .tup xs => .ok (.tup xs) M
    | _ => .stuck
  | _ => .stuck
theorem dTuple : CallD X W (fun xs H Q => ∃ p ys, xs = [.ref p] ∧ ((SqL X.K H p ys ∧ ∀ l, H l = none → Q (.ref l) (upd H l (.tup ys))) ∨ (SqT X.K H p ys ∧ Q (.ref p) H))) fTuple := by
  intro xs ds M F L G H σ Q o r h
  unfold fTuple at h
  split at h
  · obtain ⟨v, rfl, rv⟩ := one r
    split at h
    · rename_i ys e
      obtain ⟨a, vs, rfl, s, l⟩ := o.viewL rv e
      exact ⟨a, vs, rfl, .inl ⟨.inl (.inl s), newT o l h⟩⟩
    · rename_i d ys e
      have e' := e
      obtain ⟨a, vs, rfl, s, l⟩ := o.viewT rv e
      refine ⟨a, vs, rfl, .inr ⟨s, ?_⟩⟩
      cases rv with
      | tup k1 k2 => cases e; exact aok h o _ (.tup k1 k2)
      | @cell _ n _ => rcases res_cell M n with z | ⟨_, z⟩ <;> rw [z] at e <;> cases e
      | _ => cases e
    · exact h.elim
  · exact h.elim
theorem pd_tuple {a : Expr} {p pos : Pos} {ea : EA} (hm : X.mg "tuple" = none) (ha : PAD X W [a] ea) (hg : Gl X "tuple" := by rfl) (hs : starEach [a] X.env = (false, eval a X.env) :: starEach [] X.env := by rfl) : PD X W (.Call (.Name "tuple" p) [a] [] pos) (eArgs fTuple ea) :=
  pd_callTy call_tuple_of dTuple hg hm (by decide +kernel) ha (by decide) (by decide) hs rfl
def fList (ds : List D) (M : List MO) : R D := match ds with
  | [d] => match res M d with
    | .lst xs => .ok (.lst xs) M
    | .tup xs => .ok (.lst xs) M
    | .scr xs => .ok (.lst xs) M
    | _ => .stuck
  | _ => .stuck
def fListC (ds : List D) (M : List MO) : R D := match ds with
  | [d] => match res M d with
    | .lst xs => .ok (.cell M.length) (M ++ [.lst xs])
    | .tup xs => .ok (.cell M.length) (M ++ [.lst xs])
    | .scr xs => .ok (.cell M.length) (M ++ [.lst xs])
    | _ => .stuck
  | _ => .stuck
theorem viewC {C : Kx} {F : Hp} {L : List Addr} {G H : Hp} {M : List MO} {v : V} {d : D} (o : Ok C F L G M H) (r : Rp C L G v d) {ds : List D} (e : res M d = .scr ds) : ∃ a vs, v = .ref a ∧ SqL C.K H a vs ∧ RpL C L G vs ds := by
  cases r with
  | scr h hl => rw [res_scr] at e; cases e; exact ⟨_, _, rfl, o.sub.seq h, hl⟩
  | @cell a n h => rcases res_cell M n with z | ⟨ds', z⟩ <;> rw [z] at e <;> cases e
  | _ => cases e
theorem dList : CallD X W (fun xs H Q => ∃ p ys, xs = [.ref p] ∧ (SqL X.K H p ys ∨ SqT X.K H p ys) ∧ ∀ l, H l = none → Q (.ref l) (upd H l (.lst ys))) fList := by
  intro xs ds M F L G H σ Q o r h
  unfold fList at h
  split at h
  · obtain ⟨v, rfl, rv⟩ := one r
    split at h
    · rename_i ys e
      obtain ⟨a, vs, rfl, s, l⟩ := o.viewL rv e
      exact ⟨a, vs, rfl, .inl (.inl (.inl s)), newL o l h⟩
    · rename_i ys e
      obtain ⟨a, vs, rfl, s, l⟩ := o.viewT rv e
      exact ⟨a, vs, rfl, .inr s, newL o l h⟩
    · rename_i ys e
      obtain ⟨a, vs, rfl, s, l⟩ := viewC o rv e
      exact ⟨a, vs, rfl, .inl s, newL o l h⟩
    · exact h.elim
  · exact h.elim
theorem dListC : CallD X W (fun xs H Q => ∃ p ys, xs = [.ref p] ∧ (SqL X.K H p ys ∨ SqT X.K H p ys) ∧ ∀ l, H l = none → Q (.ref l) (upd H l (.lst ys))) fListC := by
  intro xs ds M F L G H σ Q o r h
  unfold fListC at h
  split at h
  · obtain ⟨v, rfl, rv⟩ := one r
    split at h
    · rename_i ys e
      obtain ⟨a, vs, rfl, s, l⟩ := o.viewL rv e
      exact ⟨a, vs, rfl, .inl (.inl (.inl s)), newC o l h⟩
    · rename_i ys e
      obtain ⟨a, vs, rfl, s, l⟩ := o.viewT rv e
      exact ⟨a, vs, rfl, .inr s, newC o l h⟩
    · rename_i ys e
      obtain ⟨a, vs, rfl, s, l⟩ := viewC o rv e
      exact ⟨a, vs, rfl, .inl s, newC o l h⟩
    · exact h.elim
  · exact h.elim
theorem pd_list {a : Expr} {p pos : Pos} {ea : EA} (hm : X.mg "list" = none) (ha : PAD X W [a] ea) (hg : Gl X "list" := by rfl) (hs : starEach [a] X.env = (false, eval a X.env) :: starEach [] X.env := by rfl) : PD X W (.Call (.Name "list" p) [a] [] pos) (eArgs fList ea) :=
  pd_callTy call_list_of dList hg hm (by decide +kernel) ha (by decide) (by decide) hs rfl
theorem pd_listC {a : Expr} {p pos : Pos} {ea : EA} (hm : X.mg "list" = none) (ha : PAD X W [a] ea) (hg : Gl X "list" := by rfl) (hs : starEach [a] X.env = (false, eval a X.env) :: starEach [] X.env := by rfl) : PD X W (.Call (.Name "list" p) [a] [] pos) (eArgs fListC ea) :=
  pd_callTy call_list_of dListC hg hm (by decide +kernel) ha (by decide) (by decide) hs rfl
/-! ### places and slices -/
def fIx (x y : D) (M : List MO) : R D := match res M x, y with
  | .tup xs, .int i => match atI xs i with
    | some d => .ok d M
    | none => .stuck
  | .lst xs, .int i => match atI xs i with
    | some d => .ok d M
    | none => .stuck
  | .str z, .int i => if z.length ≤ big then match atI z.cps.toList i with
    | some c => .ok (.str ⟨#[c]⟩) M
    | none => .stuck
    else .stuck
  | _, _ => .stuck
theorem atI_rp {C : Kx} {L : List Addr} {G : Hp} {ds : List D} {vs : List V} {i : Int} {d : D} (r : RpL C L G vs ds) (h : atI ds i = some d) : ∃ v, atI vs i = some v ∧ Rp C L G v d := by
  unfold atI at h ⊢
  rw [r.length]
  cases q : ixN ds.length i with
  | none => rw [q] at h; cases h
  | some j => rw [q] at h; exact r.get h
theorem dIx : OpD X W (rIx X.K) fIx := by
  intro x y dx dy M F L G H σ Q o rx ry h
  unfold fIx at h
  split at h
  · rename_i xs i e
    obtain ⟨a, vs, rfl, s, l⟩ := o.viewT rx e
    cases ry
    split at h
    · rename_i d hd
      obtain ⟨v, h1, h2⟩ := atI_rp l hd
      exact .inr (.inl ⟨a, vs, i, v, rfl, rfl, s, h1, aok h o _ h2⟩)
    · exact h.elim
  · rename_i xs i e
    obtain ⟨a, vs, rfl, s, l⟩ := o.viewL rx e
    cases ry
    split at h
    · rename_i d hd
      obtain ⟨v, h1, h2⟩ := atI_rp l hd
      exact .inl ⟨a, vs, i, v, rfl, rfl, .inl (.inl s), h1, aok h o _ h2⟩
    · exact h.elim
  · rename_i z i e
    cases ry
    rw [viewS rx e]
    split at h
    · rename_i hz
      split at h
      · rename_i c hc
        exact .inr (.inr ⟨z, i, c, rfl, rfl, big_line hz, hc, aok h o _ (.str _)⟩)
      · exact h.elim
    · exact h.elim
  · exact h.elim
theorem pd_ix {a b : Expr} {pos : Pos} {ea eb : EV} (ha : PD X W a ea) (hb : PD X W b eb) (hs : PlainIx b := by exact fun _ _ => rfl) : PD X W (.Subscript a b pos) (eBin fIx ea eb) := by
  obtain ⟨ta, pa, qa⟩ := ha
  obtain ⟨tb, pb, qb⟩ := hb
  exact ⟨_, pe_ix ix_seq pa pb hs, hoOp dIx qa qb⟩
/-- an end of a slice -/
def eNoE : EN → List MO → R (Option Int) := fun _ M => .ok none M
def eSomeE (ev : EV) : EN → List MO → R (Option Int) := fun e M => (ev e M).bind fun d M1 => match d with
  | .int i => .ok (some i) M1
  | _ => .stuck
def POD (X : Cx) (W : WX) (a : Option Expr) (ev : EN → List MO → R (Option Int)) : Prop := ∃ t, PO X a t ∧ ∀ (F : Hp) (e : EN) (M : List MO) (σ : L2.St) (L : List Addr) (G H : Hp) (Q : Option Int → Hp → Prop),
  Ok (kx X) F L G M H → RpE (kx X) L G σ e → Aft X W F σ (fun i _ _ _ H' => Q i H') L G (ev e M) → t σ H Q
theorem pod_none : POD X W none eNoE := ⟨_, po_none, fun F e M σ L G H Q o re h => aok h o⟩
theorem pod_some {a : Expr} {ev : EV} (h : PD X W a ev) : POD X W (some a) (eSomeE ev) := by
  obtain ⟨t, p, q⟩ := h
  refine ⟨_, po_some p, fun F e M σ L G H Q o re h => ?_⟩
  refine q F e M σ L G H _ o re ((Aft.bind h).imp fun d M1 L1 G1 H1 o1 x1 h1 v r => ?_)
  split at h1
  · cases r; exact ⟨_, rfl, aok h1 o1⟩
  · exact h1.elim
def cutD {α : Type} (xs : List α) (lo hi : Option Int) : List α := (xs.drop (HT.sIx xs.length 0 lo)).take (HT.sIx xs.length xs.length hi - HT.sIx xs.length 0 lo)
theorem cutD_rp {C : Kx} {L : List Addr} {G : Hp} {ds : List D} {vs : List V} (r : RpL C L G vs ds) (lo hi : Option Int) : RpL C L G (cutV vs lo hi) (cutD ds lo hi) := by
  unfold cutV cutD
  rw [r.length]
  exact (r.drop _).take _
def fSl (x : D) (lo hi : Option Int) (M : List MO) : R D := match res M x with
  | .tup xs => .ok (.tup (cutD xs lo hi)) M
  | .lst xs => .ok (.lst (cutD xs lo hi)) M
  | .str z => if z.length ≤ big then .ok (.str ⟨(cutD z.cps.toList lo hi).toArray⟩) M else .stuck
  | _ => .stuck
def eSl (ea : EV) (el eh : EN → List MO → R (Option Int)) : EV := fun e M => (ea e M).bind fun x M1 => (el e M1).bind fun l M2 => (eh e M2).bind fun h M3 => fSl x l h M3
theorem cutS_eq (z : Str) (lo hi : Option Int) : cutS z lo hi = ⟨(cutD z.cps.toList lo hi).toArray⟩ := by
  unfold cutS cutD
  rfl
def rSlU (K : PySem.W.Frag) : V → Option Int → Option Int → Hp → VK → Prop := fun x lo hi H Q => rSlA K x lo hi H Q ∨ (rSlL K x lo hi H Q ∨ rSlS x lo hi H Q)
theorem slU : SlR X (rSlU X.K) := sl_tupA.or (sl_list.or sl_str)
theorem cut_whole {α : Type} {xs : List α} {lo hi : Option Int} (h : HT.sIx xs.length 0 lo = 0 ∧ HT.sIx xs.length xs.length hi = xs.length) : cutD xs lo hi = xs := by
  unfold cutD
  rw [h.1, h.2]
  simp
theorem dSl {x : V} {dx : D} {lo hi : Option Int} {M : List MO} {F : Hp} {L : List Addr} {G H : Hp} {σ : L2.St} {Q : VK} (o : Ok (kx X) F L G M H) (rx : Rp (kx X) L G x dx) (h : Aft X W F σ (kE X Q) L G (fSl dx lo hi M)) : rSlU X.K x lo hi H Q := by
  unfold fSl at h
  split at h
  · rename_i xs e
    obtain ⟨a, vs, rfl, s, l⟩ := o.viewT rx e
    refine .inl ⟨a, vs, rfl, s, fun hw => ?_, fun hw => newT o (cutD_rp l lo hi) h⟩
    have hw' : cutD xs lo hi = xs := cut_whole (by rw [← l.length]; exact hw)
    rw [hw'] at h
    cases rx with
    | tup k1 k2 => cases e; exact aok h o _ (.tup k1 k2)
    | @cell _ n _ => rcases res_cell M n with z | ⟨_, z⟩ <;> rw [z] at e <;> cases e
    | _ => cases e
  · rename_i xs e
    obtain ⟨a, vs, rfl, s, l⟩ := o.viewL rx e
    exact .inr (.inl ⟨a, vs, rfl, .inl (.inl s), newL o (cutD_rp l lo hi) h⟩)
  · rename_i z e
    rw [viewS rx e]
    split at h
    · rename_i hz
      exact .inr (.inr ⟨z, rfl, big_line hz, by rw [cutS_eq]; exact aok h o _ (.str _)⟩)
    · exact h.elim
  · exact h.elim
theorem pd_slice {a : Expr} {lo hi : Option Expr} {p2 pos : Pos} {ea : EV} {el eh : EN → List MO → R (Option Int)} (ha : PD X W a ea) (hl : POD X W lo el) (hh : POD X W hi eh) : PD X W (.Subscript a (.Slice lo hi none p2) pos) (eSl ea el eh) := by
  obtain ⟨ta, pa, qa⟩ := ha
  obtain ⟨tl, pl, ql⟩ := hl
  obtain ⟨th, ph, qh⟩ := hh
  refine ⟨_, pe_slice slU pa pl ph, fun F e M σ L G H Q o re h => ?_⟩
  refine qa F e M σ L G H _ o re ((Aft.bind h).imp fun x M1 L1 G1 H1 o1 x1 h1 v1 r1 => ?_)
  refine ql F e M1 σ L1 G1 H1 _ o1 (re.mono x1) ((Aft.bind h1).imp fun l M2 L2 G2 H2 o2 x2 h2 => ?_)
  refine qh F e M2 σ L2 G2 H2 _ o2 ((re.mono x1).mono x2) ((Aft.bind h2).imp fun u M3 L3 G3 H3 o3 x3 h3 => ?_)
  exact dSl o3 ((r1.mono x2).mono x3) h3
/-! ### min, max of two ints -/
def f2I (g : Int → Int → Int) (ds : List D) (M : List MO) : R D := match ds with
  | [.int i, .int j] => .ok (.int (g i j)) M
  | _ => .stuck
theorem d2I {g : Int → Int → Int} : CallD X W (fun xs H Q => ∃ i j, xs = [.int i, .int j] ∧ Q (.int (g i j)) H) (f2I g) := by
  intro xs ds M F L G H σ Q o r h
  unfold f2I at h
  split at h
  · obtain ⟨v, w, rfl, r1, r2⟩ := two r
    cases r1; cases r2
    exact ⟨_, _, rfl, aok h o _ (.int _)⟩
  · exact h.elim
def maxI (i j : Int) : Int := if j > i then j else i
def minI (i j : Int) : Int := if j < i then j else i
theorem pd_max2 {a b : Expr} {p pos : Pos} {ea : EA} (hc : X.calm = true) (hm : X.mg "max" = none) (ha : PAD X W [a, b] ea) (hg : Gl X "max" := by rfl) (hs : starEach [a, b] X.env = (false, eval a X.env) :: starEach [b] X.env := by rfl) (hpl : (backTo pos (starEach [b] X.env)).any (·.1) = false := by rfl) : PD X W (.Call (.Name "max" p) [a, b] [] pos) (eArgs (f2I maxI) ea) :=
  pd_callB (call_max2 hc) d2I hg hm (by decide +kernel) ha (by decide) (by decide) hs hpl
theorem pd_min2 {a b : Expr} {p pos : Pos} {ea : EA} (hc : X.calm = true) (hm : X.mg "min" = none) (ha : PAD X W [a, b] ea) (hg : Gl X "min" := by rfl) (hs : starEach [a, b] X.env = (false, eval a X.env) :: starEach [b] X.env := by rfl) (hpl : (backTo pos (starEach [b] X.env)).any (·.1) = false := by rfl) : PD X W (.Call (.Name "min" p) [a, b] [] pos) (eArgs (f2I minI) ea) :=
  pd_callB (call_min2 hc) d2I hg hm (by decide +kernel) ha (by decide) (by decide) hs hpl
/-! ### o[i] = v, o.append(v) -/
def sSub (eo ei ev : EV) : SV := fun e M => (ev e M).toS e fun v M1 => (eo e M1).toS e fun o M2 => (ei e M2).toS e fun i M3 => match o, i with
  | .cell n, .int k => match M3[n]? with
    | some (.lst ds) => match ixN ds.length k with
      | some j => .nx e (M3.set n (.lst (ds.set j v)))
      | none => .stuck
    | _ => .stuck
  | _, _ => .stuck
theorem psd_sub {o i ex : Expr} {pos pos' : Pos} {eo ei ev : EV} (ho : PD X W o eo) (hi : PD X W i ei) (hx : PD X W ex ev)
    (ha : ∀ v, assign (.Subscript o i pos') X.env v = (do
      let ov ← holding [v] (eval o X.env)
      let iv ← holding [v, ov] (eval i X.env)
      standAt pos'
      holding [v, ov, iv] (setItem ov iv v)
      release [v, ov, iv] []) := by intro _; rfl)
    (hs : swapsWithSole [.Subscript o i pos'] ex pos.line X.env = pure false := by rfl) (hw : swappedStores [.Subscript o i pos'] ex X.env = pure none := by rfl)
    (h1 : (assignEach [.Subscript o i pos'] X.env).map (·.2) = [assign (.Subscript o i pos') X.env] := by rfl) : PSD X W (.Assign [.Subscript o i pos'] ex pos) (sSub eo ei ev) := by
  obtain ⟨to, po, qo⟩ := ho
  obtain ⟨ti, pi, qi⟩ := hi
  obtain ⟨tx, px, qx⟩ := hx
  refine ⟨_, ps_asg px (pg_sub po pi set_list ha) hs hw h1, fun F e M σ L G H Dn o re h => ?_⟩
  refine qx F e M σ L G H _ o re ((AftS.toS h re).imp fun v M1 L1 G1 H1 o1 x1 h1 vv rv => ?_)
  refine qo F e M1 σ L1 G1 H1 _ o1 (re.mono x1) ((AftS.toS h1 (re.mono x1)).imp fun od M2 L2 G2 H2 o2 x2 h2 vo ro => ?_)
  refine qi F e M2 σ L2 G2 H2 _ o2 ((re.mono x1).mono x2) ((AftS.toS h2 ((re.mono x1).mono x2)).imp fun id M3 L3 G3 H3 o3 x3 h3 vi ri => ?_)
  split at h3
  · rename_i n k
    cases ri
    cases ro with
    | @cell a _ hl =>
      obtain ⟨u, hu, ku⟩ := o3.here (x3.at hl)
      rw [hu] at h3
      cases u with
      | obj c fs => exact h3.elim
      | lst ds =>
        dsimp only at h3
        obtain ⟨vs, hv, rl⟩ := ku
        split at h3
        · rename_i j hj
          refine ⟨a, vs, k, j, rfl, rfl, hv, by rw [rl.length]; exact hj, ?_⟩
          exact h3 σ L3 G3 _ (o3.cellSet (x3.at hl) (rl.set j ((rv.mono x2).mono x3))) (Ext.refl _ _) (((re.mono x1).mono x2).mono x3)
        · exact h3.elim
  · exact h3.elim
/-! ### methods of built-in types -/
def ckL (o : D) (M : List MO) : Bool := match res M o with
  | .lst _ => true
  | _ => false
def ckS (o : D) (_ : List MO) : Bool := match o with
  | .str _ => true
  | _ => false
def eMeth (ck : D → List MO → Bool) (f : D → List D → List MO → R D) (eo : EV) (ea : EA) : EV := fun e M => (eo e M).bind fun o M1 => if ck o M1 then (ea e M1).bind fun xs M2 => f o xs M2 else .stuck
def CkOk (X : Cx) (T : String) (ck : D → List MO → Bool) : Prop := ∀ (F : Hp) (L : List Addr) (G H : Hp) (M : List MO) (v : V) (d : D), Ok (kx X) F L G M H → Rp (kx X) L G v d → ck d M = true → tyV X.K T v H
theorem ckL_ok : CkOk X "list" ckL := by
  intro F L G H M v d o r h
  unfold ckL at h
  split at h
  · rename_i ds e
    obtain ⟨a, vs, rfl, s, l⟩ := o.viewL r e
    exact .inl ⟨rfl, vs, .inl (.inl s)⟩
  · cases h
theorem ckS_ok : CkOk X "str" ckS := by
  intro F L G H M v d o r h
  unfold ckS at h
  split at h
  · cases r; rfl
  · cases h
def MtD (X : Cx) (W : WX) (r : V → List V → Hp → VK → Prop) (f : D → List D → List MO → R D) : Prop := ∀ (x : V) (vs : List V) (dx : D) (ds : List D) (M : List MO) (F : Hp) (L : List Addr) (G H : Hp) (σ : L2.St) (Q : VK),
  Ok (kx X) F L G M H → Rp (kx X) L G x dx → RpL (kx X) L G vs ds → Aft X W F σ (kE X Q) L G (f dx ds M) → r x vs H Q
theorem MtM.mtr {id : String} {r : V → List V → Hp → VK → Prop} (h : MtM X id r) : MtR X id r := h
theorem pd_meth {o a : Expr} {es : List Expr} {name : Str} {apos cpos : Pos} {T id : String} {r : V → List V → Hp → VK → Prop} {eo : EV} {ea : EA} {ck : D → List MO → Bool} {f : D → List D → List MO → R D} (pa : PlainAttrs T) (slot : Slot T name id) (hty : typeOf (.builtin id) = pure (.type "method_descriptor")) (hm : MtR X id r) (hk : CkOk X T ck) (hd : MtD X W r f)
    (ho : PD X W o eo) (ha : PAD X W (a :: es) ea)
    (hbase : attributeBase o name X.env (eval o X.env) = eval o X.env := by rfl)
    (hfew : ((backTo cpos (starEach (a :: es) X.env)).all (fun x => !x.1) && (backToKw cpos (keywordEach [] X.env)).all (fun x => x.1.isSome)
      && decide ((a :: es).length + ([] : List Keyword).length + (if ([] : List Keyword).isEmpty then 0 else 1) < 30)) = true := by rfl)
    (hline : (apos.endLine == cpos.line) = true := by rfl) (hs : starEach (a :: es) X.env = (false, eval a X.env) :: starEach es X.env := by rfl) (hplain : (backTo cpos (starEach es X.env)).any (·.1) = false := by rfl) :
    PD X W (.Call (.Attribute o name apos) (a :: es) [] cpos) (eMeth ck f eo ea) := by
  obtain ⟨to, po, qo⟩ := ho
  obtain ⟨ta, pa', qa⟩ := ha
  refine ⟨_, pe_bm pa slot hty hm po pa' hbase hfew hline hs hplain, fun F e M σ L G H Q o re h => ?_⟩
  refine qo F e M σ L G H _ o re ((Aft.bind h).imp fun d M1 L1 G1 H1 o1 x1 h1 v r => ?_)
  split at h1
  · rename_i hc
    refine ⟨hk F L1 G1 H1 M1 v d o1 r hc, ?_⟩
    refine qa F e M1 σ L1 G1 H1 _ o1 (re.mono x1) ((Aft.bind h1).imp fun ds M2 L2 G2 H2 o2 x2 h2 vs rs => ?_)
    exact hd v vs d ds M2 F L2 G2 H2 σ Q o2 (r.mono x2) rs h2
  · exact h1.elim
theorem pd_meth0 {o : Expr} {name : Str} {apos cpos : Pos} {T id : String} {r : V → List V → Hp → VK → Prop} {eo : EV} {ck : D → List MO → Bool} {f : D → List D → List MO → R D} (pa : PlainAttrs T) (slot : Slot T name id) (hty : typeOf (.builtin id) = pure (.type "method_descriptor")) (hm : MtR X id r) (hk : CkOk X T ck) (hd : MtD X W r f)
    (ho : PD X W o eo) (hbase : attributeBase o name X.env (eval o X.env) = eval o X.env := by rfl) (hline : (apos.endLine == cpos.line) = true := by rfl) :
    PD X W (.Call (.Attribute o name apos) [] [] cpos) (eMeth ck f eo eNil) := by
  obtain ⟨to, po, qo⟩ := ho
  refine ⟨_, pe_bm0 pa slot hty hm po hbase hline, fun F e M σ L G H Q o re h => ?_⟩
  refine qo F e M σ L G H _ o re ((Aft.bind h).imp fun d M1 L1 G1 H1 o1 x1 h1 v r => ?_)
  split at h1
  · rename_i hc
    exact ⟨hk F L1 G1 H1 M1 v d o1 r hc, hd v [] d [] M1 F L1 G1 H1 σ Q o1 r .nil h1⟩
  · exact h1.elim
def fAppend (o : D) (xs : List D) (M : List MO) : R D := match o, xs with
  | .cell n, [v] => match M[n]? with
    | some (.lst ds) => if ds.length < big then .ok .non (M.set n (.lst (ds ++ [v]))) else .stuck
    | _ => .stuck
  | _, _ => .stuck
theorem dAppend : MtD X W rAppend fAppend := by
  intro x vs dx ds M F L G H σ Q o rx r h
  unfold fAppend at h
  split at h
  · obtain ⟨w, rfl, rw'⟩ := one r
    cases rx with
    | @cell a n hl =>
      obtain ⟨u, hu, ku⟩ := o.here hl
      rw [hu] at h
      cases u with
      | obj c fs => exact h.elim
      | lst es =>
        dsimp only at h
        obtain ⟨us, hv, rl⟩ := ku
        split at h
        · rename_i hz
          exact ⟨a, us, w, rfl, rfl, hv, by rw [rl.length]; exact big_lt (Nat.le_of_lt hz), h L G _ (o.cellSet hl (rl.append (.cons rw' .nil))) (Ext.refl _ _) _ .non⟩
        · exact h.elim
  · exact h.elim
theorem pd_append {o a : Expr} {apos cpos : Pos} {eo : EV} {ea : EA} (ho : PD X W o eo) (ha : PAD X W [a] ea)
    (hbase : attributeBase o "append" X.env (eval o X.env) = eval o X.env := by rfl)
    (hfew : ((backTo cpos (starEach [a] X.env)).all (fun x => !x.1) && (backToKw cpos (keywordEach [] X.env)).all (fun x => x.1.isSome)
      && decide ([a].length + ([] : List Keyword).length + (if ([] : List Keyword).isEmpty then 0 else 1) < 30)) = true := by rfl)
    (hline : (apos.endLine == cpos.line) = true := by rfl) (hs : starEach [a] X.env = (false, eval a X.env) :: starEach [] X.env := by rfl) : PD X W (.Call (.Attribute o "append" apos) [a] [] cpos) (eMeth ckL fAppend eo ea) :=
  pd_meth PySem.F.plainAttrs_list PySem.F.slot_list_append PySem.F.type_list_append (MtM.mtr mt_append) ckL_ok dAppend ho ha hbase hfew hline hs rfl
/-! ### tuple * int, list * int -/
end
section
variable {prog : Program} {w : World} {A : Around} {E : Value → Shared → Prop} {s : Shared}
theorem tuple_mulW1 (l : Addr) (items : Array Value) (n : Nat) (dd : Option Addr) (sl : Array (Option Value)) (x : Int) (u : Tok) (c0 : (decide (x < -(2 ^ 63)) || decide (x ≥ 2 ^ 63)) = false) (c1 : (items.isEmpty || x == 1) = true) :
    Meets (Builtin.«tuple.__mul__» ⟨[.ref l, .int x u], []⟩) (fun _ R s => s.heap.get? l = some { cls := .type "tuple", dict := dd, data := .seq items n, slots := sl } ∧
      R (.ok (.ret (Value.ref l))) s) :=
  .of_wp fun prog w A R s h => by
    obtain ⟨hp, g, d, tk, os⟩ := s
    obtain ⟨hl, h⟩ := h
    have f1 := AutoSeq1.idx_int
    wp_walk using wpAny_loadPart' hl
    repeat (first
      | (refine wpAny_ite_false (decide_eq_false (by rw [c0]; exact Bool.false_ne_true)) ?_; wp_walk using wpAny_loadPart' hl)
      | (refine wpAny_ite_true (decide_eq_true (by rw [c1])) ?_; wp_walk using wpAny_loadPart' hl))
    exact ⟨_, rfl, h⟩
theorem tuple_mulW0 (l : Addr) (items : Array Value) (n : Nat) (dd : Option Addr) (sl : Array (Option Value)) (x : Int) (u : Tok) (c0 : (decide (x < -(2 ^ 63)) || decide (x ≥ 2 ^ 63)) = false) (c1 : (items.isEmpty || x == 1) = false) (c2 : (decide (x ≤ 0) || items.isEmpty) = true) :
    Meets (Builtin.«tuple.__mul__» ⟨[.ref l, .int x u], []⟩) (fun _ R s => s.heap.get? l = some { cls := .type "tuple", dict := dd, data := .seq items n, slots := sl } ∧
      R (.ok (.ret (Value.ref s.heap.objs.size))) { s with heap := s.heap.push { cls := Value.type "tuple", data := Data.seq #[] }, toks := s.toks }) :=
  .of_wp fun prog w A R s h => by
    obtain ⟨hp, g, d, tk, os⟩ := s
    obtain ⟨hl, h⟩ := h
    have f1 := AutoSeq1.idx_int
    wp_walk using wpAny_loadPart' hl
    repeat (first
      | (refine wpAny_ite_false (decide_eq_false (by rw [c0]; exact Bool.false_ne_true)) ?_; wp_walk using wpAny_loadPart' hl)
      | (refine wpAny_ite_false (decide_eq_false (by rw [c1]; exact Bool.false_ne_true)) ?_; wp_walk using wpAny_loadPart' hl)
      | (refine wpAny_ite_true (decide_eq_true (by rw [c2])) ?_; wp_walk using wpAny_loadPart' hl))
    exact ⟨_, rfl, h⟩
end
section
variable {X : Cx} {W : WX}
/-- tuple * int for few turns -/
def rRepS (K : PySem.W.Frag) : R2 := fun x y H Q => ∃ l k xs, x = .ref l ∧ y = .int k ∧ SqT K H l xs ∧ xs ≠ [] ∧ -1000 ≤ k ∧ ((k = 1 ∧ Q (.ref l) H) ∨ (k ≤ 0 ∧ ∀ p, H p = none → Q (.ref p) (upd H p (.tup []))))
theorem op_repS : OpR X (binaryOp .Mult) (rRepS X.K) := by
  intro pins s σ H x y v u Q I rx ry h
  obtain ⟨l, k, xs, rfl, rfl, hT, hne, hk, h⟩ := h
  cases rx
  obtain ⟨t, rfl⟩ := ry
  obtain ⟨its, r, ⟨⟨cls, dd, data, sl⟩, ho, hc, n, hd⟩, hs⟩ := I.tuple hT
  simp only at hc hd
  subst hc hd
  have hle : its.length = xs.length := r.length.symm
  have hi : its.toArray.isEmpty = false := by
    cases its with
    | nil => exact absurd (List.eq_nil_of_length_eq_zero hle.symm) hne
    | cons a b => rfl
  have c0 : (decide (k < -(2 ^ 63)) || decide (k ≥ 2 ^ 63)) = false := by
    rcases h with ⟨rfl, _⟩ | ⟨h, _⟩
    · decide
    · rw [decide_eq_false (by omega), decide_eq_false (by omega)] <;> rfl
  refine wpAny_binaryOp_repeat_ref (T := "tuple") (U := "int") (by decide) ⟨_, ho, rfl⟩ (fun s' => typeIs_int s' k t) noFill_tuple_mul PySem.F.fills_int_mul PySem.F.slot_int_rmul repeat_tuple PySem.F.slot_int_index.lookup
    (call_meets PySem.F.slot_int_rmul (typeIs_int s k t) PySem.F.entry_int_rmul (PySem.F.args_int_rmul_2 _ _) (int_rmul_tuple k t l its.toArray n dd sl) ⟨ho, rfl, ⟨_, ho, rfl⟩, ?_⟩)
  rcases h with ⟨rfl, q⟩ | ⟨h, q⟩
  · exact call_meets PySem.F.slot_tuple_mul ⟨_, ho, rfl⟩ PySem.F.entry_tuple_mul (PySem.F.args_tuple_mul_2 _ _) (tuple_mulW1 l its.toArray n dd sl 1 t c0 (by rw [hi]; rfl)) ⟨ho, ⟨.ref l, H, I, rfl, q⟩⟩
  · refine call_meets PySem.F.slot_tuple_mul ⟨_, ho, rfl⟩ PySem.F.entry_tuple_mul (PySem.F.args_tuple_mul_2 _ _) (tuple_mulW0 l its.toArray n dd sl k t c0 (by rw [hi, Bool.false_or]; exact beq_eq_false_iff_ne.mpr (by omega)) (by rw [decide_eq_true h]; rfl)) ⟨ho, ?_⟩
    have hf : H s.heap.objs.size = none := I.hok.fresh (Nat.le_refl _)
    refine ⟨.ref s.heap.objs.size, upd H s.heap.objs.size (.tup []), I.laid (t' := s.toks) (fun b u e => Heap.get?_push_of_some _ e) (Nat.le_refl _) ?_, rfl, q _ hf⟩
    exact ⟨Nat.zero_le _, [], .nil, ⟨_, Heap.get?_push_size _ rfl, rfl, _, rfl⟩⟩
def repD (k : Nat) (xs : List D) : List D := (List.replicate k xs).flatten
def fMul (x y : D) (M : List MO) : R D := match res M x, y with
  | .int i, .int j => if cMul i j then .ok (.int (i * j)) M else .stuck
  | .tup xs, .int k => if xs.length ≠ 0 ∧ xs.length ≤ 1000 ∧ -1000 ≤ k ∧ k ≤ 1000 then .ok (.tup (repD k.toNat xs)) M else .stuck
  | .lst xs, .int k => if xs.length ≤ 1000 ∧ -1000 ≤ k ∧ k ≤ 1000 then .ok (.lst (repD k.toNat xs)) M else .stuck
  | _, _ => .stuck
theorem RpL.rep {C : Kx} {L : List Addr} {G : Hp} {ds : List D} {vs : List V} (r : RpL C L G vs ds) : ∀ k : Nat, RpL C L G (List.replicate k vs).flatten (repD k ds)
  | 0 => .nil
  | k + 1 => by
    unfold repD
    rw [List.replicate_succ, List.replicate_succ, List.flatten_cons, List.flatten_cons]
    exact r.append (RpL.rep r k)
def rMulU (K : PySem.W.Frag) : R2 := fun x y H Q => rI CMul (fun i j => .int (i * j)) x y H Q ∨ (rRepS K x y H Q ∨ (rRepT K x y H Q ∨ rRep x y H Q))
theorem opMul : OpR X (binaryOp .Mult) (rMulU X.K) := op_mul.or (op_repS.or (op_repT.or op_rep))
theorem dMul : OpD X W (rMulU X.K) fMul := by
  intro x y dx dy M F L G H σ Q o rx ry h
  unfold fMul at h
  split at h
  · rename_i i j ex
    cases ry
    split at h
    · rename_i hz
      exact .inl ⟨i, j, viewI rx ex, rfl, cMul_ok i j hz, aok h o _ (.int _)⟩
    · exact h.elim
  · rename_i xs k ex
    cases ry
    split at h
    · rename_i hz
      obtain ⟨h1, h2, h3, h4⟩ := hz
      obtain ⟨p, vs, rfl, sx, lx⟩ := o.viewT rx ex
      have hne : vs ≠ [] := fun z => by
        subst z
        have := lx.length
        simp at this
        exact h1 this.symm
      by_cases hk : 2 ≤ k
      · exact .inr (.inr (.inl ⟨p, k, vs, rfl, rfl, sx, hne, hk, h4, by rw [lx.length]; exact h2, newT o (lx.rep _) h⟩))
      · refine .inr (.inl ⟨p, k, vs, rfl, rfl, sx, hne, h3, ?_⟩)
        by_cases h1 : k = 1
        · subst h1
          refine .inl ⟨rfl, ?_⟩
          have e1 : repD (1 : Int).toNat xs = xs := by simp [repD]
          rw [e1] at h
          cases rx with
          | tup k1 k2 => cases ex; exact aok h o _ (.tup k1 k2)
          | @cell _ n _ => rcases res_cell M n with z | ⟨_, z⟩ <;> rw [z] at ex <;> cases ex
          | _ => cases ex
        · have hk0 : k ≤ 0 := by omega
          have e1 : repD k.toNat xs = [] := by rw [show k.toNat = 0 by omega]; rfl
          rw [e1] at h
          exact .inr ⟨hk0, newT o (ds := []) .nil h⟩
    · exact h.elim
  · rename_i xs k ex
    cases ry
    split at h
    · rename_i hz
      obtain ⟨h2, h3, h4⟩ := hz
      obtain ⟨p, vs, rfl, sx, lx⟩ := o.viewL rx ex
      refine .inr (.inr (.inr ⟨p, k, vs, rfl, rfl, sx, by omega, by omega, ?_, newL o (lx.rep _) h⟩))
      rw [lx.length, sizeLine_eq]
      have a1 : xs.length * k.toNat ≤ 1000 * 1000 := Nat.mul_le_mul h2 (by omega)
      omega
    · exact h.elim
  · exact h.elim
end
end KB
namespace KB
open PySem PySem.Spec PyProof.Rows L2
/-- the built-in names that the text leaves as they are -/
structure BI (mg : Str → Option Value) : Prop where
  len : mg "len" = none
  range : mg "range" = none
  isinstance : mg "isinstance" = none
  int' : mg "int" = none
  bool' : mg "bool" = none
  tuple' : mg "tuple" = none
  str' : mg "str" = none
  list' : mg "list" = none
  all : mg "all" = none
  min : mg "min" = none
  max : mg "max" = none
  sum : mg "sum" = none
  abs : mg "abs" = none
  sorted : mg "sorted" = none
  set : mg "set" = none
  enumerate : mg "enumerate" = none
  zip : mg "zip" = none
theorem hu65_of {A : Around} {k : Nat} (hr : Room k A) : A.units + 65 < cLine := by have := hr.un; omega
section
variable {X : Cx} {W : WX}
theorem dLt : OpD X W (fun x y H Q => rI0 (fun i j => .bl (decide (i < j))) x y H Q ∨ rOrdT X.K HT.lexLt x y H Q) fLt := dOrd
theorem dLe : OpD X W (fun x y H Q => rI0 (fun i j => .bl (decide (i ≤ j))) x y H Q ∨ rOrdT X.K (fun a b => !HT.lexLt b a) x y H Q) fLe := dOrd
theorem dGt : OpD X W (fun x y H Q => rI0 (fun i j => .bl (decide (j < i))) x y H Q ∨ rOrdT X.K (fun a b => HT.lexLt b a) x y H Q) fGt := dOrd
theorem dGe : OpD X W (fun x y H Q => rI0 (fun i j => .bl (decide (j ≤ i))) x y H Q ∨ rOrdT X.K (fun a b => !HT.lexLt a b) x y H Q) fGe := dOrd
/-! ### raise -/
def sRaise (c : Str) : SV := fun e M => .exc c e M
/-- an own exception class over ValueError, without a body -/
structure ExcC' (C : Kx) (x : Str) : Prop where
  ex : ∃ A : Addr, C.mg x = some (.ref A) ∧ PySem.W.excIn C.K A [.type "ValueError", .type "Exception", .type "BaseException", .type "object"] "ValueError.__new__" = true ∧ PySem.W.keepIn C.K (.ref A) = true ∧ PySem.W.subIn C.K (.ref A) (.type "BaseException") = some true ∧ PySem.W.typeIn C.K (.ref A) = some (.type "type")
theorem psd_raise {x m : Str} {j : Nat} {p p2 pos pos' : Pos} (hc : X.calm = true) (tk : Takes X W) (h : ExcC' (kx X) x) (hg : Gl X x := by rfl) (hdb : (x == ("__debug__" : Str)) = false := by decide) :
    PSD X W (.Raise (some (.Call (.Name x p) [.Constant (.str m) j p2] [] pos)) none pos') (sRaise x) := by
  obtain ⟨A, hm, he, hk, hs, ht⟩ := h.ex
  refine ⟨_, ps_raise hc tk (pmk_own PySem.F.excBase_ValueError he hm hk (raises_own hs ht) hg hdb), fun F e M σ L G H Dn o re h => ?_⟩
  exact h σ L G H _ o (Ext.refl _ _) re hm
end
end KB
namespace KB
open PySem PySem.Spec PyProof.Rows L2
/-! ### tables of the module: a dict with text keys and ints -/
def TabEs (P : Params) : List DictEntry → List (Str × Int) → Prop
  | [], [] => True
  | e :: r, p :: q => (∃ t t', e.key = .str p.1 t ∧ e.hash = PyData.keyHash P p.1 ∧ e.val = .int p.2 t') ∧ TabEs P r q
  | _, _ => False
theorem TabEs.tnil {P : Params} : TabEs P [] [] := trivial
theorem TabEs.tcons {P : Params} {e : DictEntry} {r : List DictEntry} {p : Str × Int} {q : List (Str × Int)} (h : ∃ t t', e.key = .str p.1 t ∧ e.hash = PyData.keyHash P p.1 ∧ e.val = .int p.2 t') (h2 : TabEs P r q) : TabEs P (e :: r) (p :: q) := ⟨h, h2⟩
theorem TabEs.lit {P : Params} : ∀ {es : List DictEntry} {tab : List (Str × Int)}, TabEs P es tab → PySem.W.KeysLit P es
  | [], _, _ => trivial
  | e :: r, [], h => h.elim
  | e :: r, p :: q, h => by
    obtain ⟨⟨t, t', h1, h2, h3⟩, h4⟩ := h
    exact ⟨⟨p.1, t, h1, h2⟩, TabEs.lit h4⟩
theorem isStr_str (x y : Str) (t : Tok) : (Value.str x t).isStr y = (x == y) := rfl
theorem TabEs.find {P : Params} (z : Str) : ∀ {es : List DictEntry} {tab : List (Str × Int)}, TabEs P es tab → (∃ i, tab.lookup z = some i ∧ ∃ e t, es.find? (·.key.isStr z) = some e ∧ e.val = .int i t) ∨ (tab.lookup z = none ∧ es.find? (·.key.isStr z) = none)
  | [], [], _ => .inr ⟨rfl, rfl⟩
  | [], p :: q, h => h.elim
  | e :: r, [], h => h.elim
  | e :: r, (k, v) :: q, h => by
    obtain ⟨⟨t, t', h1, h2, h3⟩, h4⟩ := h
    have hk : e.key.isStr z = (k == z) := by rw [h1]; rfl
    by_cases hz : k = z
    · subst hz
      refine .inl ⟨v, by simp [List.lookup], e, t', ?_, h3⟩
      rw [List.find?_cons_of_pos (by rw [hk]; simp)]
    · have hne : (k == z) = false := by simpa using hz
      have hne' : (z == k) = false := by simpa using fun e => hz e.symm
      rw [List.find?_cons_of_neg (by rw [hk, hne]; simp)]
      rw [List.lookup_cons, hne']
      exact TabEs.find z h4
theorem TabEs.noref {P : Params} : ∀ {es : List DictEntry} {tab : List (Str × Int)}, TabEs P es tab → es.any (·.refKey) = false
  | [], _, _ => rfl
  | e :: r, [], h => h.elim
  | e :: r, p :: q, h => by
    obtain ⟨⟨t, t', h1, h2, h3⟩, h4⟩ := h
    rw [List.any_cons, TabEs.noref h4]
    unfold DictEntry.refKey
    rw [h1]
    rfl
structure TabAt (w : World) (C : Kx) (x : Str) (tab : List (Str × Int)) : Prop where
  ex : ∃ (d : Addr) (es : Array DictEntry) (n : Nat), C.mg x = some (.ref d) ∧ C.K.lookup d = some ⟨.type "dict", none, .dict es n, #[]⟩ ∧ TabEs w.params es.toList tab ∧ (d == sysModules) = false
theorem tab_ns {w : World} {K : PySem.W.Frag} {d : Addr} {es : Array DictEntry} {n : Nat} {tab : List (Str × Int)} (hl : K.lookup d = some ⟨.type "dict", none, .dict es n, #[]⟩) (ht : TabEs w.params es.toList tab) (z : Str) :
    (∃ i t, tab.lookup z = some i ∧ PySem.W.nsIn K d z = some (some (.int i t))) ∨ (tab.lookup z = none ∧ PySem.W.nsIn K d z = some none) := by
  unfold PySem.W.nsIn
  rw [hl]
  dsimp only
  rcases ht.find z with ⟨i, h1, e, t, h2, h3⟩ | ⟨h1, h2⟩
  · rw [h2]; exact .inl ⟨i, t, h1, by dsimp only; rw [h3]⟩
  · rw [h2, ht.noref]; exact .inr ⟨h1, rfl⟩
def fInTab (tab : List (Str × Int)) (x : D) (M : List MO) : R D := match x with
  | .str z => .ok (.bl (tab.lookup z).isSome) M
  | _ => .stuck
def fInNotTab (tab : List (Str × Int)) (x : D) (M : List MO) : R D := match x with
  | .str z => .ok (.bl (!(tab.lookup z).isSome)) M
  | _ => .stuck
def fTab (tab : List (Str × Int)) (x : D) (M : List MO) : R D := match x with
  | .str z => match tab.lookup z with
    | some i => .ok (.int i) M
    | none => .stuck
  | _ => .stuck
section
variable {X : Cx} {W : WX}
theorem hoInTab {x : Str} {tab : List (Str × Int)} {t : TE} {ev : EV} {d : Addr} {es : Array DictEntry} {n : Nat} (hl : X.K.lookup d = some ⟨.type "dict", none, .dict es n, #[]⟩) (ht : TabEs X.w.params es.toList tab) (h : HoE X W t ev) :
    HoE X W (tOp (fun x y H Q => ∃ (z : Str) (r : Option Value), x = .str z ∧ y = .ref d ∧ PySem.W.nsIn X.K d z = some r ∧ Q (.bl r.isSome) H) t (tC (.ref d))) (eUn (fInTab tab) ev) := by
  intro F e M σ L G H Q o re q
  refine h F e M σ L G H _ o re ((Aft.bind q).imp fun dd M1 L1 G1 H1 o1 x1 h1 v r => ?_)
  unfold fInTab at h1
  split at h1
  · rename_i z
    cases r
    rcases tab_ns hl ht z with ⟨i, tk, e1, e2⟩ | ⟨e1, e2⟩
    · rw [e1] at h1; exact ⟨z, _, rfl, rfl, e2, aok h1 o1 _ (.bl _)⟩
    · rw [e1] at h1; exact ⟨z, _, rfl, rfl, e2, aok h1 o1 _ (.bl _)⟩
  · exact h1.elim
theorem hoInNotTab {x : Str} {tab : List (Str × Int)} {t : TE} {ev : EV} {d : Addr} {es : Array DictEntry} {n : Nat} (hl : X.K.lookup d = some ⟨.type "dict", none, .dict es n, #[]⟩) (ht : TabEs X.w.params es.toList tab) (h : HoE X W t ev) :
    HoE X W (tOp (fun x y H Q => ∃ (z : Str) (r : Option Value), x = .str z ∧ y = .ref d ∧ PySem.W.nsIn X.K d z = some r ∧ Q (.bl (!r.isSome)) H) t (tC (.ref d))) (eUn (fInNotTab tab) ev) := by
  intro F e M σ L G H Q o re q
  refine h F e M σ L G H _ o re ((Aft.bind q).imp fun dd M1 L1 G1 H1 o1 x1 h1 v r => ?_)
  unfold fInNotTab at h1
  split at h1
  · rename_i z
    cases r
    rcases tab_ns hl ht z with ⟨i, tk, e1, e2⟩ | ⟨e1, e2⟩
    · rw [e1] at h1; exact ⟨z, _, rfl, rfl, e2, aok h1 o1 _ (.bl _)⟩
    · rw [e1] at h1; exact ⟨z, _, rfl, rfl, e2, aok h1 o1 _ (.bl _)⟩
  · exact h1.elim
theorem pd_inTab {x : Str} {tab : List (Str × Int)} {a : Expr} {ev : EV} {p pos : Pos} (h : TabAt X.w (kx X) x tab) (ha : PD X W a ev) (hg : Gl X x := by rfl) (hd : (x == ("__debug__" : Str)) = false := by decide) (hm : behindInMarks .In (.Name x p) = false := by rfl) : PD X W (.Compare a [.In] [.Name x p] pos) (eUn (fInTab tab) ev) := by
  obtain ⟨d, es, n, h1, h2, h3, h4⟩ := h.ex
  obtain ⟨t, pa, q⟩ := ha
  exact ⟨_, pe_cmpR (op_in_kd ⟨h2, h3.lit, h4⟩) pa (pe_glob (v := .ref d) hg h1 rfl hd) hm, hoInTab (x := x) h2 h3 q⟩
theorem pb_inTab {x : Str} {tab : List (Str × Int)} {a : Expr} {ev : EV} {p pos : Pos} (h : TabAt X.w (kx X) x tab) (ha : PD X W a ev) (hg : Gl X x := by rfl) (hd : (x == ("__debug__" : Str)) = false := by decide) (hm : behindInMarks .In (.Name x p) = false := by rfl) : PB X W (.Compare a [.In] [.Name x p] pos) (eTest (eUn (fInTab tab) ev)) := by
  obtain ⟨d, es, n, h1, h2, h3, h4⟩ := h.ex
  obtain ⟨t, pa, q⟩ := ha
  exact ⟨_, pt_cmpR (op_in_kd ⟨h2, h3.lit, h4⟩) pa (pe_glob (v := .ref d) hg h1 rfl hd) hm, hoTest (hoInTab (x := x) h2 h3 q)⟩
theorem pd_inNotTab {x : Str} {tab : List (Str × Int)} {a : Expr} {ev : EV} {p pos : Pos} (h : TabAt X.w (kx X) x tab) (ha : PD X W a ev) (hg : Gl X x := by rfl) (hd : (x == ("__debug__" : Str)) = false := by decide) (hm : behindInMarks .NotIn (.Name x p) = false := by rfl) : PD X W (.Compare a [.NotIn] [.Name x p] pos) (eUn (fInNotTab tab) ev) := by
  obtain ⟨d, es, n, h1, h2, h3, h4⟩ := h.ex
  obtain ⟨t, pa, q⟩ := ha
  exact ⟨_, pe_cmpR (op_notIn_kd ⟨h2, h3.lit, h4⟩) pa (pe_glob (v := .ref d) hg h1 rfl hd) hm, hoInNotTab (x := x) h2 h3 q⟩
theorem pb_inNotTab {x : Str} {tab : List (Str × Int)} {a : Expr} {ev : EV} {p pos : Pos} (h : TabAt X.w (kx X) x tab) (ha : PD X W a ev) (hg : Gl X x := by rfl) (hd : (x == ("__debug__" : Str)) = false := by decide) (hm : behindInMarks .NotIn (.Name x p) = false := by rfl) : PB X W (.Compare a [.NotIn] [.Name x p] pos) (eTest (eUn (fInNotTab tab) ev)) := by
  obtain ⟨d, es, n, h1, h2, h3, h4⟩ := h.ex
  obtain ⟨t, pa, q⟩ := ha
  exact ⟨_, pt_cmpR (op_notIn_kd ⟨h2, h3.lit, h4⟩) pa (pe_glob (v := .ref d) hg h1 rfl hd) hm, hoTest (hoInNotTab (x := x) h2 h3 q)⟩
theorem pd_tab {x : Str} {tab : List (Str × Int)} {a : Expr} {ev : EV} {p pos : Pos} (h : TabAt X.w (kx X) x tab) (ha : PD X W a ev) (hg : Gl X x := by rfl) (hd : (x == ("__debug__" : Str)) = false := by decide) (hs : PlainIx a := by exact fun _ _ => rfl) : PD X W (.Subscript (.Name x p) a pos) (eUn (fTab tab) ev) := by
  obtain ⟨d, es, n, h1, h2, h3, h4⟩ := h.ex
  obtain ⟨t, pa, q⟩ := ha
  refine ⟨_, pe_ix ix_kdict (pe_glob (v := .ref d) hg h1 rfl hd) pa hs, fun F e M σ L G H Q o re h => ?_⟩
  refine q F e M σ L G H _ o re ((Aft.bind h).imp fun dd M1 L1 G1 H1 o1 x1 h5 v r => ?_)
  unfold fTab at h5
  split at h5
  · rename_i z
    cases r
    rcases tab_ns h2 h3 z with ⟨i, tk, e1, e2⟩ | ⟨e1, e2⟩
    · rw [e1] at h5
      exact ⟨d, z, .int i, rfl, rfl, ⟨es, n, _, h2, h3.lit, e2, ⟨tk, rfl⟩⟩, aok h5 o1 _ (.int i)⟩
    · rw [e1] at h5; exact h5.elim
  · exact h5.elim
/-! ### x in y -/
def dV : D → V
  | .bl b => .bl b
  | .int i => .int i
  | .str s => .str s
  | _ => .non
def flatD : D → Bool
  | .non => true
  | .bl _ => true
  | .int _ => true
  | .str _ => true
  | _ => false
theorem flat_V {C : Kx} {L : List Addr} {G : Hp} {v : V} {d : D} (r : Rp C L G v d) (h : flatD d = true) : v = dV d ∧ flatV v = true := by
  cases r <;> first | exact ⟨rfl, rfl⟩ | cases h
theorem flats_V {C : Kx} {L : List Addr} {G : Hp} : ∀ {ds : List D} {vs : List V}, RpL C L G vs ds → ds.all flatD = true → vs = ds.map dV ∧ vs.all flatV = true
  | [], _, h, _ => by cases h; exact ⟨rfl, rfl⟩
  | d :: ds, _, h, e => by
    cases h with
    | cons h1 h2 =>
      rw [List.all_cons, Bool.and_eq_true] at e
      obtain ⟨rfl, f1⟩ := flat_V h1 e.1
      obtain ⟨rfl, f2⟩ := flats_V h2 e.2
      exact ⟨rfl, by rw [List.all_cons, f1, f2]; rfl⟩
def memD (x : D) (ys : List D) : Bool := ys.any fun z => dEqv z x
def fInB (x y : D) (M : List MO) : Option Bool := match res M y with
  | .tup ys => if flatD x && ys.all flatD then some (inV (dV x) (ys.map dV)) else none
  | .lst ys => if shp (res M x) && shp (.lst ys) then some (memD (res M x) ys) else none
  | .str z => match x with
    | .str a => some (!(Builtin.Str.occurrences z a 0 z.length 1).isEmpty)
    | _ => none
  | _ => none
def fIn (x y : D) (M : List MO) : R D := match fInB x y M with
  | some b => .ok (.bl b) M
  | none => .stuck
def fNotIn (x y : D) (M : List MO) : R D := match fInB x y M with
  | some b => .ok (.bl (!b)) M
  | none => .stuck
theorem any_toPs (x : D) : ∀ ys : List D, ((toPs ys).any fun z => PyData.eqv z (toP x)) = memD x ys
  | [] => rfl
  | y :: ys => by
    have ih := any_toPs x ys
    unfold memD at ih ⊢
    rw [toPs, List.any_cons, List.any_cons, ih]
    rfl
def rInU (K : PySem.W.Frag) : R2 := fun x y H Q => rIn K false x y H Q ∨ (rInD K x y H Q ∨ (∃ i j, x = .str i ∧ y = .str j ∧ Q (.bl (!(Builtin.Str.occurrences j i 0 j.length 1).isEmpty)) H))
def rNotInU (K : PySem.W.Frag) : R2 := fun x y H Q => rIn K true x y H Q ∨ (rNotInD K x y H Q ∨ (∃ i j, x = .str i ∧ y = .str j ∧ Q (.bl (!(!(Builtin.Str.occurrences j i 0 j.length 1).isEmpty))) H))
theorem opIn (hu : X.A.units + 65 < cLine) : OpR X (compareOp .In) (rInU X.K) := op_in_seq.or ((op_inD hu).or op_in_str)
theorem opNotIn (hu : X.A.units + 65 < cLine) : OpR X (compareOp .NotIn) (rNotInU X.K) := op_notIn_seq.or ((op_notInD hu).or op_notin_str)
theorem dIn : OpD X W (rInU X.K) fIn := by
  intro x y dx dy M F L G H σ Q o rx ry h
  unfold fIn at h
  cases hb : fInB dx dy M with
  | none => rw [hb] at h; exact h.elim
  | some b =>
    rw [hb] at h
    unfold fInB at hb
    split at hb
    · rename_i ys e
      split at hb
      · rename_i hf
        cases hb
        rw [Bool.and_eq_true] at hf
        obtain ⟨a, vs, rfl, s, l⟩ := o.viewT ry e
        obtain ⟨rfl, f1⟩ := flat_V rx hf.1
        obtain ⟨rfl, f2⟩ := flats_V l hf.2
        exact .inl ⟨a, _, rfl, .inr s, f1, f2, aok h o _ (.bl _)⟩
      · cases hb
    · rename_i ys e
      split at hb
      · rename_i hf
        cases hb
        rw [Bool.and_eq_true] at hf
        have d1 := dp_res o rx hf.1
        have d2 := dp_res o ry (by rw [e]; exact hf.2)
        rw [e] at d2
        rw [toP] at d2
        refine .inr (.inl ⟨_, _, d1, d2, hf.1, ?_, ?_⟩)
        · have := hf.2; unfold shp at this; rw [toP] at this; exact this
        · rw [any_toPs]; exact aok h o _ (.bl _)
      · cases hb
    · rename_i z e
      split at hb
      · cases hb
        cases rx
        exact .inr (.inr ⟨_, z, rfl, viewS ry e, aok h o _ (.bl _)⟩)
      · cases hb
    · cases hb
theorem dNotIn : OpD X W (rNotInU X.K) fNotIn := by
  intro x y dx dy M F L G H σ Q o rx ry h
  unfold fNotIn at h
  cases hb : fInB dx dy M with
  | none => rw [hb] at h; exact h.elim
  | some b =>
    rw [hb] at h
    unfold fInB at hb
    split at hb
    · rename_i ys e
      split at hb
      · rename_i hf
        cases hb
        rw [Bool.and_eq_true] at hf
        obtain ⟨a, vs, rfl, s, l⟩ := o.viewT ry e
        obtain ⟨rfl, f1⟩ := flat_V rx hf.1
        obtain ⟨rfl, f2⟩ := flats_V l hf.2
        exact .inl ⟨a, _, rfl, .inr s, f1, f2, aok h o _ (.bl _)⟩
      · cases hb
    · rename_i ys e
      split at hb
      · rename_i hf
        cases hb
        rw [Bool.and_eq_true] at hf
        have d1 := dp_res o rx hf.1
        have d2 := dp_res o ry (by rw [e]; exact hf.2)
        rw [e] at d2
        rw [toP] at d2
        refine .inr (.inl ⟨_, _, d1, d2, hf.1, ?_, ?_⟩)
        · have := hf.2; unfold shp at this; rw [toP] at this; exact this
        · rw [any_toPs]; exact aok h o _ (.bl _)
      · cases hb
    · rename_i z e
      split at hb
      · cases hb
        cases rx
        exact .inr (.inr ⟨_, z, rfl, viewS ry e, aok h o _ (.bl _)⟩)
      · cases hb
    · cases hb
/-! ### str(i), int(s), s.startswith(t) -/
def fStrI (ds : List D) (M : List MO) : R D := match ds with
  | [.int i] => if 0 ≤ i ∧ i ≤ 1000000 then .ok (.str (toString i)) M else .stuck
  | _ => .stuck
theorem dStrI : CallD X W (fun xs H Q => ∃ i, xs = [.int i] ∧ i.natAbs.log2 < 1920 ∧ Q (.str (toString i)) H) fStrI := by
  intro xs ds M F L G H σ Q o r h
  unfold fStrI at h
  split at h
  · rename_i i
    obtain ⟨v, rfl, rv⟩ := one r
    cases rv
    split at h
    · rename_i hi
      refine ⟨i, rfl, ?_, aok h o _ (.str _)⟩
      have h1 : i.natAbs < 2 ^ 20 := by omega
      exact Nat.lt_of_lt_of_le (PySem.Flt.log2_lt_of (by decide) h1) (by decide)
    · exact h.elim
  · exact h.elim
theorem pd_strI {a : Expr} {p pos : Pos} {ea : EA} (hm : X.mg "str" = none) (ha : PAD X W [a] ea) (hg : Gl X "str" := by rfl) (hs : starEach [a] X.env = (false, eval a X.env) :: starEach [] X.env := by rfl) : PD X W (.Call (.Name "str" p) [a] [] pos) (eArgs fStrI ea) :=
  pd_callTy call_str_int dStrI hg hm (by decide +kernel) ha (by decide) (by decide) hs rfl
def fIntS (ds : List D) (M : List MO) : R D := match ds with
  | [.str z] => if z.length ≤ 640 then match PySem.intText? z with
    | some n => .ok (.int n) M
    | none => .stuck
    else .stuck
  | _ => .stuck
theorem dIntS : CallD X W (fun xs H Q => ∃ a n, xs = [.str a] ∧ PySem.intText? a = some n ∧ a.length ≤ 640 ∧ Q (.int n) H) fIntS := by
  intro xs ds M F L G H σ Q o r h
  unfold fIntS at h
  split at h
  · rename_i z
    obtain ⟨v, rfl, rv⟩ := one r
    cases rv
    split at h
    · rename_i hz
      split at h
      · rename_i n hn
        exact ⟨z, n, rfl, hn, hz, aok h o _ (.int _)⟩
      · exact h.elim
    · exact h.elim
  · exact h.elim
theorem pd_intS {a : Expr} {p pos : Pos} {ea : EA} (hm : X.mg "int" = none) (ha : PAD X W [a] ea) (hg : Gl X "int" := by rfl) (hs : starEach [a] X.env = (false, eval a X.env) :: starEach [] X.env := by rfl) : PD X W (.Call (.Name "int" p) [a] [] pos) (eArgs fIntS ea) :=
  pd_callTy call_int_str dIntS hg hm (by decide +kernel) ha (by decide) (by decide) hs rfl
def fStarts (o : D) (xs : List D) (M : List MO) : R D := match o, xs with
  | .str a, [.str b] => .ok (.bl (Txt.startswith a b)) M
  | _, _ => .stuck
theorem dStarts : MtD X W (fun x xs H Q => ∃ a b, x = .str a ∧ xs = [.str b] ∧ Q (.bl (Txt.startswith a b)) H) fStarts := by
  intro x vs dx ds M F L G H σ Q o rx r h
  unfold fStarts at h
  split at h
  · obtain ⟨w, rfl, rw'⟩ := one r
    cases rx; cases rw'
    exact ⟨_, _, rfl, rfl, aok h o _ (.bl _)⟩
  · exact h.elim
theorem pd_startswith {o a : Expr} {apos cpos : Pos} {eo : EV} {ea : EA} (ho : PD X W o eo) (ha : PAD X W [a] ea)
    (hbase : attributeBase o "startswith" X.env (eval o X.env) = eval o X.env := by rfl)
    (hfew : ((backTo cpos (starEach [a] X.env)).all (fun x => !x.1) && (backToKw cpos (keywordEach [] X.env)).all (fun x => x.1.isSome)
      && decide ([a].length + ([] : List Keyword).length + (if ([] : List Keyword).isEmpty then 0 else 1) < 30)) = true := by rfl)
    (hline : (apos.endLine == cpos.line) = true := by rfl) (hs : starEach [a] X.env = (false, eval a X.env) :: starEach [] X.env := by rfl) : PD X W (.Call (.Attribute o "startswith" apos) [a] [] cpos) (eMeth ckS fStarts eo ea) :=
  pd_meth PySem.F.plainAttrs_str PySem.F.slot_str_startswith PySem.F.type_str_startswith mt_startswith ckS_ok dStarts ho ha hbase hfew hline hs rfl
/-! ### zip of two -/
def zipD : List D → List D → List D
  | a :: as, b :: bs => .tup [a, b] :: zipD as bs
  | _, _ => []
theorem zipD_get : ∀ (as bs : List D) (i : Nat) (d : D), (zipD as bs)[i]? = some d → ∃ a b, as[i]? = some a ∧ bs[i]? = some b ∧ d = .tup [a, b]
  | [], _, i, d, h => by simp [zipD] at h
  | _ :: _, [], i, d, h => by simp [zipD] at h
  | a :: as, b :: bs, 0, d, h => by simp [zipD] at h; exact ⟨a, b, rfl, rfl, h.symm⟩
  | a :: as, b :: bs, i + 1, d, h => by
    simp only [zipD, List.getElem?_cons_succ] at h ⊢
    exact zipD_get as bs i d h
theorem zipD_length : ∀ (as bs : List D), (zipD as bs).length = min as.length bs.length
  | [], _ => by simp [zipD]
  | _ :: _, [] => by simp [zipD]
  | a :: as, b :: bs => by simp only [zipD, List.length_cons, zipD_length as bs]; omega
def eZip2 (ea : EA) : EI := fun e M => (ea e M).bind fun ds M1 => match ds with
  | [.lst a, .lst b] => .ok (.snap (zipD a b)) M1
  | [.tup a, .tup b] => .ok (.snap (zipD a b)) M1
  | _ => .stuck
theorem walk_zipT {K : PySem.W.Frag} {a b : Addr} {xs ys : List V} {n : Nat} (hn : n = min xs.length ys.length) : Walk (RZ.ItzT K a b) n (fun H => SqT K H a xs ∧ SqT K H b ys) (YPair (fun i => xs[i]?) (fun i => ys[i]?)) := by
  subst hn
  refine ⟨fun i H hi h => ?_, fun H h => ?_, fun i H x H' hi h y => ?_⟩
  · have h1 : i < xs.length := by omega
    have h2 : i < ys.length := by omega
    exact ⟨xs, ys, xs[i], ys[i], h.1, h.2, List.getElem?_eq_getElem h1, List.getElem?_eq_getElem h2⟩
  · exact ⟨xs, ys, h.1, h.2, by omega⟩
  · obtain ⟨T, x1, x2, rfl, nT, rfl, f1, f2⟩ := y
    exact ⟨T, x1, x2, rfl, nT, rfl, f1 xs h.1, f2 ys h.2⟩
theorem wk_pair {L : List Addr} {G : Hp} {J : It} {as bs : List D} {vs ws : List V} {Gd : Hp → Prop} (lx : RpL (kx X) L G vs as) (ly : RpL (kx X) L G ws bs) (w : Walk J (min vs.length ws.length) Gd (YPair (fun i => vs[i]?) (fun i => ws[i]?)))
    (hG : ∀ F' L' G' M' H', Ok (kx X) F' L' G' M' H' → Ext L G L' G' → Gd H') : WkOk X L G J (zipD as bs) := by
  refine ⟨Gd, _, by rw [zipD_length, ← lx.length, ← ly.length]; exact w, hG, ?_⟩
  rintro i d x F' L' G' M' H' H2 hd o e ⟨T, x1, x2, rfl, nT, rfl, f1, f2⟩
  obtain ⟨a, b, ha, hb, rfl⟩ := zipD_get as bs i d hd
  obtain ⟨v, hv, rv⟩ := lx.get ha
  obtain ⟨v', hv', rv'⟩ := ly.get hb
  dsimp only at f1 f2
  rw [hv] at f1; cases f1
  rw [hv'] at f2; cases f2
  obtain ⟨o2, e2⟩ := o.lay (u := .tup [x1, x2]) nT
  exact ⟨_, o2, e2, .tup (.inl (.inl upd_same)) (.cons ((rv.mono e).mono e2) (.cons ((rv'.mono e).mono e2) .nil))⟩
theorem pid_zip2 {a b : Expr} {ea : EA} {p pos tpos : Pos} {elts : List Expr} {kk : Nat} (hc : X.calm = true) (hm : X.mg "zip" = none) (ha : PAD X W [a, b] ea) (hg : Gl X "zip" := by rfl) (hs : starEach [a, b] X.env = (false, eval a X.env) :: starEach [b] X.env := by rfl) (hpl : (backTo pos (starEach [b] X.env)).any (·.1) = false := by rfl) :
    PID X W (.Tuple elts kk tpos) (.Call (.Name "zip" p) [a, b] [] pos) (eZip2 ea) := by
  obtain ⟨t, pa, q⟩ := ha
  refine ⟨_, RZ.pi_zipA hg hm pa hs hpl, fun F e M σ L G H Rq o re h => ?_⟩
  refine q F e M σ L G H _ o re ((Aft.bind h).imp fun ds M1 L1 G1 H1 o1 x1 h1 vs r => ?_)
  split at h1
  · rename_i as bs
    obtain ⟨v, w, rfl, r1, r2⟩ := two r
    cases r1 with
    | lst s1 l1 => cases r2 with
      | lst s2 l2 =>
        refine ⟨_, _, _, _, rfl, .inl ⟨.inl (.inl (o1.sub _ _ s1)), .inl (.inl (o1.sub _ _ s2)), ?_⟩⟩
        exact h1 L1 G1 H1 o1 (Ext.refl _ _) _ G1 H1 o1 (Ext.refl _ _) (wk_pair l1 l2 (walk_zip rfl) fun F' L' G' M' H' o x => ⟨.inl (.inl (o.sub _ _ (x.g _ _ s1))), .inl (.inl (o.sub _ _ (x.g _ _ s2)))⟩)
  · rename_i as bs
    obtain ⟨v, w, rfl, r1, r2⟩ := two r
    cases r1 with
    | tup s1 l1 => cases r2 with
      | tup s2 l2 =>
        refine ⟨_, _, _, _, rfl, .inr ⟨Same.seqT o1.sub s1, Same.seqT o1.sub s2, ?_⟩⟩
        exact h1 L1 G1 H1 o1 (Ext.refl _ _) _ G1 H1 o1 (Ext.refl _ _) (wk_pair l1 l2 (walk_zipT rfl) fun F' L' G' M' H' o x => ⟨Same.seqT o.sub (Same.seqT x.g s1), Same.seqT o.sub (Same.seqT x.g s2)⟩)
  · exact h1.elim
end
end KB
namespace KB
open PySem PySem.Spec PyProof.Rows L2
/-! ### sorted(set(xs)), ints -/
section
variable {P : Program} {w : World} {A : Around} {E : Value → Shared → Prop} {s : Shared}
set_option maxHeartbeats 3200000 in
theorem call_set_lisI {l : Addr} {items : Array Value} (ns : List Int) {Q : Value → Shared → Prop} (hh : A.handled = none) (hl : s.heap.IsList l items) (hit : IntsAre items.toList ns) (hb : ns.length + 1 < scanBound)
    (h : ∀ (h' : Heap) (tk c : Nat), SetR w h' s.heap.objs.size (fun j => decide (j ∈ ns)) c → c ≤ ns.length → (∀ b o, s.heap.get? b = some o → h'.get? b = some o) → Q (.ref s.heap.objs.size) { s with heap := h', toks := tk }) :
    wpAny (model P w) A (call (.type "set") [.ref l]) Q E s := by
  have hisz : items.size = ns.length := by
    have q := IntsAre.length hit
    rw [Array.length_toList] at q
    exact q
  obtain ⟨c, tl, hmro⟩ := F.called_set.mro
  have hmade := F.called_set.made
  have hsub := F.called_set.sub
  refine wpAny_call (codeAny_of_tree ?_)
  show wpAny _ _ (callAny (.type "set") _) _ _ _
  refine wpAny_pure ⟨Code.quiet_builtin _ (by decide +kernel), codeAny_builtin F.entry_type_call ?_⟩
  rw [Around.under_plain (weight_type_call_type "set" [.ref l] []) rfl]
  have h1 := F.called_set.notType
  have h2 := F.called_set.canCreate
  have hct := F.typeCall_set_1 (.ref l)
  repeat (any_goals (first | assumption | wp_step))

  refine codeAny_mono (code_set_led1 (.ref l) (E := E) (Q₁ := fun obj s₁ => obj = .ref s.heap.objs.size ∧ s₁ = { s with heap := s.heap.push { cls := .type "set", dict := none, data := .set #[] 0 (.fresh 0 0 (!w.params.followText "set-order")) } }) ⟨rfl, rfl⟩) fun r s₁ hr => ?_
  cases r with
  | error e => exact hr
  | ok fl =>
    cases fl with
    | ret obj =>
      obtain ⟨rfl, rfl⟩ := hr
      have hS : (s.heap.push { cls := .type "set", dict := none, data := .set #[] 0 (.fresh 0 0 (!w.params.followText "set-order")) }).get? s.heap.objs.size = some { cls := .type "set", dict := none, data := .set #[] 0 (.fresh 0 0 (!w.params.followText "set-order")) } := Heap.get?_push_size _ rfl
      have hT : Shared.TypeIs { s with heap := s.heap.push { cls := .type "set", dict := none, data := .set #[] 0 (.fresh 0 0 (!w.params.followText "set-order")) } } (.ref s.heap.objs.size) "set" := ⟨_, hS, rfl⟩
      have hli := F.called_set.init.lookup
      have hbi := F.called_set.init.bind (.ref s.heap.objs.size)
      repeat (any_goals (first | assumption | wp_step))

      refine codeAny_mono (codeAny_call_builtin (R := wants (fun r s₂ => r = .none ∧ ∃ h' tk c, s₂ = { s with heap := h', toks := tk } ∧ SetR w h' s.heap.objs.size (fun j => decide (j ∈ ns)) c ∧ c ≤ ns.length ∧
          (∀ b o, s.heap.get? b = some o → h'.get? b = some o)) E) F.called_set.init.plain F.entry_set_init (check_set_init_1 hT ?_)) fun r₂ s₂ hr₂ => ?_
      · obtain ⟨ol, hol, hcl, nl, hdl⟩ := hl
        obtain ⟨ocls, odict, odata, oslots⟩ := ol
        simp only at hcl hdl
        subst hcl; subst hdl
        have hol' : (s.heap.push { cls := .type "set", dict := none, data := .set #[] 0 (.fresh 0 0 (!w.params.followText "set-order")) }).get? l = some { cls := .type "list", dict := odict, data := .seq items nl, slots := oslots } := Heap.get?_push_of_some _ hol
        have hsls := F.sub_list_set
        have hslf := F.sub_list_frozenset
        have hne : (Value.type "list" == Value.type "dict") = false := by decide
        have hl1 : (s.heap.push { cls := .type "set", dict := none, data := .set #[] 0 (.fresh 0 0 (!w.params.followText "set-order")) }).IsList l items := ⟨_, hol', rfl, nl, rfl⟩
        unfold Builtin.«set.__init__» noKeywords Builtin.Frozenset.updateFrom
        generalize hPI : pyIter = PI
        wp_walk
        subst hPI

        refine wpAny_pyIter_list hl1 ?_
        refine wpAny_bind (wpAny_runValue ?_)
        have hlS : l < s.heap.objs.size := Heap.lt_size hol
        have hh3 : A.in1.in1.in1.handled = none := by simp [hh]
        have hz1 : (s.heap.push { cls := .type "set", dict := none, data := .set #[] 0 (.fresh 0 0 (!w.params.followText "set-order")) }).objs.size = s.heap.objs.size + 1 := Heap.size_push ..
        have hneI : l ≠ (s.heap.push { cls := .type "set", dict := none, data := .set #[] 0 (.fresh 0 0 (!w.params.followText "set-order")) }).objs.size := by
          rw [Heap.size_push]; exact Nat.ne_of_lt (Nat.lt_succ_of_lt hlS)
        have hSf : s.heap.objs.size ∉ [(s.heap.push { cls := .type "set", dict := none, data := .set #[] 0 (.fresh 0 0 (!w.params.followText "set-order")) }).objs.size, l] := by
          rw [Heap.size_push]; simp only [List.mem_cons, List.mem_singleton, List.not_mem_nil, or_false, not_or]
          exact ⟨Nat.ne_of_lt (Nat.lt_succ_self _), Nat.ne_of_gt hlS⟩
        have hval : ∀ (i : Nat) (v : Value), items[i]? = some v → ∃ k t, ns[i]? = some k ∧ v = .int k t := fun i v hv => by
          have hi : i < ns.length := by rw [← hisz]; exact (Array.getElem?_eq_some_iff.mp hv).1
          obtain ⟨t, e⟩ := PyProof.Rows.IntsAre.int_at hit i v (by rw [Array.getElem?_toList]; exact hv)
          refine ⟨ns[i], t, List.getElem?_eq_getElem hi, ?_⟩
          rw [e, List.getD_eq_getElem?_getD, List.getElem?_eq_getElem hi] <;> rfl
        refine set_update_ints ((Walks.list hh3 _ l hneI items).toS) s.heap.objs.size
          hSf ns hisz hb hval (items.size - 0) 0 _ (by omega) (Nat.zero_le _)
          ⟨⟨_, Heap.get?_push_size _ rfl, rfl, rfl⟩, (hl1.push _)⟩ ?hS0 ?hR
        case hS0 =>
          have hget : ((s.heap.push { cls := .type "set", dict := none, data := .set #[] 0 (.fresh 0 0 (!w.params.followText "set-order")) }).push { cls := .type "list_iterator", data := .fields #[.ref l, .int 0 0] }).get? s.heap.objs.size
              = some { cls := .type "set", dict := none, data := .set #[] 0 (.fresh 0 0 (!w.params.followText "set-order")) } := Heap.get?_push_of_some _ hS
          exact ⟨0, Nat.le_refl 0, setR_new_at hget⟩
        case hR =>
          intro s' c' hm hc' hS'
          obtain ⟨h', g2, d', tk', os'⟩ := s'
          have eg : g2 = s.gens := hm.gens
          have ed : d' = s.drawn := hm.drawn
          have eo : os' = s.os := hm.os
          subst eg; subst ed; subst eo
          show wpAny _ _ _ _ _ _
          refine wpAny_pure ?_
          show wpAny _ _ (ret Value.none) _ _ _
          rw [hisz] at hc'
          refine wpAny_pure ⟨rfl, h', tk', c', rfl, hS', hc', fun b o e => ?_⟩
          have hb0 : b < s.heap.objs.size := Heap.lt_size e
          have hb1 : b ≠ s.heap.objs.size := Nat.ne_of_lt hb0
          have hb2 : b ≠ (s.heap.push { cls := .type "set", dict := none, data := .set #[] 0 (.fresh 0 0 (!w.params.followText "set-order")) }).objs.size := by
            rw [Heap.size_push]; exact Nat.ne_of_lt (Nat.lt_succ_of_lt hb0)
          exact hm.heap b o (by simp only [List.mem_cons, List.mem_singleton, List.not_mem_nil, or_false, not_or]; exact ⟨hb1, hb2⟩) (Heap.get?_push_of_some _ (Heap.get?_push_of_some _ e))

      · cases r₂ with
        | error e => exact hr₂
        | ok fl₂ =>
          cases fl₂ with
          | ret r =>
            obtain ⟨rfl, h', tk, c', rfl, hS', hc', hk'⟩ := hr₂
            repeat (any_goals (first | assumption | wp_step))
            exact h _ _ _ hS' hc' hk'
          | _ => exact hr₂.elim
    | _ => exact hr.elim

end
end KB
namespace KB
open PySem PySem.Spec PyProof.Rows L2
section
variable {X : Cx} {W : WX}
def tSortSetI (K : PySem.W.Frag) (ta : TE) : TE := fun σ H Q => ta σ H fun x H1 => ∃ (l : Addr) (ns : List Int), x = .ref l ∧ SqL K H1 l (ns.map V.int) ∧ ns.length < 64 ∧
  ∀ (ns' : List Int) (p : Addr), ns'.Pairwise (· < ·) → (∀ k, k ∈ ns' ↔ k ∈ ns) → H1 p = none → Q (.ref p) (upd H1 p (.lst (ns'.map V.int)))
theorem pe_sortSetI {a : Expr} {ta : TE} {p p2 q pos : Pos} (hc : X.calm = true) (hg : Gl X "sorted") (hm : X.mg "sorted" = none) (hg2 : Gl X "set") (hm2 : X.mg "set" = none) (ha : PE X a ta)
    (na : starEach [a] X.env = (false, eval a X.env) :: starEach [] X.env := by rfl) : PE X (.Call (.Name "sorted" p) [.Call (.Name "set" p2) [a] [] q] [] pos) (tSortSetI X.K ta) := by
  refine ⟨fun pins s σ H Q I h => ?_⟩
  refine Call_ (ld_blt I hg hm (show bootBuiltins "sorted" = some (.builtin "sorted") by decide +kernel) ?_)
  refine PyProof.Rows.callWith_builtin1 (PyProof.Rows.args_cons ?_ rfl) rfl rfl
  refine Call_ (ld_blt I hg2 hm2 PyProof.Rows.boot_set ?_)
  refine PyProof.Rows.callWith_type1 (PyProof.Rows.args_cons (thn (ha.run pins s σ H _ I h) fun v s1 ⟨x, H1, I1, r1, q1⟩ => PyProof.Rows.args_nil ?_) na) na rfl
  obtain ⟨l, ns, rfl, hq, h1, q1⟩ := q1
  cases r1
  obtain ⟨its, r, pl, hz⟩ := I1.list hq
  have hl : its.length = ns.length := by rw [← r.length, List.length_map]
  refine call_set_lisI ns (I1.ok.hd hc) pl.isList (by simpa using r.ints) (by unfold scanBound; omega) fun h' tk c hS hcl hk => ?_
  refine PyProof.Rows.args_nil ?_
  have I2 : Inv X pins σ H1 { s1 with heap := h', toks := tk } := I1.kept fun b o e => hk b o e
  have hd2 := I1.ok.hd hc
  have hS : SetR X.w ({ s1 with heap := h', toks := tk } : Shared).heap s1.heap.objs.size (fun j => decide (j ∈ ns)) c := hS
  generalize { s1 with heap := h', toks := tk } = s2 at I2 hS ⊢
  refine sorted_set hS hd2 (by omega) fun s' p out c' ns' k g o hp hg' hout pw mem hln => ?_
  have hn : H1 p = none := I2.hok.fresh hp
  have hlen : (ns'.map V.int).length ≤ sizeLine := by rw [List.length_map, sizeLine_eq]; omega
  have J : Inv X pins σ (upd H1 p (.lst (ns'.map V.int))) { s2 with heap := s'.heap, gens := s'.gens, drawn := s'.drawn, toks := s'.toks } :=
    I2.call (ch := []) (Un.laid k hp hn) (I2.hok.laid k hp ⟨hlen, out.toList, c', vals_of_ints hout, by simpa using hg'⟩) (by rw [g]; exact I2.bare) (fun _ z => nomatch z)
  have e : s' = { s2 with heap := s'.heap, gens := s'.gens, drawn := s'.drawn, toks := s'.toks } := by
    cases s'
    cases s2
    cases o
    rfl
  rw [e]
  exact ⟨.ref p, _, J, rfl, q1 ns' p pw (fun k => by rw [mem k]; simp) hn⟩
end

/-! ### min, max of two byte strings -/
section
variable {prog : Program} {w : World} {A : Around} {E : Value → Shared → Prop} {s : Shared}

theorem call_max_two' {a b : Value} {bt : Bool} {Q : Value → Shared → Prop} (hh : A.handled = none)
    (hcmp : ∀ (s' : Shared) (Q' E' : Value → Shared → Prop), (∀ c o, s.heap.get? c = some o → s'.heap.get? c = some o) → Q' (.bool bt) s' → wpAny (model prog w) A.in1 (richCompare .Gt b a) Q' E' s')
    (hQ : ∀ h' tk, (∀ c o, s.heap.get? c = some o → h'.get? c = some o) → Q (if bt then b else a) { s with heap := h', toks := tk }) :
    wpAny (model prog w) A (call (.builtin "max") [a, b]) Q E s := by
  have hname : (toString "max" ++ toString ".loop" : String) = "max.loop" := by decide
  refine call_function_tree F.kind_max F.plain_max F.entry_max (F.args_max2 _ _) ?_
  show wpAny _ A.in1 (Builtin.Builtins.bindParams "max" ["key", "default"] 0 ⟨[], []⟩ >>= _) _ _ s
  refine wpAny_bind (wpAny_of_eq (show Builtin.Builtins.bindParams "max" ["key", "default"] 0 ⟨[], []⟩ = pure [none, none] from rfl) ?_)
  show wpAny _ A.in1 (newTuple [a, b] >>= _) _ _ s
  refine wpAny_bind (wpAny_newObj_type ?_)
  have hT : (s.heap.push { cls := .type "tuple", data := .seq #[a, b] }).IsTuple s.heap.objs.size #[a, b] := ⟨_, Heap.get?_push_size _ rfl, rfl, 0, rfl⟩
  have k1 : ∀ c o, s.heap.get? c = some o → (s.heap.push { cls := .type "tuple", data := .seq #[a, b] }).get? c = some o := fun c o e => Heap.get?_push_of_some _ e
  have z1 : (s.heap.push { cls := .type "tuple", data := .seq #[a, b] }).objs.size = s.heap.objs.size + 1 := Heap.size_push ..
  show wpAny _ A.in1 (pyIter (.ref s.heap.objs.size) >>= _) _ _ { s with heap := s.heap.push { cls := .type "tuple", data := .seq #[a, b] } }
  generalize (s.heap.push { cls := .type "tuple", data := .seq #[a, b] }) = h1 at hT k1 z1 ⊢
  refine wpAny_bind (wpAny_pyIter_tuple (s := { s with heap := h1 }) hT ?_)
  have hI : (h1.push { cls := .type "tuple_iterator", data := .fields #[.ref s.heap.objs.size, .int 0 0] }).IsTupleIter h1.objs.size s.heap.objs.size 0 := ⟨_, Heap.get?_push_size _ rfl, rfl, rfl⟩
  have hT2 := hT.push { cls := .type "tuple_iterator", data := .fields #[.ref s.heap.objs.size, .int 0 0] }
  have k2 : ∀ c o, s.heap.get? c = some o → (h1.push { cls := .type "tuple_iterator", data := .fields #[.ref s.heap.objs.size, .int 0 0] }).get? c = some o := fun c o e => Heap.get?_push_of_some _ (k1 c o e)
  have z2 : (h1.push { cls := .type "tuple_iterator", data := .fields #[.ref s.heap.objs.size, .int 0 0] }).objs.size = s.heap.objs.size + 2 := by rw [Heap.size_push, z1]
  dsimp only
  generalize (h1.push { cls := .type "tuple_iterator", data := .fields #[.ref s.heap.objs.size, .int 0 0] }) = h2 at hI hT2 k2 z2 ⊢
  refine wpAny_bind (wpAny_newObj_type ?_)
  rw [z1] at hI ⊢
  rw [hname]
  have W := Walks.tuple (prog := prog) (w := w) (A := A.in1) hh (s.heap.objs.size + 1) s.heap.objs.size (Nat.ne_of_lt (Nat.lt_succ_self _)) #[a, b]
  have hS : (h2.push { cls := .type "list", data := .seq #[] }).get? h2.objs.size = some { cls := .type "list", dict := none, data := .seq #[] 0, slots := #[] } := Heap.get?_push_size _ rfl
  have st0 : (h2.push { cls := .type "list", data := .seq #[] }).IsTupleIter (s.heap.objs.size + 1) s.heap.objs.size 0 ∧ (h2.push { cls := .type "list", data := .seq #[] }).IsTuple s.heap.objs.size #[a, b] := W.frame 0 h2 _ ⟨hI, hT2⟩ fun b _ o e => Heap.get?_push_of_some _ e
  have k3 : ∀ c o, s.heap.get? c = some o → (h2.push { cls := .type "list", data := .seq #[] }).get? c = some o := fun c o e => Heap.get?_push_of_some _ (k2 c o e)
  rw [z2] at hS
  refine wpAny_pure ⟨plainId_quiet F.plain_max_loop _, ?_⟩
  show codeAny (model prog w) A (.builtin "max.loop" ⟨[.ref (s.heap.objs.size + 1), .none, .ref h2.objs.size], []⟩) _ { s with heap := h2.push { cls := .type "list", data := .seq #[] } }
  rw [z2]
  generalize (h2.push { cls := .type "list", data := .seq #[] }) = h3 at hS st0 k3 ⊢
  have nI : ∀ {c : Addr} {o : Obj}, s.heap.get? c = some o → c ∉ [s.heap.objs.size + 1] := fun e hm => absurd (Heap.lt_size e) (by rw [List.mem_singleton.mp hm]; exact Nat.not_lt.mpr (Nat.le_succ _))
  have nS : ∀ {c : Addr} {o : Obj}, s.heap.get? c = some o → s.heap.objs.size + 2 ≠ c := fun e z => absurd (Heap.lt_size e) (by rw [← z]; exact Nat.not_lt.mpr (Nat.le_add_right _ _))
  have SI : s.heap.objs.size + 2 ∉ [s.heap.objs.size + 1] := fun hm => absurd (List.mem_singleton.mp hm) (Nat.ne_of_gt (Nat.lt_succ_self _))
  have Sf : ∀ c ∈ [s.heap.objs.size + 1, s.heap.objs.size], s.heap.objs.size + 2 ≠ c := fun c hc z => by
    subst z
    rcases List.mem_cons.mp hc with e | e
    · exact absurd e (Nat.ne_of_gt (Nat.lt_succ_self _))
    · exact absurd (List.mem_singleton.mp e) (Nat.ne_of_gt (Nat.lt_add_of_pos_right (by decide)))
  -- the first
  refine codeAny_builtin F.entry_max_loop ?_
  rw [Around.under_plainId F.plain_max_loop _]
  show wpAny _ A.in1 (seqItems? (.ref (s.heap.objs.size + 2)) >>= _) _ _ _
  refine wpAny_bind (wpAny_seqItems hS rfl ?_)
  show wpAny _ A.in1 (tryCatch (pyNext (.ref (s.heap.objs.size + 1))) _ >>= _) _ _ _
  refine wpAny_bind (wpAny_tryCatch (W.item 0 _ _ _ (by simp) st0 fun v h4 tk4 hP st4 hk4 => ?_))
  obtain rfl : a = v := Option.some.inj hP
  have hS4 := hk4 _ _ SI hS
  have k4 : ∀ c o, s.heap.get? c = some o → h4.get? c = some o := fun c o e => hk4 c o (nI e) (k3 c o e)
  show wpAny _ A.in1 (updateSeq (s.heap.objs.size + 2) (fun _ => #[a, a]) >>= _) _ _ _
  refine wpAny_bind ?_
  refine wpAny_updateSeq hS4 rfl ?_
  rw [hname]
  refine wpAny_pure ⟨plainId_quiet F.plain_max_loop _, ?_⟩
  -- the second
  have hS5 := Heap.get?_update_self (Obj.mapSeq fun _ => #[a, a]) hS4 rfl
  have st5 := W.frame 1 h4 (h4.update (s.heap.objs.size + 2) (Obj.mapSeq fun _ => #[a, a])) st4 fun b hb o e => (Heap.get?_update_other _ _ (Sf b hb)).trans e
  have k5 : ∀ c o, s.heap.get? c = some o → (h4.update (s.heap.objs.size + 2) (Obj.mapSeq fun _ => #[a, a])).get? c = some o := fun c o e => (Heap.get?_update_other _ _ (nS e)).trans (k4 c o e)
  show codeAny (model prog w) A (.builtin "max.loop" ⟨[.ref (s.heap.objs.size + 1), .none, .ref (s.heap.objs.size + 2)], []⟩) _ { s with heap := h4.update (s.heap.objs.size + 2) (Obj.mapSeq fun _ => #[a, a]), toks := tk4 }
  generalize (h4.update (s.heap.objs.size + 2) (Obj.mapSeq fun _ => #[a, a])) = h5 at hS5 st5 k5 ⊢
  refine codeAny_builtin F.entry_max_loop ?_
  rw [Around.under_plainId F.plain_max_loop _]
  show wpAny _ A.in1 (seqItems? (.ref (s.heap.objs.size + 2)) >>= _) _ _ _
  refine wpAny_bind (wpAny_seqItems hS5 rfl ?_)
  show wpAny _ A.in1 (tryCatch (pyNext (.ref (s.heap.objs.size + 1))) _ >>= _) _ _ _
  refine wpAny_bind (wpAny_tryCatch (W.item 1 _ _ _ (by simp) st5 fun v h6 tk6 hP st6 hk6 => ?_))
  obtain rfl : b = v := Option.some.inj hP
  have hS6 := hk6 _ _ SI hS5
  have k6 : ∀ c o, s.heap.get? c = some o → h6.get? c = some o := fun c o e => hk6 c o (nI e) (k5 c o e)
  show wpAny _ A.in1 (tryCatch (holding [b, b] (richCompare .Gt b a >>= _)) _ >>= _) _ _ _
  refine wpAny_bind (wpAny_tryCatch (wpAny_holding (wpAny_bind (hcmp _ _ _ k6 ?_))))
  refine wpAny_bind (wpAny_holding (wpAny_truthy_bool ?_))
  refine wpAny_bind (wpAny_letGo (wpAny_pure ?_))
  -- the end
  have fin : ∀ (vb : Value) (h7 : Heap) (tk7 c7 : Nat), Q vb = Q (if bt then b else a) → h7.get? (s.heap.objs.size + 2) = some { cls := .type "list", dict := none, data := .seq #[vb, vb] c7, slots := #[] } →
      (h7.IsTupleIter (s.heap.objs.size + 1) s.heap.objs.size 2 ∧ h7.IsTuple s.heap.objs.size #[a, b]) → (∀ c o, s.heap.get? c = some o → h7.get? c = some o) →
      codeAny (model prog w) A (.builtin "max.loop" ⟨[.ref (s.heap.objs.size + 1), .none, .ref (s.heap.objs.size + 2)], []⟩) (fun r s' => match r with | .ok (.ret v) => Q v s' | .ok _ => False | .error e => E e s') { s with heap := h7, toks := tk7 } := by
    intro vb h7 tk7 c7 hv hS7 st7 k7
    refine codeAny_builtin F.entry_max_loop ?_
    rw [Around.under_plainId F.plain_max_loop _]
    show wpAny _ A.in1 (seqItems? (.ref (s.heap.objs.size + 2)) >>= _) _ _ _
    refine wpAny_bind (wpAny_seqItems hS7 rfl ?_)
    show wpAny _ A.in1 (tryCatch (pyNext (.ref (s.heap.objs.size + 1))) _ >>= _) _ _ _
    refine wpAny_bind (wpAny_tryCatch (W.done _ _ _ st7 fun h8 tk8 hk8 => ?_))
    have hS8 := hk8 _ _ SI hS7
    show wpAny _ A.in1 (updateSeq (s.heap.objs.size + 2) (fun _ => #[]) >>= _) _ _ _
    refine wpAny_bind ?_
    refine wpAny_updateSeq hS8 rfl (wpAny_bind (wpAny_letGo (wpAny_pure ?_)))
    show Q vb _
    rw [hv]
    exact hQ _ _ fun c o e => (Heap.get?_update_other _ _ (nS e)).trans (hk8 c o (nI e) (k7 c o e))
  cases bt with
  | true =>
    simp only [if_true]
    refine wpAny_bind ?_
    refine wpAny_updateSeq hS6 rfl (wpAny_bind (wpAny_letGo ?_))
    rw [hname]
    refine wpAny_pure ⟨plainId_quiet F.plain_max_loop _, fin b _ _ _ rfl (Heap.get?_update_self _ hS6 rfl) (W.frame 2 h6 _ st6 fun b hb o e => (Heap.get?_update_other _ _ (Sf b hb)).trans e) fun c o e => (Heap.get?_update_other _ _ (nS e)).trans (k6 c o e)⟩
  | false =>
    simp only [Bool.false_eq_true, if_false]
    refine wpAny_bind (wpAny_letGo ?_)
    rw [hname]
    exact wpAny_pure ⟨plainId_quiet F.plain_max_loop _, fin a _ _ _ rfl hS6 st6 k6⟩

theorem call_min_two' {a b : Value} {bt : Bool} {Q : Value → Shared → Prop} (hh : A.handled = none)
    (hcmp : ∀ (s' : Shared) (Q' E' : Value → Shared → Prop), (∀ c o, s.heap.get? c = some o → s'.heap.get? c = some o) → Q' (.bool bt) s' → wpAny (model prog w) A.in1 (richCompare .Lt b a) Q' E' s')
    (hQ : ∀ h' tk, (∀ c o, s.heap.get? c = some o → h'.get? c = some o) → Q (if bt then b else a) { s with heap := h', toks := tk }) :
    wpAny (model prog w) A (call (.builtin "min") [a, b]) Q E s := by
  have hname : (toString "min" ++ toString ".loop" : String) = "min.loop" := by decide
  refine call_function_tree F.kind_min F.plain_min F.entry_min (F.args_min2 _ _) ?_
  show wpAny _ A.in1 (Builtin.Builtins.bindParams "min" ["key", "default"] 0 ⟨[], []⟩ >>= _) _ _ s
  refine wpAny_bind (wpAny_of_eq (show Builtin.Builtins.bindParams "min" ["key", "default"] 0 ⟨[], []⟩ = pure [none, none] from rfl) ?_)
  show wpAny _ A.in1 (newTuple [a, b] >>= _) _ _ s
  refine wpAny_bind (wpAny_newObj_type ?_)
  have hT : (s.heap.push { cls := .type "tuple", data := .seq #[a, b] }).IsTuple s.heap.objs.size #[a, b] := ⟨_, Heap.get?_push_size _ rfl, rfl, 0, rfl⟩
  have k1 : ∀ c o, s.heap.get? c = some o → (s.heap.push { cls := .type "tuple", data := .seq #[a, b] }).get? c = some o := fun c o e => Heap.get?_push_of_some _ e
  have z1 : (s.heap.push { cls := .type "tuple", data := .seq #[a, b] }).objs.size = s.heap.objs.size + 1 := Heap.size_push ..
  show wpAny _ A.in1 (pyIter (.ref s.heap.objs.size) >>= _) _ _ { s with heap := s.heap.push { cls := .type "tuple", data := .seq #[a, b] } }
  generalize (s.heap.push { cls := .type "tuple", data := .seq #[a, b] }) = h1 at hT k1 z1 ⊢
  refine wpAny_bind (wpAny_pyIter_tuple (s := { s with heap := h1 }) hT ?_)
  have hI : (h1.push { cls := .type "tuple_iterator", data := .fields #[.ref s.heap.objs.size, .int 0 0] }).IsTupleIter h1.objs.size s.heap.objs.size 0 := ⟨_, Heap.get?_push_size _ rfl, rfl, rfl⟩
  have hT2 := hT.push { cls := .type "tuple_iterator", data := .fields #[.ref s.heap.objs.size, .int 0 0] }
  have k2 : ∀ c o, s.heap.get? c = some o → (h1.push { cls := .type "tuple_iterator", data := .fields #[.ref s.heap.objs.size, .int 0 0] }).get? c = some o := fun c o e => Heap.get?_push_of_some _ (k1 c o e)
  have z2 : (h1.push { cls := .type "tuple_iterator", data := .fields #[.ref s.heap.objs.size, .int 0 0] }).objs.size = s.heap.objs.size + 2 := by rw [Heap.size_push, z1]
  dsimp only
  generalize (h1.push { cls := .type "tuple_iterator", data := .fields #[.ref s.heap.objs.size, .int 0 0] }) = h2 at hI hT2 k2 z2 ⊢
  refine wpAny_bind (wpAny_newObj_type ?_)
  rw [z1] at hI ⊢
  rw [hname]
  have W := Walks.tuple (prog := prog) (w := w) (A := A.in1) hh (s.heap.objs.size + 1) s.heap.objs.size (Nat.ne_of_lt (Nat.lt_succ_self _)) #[a, b]
  have hS : (h2.push { cls := .type "list", data := .seq #[] }).get? h2.objs.size = some { cls := .type "list", dict := none, data := .seq #[] 0, slots := #[] } := Heap.get?_push_size _ rfl
  have st0 : (h2.push { cls := .type "list", data := .seq #[] }).IsTupleIter (s.heap.objs.size + 1) s.heap.objs.size 0 ∧ (h2.push { cls := .type "list", data := .seq #[] }).IsTuple s.heap.objs.size #[a, b] := W.frame 0 h2 _ ⟨hI, hT2⟩ fun b _ o e => Heap.get?_push_of_some _ e
  have k3 : ∀ c o, s.heap.get? c = some o → (h2.push { cls := .type "list", data := .seq #[] }).get? c = some o := fun c o e => Heap.get?_push_of_some _ (k2 c o e)
  rw [z2] at hS
  refine wpAny_pure ⟨plainId_quiet F.plain_min_loop _, ?_⟩
  show codeAny (model prog w) A (.builtin "min.loop" ⟨[.ref (s.heap.objs.size + 1), .none, .ref h2.objs.size], []⟩) _ { s with heap := h2.push { cls := .type "list", data := .seq #[] } }
  rw [z2]
  generalize (h2.push { cls := .type "list", data := .seq #[] }) = h3 at hS st0 k3 ⊢
  have nI : ∀ {c : Addr} {o : Obj}, s.heap.get? c = some o → c ∉ [s.heap.objs.size + 1] := fun e hm => absurd (Heap.lt_size e) (by rw [List.mem_singleton.mp hm]; exact Nat.not_lt.mpr (Nat.le_succ _))
  have nS : ∀ {c : Addr} {o : Obj}, s.heap.get? c = some o → s.heap.objs.size + 2 ≠ c := fun e z => absurd (Heap.lt_size e) (by rw [← z]; exact Nat.not_lt.mpr (Nat.le_add_right _ _))
  have SI : s.heap.objs.size + 2 ∉ [s.heap.objs.size + 1] := fun hm => absurd (List.mem_singleton.mp hm) (Nat.ne_of_gt (Nat.lt_succ_self _))
  have Sf : ∀ c ∈ [s.heap.objs.size + 1, s.heap.objs.size], s.heap.objs.size + 2 ≠ c := fun c hc z => by
    subst z
    rcases List.mem_cons.mp hc with e | e
    · exact absurd e (Nat.ne_of_gt (Nat.lt_succ_self _))
    · exact absurd (List.mem_singleton.mp e) (Nat.ne_of_gt (Nat.lt_add_of_pos_right (by decide)))
  -- the first
  refine codeAny_builtin F.entry_min_loop ?_
  rw [Around.under_plainId F.plain_min_loop _]
  show wpAny _ A.in1 (seqItems? (.ref (s.heap.objs.size + 2)) >>= _) _ _ _
  refine wpAny_bind (wpAny_seqItems hS rfl ?_)
  show wpAny _ A.in1 (tryCatch (pyNext (.ref (s.heap.objs.size + 1))) _ >>= _) _ _ _
  refine wpAny_bind (wpAny_tryCatch (W.item 0 _ _ _ (by simp) st0 fun v h4 tk4 hP st4 hk4 => ?_))
  obtain rfl : a = v := Option.some.inj hP
  have hS4 := hk4 _ _ SI hS
  have k4 : ∀ c o, s.heap.get? c = some o → h4.get? c = some o := fun c o e => hk4 c o (nI e) (k3 c o e)
  show wpAny _ A.in1 (updateSeq (s.heap.objs.size + 2) (fun _ => #[a, a]) >>= _) _ _ _
  refine wpAny_bind ?_
  refine wpAny_updateSeq hS4 rfl ?_
  rw [hname]
  refine wpAny_pure ⟨plainId_quiet F.plain_min_loop _, ?_⟩
  -- the second
  have hS5 := Heap.get?_update_self (Obj.mapSeq fun _ => #[a, a]) hS4 rfl
  have st5 := W.frame 1 h4 (h4.update (s.heap.objs.size + 2) (Obj.mapSeq fun _ => #[a, a])) st4 fun b hb o e => (Heap.get?_update_other _ _ (Sf b hb)).trans e
  have k5 : ∀ c o, s.heap.get? c = some o → (h4.update (s.heap.objs.size + 2) (Obj.mapSeq fun _ => #[a, a])).get? c = some o := fun c o e => (Heap.get?_update_other _ _ (nS e)).trans (k4 c o e)
  show codeAny (model prog w) A (.builtin "min.loop" ⟨[.ref (s.heap.objs.size + 1), .none, .ref (s.heap.objs.size + 2)], []⟩) _ { s with heap := h4.update (s.heap.objs.size + 2) (Obj.mapSeq fun _ => #[a, a]), toks := tk4 }
  generalize (h4.update (s.heap.objs.size + 2) (Obj.mapSeq fun _ => #[a, a])) = h5 at hS5 st5 k5 ⊢
  refine codeAny_builtin F.entry_min_loop ?_
  rw [Around.under_plainId F.plain_min_loop _]
  show wpAny _ A.in1 (seqItems? (.ref (s.heap.objs.size + 2)) >>= _) _ _ _
  refine wpAny_bind (wpAny_seqItems hS5 rfl ?_)
  show wpAny _ A.in1 (tryCatch (pyNext (.ref (s.heap.objs.size + 1))) _ >>= _) _ _ _
  refine wpAny_bind (wpAny_tryCatch (W.item 1 _ _ _ (by simp) st5 fun v h6 tk6 hP st6 hk6 => ?_))
  obtain rfl : b = v := Option.some.inj hP
  have hS6 := hk6 _ _ SI hS5
  have k6 : ∀ c o, s.heap.get? c = some o → h6.get? c = some o := fun c o e => hk6 c o (nI e) (k5 c o e)
  show wpAny _ A.in1 (tryCatch (holding [b, b] (richCompare .Lt b a >>= _)) _ >>= _) _ _ _
  refine wpAny_bind (wpAny_tryCatch (wpAny_holding (wpAny_bind (hcmp _ _ _ k6 ?_))))
  refine wpAny_bind (wpAny_holding (wpAny_truthy_bool ?_))
  refine wpAny_bind (wpAny_letGo (wpAny_pure ?_))
  -- the end
  have fin : ∀ (vb : Value) (h7 : Heap) (tk7 c7 : Nat), Q vb = Q (if bt then b else a) → h7.get? (s.heap.objs.size + 2) = some { cls := .type "list", dict := none, data := .seq #[vb, vb] c7, slots := #[] } →
      (h7.IsTupleIter (s.heap.objs.size + 1) s.heap.objs.size 2 ∧ h7.IsTuple s.heap.objs.size #[a, b]) → (∀ c o, s.heap.get? c = some o → h7.get? c = some o) →
      codeAny (model prog w) A (.builtin "min.loop" ⟨[.ref (s.heap.objs.size + 1), .none, .ref (s.heap.objs.size + 2)], []⟩) (fun r s' => match r with | .ok (.ret v) => Q v s' | .ok _ => False | .error e => E e s') { s with heap := h7, toks := tk7 } := by
    intro vb h7 tk7 c7 hv hS7 st7 k7
    refine codeAny_builtin F.entry_min_loop ?_
    rw [Around.under_plainId F.plain_min_loop _]
    show wpAny _ A.in1 (seqItems? (.ref (s.heap.objs.size + 2)) >>= _) _ _ _
    refine wpAny_bind (wpAny_seqItems hS7 rfl ?_)
    show wpAny _ A.in1 (tryCatch (pyNext (.ref (s.heap.objs.size + 1))) _ >>= _) _ _ _
    refine wpAny_bind (wpAny_tryCatch (W.done _ _ _ st7 fun h8 tk8 hk8 => ?_))
    have hS8 := hk8 _ _ SI hS7
    show wpAny _ A.in1 (updateSeq (s.heap.objs.size + 2) (fun _ => #[]) >>= _) _ _ _
    refine wpAny_bind ?_
    refine wpAny_updateSeq hS8 rfl (wpAny_bind (wpAny_letGo (wpAny_pure ?_)))
    show Q vb _
    rw [hv]
    exact hQ _ _ fun c o e => (Heap.get?_update_other _ _ (nS e)).trans (hk8 c o (nI e) (k7 c o e))
  cases bt with
  | true =>
    simp only [if_true]
    refine wpAny_bind ?_
    refine wpAny_updateSeq hS6 rfl (wpAny_bind (wpAny_letGo ?_))
    rw [hname]
    refine wpAny_pure ⟨plainId_quiet F.plain_min_loop _, fin b _ _ _ rfl (Heap.get?_update_self _ hS6 rfl) (W.frame 2 h6 _ st6 fun b hb o e => (Heap.get?_update_other _ _ (Sf b hb)).trans e) fun c o e => (Heap.get?_update_other _ _ (nS e)).trans (k6 c o e)⟩
  | false =>
    simp only [Bool.false_eq_true, if_false]
    refine wpAny_bind (wpAny_letGo ?_)
    rw [hname]
    exact wpAny_pure ⟨plainId_quiet F.plain_min_loop _, fin a _ _ _ rfl hS6 st6 k6⟩
end
end KB
namespace KB
open PySem PySem.Spec PyProof.Rows L2
section
variable {X : Cx} {W : WX}
theorem tup_keep {h h' : Heap} {a : Addr} {its : Array Value} (p : IsTup h a its) (k : ∀ c o, h.get? c = some o → h'.get? c = some o) : IsTup h' a its := by
  obtain ⟨o, ho, r⟩ := p
  exact ⟨o, k _ _ ho, r⟩
def rMM (K : PySem.W.Frag) (f : List Int → List Int → Bool) : List V → Hp → VK → Prop := fun xs H Q => ∃ (a b : Addr) (ns ms : List Int), xs = [.ref a, .ref b] ∧ SqT K H a (ns.map V.int) ∧ SqT K H b (ms.map V.int) ∧ Q (if f ns ms then .ref b else .ref a) H
theorem call_max2T (hc : X.calm = true) (hu : X.A.units + 65 < cLine) : CallR X (.builtin "max") (rMM X.K HT.lexLt) := by
  intro pins s σ H xs us Q I r h
  obtain ⟨a, b, ns, ms, rfl, ha, hb, q⟩ := h
  obtain ⟨u, w', rfl, r1, r2⟩ := vals2 r
  cases r1
  cases r2
  obtain ⟨its, r1, p1, _⟩ := I.tuple ha
  obtain ⟨its2, r2, p2, _⟩ := I.tuple hb
  have i1 : IntsAre its ns := Vals.ints r1
  have i2 : IntsAre its2 ms := Vals.ints r2
  have e1 : its.toArray.size = ns.length := by rw [List.size_toArray]; exact i1.length
  have e2 : its2.toArray.size = ms.length := by rw [List.size_toArray]; exact i2.length
  refine call_max_two' (bt := HT.lexLt ns ms) (I.ok.hd hc) (fun s' Q' E' k q' => ?_) fun h' tk k => ⟨_, H, I.kept k, ?_, q⟩
  · have R := Ob.RcOp.tuples_gt (A := X.A.in1) (s := s') (e := fun j => decide (ms.getD j 0 = ns.getD j 0)) (r := fun j => decide (ns.getD j 0 < ms.getD j 0)) (tup_keep p2 k) (tup_keep p1 k) (by show X.A.units + 1 < cLine; omega) (fun j h1 h2 => by
      obtain ⟨t, et⟩ := at_ints i2 j h1
      obtain ⟨t', et'⟩ := at_ints i1 j h2
      rw [et, et', ← beq_dec]
      exact SeqAt.EqAt.int_int _ _ _ _) (fun j h1 h2 _ => by
      obtain ⟨t, et⟩ := at_ints i2 j h1
      obtain ⟨t', et'⟩ := at_ints i1 j h2
      rw [et, et']
      exact Ob.RcOp.gt_int _ _ _ _)
    rw [e1, e2, lex_gt] at R
    exact R X.prog X.w E' Q' q'
  · cases HT.lexLt ns ms <;> rfl
theorem call_min2T (hc : X.calm = true) (hu : X.A.units + 65 < cLine) : CallR X (.builtin "min") (rMM X.K fun a b => HT.lexLt b a) := by
  intro pins s σ H xs us Q I r h
  obtain ⟨a, b, ns, ms, rfl, ha, hb, q⟩ := h
  obtain ⟨u, w', rfl, r1, r2⟩ := vals2 r
  cases r1
  cases r2
  obtain ⟨its, r1, p1, _⟩ := I.tuple ha
  obtain ⟨its2, r2, p2, _⟩ := I.tuple hb
  have i1 : IntsAre its ns := Vals.ints r1
  have i2 : IntsAre its2 ms := Vals.ints r2
  refine call_min_two' (bt := HT.lexLt ms ns) (I.ok.hd hc) (fun s' Q' E' k q' => ?_) fun h' tk k => ⟨_, H, I.kept k, ?_, q⟩
  · exact HT.lt_tupInts (tup_keep p2 k) (tup_keep p1 k) (by simpa using i2) (by simpa using i1) (by show X.A.units + 1 < cLine; omega) q'
  · show RelV (if HT.lexLt ms ns = true then V.ref b else V.ref a) _
    cases HT.lexLt ms ns <;> rfl
def f2M (g : Int → Int → Int) (f : List Int → List Int → Bool) (ds : List D) (M : List MO) : R D := match ds with
  | [.int i, .int j] => .ok (.int (g i j)) M
  | [x, y] => match res M x, res M y with
    | .tup a, .tup b => match ints? a, ints? b with
      | some ns, some ms => .ok (if f ns ms then y else x) M
      | _, _ => .stuck
    | _, _ => .stuck
  | _ => .stuck
theorem d2M {g : Int → Int → Int} {f : List Int → List Int → Bool} : CallD X W (fun xs H Q => (∃ i j, xs = [.int i, .int j] ∧ Q (.int (g i j)) H) ∨ rMM X.K f xs H Q) (f2M g f) := by
  intro xs ds M F L G H σ Q o r h
  unfold f2M at h
  split at h
  · obtain ⟨v, w, rfl, r1, r2⟩ := two r
    cases r1; cases r2
    exact .inl ⟨_, _, rfl, aok h o _ (.int _)⟩
  · obtain ⟨v, w, rfl, rx, ry⟩ := two r
    split at h
    · rename_i a b ex ey
      split at h
      · rename_i ns ms en em
        obtain ⟨p, vs, rfl, sx, lx⟩ := o.viewT rx ex
        obtain ⟨q, ws, rfl, sy, ly⟩ := o.viewT ry ey
        rw [ints_V lx en] at sx
        rw [ints_V ly em] at sy
        refine .inr ⟨p, q, ns, ms, rfl, sx, sy, ?_⟩
        cases hf : f ns ms
        · rw [hf] at h; exact aok h o _ rx
        · rw [hf] at h; exact aok h o _ ry
      · exact h.elim
    · exact h.elim
  · exact h.elim
def fMax : List D → List MO → R D := f2M maxI HT.lexLt
def fMin : List D → List MO → R D := f2M minI (fun a b => HT.lexLt b a)
theorem CallR.or {c : Value} {r1 r2 : List V → Hp → VK → Prop} (h1 : CallR X c r1) (h2 : CallR X c r2) : CallR X c (fun xs H Q => r1 xs H Q ∨ r2 xs H Q) := by
  intro pins s σ H xs us Q I r h
  rcases h with h | h
  · exact h1 pins s σ H xs us Q I r h
  · exact h2 pins s σ H xs us Q I r h
theorem pd_max {a b : Expr} {p pos : Pos} {ea : EA} (hc : X.calm = true) (hm : X.mg "max" = none) (hu : X.A.units + 65 < cLine) (ha : PAD X W [a, b] ea) (hg : Gl X "max" := by rfl) (hs : starEach [a, b] X.env = (false, eval a X.env) :: starEach [b] X.env := by rfl) (hpl : (backTo pos (starEach [b] X.env)).any (·.1) = false := by rfl) : PD X W (.Call (.Name "max" p) [a, b] [] pos) (eArgs fMax ea) :=
  pd_callB (CallR.or (call_max2 hc) (call_max2T hc hu)) d2M hg hm (by decide +kernel) ha (by decide) (by decide) hs hpl
theorem pd_min {a b : Expr} {p pos : Pos} {ea : EA} (hc : X.calm = true) (hm : X.mg "min" = none) (hu : X.A.units + 65 < cLine) (ha : PAD X W [a, b] ea) (hg : Gl X "min" := by rfl) (hs : starEach [a, b] X.env = (false, eval a X.env) :: starEach [b] X.env := by rfl) (hpl : (backTo pos (starEach [b] X.env)).any (·.1) = false := by rfl) : PD X W (.Call (.Name "min" p) [a, b] [] pos) (eArgs fMin ea) :=
  pd_callB (CallR.or (call_min2 hc) (call_min2T hc hu)) d2M hg hm (by decide +kernel) ha (by decide) (by decide) hs hpl

/-! ### sorted(set(xs)) -/
def insU (x : Int) : List Int → List Int
  | [] => [x]
  | y :: l => if x < y then x :: y :: l else if x = y then y :: l else y :: insU x l
def sortU : List Int → List Int
  | [] => []
  | x :: l => insU x (sortU l)
theorem mem_insU {x z : Int} : ∀ {l : List Int}, z ∈ insU x l ↔ z = x ∨ z ∈ l
  | [] => by simp [insU]
  | y :: l => by
    unfold insU
    split
    · simp
    · split
      · rename_i h; subst h; simp
      · rw [List.mem_cons, mem_insU, List.mem_cons]; constructor
        · rintro (h | h | h)
          · exact .inr (.inl h)
          · exact .inl h
          · exact .inr (.inr h)
        · rintro (h | h | h)
          · exact .inr (.inl h)
          · exact .inl h
          · exact .inr (.inr h)
theorem mem_sortU {z : Int} : ∀ {l : List Int}, z ∈ sortU l ↔ z ∈ l
  | [] => by simp [sortU]
  | x :: l => by rw [sortU, mem_insU, mem_sortU, List.mem_cons]
theorem pw_insU {x : Int} : ∀ {l : List Int}, l.Pairwise (· < ·) → (insU x l).Pairwise (· < ·)
  | [], _ => by simp [insU]
  | y :: l, h => by
    obtain ⟨h1, h2⟩ := List.pairwise_cons.mp h
    unfold insU
    split
    · rename_i c
      refine List.pairwise_cons.mpr ⟨fun z hz => ?_, h⟩
      rcases List.mem_cons.mp hz with e | e
      · omega
      · have := h1 z e; omega
    · split
      · exact h
      · refine List.pairwise_cons.mpr ⟨fun z hz => ?_, pw_insU h2⟩
        rcases mem_insU.mp hz with e | e
        · omega
        · exact h1 z e
theorem pw_sortU : ∀ {l : List Int}, (sortU l).Pairwise (· < ·)
  | [] => .nil
  | _ :: _ => pw_insU pw_sortU
theorem pw_uniq {α : Type} {lt : α → α → Prop} (asy : ∀ x y, lt x y → ¬ lt y x) : ∀ {l m : List α}, l.Pairwise lt → m.Pairwise lt → (∀ k, k ∈ l ↔ k ∈ m) → l = m
  | [], [], _, _, _ => rfl
  | [], y :: m, _, _, h => by have := (h y).mpr List.mem_cons_self; simp at this
  | x :: l, [], _, _, h => by have := (h x).mp List.mem_cons_self; simp at this
  | x :: l, y :: m, hl, hm, h => by
    obtain ⟨l1, l2⟩ := List.pairwise_cons.mp hl
    obtain ⟨m1, m2⟩ := List.pairwise_cons.mp hm
    have e : x = y := by
      rcases List.mem_cons.mp ((h x).mp List.mem_cons_self) with e | e
      · exact e
      rcases List.mem_cons.mp ((h y).mpr List.mem_cons_self) with e' | e'
      · exact e'.symm
      exact absurd (m1 x e) (asy _ _ (l1 y e'))
    subst e
    congr 1
    refine pw_uniq asy l2 m2 fun k => ?_
    have hk := h k
    constructor
    · intro hm'
      rcases List.mem_cons.mp (hk.mp (List.mem_cons_of_mem _ hm')) with e | e
      · subst e; exact absurd (l1 k hm') (fun z => asy _ _ z z)
      · exact e
    · intro hm'
      rcases List.mem_cons.mp (hk.mpr (List.mem_cons_of_mem _ hm')) with e | e
      · subst e; exact absurd (m1 k hm') (fun z => asy _ _ z z)
      · exact e
def fSortSet (x : D) (M : List MO) : R D := match res M x with
  | .lst ds => match ints? ds with
    | some ns => if ns.length < 64 then .ok (.lst ((sortU ns).map .int)) M else .stuck
    | _ => .stuck
  | _ => .stuck
theorem rpL_ints {C : Kx} {L : List Addr} {G : Hp} : ∀ (ns : List Int), RpL C L G (ns.map V.int) (ns.map D.int)
  | [] => .nil
  | n :: ns => .cons (.int n) (rpL_ints ns)
theorem pd_sortSet {a : Expr} {p p2 q pos : Pos} {ea : EV} (hc : X.calm = true) (hm : X.mg "sorted" = none) (hm2 : X.mg "set" = none) (ha : PD X W a ea) (hg : Gl X "sorted" := by rfl) (hg2 : Gl X "set" := by rfl)
    (na : starEach [a] X.env = (false, eval a X.env) :: starEach [] X.env := by rfl) : PD X W (.Call (.Name "sorted" p) [.Call (.Name "set" p2) [a] [] q] [] pos) (eUn fSortSet ea) := by
  obtain ⟨ta, pa, qa⟩ := ha
  refine ⟨_, pe_sortSetI hc hg hm hg2 hm2 pa na, fun F e M σ L G H Q o re h => ?_⟩
  refine qa F e M σ L G H _ o re ((Aft.bind h).imp fun x M1 L1 G1 H1 o1 x1 h1 v1 r1 => ?_)
  unfold fSortSet at h1
  split at h1
  · rename_i ds ex
    split at h1
    · rename_i ns en
      split at h1
      · rename_i hl
        obtain ⟨l, vs, rfl, sx, lx⟩ := o1.viewL r1 ex
        rw [ints_V lx en] at sx
        refine ⟨l, ns, rfl, .inl (.inl sx), hl, fun ns' p pw mem hp => ?_⟩
        have e2 : ns' = sortU ns := pw_uniq (lt := (· < ·)) (fun x y a b => by omega) pw pw_sortU fun k => by rw [mem k, mem_sortU]
        subst e2
        exact newL o1 (rpL_ints _) h1 p hp
      · exact h1.elim
    · exact h1.elim
  · exact h1.elim
end
end KB
namespace KB
open PySem PySem.Spec PyProof.Rows L2 HT
/-! ### xs[::-1] -/
section
variable {prog : Program} {w : World} {A : Around} {E : Value → Shared → Prop} {s : Shared}
theorem adjust_rev (n : Nat) : Builtin.Slice.sliceAdjust none none (-1) (n : Int) = ((n : Int) - 1, -1) := rfl
theorem places_rev (n : Nat) : Builtin.Slice.slicePlaces ((n : Int) - 1) (-1) (-1) = n := by
  unfold Builtin.Slice.slicePlaces
  have h1 : ¬ ((-1 : Int) > 0) := by omega
  simp only [h1, if_false]
  split
  · rw [show (- -1 : Int) = 1 by decide, Int.ediv_one]; omega
  · omega
theorem sliceApplied_rev {sl : Addr} {vl vu vk : Value} {n : Nat} {Q : Int × Int × Nat → Shared → Prop} (hs : s.heap.IsSliceOf sl vl vu vk) (pl : IsPart vl none) (pu : IsPart vu none) (pk : IsPart vk (some (-1)))
    (h : Q ((n : Int) - 1, -1, n) s) : wpAny (model prog w) A (Builtin.Slice.sliceApplied (.ref sl) (pure (n : Int))) Q E s := by
  obtain ⟨os, hos, hcs, hds⟩ := id hs
  unfold Builtin.Slice.sliceApplied Builtin.Slice.sliceFields
  refine wpAny_bind (wpAny_bind (wpAny_field hos hds (x := vl) rfl (wpAny_bind (wpAny_field hos hds (x := vu) rfl (wpAny_bind (wpAny_field hos hds (x := vk) rfl (wpAny_pure ?_)))))))
  refine wpAny_bind (slicePart_ pk ?_)
  show wpAny _ _ (if ((-1 : Int) == 0) = true then _ else _) _ _ s
  rw [if_neg (by decide)]
  refine wpAny_bind (slicePart_ pl (wpAny_bind (slicePart_ pu (wpAny_bind (wpAny_pure ?_)))))
  show wpAny _ _ (match Builtin.Slice.sliceAdjust none none (-1) (n : Int) with | (lo, hi) => pure (lo, (-1 : Int), Builtin.Slice.slicePlaces lo hi (-1))) _ _ s
  rw [adjust_rev n]
  show wpAny _ _ (pure ((n : Int) - 1, (-1 : Int), Builtin.Slice.slicePlaces ((n : Int) - 1) (-1) (-1))) _ _ s
  rw [places_rev]
  exact wpAny_pure h
theorem pick_rev (xs : Array Value) : ((List.range xs.size).filterMap fun (k : Nat) => xs[((xs.size : Int) - 1 + (k : Int) * -1).toNat]?).toArray = xs.toList.reverse.toArray := by
  have e : (fun (k : Nat) => xs[((xs.size : Int) - 1 + (k : Int) * -1).toNat]?) = fun k => xs[xs.size - 1 - k]? := by
    funext m
    have : ((xs.size : Int) - 1 + (m : Int) * -1).toNat = xs.size - 1 - m := by omega
    rw [this]
  rw [e]
  have h := PySem.W.krv_pick xs
  unfold slicePick at h
  rw [PySem.W.krv_bounds] at h
  have h2 : ((sliceRange ((xs.size : Int) - 1) (-1) (-1)).filterMap (xs[·]?)).toArray = xs.toList.reverse.toArray := h
  rw [PySem.W.krv_sliceRange, List.filterMap_map] at h2
  exact h2
theorem getItem_tuple_rev {t sl : Addr} {items : Array Value} {vl vu vk : Value} {Q : Value → Shared → Prop} (ht : IsTup s.heap t items) (hs : s.heap.IsSliceOf sl vl vu vk) (pl : IsPart vl none) (pu : IsPart vu none) (pk : IsPart vk (some (-1)))
    (h : Q (.ref s.heap.objs.size) { s with heap := s.heap.push { cls := .type "tuple", data := .seq items.toList.reverse.toArray } })
    (hsz : items.size ≤ sizeLine) : wpAny (model prog w) A (getItem (.ref t) (.ref sl)) Q E s := by
  have htake : sizeOk (.seq items.toList.reverse.toArray) := by
    show items.toList.reverse.toArray.size ≤ sizeLine
    rw [List.size_toArray, List.length_reverse, Array.length_toList]
    exact hsz
  obtain ⟨os, hos, hcs, hds⟩ := id hs
  have hTs : s.TypeIs (.ref sl) "slice" := ⟨os, hos, hcs⟩
  unfold getItem
  try with_reducible refine wpAny_holding ?_
  first | refine wpAny_bind (wpAny_pure ?_) | skip
  refine wpAny_bind (wpAny_sequenceKey ht.typeIs (by decide) ?_)
  refine wpAny_bind (wpAny_callSpecial?_slot (name := Str.ofString "__getitem__") ht.typeIs PyProof.Rows.slot_tuple_getitem
    (wpAny_call_entry PyProof.Rows.slot_tuple_getitem ht.typeIs entry_tuple_getitem ?_ (args_tuple_getitem _ _)))
  show wpAny _ _ (Builtin.Tuple.tupleItemsOf (.ref t) >>= _) _ _ s
  refine wpAny_bind (tupleItemsOf_ ht ?_)
  refine wpAny_bind (wpAny_typeOf hTs ?_)
  rw [if_pos (by decide)]
  refine wpAny_bind (sliceApplied_rev hs pl pu pk ?_)
  have hno : ¬ ((((items.size : Int) - 1) == 0 && (-1 : Int) == 1 && items.size == items.size) = true) := by
    intro q
    rw [Bool.and_eq_true, Bool.and_eq_true] at q
    exact absurd q.1.2 (by decide)
  show wpAny _ _ (if ((((items.size : Int) - 1) == 0 && (-1 : Int) == 1 && items.size == items.size) = true) then _ else _) _ _ s
  rw [if_neg hno, pick_rev]
  first
    | exact wpAny_bind (m := Builtin.Tuple.tupleExact _) (wpAny_newObj_type (wpAny_pure ⟨_, rfl, wpAny_pure h⟩) htake)
    | exact wpAny_bind (m := Builtin.Tuple.tupleExact _) (wpAny_newObj_type (wpAny_bind (wpAny_pure (wpAny_pure ⟨_, rfl, wpAny_pure h⟩))) htake)
    | exact wpAny_bind (wpAny_bind (m := Builtin.Tuple.tupleExact _) (wpAny_newObj_type (wpAny_pure (wpAny_pure ⟨_, rfl, wpAny_pure h⟩)) htake))
    | exact wpAny_bind (wpAny_bind (m := Builtin.Tuple.tupleExact _) (wpAny_newObj_type (wpAny_pure ⟨_, rfl, wpAny_pure h⟩) htake))
end
section
variable {X : Cx} {W : WX}
def tRevA (K : PySem.W.Frag) (te : TE) : TE := fun σ H Q => te σ H fun x H1 => (∃ a xs, x = .ref a ∧ SqL K H1 a xs ∧ ∀ p, H1 p = none → Q (.ref p) (upd H1 p (.lst xs.reverse))) ∨
  (∃ a xs, x = .ref a ∧ SqT K H1 a xs ∧ ∀ p, H1 p = none → Q (.ref p) (upd H1 p (.tup xs.reverse)))
theorem pe_revA {e : Expr} {te : TE} {k : Nat} {p1 p2 p3 pos : Pos} (he : PE X e te) : PE X (.Subscript e (.Slice none none (some (.UnaryOp .USub (.Constant (.int 1) k p1) p2)) p3) pos) (tRevA X.K te) := by
  refine ⟨fun pins s σ H Q I h => ?_⟩
  refine Subscript_ (thn (he.run pins s σ H _ I h) fun v s1 ⟨x, H1, I1, r1, q1⟩ => ?_)
  have hst : PO X (some (.UnaryOp .USub (.Constant (.int 1) k p1) p2)) (tPart (tUn (rU fun i => .int (-i)) (tC (.int 1)))) := po_some (pe_un un_neg pe_int)
  refine wpAny_Slice (thn (po_none.run pins s1 σ H1 (fun o H2 => o = none ∧ H2 = H1) I1 ⟨rfl, rfl⟩) fun vl s2 ⟨l, H2, I2, pl, el, e2⟩ => ?_)
  subst el e2
  refine thn (po_none.run pins s2 σ H2 (fun o H3 => o = none ∧ H3 = H2) I2 ⟨rfl, rfl⟩) fun vu s3 ⟨u, H3, I3, pu, eu, e3⟩ => ?_
  subst eu e3
  refine thn (hst.run pins s3 σ H3 (fun o H4 => o = some (-1) ∧ H4 = H3) I3 ⟨1, rfl, -1, rfl, rfl, rfl⟩) fun vs s4 ⟨o, H4, I4, ps, eo, e4⟩ => ?_
  subst eo e4
  have I5 : Inv X pins σ H4 { s4 with heap := s4.heap.push { cls := .type "slice", data := .fields #[vl, vu, vs] } } := I4.kept (t' := s4.toks) fun b ob q => Heap.get?_push_of_some _ q
  rcases q1 with ⟨a, xs, ex, hx, q⟩ | ⟨a, xs, ex, hx, q⟩
  · subst ex
    cases r1
    obtain ⟨its, r, ht, hz⟩ := I5.list hx
    have hlen := r.length
    show wpAny (model X.prog X.w) X.A (subscriptTail e (.Slice none none (some (.UnaryOp .USub (.Constant (.int 1) k p1) p2)) p3) (.ref a) (.ref s4.heap.objs.size)) (EP X pins σ Q) X.xe { s4 with heap := s4.heap.push { cls := .type "slice", data := .fields #[vl, vu, vs] } }
    refine tail_any (ops := [.ref a, .ref s4.heap.objs.size]) ht.isList.typeIs (PySem.slot_list_getitem.lookup) ?_ (by with_unfolding_all rfl)
    refine wpAny_getItem_list_slice ht.isList (Heap.IsSliceOf.new _ vl vu vs) pl pu ps (by decide) ?_ (by rw [List.size_toArray]; omega)
    rw [PySem.W.krv_pick]
    refine ⟨.ref _, _, I5.laid (t' := s4.toks) (o := .lst xs.reverse) (fun b ob q => Heap.get?_push_of_some _ q) (Nat.le_refl _) ?_, rfl, q _ (I5.hok.fresh (Nat.le_refl _))⟩
    exact ⟨by rw [List.length_reverse]; exact hz, _, 0, r.reverse, Heap.get?_push_size _ rfl⟩
  · subst ex
    cases r1
    obtain ⟨its, r, ht, hz⟩ := I5.tuple hx
    have hlen := r.length
    show wpAny (model X.prog X.w) X.A (subscriptTail e (.Slice none none (some (.UnaryOp .USub (.Constant (.int 1) k p1) p2)) p3) (.ref a) (.ref s4.heap.objs.size)) (EP X pins σ Q) X.xe { s4 with heap := s4.heap.push { cls := .type "slice", data := .fields #[vl, vu, vs] } }
    refine tail_any (ops := [.ref a, .ref s4.heap.objs.size]) ht.typeIs (PyProof.Rows.slot_tuple_getitem.lookup) ?_ (by with_unfolding_all rfl)
    refine getItem_tuple_rev ht (Heap.IsSliceOf.new _ vl vu vs) pl pu ps ?_ (by rw [List.size_toArray]; omega)
    refine ⟨.ref _, _, I5.laid (t' := s4.toks) (o := .tup xs.reverse) (fun b ob q => Heap.get?_push_of_some _ q) (Nat.le_refl _) ?_, rfl, q _ (I5.hok.fresh (Nat.le_refl _))⟩
    exact ⟨by rw [List.length_reverse]; exact hz, _, r.reverse, _, Heap.get?_push_size _ rfl, rfl, 0, rfl⟩
def fRev (x : D) (M : List MO) : R D := match res M x with
  | .tup ds => .ok (.tup ds.reverse) M
  | .lst ds => .ok (.lst ds.reverse) M
  | _ => .stuck
theorem pd_rev {e : Expr} {k : Nat} {p1 p2 p3 pos : Pos} {ev : EV} (h : PD X W e ev) : PD X W (.Subscript e (.Slice none none (some (.UnaryOp .USub (.Constant (.int 1) k p1) p2)) p3) pos) (eUn fRev ev) := by
  obtain ⟨t, p, q⟩ := h
  refine ⟨_, pe_revA p, fun F e M σ L G H Q o re h => ?_⟩
  refine q F e M σ L G H _ o re ((Aft.bind h).imp fun x M1 L1 G1 H1 o1 x1 h1 v1 r1 => ?_)
  unfold fRev at h1
  split at h1
  · rename_i ds ex
    obtain ⟨a, vs, rfl, sx, lx⟩ := o1.viewT r1 ex
    exact .inr ⟨a, vs, rfl, sx, newT o1 lx.reverse h1⟩
  · rename_i ds ex
    obtain ⟨a, vs, rfl, sx, lx⟩ := o1.viewL r1 ex
    exact .inl ⟨a, vs, rfl, .inl (.inl sx), newL o1 lx.reverse h1⟩
  · exact h1.elim
end
end KB
namespace KB
open PySem PySem.Spec PyProof.Rows L2
open AutoSeq1 (wpAny_loadPart')
/-! ### enumerate of a tuple -/
theorem draws_tuple {prog : Program} {w : World} {A : Around} (hh : A.handled = none) (it l : Addr) (hne : l ≠ it) (items : Array Value) :
    Draws prog w A it [it, l] items.size (fun i v => items[i]? = some v) (fun i h => h.IsTupleIter it l i ∧ h.IsTuple l items) where
  live := fun i h st => by obtain ⟨⟨o, ho, _⟩, _⟩ := st; exact ⟨o, ho⟩
  frame := fun i h h' st k => ⟨st.1.at fun o e => k it (by simp) o e, st.2.at fun o e => k l (by simp) o e⟩
  item := fun i s Q E hi st hQ => RZ.nextOf_tuple_item st.1 st.2 (x := items[i]) (by simp [hi]) fun h' hit' hs' => hQ _ h' s.toks (by simp [hi]) ⟨hit', st.2.extBut hs'.extBut hne⟩ hs'
  done := fun s Q E st hE => RZ.nextOf_tuple_end hh st.1 st.2 (by simp) hE
theorem meets_enumerate_newT (l : Addr) (items : Array Value) (n : Nat) (dct : Option Addr) (sl : Array (Option Value)) :
    Meets (Builtin.«enumerate.__new__» ⟨[.type "enumerate", .ref l], []⟩) (fun _ R s => s.heap.get? l = some { cls := .type "tuple", dict := dct, data := .seq items n, slots := sl } ∧
      R (.ok (.ret (.ref (s.heap.push { cls := .type "tuple_iterator", data := .fields #[.ref l, .int 0 0] }).objs.size)))
        { s with heap := (s.heap.push { cls := .type "tuple_iterator", data := .fields #[.ref l, .int 0 0] }).push { cls := .type "enumerate", data := .fields #[.none, .bool false, .ref s.heap.objs.size, rawInt 0, .none, .none] } }) :=
  .of_wp fun prog w A R s h => by
    obtain ⟨hp, g, d, tk, os⟩ := s; obtain ⟨hl, h⟩ := h
    have hsub := sub_enumerate
    have hL : Heap.IsTuple (Shared.heap ⟨hp, g, d, tk, os⟩) l items := ⟨_, hl, rfl, n, rfl⟩
    wp_walk using wpAny_loadPart' hl
    refine wpAny_stack_any fun st => wpAny_pure ?_
    split
    · rename_i c _ _ _ _ _
      cases (c == Value.type "enumerate")
      · wp_walk using wpAny_loadPart' hl, wpAny_pyIter_tuple hL
        exact ⟨_, rfl, h⟩
      · wp_walk using wpAny_loadPart' hl, wpAny_pyIter_tuple hL
        exact ⟨_, rfl, h⟩
    · wp_walk using wpAny_loadPart' hl, wpAny_pyIter_tuple hL
      exact ⟨_, rfl, h⟩
section
variable {prog : Program} {w : World} {A : Around} {E : Value → Shared → Prop} {s : Shared}
theorem call_enumerate_tup {l : Addr} {items : Array Value} {Q : Value → Shared → Prop} (hL : IsTup s.heap l items)
    (h : ∀ h', IsEnum h' (s.heap.objs.size + 1) s.heap.objs.size 0 .none → h'.IsTupleIter s.heap.objs.size l 0 → h'.objs.size = s.heap.objs.size + 2 →
      (∀ b o, s.heap.get? b = some o → h'.get? b = some o) → Q (.ref (s.heap.objs.size + 1)) { s with heap := h' }) :
    wpAny (model prog w) A (call (.type "enumerate") [.ref l]) Q E s := by
  obtain ⟨⟨c, dct, dt, sl⟩, hl, hc, n, hd⟩ := hL
  replace hc : c = .type "tuple" := hc
  replace hd : dt = .seq items n := hd
  subst hc hd
  refine callType_new F.called_enumerate (by decide) (F.typeCall_enumerate_1 _) (F.newCall_enumerate_1 _) (fun obj => F.args_object_init_2 obj _) F.entry_enumerate_new
    (meets_enumerate_newT l items n dct sl) ⟨hl, ?_⟩
  have hz : (s.heap.push { cls := .type "tuple_iterator", data := .fields #[.ref l, .int 0 0] }).objs.size = s.heap.objs.size + 1 := Heap.size_push ..
  show _ ∧ _
  rw [hz]
  have he : IsEnum ((s.heap.push { cls := .type "tuple_iterator", data := .fields #[.ref l, .int 0 0] }).push
      { cls := .type "enumerate", data := .fields #[.none, .bool false, .ref s.heap.objs.size, rawInt 0, .none, .none] }) (s.heap.objs.size + 1) s.heap.objs.size 0 .none := by
    have := Heap.get?_push_size (s.heap.push { cls := .type "tuple_iterator", data := .fields #[.ref l, .int 0 0] })
      (o := { cls := .type "enumerate", data := .fields #[.none, .bool false, .ref s.heap.objs.size, rawInt 0, .none, .none] }) rfl
    rw [hz] at this; exact this
  refine ⟨⟨_, he, rfl⟩, h _ he ⟨_, Heap.get?_push_of_some _ (Heap.get?_push_size _ rfl), rfl, rfl⟩ (by rw [Heap.size_push, hz]) fun b o x => Heap.get?_push_of_some _ (Heap.get?_push_of_some _ x)⟩
end
/-- the tuple at a, each item in a new pair with its place -/
def IteT (K : PySem.W.Frag) (a : Addr) : It :=
  ⟨fun i H => ∃ (xs : List V) (x : V), SqT K H a xs ∧ xs[i]? = some x, fun i H v H' => ∃ T x, v = .ref T ∧ H T = none ∧ H' = upd H T (.tup [.int (i : Nat), x]) ∧ ∀ xs, SqT K H a xs → xs[i]? = some x, fun i H => ∃ xs : List V, SqT K H a xs ∧ xs.length = i⟩
theorem turn_enumT {P : Program} {w : World} {K : PySem.W.Frag} {elts : List Expr} {kk : Nat} {tpos : Pos} (a e it : Addr) :
    Turn P w K (.Tuple elts kk tpos) (IteT K a) [e, it] e (fun i h => (∃ old, IsEnum h e it ((i : Nat) : Int) old) ∧ h.IsTupleIter it a i ∧ e ≠ it) where
  mem := by simp
  obj := fun i h st b hb => by
    obtain ⟨⟨old, he⟩, ⟨o, ho, hc, hd⟩, _⟩ := st
    have e' : b = e ∨ b = it := by simpa using hb
    rcases e' with z | z
    · rw [z]; exact ⟨_, he, fun v q => nomatch q⟩
    · rw [z]; exact ⟨o, ho, fun v q => by rw [hd] at q; cases q⟩
  keep := fun i h h' st k => let ⟨⟨old, he⟩, hi, hne⟩ := st; ⟨⟨old, k e (by simp) _ he⟩, hi.at fun o q => k it (by simp) o q, hne⟩
  item := by
    intro X hP hw hK hc i pins s σ H E I hf st hg
    subst hP hw hK
    obtain ⟨⟨old, he⟩, hit, hne⟩ := st
    obtain ⟨xs, x, hq, hx⟩ := hg
    obtain ⟨its, rv, p, hz⟩ := I.tuple hq
    obtain ⟨u, hu, ru⟩ := rv.get hx
    have hel : e < s.heap.objs.size := Heap.lt_size he
    have hil : it < s.heap.objs.size := by obtain ⟨_, q, _⟩ := hit; exact Heap.lt_size q
    have hia : a ≠ it := fun z => by
      obtain ⟨o1, q1, c1, _⟩ := p
      obtain ⟨o2, q2, c2, _⟩ := hit
      rw [z, q2] at q1; cases q1; rw [c2] at c1; injection c1 with c1; revert c1; decide
    have hea : e ≠ a := fun z => by
      obtain ⟨o1, q1, c1, _⟩ := p
      rw [← z, he] at q1; cases q1; injection c1 with c1; revert c1; decide
    have hlt : i < its.toArray.size := by rw [List.size_toArray]; exact (List.getElem?_eq_some_iff.mp hu).1
    refine wpAny_pyNext_enum_itemD (draws_tuple (A := X.A.in1) (I.ok.hd hc) it a hia its.toArray) he ⟨hit, p⟩ hlt hne (by simp [hne, hea]) fun x' h' tk hPx ho hit' hT hsz hk => ?_
    obtain rfl : u = x' := by
      have : its.toArray[i]? = some x' := hPx
      rw [List.getElem?_toArray, hu] at this
      exact Option.some.inj this
    refine ⟨_, rfl, wpAny_letOwnedTupleGo_enum (s := { s with heap := h', toks := tk + 1 }) ho fun h'' he' sb => ?_⟩
    have hT2 : h''.get? s.heap.objs.size = some { cls := .type "tuple", data := .seq #[.int i tk, u] } := (sb.2 _ (Nat.ne_of_gt hel)).trans hT
    have new : ObjOk X.prog X.w (upd H s.heap.objs.size (.tup [.int (i : Nat), x])) h'' s.heap.objs.size (.tup [.int (i : Nat), x]) :=
      ⟨by show 2 ≤ sizeLine; decide, [.int i tk, u], .cons ⟨_, rfl⟩ (.cons ru .nil), ⟨_, hT2, rfl, _, rfl⟩⟩
    have I1 : Inv X pins σ (upd H s.heap.objs.size (.tup [.int (i : Nat), x])) { s with heap := h'', toks := tk + 1 } :=
      I.turnedNew (ch := [e, it]) (fun b ob hb q => (sb.2 b (fun z => hb (by simp [z]))).trans (hk b ob (fun z => hb (by simp [z])) (fun z => hb (by simp [z])) q)) hf (Nat.le_refl _) new
    refine ⟨.ref s.heap.objs.size, _, I1, rfl, ⟨_, x, rfl, I.hok.fresh (Nat.le_refl _), rfl, fun ys hy => by rw [I.tuple_inj hy hq]; exact hx⟩, ⟨⟨u, ?_⟩, hit'.1.at fun o q => (sb.2 it (Ne.symm hne)).trans q, hne⟩, fun b hb => ?_⟩
    · have e1 : ((i + 1 : Nat) : Int) = (i : Int) + 1 := by omega
      rw [e1]; exact he'
    · have hb' : b < s.heap.objs.size := by
        have e' : b = e ∨ b = it := by simpa using hb
        rcases e' with z | z
        · rw [z]; exact hel
        · rw [z]; exact hil
      rw [upd_ne (Nat.ne_of_lt hb')]
      exact (hf b hb).1
  done := by
    intro X hP hw hK hc i pins s σ H E I hf st hg
    subst hP hw hK
    obtain ⟨⟨old, he⟩, hit, hne⟩ := st
    obtain ⟨xs, hq, hx⟩ := hg
    obtain ⟨its, rv, p, hz⟩ := I.tuple hq
    obtain ⟨f0, f1, f2, f3, f4, f5⟩ := hf it (by simp)
    have hl := rv.length
    have hia : a ≠ it := fun z => by
      obtain ⟨o1, q1, c1, _⟩ := p
      obtain ⟨o2, q2, c2, _⟩ := hit
      rw [z, q2] at q1; cases q1; rw [c2] at c1; injection c1 with c1; revert c1; decide
    have hi : i = its.toArray.size := by rw [List.size_toArray]; omega
    rw [hi] at he hit
    exact wpAny_pyNext_enum_endD (draws_tuple (A := X.A.in1) (I.ok.hd hc) it a hia its.toArray) he ⟨hit, p⟩ fun h' eb => ⟨rfl, I.turned (t' := s.toks) (fun b o hb q => eb b o hb q) f0 f1 f3 f4 f5⟩
  self := fun A i s Q E st h => let ⟨⟨_, he⟩, _⟩ := st; wpAny_pyIter_enum he h
def iEnumT (K : PySem.W.Frag) (ta : TA) : TI := fun σ H R => ta σ H fun vs H1 => ∃ a xs, vs = [.ref a] ∧ SqT K H1 a xs ∧ R (IteT K a) H1
theorem pi_enumT {X : Cx} {e : Expr} {ta : TA} {p pos tpos : Pos} {elts : List Expr} {kk : Nat} (hg : Gl X "enumerate") (hm : X.mg "enumerate" = none) (ha : PA X [e] ta) (hs : starEach [e] X.env = [(false, eval e X.env)] := by rfl) :
    PI X (.Tuple elts kk tpos) (.Call (.Name "enumerate" p) [e] [] pos) (iEnumT X.K ta) := by
  refine ⟨fun pins s σ H R I h => ?_⟩
  refine Call_ (ld_blt I hg hm boot_enumerate (PyProof.Rows.callWith_type1 (thn (ha.run pos pins s σ H _ I h) fun us s1 ⟨vs, H1, I1, r1, q1⟩ => ?_) hs rfl))
  obtain ⟨a, xs, ex, hq, q⟩ := q1
  subst ex
  cases r1 with
  | cons r rr =>
    cases rr
    cases r
    obtain ⟨its, rv, p', hz⟩ := I1.tuple hq
    refine call_enumerate_tup p' fun h' he hit hsz hk => wpAny_pyIter_enum he ?_
    have I2 : Inv X pins σ H1 { s1 with heap := h' } := I1.kept (t' := s1.toks) hk
    refine ⟨s1.heap.objs.size + 1, [s1.heap.objs.size + 1, s1.heap.objs.size], _, _, H1, rfl, I2, turn_enumT a (s1.heap.objs.size + 1) s1.heap.objs.size, ⟨⟨.none, he⟩, hit, Nat.succ_ne_self _⟩, fun b hb => ?_, q⟩
    have e' : b = s1.heap.objs.size + 1 ∨ b = s1.heap.objs.size := by simpa using hb
    have hle : s1.heap.objs.size ≤ b := by
      rcases e' with z | z
      · rw [z]; exact Nat.le_add_right _ _
      · rw [z]; exact Nat.le_refl _
    exact I1.fpOk hle (I1.hok.fresh hle)
section
variable {X : Cx} {W : WX}
def enumD : Nat → List D → List D
  | _, [] => []
  | i, d :: ds => .tup [.int (i : Nat), d] :: enumD (i + 1) ds
theorem enumD_length : ∀ (i : Nat) (ds : List D), (enumD i ds).length = ds.length
  | _, [] => rfl
  | i, d :: ds => by simp [enumD, enumD_length (i + 1) ds]
theorem enumD_get : ∀ (k : Nat) (ds : List D) (i : Nat) (d : D), (enumD k ds)[i]? = some d → ∃ a, ds[i]? = some a ∧ d = .tup [.int ((k + i : Nat) : Int), a]
  | _, [], i, d, h => by simp [enumD] at h
  | k, a :: ds, 0, d, h => by simp [enumD] at h; exact ⟨a, rfl, h.symm⟩
  | k, a :: ds, i + 1, d, h => by
    have h' : (enumD (k + 1) ds)[i]? = some d := by simpa [enumD] using h
    obtain ⟨b, h1, h2⟩ := enumD_get (k + 1) ds i d h'
    exact ⟨b, by simpa using h1, by rw [h2, show k + 1 + i = k + (i + 1) from by omega]⟩
def eEnum (ea : EA) : EI := fun e M => (ea e M).bind fun ds M1 => match ds with
  | [.tup a] => .ok (.snap (enumD 0 a)) M1
  | _ => .stuck
theorem walk_enumT {K : PySem.W.Frag} {a : Addr} {xs : List V} {n : Nat} (hn : n = xs.length) : Walk (IteT K a) n (fun H => SqT K H a xs) (YPair (fun i => some (V.int (i : Nat))) (fun i => xs[i]?)) := by
  subst hn
  refine ⟨fun i H hi h => ?_, fun H h => ?_, fun i H x H' hi h y => ?_⟩
  · exact ⟨xs, xs[i], h, List.getElem?_eq_getElem hi⟩
  · exact ⟨xs, h, rfl⟩
  · obtain ⟨T, x1, rfl, nT, rfl, f1⟩ := y
    exact ⟨T, _, x1, rfl, nT, rfl, rfl, f1 xs h⟩
theorem wk_enum {L : List Addr} {G : Hp} {J : It} {as : List D} {vs : List V} {Gd : Hp → Prop} (lx : RpL (kx X) L G vs as) (w : Walk J vs.length Gd (YPair (fun i => some (V.int (i : Nat))) (fun i => vs[i]?)))
    (hG : ∀ F' L' G' M' H', Ok (kx X) F' L' G' M' H' → Ext L G L' G' → Gd H') : WkOk X L G J (enumD 0 as) := by
  refine ⟨Gd, _, by rw [enumD_length, ← lx.length]; exact w, hG, ?_⟩
  rintro i d x F' L' G' M' H' H2 hd o e ⟨T, x1, x2, rfl, nT, rfl, f1, f2⟩
  obtain ⟨a, ha, rfl⟩ := enumD_get 0 as i d hd
  obtain ⟨v, hv, rv⟩ := lx.get ha
  dsimp only at f1 f2
  cases f1
  rw [hv] at f2; cases f2
  obtain ⟨o2, e2⟩ := o.lay (u := .tup [.int (i : Nat), x2]) nT
  refine ⟨_, o2, e2, .tup (.inl (.inl upd_same)) (.cons ?_ (.cons ((rv.mono e).mono e2) .nil))⟩
  rw [Nat.zero_add]; exact .int _
theorem pid_enum {a : Expr} {ea : EA} {p pos tpos : Pos} {elts : List Expr} {kk : Nat} (hc : X.calm = true) (hm : X.mg "enumerate" = none) (ha : PAD X W [a] ea) (hg : Gl X "enumerate" := by rfl) (hs : starEach [a] X.env = [(false, eval a X.env)] := by rfl) :
    PID X W (.Tuple elts kk tpos) (.Call (.Name "enumerate" p) [a] [] pos) (eEnum ea) := by
  obtain ⟨t, pa, q⟩ := ha
  refine ⟨_, pi_enumT hg hm pa hs, fun F e M σ L G H Rq o re h => ?_⟩
  refine q F e M σ L G H _ o re ((Aft.bind h).imp fun ds M1 L1 G1 H1 o1 x1 h1 vs r => ?_)
  split at h1
  · rename_i as
    cases r with
    | cons r1 rr =>
      cases rr
      cases r1 with
      | tup s1 l1 =>
        exact ⟨_, _, rfl, Same.seqT o1.sub s1, h1 L1 G1 H1 o1 (Ext.refl _ _) _ G1 H1 o1 (Ext.refl _ _) (wk_enum l1 (walk_enumT rfl) fun F' L' G' M' H' o x => Same.seqT o.sub (Same.seqT x.g s1))⟩
  · exact h1.elim
end
end KB
namespace KB
open PySem PySem.Spec PyProof.Rows L2
/-! ### zip of three tuples -/
def ItzT3 (K : PySem.W.Frag) (a b c : Addr) : It :=
  ⟨fun i H => ∃ (xs ys zs : List V) (x y z : V), SqT K H a xs ∧ SqT K H b ys ∧ SqT K H c zs ∧ xs[i]? = some x ∧ ys[i]? = some y ∧ zs[i]? = some z,
    fun i H v H' => ∃ T x y z, v = .ref T ∧ H T = none ∧ H' = upd H T (.tup [x, y, z]) ∧ (∀ xs, SqT K H a xs → xs[i]? = some x) ∧ (∀ ys, SqT K H b ys → ys[i]? = some y) ∧ ∀ zs, SqT K H c zs → zs[i]? = some z,
    fun i H => ∃ xs ys zs : List V, SqT K H a xs ∧ SqT K H b ys ∧ SqT K H c zs ∧ xs.length = i ∧ ys.length = i ∧ zs.length = i⟩
theorem ne_of {a b : Nat} (h : a < b ∨ b < a) : (a : Addr) ≠ (b : Addr) := by
  show ¬ (a = b)
  omega
theorem nin2 {a x y : Addr} (h1 : a ≠ x) (h2 : a ≠ y) : a ∉ [x, y] := by simp [h1, h2]
theorem sep3 (n a b c : Nat) (ha : a < n) (hb : b < n) (hc : c < n) : ZipSep3 (n + 5) (n + 3) (n + 4) n (n + 1) (n + 2) [n, a] [n + 1, b] [n + 2, c] := by
  constructor
  all_goals first
    | exact ne_of (by omega)
    | exact List.mem_cons_self ..
    | exact nin2 (ne_of (by omega)) (ne_of (by omega))
theorem turn_zipT3 {P : Program} {w : World} {K : PySem.W.Frag} {elts : List Expr} {kk : Nat} {tpos : Pos} {a b c z TI TO i1 i2 i3 : Addr} (D : ZipSep3 z TI TO i1 i2 i3 [i1, a] [i2, b] [i3, c]) :
    Turn P w K (.Tuple elts kk tpos) (ItzT3 K a b c) [z, TI, TO, i1, i2, i3] z (fun i h => IsZip h z TI TO .none ∧ IsTupOf3 h TI (.ref i1) (.ref i2) (.ref i3) ∧ (∃ x y u, IsTupOf3 h TO x y u) ∧ h.IsTupleIter i1 a i ∧ h.IsTupleIter i2 b i ∧ h.IsTupleIter i3 c i) where
  mem := by simp
  obj := fun i h st c hc => by
    obtain ⟨hz, hTI, ⟨x, y, u, hTO⟩, ⟨o1, e1, _, d1⟩, ⟨o2, e2, _, d2⟩, ⟨o3, e3, _, d3⟩⟩ := st
    have e' : c = z ∨ c = TI ∨ c = TO ∨ c = i1 ∨ c = i2 ∨ c = i3 := by simpa using hc
    rcases e' with q | q | q | q | q | q
    · rw [q]; exact ⟨_, hz, fun v q => nomatch q⟩
    · rw [q]; exact ⟨_, hTI, fun v q => nomatch q⟩
    · rw [q]; exact ⟨_, hTO, fun v q => nomatch q⟩
    · rw [q]; exact ⟨o1, e1, fun v q => by rw [d1] at q; cases q⟩
    · rw [q]; exact ⟨o2, e2, fun v q => by rw [d2] at q; cases q⟩
    · rw [q]; exact ⟨o3, e3, fun v q => by rw [d3] at q; cases q⟩
  keep := fun i h h' st k => by
    obtain ⟨hz, hTI, ⟨x, y, u, hTO⟩, h1, h2, h3⟩ := st
    exact ⟨k z (by simp) _ hz, k TI (by simp) _ hTI, ⟨x, y, u, k TO (by simp) _ hTO⟩, h1.at fun o q => k i1 (by simp) o q, h2.at fun o q => k i2 (by simp) o q, h3.at fun o q => k i3 (by simp) o q⟩
  item := by
    intro X hP hw hK hc i pins s σ H E I hf st hg
    subst hP hw hK
    obtain ⟨hz, hTI, ⟨x0, y0, u0, hTO⟩, h1, h2, h3⟩ := st
    obtain ⟨xs, ys, zs, x, y, t, hqx, hqy, hqz, hx, hy, ht⟩ := hg
    obtain ⟨its, rv, p, _⟩ := I.tuple hqx
    obtain ⟨its2, rv2, p2, _⟩ := I.tuple hqy
    obtain ⟨its3, rv3, p3, _⟩ := I.tuple hqz
    obtain ⟨u, hu, ru⟩ := rv.get hx
    obtain ⟨u2, hu2, ru2⟩ := rv2.get hy
    obtain ⟨u3, hu3, ru3⟩ := rv3.get ht
    have hzl : z < s.heap.objs.size := Heap.lt_size hz
    have hh := I.ok.hd hc
    have na : a ≠ i1 := fun q => by
      obtain ⟨o1, q1, c1, _⟩ := p
      obtain ⟨o2, q2, c2, _⟩ := h1
      rw [q, q2] at q1; cases q1; rw [c2] at c1; injection c1 with c1; revert c1; decide
    have nb : b ≠ i2 := fun q => by
      obtain ⟨o1, q1, c1, _⟩ := p2
      obtain ⟨o2, q2, c2, _⟩ := h2
      rw [q, q2] at q1; cases q1; rw [c2] at c1; injection c1 with c1; revert c1; decide
    have nc : c ≠ i3 := fun q => by
      obtain ⟨o1, q1, c1, _⟩ := p3
      obtain ⟨o2, q2, c2, _⟩ := h3
      rw [q, q2] at q1; cases q1; rw [c2] at c1; injection c1 with c1; revert c1; decide
    have l1 : i < its.toArray.size := by rw [List.size_toArray]; exact (List.getElem?_eq_some_iff.mp hu).1
    have l2 : i < its2.toArray.size := by rw [List.size_toArray]; exact (List.getElem?_eq_some_iff.mp hu2).1
    have l3 : i < its3.toArray.size := by rw [List.size_toArray]; exact (List.getElem?_eq_some_iff.mp hu3).1
    refine wpAny_pyNext_zipD3_item D (Draws.tuple (A := X.A.in1) hh i1 a na its.toArray) (Draws.tuple (A := X.A.in1) hh i2 b nb its2.toArray) (Draws.tuple (A := X.A.in1) hh i3 c nc its3.toArray) hz hTI hTO ⟨h1, p⟩ ⟨h2, p2⟩ ⟨h3, p3⟩ l1 l2 l3 fun v1 v2 v3 h' tk e1 e2 e3 z' TO' h1' h2' h3' hT hsz hk => ?_
    obtain rfl : u = v1 := by
      have : its.toArray[i]? = some v1 := e1
      rw [List.getElem?_toArray, hu] at this
      exact Option.some.inj this
    obtain rfl : u2 = v2 := by
      have : its2.toArray[i]? = some v2 := e2
      rw [List.getElem?_toArray, hu2] at this
      exact Option.some.inj this
    obtain rfl : u3 = v3 := by
      have : its3.toArray[i]? = some v3 := e3
      rw [List.getElem?_toArray, hu3] at this
      exact Option.some.inj this
    refine ⟨_, rfl, wpAny_letOwnedTupleGo_zip (s := { s with heap := h', toks := tk }) z' fun h'' z'' sb => ?_⟩
    have hT2 : h''.get? s.heap.objs.size = some { cls := .type "tuple", data := .seq #[u, u2, u3] } := (sb.2 _ (Nat.ne_of_gt hzl)).trans hT
    have new : ObjOk X.prog X.w (upd H s.heap.objs.size (.tup [x, y, t])) h'' s.heap.objs.size (.tup [x, y, t]) :=
      ⟨by show 3 ≤ sizeLine; decide, [u, u2, u3], .cons ru (.cons ru2 (.cons ru3 .nil)), ⟨_, hT2, rfl, _, rfl⟩⟩
    have I1 : Inv X pins σ (upd H s.heap.objs.size (.tup [x, y, t])) { s with heap := h'', toks := tk } :=
      I.turnedNew (t' := tk) (ch := [z, TI, TO, i1, i2, i3]) (fun c o hb q => (sb.2 c (fun q' => hb (by simp [q']))).trans (hk c o (fun q' => hb (by simp [q'])) (fun q' => hb (by simp [q'])) (fun q' => hb (by simp [q'])) (fun q' => hb (by simp [q'])) (fun q' => hb (by simp [q'])) q)) hf (Nat.le_refl _) new
    refine ⟨.ref s.heap.objs.size, _, I1, rfl, ⟨_, x, y, t, rfl, I.hok.fresh (Nat.le_refl _), rfl, fun l hl => by rw [I.tuple_inj hl hqx]; exact hx, fun l hl => by rw [I.tuple_inj hl hqy]; exact hy, fun l hl => by rw [I.tuple_inj hl hqz]; exact ht⟩, ⟨z'', ?_, ⟨u, u2, u3, ?_⟩, ?_, ?_, ?_⟩, fun c hcm => ?_⟩
    · exact (sb.2 _ D.TIz).trans (hk _ _ D.TIz D.TITO D.TIi1 D.TIi2 D.TIi3 hTI)
    · exact (sb.2 _ D.TOz).trans TO'
    · exact h1'.1.at fun o q => (sb.2 _ D.zi1.symm).trans q
    · exact h2'.1.at fun o q => (sb.2 _ D.zi2.symm).trans q
    · exact h3'.1.at fun o q => (sb.2 _ D.zi3.symm).trans q
    · have hlt : c < s.heap.objs.size := by
        have e' : c = z ∨ c = TI ∨ c = TO ∨ c = i1 ∨ c = i2 ∨ c = i3 := by simpa using hcm
        rcases e' with q | q | q | q | q | q
        · rw [q]; exact hzl
        · rw [q]; exact Heap.lt_size hTI
        · rw [q]; exact Heap.lt_size hTO
        · rw [q]; obtain ⟨_, e1, _⟩ := h1; exact Heap.lt_size e1
        · rw [q]; obtain ⟨_, e2, _⟩ := h2; exact Heap.lt_size e2
        · rw [q]; obtain ⟨_, e3, _⟩ := h3; exact Heap.lt_size e3
      rw [upd_ne (Nat.ne_of_lt hlt)]
      exact (hf c hcm).1
  done := by
    intro X hP hw hK hc i pins s σ H E I hf st hg
    subst hP hw hK
    obtain ⟨hz, hTI, ⟨x0, y0, u0, hTO⟩, h1, h2, h3⟩ := st
    obtain ⟨xs, ys, zs, hqx, hqy, hqz, k1, k2, k3⟩ := hg
    obtain ⟨its, rv, p, _⟩ := I.tuple hqx
    obtain ⟨its2, rv2, p2, _⟩ := I.tuple hqy
    obtain ⟨its3, rv3, p3, _⟩ := I.tuple hqz
    have l1 := rv.length
    have l2 := rv2.length
    have l3 := rv3.length
    have hh := I.ok.hd hc
    have na : a ≠ i1 := fun q => by
      obtain ⟨o1, q1, c1, _⟩ := p
      obtain ⟨o2, q2, c2, _⟩ := h1
      rw [q, q2] at q1; cases q1; rw [c2] at c1; injection c1 with c1; revert c1; decide
    have nb : b ≠ i2 := fun q => by
      obtain ⟨o1, q1, c1, _⟩ := p2
      obtain ⟨o2, q2, c2, _⟩ := h2
      rw [q, q2] at q1; cases q1; rw [c2] at c1; injection c1 with c1; revert c1; decide
    have nc : c ≠ i3 := fun q => by
      obtain ⟨o1, q1, c1, _⟩ := p3
      obtain ⟨o2, q2, c2, _⟩ := h3
      rw [q, q2] at q1; cases q1; rw [c2] at c1; injection c1 with c1; revert c1; decide
    exact wpAny_pyNext_zipD3_end D (Draws.tuple (A := X.A.in1) hh i1 a na its.toArray) (Draws.tuple (A := X.A.in1) hh i2 b nb its2.toArray) (Draws.tuple (A := X.A.in1) hh i3 c nc its3.toArray) hz hTI hTO ⟨h1, p⟩ ⟨h2, p2⟩ ⟨h3, p3⟩
      (by rw [List.size_toArray]; omega) (by rw [List.size_toArray]; omega) (by rw [List.size_toArray]; omega) (.inl (by rw [List.size_toArray]; omega)) fun h' tk hk => ⟨rfl, I.turnedL (t' := tk) (ch := [z, TI, TO, i1, i2, i3]) (fun c o hb q =>
      hk c o (fun q' => hb (by simp [q'])) (fun q' => hb (by simp [q'])) (fun q' => hb (by simp [q'])) (fun q' => hb (by simp [q'])) (fun q' => hb (by simp [q'])) q) hf⟩
  self := fun A i s Q E st h => wpAny_pyIter_zip st.1 h
def iZip3 (K : PySem.W.Frag) (ta : TA) : TI := fun σ H R => ta σ H fun vs H1 => ∃ a b c xs ys zs, vs = [.ref a, .ref b, .ref c] ∧ SqT K H1 a xs ∧ SqT K H1 b ys ∧ SqT K H1 c zs ∧ R (ItzT3 K a b c) H1
theorem pi_zip3 {X : Cx} {e e2 e3 : Expr} {ta : TA} {p pos tpos : Pos} {elts : List Expr} {kk : Nat} (hg : Gl X "zip") (hm : X.mg "zip" = none) (ha : PA X [e, e2, e3] ta)
    (hs : starEach [e, e2, e3] X.env = (false, eval e X.env) :: starEach [e2, e3] X.env := by rfl) (hpl : (backTo pos (starEach [e2, e3] X.env)).any (·.1) = false := by rfl) :
    PI X (.Tuple elts kk tpos) (.Call (.Name "zip" p) [e, e2, e3] [] pos) (iZip3 X.K ta) := by
  refine ⟨fun pins s σ H R I h => ?_⟩
  refine Call_ (ld_blt I hg hm PyProof.Rows.boot_zip (PyProof.Rows.callWith_type1 (thn (ha.run pos pins s σ H _ I h) fun us s1 ⟨vs, H1, I1, r1, q1⟩ => ?_) hs hpl))
  obtain ⟨a, b, c, xs, ys, zs, ex, hqx, hqy, hqz, q⟩ := q1
  subst ex
  cases r1 with
  | cons r rr =>
    cases rr with
    | cons r' rr =>
      cases rr with
      | cons r'' rr =>
        cases rr
        cases r
        cases r'
        cases r''
        have fresh6 : ∀ c, c ∈ [s1.heap.objs.size + 5, s1.heap.objs.size + 3, s1.heap.objs.size + 4, s1.heap.objs.size, s1.heap.objs.size + 1, s1.heap.objs.size + 2] → FpOk X pins H1 c := fun c hcm => by
          have hle : s1.heap.objs.size ≤ c := by
            simp only [List.mem_cons, List.not_mem_nil, or_false] at hcm
            rcases hcm with z | z | z | z | z | z
            · rw [z]; exact Nat.le_add_right _ _
            · rw [z]; exact Nat.le_add_right _ _
            · rw [z]; exact Nat.le_add_right _ _
            · rw [z]; exact Nat.le_refl _
            · rw [z]; exact Nat.le_add_right _ _
            · rw [z]; exact Nat.le_add_right _ _
          exact I1.fpOk hle (I1.hok.fresh hle)
        obtain ⟨its, rv, p1, _⟩ := I1.tuple hqx
        obtain ⟨its2, rv2, p2, _⟩ := I1.tuple hqy
        obtain ⟨its3, rv3, p3, _⟩ := I1.tuple hqz
        obtain ⟨o1, ho1, _⟩ := id p1
        obtain ⟨o2, ho2, _⟩ := id p2
        obtain ⟨o3, ho3, _⟩ := id p3
        refine zip_begins3 (begins_tuple a its.toArray) (begins_tuple b its2.toArray) (begins_tuple c its3.toArray) p1 p2 p3 fun h' hz hTI hTO h1 h2 h3 hsz hk => wpAny_pyIter_zip hz ?_
        have I2 : Inv X pins σ H1 { s1 with heap := h' } := I1.kept (t' := s1.toks) hk
        exact ⟨s1.heap.objs.size + 5, [s1.heap.objs.size + 5, s1.heap.objs.size + 3, s1.heap.objs.size + 4, s1.heap.objs.size, s1.heap.objs.size + 1, s1.heap.objs.size + 2], _, _, H1, rfl, I2, turn_zipT3 (sep3 s1.heap.objs.size a b c (Heap.lt_size ho1) (Heap.lt_size ho2) (Heap.lt_size ho3)), ⟨hz, hTI, ⟨_, _, _, hTO⟩, ⟨_, h1, rfl, rfl⟩, ⟨_, h2, rfl, rfl⟩, ⟨_, h3, rfl, rfl⟩⟩, fresh6, q⟩
section
variable {X : Cx} {W : WX}
def zipD3 : List D → List D → List D → List D
  | a :: as, b :: bs, c :: cs => .tup [a, b, c] :: zipD3 as bs cs
  | _, _, _ => []
theorem zipD3_get : ∀ (as bs cs : List D) (i : Nat) (d : D), (zipD3 as bs cs)[i]? = some d → ∃ a b c, as[i]? = some a ∧ bs[i]? = some b ∧ cs[i]? = some c ∧ d = .tup [a, b, c]
  | [], _, _, i, d, h => by simp [zipD3] at h
  | _ :: _, [], _, i, d, h => by simp [zipD3] at h
  | _ :: _, _ :: _, [], i, d, h => by simp [zipD3] at h
  | a :: as, b :: bs, c :: cs, 0, d, h => by simp [zipD3] at h; exact ⟨a, b, c, rfl, rfl, rfl, h.symm⟩
  | a :: as, b :: bs, c :: cs, i + 1, d, h => by
    have h' : (zipD3 as bs cs)[i]? = some d := by simpa [zipD3] using h
    simpa using zipD3_get as bs cs i d h'
theorem zipD3_length : ∀ (as bs cs : List D), as.length = bs.length → as.length = cs.length → (zipD3 as bs cs).length = as.length
  | [], _, _, _, _ => by simp [zipD3]
  | _ :: _, [], _, h, _ => by simp at h
  | _ :: _, _ :: _, [], _, h => by simp at h
  | a :: as, b :: bs, c :: cs, h1, h2 => by simp [zipD3, zipD3_length as bs cs (by simpa using h1) (by simpa using h2)]
def eZip3 (ea : EA) : EI := fun e M => (ea e M).bind fun ds M1 => match ds with
  | [.tup a, .tup b, .tup c] => if a.length = b.length ∧ a.length = c.length then .ok (.snap (zipD3 a b c)) M1 else .stuck
  | _ => .stuck
def YTrip (f g h : Nat → Option V) : Nat → Hp → V → Hp → Prop := fun i H v H' => ∃ T x y z, v = .ref T ∧ H T = none ∧ H' = upd H T (.tup [x, y, z]) ∧ f i = some x ∧ g i = some y ∧ h i = some z
theorem walk_zipT3 {K : PySem.W.Frag} {a b c : Addr} {xs ys zs : List V} {n : Nat} (h1 : n = xs.length) (h2 : n = ys.length) (h3 : n = zs.length) : Walk (ItzT3 K a b c) n (fun H => SqT K H a xs ∧ SqT K H b ys ∧ SqT K H c zs) (YTrip (fun i => xs[i]?) (fun i => ys[i]?) (fun i => zs[i]?)) := by
  refine ⟨fun i H hi h => ?_, fun H h => ?_, fun i H x H' hi h y => ?_⟩
  · have g1 : i < xs.length := by omega
    have g2 : i < ys.length := by omega
    have g3 : i < zs.length := by omega
    exact ⟨xs, ys, zs, xs[i], ys[i], zs[i], h.1, h.2.1, h.2.2, List.getElem?_eq_getElem g1, List.getElem?_eq_getElem g2, List.getElem?_eq_getElem g3⟩
  · exact ⟨xs, ys, zs, h.1, h.2.1, h.2.2, h1.symm, h2.symm, h3.symm⟩
  · obtain ⟨T, x1, x2, x3, rfl, nT, rfl, f1, f2, f3⟩ := y
    exact ⟨T, x1, x2, x3, rfl, nT, rfl, f1 xs h.1, f2 ys h.2.1, f3 zs h.2.2⟩
theorem pid_zip3 {a b c : Expr} {ea : EA} {p pos tpos : Pos} {elts : List Expr} {kk : Nat} (hc : X.calm = true) (hm : X.mg "zip" = none) (ha : PAD X W [a, b, c] ea) (hg : Gl X "zip" := by rfl) (hs : starEach [a, b, c] X.env = (false, eval a X.env) :: starEach [b, c] X.env := by rfl) (hpl : (backTo pos (starEach [b, c] X.env)).any (·.1) = false := by rfl) :
    PID X W (.Tuple elts kk tpos) (.Call (.Name "zip" p) [a, b, c] [] pos) (eZip3 ea) := by
  obtain ⟨t, pa, q⟩ := ha
  refine ⟨_, pi_zip3 hg hm pa hs hpl, fun F e M σ L G H Rq o re h => ?_⟩
  refine q F e M σ L G H _ o re ((Aft.bind h).imp fun ds M1 L1 G1 H1 o1 x1 h1 vs r => ?_)
  split at h1
  · rename_i as bs cs
    split at h1
    · rename_i hl
      cases r with
      | cons r1 rr => cases rr with
        | cons r2 rr => cases rr with
          | cons r3 rr =>
            cases rr
            cases r1 with
            | tup s1 l1 => cases r2 with
              | tup s2 l2 => cases r3 with
                | tup s3 l3 =>
                  refine ⟨_, _, _, _, _, _, rfl, Same.seqT o1.sub s1, Same.seqT o1.sub s2, Same.seqT o1.sub s3, ?_⟩
                  refine h1 L1 G1 H1 o1 (Ext.refl _ _) _ G1 H1 o1 (Ext.refl _ _) ⟨_, _, walk_zipT3 ?_ ?_ ?_, fun F' L' G' M' H' o x => ⟨Same.seqT o.sub (Same.seqT x.g s1), Same.seqT o.sub (Same.seqT x.g s2), Same.seqT o.sub (Same.seqT x.g s3)⟩, ?_⟩
                  · rw [zipD3_length as bs cs hl.1 hl.2, l1.length]
                  · rw [zipD3_length as bs cs hl.1 hl.2, l2.length]; exact hl.1
                  · rw [zipD3_length as bs cs hl.1 hl.2, l3.length]; exact hl.2
                  · rintro i d x F' L' G' M' H' H2 hd o e ⟨T, x1, x2, x3, rfl, nT, rfl, f1, f2, f3⟩
                    obtain ⟨a, b, c, ha, hb, hc, rfl⟩ := zipD3_get as bs cs i d hd
                    obtain ⟨v, hv, rv⟩ := l1.get ha
                    obtain ⟨v', hv', rv'⟩ := l2.get hb
                    obtain ⟨v'', hv'', rv''⟩ := l3.get hc
                    dsimp only at f1 f2 f3
                    rw [hv] at f1; cases f1
                    rw [hv'] at f2; cases f2
                    rw [hv''] at f3; cases f3
                    obtain ⟨o2, e2⟩ := o.lay (u := .tup [x1, x2, x3]) nT
                    exact ⟨_, o2, e2, .tup (.inl (.inl upd_same)) (.cons ((rv.mono e).mono e2) (.cons ((rv'.mono e).mono e2) (.cons ((rv''.mono e).mono e2) .nil)))⟩
    · exact h1.elim
  · exact h1.elim
end
end KB
namespace KB
open PySem PySem.Spec PyProof.Rows L2
/-! ### plain laws of the evaluators -/
theorem kb1 : kitB "int" "int" = some true := by decide +kernel
theorem kb2 : kitB "bool" "int" = some true := by decide +kernel
theorem kb3 : kitB "NoneType" "int" = some false := by decide +kernel
theorem kb4 : kitB "str" "int" = some false := by decide +kernel
theorem kb5 : kitB "tuple" "int" = some false := by decide +kernel
theorem kb6 : kitB "list" "int" = some false := by decide +kernel
theorem kb7 : kitB "int" "bool" = some false := by decide +kernel
theorem kb8 : kitB "bool" "bool" = some true := by decide +kernel
theorem kb9 : kitB "NoneType" "bool" = some false := by decide +kernel
theorem kb10 : kitB "str" "bool" = some false := by decide +kernel
theorem kb11 : kitB "tuple" "bool" = some false := by decide +kernel
theorem kb12 : kitB "list" "bool" = some false := by decide +kernel
theorem kb13 : kitB "int" "tuple" = some false := by decide +kernel
theorem kb14 : kitB "bool" "tuple" = some false := by decide +kernel
theorem kb15 : kitB "NoneType" "tuple" = some false := by decide +kernel
theorem kb16 : kitB "str" "tuple" = some false := by decide +kernel
theorem kb17 : kitB "tuple" "tuple" = some true := by decide +kernel
theorem kb18 : kitB "list" "tuple" = some false := by decide +kernel
theorem kb19 : kitB "int" "str" = some false := by decide +kernel
theorem kb20 : kitB "bool" "str" = some false := by decide +kernel
theorem kb21 : kitB "NoneType" "str" = some false := by decide +kernel
theorem kb22 : kitB "str" "str" = some true := by decide +kernel
theorem kb23 : kitB "tuple" "str" = some false := by decide +kernel
theorem kb24 : kitB "list" "str" = some false := by decide +kernel
theorem kb25 : kitB "int" "list" = some false := by decide +kernel
theorem kb26 : kitB "bool" "list" = some false := by decide +kernel
theorem kb27 : kitB "NoneType" "list" = some false := by decide +kernel
theorem kb28 : kitB "str" "list" = some false := by decide +kernel
theorem kb29 : kitB "tuple" "list" = some false := by decide +kernel
theorem kb30 : kitB "list" "list" = some true := by decide +kernel
def isiB (T : String) : D → Bool
  | .non => false
  | .bl _ => T == "int" || T == "bool"
  | .int _ => T == "int"
  | .str _ => T == "str"
  | .tup _ => T == "tuple"
  | .lst _ => T == "list"
  | _ => false
/-- a byte string as data -/
def bs (ns : List Int) : D := .tup (ns.map .int)
@[simp] theorem ev_var (i : Nat) (e : EN) (M : List MO) : eVar i e M = match e[i]? with
  | some (some d) => .ok d M
  | _ => .stuck := rfl
/-! ### the end of a law -/
theorem rp_ints {C : Kx} {L : List Addr} {G : Hp} : ∀ ns : List Int, RpL C L G (ns.map V.int) (ns.map D.int)
  | [] => .nil
  | n :: ns => .cons (.int n) (rp_ints ns)
theorem sp_law {C : Kx} {m : List D → List MO → R D} {n : Nat} (hm : ∀ ns : List Int, ns.length ≤ n → ∃ M', m [.scr (ns.map .int)] [] = .ok (.bl true) M') (H : Hp) (a : Addr) (ns : List Int) (hl : ns.length ≤ n) (hS : SqL C.K H a (ns.map V.int)) :
    spOf C m [.ref a] H (fun v _ => v = .bl true) (fun _ _ _ => False) := by
  obtain ⟨M', e⟩ := hm ns hl
  refine ⟨fun _ => none, [], H, [], [.scr (ns.map .int)], ⟨(fun _ _ q => by cases q), (fun _ _ q => by cases q), fun _ _ q => q, rfl, List.nodup_nil, (fun _ h => nomatch h), fun n a o h => by simp at h⟩, .cons (.scr hS (rp_ints ns)) .nil, ?_⟩
  rw [e]
  intro v L' G' H' _ _ r
  cases r
  rfl
def spLaw (K : PySem.W.Frag) (n : Nat) : Sp := fun vs H Q _ => ∃ (a : Addr) (ns : List Int), vs = [.ref a] ∧ ns.length ≤ n ∧ SqL K H a (ns.map V.int) ∧ ∀ H', Q (.bl true) H'
theorem law_imp {C : Kx} {m : List D → List MO → R D} {n : Nat} (hm : ∀ ns : List Int, ns.length ≤ n → ∃ M', m [.scr (ns.map .int)] [] = .ok (.bl true) M') (vs : List V) (H : Hp) (Q : VK) (E : XK) (h : spLaw C.K n vs H Q E) : spOf C m vs H Q E := by
  obtain ⟨a, ns, rfl, hl, hS, q⟩ := h
  obtain ⟨M', e⟩ := hm ns hl
  refine ⟨fun _ => none, [], H, [], [.scr (ns.map .int)], ⟨(fun _ _ q => by cases q), (fun _ _ q => by cases q), fun _ _ q => q, rfl, List.nodup_nil, (fun _ h => nomatch h), fun n a o h => by simp at h⟩, .cons (.scr hS (rp_ints ns)) .nil, ?_⟩
  rw [e]
  intro v L' G' H' _ _ r
  cases r
  exact q H'
theorem cx_no {P : Program} {w : World} {H : Hp} {s : Shared} {e : Value} {s' : Shared} (h : L2.CX P w [] H s (fun _ _ _ => False) e s') : False := by
  obtain ⟨_, _, _, _, _, _, _, _, _, _, _, _, z⟩ := h
  exact z.elim
/-- as fn_has, the def's own FnOk -/
theorem fn_ok {P : Program} {w : World} {C : Kx} {base : Heap} {x qual : Str} {st : Stmt} {f : Addr} {fd : FuncData} {N ps : List Str} {k : Nat} {sv : SV} (F : Fun C.K x qual st f fd) (S : FnScope N ps (defScope st)) (gf : C.mg x = some (.ref f)) (b : Binds C.K fd ps [])
    (hb : ∀ (cdv : Value) (A : Around) (outer : List Env) (s : Shared) (H : Hp) (E : XK), Room k (A.deeper (envOfC qual (defScope st) s.heap.objs.size f cdv)) →
      PSsD (cxOf (L2.CX P w) P w C.K C.mg base N qual (defScope st) f cdv A outer s H E) (fun cls d _ H => E cls d H) (defBody st) sv) : FnOk P w C.K C.mg base (L2.CX P w) (k + 1) f fd ps (spOf C (mOf ps.length N.length sv)) := by
  refine F.okX S (fun vs H Q E h => ?_) (fun cdv A outer s H vs Q E hr h => ?_)
  · obtain ⟨F, L, G, M, ds, o, r, h⟩ := h
    unfold mOf at h
    by_cases hl : ds.length = ps.length
    · rw [r.length]; exact hl
    · rw [if_neg hl] at h; exact h.elim
  · obtain ⟨t, p, q⟩ := hb cdv A outer s H E hr
    obtain ⟨F, L, G, M, ds, o, r, h⟩ := h
    refine ⟨t, p, q F (startE N.length ds) M (start N vs) L G H _ o (RpE.start r) ?_⟩
    unfold mOf at h
    by_cases hl : ds.length = ps.length
    · rw [if_pos hl] at h
      cases hs : sv (startE N.length ds) M with
      | nx e M' => rw [hs] at h; exact fun σ' L' G' H' o' x' _ => h .non L' G' H' o' x' .non
      | ret d M' => rw [hs] at h; exact fun v L' G' H' o' x' r' => h v L' G' H' o' x' r'
      | brk e M' => rw [hs] at h; exact h.elim
      | cnt e M' => rw [hs] at h; exact h.elim
      | exc c e M' => rw [hs] at h; exact fun σ' L' G' H' u o' x' _ q' => h L' G' H' u o' x' q'
      | stuck => rw [hs] at h; exact h.elim
    · rw [if_neg hl] at h; exact h.elim
end KB
namespace KB
open PySem PySem.Spec PyProof.Rows L2
/-! ### equations of the evaluators, for simp -/
section
variable (e : EN) (M : List MO)
@[simp] theorem ev_c (d : D) : eC d e M = .ok d M := rfl
@[simp] theorem ev_bin (f : D → D → List MO → R D) (ea eb : EV) : eBin f ea eb e M = (ea e M).bind fun x M1 => (eb e M1).bind fun y M2 => f x y M2 := rfl
@[simp] theorem ev_un (f : D → List MO → R D) (ea : EV) : eUn f ea e M = (ea e M).bind f := rfl
@[simp] theorem ev_nil : eNil e M = .ok [] M := rfl
@[simp] theorem ev_cons (ea : EV) (er : EA) : eCons ea er e M = (ea e M).bind fun x M1 => (er e M1).bind fun xs M2 => .ok (x :: xs) M2 := rfl
@[simp] theorem ev_args (f : List D → List MO → R D) (ea : EA) : eArgs f ea e M = (ea e M).bind f := rfl
@[simp] theorem ev_test (ea : EV) : eTest ea e M = (ea e M).bind fun x M1 => match x with
  | .bl b => .ok b M1
  | _ => .stuck := rfl
@[simp] theorem ev_and (ea eb : EB) : eAnd ea eb e M = (ea e M).bind fun b M1 => if b then eb e M1 else .ok false M1 := rfl
@[simp] theorem ev_or (ea eb : EB) : eOr ea eb e M = (ea e M).bind fun b M1 => if b then .ok true M1 else eb e M1 := rfl
@[simp] theorem ev_not (ea : EB) : eNot ea e M = (ea e M).bind fun b M1 => .ok (!b) M1 := rfl
@[simp] theorem ev_andV (ea eb : EV) : eAndV ea eb e M = (ea e M).bind fun b M1 => match b with
  | .bl true => eb e M1
  | .bl false => .ok (.bl false) M1
  | _ => .stuck := rfl
@[simp] theorem ev_orV (ea eb : EV) : eOrV ea eb e M = (ea e M).bind fun b M1 => match b with
  | .bl false => eb e M1
  | .bl true => .ok (.bl true) M1
  | _ => .stuck := rfl
@[simp] theorem ev_if (c : EB) (ea eb : EV) : eIf c ea eb e M = (c e M).bind fun b M1 => if b then ea e M1 else eb e M1 := rfl
@[simp] theorem ev_chain (f g : D → D → List MO → R D) (ea eb ec : EV) : eChain f g ea eb ec e M = (ea e M).bind fun x M1 => (eb e M1).bind fun y M2 => (f x y M2).bind fun z M3 => match z with
  | .bl true => (ec e M3).bind fun w M4 => g y w M4
  | .bl false => .ok (.bl false) M3
  | _ => .stuck := rfl
@[simp] theorem ev_yes : eYes e M = .ok true M := rfl
@[simp] theorem ev_noE : eNoE e M = .ok none M := rfl
@[simp] theorem ev_someE (ev : EV) : eSomeE ev e M = (ev e M).bind fun d M1 => match d with
  | .int i => .ok (some i) M1
  | _ => .stuck := rfl
@[simp] theorem ev_sl (ea : EV) (el eh : EN → List MO → R (Option Int)) : eSl ea el eh e M = (ea e M).bind fun x M1 => (el e M1).bind fun l M2 => (eh e M2).bind fun h M3 => fSl x l h M3 := rfl
@[simp] theorem ev_meth (ck : D → List MO → Bool) (f : D → List D → List MO → R D) (eo : EV) (ea : EA) : eMeth ck f eo ea e M = (eo e M).bind fun o M1 => if ck o M1 then (ea e M1).bind fun xs M2 => f o xs M2 else .stuck := rfl
def srcOf (d : D) (M1 : List MO) : R Src := match d with
  | .lst ds => .ok (.snap ds) M1
  | .tup ds => .ok (.snap ds) M1
  | .cell n => match M1[n]? with
    | some (.lst _) => .ok (.cel n) M1
    | _ => .stuck
  | _ => .stuck
@[simp] theorem ev_seq (ev : EV) : eSeq ev e M = (ev e M).bind srcOf := rfl
@[simp] theorem srcOf_lst (ds : List D) : srcOf (.lst ds) M = .ok (.snap ds) M := rfl
@[simp] theorem srcOf_tup (ds : List D) : srcOf (.tup ds) M = .ok (.snap ds) M := rfl
@[simp] theorem srcOf_bs (ns : List Int) : srcOf (bs ns) M = .ok (.snap (ns.map .int)) M := rfl
theorem srcOf_cell {n : Nat} {ds : List D} (h : M[n]? = some (.lst ds)) : srcOf (.cell n) M = .ok (.cel n) M := by simp [srcOf, h]
@[simp] theorem ev_range1 (ea : EA) : eRange1 ea e M = (ea e M).bind fun ds M1 => match ds with
  | [.int j] => if rgOk j then .ok (.snap (rangeD 0 j.toNat)) M1 else .stuck
  | _ => .stuck := Eq.trans rfl rfl
@[simp] theorem ev_range2 (ea : EA) : eRange2 ea e M = (ea e M).bind fun ds M1 => match ds with
  | [.int i, .int j] => if rgOk i && rgOk j then .ok (.snap (rangeD i (j - i).toNat)) M1 else .stuck
  | _ => .stuck := Eq.trans rfl rfl
@[simp] theorem ev_lcA (src : EI) (g : GV) (vs : List Nat) (t : EB) (el : EV) : eLcA src g vs t el e M = (src e M).bind fun s M1 => match s with
  | .snap ds => compL g t el (wipeE e vs) ds [] M1
  | .cel n => compC g t el (wipeE e vs) n fuel 0 [] M1 := rfl
@[simp] theorem sv_nil : sNil e M = .nx e M := rfl
@[simp] theorem sv_never : sNever e M = .stuck := rfl
@[simp] theorem sv_brk : sBrk e M = .brk e M := rfl
@[simp] theorem sv_cnt : sCnt e M = .cnt e M := rfl
@[simp] theorem sv_retN : sRetN e M = .ret .non M := rfl
@[simp] theorem sv_raise (c : Str) : sRaise c e M = .exc c e M := rfl
@[simp] theorem sv_seq (a b : SV) : sSeq a b e M = (a e M).bind b := rfl
@[simp] theorem sv_expr (ev : EV) : sExpr ev e M = (ev e M).toS e fun _ M1 => .nx e M1 := rfl
@[simp] theorem sv_ret (ev : EV) : sRet ev e M = (ev e M).toS e fun d M1 => .ret d M1 := rfl
@[simp] theorem sv_set (i : Nat) (ev : EV) : sSet i ev e M = (ev e M).toS e fun d M1 => .nx (e.set i (some d)) M1 := rfl
@[simp] theorem sv_if (c : EB) (a b : SV) : sIf c a b e M = (c e M).toS e fun k M1 => if k then a e M1 else b e M1 := rfl
@[simp] theorem sv_asg (g : GV) (ev : EV) : sAsg g ev e M = (ev e M).toS e fun d M1 => match g d e with
  | some e1 => .nx e1 M1
  | none => .stuck := rfl
@[simp] theorem sv_par (i j : Nat) (ea : EA) : sPar i j ea e M = (ea e M).toS e fun ds M1 => match ds with
  | [a, b] => .nx ((e.set i (some a)).set j (some b)) M1
  | _ => .stuck := rfl
@[simp] theorem sv_par3 (i j l : Nat) (ea : EA) : sPar3 i j l ea e M = (ea e M).toS e fun ds M1 => match ds with
  | [a, b, c] => .nx (((e.set i (some a)).set j (some b)).set l (some c)) M1
  | _ => .stuck := rfl
@[simp] theorem sv_aug (i : Nat) (f : D → D → List MO → R D) (ev : EV) : sAug i f ev e M = (eVar i e M).toS e fun x M1 => (ev e M1).toS e fun y M2 => (f x y M2).toS e fun z M3 => .nx (e.set i (some z)) M3 := rfl
@[simp] theorem sv_while (c : EB) (b : SV) : sWhile c b e M = whileN c b fuel e M := rfl
@[simp] theorem sv_for (src : EI) (g : GV) (b : SV) : sFor src g b e M = (src e M).toS e fun s M1 => match s with
  | .snap ds => forL g b ds e M1
  | .cel n => forC g b n fuel 0 e M1 := rfl
@[simp] theorem sv_sub (eo ei ev : EV) : sSub eo ei ev e M = (ev e M).toS e fun v M1 => (eo e M1).toS e fun o M2 => (ei e M2).toS e fun i M3 => match o, i with
  | .cell n, .int k => match M3[n]? with
    | some (.lst ds) => match ixN ds.length k with
      | some j => .nx e (M3.set n (.lst (ds.set j v)))
      | none => .stuck
    | _ => .stuck
  | _, _ => .stuck := rfl
end
@[simp] theorem gN_eq (i : Nat) (d : D) (e : EN) : gN i d e = some (e.set i (some d)) := rfl
@[simp] theorem gT_tup (is : List Nat) (ds : List D) (e : EN) : gT is (.tup ds) e = setAll is ds e := rfl
@[simp] theorem setAll_nil (e : EN) : setAll [] [] e = some e := rfl
@[simp] theorem setAll_cons (i : Nat) (is : List Nat) (d : D) (ds : List D) (e : EN) : setAll (i :: is) (d :: ds) e = setAll is ds (e.set i (some d)) := rfl
/-! primitives -/
section
variable (M : List MO)
@[simp] theorem fAdd_int (i j : Int) : fAdd (.int i) (.int j) M = .ok (.int (i + j)) M := rfl
@[simp] theorem fAdd_tup (a b : List D) : fAdd (.tup a) (.tup b) M = if a.length + b.length ≤ big then .ok (.tup (a ++ b)) M else .stuck := Eq.trans rfl rfl
@[simp] theorem fAdd_lst (a b : List D) : fAdd (.lst a) (.lst b) M = if a.length + b.length ≤ big then .ok (.lst (a ++ b)) M else .stuck := Eq.trans rfl rfl
@[simp] theorem fAdd_str (a b : Str) : fAdd (.str a) (.str b) M = if a.length + b.length ≤ big then .ok (.str (a ++ b)) M else .stuck := Eq.trans rfl rfl
@[simp] theorem fIAdd_int (i j : Int) : fIAdd (.int i) (.int j) M = .ok (.int (i + j)) M := rfl
@[simp] theorem fIAdd_tup (a b : List D) : fIAdd (.tup a) (.tup b) M = if a.length + b.length ≤ big then .ok (.tup (a ++ b)) M else .stuck := Eq.trans rfl rfl
@[simp] theorem fSub_int (i j : Int) : fSub (.int i) (.int j) M = .ok (.int (i - j)) M := rfl
@[simp] theorem fISub_int (i j : Int) : fISub (.int i) (.int j) M = .ok (.int (i - j)) M := rfl
@[simp] theorem fMul_int (i j : Int) : fMul (.int i) (.int j) M = if cMul i j then .ok (.int (i * j)) M else .stuck := Eq.trans rfl rfl
@[simp] theorem fMul_tup (xs : List D) (k : Int) : fMul (.tup xs) (.int k) M = if xs.length ≠ 0 ∧ xs.length ≤ 1000 ∧ -1000 ≤ k ∧ k ≤ 1000 then .ok (.tup (repD k.toNat xs)) M else .stuck := Eq.trans rfl rfl
@[simp] theorem fMul_lst (xs : List D) (k : Int) : fMul (.lst xs) (.int k) M = if xs.length ≤ 1000 ∧ -1000 ≤ k ∧ k ≤ 1000 then .ok (.lst (repD k.toNat xs)) M else .stuck := Eq.trans rfl rfl
@[simp] theorem fIMul_int (i j : Int) : fIMul (.int i) (.int j) M = if cMul i j then .ok (.int (i * j)) M else .stuck := Eq.trans rfl rfl
@[simp] theorem fFdiv_int (i j : Int) : fFdiv (.int i) (.int j) M = if cDiv i j then .ok (.int (i / j)) M else .stuck := Eq.trans rfl rfl
@[simp] theorem fIFdiv_int (i j : Int) : fIFdiv (.int i) (.int j) M = if cDivS i j then .ok (.int (i / j)) M else .stuck := Eq.trans rfl rfl
@[simp] theorem fMod_int (i j : Int) : fMod (.int i) (.int j) M = if 0 < j then .ok (.int (i % j)) M else .stuck := by
  show (if decide (0 < j) = true then _ else _) = _
  by_cases h : 0 < j <;> simp [h]
@[simp] theorem fPow_int (i j : Int) : fPow (.int i) (.int j) M = if cPow i j then .ok (.int (i ^ j.toNat)) M else .stuck := Eq.trans rfl rfl
@[simp] theorem fNeg_int (i : Int) : fNeg (.int i) M = .ok (.int (-i)) M := rfl
@[simp] theorem fNot_bl (b : Bool) : fNot (.bl b) M = .ok (.bl (!b)) M := rfl
@[simp] theorem fLt_int (i j : Int) : fLt (.int i) (.int j) M = .ok (.bl (decide (i < j))) M := rfl
@[simp] theorem fLe_int (i j : Int) : fLe (.int i) (.int j) M = .ok (.bl (decide (i ≤ j))) M := rfl
@[simp] theorem fGt_int (i j : Int) : fGt (.int i) (.int j) M = .ok (.bl (decide (j < i))) M := rfl
@[simp] theorem fGe_int (i j : Int) : fGe (.int i) (.int j) M = .ok (.bl (decide (j ≤ i))) M := rfl
@[simp] theorem fLt_bs (a b : List Int) : fLt (bs a) (bs b) M = .ok (.bl (HT.lexLt a b)) M := by simp [fLt, fOrd, bs]
@[simp] theorem fLe_bs (a b : List Int) : fLe (bs a) (bs b) M = .ok (.bl (!HT.lexLt b a)) M := by simp [fLe, fOrd, bs]
@[simp] theorem fGt_bs (a b : List Int) : fGt (bs a) (bs b) M = .ok (.bl (HT.lexLt b a)) M := by simp [fGt, fOrd, bs]
@[simp] theorem fGe_bs (a b : List Int) : fGe (bs a) (bs b) M = .ok (.bl (!HT.lexLt a b)) M := by simp [fGe, fOrd, bs]
@[simp] theorem fIs_non (x : D) : fIs x .non M = .ok (.bl (isNon x)) M := by cases x <;> rfl
@[simp] theorem fIsNot_non (x : D) : fIsNot x .non M = .ok (.bl (!isNon x)) M := by cases x <;> rfl
@[simp] theorem fIs_bl (a b : Bool) : fIs (.bl a) (.bl b) M = .ok (.bl (decide (a = b))) M := rfl
@[simp] theorem fIsNot_bl (a b : Bool) : fIsNot (.bl a) (.bl b) M = .ok (.bl (!decide (a = b))) M := rfl
@[simp] theorem fIsi_int_int (i : Int) : fIsi "int" (.int i) M = .ok (.bl true) M := by simp [fIsi, isi, kb1]
@[simp] theorem fIsi_int_bl (i : Bool) : fIsi "int" (.bl i) M = .ok (.bl true) M := by simp [fIsi, isi, kb2]
@[simp] theorem fIsi_int_non : fIsi "int" .non M = .ok (.bl false) M := by simp [fIsi, isi, kb3]
@[simp] theorem fIsi_int_str (i : Str) : fIsi "int" (.str i) M = .ok (.bl false) M := by simp [fIsi, isi, kb4]
@[simp] theorem fIsi_int_tup (i : List D) : fIsi "int" (.tup i) M = .ok (.bl false) M := by simp [fIsi, isi, kb5]
@[simp] theorem fIsi_int_lst (i : List D) : fIsi "int" (.lst i) M = .ok (.bl false) M := by simp [fIsi, isi, kb6]
@[simp] theorem fIsi_bool_int (i : Int) : fIsi "bool" (.int i) M = .ok (.bl false) M := by simp [fIsi, isi, kb7]
@[simp] theorem fIsi_bool_bl (i : Bool) : fIsi "bool" (.bl i) M = .ok (.bl true) M := by simp [fIsi, isi, kb8]
@[simp] theorem fIsi_bool_non : fIsi "bool" .non M = .ok (.bl false) M := by simp [fIsi, isi, kb9]
@[simp] theorem fIsi_bool_str (i : Str) : fIsi "bool" (.str i) M = .ok (.bl false) M := by simp [fIsi, isi, kb10]
@[simp] theorem fIsi_bool_tup (i : List D) : fIsi "bool" (.tup i) M = .ok (.bl false) M := by simp [fIsi, isi, kb11]
@[simp] theorem fIsi_bool_lst (i : List D) : fIsi "bool" (.lst i) M = .ok (.bl false) M := by simp [fIsi, isi, kb12]
@[simp] theorem fIsi_tup_int (i : Int) : fIsi "tuple" (.int i) M = .ok (.bl false) M := by simp [fIsi, isi, kb13]
@[simp] theorem fIsi_tup_bl (i : Bool) : fIsi "tuple" (.bl i) M = .ok (.bl false) M := by simp [fIsi, isi, kb14]
@[simp] theorem fIsi_tup_non : fIsi "tuple" .non M = .ok (.bl false) M := by simp [fIsi, isi, kb15]
@[simp] theorem fIsi_tup_str (i : Str) : fIsi "tuple" (.str i) M = .ok (.bl false) M := by simp [fIsi, isi, kb16]
@[simp] theorem fIsi_tup_tup (i : List D) : fIsi "tuple" (.tup i) M = .ok (.bl true) M := by simp [fIsi, isi, kb17]
@[simp] theorem fIsi_tup_lst (i : List D) : fIsi "tuple" (.lst i) M = .ok (.bl false) M := by simp [fIsi, isi, kb18]
@[simp] theorem fIsi_str_int (i : Int) : fIsi "str" (.int i) M = .ok (.bl false) M := by simp [fIsi, isi, kb19]
@[simp] theorem fIsi_str_bl (i : Bool) : fIsi "str" (.bl i) M = .ok (.bl false) M := by simp [fIsi, isi, kb20]
@[simp] theorem fIsi_str_non : fIsi "str" .non M = .ok (.bl false) M := by simp [fIsi, isi, kb21]
@[simp] theorem fIsi_str_str (i : Str) : fIsi "str" (.str i) M = .ok (.bl true) M := by simp [fIsi, isi, kb22]
@[simp] theorem fIsi_str_tup (i : List D) : fIsi "str" (.tup i) M = .ok (.bl false) M := by simp [fIsi, isi, kb23]
@[simp] theorem fIsi_str_lst (i : List D) : fIsi "str" (.lst i) M = .ok (.bl false) M := by simp [fIsi, isi, kb24]
@[simp] theorem fIsi_lst_int (i : Int) : fIsi "list" (.int i) M = .ok (.bl false) M := by simp [fIsi, isi, kb25]
@[simp] theorem fIsi_lst_bl (i : Bool) : fIsi "list" (.bl i) M = .ok (.bl false) M := by simp [fIsi, isi, kb26]
@[simp] theorem fIsi_lst_non : fIsi "list" .non M = .ok (.bl false) M := by simp [fIsi, isi, kb27]
@[simp] theorem fIsi_lst_str (i : Str) : fIsi "list" (.str i) M = .ok (.bl false) M := by simp [fIsi, isi, kb28]
@[simp] theorem fIsi_lst_tup (i : List D) : fIsi "list" (.tup i) M = .ok (.bl false) M := by simp [fIsi, isi, kb29]
@[simp] theorem fIsi_lst_lst (i : List D) : fIsi "list" (.lst i) M = .ok (.bl true) M := by simp [fIsi, isi, kb30]
@[simp] theorem fLen_tup (xs : List D) : fLen [.tup xs] M = .ok (.int xs.length) M := rfl
@[simp] theorem fLen_lst (xs : List D) : fLen [.lst xs] M = .ok (.int xs.length) M := rfl
@[simp] theorem fIx_tup (xs : List D) (i : Int) : fIx (.tup xs) (.int i) M = match atI xs i with
  | some d => .ok d M
  | none => .stuck := rfl
@[simp] theorem fIx_lst (xs : List D) (i : Int) : fIx (.lst xs) (.int i) M = match atI xs i with
  | some d => .ok d M
  | none => .stuck := rfl
@[simp] theorem fSl_tup (xs : List D) (lo hi : Option Int) : fSl (.tup xs) lo hi M = .ok (.tup (cutD xs lo hi)) M := rfl
@[simp] theorem fSl_lst (xs : List D) (lo hi : Option Int) : fSl (.lst xs) lo hi M = .ok (.lst (cutD xs lo hi)) M := rfl
@[simp] theorem fTuple_lst (xs : List D) : fTuple [.lst xs] M = .ok (.tup xs) M := rfl
@[simp] theorem fTuple_tup (xs : List D) : fTuple [.tup xs] M = .ok (.tup xs) M := rfl
@[simp] theorem fList_lst (xs : List D) : fList [.lst xs] M = .ok (.lst xs) M := rfl
@[simp] theorem fList_tup (xs : List D) : fList [.tup xs] M = .ok (.lst xs) M := rfl
@[simp] theorem fAll_bls (xs : List Bool) : fAll [.lst (xs.map .bl)] M = .ok (.bl (xs.all id)) M := by simp [fAll]
@[simp] theorem fSum_ints (xs : List Int) : fSum [.lst (xs.map .int)] M = .ok (.int xs.sum) M := by simp [fSum]
@[simp] theorem fAbs_int (i : Int) : fAbs [.int i] M = .ok (.int (if i < 0 then -i else i)) M := rfl
@[simp] theorem fLst'_eq (xs : List D) : fLst' xs M = .ok (.lst xs) M := rfl
@[simp] theorem fTup_eq (xs : List D) : fTup xs M = if xs.length ≤ big then .ok (.tup xs) M else .stuck := Eq.trans rfl rfl
@[simp] theorem fLst_eq (xs : List D) : fLst xs M = if xs.length ≤ big then .ok (.lst xs) M else .stuck := Eq.trans rfl rfl
@[simp] theorem fMax_int (i j : Int) : fMax [.int i, .int j] M = .ok (.int (maxI i j)) M := rfl
@[simp] theorem fMin_int (i j : Int) : fMin [.int i, .int j] M = .ok (.int (minI i j)) M := rfl
end
@[simp] theorem one_le_big : 1 ≤ big := by decide
@[simp] theorem two_le_big : 2 ≤ big := by decide
@[simp] theorem three_le_big : 3 ≤ big := by decide
@[simp] theorem zero_le_big : 0 ≤ big := by decide
@[simp] theorem isNon_non : isNon .non = true := rfl
@[simp] theorem isNon_int (i : Int) : isNon (.int i) = false := rfl
@[simp] theorem isNon_bs (i : List Int) : isNon (bs i) = false := rfl
@[simp] theorem isNon_tup (i : List D) : isNon (.tup i) = false := rfl
end KB
namespace KB
open PySem PySem.Spec PyProof.Rows L2
/-! ### calls without arguments -/
section
variable {X : Cx} {W : WX}
theorem pe_callS0 {CX : CXT} {k : Nat} {f : Addr} {fd : FuncData} {ps : List Str} {sp : Sp} {E : L2.St → XK} {x : Str} {p pos : Pos} (F : FnOk X.prog X.w X.K X.mg X.base CX k f fd ps sp) (hr : Room k X.A) (hg : Gl X x) (hm : X.mg x = some (.ref f)) (hk : PySem.W.keepIn X.K (.ref f) = true) (hb : Binds X.K fd ps []) (hx : ∀ σ, PassesAt CX X σ (E σ))
    (hdb : (x == ("__debug__" : Str)) = false := by decide) : PE X (.Call (.Name x p) [] [] pos) (tCallS sp E tNil) := by
  refine ⟨fun pins s σ H Q I h => ?_⟩
  refine wpAny_Call_Name_kw (ld_glob I hg hm ?_ hdb)
  exact PySem.W.callWith_K0 I.kIn hk (run_fnS (us := []) F hr hb (hx σ) I .nil h)
theorem ho_nil : HoA X W tNil eNil := fun F e M σ L G H Q o re h => aok h o _ .nil
theorem pd_call0 {x : Str} {k k' : Nat} {m : List D → List MO → R D} {p pos : Pos} (h : Has X.prog X.w (kx X) X.base x k m) (hr : Room k' X.A) (tk : Takes X W) (hk' : k ≤ k' := by decide) (hg : Gl X x := by rfl)
    (hdb : (x == ("__debug__" : Str)) = false := by decide) : PD X W (.Call (.Name x p) [] [] pos) (eArgs m eNil) := by
  obtain ⟨f, fd, ps, F, hm, hk, hb⟩ := h.ex
  exact ⟨_, pe_callS0 F (hr.mono hk') hg hm hk hb (fun σ => passAt tk σ) hdb, hoCall ho_nil⟩
end
end KB
namespace KB
open PySem PySem.Spec PyProof.Rows L2
/-! ### try: body, except x as n: m = n -/
section
variable {X : Cx} {pins : List (Addr × Obj)} {σ : L2.St} {H : Hp} {sI : Shared}
/-- the exception that has landed is tracked from now on -/
theorem track {B : Heap} {a : Addr} {cls : Value} {t : Shared} (I : Inv X pins σ H sI) (ground : ∀ b o, sI.heap.get? b = some o → b ∉ frs X.stack → B.get? b = some o)
    (fl : HandSPX.FlyingZ B X.stack a (Zc cls none) t.heap) (up : sI.heap.UpToSlots t.heap) (na : H a = none) (nf : a ∉ frs X.stack) (ho : t.os = sI.os) (hg : AllBare t.gens) : Inv X pins σ (upd H a (CxO cls a)) t := by
  have away : sI.heap.get? a = none := by
    cases q : sI.heap.get? a with
    | none => rfl
    | some o => have z := ground a o q nf; rw [fl.2.1] at z; cases z
  have ne : ∀ {b : Addr} {o : Obj}, sI.heap.get? b = some o → b ≠ a := fun {b o} q z => by rw [z, away] at q; cases q
  have flat := I.landed ground fl.1 up ho hg
  obtain ⟨ob, fv, g1, g2, g3⟩ := fl.there
  have fr : ∀ b ∈ frs X.stack, ∀ o, sI.heap.get? b = some o → ∃ sl, t.heap.get? b = some { o with slots := sl } := fun b hb o q => by
    obtain ⟨_, o', q', hd⟩ := I.stack.mem hb
    rw [q] at q'
    cases q'
    exact up b o q hd
  have hne : ∀ {b : Addr} {o : HO}, H b = some o → b ≠ a := fun {b o} q z => by rw [z, na] at q; cases q
  refine I.call' (ch := []) ho ⟨fun b o q _ hb _ => fl.1 b o (ground b o q hb), fun b o q _ hb _ => fr b hb o q, fun b o q n _ => by rw [upd_ne (ne q)]; exact n, fun b o q _ => ?_, fun b xs q => by rw [upd_ne (hne q)]; exact q, fun b o u q => by rw [upd_ne (hne q)]; exact q, fun b ps q => ⟨#[], by rw [upd_ne (hne q), q]; simp⟩⟩
    (flat.hok.laidN (fun _ _ z => z) na ⟨⟨ob, fv, g1, g3, g2⟩, ⟨ob, g1⟩, fun h1 h2 ⟨o, v, q, r⟩ k => ⟨o, v, k o q, r⟩⟩) hg (fun _ z => nomatch z)
  by_cases hb : b ∈ frs X.stack
  · obtain ⟨sl, z⟩ := fr b hb o q
    exact ⟨_, z⟩
  · exact ⟨o, fl.1 b o (ground b o q hb)⟩
theorem toSuite (I : Inv X pins σ H sI) (a : Addr) : Inv (X.suite a (X.pn ++ pins)) [] σ H sI :=
  ⟨I.ok.suite a _, I.os, I.bare, I.base, I.loc, I.cell, I.free, I.freeC, fun p hp => I.pin p ((List.append_nil _).subst (motive := fun z => p ∈ z) hp), I.hok, I.len⟩
theorem ofSuite {a : Addr} {pn' : List (Addr × Obj)} (I : Inv (X.suite a (X.pn ++ pins)) pn' σ H sI) (ok : X.Ok) : Inv X pins σ H sI :=
  ⟨ok, I.os, I.bare, I.base, I.loc, I.cell, I.free, I.freeC, fun p hp => I.pin p (List.mem_append_left pn' hp), I.hok, I.len⟩
end
/-- what the clause wishes: the exception is of the named class, has no dict, and is held by slot j behind -/
def wKeep (K : PySem.W.Frag) (c : Value) (i j : Nat) (Dn : Ends) : WX := fun cls d σ H =>
  PySem.W.exmOne K cls c = some true ∧ d = none ∧ ∀ a, H a = none → Dn.nx (((σ.set i (some (.ref a))).set j (some (.ref a))).set i none) (upd H a (CxO cls a))
section
variable {X : Cx} {x n m : Str} {c : Value} {i j : Nat} {body : List Stmt} {np mp vp ap pos pos' : Pos} {tb : WX → TS}
theorem ps_keep (hs : X.stack = X.env :: X.outer) (hf : X.env.frame = some X.env.locals) (hN : X.N.Nodup) (hi : X.N[i]? = some n) (hj : X.N[j]? = some m) (hln : X.env.kindOf n = some .local) (hlm : X.env.kindOf m = some .local) (hc : Names X x c)
    (hdn : (n == ("__debug__" : Str)) = false) (hcn : (n == ("__classdict__" : Str)) = false) (hsw : ∀ (A : Around), swapsWith (.Name n vp) (some (.Name m mp)) ap.line X.env = pure false) (hfm : X.env.scope.names.lookup m = some .local)
    (hb : ∀ (W : WX) (pn : List (Addr × Obj)) (xe : Value → Shared → Prop), Takes (X.tr pn xe) W → PassesOwn (model X.prog X.w) X.A X.env xe → PSs (X.tr pn xe) body (tb W)) :
    PS X (.Try body [.ExceptHandler (some (.Name x np)) (some n) [.Assign [.Name m mp] (.Name n vp) ap] pos'] [] [] pos) (fun Dn σ H => tb (wKeep X.K c i j Dn) Dn σ H) := by
  refine ⟨fun pins s σ H Dn I h => ?_⟩
  have good := I.ok
  have frm : X.A.frames = some (X.env :: X.outer) := by rw [good.frames, hs]
  refine wpAny_Try_except ?_
  refine wpAny_mono ((hb (wKeep X.K c i j Dn) (X.pn ++ pins) (fun u t1 => wpAny (model X.prog X.w) X.A (noteFrame u X.env) (fun _ t2 => wpAny (model X.prog X.w) X.A (setFlight u none)
    (fun _ t3 => wpAny (model X.prog X.w) X.A (handleBy u X.env [.ExceptHandler (some (.Name x np)) (some n) [.Assign [.Name m mp] (.Name n vp) ap] pos']) (SP X pins Dn) X.xe t3) X.xe t2) X.xe t1) (fun u t air => ?_) PassesOwn.looking).run [] s σ H Dn (I.toTry _) h) (fun fl t1 out => ?_) (fun _ _ z => z)
  · obtain ⟨a, B, sG, pins', σG, HG, cls, d, rfl, JG, ground, up, sky, na, os, bare, yes, rfl, wish⟩ := air
    have J : Inv X pins σG HG sG := JG.ofTry good
    have sky2 : Sky B (X.env :: X.outer) a (Zc cls none) X.env.locals t.heap := by rw [← hs]; exact sky
    show wpAny (model X.prog X.w) X.A (noteFrame (.ref a) X.env) _ _ _
    refine Sky.land Zc.steady frm hf sky2 fun hA flA upA => ?_
    obtain ⟨obA, fvA, gA, zA, dA⟩ := flA.there
    have nfA : a ∉ frs (X.env :: X.outer) := fun hm => by
      obtain ⟨_, o', q', hnf⟩ := flA.2.2.1.mem hm
      rw [gA] at q'
      cases q'
      exact hnf _ dA
    have nf : a ∉ frs X.stack := by rw [hs]; exact nfA
    have KA : Inv X pins σG (upd HG a (CxO cls a)) { t with heap := hA } := track J ground (by rw [hs]; exact flA) (up.trans upA) na nf os bare
    have SA := toSuite KA a
    refine wpAny_handleBy_cons (codeAny_handlers_test ?_) (by intro q; cases q)
    have type : PySem.W.Looks (model X.prog X.w) hA (typeOf (.ref a)) cls := fun A Q E s k q => wpAny_typeOf_ref (k _ _ gA) (by rw [zA.1]; exact q)
    have match' := PySem.W.exm_one (M := model X.prog X.w) (KA.kIn) type yes
    have named : ∀ {Q : Value → Shared → Prop} {E : Value → Shared → Prop}, Q c { t with heap := hA } → wpAny (model X.prog X.w) (X.A.mark (some (.ref a))) (eval (.Name x np) X.env) Q E { t with heap := hA } := fun {Q E} q => by
      obtain ⟨hg, hdbg, hm | ⟨hm, hv, hnn⟩⟩ := hc
      · exact ld_glob (X := X.suite a (X.pn ++ pins)) SA hg hm q hdbg
      · exact ld_blt (X := X.suite a (X.pn ++ pins)) SA hg hm hv q hnn hdbg
    refine named (match'.here ?_)
    refine codeAny_handlers_suite_as ?_
    refine HandSPX.lands_againZ flA fun hB flB upB => ?_
    have KB' : Inv X pins σG (upd HG a (CxO cls a)) { t with heap := hB } := track J ground (by rw [hs]; exact flB) ((up.trans upA).trans upB) na nf os bare
    have SB := toSuite KB' a
    refine store_ok (X := X.suite a (X.pn ++ pins)) (v := .ref a) SB hN hi (.inl hln) rfl (fun t5 S5 => ?_) (.inr hln)
    have asg : PS (X.suite a (X.pn ++ pins)) (.Assign [.Name m mp] (.Name n vp) ap) (tAsg (tVar i) (gName j)) := ps_set (X := X.suite a (X.pn ++ pins)) hN hj (.inl hlm) (pe_var (X := X.suite a (X.pn ++ pins)) hi (.inl hln) hdn hcn) (hsw X.A) (.inr hfm)
    have one := pss_one (X := X.suite a (X.pn ++ pins)) asg
    have hlen : i < σG.length := by rw [J.len]; exact (List.getElem?_eq_some_iff.mp hi).1
    refine wpAny_mono (one.run [] t5 _ _ { nx := fun σ' H' => σ' = (σG.set i (some (.ref a))).set j (some (.ref a)) ∧ H' = upd HG a (CxO cls a), rt := fun _ _ => False, bk := fun _ _ => False, ct := fun _ _ => False } S5 ?_) (fun f t6 out => ?_) (fun _ _ z => False.elim z)
    · exact ⟨.ref a, List.getElem?_set_self hlen, rfl, rfl⟩
    · cases f with
      | next =>
        obtain ⟨σ6, H6, S6, e6, e6'⟩ := out
        subst e6 e6'
        exact gone_ok (ofSuite S6 good) hN hi hln fun t7 J7 => ⟨_, _, J7, wish a na⟩
      | brk => obtain ⟨_, _, _, z⟩ := out; exact z.elim
      | cont => obtain ⟨_, _, _, z⟩ := out; exact z.elim
      | ret u => obtain ⟨_, _, _, _, _, z⟩ := out; exact z.elim
  · cases fl with
    | next => obtain ⟨σ', H', J', q⟩ := out; exact wpAny_execs_nil ⟨σ', H', J'.ofTry good, q⟩
    | brk => obtain ⟨σ', H', J', q⟩ := out; exact ⟨σ', H', J'.ofTry good, q⟩
    | cont => obtain ⟨σ', H', J', q⟩ := out; exact ⟨σ', H', J'.ofTry good, q⟩
    | ret u => obtain ⟨v, σ', H', J', r, q⟩ := out; exact ⟨v, σ', H', J'.ofTry good, r, q⟩
end
/-- the classes cs are all caught by except x -/
structure Exm (C : Kx) (x : Str) (cs : List Str) : Prop where
  ex : ∃ cv, C.mg x = some cv ∧ ∀ c u, c ∈ cs → C.mg c = some u → PySem.W.exmOne C.K u cv = some true
def sTry (cs : List Str) (i j : Nat) (sv : SV) : SV := fun e M => match sv e M with
  | .exc c e' M' => if c ∈ cs then .nx (((e'.set i (some (.exc c))).set j (some (.exc c))).set i none) M' else .stuck
  | r => r
theorem RpE.setNone {C : Kx} {L : List Addr} {G : Hp} {σ : L2.St} {e : EN} (h : RpE C L G σ e) (i : Nat) : RpE C L G (σ.set i none) (e.set i none) := by
  refine ⟨by simp [h.len], fun k d q => ?_⟩
  by_cases hk : i = k
  · subst hk
    by_cases hi : i < e.length
    · rw [List.getElem?_set_self hi] at q; cases q
    · rw [List.getElem?_eq_none (by simp; omega)] at q; cases q
  · rw [List.getElem?_set_ne hk] at q ⊢
    exact h.at' k d q
section
variable {X : Cx} {W : WX} {x n m : Str} {i j : Nat} {body : List Stmt} {np mp vp ap pos pos' : Pos} {sv : SV} {cs : List Str}
def tsOf (X : Cx) (sv : SV) (W' : WX) : TS := fun Dn σ H => ∃ F e M L G, Ok (kx X) F L G M H ∧ RpE (kx X) L G σ e ∧ AftS X W' F L G Dn (sv e M)
theorem psd_try (hN : X.N.Nodup) (hx : Exm (kx X) x cs) (hb : ∀ (W' : WX) (pn : List (Addr × Obj)) (xe : Value → Shared → Prop), Takes (X.tr pn xe) W' → PSsD (X.tr pn xe) W' body sv)
    (hs : X.stack = X.env :: X.outer := by rfl) (hf : X.env.frame = some X.env.locals := by rfl) (hi : X.N[i]? = some n := by rfl) (hj : X.N[j]? = some m := by rfl) (hln : X.env.kindOf n = some .local := by rfl) (hlm : X.env.kindOf m = some .local := by rfl)
    (hg : Gl X x := by rfl) (hdx : (x == ("__debug__" : Str)) = false := by decide) (hdn : (n == ("__debug__" : Str)) = false := by decide) (hcn : (n == ("__classdict__" : Str)) = false := by decide) (hsw : swapsWith (.Name n vp) (some (.Name m mp)) ap.line X.env = pure false := by rfl) (hfm : X.env.scope.names.lookup m = some .local := by rfl) :
    PSD X W (.Try body [.ExceptHandler (some (.Name x np)) (some n) [.Assign [.Name m mp] (.Name n vp) ap] pos'] [] [] pos) (sTry cs i j sv) := by
  obtain ⟨cv, hm, hex⟩ := hx.ex
  refine ⟨_, ps_keep (tb := tsOf X sv) hs hf hN hi hj hln hlm ⟨hg, hdx, .inl hm⟩ hdn hcn (fun _ => hsw) hfm (fun W' pn xe tk _ => ⟨fun pins s σ H Dn I h => ?_⟩), fun F e M σ L G H Dn o re h => ?_⟩
  · obtain ⟨F, e, M, L, G, o, re, af⟩ := h
    obtain ⟨t, p, q⟩ := hb W' pn xe tk
    exact p.run pins s σ H Dn I (q F e M σ L G H Dn o re af)
  · refine ⟨F, e, M, L, G, o, re, ?_⟩
    unfold sTry at h
    cases hr : sv e M with
    | nx e' M' => rw [hr] at h; exact h
    | ret d M' => rw [hr] at h; exact h
    | brk e' M' => rw [hr] at h; exact h
    | cnt e' M' => rw [hr] at h; exact h
    | stuck => rw [hr] at h; exact h.elim
    | exc c e' M' =>
      rw [hr] at h
      simp only at h
      split at h
      · rename_i hc
        intro σ' L' G' H' u o' x' re' hu
        refine ⟨hex c u hc hu, rfl, fun a na => ?_⟩
        obtain ⟨o2, x2⟩ := o'.lay (u := CxO u a) na
        have r : Rp (kx X) L' (upd G' a (CxO u a)) (.ref a) (.exc c) := .exc hu upd_same
        exact h _ L' _ _ o2 (x'.trans x2) ((((re'.mono x2).set r).set r).setNone i)
      · exact h.elim
end
/-! ### isinstance of a caught exception -/
def xcls : List Str := ["BadBytes", "BadScheme", "BadRow", "BadIndex", "BadText", "NotFound"]
def fIsX (T : Str) (x : D) (M : List MO) : R D := match x with
  | .exc c => if c ∈ xcls then (if T = "KeyBytesError" ∨ T = "ValueError" then .ok (.bl true) M else if T ∈ xcls then .ok (.bl (decide (c = T))) M else .stuck) else .stuck
  | _ => .stuck
/-- what the classes say of their instances -/
structure XIs (C : Kx) (T : Str) (tv : V) : Prop where
  is : ∀ c ∈ xcls, ∃ A, C.mg c = some (.ref A) ∧ ExcC C.K A ∧ ∃ cv b, (∀ u, RelV tv u → u = cv) ∧ PySem.W.kitOne C.K (.ref A) cv = some b ∧ (T = "KeyBytesError" ∨ T = "ValueError" → b = true) ∧ (T ∈ xcls → b = decide (c = T))
def rIsX (K : PySem.W.Frag) : List V → Hp → VK → Prop := fun xs H Q => ∃ (a A : Addr) (tv : V) (cv : Value) (b : Bool), xs = [.ref a, tv] ∧ H a = some (CxO (.ref A) a) ∧ ExcC K A ∧ (∀ u, RelV tv u → u = cv) ∧ PySem.W.kitOne K (.ref A) cv = some b ∧ Q (.bl b) H
theorem call_isX {X : Cx} : CallR X (.builtin "isinstance") (rIsX X.K) := by
  intro pins s σ H xs us Q I r h
  obtain ⟨a, A, tv, cv, b, rfl, hH, Ec, hcv, hk, q⟩ := h
  cases r with
  | cons rx rr =>
    cases rr with
    | cons rt rn =>
      cases rn
      cases rx
      have same := hcv _ rt
      subst same
      obtain ⟨⟨ob, fv, g1, g2, g3⟩, _, _⟩ := I.hok a _ hH
      have at' : PySem.W.InstAt s.heap a ob A none := by
        obtain ⟨oc, od, oda, osl⟩ := ob
        obtain ⟨k1, k2⟩ := g3
        dsimp only at k1 k2 g2
        subst k1 k2 g2
        exact ⟨g1, rfl, rfl, trivial⟩
      exact PySem.W.kia_one (PySem.W.handS_kitx_exc Ec.hg Ec.hk Ec.hs Ec.hd Ec.ha Ec.hn Ec.ht Ec.hm) I.kIn at' hk (fun z => nomatch z) fun tk => ⟨.bl b, H, I.kept (t' := tk) fun _ _ z => z, rfl, q⟩
section
variable {X : Cx} {W : WX}
theorem hoIsX {T : Str} {tv : V} {t : TE} {ea : EV} (hx : XIs (kx X) T tv) (q : HoE X W t ea) : HoE X W (fun σ H Q => tCons t (tCons (tC tv) tNil) σ H fun vs H1 => rIsX X.K vs H1 Q) (eUn (fIsX T) ea) := by
  intro F e M σ L G H Q o re h
  refine q F e M σ L G H _ o re ((Aft.bind h).imp fun d M1 L1 G1 H1 o1 x1 h1 v r => ?_)
  unfold fIsX at h1
  split at h1
  · rename_i c
    split at h1
    · rename_i hc
      obtain ⟨A, hm, Ec, cv, b, hcv, hk, b1, b2⟩ := hx.is c hc
      cases r with
      | exc hu hG =>
        rw [show (kx X).mg c = some (Value.ref A) from hm] at hu
        cases hu
        refine ⟨_, A, tv, cv, b, rfl, o1.sub _ _ hG, Ec, hcv, hk, ?_⟩
        split at h1
        · rename_i hT
          rw [b1 hT]
          exact aok h1 o1 _ (.bl true)
        · split at h1
          · rename_i hT
            rw [b2 hT]
            exact aok h1 o1 _ (.bl _)
          · exact h1.elim
    · exact h1.elim
  · exact h1.elim
theorem pd_isX {a : Expr} {T : Str} {CT : Addr} {p p2 pos : Pos} {ea : EV} (hm : X.mg "isinstance" = none) (hT : X.mg T = some (.ref CT)) (hx : XIs (kx X) T (.ref CT)) (ha : PD X W a ea) (hg : Gl X "isinstance" := by rfl) (hg2 : Gl X T := by rfl) (hdb : (T == ("__debug__" : Str)) = false := by decide)
    (hs : starEach [a, .Name T p2] X.env = (false, eval a X.env) :: starEach [.Name T p2] X.env := by rfl) (hs2 : starEach [.Name T p2] X.env = (false, eval (.Name T p2) X.env) :: starEach [] X.env := by rfl) (hpl : (backTo pos (starEach [.Name T p2] X.env)).any (·.1) = false := by rfl) :
    PD X W (.Call (.Name "isinstance" p) [a, .Name T p2] [] pos) (eUn (fIsX T) ea) := by
  obtain ⟨t, pa, q⟩ := ha
  exact ⟨_, pe_callB call_isX hg hm (by decide +kernel) (pa_cons pa (pa_cons (pe_glob (v := .ref CT) hg2 hT rfl hdb) pa_nil hs2) hs) (by decide) (by decide) hs hpl, hoIsX hx q⟩
theorem pd_isXb {a : Expr} {T : Str} {TN : String} {p p2 pos : Pos} {ea : EV} (hm : X.mg "isinstance" = none) (hT : X.mg T = none) (hb : bootBuiltins T = some (.type TN)) (hx : XIs (kx X) T (.ty TN)) (ha : PD X W a ea) (hg : Gl X "isinstance" := by rfl) (hg2 : Gl X T := by rfl) (hn : T ≠ "__name__" := by decide) (hdb : (T == ("__debug__" : Str)) = false := by decide)
    (hs : starEach [a, .Name T p2] X.env = (false, eval a X.env) :: starEach [.Name T p2] X.env := by rfl) (hs2 : starEach [.Name T p2] X.env = (false, eval (.Name T p2) X.env) :: starEach [] X.env := by rfl) (hpl : (backTo pos (starEach [.Name T p2] X.env)).any (·.1) = false := by rfl) :
    PD X W (.Call (.Name "isinstance" p) [a, .Name T p2] [] pos) (eUn (fIsX T) ea) := by
  obtain ⟨t, pa, q⟩ := ha
  exact ⟨_, pe_callB call_isX hg hm (by decide +kernel) (pa_cons pa (pa_cons (pe_bltn (v := .ty TN) hg2 hT hb rfl hn hdb) pa_nil hs2) hs) (by decide) (by decide) hs hpl, hoIsX hx q⟩
/-! ### list.count, list.index of booleans -/
def rCntF (K : PySem.W.Frag) : V → List V → Hp → VK → Prop := fun x xs H Q => ∃ (a : Addr) (ys : List V) (y : V), x = .ref a ∧ xs = [y] ∧ SqL K H a ys ∧ flatV y = true ∧ ys.all flatV = true ∧ Q (.int (ys.countP fun z => eqV z y : Nat)) H
theorem count_eq {y : V} : ∀ {ys : List V} {us : List Value}, Vals ys us → ys.all flatV = true → us.countP (eqU y) = ys.countP fun z => eqV z y
  | _, _, .nil, _ => rfl
  | _, _, .cons r t, f => by
    rw [List.all_cons, Bool.and_eq_true] at f
    rw [List.countP_cons, List.countP_cons, count_eq t f.2, eqU_of r f.1]
theorem mt_countF : MtR X "list.count" (rCntF X.K) := by
  intro pins s σ H x xs v us Q I rx rxs h
  obtain ⟨a, ys, y, rfl, rfl, hsq, fy, fys, q⟩ := h
  cases rx
  cases rxs with
  | cons ry rt =>
    rename_i uy ut
    cases rt
    obtain ⟨its, rv, ⟨⟨cls, dd, data, sl⟩, n, ho, hc, hdn, hd⟩, hlen⟩ := I.list hsq
    simp only at hc hd
    subst hc hd
    refine call_meets PySem.F.slot_list_count ⟨_, ho, rfl⟩ PySem.F.entry_list_count (PySem.F.args_list_count_2 _ _) (SeqAt.list_countAt a its.toArray n dd sl uy (eqU y)) ⟨ho, fun w hw => mem_eqAt ry fy rv fys w (by simpa using hw), ?_⟩
    have ec : its.toArray.toList.countP (eqU y) = ys.countP fun z => eqV z y := by simpa using count_eq rv fys
    rw [ec]
    exact ⟨.int (ys.countP fun z => eqV z y : Nat), H, I.tok _, ⟨s.toks, rfl⟩, q⟩
def fCount (o : D) (xs : List D) (M : List MO) : R D := match res M o, xs with
  | .lst ds, [.bl b] => match bls? ds with
    | some ns => .ok (.int (ns.count b : Nat)) M
    | none => .stuck
  | _, _ => .stuck
theorem bl_flat (ns : List Bool) : (ns.map V.bl).all flatV = true := by
  rw [List.all_map, List.all_eq_true]; intro _ _; rfl
theorem bl_eq (x y : Bool) : eqV (.bl x) (.bl y) = (x == y) := by cases x <;> cases y <;> decide
theorem dCount : MtD X W (rCntF X.K) fCount := by
  intro x vs dx ds M F L G H σ Q o rx r h
  unfold fCount at h
  split at h
  · rename_i es b e1
    obtain ⟨a, ws, rfl, hq, hl⟩ := o.viewL rx e1
    split at h
    · rename_i ns hns
      have ew := bls_V hl hns
      subst ew
      obtain ⟨v, rfl, rv⟩ := one r
      cases rv
      refine ⟨a, ns.map V.bl, .bl b, rfl, rfl, .inl (.inl hq), rfl, bl_flat ns, ?_⟩
      have : ((ns.map V.bl).countP fun z => eqV z (.bl b)) = ns.count b := by
        rw [List.countP_map]
        simp [List.count, Function.comp_def, bl_eq]
      rw [this]
      exact aok h o _ (.int _)
    · exact h.elim
  · exact h.elim
def fIndex (o : D) (xs : List D) (M : List MO) : R D := match res M o, xs with
  | .lst ds, [.bl b] => match bls? ds with
    | some ns => if b ∈ ns then .ok (.int (ns.idxOf b : Nat)) M else .stuck
    | none => .stuck
  | _, _ => .stuck
theorem dIndex : MtD X W (rIndex X.K) fIndex := by
  intro x vs dx ds M F L G H σ Q o rx r h
  unfold fIndex at h
  split at h
  · rename_i es b e1
    obtain ⟨a, ws, rfl, hq, hl⟩ := o.viewL rx e1
    split at h
    · rename_i ns hns
      have ew := bls_V hl hns
      subst ew
      obtain ⟨v, rfl, rv⟩ := one r
      cases rv
      split at h
      · rename_i hb
        have hlt : ns.idxOf b < ns.length := List.idxOf_lt_length_iff.mpr hb
        refine ⟨a, ns.map V.bl, .bl b, ns.idxOf b, .bl b, rfl, rfl, .inl (.inl hq), rfl, bl_flat ns, ?_, by rw [bl_eq]; simp, ?_, aok h o _ (.int _)⟩
        · rw [List.getElem?_map, List.getElem?_eq_getElem hlt, List.getElem_idxOf hlt]; rfl
        · intro k z hk hz
          rw [List.getElem?_map] at hz
          obtain ⟨y, hy, rfl⟩ := Option.map_eq_some_iff.mp hz
          rw [bl_eq]
          have hkl : k < ns.length := by omega
          rw [List.getElem?_eq_getElem hkl] at hy
          cases hy
          have := List.not_of_lt_findIdx (show k < ns.findIdx (· == b) from hk)
          simpa using this
      · exact h.elim
    · exact h.elim
  · exact h.elim
theorem pd_count {o a : Expr} {apos cpos : Pos} {eo : EV} {ea : EA} (ho : PD X W o eo) (ha : PAD X W [a] ea)
    (hbase : attributeBase o "count" X.env (eval o X.env) = eval o X.env := by rfl)
    (hfew : ((backTo cpos (starEach [a] X.env)).all (fun x => !x.1) && (backToKw cpos (keywordEach [] X.env)).all (fun x => x.1.isSome)
      && decide ([a].length + ([] : List Keyword).length + (if ([] : List Keyword).isEmpty then 0 else 1) < 30)) = true := by rfl)
    (hline : (apos.endLine == cpos.line) = true := by rfl) (hs : starEach [a] X.env = (false, eval a X.env) :: starEach [] X.env := by rfl) : PD X W (.Call (.Attribute o "count" apos) [a] [] cpos) (eMeth ckL fCount eo ea) :=
  pd_meth PySem.F.plainAttrs_list PySem.F.slot_list_count PySem.F.type_list_count mt_countF ckL_ok dCount ho ha hbase hfew hline hs rfl
theorem pd_index {o a : Expr} {apos cpos : Pos} {eo : EV} {ea : EA} (ho : PD X W o eo) (ha : PAD X W [a] ea)
    (hbase : attributeBase o "index" X.env (eval o X.env) = eval o X.env := by rfl)
    (hfew : ((backTo cpos (starEach [a] X.env)).all (fun x => !x.1) && (backToKw cpos (keywordEach [] X.env)).all (fun x => x.1.isSome)
      && decide ([a].length + ([] : List Keyword).length + (if ([] : List Keyword).isEmpty then 0 else 1) < 30)) = true := by rfl)
    (hline : (apos.endLine == cpos.line) = true := by rfl) (hs : starEach [a] X.env = (false, eval a X.env) :: starEach [] X.env := by rfl) : PD X W (.Call (.Attribute o "index" apos) [a] [] cpos) (eMeth ckL fIndex eo ea) :=
  pd_meth PySem.F.plainAttrs_list PySem.F.slot_list_index PySem.F.type_list_index mt_index ckL_ok dIndex ho ha hbase hfew hline hs rfl
end
end KB
namespace KB
open PySem PySem.Spec PyProof.Rows L2
/-! ### what the classes say, out of what the top has left -/
theorem kit_ne {K : PySem.W.Frag} {A B : Addr} {b : Bool} (ne : A ≠ B) (hd : PySem.W.hasDictIn K B = true) (ht : PySem.W.typeIn K (.ref B) = some (.type "type")) (hb : PySem.W.subIn K (.ref A) (.ref B) = some b) : PySem.W.kitOne K (.ref A) (.ref B) = some b := by
  unfold PySem.W.kitOne
  rw [if_neg (by simpa using ne)]
  unfold PySem.W.kitCls
  obtain ⟨cd, hc, _⟩ := PySem.W.any_some hd
  have z : ((PySem.W.clsIn K B).isSome && PySem.W.typeIn K (.ref B) == some (.type "type")) = true := by rw [hc, ht]; rfl
  simp only [z, if_true]
  exact hb
theorem kit_eq {K : PySem.W.Frag} {A : Addr} : PySem.W.kitOne K (.ref A) (.ref A) = some true := by
  unfold PySem.W.kitOne
  rw [if_pos (by simp)]
theorem kit_ve {K : PySem.W.Frag} {A : Addr} (hb : PySem.W.subIn K (.ref A) (.type "ValueError") = some true) : PySem.W.kitOne K (.ref A) (.type "ValueError") = some true := by
  unfold PySem.W.kitOne
  rw [if_neg (by simp)]
  unfold PySem.W.kitCls
  have z : PySem.W.kitMeta "ValueError" = true := by decide +kernel
  simp only [z, if_true]
  exact hb
/-- the six classes and where they stand -/
structure XAll (C : Kx) (Kb : Addr) (as : List (Str × Addr)) : Prop where
  nm : as.map (·.1) = xcls
  mg : ∀ p ∈ as, C.mg p.1 = some (.ref p.2)
  ex : ∀ p ∈ as, ExcC C.K p.2
  ty : ∀ p ∈ as, PySem.W.typeIn C.K (.ref p.2) = some (.type "type")
  kb : C.mg "KeyBytesError" = some (.ref Kb)
  kd : PySem.W.hasDictIn C.K Kb = true
  kt : PySem.W.typeIn C.K (.ref Kb) = some (.type "type")
  ks : PySem.W.subIn C.K (.ref Kb) (.type "BaseException") = some true
  kn : ∀ p ∈ as, p.2 ≠ Kb
  sk : ∀ p ∈ as, PySem.W.subIn C.K (.ref p.2) (.ref Kb) = some true
  sv : ∀ p ∈ as, PySem.W.subIn C.K (.ref p.2) (.type "ValueError") = some true
  sn : ∀ p ∈ as, ∀ q ∈ as, p.1 ≠ q.1 → p.2 ≠ q.2 ∧ PySem.W.subIn C.K (.ref p.2) (.ref q.2) = some false
theorem XAll.find {C : Kx} {Kb : Addr} {as : List (Str × Addr)} (h : XAll C Kb as) {c : Str} (hc : c ∈ xcls) : ∃ A, (c, A) ∈ as := by
  rw [← h.nm] at hc
  obtain ⟨p, hp, rfl⟩ := List.mem_map.mp hc
  exact ⟨p.2, hp⟩
theorem XAll.exm {C : Kx} {Kb : Addr} {as : List (Str × Addr)} (h : XAll C Kb as) : Exm C "KeyBytesError" xcls := by
  refine ⟨.ref Kb, h.kb, fun c u hc hu => ?_⟩
  obtain ⟨A, hA⟩ := h.find hc
  have := h.mg _ hA
  rw [hu] at this
  cases this
  exact PySem.W.exm_ref h.ks h.kd h.kt (h.sk _ hA)
theorem XAll.base {C : Kx} {Kb : Addr} {as : List (Str × Addr)} (h : XAll C Kb as) : XIs C "KeyBytesError" (.ref Kb) := by
  refine ⟨fun c hc => ?_⟩
  obtain ⟨A, hA⟩ := h.find hc
  exact ⟨A, h.mg _ hA, h.ex _ hA, .ref Kb, true, fun u r => r, kit_ne (h.kn _ hA) h.kd h.kt (h.sk _ hA), fun _ => rfl, fun z => absurd z (by decide +kernel)⟩
theorem XAll.val {C : Kx} {Kb : Addr} {as : List (Str × Addr)} (h : XAll C Kb as) : XIs C "ValueError" (.ty "ValueError") := by
  refine ⟨fun c hc => ?_⟩
  obtain ⟨A, hA⟩ := h.find hc
  exact ⟨A, h.mg _ hA, h.ex _ hA, .type "ValueError", true, fun u r => r, kit_ve (h.sv _ hA), fun _ => rfl, fun z => absurd z (by decide +kernel)⟩
theorem XAll.own {C : Kx} {Kb : Addr} {as : List (Str × Addr)} (h : XAll C Kb as) {T : Str} {B : Addr} (hT : (T, B) ∈ as) (hx : T ∈ xcls) : XIs C T (.ref B) := by
  have h1 : T ≠ "KeyBytesError" := fun z => absurd (z ▸ hx) (by decide +kernel)
  have h2 : T ≠ "ValueError" := fun z => absurd (z ▸ hx) (by decide +kernel)
  refine ⟨fun c hc => ?_⟩
  obtain ⟨A, hA⟩ := h.find hc
  refine ⟨A, h.mg _ hA, h.ex _ hA, .ref B, decide (c = T), fun u r => r, ?_, fun z => (z.elim (fun z => absurd z h1) fun z => absurd z h2), fun _ => rfl⟩
  by_cases q : c = T
  · subst q
    have e1 := h.mg _ hA
    have e2 := h.mg _ hT
    simp only at e1 e2
    rw [e1] at e2
    cases e2
    rw [decide_eq_true rfl]
    exact kit_eq
  · obtain ⟨n1, n2⟩ := h.sn _ hA _ hT q
    rw [decide_eq_false q]
    exact kit_ne n1 (h.ex _ hT).hd (h.ty _ hT) n2
/-- code that is never reached: the evaluator is stuck there -/
def eStk : EV := fun _ _ => .stuck
theorem pd_stk {X : Cx} {W : WX} {e : Expr} : PD X W e eStk := ⟨fun _ _ _ => False, ⟨fun _ _ _ _ _ _ h => h.elim⟩, fun _ _ _ _ _ _ _ _ _ _ h => h⟩
@[simp] theorem ev_stk (e : EN) (M : List MO) : eStk e M = .stuck := rfl
end KB
namespace KB
open PySem PySem.Spec PyProof.Rows L2
/-! ### objects that may change -/
section
variable {C : Kx} {F : Hp} {L : List Addr} {G H : Hp} {M : List MO} {a : Addr}
theorem Ok.setMO (o : Ok C F L G M H) {n : Nat} {u : HO} {mo : MO} (h : L[n]? = some a) (hm : MoOk C L G (upd H a u) a mo) : Ok C F L G (M.set n mo) (upd H a u) := by
  have ha : a ∈ L := List.mem_of_getElem? h
  refine ⟨fun b x q => by rw [upd_ne (fun z : b = a => (o.fo b x q).2 (z ▸ ha))]; exact o.fs b x q, o.fo, fun b x q => ?_, by simp [o.len], o.nd, o.out, fun m b x h1 h2 => ?_⟩
  · rw [upd_ne (ne_of_none q (o.out a ha))]; exact o.sub b x q
  · by_cases hmn : m = n
    · subst hmn
      rw [h] at h1
      cases h1
      rw [List.getElem?_set_self (by rw [← o.len]; exact (List.getElem?_eq_some_iff.mp h).1)] at h2
      cases h2
      exact hm
    · rw [List.getElem?_set_ne (fun z => hmn z.symm)] at h2
      refine (o.cells m b x h1 h2).mono (Ext.refl _ _) (upd_ne fun z => hmn ?_)
      subst z
      obtain ⟨i1, e1⟩ := List.getElem?_eq_some_iff.mp h1
      obtain ⟨i2, e2⟩ := List.getElem?_eq_some_iff.mp h
      exact (List.getElem_inj o.nd).mp (e1.trans e2.symm)
theorem Ok.newMO (o : Ok C F L G M H) {p : Addr} {u : HO} {mo : MO} (h : H p = none) (hm : MoOk C (L ++ [p]) G (upd H p u) p mo) :
    Ok C F (L ++ [p]) G (M ++ [mo]) (upd H p u) ∧ Ext L G (L ++ [p]) G ∧ Rp C (L ++ [p]) G (.ref p) (.cell M.length) := by
  obtain ⟨g, nl⟩ := o.fresh h
  have e : Ext L G (L ++ [p]) G := ⟨⟨[p], rfl⟩, Same.refl G⟩
  have nf := o.freshF h
  refine ⟨⟨fun b x q => by rw [upd_ne (ne_of_none q nf)]; exact o.fs b x q, fun b x q => ⟨(o.fo b x q).1, fun z => ?_⟩, fun b x q => ?_, by simp [o.len], ?_, fun b hb => ?_, fun n b x h1 h2 => ?_⟩, e, .cell ?_⟩
  · rcases List.mem_append.mp z with z | z
    · exact (o.fo b x q).2 z
    · simp at z; subst z; rw [nf] at q; cases q
  · rw [upd_ne (ne_of_none q g)]; exact o.sub b x q
  · exact List.nodup_append.mpr ⟨o.nd, by simp, fun b hb c hc => by simp at hc; subst hc; exact fun z => nl (z ▸ hb)⟩
  · rcases List.mem_append.mp hb with hb | hb
    · exact o.out b hb
    · simp at hb; subst hb; exact g
  · by_cases hn : n < L.length
    · rw [List.getElem?_append_left hn] at h1
      rw [List.getElem?_append_left (by rw [← o.len]; exact hn)] at h2
      have hb : b ∈ L := List.mem_of_getElem? h1
      exact (o.cells n b x h1 h2).mono e (upd_ne (fun z : b = p => nl (z ▸ hb)))
    · have hn1 : n = L.length := by
        have := (List.getElem?_eq_some_iff.mp h1).1
        simp at this; omega
      subst hn1
      rw [List.getElem?_append_right (Nat.le_refl _)] at h1
      rw [List.getElem?_append_right (by rw [o.len]; exact Nat.le_refl _)] at h2
      simp at h1
      simp [o.len] at h2
      subst h1 h2
      exact hm
  · rw [← o.len]; simp
theorem lookup_rp : ∀ {fs : List (Str × D)} {fv : List (Str × V)}, fv.map (·.1) = fs.map (·.1) → RpL C L G (fv.map (·.2)) (fs.map (·.2)) → ∀ f, (∀ d, fs.lookup f = some d → ∃ v, fv.lookup f = some v ∧ Rp C L G v d) ∧ (fs.lookup f = none → fv.lookup f = none)
  | [], [], _, _, f => ⟨(fun d h => by cases h), fun _ => rfl⟩
  | [], _ :: _, e, _, _ => by simp at e
  | _ :: _, [], e, _, _ => by simp at e
  | (k, d) :: fs, (k', v) :: fv, e, r, f => by
    simp only [List.map_cons, List.cons.injEq] at e
    obtain ⟨rfl, e⟩ := e
    cases r with
    | cons r1 r2 =>
      have ih := lookup_rp e r2 f
      rw [List.lookup_cons, List.lookup_cons]
      cases f == k' with
      | true => exact ⟨fun d' h => by cases h; exact ⟨v, rfl, r1⟩, fun h => by cases h⟩
      | false => exact ih
def putD (f : Str) (d : D) : List (Str × D) → List (Str × D)
  | [] => [(f, d)]
  | (g, x) :: r => if g = f then (g, d) :: r else (g, x) :: putD f d r
theorem put_rp {f : Str} {v : V} {d : D} (r : Rp C L G v d) : ∀ {fs : List (Str × D)} {fv : List (Str × V)}, fv.map (·.1) = fs.map (·.1) → RpL C L G (fv.map (·.2)) (fs.map (·.2)) → (putF f v fv).map (·.1) = (putD f d fs).map (·.1) ∧ RpL C L G ((putF f v fv).map (·.2)) ((putD f d fs).map (·.2))
  | [], [], _, _ => ⟨rfl, .cons r .nil⟩
  | [], _ :: _, e, _ => by simp at e
  | _ :: _, [], e, _ => by simp at e
  | (k, d') :: fs, (k', v') :: fv, e, rr => by
    simp only [List.map_cons, List.cons.injEq] at e
    obtain ⟨rfl, e⟩ := e
    cases rr with
    | cons r1 r2 =>
      obtain ⟨i1, i2⟩ := put_rp r e r2
      unfold putF putD
      by_cases h : k' = f
      · rw [if_pos h, if_pos h]; exact ⟨by simp [e], .cons r r2⟩
      · rw [if_neg h, if_neg h]; exact ⟨by simp [i1], .cons r1 i2⟩
end
/-- the class of that name; its instances' fields fs are no attributes of the class -/
structure ClsC (C : Kx) (c : Str) (fs : List Str) : Prop where
  ex : ∃ A, C.mg c = some (.ref A) ∧ Cls C.K A ∧ ∀ f ∈ fs, NoAttr C.K A f
def objAt (c : Str) (x : D) (M : List MO) : Option (Nat × List (Str × D)) := match x with
  | .cell n => match M[n]? with
    | some (.obj c' fs) => if c' = c then some (n, fs) else none
    | _ => none
  | _ => none
def fFldO (c f : Str) (x : D) (M : List MO) : R D := match objAt c x M with
  | some (_, fs) => match fs.lookup f with
    | some d => .ok d M
    | none => .stuck
  | none => .stuck
def sFldO (c f : Str) (eo ev : EV) : SV := fun e M => (ev e M).toS e fun v M1 => (eo e M1).toS e fun o M2 => match objAt c o M2 with
  | some (n, fs) => if fs.length < 1000 then .nx e (M2.set n (.obj c (putD f v fs))) else .stuck
  | none => .stuck
section
variable {X : Cx} {W : WX}
theorem Ok.viewO {C : Kx} {F : Hp} {L : List Addr} {G H : Hp} {M : List MO} {v : V} {d : D} {c : Str} {n : Nat} {fs : List (Str × D)} (o : Ok C F L G M H) (r : Rp C L G v d) (e : objAt c d M = some (n, fs)) :
    ∃ a A dx fv, v = .ref a ∧ L[n]? = some a ∧ C.mg c = some (.ref A) ∧ H a = some (.ins A dx fv) ∧ fv.map (·.1) = fs.map (·.1) ∧ RpL C L G (fv.map (·.2)) (fs.map (·.2)) := by
  unfold objAt at e
  split at e
  · rename_i k
    split at e
    · rename_i c' fs' hM
      split at e
      · rename_i hc
        subst hc
        cases e
        cases r with
        | @cell a _ hl =>
          obtain ⟨A, dx, fv, h1, h2, h3, h4⟩ := o.cells _ a _ hl hM
          exact ⟨a, A, dx, fv, rfl, hl, h1, h2, h3, h4⟩
      · cases e
    · cases e
  · cases e
theorem pd_fldO {c f : Str} {fs : List Str} {e : Expr} {pos : Pos} {ev : EV} (hc : ClsC (kx X) c fs) (h : PD X W e ev) (hf : f ∈ fs := by decide +kernel) (hb : attributeBase e f X.env (eval e X.env) = eval e X.env := by rfl) : PD X W (.Attribute e f pos) (eUn (fFldO c f) ev) := by
  obtain ⟨A, hm, cl, na⟩ := hc.ex
  obtain ⟨t, p, q⟩ := h
  refine ⟨_, pe_fld p hb, fun F e M σ L G H Q o re h => ?_⟩
  refine q F e M σ L G H _ o re ((Aft.bind h).imp fun d M1 L1 G1 H1 o1 x1 h1 v r => ?_)
  unfold fFldO at h1
  split at h1
  · rename_i n fs' hO
    obtain ⟨a, A', dx, fv, rfl, hl, hm', hH, e1, e2⟩ := o1.viewO r hO
    rw [show (kx X).mg c = some (.ref A) from hm] at hm'
    cases hm'
    split at h1
    · rename_i d' hd
      obtain ⟨v', h2, h3⟩ := (lookup_rp e1 e2 f).1 d' hd
      exact ⟨a, A, dx, fv, v', rfl, hH, cl, na f hf, h2, aok h1 o1 _ h3⟩
    · exact h1.elim
  · exact h1.elim
theorem psd_fldO {c f : Str} {fs : List Str} {ob ex : Expr} {pos pos' : Pos} {eo ev : EV} (hc : ClsC (kx X) c fs) (ho : PD X W ob eo) (hx : PD X W ex ev) (hf : f ∈ fs := by decide +kernel) (hs : swapsWith ex (some (.Attribute ob f pos')) pos.line X.env = pure false := by rfl) :
    PSD X W (.Assign [.Attribute ob f pos'] ex pos) (sFldO c f eo ev) := by
  obtain ⟨A, hm, cl, na⟩ := hc.ex
  obtain ⟨t, p, q⟩ := ho
  obtain ⟨tx, px, qx⟩ := hx
  refine ⟨_, ps_fld p px hs, fun F e M σ L G H Dn o re h => ?_⟩
  refine qx F e M σ L G H _ o re ((AftS.toS h re).imp fun d M1 L1 G1 H1 o1 x1 h1 v r => ?_)
  refine q F e M1 σ L1 G1 H1 _ o1 (re.mono x1) ((AftS.toS h1 (re.mono x1)).imp fun y M2 L2 G2 H2 o2 x2 h2 u r2 => ?_)
  split at h2
  · rename_i n fs' hO
    obtain ⟨a, A', dx, fv, rfl, hl, hm', hH, e1, e2⟩ := o2.viewO r2 hO
    rw [show (kx X).mg c = some (.ref A) from hm] at hm'
    cases hm'
    split at h2
    · rename_i hlen
      obtain ⟨k1, k2⟩ := put_rp (f := f) (r.mono x2) e1 e2
      have el : fv.length = fs'.length := by have := congrArg List.length e1; simpa using this
      refine ⟨a, A, dx, fv, rfl, hH, cl, na f hf, by rw [el]; exact hlen, ?_⟩
      exact h2 σ L2 G2 _ (o2.setMO hl ⟨A, dx, putF f v fv, hm, upd_same, k1, k2⟩) (Ext.refl _ _) ((re.mono x1).mono x2)
    · exact h2.elim
  · exact h2.elim
end
/-! ### methods and the making of objects -/
structure HasM (P : Program) (w : World) (C : Kx) (base : Heap) (c nm : Str) (k : Nat) (m : List D → List MO → R D) : Prop where
  ex : ∃ (A f : Addr) (fd : FuncData) (ps : List Str), FnOk P w C.K C.mg base (L2.CX P w) k f fd ps (spOf C m) ∧ C.mg c = some (.ref A) ∧ Cls C.K A ∧ Meth C.K A nm f ∧ Binds C.K fd ps []
structure HasI (P : Program) (w : World) (C : Kx) (base : Heap) (c : Str) (k : Nat) (m : List D → List MO → R D) : Prop where
  ex : ∃ (A f : Addr) (fd : FuncData) (ps : List Str), FnOk P w C.K C.mg base (L2.CX P w) k f fd ps (spOf C m) ∧ C.mg c = some (.ref A) ∧ Mk C.K A f ∧ Binds C.K fd ps []
def tMethX (A : Addr) (m : Str) (sp : Sp) (E : L2.St → XK) (ta : TE) (t : TA) : TE := fun σ H Q => ta σ H fun x H1 => ∃ a dx fs, x = .ref a ∧ H1 a = some (.ins A dx fs) ∧ fs.lookup m = none ∧ t σ H1 fun vs H2 => sp (x :: vs) H2 Q (E σ)
def tMakeX (A : Addr) (sp : Sp) (E : L2.St → XK) (t : TA) : TE := fun σ H Q => t σ H fun vs H1 => ∀ x dx, H1 x = none → H1 dx = none → dx ≠ x → sp (.ref x :: vs) (upd (upd H1 dx (.own x)) x (.ins A dx [])) (fun v H2 => v = .non ∧ Q (.ref x) H2) (E σ)
section
variable {X : Cx} {CX : CXT} {k : Nat} {f A : Addr} {fd : FuncData} {ps : List Str} {sp : Sp} {E : L2.St → XK} {x m : Str} {p pos apos : Pos} {e o : Expr} {es : List Expr} {ta : TE} {t : TA}
theorem pe_methX {pl : Sem Bool} (he : PE X o ta) (c : Cls X.K A) (hm : Meth X.K A m f) (F : FnOk X.prog X.w X.K X.mg X.base CX k f fd ps sp) (hr : Room k X.A) (hb : Binds X.K fd ps []) (hx : ∀ σ, PassesAt CX X σ (E σ)) (ha : PA X (e :: es) t)
    (hst : starEach (e :: es) X.env = (false, eval e X.env) :: starEach es X.env := by rfl) (hpl : (backTo pos (starEach es X.env)).any (·.1) = false := by rfl)
    (ht : eval (.Call (.Attribute o m apos) (e :: es) [] pos) X.env = (do
      let ov ← eval o X.env
      standAt apos.atName
      let (f, first) ← holding [ov] (getMethod ov m pl)
      callWith pos f first (backTo pos (starEach (e :: es) X.env)) (backToKw pos (keywordEach [] X.env))) := by rfl) :
    PE X (.Call (.Attribute o m apos) (e :: es) [] pos) (tMethX A m sp E ta t) := by
  refine ⟨fun pins s σ H Q I h => ?_⟩
  refine PySem.W.methodCall_KW (pl := pl) (thn (he.run pins s σ H _ I h) fun u s1 ⟨x, H1, I1, rx, a, dx, fs, ex, ea, l, q⟩ => ?_) ht
  subst ex
  obtain rfl : u = Value.ref a := rx
  refine getmeth_ok I1 ea c hm l ?_
  refine PySem.W.callWith_K (first := [.ref a]) (h₀ := X.base) I.ok.mod.kin hm.kp (thn (ha.run pos pins s1 σ H1 _ I1 q) fun us s2 ⟨vs, H2, I2, r, q2⟩ => ⟨I2.kIn, ?_⟩) hst hpl
  exact run_fnS (us := .ref a :: us) (vs := .ref a :: vs) F hr hb (hx σ) I2 (.cons rfl r) q2
theorem pe_methX0 {pl : Sem Bool} (he : PE X o ta) (c : Cls X.K A) (hm : Meth X.K A m f) (F : FnOk X.prog X.w X.K X.mg X.base CX k f fd ps sp) (hr : Room k X.A) (hb : Binds X.K fd ps []) (hx : ∀ σ, PassesAt CX X σ (E σ))
    (ht : eval (.Call (.Attribute o m apos) [] [] pos) X.env = (do
      let ov ← eval o X.env
      standAt apos.atName
      let (f, first) ← holding [ov] (getMethod ov m pl)
      callWith pos f first (backTo pos (starEach [] X.env)) (backToKw pos (keywordEach [] X.env))) := by rfl) :
    PE X (.Call (.Attribute o m apos) [] [] pos) (tMethX A m sp E ta tNil) := by
  refine ⟨fun pins s σ H Q I h => ?_⟩
  refine PySem.W.methodCall_KW (pl := pl) (thn (he.run pins s σ H _ I h) fun u s1 ⟨x, H1, I1, rx, a, dx, fs, ex, ea, l, q⟩ => ?_) ht
  subst ex
  obtain rfl : u = Value.ref a := rx
  refine getmeth_ok I1 ea c hm l ?_
  exact PySem.W.callWith_K0 (first := [.ref a]) I1.kIn hm.kp (run_fnS (us := [.ref a]) (vs := [.ref a]) F hr hb (hx σ) I1 (.cons rfl .nil) q)
theorem run_makeX {pins : List (Addr × Obj)} {σ : L2.St} {H : Hp} {s : Shared} {Q : VK} {us : List Value} {vs : List V} (M : Mk X.K A f) (F : FnOk X.prog X.w X.K X.mg X.base CX k f fd ps sp) (hr : Room (k + 1) X.A) (hb : Binds X.K fd ps [])
    (hx : PassesAt CX X σ (E σ)) (I : Inv X pins σ H s) (r : Vals vs us)
    (h : ∀ x dx, H x = none → H dx = none → dx ≠ x → sp (.ref x :: vs) (upd (upd H dx (.own x)) x (.ins A dx [])) (fun v H2 => v = .non ∧ Q (.ref x) H2) (E σ)) :
    wpAny (model X.prog X.w) X.A (call (.ref A) us) (EP X pins σ Q) X.xe s := by
  have hq := h (s.heap.objs.size + 1) s.heap.objs.size (I.hok.fresh (Nat.le_succ _)) (I.hok.fresh (Nat.le_refl _)) (Nat.ne_of_lt (Nat.lt_succ_self _))
  have I2 := Inv.made (C := A) I
  have r2 : Vals (V.ref (s.heap.objs.size + 1) :: vs) (Value.ref (s.heap.objs.size + 1) :: us) := .cons rfl r
  have hl : (Value.ref (s.heap.objs.size + 1) :: us).length = ps.length := by
    have e := r2.length
    rw [F.len _ _ _ _ hq] at e
    exact e.symm
  have b := hb _ (Value.ref (s.heap.objs.size + 1) :: us) I2.kIn (by rw [List.append_nil]; exact hl)
  rw [List.append_nil] at b
  refine wpAny_call (make_map (f := f) I.kIn M.makes M.init (beq_iff_eq.mp M.fn) (codeAny_mono (F.run _ X.stack _ _ ⟨Value.ref (s.heap.objs.size + 1) :: us, []⟩ (Value.ref (s.heap.objs.size + 1) :: us) _ _ (E σ) (hr.make A us [])
    (I2.env0.make A us []) b r2 hq) fun r s' hq' => ?_))
  cases r with
  | error e => exact hx pins _ _ e s' I2 hq'
  | ok fl =>
    cases fl with
    | ret u =>
      obtain ⟨v, H', I3, rv, ev, q3⟩ := I2.after hq'
      subst ev
      exact ⟨rv, ⟨V.ref (s.heap.objs.size + 1), H', I3, rfl, q3⟩⟩
    | next => exact False.elim hq'
    | brk => exact False.elim hq'
    | cont => exact False.elim hq'
theorem pe_makeX (M : Mk X.K A f) (F : FnOk X.prog X.w X.K X.mg X.base CX k f fd ps sp) (hr : Room (k + 1) X.A) (hg : Gl X x) (hm : X.mg x = some (.ref A)) (hb : Binds X.K fd ps []) (hx : ∀ σ, PassesAt CX X σ (E σ))
    (ha : PA X (e :: es) t) (hdb : (x == ("__debug__" : Str)) = false := by decide) (he : starEach (e :: es) X.env = (false, eval e X.env) :: starEach es X.env := by rfl) (hpl : (backTo pos (starEach es X.env)).any (·.1) = false := by rfl) :
    PE X (.Call (.Name x p) (e :: es) [] pos) (tMakeX A sp E t) := by
  refine ⟨fun pins s σ H Q I h => ?_⟩
  refine wpAny_Call_Name_kw (ld_glob I hg hm ?_ hdb)
  refine PySem.W.callWith_K (h₀ := X.base) I.ok.mod.kin M.kp (thn (ha.run pos pins s σ H _ I h) fun us s1 ⟨vs, H1, I1, r, q⟩ => ⟨I1.kIn, ?_⟩) he hpl
  exact run_makeX M F hr hb (hx σ) I1 r q
end
def eMethO (c nm : Str) (m : List D → List MO → R D) (eo : EV) (ea : EA) : EV := fun e M => (eo e M).bind fun o M1 => match objAt c o M1 with
  | some (_, fs) => match fs.lookup nm with
    | none => (ea e M1).bind fun xs M2 => m (o :: xs) M2
    | some _ => .stuck
  | none => .stuck
def eMakeO (c : Str) (m : List D → List MO → R D) (ea : EA) : EV := fun e M => (ea e M).bind fun xs M1 => (m (.cell M1.length :: xs) (M1 ++ [.obj c []])).bind fun d M2 => match d with
  | .non => .ok (.cell M1.length) M2
  | _ => .stuck
section
variable {X : Cx} {W : WX}
theorem hoMethO {c nm : Str} {A : Addr} {m : List D → List MO → R D} {ta : TE} {t : TA} {eo : EV} {ea : EA} (hA : X.mg c = some (.ref A)) (qo : HoE X W ta eo) (q : HoA X W t ea) : HoE X W (tMethX A nm (spOf (kx X) m) (WE W) ta t) (eMethO c nm m eo ea) := by
  intro F e M σ L G H Q o re h
  refine qo F e M σ L G H _ o re ((Aft.bind h).imp fun d M1 L1 G1 H1 o1 x1 h1 v r => ?_)
  split at h1
  · rename_i n fs hO
    obtain ⟨a, A', dx, fv, rfl, hl, hm', hH, e1, e2⟩ := o1.viewO r hO
    rw [show (kx X).mg c = some (.ref A) from hA] at hm'
    cases hm'
    split at h1
    · rename_i hn
      refine ⟨a, dx, fv, rfl, hH, (lookup_rp e1 e2 nm).2 hn, ?_⟩
      refine q F e M1 σ L1 G1 H1 _ o1 (re.mono x1) ((Aft.bind h1).imp fun ds M2 L2 G2 H2 o2 x2 h2 vs r2 => ⟨F, L2, G2, M2, d :: ds, o2, .cons (r.mono x2) r2, ?_⟩)
      cases hm : m (d :: ds) M2 with
      | ok d M' => rw [hm] at h2; exact fun v L' G' H' o' x' r' => h2 L' G' H' o' x' v r'
      | exc c M' => rw [hm] at h2; exact fun L' G' H' u o' x' q' => h2 L' G' H' u o' x' q'
      | stuck => rw [hm] at h2; exact h2.elim
    · exact h1.elim
  · exact h1.elim
theorem pd_methO {c nm : Str} {k k' : Nat} {m : List D → List MO → R D} {ob a : Expr} {es : List Expr} {eo : EV} {ea : EA} {apos pos : Pos} {pl : Sem Bool} (h : HasM X.prog X.w (kx X) X.base c nm k m) (hr : Room k' X.A) (tk : Takes X W) (ho : PD X W ob eo) (ha : PAD X W (a :: es) ea) (hk' : k ≤ k' := by decide)
    (hst : starEach (a :: es) X.env = (false, eval a X.env) :: starEach es X.env := by rfl) (hpl : (backTo pos (starEach es X.env)).any (·.1) = false := by rfl)
    (ht : eval (.Call (.Attribute ob nm apos) (a :: es) [] pos) X.env = (do
      let ov ← eval ob X.env
      standAt apos.atName
      let (f, first) ← holding [ov] (getMethod ov nm pl)
      callWith pos f first (backTo pos (starEach (a :: es) X.env)) (backToKw pos (keywordEach [] X.env))) := by rfl) : PD X W (.Call (.Attribute ob nm apos) (a :: es) [] pos) (eMethO c nm m eo ea) := by
  obtain ⟨A, f, fd, ps, F, hA, cl, hm, hb⟩ := h.ex
  obtain ⟨ta, pa, qa⟩ := ho
  obtain ⟨t, pt, q⟩ := ha
  exact ⟨_, pe_methX (pl := pl) pa cl hm F (hr.mono hk') hb (fun σ => passAt tk σ) pt hst hpl ht, hoMethO hA qa q⟩
theorem pd_methO0 {c nm : Str} {k k' : Nat} {m : List D → List MO → R D} {ob : Expr} {eo : EV} {apos pos : Pos} {pl : Sem Bool} (h : HasM X.prog X.w (kx X) X.base c nm k m) (hr : Room k' X.A) (tk : Takes X W) (ho : PD X W ob eo) (hk' : k ≤ k' := by decide)
    (ht : eval (.Call (.Attribute ob nm apos) [] [] pos) X.env = (do
      let ov ← eval ob X.env
      standAt apos.atName
      let (f, first) ← holding [ov] (getMethod ov nm pl)
      callWith pos f first (backTo pos (starEach [] X.env)) (backToKw pos (keywordEach [] X.env))) := by rfl) : PD X W (.Call (.Attribute ob nm apos) [] [] pos) (eMethO c nm m eo eNil) := by
  obtain ⟨A, f, fd, ps, F, hA, cl, hm, hb⟩ := h.ex
  obtain ⟨ta, pa, qa⟩ := ho
  exact ⟨_, pe_methX0 (pl := pl) pa cl hm F (hr.mono hk') hb (fun σ => passAt tk σ) ht, hoMethO hA qa ho_nil⟩
theorem hoMakeO {c : Str} {A : Addr} {m : List D → List MO → R D} {t : TA} {ea : EA} (hA : X.mg c = some (.ref A)) (q : HoA X W t ea) : HoE X W (tMakeX A (spOf (kx X) m) (WE W) t) (eMakeO c m ea) := by
  intro F e M σ L G H Q o re h
  refine q F e M σ L G H _ o re ((Aft.bind h).imp fun ds M1 L1 G1 H1 o1 x1 h1 vs r => ?_)
  intro x dx nx ndx ne
  have o2 := o1.lose (u := .own x) ndx
  have nx2 : upd H1 dx (.own x) x = none := by rw [upd_ne ne.symm]; exact nx
  obtain ⟨o3, x3, r3⟩ := o2.newMO (u := .ins A dx []) (mo := .obj c []) nx2 ⟨A, dx, [], hA, upd_same, rfl, .nil⟩
  refine ⟨F, _, G1, _, .cell M1.length :: ds, o3, .cons r3 (r.mono x3), ?_⟩
  have h2 := Aft.mono h1 x3
  cases hm : m (.cell M1.length :: ds) (M1 ++ [.obj c []]) with
  | ok d M' =>
    rw [hm] at h2
    intro v L' G' H' o' x' r'
    cases d with
    | non => cases r'; exact ⟨rfl, h2 L' G' H' o' x' _ (r3.mono x')⟩
    | _ => exact h2.elim
  | exc c M' => rw [hm] at h2; exact fun L' G' H' u o' x' q' => h2 L' G' H' u o' x' q'
  | stuck => rw [hm] at h2; exact h2.elim
theorem pd_makeO {c : Str} {k k' : Nat} {m : List D → List MO → R D} {a : Expr} {es : List Expr} {ea : EA} {p pos : Pos} (h : HasI X.prog X.w (kx X) X.base c k m) (hr : Room k' X.A) (tk : Takes X W) (ha : PAD X W (a :: es) ea) (hk' : k + 1 ≤ k' := by decide) (hg : Gl X c := by rfl)
    (hdb : (c == ("__debug__" : Str)) = false := by decide) (hs : starEach (a :: es) X.env = (false, eval a X.env) :: starEach es X.env := by rfl) (hpl : (backTo pos (starEach es X.env)).any (·.1) = false := by rfl) : PD X W (.Call (.Name c p) (a :: es) [] pos) (eMakeO c m ea) := by
  obtain ⟨A, f, fd, ps, F, hA, hm, hb⟩ := h.ex
  obtain ⟨t, pt, q⟩ := ha
  exact ⟨_, pe_makeX hm F (hr.mono hk') hg hA hb (fun σ => passAt tk σ) pt hdb hs hpl, hoMakeO hA q⟩
end
/-- THE RULE for a method: its FnOk -/
theorem fn_okM {P : Program} {w : World} {C : Kx} {base : Heap} {x qual : Str} {st : Stmt} {f : Addr} {fd : FuncData} {N ps : List Str} {k : Nat} {sv : SV} (F : Fun C.K x qual st f fd) (S : FnScope N ps (defScope st))
    (hb : ∀ (cdv : Value) (A : Around) (outer : List Env) (s : Shared) (H : Hp) (E : XK), Room k (A.deeper (envOfC qual (defScope st) s.heap.objs.size f cdv)) →
      PSsD (cxOf (L2.CX P w) P w C.K C.mg base N qual (defScope st) f cdv A outer s H E) (fun cls d _ H => E cls d H) (defBody st) sv) : FnOk P w C.K C.mg base (L2.CX P w) (k + 1) f fd ps (spOf C (mOf ps.length N.length sv)) := by
  refine F.okX S (fun vs H Q E h => ?_) (fun cdv A outer s H vs Q E hr h => ?_)
  · obtain ⟨F, L, G, M, ds, o, r, h⟩ := h
    unfold mOf at h
    by_cases hl : ds.length = ps.length
    · rw [r.length]; exact hl
    · rw [if_neg hl] at h; exact h.elim
  · obtain ⟨t, p, q⟩ := hb cdv A outer s H E hr
    obtain ⟨F, L, G, M, ds, o, r, h⟩ := h
    refine ⟨t, p, q F (startE N.length ds) M (start N vs) L G H _ o (RpE.start r) ?_⟩
    unfold mOf at h
    by_cases hl : ds.length = ps.length
    · rw [if_pos hl] at h
      cases hs : sv (startE N.length ds) M with
      | nx e M' => rw [hs] at h; exact fun σ' L' G' H' o' x' _ => h .non L' G' H' o' x' .non
      | ret d M' => rw [hs] at h; exact fun v L' G' H' o' x' r' => h v L' G' H' o' x' r'
      | brk e M' => rw [hs] at h; exact h.elim
      | cnt e M' => rw [hs] at h; exact h.elim
      | exc c e M' => rw [hs] at h; exact fun σ' L' G' H' u o' x' _ q' => h L' G' H' u o' x' q'
      | stuck => rw [hs] at h; exact h.elim
    · rw [if_neg hl] at h; exact h.elim
end KB
/-! ### sorted: tuples of ints of any lengths -/
namespace TuS
open PySem PySem.W PySem.Calls PyProof.Rows Builtin
def IsTI (h : Heap) (v : Value) (ns : List Int) : Prop := ∃ (a : Addr) (its : Array Value), v = .ref a ∧ IsTup h a its ∧ IntsAre its.toList ns
theorem IsTI.keeps {h h' : Heap} {v : Value} {ns : List Int} (x : IsTI h v ns) (k : ∀ b o, v = .ref b → h.get? b = some o → h'.get? b = some o) : IsTI h' v ns := by
  obtain ⟨a, its, e, ⟨o, ho, r⟩, i⟩ := x
  exact ⟨a, its, e, ⟨o, k _ _ e ho, r⟩, i⟩
theorem IsTI.typeIs {s : Shared} {v : Value} {ns : List Int} (x : IsTI s.heap v ns) : s.TypeIs v "tuple" := by
  obtain ⟨a, its, rfl, ⟨o, ho, hc, _⟩, i⟩ := x
  exact ⟨o, ho, hc⟩
theorem IsTI.type {M : Model} {h : Heap} {v : Value} {ns : List Int} (x : IsTI h v ns) : Looks M h (typeOf v) (.type "tuple") := by
  obtain ⟨a, its, rfl, ⟨o, ho, hc, _⟩, i⟩ := x
  have z : Looks M h (typeOf (.ref a)) o.cls := (Looks.ld ho).andThen .now
  rw [hc] at z
  exact z
section
variable {prog : Program} {w : World} {A : Around} {E : Value → Shared → Prop} {s : Shared}
theorem lexI {b fin : Bool} {Q : Bool → Shared → Prop} {xs : List Value} {ns : List Int} (hx : IntsAre xs ns) : ∀ (i : Nat) {ys : List Value} {ms : List Int}, IntsAre ys ms → fin = decide (ns.length < ms.length) → Q (HT.lexLt ns ms) s → KatLex prog w A b fin Q (xs.zip ys) i s := by
  induction hx with
  | nil =>
    intro i ys ms hy hf h
    rw [List.zip_nil_left]
    refine kat_nil ?_
    rw [hf]
    cases hy with
    | nil => rw [HT.lexLt_nil_nil] at h; simpa using h
    | cons c u hw => rw [HT.lexLt_nil_cons] at h; simpa using h
  | @cons a t xs ns hx ih =>
    intro i ys ms hy hf h
    cases hy with
    | nil =>
      rw [List.zip_nil_right]
      refine kat_nil ?_
      rw [hf]
      rw [HT.lexLt_cons_nil] at h
      simpa using h
    | cons c u hw =>
      rw [List.zip_cons_cons]
      rw [HT.lexLt_cons] at h
      refine kat_cons (SeqAt.EqAt.int_int _ _ _ _ prog w _ _ ?_)
      refine kat_go (fun e1 => ?_) (fun e1 => ?_)
      · rw [if_pos (by simpa using e1)] at h
        exact kat_yes (ih _ hw (by simpa using hf) h)
      · rw [if_neg (by simpa using e1)] at h
        exact kat_no (TS.oneLt_ints _ h)
theorem lt_tuples {b : Bool} {v u : Value} {ns ms : List Int} {Q : Bool → Shared → Prop} (hv : IsTI s.heap v ns) (hw : IsTI s.heap u ms) (h : Q (HT.lexLt ns ms) s) : wpAny (model prog w) A (keyLt' (tuples' b) v u) Q E s := by
  obtain ⟨a, its, rfl, ⟨o, ho, hc, n, hd⟩, i⟩ := hv
  obtain ⟨a2, its2, rfl, ⟨o2, ho2, hc2, n2, hd2⟩, i2⟩ := hw
  have z1 : its.size = ns.length := by rw [← i.length]; simp
  have z2 : its2.size = ms.length := by rw [← i2.length]; simp
  exact kat_lt ho hd ho2 hd2 (lexI i 0 i2 (by rw [z1, z2]) h)
theorem lt_one {v u : Value} {ns ms : List Int} {Q : Bool → Shared → Prop} (hu : A.units < cLine) (hv : IsTI s.heap v ns) (hw : IsTI s.heap u ms) (h : Q (HT.lexLt ns ms) s) : wpAny (model prog w) A (keyLt' oneType' v u) Q E s := by
  have ty := hv.typeIs
  obtain ⟨a, its, rfl, ⟨⟨cls, dd, data, sl⟩, ho, hc, n, hd⟩, i⟩ := hv
  obtain ⟨a2, its2, rfl, ⟨⟨cls2, dd2, data2, sl2⟩, ho2, hc2, n2, hd2⟩, i2⟩ := hw
  simp only at hc hd hc2 hd2
  subst hc hd hc2 hd2
  rw [keyLt'_oneType, oneLt'_eq]
  simp only [if_true]
  refine wpAny_bind (wpAny_cRoomFor hu ?_)
  refine wpAny_bind (wpAny_callSpecialIfBound?_slot ty PySem.F.slot_tuple_lt (call_meets PySem.F.slot_tuple_lt ty PySem.F.entry_tuple_lt (PySem.F.args_tuple_lt_2 _ _) (HT.tuple_lt_ints a a2 its its2 n n2 dd dd2 sl sl2 ns ms i i2) ⟨ho, ho2, ?_⟩))
  exact wpAny_truthy_bool h
theorem lt_gen {v u : Value} {ns ms : List Int} {Q : Bool → Shared → Prop} (hu : A.units < cLine) (hv : IsTI s.heap v ns) (hw : IsTI s.heap u ms) (h : Q (HT.lexLt ns ms) s) : wpAny (model prog w) A (keyLt' general' v u) Q E s := by
  obtain ⟨a, its, rfl, p, i⟩ := hv
  obtain ⟨a2, its2, rfl, p2, i2⟩ := hw
  have e : keyLt' general' (.ref a) (.ref a2) = oneLt' false (.ref a) (.ref a2) := rfl
  rw [e]
  exact kat_one _ _ (HT.lt_tupInts p p2 i i2 hu h)
theorem firstsI : ∀ (vs : List Value) (k : Value → List Int), (∀ v ∈ vs, IsTI s.heap v (k v)) → ∃ fs : List (Option Value), fs.length = vs.length ∧ (∀ f ∈ fs, ∀ x, f = some x → ∃ i t, x = Value.int i t) ∧
    ∀ (M : Model) (A : Around) (E : Value → Shared → Prop) (Q : List (Option Value) → Shared → Prop), Q fs s → wpAny M A (vs.mapM firstOfTuple') Q E s
  | [], _, _ => ⟨[], rfl, fun _ z => by simp at z, fun M A E Q h => by rw [List.mapM_nil]; exact wpAny_pure h⟩
  | v :: vs, k, t => by
    obtain ⟨fs, hl, hf, run⟩ := firstsI vs k fun u hu => t u (List.mem_cons_of_mem _ hu)
    obtain ⟨a, its, rfl, ⟨o, ho, hc, n, hd⟩, i⟩ := t v (List.mem_cons_self ..)
    refine ⟨its[0]? :: fs, by simp [hl], fun f hm x e => ?_, fun M A E Q h => ?_⟩
    · rcases List.mem_cons.mp hm with rfl | hm
      · cases i' : its.toList with
        | nil => rw [show its[0]? = its.toList[0]? from by simp, i'] at e; simp at e
        | cons y r =>
          rw [show its[0]? = its.toList[0]? from by simp, i'] at e
          simp at e
          subst e
          rw [i'] at i
          generalize k (.ref a) = ks at i
          cases i with
          | cons c u _ => exact ⟨_, _, rfl⟩
      · exact hf f hm x e
    · rw [List.mapM_cons]
      refine wpAny_bind ?_
      rw [kas_first_eq]
      refine wpAny_bind (Looks.here (show Looks M s.heap (typeOf (.ref a)) o.cls from (Looks.ld ho).andThen .now) ?_)
      rw [hc, if_neg (by first | decide | simp)]
      refine wpAny_bind (listItems_at ho hd (wpAny_pure ?_))
      exact wpAny_bind (run M A E _ (wpAny_pure h))
theorem kindI {vs : List Value} {k : Value → List Int} (h2 : 2 ≤ vs.length) (hv : ∀ v ∈ vs, IsTI s.heap v (k v)) : ∃ κ, (κ = tuples' true ∨ κ = oneType' ∨ κ = general') ∧
    ∀ (M : Model) (A : Around) (E : Value → Shared → Prop) (Q : SortKind → Shared → Prop), Q κ s → wpAny M A (keyKind' vs.toArray) Q E s := by
  obtain ⟨fs, hl, hf, run⟩ := firstsI vs k hv
  by_cases ha : (fs.toArray.all fun x => x.isSome) = true
  · refine ⟨tuples' true, .inl rfl, fun M A E Q h1 => ?_⟩
    rw [keyKind'_eq, List.mapM_toArray, map_eq_pure_bind]
    refine wpAny_bind (wpAny_bind (run M A E _ (wpAny_pure ?_)))
    rw [if_pos ha]
    refine wpAny_bind (wpAny_rule ?_)
    obtain ⟨gs, rfl⟩ : ∃ gs : List Value, fs = gs.map some := by
      refine ⟨fs.filterMap _root_.id, ?_⟩
      have : ∀ l : List (Option Value), (∀ x ∈ l, x.isSome = true) → l = (l.filterMap _root_.id).map some := by
        intro l
        induction l with
        | nil => intro _; rfl
        | cons y l ih =>
          intro hh
          have hy := hh y (List.mem_cons_self ..)
          cases y with
          | none => cases hy
          | some z =>
            show some z :: l = some z :: (l.filterMap _root_.id).map some
            rw [← ih fun x hx => hh x (List.mem_cons_of_mem _ hx)]
      exact this fs (by simpa using ha)
    have hfm : ((gs.map some).toArray.filterMap _root_.id) = gs.toArray := by simp
    rw [hfm, oneTypeOnly'_eq, List.mapM_toArray, map_eq_pure_bind]
    have hg : ∀ v ∈ gs, Looks M s.heap (typeOf v) (.type "int") := fun v hm => by
      obtain ⟨i, t, rfl⟩ := hf (some v) (List.mem_map.mpr ⟨v, hm, rfl⟩) v rfl
      exact Looks.now
    refine wpAny_bind (wpAny_bind (wpAny_bind (kas_mapM (r := Value.type "int") _ (fun v hv Q' hq => (hg v hv).here hq) (wpAny_pure ?_))))
    have hgl : gs.length = vs.length := by simpa using hl
    obtain ⟨f1, fr, rfl⟩ : ∃ f1 fr, gs = f1 :: fr := by
      match gs, hgl with
      | [], e => simp at e; omega
      | f1 :: fr, _ => exact ⟨f1, fr, rfl⟩
    have hall2 : ((List.map (fun _ => Value.type "int") (f1 :: fr)).toArray.all fun x => x == Value.type "int") = true := by
      simp only [List.all_toArray, List.all_map, List.all_eq_true]
      intro _ _
      rfl
    have h0 : (List.map (fun _ => Value.type "int") (f1 :: fr)).toArray[0]? = some (Value.type "int") := by simp
    rw [h0]
    simp only [hall2, if_true]
    refine wpAny_pure (wpAny_pure ?_)
    have e : ((some (Value.type "int")).any fun x => x != Value.type "tuple") = true := by first | decide +kernel | rfl
    rw [e]
    exact h1
  · by_cases hb : ((fs.toArray[0]?.bind _root_.id).isSome) = true
    · refine ⟨general', .inr (.inr rfl), fun M A E Q h4 => ?_⟩
      rw [keyKind'_eq, List.mapM_toArray, map_eq_pure_bind]
      refine wpAny_bind (wpAny_bind (run M A E _ (wpAny_pure ?_)))
      rw [if_neg ha, if_pos hb]; exact wpAny_pure h4
    · refine ⟨oneType', .inr (.inl rfl), fun M A E Q h3 => ?_⟩
      rw [keyKind'_eq, List.mapM_toArray, map_eq_pure_bind]
      refine wpAny_bind (wpAny_bind (run M A E _ (wpAny_pure ?_)))
      rw [if_neg ha, if_neg hb, oneTypeOnly'_eq, List.mapM_toArray, map_eq_pure_bind]
      refine wpAny_bind (wpAny_bind (wpAny_bind (kas_mapM (r := Value.type "tuple") _ (fun v hm Q' hq => ((hv v hm).type).here hq) (wpAny_pure ?_))))
      obtain ⟨f1, fr, rfl⟩ : ∃ f1 fr, vs = f1 :: fr := by
        match vs, h2 with
        | f1 :: fr, _ => exact ⟨f1, fr, rfl⟩
      have hall2 : ((List.map (fun _ => Value.type "tuple") (f1 :: fr)).toArray.all fun x => x == Value.type "tuple") = true := by
        simp only [List.all_toArray, List.all_map, List.all_eq_true]
        intro _ _
        rfl
      have h0 : (List.map (fun _ => Value.type "tuple") (f1 :: fr)).toArray[0]? = some (Value.type "tuple") := by simp
      rw [h0]
      simp only [hall2, if_true]
      exact wpAny_pure (wpAny_pure h3)
theorem sortableI {a : Addr} {vs : List Value} {k : Value → List Int} (h2 : 2 ≤ vs.length) (hu : A.units < cLine) (hv : ∀ v ∈ vs, IsTI s.heap v (k v)) (ha : ∀ o, s.heap.get? a = some o → o.cls ≠ .type "tuple") :
    SrtO.SortableO prog w A s a vs fun v u => HT.lexLt (k v) (k u) := by
  intro h' keep
  have hv' : ∀ v ∈ vs, IsTI h' v (k v) := fun v hm => by
    obtain ⟨b, its, rfl, ⟨o, ho, hc, r⟩, i⟩ := hv v hm
    exact ⟨b, its, rfl, ⟨o, keep b o (fun z => by subst z; exact ha o ho hc) ho, hc, r⟩, i⟩
  obtain ⟨κ, hk, run⟩ := kindI (s := { s with heap := h' }) h2 hv'
  refine ⟨κ, fun Q E hq => run _ _ E Q hq, fun p q hp hq => ?_⟩
  have g : ∀ {R : Bool → Shared → Prop}, R (HT.lexLt (k p.1) (k q.1)) { s with heap := h' } → wpAny (model prog w) A (keyLt' κ p.1 q.1) R (fun _ _ => False) { s with heap := h' } := fun {R} r => by
    rcases hk with rfl | rfl | rfl
    · exact lt_tuples (s := { s with heap := h' }) (hv' _ hp) (hv' _ hq) r
    · exact lt_one (s := { s with heap := h' }) hu (hv' _ hp) (hv' _ hq) r
    · exact lt_gen (s := { s with heap := h' }) hu (hv' _ hp) (hv' _ hq) r
  exact g (R := fun r s' => s' = { s with heap := h' } ∧ r = HT.lexLt (k p.1) (k q.1)) ⟨rfl, rfl⟩
theorem sortedI {l : Addr} {vs : List Value} {k : Value → List Int} {Q : Value → Shared → Prop} (hu : A.units + 2 < cLine) (hl : s.heap.IsList l vs.toArray) (hz : vs.length ≤ sizeLine) (hp : ∀ v ∈ vs, IsTI s.heap v (k v))
    (h : ∀ (h' : Heap) (d : Addr) (out : List Value), SrtO.Srtd (fun v u => HT.lexLt (k v) (k u)) out → out.Perm vs → (∀ b o, s.heap.get? b = some o → h'.get? b = some o) → s.heap.objs.size ≤ d → (∃ n, h'.get? d = some (seqObj "list" out.toArray n)) → Q (.ref d) { s with heap := h' }) :
    wpAny (model prog w) A (call (.builtin "sorted") [.ref l]) Q E s := by
  refine SrtO.sorted_ord (NtL.swo_lexL k) hl hz (fun h2 h₁ a ha kk => ?_) fun out hs hb => ?_
  · refine sortableI (s := { s with heap := h₁ }) h2 (by show A.units + 1 + 1 < cLine; omega) (fun v hm => (hp v hm).keeps fun b o _ e => (kk b o e).2) fun o e => ?_
    have e' : some o = some (seqObj "list" vs.toArray 0) := e.symm.trans ha
    cases e'
    intro c
    exact absurd (Value.type.inj c) (by decide)
  · exact h _ _ out hs hb.perm (fun b o e => sortedAll_old e) (Nat.le_succ _) (sortedAll_at s.heap vs out.toArray)
end
end TuS
theorem TuS.IsTI.inj {h : PySem.Heap} {v : PySem.Value} {ns ms : List Int} (x : TuS.IsTI h v ns) (y : TuS.IsTI h v ms) : ns = ms := by
  obtain ⟨a, its, rfl, ⟨o, ho, hc, n, hd⟩, i⟩ := x
  obtain ⟨a2, its2, e, ⟨o2, ho2, hc2, n2, hd2⟩, i2⟩ := y
  cases e
  rw [ho] at ho2
  cases ho2
  rw [hd] at hd2
  cases hd2
  generalize its.toList = l at i i2
  induction i generalizing ms with
  | nil => cases i2; rfl
  | cons a t _ ih => cases i2 with | cons _ _ h => rw [ih h]
namespace KB
open PySem PySem.Spec PyProof.Rows L2
def insK (x : List Int) : List (List Int) → List (List Int)
  | [] => [x]
  | y :: ys => if HT.lexLt y x then y :: insK x ys else x :: y :: ys
def sortK : List (List Int) → List (List Int)
  | [] => []
  | x :: xs => insK x (sortK xs)
theorem insK_perm (x : List Int) : ∀ l : List (List Int), (insK x l).Perm (x :: l)
  | [] => List.Perm.refl _
  | y :: ys => by
    unfold insK
    split
    · exact ((insK_perm x ys).cons y).trans (List.Perm.swap x y ys)
    · exact List.Perm.refl _
theorem sortK_perm : ∀ l : List (List Int), (sortK l).Perm l
  | [] => List.Perm.refl _
  | x :: xs => (insK_perm x _).trans ((sortK_perm xs).cons x)
theorem insK_pw (x : List Int) : ∀ {l : List (List Int)}, l.Pairwise (fun a b => HT.lexLt b a = false) → (insK x l).Pairwise (fun a b => HT.lexLt b a = false)
  | [], _ => List.pairwise_singleton _ _
  | y :: ys, h => by
    obtain ⟨h1, h2⟩ := List.pairwise_cons.mp h
    unfold insK
    split
    · rename_i hl
      refine List.pairwise_cons.mpr ⟨fun z hz => ?_, insK_pw x h2⟩
      rcases List.mem_cons.mp ((insK_perm x ys).mem_iff.mp hz) with rfl | hz
      · exact NtL.lex_asym _ _ hl
      · exact h1 z hz
    · rename_i hl
      have hl : HT.lexLt y x = false := by simpa using hl
      refine List.pairwise_cons.mpr ⟨fun z hz => ?_, h⟩
      rcases List.mem_cons.mp hz with rfl | hz
      · exact hl
      · exact NtL.lex_tr _ _ _ hl (h1 z hz)
theorem sortK_pw : ∀ l : List (List Int), (sortK l).Pairwise (fun a b => HT.lexLt b a = false)
  | [] => List.Pairwise.nil
  | x :: xs => insK_pw x (sortK_pw xs)
theorem lex_anti : ∀ (a b : List Int), HT.lexLt a b = false → HT.lexLt b a = false → a = b
  | [], [], _, _ => rfl
  | [], y :: b, h, _ => by rw [HT.lexLt_nil_cons] at h; cases h
  | x :: a, [], _, h => by rw [HT.lexLt_nil_cons] at h; cases h
  | x :: a, y :: b, h1, h2 => by
    rw [HT.lexLt_cons] at h1 h2
    by_cases e : x = y
    · subst e
      rw [if_pos rfl] at h1 h2
      rw [lex_anti a b h1 h2]
    · rw [if_neg e] at h1
      rw [if_neg (Ne.symm e)] at h2
      have := of_decide_eq_false h1
      have := of_decide_eq_false h2
      omega
theorem sortK_uniq : ∀ {l m : List (List Int)}, l.Perm m → l.Pairwise (fun a b => HT.lexLt b a = false) → m.Pairwise (fun a b => HT.lexLt b a = false) → l = m
  | [], m, p, _, _ => (List.Perm.nil_eq p)
  | x :: l, [], p, _, _ => absurd p.length_eq (by simp)
  | x :: l, y :: m, p, h1, h2 => by
    obtain ⟨a1, a2⟩ := List.pairwise_cons.mp h1
    obtain ⟨b1, b2⟩ := List.pairwise_cons.mp h2
    have e : x = y := by
      rcases List.mem_cons.mp (p.mem_iff.mp (List.mem_cons_self ..)) with e | hx
      · exact e
      · rcases List.mem_cons.mp (p.mem_iff.mpr (List.mem_cons_self (a := y) (l := m))) with e | hy
        · exact e.symm
        · exact lex_anti _ _ (b1 x hx |> fun z => z) (a1 y hy) |> fun z => z
    subst e
    rw [sortK_uniq p.cons_inv a2 b2]
theorem sortK_eq {l m : List (List Int)} (p : l.Perm m) (h : l.Pairwise (fun a b => HT.lexLt b a = false)) : l = sortK m := sortK_uniq (p.trans (sortK_perm m).symm) h (sortK_pw m)
/-- the keys of a list of tuples of ints -/
def tks? : List D → Option (List (List Int))
  | [] => some []
  | .tup ds :: r => match ints? ds, tks? r with
    | some ns, some ks => some (ns :: ks)
    | _, _ => none
  | _ :: _ => none
theorem ints_eq : ∀ {ds : List D} {ns : List Int}, ints? ds = some ns → ds = ns.map .int
  | [], ns, h => by simp [ints?] at h; subst h; rfl
  | d :: ds, ns, h => by
    cases d <;> simp [ints?] at h
    rename_i i
    cases hr : ints? ds with
    | none => rw [hr] at h; simp at h
    | some ms => rw [hr] at h; simp at h; subst h; rw [ints_eq hr]; rfl
theorem tks_eq : ∀ {ds : List D} {ks : List (List Int)}, tks? ds = some ks → ds = ks.map bs
  | [], ks, h => by simp [tks?] at h; subst h; rfl
  | d :: ds, ks, h => by
    unfold tks? at h
    split at h
    · rename_i heq; cases heq
    · rename_i es r heq
      cases heq
      split at h
      · rename_i ns ks' h1 h2
        cases h
        rw [ints_eq h1, tks_eq h2]
        rfl
      · cases h
    · cases h
noncomputable def kOf (h : Heap) (u : Value) : List Int := by
  classical
  exact if e : ∃ ns, TuS.IsTI h u ns then Classical.choose e else []
theorem kOf_eq {h : Heap} {u : Value} {ns : List Int} (x : TuS.IsTI h u ns) : kOf h u = ns := by
  have e : ∃ ns, TuS.IsTI h u ns := ⟨ns, x⟩
  unfold kOf
  rw [dif_pos e]
  exact TuS.IsTI.inj (Classical.choose_spec e) x
def rSortK (X : Cx) : List V → Hp → VK → Prop := fun vs H Q => ∃ F L G M a xs ks, Ok (kx X) F L G M H ∧ vs = [.ref a] ∧ SqL X.K H a xs ∧ RpL (kx X) L G xs (ks.map bs) ∧ ∀ ys p, RpL (kx X) L G ys ((sortK ks).map bs) → H p = none → Q (.ref p) (upd H p (.lst ys))
section
variable {X : Cx} {W : WX}
theorem keys_of {F L G M} {pins : List (Addr × Obj)} {s : Shared} {σ : L2.St} {H : Hp} (I : Inv X pins σ H s) (o : Ok (kx X) F L G M H) : ∀ {ks : List (List Int)} {xs : List V} {us : List Value}, Vals xs us → RpL (kx X) L G xs (ks.map bs) →
    us.map (kOf s.heap) = ks ∧ xs = us.map backV ∧ ∀ u ∈ us, (∃ t, u = Value.ref t) ∧ TuS.IsTI s.heap u (kOf s.heap u) ∧ Rp (kx X) L G (backV u) (bs (kOf s.heap u))
  | [], _, _, v, r => by cases r; cases v; exact ⟨rfl, rfl, fun _ h => by simp at h⟩
  | k :: ks, _, _, v, r => by
    cases r with
    | cons r1 r2 =>
      cases v with
      | @cons x u xs us rv v =>
        obtain ⟨h1, h2, h3⟩ := keys_of I o v r2
        have r1' := r1
        cases r1 with
        | @tup t vs ds hq hl =>
          have ev := ints_V hl (show ints? (k.map D.int) = some k by induction k with
            | nil => rfl
            | cons a k ih => simp [ints?, ih])
          subst ev
          obtain rfl : u = Value.ref t := rv
          obtain ⟨its, rr, p, _⟩ := I.tuple (Same.seqT o.sub hq)
          have ti : TuS.IsTI s.heap (.ref t) k := ⟨t, _, rfl, p, by simpa using intsAre_of rr⟩
          have ek := kOf_eq ti
          refine ⟨by rw [List.map_cons, ek, h1], by rw [List.map_cons, ← h2]; rfl, fun u hu => ?_⟩
          rcases List.mem_cons.mp hu with rfl | hu
          · rw [ek]; exact ⟨⟨t, rfl⟩, ti, r1'⟩
          · exact h3 u hu
theorem rpl_back {L : List Addr} {G : Hp} {h : Heap} : ∀ {us : List Value}, (∀ u ∈ us, Rp (kx X) L G (backV u) (bs (kOf h u))) → RpL (kx X) L G (us.map backV) ((us.map (kOf h)).map bs)
  | [], _ => .nil
  | u :: us, h => .cons (h u (List.mem_cons_self ..)) (rpl_back fun v hv => h v (List.mem_cons_of_mem _ hv))
theorem cr_sortK (hu : X.A.units + 65 < cLine) : CallR X (.builtin "sorted") (rSortK X) := by
  intro pins s σ H vs us Q I r h
  obtain ⟨F, L, G, M, a, xs, ks, o, rfl, hs, hx, q⟩ := h
  obtain ⟨its, rv, hl, hz⟩ := I.list hs
  obtain ⟨u, rfl, ru⟩ := vals1 r
  obtain rfl : u = Value.ref a := ru
  obtain ⟨h1, h2, h3⟩ := keys_of I o rv hx
  refine TuS.sortedI (k := kOf s.heap) (by omega) hl.isList (by rw [← rv.length]; exact hz) (fun v hv => (h3 v hv).2.1) fun h' d out g1 g2 kp hd hn => ?_
  obtain ⟨n, hn⟩ := hn
  have h4 : ∀ u ∈ out, ∃ a, u = Value.ref a := fun u hu => (h3 u (g2.mem_iff.mp hu)).1
  have e : out.map (kOf s.heap) = sortK ks := by
    refine sortK_eq ?_ (List.pairwise_map.mpr (g1.imp fun {x y} z => z))
    rw [← h1]
    exact g2.map _
  refine ⟨.ref d, upd H d (.lst (out.map backV)), I.laid (t' := s.toks) kp hd ⟨?_, out, n, vals_back h4, hn⟩, rfl, q _ d ?_ (I.hok.fresh hd)⟩
  · have := g2.length_eq
    have := rv.length
    rw [List.length_map]; omega
  · rw [← e]
    exact rpl_back fun u hu => (h3 u (g2.mem_iff.mp hu)).2.2
def fSorted (ds : List D) (M : List MO) : R D := match ds with
  | [x] => match res M x with
    | .lst es => match tks? es with
      | some ks => .ok (.lst ((sortK ks).map bs)) M
      | none => .stuck
    | _ => .stuck
  | _ => .stuck
theorem dSorted : CallD X W (rSortK X) fSorted := by
  intro xs ds M F L G H σ Q o r h
  unfold fSorted at h
  split at h
  · rename_i x
    split at h
    · rename_i es e1
      split at h
      · rename_i ks hk
        obtain ⟨v, rfl, rv⟩ := one r
        obtain ⟨a, ws, rfl, hq, hl⟩ := o.viewL rv e1
        rw [tks_eq hk] at hl
        refine ⟨F, L, G, M, a, ws, ks, o, rfl, .inl (.inl hq), hl, fun ys p ry hp => ?_⟩
        exact newL o ry h p hp
      · exact h.elim
    · exact h.elim
  · exact h.elim
theorem pd_sorted {a : Expr} {p pos : Pos} {ea : EA} (hm : X.mg "sorted" = none) (hu : X.A.units + 65 < cLine) (ha : PAD X W [a] ea) (hg : Gl X "sorted" := by rfl) (hs : starEach [a] X.env = (false, eval a X.env) :: starEach [] X.env := by rfl) (hpl : (backTo pos (starEach [] X.env)).any (·.1) = false := by rfl) : PD X W (.Call (.Name "sorted" p) [a] [] pos) (eArgs fSorted ea) :=
  pd_callB (cr_sortK hu) dSorted hg hm (by decide +kernel) ha (by decide) (by decide) hs hpl
end
end KB
namespace KB
open PySem PySem.Spec PyProof.Rows L2
/-! ### sorted(set(xs)), xs byte strings -/
section
variable {P : Program} {w : World} {A : Around} {E : Value → Shared → Prop} {s : Shared}
theorem ti_of {h : Heap} {k : List Int} {b : Addr} (x : IsT P w h k b) : TuS.IsTI h (.ref b) k := by
  obtain ⟨o, items, n, ho, hc, hd, hi⟩ := x
  exact ⟨b, items, rfl, ⟨o, ho, hc, n, hd⟩, ints_of_items hi⟩
theorem sorted_setL {a : Addr} {L : List (Addr × List Int)} {es : Array (Int × Value)} {ep : Nat} {t : SetTable} {Q : Value → Shared → Prop} (R : SetTR P w s.heap a L es ep t) (hh : A.handled = none) (hu : A.units + 2 < cLine)
    (hQ : ∀ s' p (out : List Value) (c : Nat), (∀ b o, s.heap.get? b = some o → s'.heap.get? b = some o) → s'.gens = s.gens → s'.os = s.os → s.heap.objs.size ≤ p →
      s'.heap.get? p = some (seqObj "list" out.toArray c) → out.Perm (L.map fun q => Value.ref q.1) → SrtO.Srtd (fun v u => HT.lexLt (kOf s.heap v) (kOf s.heap u)) out → Q (.ref p) s') :
    wpAny (model P w) A (call (.builtin "sorted") [.ref a]) Q E s := by
  obtain ⟨o, ho, hex, hd⟩ := R.ob
  have hsz := R.size
  have hfew := R.few
  refine Calls.call_function_entry kind_sorted plain_sorted entry_sorted (args_sorted1 _) ?_
  unfold Builtin.«sorted»
  refine wpAny_bind (m := checkCount "sorted" 1 1 _) (wpAny_pure ?_)
  refine wpAny_bind (collect_set (A := A.in1) hh ⟨o, ho, hex.1, hd⟩ R.fits (by unfold scanBound; omega) R.tab.ris R.led fun s1 vs k1 hz g1 o1 pm => ?_)
  have hes : es.toList.map (·.2) = L.map fun q => Value.ref q.1 := by
    rw [R.rows]
    unfold rowsOf
    rw [List.map_map] <;> rfl
  rw [hes] at pm
  have hvl : vs.length < 64 := by rw [pm.length_eq, List.length_map]; exact hfew
  have hvz : vs.length ≤ sizeLine := by rw [sizeLine_eq]; omega
  refine wpAny_bind (wpAny_newList ?_ hvz)
  have hoL : (s1.heap.push (seqObj "list" vs.toArray 0)).get? s1.heap.objs.size = some (seqObj "list" vs.toArray 0) := Heap.get?_push_size _ rfl
  have hv : ∀ v ∈ vs, TuS.IsTI (s1.heap.push (seqObj "list" vs.toArray 0)) v (kOf s.heap v) := fun v hv => by
    obtain ⟨q, hq, e⟩ := List.mem_map.mp (pm.mem_iff.mp hv)
    have t1 : TuS.IsTI s.heap (.ref q.1) q.2 := ti_of (P := P) (w := w) (R.tup q hq)
    rw [← e, kOf_eq t1]
    exact t1.keeps fun b u _ e => Heap.get?_push_of_some _ (k1 b u e)
  refine wpAny_bind (wpAny_holding (wpAny_call_entry slot_list_sort ⟨_, hoL, rfl⟩ entry_list_sort
    (SrtO.list_sort_ord (s := { s1 with heap := s1.heap.push (seqObj "list" vs.toArray 0) }) (NtL.swo_lexL (kOf s.heap)) hoL hvz
      (fun h2 => TuS.sortableI (s := { s1 with heap := s1.heap.push (seqObj "list" vs.toArray 0) }) h2 (by show A.units + 1 + 1 < cLine; omega) hv fun o e => ?_) fun out hs hb => ⟨_, rfl, ?_⟩) (args_list_sort _)))
  · have e' : some o = some (seqObj "list" vs.toArray 0) := e.symm.trans hoL
    cases e'
    intro c
    exact absurd (Value.type.inj c) (by decide)
  · obtain ⟨c, hc⟩ := sortedHeap_at (vs := vs) (out := out.toArray) hoL
    refine wpAny_pure ⟨_, rfl, hQ _ s1.heap.objs.size out c (fun b u e => ?_) g1 o1 hz hc (hb.perm.trans pm) hs⟩
    have q := k1 b u e
    have hlt := Heap.lt_size q
    show (sortedHeap (s1.heap.push (seqObj "list" vs.toArray 0)) s1.heap.objs.size vs out.toArray).get? b = some u
    rw [sortedHeap_old (Nat.ne_of_lt hlt) (by rw [size_push']; exact Nat.lt_succ_of_lt hlt)]
    exact Heap.get?_push_of_some _ q
end
def rSortSL (X : Cx) : List V → Hp → VK → Prop := fun vs H Q => ∃ F Ls G M a L, Ok (kx X) F Ls G M H ∧ vs = [.ref a] ∧ H a = some (SetTO X.prog X.w a L) ∧ (∀ p ∈ L, Rp (kx X) Ls G (.ref p.1) (bs p.2)) ∧
  ∀ (ys : List V) (ks : List (List Int)) (p : Addr), RpL (kx X) Ls G ys (ks.map bs) → ks.Pairwise (fun a b => HT.lexLt a b = true) → (∀ k, k ∈ ks ↔ k ∈ L.map (·.2)) → H p = none → Q (.ref p) (upd H p (.lst ys))
theorem bs_sq {C : Kx} {L : List Addr} {G : Hp} {v : V} {k : List Int} (r : Rp C L G v (bs k)) : ∃ t, v = .ref t ∧ SqT C.K G t (k.map V.int) := by
  cases r with
  | @tup t vs ds hq hl =>
    have ev := ints_V hl (show ints? (k.map D.int) = some k by induction k with
      | nil => rfl
      | cons a k ih => simp [ints?, ih])
    subst ev
    exact ⟨t, rfl, hq⟩
section
variable {X : Cx} {W : WX}
theorem cr_sortSL (hc : X.calm = true) (hu : X.A.units + 65 < cLine) : CallR X (.builtin "sorted") (rSortSL X) := by
  intro pins s σ H vs us Q I r h
  obtain ⟨F, Ls, G, M, a, L, ok, rfl, ha, hk, q⟩ := h
  have R0 : SetT0 X.prog X.w s.heap a L := (I.hok a _ ha).1
  have hsq : ∀ p ∈ L, SqT X.K H p.1 (p.2.map V.int) := fun p hp => by
    obtain ⟨t, e, hq⟩ := bs_sq (hk p hp)
    cases e
    exact Same.seqT ok.sub hq
  obtain ⟨es, ep, t, R⟩ := R0.full fun p hp => I.isT (hsq p hp)
  rw [Vals.ref1 r]
  refine sorted_setL R (I.ok.hd hc) (by omega) fun s' p out c k g o hp hg pm pw => ?_
  have hn : H p = none := I.hok.fresh hp
  have mem : ∀ u ∈ out, ∃ z ∈ L, u = Value.ref z.1 ∧ kOf s.heap u = z.2 := fun u hu => by
    obtain ⟨z, hz, e⟩ := List.mem_map.mp (pm.mem_iff.mp hu)
    subst e
    exact ⟨z, hz, rfl, kOf_eq (ti_of (P := X.prog) (w := X.w) (R.tup z hz))⟩
  have eL : (L.map fun q => Value.ref q.1).map (kOf s.heap) = L.map (·.2) := by
    rw [List.map_map]
    exact List.map_congr_left fun z hz => kOf_eq (ti_of (P := X.prog) (w := X.w) (R.tup z hz))
  have pk : (out.map (kOf s.heap)).Perm (L.map (·.2)) := by rw [← eL]; exact pm.map _
  have hlen : (out.map backV).length ≤ sizeLine := by
    have := R.few
    have := pm.length_eq
    rw [List.length_map] at this
    rw [List.length_map, sizeLine_eq]; omega
  have hv : Vals (out.map backV) out := vals_back fun u hu => by obtain ⟨z, _, e, _⟩ := mem u hu; exact ⟨_, e⟩
  have J : Inv X pins σ (upd H p (.lst (out.map backV))) { s with heap := s'.heap, gens := s'.gens, drawn := s'.drawn, toks := s'.toks } :=
    I.call (ch := []) (Un.laid k hp hn) (I.hok.laid k hp ⟨hlen, out, c, hv, hg⟩) (by rw [g]; exact I.bare) (fun _ z => nomatch z)
  have e : s' = { s with heap := s'.heap, gens := s'.gens, drawn := s'.drawn, toks := s'.toks } := by
    cases s'
    cases s
    cases o
    rfl
  rw [e]
  refine ⟨.ref p, _, J, rfl, q _ (out.map (kOf s.heap)) p (rpl_back fun u hu => ?_) ?_ (fun z => pk.mem_iff) hn⟩
  · obtain ⟨z, hz, e1, e2⟩ := mem u hu
    rw [e2, e1]
    exact hk z hz
  · have nd := pk.nodup_iff.mpr R.nd
    have pw' : (out.map (kOf s.heap)).Pairwise (fun a b => HT.lexLt b a = false) := List.pairwise_map.mpr (pw.imp fun {x y} z => z)
    refine List.Pairwise.imp (fun {a b} z => ?_) (List.pairwise_and_iff.mpr ⟨nd, pw'⟩)
    cases hq : HT.lexLt a b with
    | true => rfl
    | false => exact absurd (lex_anti _ _ hq z.2) z.1
end
def insKU (x : List Int) : List (List Int) → List (List Int)
  | [] => [x]
  | y :: ys => if HT.lexLt x y then x :: y :: ys else if HT.lexLt y x then y :: insKU x ys else y :: ys
def sortKU : List (List Int) → List (List Int)
  | [] => []
  | x :: xs => insKU x (sortKU xs)
theorem mem_insKU {x z : List Int} : ∀ {l : List (List Int)}, z ∈ insKU x l ↔ z = x ∨ z ∈ l
  | [] => by simp [insKU]
  | y :: ys => by
    unfold insKU
    split
    · simp
    · split
      · rw [List.mem_cons, mem_insKU, List.mem_cons]
        constructor
        · rintro (h | h | h)
          · exact .inr (.inl h)
          · exact .inl h
          · exact .inr (.inr h)
        · rintro (h | h | h)
          · exact .inr (.inl h)
          · exact .inl h
          · exact .inr (.inr h)
      · rename_i h1 h2
        have e := lex_anti x y (by simpa using h1) (by simpa using h2)
        subst e
        simp
theorem mem_sortKU {z : List Int} : ∀ {l : List (List Int)}, z ∈ sortKU l ↔ z ∈ l
  | [] => by simp [sortKU]
  | x :: xs => by rw [sortKU, mem_insKU, mem_sortKU, List.mem_cons]
theorem lex_lt_trans {a b c : List Int} (h1 : HT.lexLt a b = true) (h2 : HT.lexLt b c = true) : HT.lexLt a c = true := by
  cases h : HT.lexLt a c with
  | true => rfl
  | false =>
    have h3 := NtL.lex_tr b c a (NtL.lex_asym _ _ h2) h
    rw [h1] at h3
    cases h3
theorem pw_insKU {x : List Int} : ∀ {l : List (List Int)}, l.Pairwise (fun a b => HT.lexLt a b = true) → (insKU x l).Pairwise (fun a b => HT.lexLt a b = true)
  | [], _ => List.pairwise_singleton _ _
  | y :: ys, h => by
    obtain ⟨h1, h2⟩ := List.pairwise_cons.mp h
    unfold insKU
    split
    · rename_i hl
      refine List.pairwise_cons.mpr ⟨fun z hz => ?_, h⟩
      rcases List.mem_cons.mp hz with rfl | hz
      · exact hl
      · exact lex_lt_trans hl (h1 z hz)
    · split
      · rename_i hl
        refine List.pairwise_cons.mpr ⟨fun z hz => ?_, pw_insKU h2⟩
        rcases mem_insKU.mp hz with rfl | hz
        · exact hl
        · exact h1 z hz
      · exact h
theorem pw_sortKU : ∀ {l : List (List Int)}, (sortKU l).Pairwise (fun a b => HT.lexLt a b = true)
  | [] => List.Pairwise.nil
  | x :: xs => pw_insKU pw_sortKU
def fSortSetT (x : D) (M : List MO) : R D := match res M x with
  | .lst ds => match tks? ds with
    | some ks => if ks.length < 64 then .ok (.lst ((sortKU ks).map bs)) M else .stuck
    | none => .stuck
  | _ => .stuck
def fSortSetA (ds : List D) (M : List MO) : R D := match ds with
  | [x] => fSortSetT x M
  | _ => .stuck
section
variable {X : Cx} {W : WX}
theorem addrs_of {L : List Addr} {G : Hp} : ∀ {ks : List (List Int)} {vs : List V}, RpL (kx X) L G vs (ks.map bs) → ∃ ps : List (Addr × List Int), vs = ps.map (fun p => V.ref p.1) ∧ ps.map (·.2) = ks ∧ ∀ p ∈ ps, Rp (kx X) L G (.ref p.1) (bs p.2)
  | [], _, r => by cases r; exact ⟨[], rfl, rfl, fun _ h => by simp at h⟩
  | k :: ks, _, r => by
    cases r with
    | cons r1 r2 =>
      obtain ⟨ps, e1, e2, h⟩ := addrs_of r2
      obtain ⟨t, rfl, _⟩ := bs_sq r1
      refine ⟨(t, k) :: ps, by rw [e1]; rfl, by rw [List.map_cons, e2], fun p hp => ?_⟩
      rcases List.mem_cons.mp hp with rfl | hp
      · exact r1
      · exact h p hp
theorem pd_sortSetT {a : Expr} {p p2 q pos : Pos} {ea : EA} (hc : X.calm = true) (hm : X.mg "sorted" = none) (hm2 : X.mg "set" = none) (hu : X.A.units + 65 < cLine) (ha : PAD X W [a] ea) (hg : Gl X "sorted" := by rfl) (hg2 : Gl X "set" := by rfl)
    (na : starEach [a] X.env = (false, eval a X.env) :: starEach [] X.env := by rfl) (hpl : (backTo q (starEach [] X.env)).any (·.1) = false := by rfl)
    (na2 : starEach [.Call (.Name "set" p2) [a] [] q] X.env = (false, eval (.Call (.Name "set" p2) [a] [] q) X.env) :: starEach [] X.env := by rfl) (hpl2 : (backTo pos (starEach [] X.env)).any (·.1) = false := by rfl) :
    PD X W (.Call (.Name "sorted" p) [.Call (.Name "set" p2) [a] [] q] [] pos) (eArgs fSortSetA ea) := by
  obtain ⟨ta, pa, qa⟩ := ha
  refine ⟨_, pe_callB (cr_sortSL hc hu) hg hm (by decide +kernel) (pa_cons (pe_callTy (cr_setOfT hc (by omega)) hg2 hm2 (by decide +kernel) pa (by decide) (by decide) na hpl) pa_nil na2) (by decide) (by decide) na2 hpl2, fun F e M σ L G H Q o re h => ?_⟩
  refine qa F e M σ L G H _ o re ((Aft.bind h).imp fun ds M1 L1 G1 H1 o1 x1 h1 vs r => ?_)
  unfold fSortSetA at h1
  split at h1
  · rename_i x
    obtain ⟨v, rfl, rv⟩ := one r
    unfold fSortSetT at h1
    split at h1
    · rename_i es e1
      split at h1
      · rename_i ks hk
        split at h1
        · rename_i hl
          obtain ⟨l, ws, rfl, hq, rl⟩ := o1.viewL rv e1
          rw [tks_eq hk] at rl
          obtain ⟨ps, rfl, e2, hp⟩ := addrs_of rl
          refine ⟨l, ps, rfl, .inl (.inl hq), fun p hp' => ?_, by rw [← e2, List.length_map] at hl; exact hl, fun b S hb s1 s2 => ?_⟩
          · obtain ⟨t, e, hs⟩ := bs_sq (hp p hp')
            cases e
            exact Same.seqT o1.sub hs
          · refine ⟨F, L1, G1, M1, b, S, o1.lose hb, rfl, upd_same, fun p hp' => hp p (s1 p hp'), fun ys ks' p2 ry pw mem hp2 => ?_⟩
            have e3 : ks' = sortKU ks := pw_uniq (lt := fun a b => HT.lexLt a b = true) (fun x y a b => by rw [NtL.lex_asym _ _ a] at b; cases b) pw pw_sortKU fun k => by
              rw [mem k, mem_sortKU, ← e2]
              constructor
              · intro hk'
                obtain ⟨z, hz, ez⟩ := List.mem_map.mp hk'
                exact List.mem_map.mpr ⟨z, s1 z hz, ez⟩
              · intro hk'
                obtain ⟨z, hz, ez⟩ := List.mem_map.mp hk'
                have := s2 z hz
                rw [ez] at this
                exact this
            subst e3
            exact newL (o1.lose hb) ry h1 p2 hp2
        · exact h1.elim
      · exact h1.elim
    · exact h1.elim
  · exact h1.elim
end
end KB
namespace KB
open PySem PySem.Spec PyProof.Rows L2
/-! ### list.insert, list.pop(i) -/
def fInsert (o : D) (xs : List D) (M : List MO) : R D := match o, xs with
  | .cell n, [.int i, v] => match M[n]? with
    | some (.lst ds) => if ds.length < big ∧ 0 ≤ i ∧ i < 1000000 then .ok .non (M.set n (.lst (ds.take i.toNat ++ [v] ++ ds.drop i.toNat))) else .stuck
    | _ => .stuck
  | _, _ => .stuck
def fPop (o : D) (xs : List D) (M : List MO) : R D := match o, xs with
  | .cell n, [.int i] => match M[n]? with
    | some (.lst ds) => if 0 ≤ i ∧ i < 1000000 then match ds[i.toNat]? with
        | some d => .ok d (M.set n (.lst (ds.eraseIdx i.toNat)))
        | none => .stuck
      else .stuck
    | _ => .stuck
  | _, _ => .stuck
theorem RpL.eraseIdx {C : Kx} {L : List Addr} {G : Hp} {ds : List D} {vs : List V} (h : RpL C L G vs ds) (k : Nat) : RpL C L G (vs.eraseIdx k) (ds.eraseIdx k) := by
  rw [List.eraseIdx_eq_take_drop_succ, List.eraseIdx_eq_take_drop_succ]
  exact (h.take k).append (h.drop (k + 1))
section
variable {X : Cx} {W : WX}
theorem dInsert : MtD X W (fun x vs H Q => ∃ (l : Addr) (xs : List V) (i : Int) (y : V), x = .ref l ∧ vs = [.int i, y] ∧ H l = some (.lst xs) ∧ xs.length < sizeLine ∧ 0 ≤ i ∧ i < 2 ^ 63 ∧ Q .non (upd H l (.lst (xs.take i.toNat ++ [y] ++ xs.drop i.toNat)))) fInsert := by
  intro x vs dx ds M F L G H σ Q o rx r h
  unfold fInsert at h
  split at h
  · rename_i n i v
    obtain ⟨u1, u2, rfl, r1, r2⟩ := two r
    cases r1
    cases rx with
    | @cell a n hl =>
      obtain ⟨u, hu, ku⟩ := o.here hl
      rw [hu] at h
      cases u with
      | obj c fs => exact h.elim
      | lst es =>
        dsimp only at h
        obtain ⟨us, hv, rl⟩ := ku
        split at h
        · rename_i hz
          refine ⟨a, us, i, u2, rfl, rfl, hv, by rw [rl.length]; exact big_lt (Nat.le_of_lt hz.1), hz.2.1, by have := hz.2.2; omega, ?_⟩
          exact h L G _ (o.cellSet hl (((rl.take _).append (.cons r2 .nil)).append (rl.drop _))) (Ext.refl _ _) _ .non
        · exact h.elim
  · exact h.elim
theorem dPop : MtD X W rPopAt fPop := by
  intro x vs dx ds M F L G H σ Q o rx r h
  unfold fPop at h
  split at h
  · rename_i n i
    obtain ⟨u1, rfl, r1⟩ := one r
    cases r1
    cases rx with
    | @cell a n hl =>
      obtain ⟨u, hu, ku⟩ := o.here hl
      rw [hu] at h
      cases u with
      | obj c fs => exact h.elim
      | lst es =>
        dsimp only at h
        obtain ⟨us, hv, rl⟩ := ku
        split at h
        · rename_i hz
          cases hd : es[i.toNat]? with
          | none => rw [hd] at h; exact h.elim
          | some d =>
            rw [hd] at h
            dsimp only at h
            obtain ⟨y, hy, ry⟩ := rl.get hd
            have hlt : i.toNat < us.length := (List.getElem?_eq_some_iff.mp hy).1
            refine ⟨a, us, i, i.toNat, y, rfl, rfl, hv, by omega, by omega, ?_, hy, ?_⟩
            · unfold seqIndex?
              simp only []
              first
                | (rw [if_neg (by omega)]; simp; omega)
                | (simp; omega)
            · exact h L G _ (o.cellSet hl (rl.eraseIdx _)) (Ext.refl _ _) _ ry
        · exact h.elim
  · exact h.elim
theorem pd_insert {o a b : Expr} {apos cpos : Pos} {eo : EV} {ea : EA} (ho : PD X W o eo) (ha : PAD X W [a, b] ea)
    (hbase : attributeBase o "insert" X.env (eval o X.env) = eval o X.env := by rfl)
    (hfew : ((backTo cpos (starEach [a, b] X.env)).all (fun x => !x.1) && (backToKw cpos (keywordEach [] X.env)).all (fun x => x.1.isSome)
      && decide ([a, b].length + ([] : List Keyword).length + (if ([] : List Keyword).isEmpty then 0 else 1) < 30)) = true := by rfl)
    (hline : (apos.endLine == cpos.line) = true := by rfl) (hs : starEach [a, b] X.env = (false, eval a X.env) :: starEach [b] X.env := by rfl) (hpl : (backTo cpos (starEach [b] X.env)).any (·.1) = false := by rfl) : PD X W (.Call (.Attribute o "insert" apos) [a, b] [] cpos) (eMeth ckL fInsert eo ea) :=
  pd_meth PySem.F.plainAttrs_list PySem.F.slot_list_insert PySem.F.type_list_insert mt_insert ckL_ok dInsert ho ha hbase hfew hline hs hpl
theorem pd_pop {o a : Expr} {apos cpos : Pos} {eo : EV} {ea : EA} (ho : PD X W o eo) (ha : PAD X W [a] ea)
    (hbase : attributeBase o "pop" X.env (eval o X.env) = eval o X.env := by rfl)
    (hfew : ((backTo cpos (starEach [a] X.env)).all (fun x => !x.1) && (backToKw cpos (keywordEach [] X.env)).all (fun x => x.1.isSome)
      && decide ([a].length + ([] : List Keyword).length + (if ([] : List Keyword).isEmpty then 0 else 1) < 30)) = true := by rfl)
    (hline : (apos.endLine == cpos.line) = true := by rfl) (hs : starEach [a] X.env = (false, eval a X.env) :: starEach [] X.env := by rfl) : PD X W (.Call (.Attribute o "pop" apos) [a] [] cpos) (eMeth ckL fPop eo ea) :=
  pd_meth PySem.F.plainAttrs_list PySem.F.slot_list_pop PySem.F.type_list_pop (MtM.mtr mt_popAt) ckL_ok dPop ho ha hbase hfew hline hs rfl
end
/-! ### two clauses: [el for x in cell for y in list if ..] -/
def tiOf (X : Cx) (W : WX) (ev : EI) : TI := fun σ H Rq => ∃ F e M L G, Ok (kx X) F L G M H ∧ RpE (kx X) L G σ e ∧
  Aft X W F σ (fun s M1 L1 G1 H1 => ∀ J G2 H2, Ok (kx X) F L1 G2 M1 H2 → Ext L1 G1 L1 G2 → SrcOk X L1 G2 J s → Rq J H2) L G (ev e M)
theorem PID.pi {X : Cx} {W : WX} {tg iter : Expr} {ev : EI} (h : PID X W tg iter ev) : PI X tg iter (tiOf X W ev) := by
  obtain ⟨t, p, q⟩ := h
  refine ⟨fun pins s σ H Q I z => ?_⟩
  obtain ⟨F, e, M, L, G, o, re, a⟩ := z
  exact p.run pins s σ H Q I (q F e M σ L G H Q o re a)
def compC2 (g : GV) (src1 : EI) (vs1 : List Nat) (g1 : GV) (t1 : EB) (el : EV) (e : EN) (n : Nat) : Nat → Nat → List D → List MO → R (List D)
  | 0, _, _, _ => .stuck
  | m + 1, i, acc, M => match M[n]? with
    | some (.lst ds) => match ds[i]? with
      | some d => match g d e with
        | some e1 => (src1 e1 M).nox fun s M1 => match s with
          | .snap ds1 => (compL g1 t1 el (wipeE e1 vs1) ds1 acc M1).bind (compC2 g src1 vs1 g1 t1 el e n m (i + 1))
          | _ => .stuck
        | none => .stuck
      | none => .ok acc M
    | _ => .stuck
def eLc2A (src : EI) (g : GV) (vs : List Nat) (src1 : EI) (vs1 : List Nat) (g1 : GV) (t1 : EB) (el : EV) : EA := fun e M => (src e M).bind fun s M1 => match s with
  | .cel n => compC2 g src1 vs1 g1 t1 el (wipeE e vs) n fuel 0 [] M1
  | _ => .stuck
theorem R.nox_bind {α β γ : Type} (r : R α) (f : α → List MO → R β) (k : β → List MO → R γ) : (r.nox f).bind k = r.nox fun a M => (f a M).bind k := by
  cases r <;> rfl
section
variable {X : Cx} {W : WX}
theorem inner_it {J : It} {n : Nat} {Gd : Hp → Prop} {Y : Nat → Hp → V → Hp → Prop} (w : Walk J n Gd Y) {g : TG} {tt : TT} {te : TE} {vs : List Nat} {σ : L2.St} {H1 : Hp} {Da : Addr} {Qd : Hp → Prop} (Pv : Nat → Hp → Prop) (h0 : Pv 0 H1) (hG : ∀ i H, i ≤ n → Pv i H → Gd H)
    (hs : ∀ i x H H', i < n → Pv i H → Y i H x H' → g x (wipe σ vs) H' fun σ2 H2 => wipe σ2 vs = wipe σ vs ∧ tt σ2 H2 fun b H3 =>
      if b = true then te σ2 H3 fun y H4 => ∃ acc, H4 Da = some (.lst acc) ∧ acc.length < sizeLine ∧ Pv (i + 1) (upd H4 Da (.lst (acc ++ [y]))) else Pv (i + 1) H3) (hd : ∀ H, Pv n H → Qd H) :
    ∃ W : Nat → Nat → Hp → Prop, (∃ m, W 0 m H1) ∧ ∀ i m H, W i m H →
      (J.stop i H ∧ Qd H) ∨ (J.go i H ∧ ∃ Nx : Hp → Prop, (∀ H', Nx H' → ∃ m', m' < m ∧ W (i + 1) m' H') ∧ ∀ x H', J.yld i H x H' → g x (wipe σ vs) H' fun σ2 H2 => wipe σ2 vs = wipe σ vs ∧ tt σ2 H2 fun b H3 =>
        if b = true then te σ2 H3 fun y H4 => ∃ acc, H4 Da = some (.lst acc) ∧ acc.length < sizeLine ∧ Nx (upd H4 Da (.lst (acc ++ [y]))) else Nx H3) := by
  refine ⟨fun i m H => m = n - i ∧ i ≤ n ∧ Pv i H, ⟨n, by simp, Nat.zero_le _, h0⟩, ?_⟩
  rintro i m H ⟨rfl, hi, p⟩
  have q := hG i H hi p
  by_cases hlt : i < n
  · refine .inr ⟨w.goes i H hlt q, Pv (i + 1), fun H' p' => ⟨n - (i + 1), by omega, rfl, hlt, p'⟩, fun x H' y => hs i x H H' hlt p (w.yields i H x H' hlt q y)⟩
  · have e : i = n := by omega
    subst e
    exact .inl ⟨w.stops H q, hd H p⟩
theorem hoLc2 {wi : TI} {src src1 : EI} {is is1 vs vs1 : List Nat} {g g1 : GV} {et : EB} {el : EV} (hi : HoI X W wi src) (hv : ∀ i ∈ is, i ∈ vs) (hv1 : ∀ i ∈ is1, i ∈ vs1) :
    ∀ (F : Hp) (e : EN) (M : List MO) (σ : L2.St) (L : List Addr) (G H : Hp) (Q : VK), Ok (kx X) F L G M H → RpE (kx X) L G σ e →
    Aft X W F σ (kL X F Q) L G (eLc2A src g vs src1 vs1 g1 et el e M) →
    tLc2 wi (tgOf X is g) (tbOf X W0 eYes) (tiOf X W0 src1) (tgOf X is1 g1) (tbOf X W0 et) (teOf X W0 el) vs vs1 σ H Q := by
  intro F e M σ L G H Q o re h
  refine hi F e M σ L G H _ o re ((Aft.bind h).imp fun s M1 L1 G1 H1 o1 x1 h1 J G2 H2 o2 x2 wk => ?_)
  intro Da hD
  have re2 := (re.mono x1).mono x2
  have h2 := Aft.mono h1 x2
  have hFD : F Da = none := o2.freshF hD
  have o3 := o2.openF (u := .lst []) hD
  have rw2 : RpE (kx X) L1 G2 (wipe σ vs) (wipeE e vs) := re2.wipe vs
  cases s with
  | snap ds => exact h2.elim
  | cel n =>
    obtain ⟨a, ha, rfl⟩ := wk
    refine ⟨fun i m H' => ∃ acc us M' L' G', Ok (kx X) (upd F Da (.lst us)) L' G' M' H' ∧ Ext L1 G2 L' G' ∧ RpL (kx X) L' G' us acc ∧
        Aft X W F σ (kL X F Q) L' G' (compC2 g src1 vs1 g1 et el (wipeE e vs) n m i acc M'), ⟨fuel, [], [], M1, L1, G2, o3, Ext.refl _ _, .nil, h2⟩, ?_⟩
    rintro i m H' ⟨acc, us, M', L', G', o', x', ra, h'⟩
    cases m with
    | zero => exact h'.elim
    | succ m =>
      obtain ⟨u, hu, ku⟩ := o'.here (x'.at ha)
      unfold compC2 at h'
      rw [hu] at h'
      cases u with
      | obj c fs => exact h'.elim
      | lst ds =>
        obtain ⟨ws, hv', rv⟩ := ku
        dsimp only at h'
        cases hd : ds[i]? with
        | none =>
          rw [hd] at h'
          refine .inl ⟨⟨ws, .inl (.inl hv'), ?_⟩, h' L' G' H' (o'.dropF hFD) (Ext.refl _ _) Da us H' hFD o' ra⟩
          rw [rv.length]; exact List.getElem?_eq_none_iff.mp hd
        | some d =>
          rw [hd] at h'
          dsimp only at h'
          obtain ⟨v, hv1', rv1⟩ := rv.get hd
          refine .inr ⟨⟨ws, v, .inl (.inl hv'), hv1'⟩, _, fun H5 n5 => ⟨m, Nat.lt_succ_self m, n5⟩, fun x H3 y => ?_⟩
          obtain ⟨rfl, y⟩ := y
          have ex : x = v := Option.some.inj ((y ws (.inl (.inl hv'))).symm.trans hv1')
          subst ex
          split at h'
          · rename_i e1 he
            refine ⟨_, _, _, e1, M', L', G', o', rw2.mono x', rv1, he, fun σ4 re4 u4 => ⟨wipe_upd u4 hv, ?_⟩⟩
            refine ⟨_, e1, M', L', G', o', re4, fun L5 G5 H5 o5 x5 => ?_⟩
            dsimp only [kB]
            rw [if_pos rfl]
            refine ⟨_, e1, M', L5, G5, o5, re4.mono x5, ?_⟩
            refine ((Aft.nox (σ' := σ4) (Aft.mono h' x5)).reF fun _ _ _ _ => Ok.dropF hFD).imp fun s M6 L6 G6 H6 o6 x6 h7 J1 G7 H7 o7 x7 wk1 => ?_
            cases s with
            | cel k => exact h7.elim
            | snap ds1 =>
              obtain ⟨Gd, Y, wk1, hG, hY⟩ := wk1
              have h8 := Aft.mono h7 x7
              have rw3 : RpE (kx X) L6 G7 (wipe σ4 vs1) (wipeE e1 vs1) := ((re4.mono x5).mono (x6.trans x7)).wipe vs1
              refine inner_it wk1 (fun j H' => ∃ acc' us' M'' L'' G'', Ok (kx X) (upd F Da (.lst us')) L'' G'' M'' H' ∧ Ext L6 G7 L'' G'' ∧ RpL (kx X) L'' G'' us' acc' ∧
                Aft X W F σ (kL X F Q) L'' G'' ((compL g1 et el (wipeE e1 vs1) (ds1.drop j) acc' M'').bind (compC2 g src1 vs1 g1 et el (wipeE e vs) n m (i + 1))))
                ⟨acc, us, M6, L6, G7, o7, Ext.refl _ _, (ra.mono x5).mono (x6.trans x7), h8⟩ ?_ ?_ ?_
              · rintro j H' _ ⟨acc', us', M'', L'', G'', o'', x'', _, _⟩
                exact hG _ L'' G'' M'' H' o'' x''
              · rintro j x H' H8 hlt ⟨acc', us', M'', L'', G'', o'', x'', ra', h''⟩ y
                have hd1 : ds1[j]? = some ds1[j] := List.getElem?_eq_getElem hlt
                obtain ⟨G9, o9, x9, r9⟩ := hY j _ x _ L'' G'' M'' H' H8 hd1 o'' x'' y
                rw [List.drop_eq_getElem_cons hlt] at h''
                unfold compL at h''
                split at h''
                · rename_i e3 he3
                  rw [R.nox_bind] at h''
                  refine ⟨_, _, _, e3, M'', L'', G9, o9, (rw3.mono x'').mono x9, r9, he3, fun σ5 re5 u5 => ⟨wipe_upd u5 hv1, ?_⟩⟩
                  refine ⟨_, e3, M'', L'', G9, o9, re5, ?_⟩
                  refine ((Aft.nox (σ' := σ5) (Aft.mono h'' x9)).reF fun _ _ _ _ => Ok.dropF hFD).imp fun b MA LA GA HA oA xA hA => ?_
                  dsimp only [kB]
                  cases b with
                  | true =>
                    rw [if_pos rfl]
                    simp only [if_true] at hA
                    rw [R.nox_bind] at hA
                    refine ⟨_, e3, MA, LA, GA, oA, re5.mono xA, ?_⟩
                    refine ((Aft.nox (σ' := σ5) hA).reF fun _ _ _ _ => Ok.dropF hFD).imp fun y MB LB GB HB oB xB hB v r => ?_
                    split at hB
                    · rename_i hbig
                      exact ⟨us', oB.fs Da _ upd_same, by rw [ra'.length]; exact big_lt (Nat.le_of_lt hbig), acc' ++ [y], us' ++ [v], MB, LB, GB, oB.turnF, ((x''.trans x9).trans xA).trans xB, (((ra'.mono x9).mono xA).mono xB).append (.cons r .nil), hB⟩
                    · exact hB.elim
                  | false =>
                    rw [if_neg Bool.false_ne_true]
                    simp only [Bool.false_eq_true, if_false] at hA
                    exact ⟨acc', us', MA, LA, GA, oA, (x''.trans x9).trans xA, (ra'.mono x9).mono xA, hA⟩
                · exact h''.elim
              · rintro H' ⟨acc', us', M'', L'', G'', o'', x'', ra', h''⟩
                rw [List.drop_length] at h''
                exact ⟨acc', us', M'', L'', G'', o'', (((x'.trans x5).trans x6).trans x7).trans x'', ra', h''⟩
          · exact h'.elim
theorem pd_lc2 {elt tg iter tg1 iter1 : Expr} {ifs1 : List Expr} {scope : Scope} {pos : Pos} {src src1 : EI} {is is1 : List Nat} {g g1 : GV} {et : EB} {el : EV} (own : List (Str × Nat)) (vs1 : List Nat) (hc : X.calm = true) (hN : X.N.Nodup) (hi : PID X W tg iter src)
    (ok : BlkOk X.N X.env.scope scope own) (hv : ∀ i ∈ is, i ∈ own.map (·.2)) (hv1 : ∀ i ∈ is1, i ∈ vs1) (hvo : ∀ i ∈ vs1, i ∈ own.map (·.2))
    (hg : ∀ (s : Shared) (H : Hp) (C : Addr) (cl : List (Str × Addr)) (fp : List Addr), PGD (X.blk s H scope (compEnvC scope cl C X.env) fp) tg is g)
    (hi1 : ∀ (s : Shared) (H : Hp) (C : Addr) (cl : List (Str × Addr)) (fp : List Addr), PID (X.blk s H scope (compEnvC scope cl C X.env) fp) W0 tg1 iter1 src1)
    (hg1 : ∀ (s : Shared) (H : Hp) (C : Addr) (cl : List (Str × Addr)) (fp : List Addr), PGD (X.blk s H scope (compEnvC scope cl C X.env) fp) tg1 is1 g1)
    (ht1 : ∀ (s : Shared) (H : Hp) (C : Addr) (cl : List (Str × Addr)) (fp : List Addr), PTs (X.blk s H scope (compEnvC scope cl C X.env) fp) ifs1 (tbOf X W0 et))
    (he : ∀ (s : Shared) (H : Hp) (C : Addr) (cl : List (Str × Addr)) (fp : List Addr), PD (X.blk s H scope (compEnvC scope cl C X.env) fp) W0 elt el)
    (hs : ∀ x, foldedSetIterable iter X.env x = pure x := by intro _; rfl) (hs1 : ∀ env x, foldedSetIterable iter1 env x = pure x := by intro _ _; rfl) :
    PD X W (.ListComp elt [⟨tg, iter, [], 0⟩, ⟨tg1, iter1, ifs1, 0⟩] scope pos) (eArgs fLst' (eLc2A src g (own.map (·.2)) src1 vs1 g1 et el)) := by
  obtain ⟨wi, pi, qi⟩ := hi
  refine ⟨_, pe_lc2 (g := tgOf X is g) (tt := tbOf X W0 eYes) (wi1 := tiOf X W0 src1) (g1 := tgOf X is1 g1) (tt1 := tbOf X W0 et) (te := teOf X W0 el) hc hN pi ok hvo (fun s H C cl fp => (hg s H C cl fp).pg) (fun s H C cl fp => ptsd_nil) (fun s H C cl fp => (hi1 s H C cl fp).pi) (fun s H C cl fp => (hg1 s H C cl fp).pg) ht1 (fun s H C cl fp => (he s H C cl fp).pe) hs hs1, fun F e M σ L G H Q o re h => ?_⟩
  exact hoLc2 qi hv hv1 F e M σ L G H Q o re (kL_lst h)
end
end KB
namespace KB
open PySem PySem.Spec PyProof.Rows L2
/-! ### len(o) by an own __len__ -/
def rLenO (A : Addr) (sp : Sp) : List V → Hp → VK → Prop := fun xs H Q => ∃ a dx fs, xs = [.ref a] ∧ H a = some (.ins A dx fs) ∧ sp [.ref a] H (fun v H2 => ∃ n : Int, v = .int n ∧ 0 ≤ n ∧ n < 2 ^ 63 ∧ Q (.int n) H2) (fun _ _ _ => False)
theorem cx_no' {P : Program} {w : World} {st : List Env} {H : Hp} {s : Shared} {e : Value} {s' : Shared} (h : L2.CX P w st H s (fun _ _ _ => False) e s') : False := by
  obtain ⟨_, _, _, _, _, _, _, _, _, _, _, _, z⟩ := h
  exact z.elim
section
variable {X : Cx} {W : WX}
theorem call_lenO {k : Nat} {f A : Addr} {fd : FuncData} {ps : List Str} {sp : Sp} (hm : Meth X.K A "__len__" f) (F : FnOk X.prog X.w X.K X.mg X.base (L2.CX X.prog X.w) k f fd ps sp) (hr : Room (k + 1) X.A) (hb : Binds X.K fd ps []) : CallR X (.builtin "len") (rLenO A sp) := by
  intro pins s σ H xs us Q I r h
  obtain ⟨a, dx, fs, rfl, hH, q⟩ := h
  rw [Vals.ref1 r]
  obtain ⟨mA, O, _, _, _, _⟩ := ins_get I.hok hH
  obtain ⟨od, J, hl⟩ := O.look
  refine Calls.call_function_entry kind_len plain_len entry_len (args_len1 _) ?_
  unfold Builtin.«len»
  refine wpAny_bind (m := oneArg "len" _) (wpAny_pure ?_)
  have lenEq : ([V.ref a] : List V).length = ps.length := F.len _ _ _ _ q
  have b := hb s [.ref a] I.kIn (by rw [List.append_nil]; exact lenEq)
  rw [List.append_nil] at b
  have hcall : wpAny (model X.prog X.w) X.A.in1 (call (.ref f) [.ref a]) (EP X pins σ fun v H2 => ∃ n : Int, v = .int n ∧ 0 ≤ n ∧ n < 2 ^ 63 ∧ Q (.int n) H2) X.xe s := by
    refine wpAny_call (codeAny_mono (F.run X.A.in1 X.stack s H ⟨[.ref a], []⟩ [.ref a] [.ref a] _ (fun _ _ _ => False) hr.in1 I.env0.in1 b (.cons rfl .nil) q) fun r s' hq => ?_)
    cases r with
    | error e => exact (cx_no' hq).elim
    | ok fl =>
      cases fl with
      | ret u => exact I.after hq
      | next => exact False.elim hq
      | brk => exact False.elim hq
      | cont => exact False.elim hq
  refine wpAny_bind (m := callSpecial? (.ref a) (Str.ofString "__len__")) (PySem.W.special_fn I.kIn J hm.at_ (beq_iff_eq.mp hm.fn) (wpAny_mono hcall (fun r s' hr => ?_) fun _ _ y => y))
  obtain ⟨v, H', I', rv, n, rfl, h0, h1, hq⟩ := hr
  obtain ⟨t, rfl⟩ := rv
  refine wpAny_bind (wpAny_holding (wpAny_pure ?_))
  refine wpAny_bind (wpAny_letGo ?_)
  show wpAny _ _ (if n < 0 then _ else _) _ _ _
  rw [if_neg (by omega)]
  show wpAny _ _ (if n ≥ 2 ^ 63 then _ else _) _ _ _
  rw [if_neg (by omega)]
  exact wpAny_bind (wpAny_mkInt (wpAny_pure ⟨_, rfl, .int n, H', I'.tok _, ⟨_, rfl⟩, hq⟩))
end
def eLenO (c : Str) (m : List D → List MO → R D) (ea : EA) : EV := fun e M => (ea e M).bind fun ds M1 => match ds with
  | [o] => match objAt c o M1 with
    | some _ => (m [o] M1).nox fun d M2 => match d with
      | .int i => if 0 ≤ i ∧ i ≤ 1000000000 then .ok (.int i) M2 else .stuck
      | _ => .stuck
    | none => .stuck
  | _ => .stuck
section
variable {X : Cx} {W : WX}
theorem pd_lenO {c : Str} {k k' : Nat} {m : List D → List MO → R D} {a : Expr} {ea : EA} {p pos : Pos} (h : HasM X.prog X.w (kx X) X.base c "__len__" k m) (hr : Room k' X.A) (hmg : X.mg "len" = none) (ha : PAD X W [a] ea) (hk' : k + 1 ≤ k' := by decide) (hg : Gl X "len" := by rfl)
    (hs : starEach [a] X.env = (false, eval a X.env) :: starEach [] X.env := by rfl) (hpl : (backTo pos (starEach [] X.env)).any (·.1) = false := by rfl) : PD X W (.Call (.Name "len" p) [a] [] pos) (eLenO c m ea) := by
  obtain ⟨A, f, fd, ps, F, hA, cl, hm, hb⟩ := h.ex
  obtain ⟨t, pt, q⟩ := ha
  refine ⟨_, pe_callB (call_lenO hm F (hr.mono hk') hb) hg hmg (by decide +kernel) pt (by decide) (by decide) hs hpl, fun F e M σ L G H Q o re h => ?_⟩
  refine q F e M σ L G H _ o re ((Aft.bind h).imp fun ds M1 L1 G1 H1 o1 x1 h1 vs r => ?_)
  split at h1
  · rename_i d
    obtain ⟨v, rfl, rv⟩ := one r
    split at h1
    · rename_i nf hO
      obtain ⟨n, fs⟩ := nf
      obtain ⟨b, A', dx, fv, rfl, hl, hm', hH, e1, e2⟩ := o1.viewO rv hO
      rw [show (kx X).mg c = some (.ref A) from hA] at hm'
      cases hm'
      refine ⟨b, dx, fv, rfl, hH, F, L1, G1, M1, [d], o1, .cons rv .nil, ?_⟩
      cases hmm : m [d] M1 with
      | ok d' M' =>
        rw [hmm] at h1
        simp only [R.nox_ok] at h1
        intro v' L' G' H' o' x' r'
        cases d' with
        | int i =>
          cases r'
          dsimp only at h1
          split at h1
          · rename_i hi
            exact ⟨i, rfl, hi.1, by have := hi.2; omega, h1 L' G' H' o' x' _ (.int i)⟩
          · exact h1.elim
        | _ => exact h1.elim
      | exc c' M' => rw [hmm] at h1; exact h1.elim
      | stuck => rw [hmm] at h1; exact h1.elim
    · exact h1.elim
  · exact h1.elim
end
/-! ### texts -/
def strs? : List D → Option (List Str)
  | [] => some []
  | .str s :: r => (strs? r).map (s :: ·)
  | _ :: _ => none
theorem strs_V {C : Kx} {L : List Addr} {G : Hp} : ∀ {ds : List D} {vs : List V} {ss : List Str}, RpL C L G vs ds → strs? ds = some ss → vs = ss.map V.str
  | [], _, ss, h, e => by cases h; simp [strs?] at e; subst e; rfl
  | d :: ds, _, ss, h, e => by
    cases h with
    | cons h1 h2 =>
      cases d <;> simp [strs?] at e
      rename_i s
      obtain ⟨ts, e1, rfl⟩ := e
      cases h1
      rw [strs_V h2 e1]; rfl
theorem rp_strs {C : Kx} {L : List Addr} {G : Hp} : ∀ ss : List Str, RpL C L G (ss.map V.str) (ss.map D.str)
  | [] => .nil
  | s :: ss => .cons (.str s) (rp_strs ss)
def fJoin (o : D) (xs : List D) (M : List MO) : R D := match o, xs with
  | .str a, [x] => match res M x with
    | .lst ds => match strs? ds with
      | some ys => if (ys.map (·.length)).sum + ys.length * a.length ≤ big then .ok (.str (Txt.join a ys)) M else .stuck
      | none => .stuck
    | .tup ds => match strs? ds with
      | some ys => if (ys.map (·.length)).sum + ys.length * a.length ≤ big then .ok (.str (Txt.join a ys)) M else .stuck
      | none => .stuck
    | _ => .stuck
  | _, _ => .stuck
def fSplit (o : D) (xs : List D) (M : List MO) : R D := match o, xs with
  | .str a, [.str b] => if (b.length == 0) = false ∧ a.length ≤ big then .ok (.lst ((Txt.split a b).map .str)) M else .stuck
  | _, _ => .stuck
def fIndexS (o : D) (xs : List D) (M : List MO) : R D := match o, xs with
  | .str a, [.str b] => match Txt.index0 a b with
    | some k => .ok (.int (k : Nat)) M
    | none => .stuck
  | _, _ => .stuck
theorem sq_of {K : PySem.W.Frag} {H : Hp} {a : Addr} {xs : List V} (h : H a = some (.lst xs)) : SqL K H a xs := .inl (.inl h)
section
variable {X : Cx} {W : WX}
theorem dJoin : MtD X W (fun x xs H Q => ∃ a p, ∃ ys : List Str, x = .str a ∧ xs = [.ref p] ∧ (SqL X.K H p (ys.map V.str) ∨ SqT X.K H p (ys.map V.str)) ∧ (ys.map (·.length)).sum + ys.length * a.length ≤ 16777216 ∧ Q (.str (Txt.join a ys)) H) fJoin := by
  intro x vs dx ds M F L G H σ Q o rx r h
  unfold fJoin at h
  split at h
  · rename_i a y
    obtain ⟨v, rfl, rv⟩ := one r
    cases rx
    split at h
    · rename_i es e1
      split at h
      · rename_i ys hy
        split at h
        · rename_i hz
          obtain ⟨p, ws, rfl, hq, hl⟩ := o.viewL rv e1
          rw [strs_V hl hy] at hq
          exact ⟨a, p, ys, rfl, rfl, .inl (sq_of hq), by unfold big at hz; omega, aok h o _ (.str _)⟩
        · exact h.elim
      · exact h.elim
    · rename_i es e1
      split at h
      · rename_i ys hy
        split at h
        · rename_i hz
          obtain ⟨p, ws, rfl, hq, hl⟩ := o.viewT rv e1
          rw [strs_V hl hy] at hq
          exact ⟨a, p, ys, rfl, rfl, .inr hq, by unfold big at hz; omega, aok h o _ (.str _)⟩
        · exact h.elim
      · exact h.elim
    · exact h.elim
  · exact h.elim
theorem dSplit : MtD X W (fun x xs H Q => ∃ a b, x = .str a ∧ xs = [.str b] ∧ (b.length == 0) = false ∧ a.length + 2 ≤ sizeLine ∧ rNewStrs (Txt.split a b) H Q) fSplit := by
  intro x vs dx ds M F L G H σ Q o rx r h
  unfold fSplit at h
  split at h
  · rename_i a b
    obtain ⟨v, rfl, rv⟩ := one r
    cases rx
    cases rv
    split at h
    · rename_i hz
      refine ⟨a, b, rfl, rfl, hz.1, ?_, fun p hp => newL o (rp_strs _) h p hp⟩
      have := hz.2
      unfold big at this
      rw [sizeLine_eq]
      omega
    · exact h.elim
  · exact h.elim
theorem pd_join {o a : Expr} {apos cpos : Pos} {eo : EV} {ea : EA} (ho : PD X W o eo) (ha : PAD X W [a] ea)
    (hbase : attributeBase o "join" X.env (eval o X.env) = eval o X.env := by rfl)
    (hfew : ((backTo cpos (starEach [a] X.env)).all (fun x => !x.1) && (backToKw cpos (keywordEach [] X.env)).all (fun x => x.1.isSome)
      && decide ([a].length + ([] : List Keyword).length + (if ([] : List Keyword).isEmpty then 0 else 1) < 30)) = true := by rfl)
    (hline : (apos.endLine == cpos.line) = true := by rfl) (hs : starEach [a] X.env = (false, eval a X.env) :: starEach [] X.env := by rfl) : PD X W (.Call (.Attribute o "join" apos) [a] [] cpos) (eMeth ckS fJoin eo ea) :=
  pd_meth PySem.F.plainAttrs_str PySem.F.slot_str_join PySem.F.type_str_join mt_join ckS_ok dJoin ho ha hbase hfew hline hs rfl
theorem pd_split {o a : Expr} {apos cpos : Pos} {eo : EV} {ea : EA} (ho : PD X W o eo) (ha : PAD X W [a] ea)
    (hbase : attributeBase o "split" X.env (eval o X.env) = eval o X.env := by rfl)
    (hfew : ((backTo cpos (starEach [a] X.env)).all (fun x => !x.1) && (backToKw cpos (keywordEach [] X.env)).all (fun x => x.1.isSome)
      && decide ([a].length + ([] : List Keyword).length + (if ([] : List Keyword).isEmpty then 0 else 1) < 30)) = true := by rfl)
    (hline : (apos.endLine == cpos.line) = true := by rfl) (hs : starEach [a] X.env = (false, eval a X.env) :: starEach [] X.env := by rfl) : PD X W (.Call (.Attribute o "split" apos) [a] [] cpos) (eMeth ckS fSplit eo ea) :=
  pd_meth PySem.F.plainAttrs_str PySem.F.slot_str_split PySem.F.type_str_split mt_split ckS_ok dSplit ho ha hbase hfew hline hs rfl
theorem pd_indexS {o a : Expr} {apos cpos : Pos} {eo : EV} {ea : EA} (hc : X.calm = true) (tk : Takes X W) (ho : PD X W o eo) (ha : PAD X W [a] ea)
    (hbase : attributeBase o "index" X.env (eval o X.env) = eval o X.env := by rfl)
    (hfew : ((backTo cpos (starEach [a] X.env)).all (fun x => !x.1) && (backToKw cpos (keywordEach [] X.env)).all (fun x => x.1.isSome)
      && decide ([a].length + ([] : List Keyword).length + (if ([] : List Keyword).isEmpty then 0 else 1) < 30)) = true := by rfl)
    (hline : (apos.endLine == cpos.line) = true := by rfl) (hs : starEach [a] X.env = (false, eval a X.env) :: starEach [] X.env := by rfl) (hpl : (backTo cpos (starEach [] X.env)).any (·.1) = false := by rfl) : PD X W (.Call (.Attribute o "index" apos) [a] [] cpos) (eMeth ckS fIndexS eo ea) := by
  obtain ⟨to, po, qo⟩ := ho
  obtain ⟨ta, pa', qa⟩ := ha
  refine ⟨_, pe_bmS PySem.F.plainAttrs_str PySem.F.slot_str_index PySem.F.type_str_index (mt_indexX hc tk) po pa' hbase hfew hline hs hpl, fun F e M σ L G H Q o re h => ?_⟩
  refine qo F e M σ L G H _ o re ((Aft.bind h).imp fun d M1 L1 G1 H1 o1 x1 h1 v r => ?_)
  split at h1
  · rename_i hck
    refine ⟨ckS_ok F L1 G1 H1 M1 v d o1 r hck, ?_⟩
    refine qa F e M1 σ L1 G1 H1 _ o1 (re.mono x1) ((Aft.bind h1).imp fun ds M2 L2 G2 H2 o2 x2 h2 vs rs => ?_)
    unfold fIndexS at h2
    split at h2
    · rename_i a b
      obtain ⟨w, rfl, rw'⟩ := one rs
      cases r
      cases rw'
      refine ⟨a, b, rfl, rfl, fun k hk => ?_, fun hn => ?_⟩
      · rw [hk] at h2
        exact aok h2 o2 _ (.int _)
      · rw [hn] at h2; exact h2.elim
    · exact h2.elim
  · exact h1.elim
end
/-! ### for sign in text; range(a, b, c) -/
def signs (z : Str) : List D := z.cps.toList.map fun c => .str ⟨#[c]⟩
def eStrI (ev : EV) : EI := fun e M => (ev e M).bind fun d M1 => match d with
  | .str z => .ok (.snap (signs z)) M1
  | _ => .stuck
def rangeC (lo c : Int) (n : Nat) : List D := (List.range n).map fun i => .int (lo + (i : Nat) * c)
def eRange3 (ea : EA) : EI := fun e M => (ea e M).bind fun ds M1 => match ds with
  | [.int i, .int j, .int c] => if c ≠ 0 ∧ c.natAbs < 1073741824 ∧ Builtin.Range.small i j c = true ∧ 0 ≤ Builtin.Range.rangeSize i j c then .ok (.snap (rangeC i c (Builtin.Range.rangeSize i j c).toNat)) M1 else .stuck
  | _ => .stuck
section
variable {X : Cx} {W : WX}
theorem wk_str {L : List Addr} {G : Hp} (z : Str) : WkOk X L G (Its z) (signs z) := by
  have hl : (signs z).length = z.cps.size := by simp [signs]
  refine ⟨_, _, by rw [hl]; exact walk_str (z := z), fun F' L' G' M' H' o x => trivial, ?_⟩
  rintro i d x F' L' G' M' H' H2 hd o e ⟨rfl, c, hc, rfl⟩
  unfold signs at hd
  rw [List.getElem?_map, show z.cps.toList[i]? = z.cps[i]? from by simp, hc] at hd
  cases hd
  exact ⟨G', o, Ext.refl _ _, .str _⟩
theorem pid_str {tg l : Expr} {ev : EV} (h : PD X W l ev) : PID X W tg l (eStrI ev) := by
  obtain ⟨t, p, q⟩ := h
  refine ⟨_, pi_str p, fun F e M σ L G H Rq o re h => ?_⟩
  refine q F e M σ L G H _ o re ((Aft.bind h).imp fun d M1 L1 G1 H1 o1 x1 h1 v r => ?_)
  split at h1
  · rename_i z
    cases r
    exact ⟨z, rfl, h1 L1 G1 H1 o1 (Ext.refl _ _) _ G1 H1 o1 (Ext.refl _ _) (wk_str z)⟩
  · exact h1.elim
theorem wk_rangeC {L : List Addr} {G : Hp} (lo c : Int) (n : Nat) : WkOk X L G (Itc lo c n) (rangeC lo c n) := by
  have hl : (rangeC lo c n).length = n := by simp [rangeC]
  refine ⟨_, _, by rw [hl]; exact walk_rangeC (lo := lo) (c := c) (n := n), fun F' L' G' M' H' o x => trivial, ?_⟩
  rintro i d x F' L' G' M' H' H2 hd o e ⟨rfl, rfl⟩
  unfold rangeC at hd
  rw [List.getElem?_map] at hd
  have hi : i < n := by
    cases q : (List.range n)[i]? with
    | none => rw [q] at hd; cases hd
    | some z => have := (List.getElem?_eq_some_iff.mp q).1; simpa using this
  rw [List.getElem?_range hi] at hd
  cases hd
  exact ⟨G', o, Ext.refl _ _, .int _⟩
theorem pid_range3 {tg a b c : Expr} {ea : EA} {p pos : Pos} (hm : X.mg "range" = none) (ha : PAD X W [a, b, c] ea) (hg : Gl X "range" := by rfl)
    (hs : starEach [a, b, c] X.env = (false, eval a X.env) :: starEach [b, c] X.env := by rfl) (hpl : (backTo pos (starEach [b, c] X.env)).any (·.1) = false := by rfl) : PID X W tg (.Call (.Name "range" p) [a, b, c] [] pos) (eRange3 ea) := by
  obtain ⟨t, pa, q⟩ := ha
  refine ⟨_, pi_range3 hg hm pa hs hpl, fun F e M σ L G H Rq o re h => ?_⟩
  refine q F e M σ L G H _ o re ((Aft.bind h).imp fun ds M1 L1 G1 H1 o1 x1 h1 vs r => ?_)
  split at h1
  · rename_i i j c
    split at h1
    · rename_i hz
      cases r with
      | cons r1 r2 =>
        cases r2 with
        | cons r3 r4 =>
          cases r4 with
          | cons r5 r6 =>
            cases r1; cases r3; cases r5; cases r6
            exact ⟨i, j, c, _, rfl, ⟨hz.1, hz.2.1, hz.2.2.1, by rw [Int.toNat_of_nonneg hz.2.2.2]⟩, h1 L1 G1 H1 o1 (Ext.refl _ _) _ G1 H1 o1 (Ext.refl _ _) (wk_rangeC i c _)⟩
    · exact h1.elim
  · exact h1.elim
end
/-! ### text * int -/
def repS (n : Nat) (z : Str) : Str := ⟨(List.replicate n z.cps).foldl (· ++ ·) #[]⟩
def fMulS (x y : D) (M : List MO) : R D := match x, y with
  | .str z, .int k => if 2 ≤ k ∧ k ≤ 1000 ∧ 0 < z.length ∧ z.length ≤ 1000 then .ok (.str (repS k.toNat z)) M else .stuck
  | _, _ => .stuck
def rMulS : R2 := fun x y H Q => ∃ z k, x = .str z ∧ y = .int k ∧ 2 ≤ k ∧ k ≤ 1000 ∧ 0 < z.length ∧ z.length ≤ 1000 ∧ Q (.str (repS k.toNat z)) H
theorem repS_len (z : Str) : ∀ n : Nat, (repS n z).length = n * z.length := by
  have g : ∀ (n : Nat) (acc : Array Nat), ((List.replicate n z.cps).foldl (· ++ ·) acc).size = acc.size + n * z.cps.size := by
    intro n
    induction n with
    | zero => intro acc; simp
    | succ n ih => intro acc; rw [List.replicate_succ, List.foldl_cons, ih, Array.size_append, Nat.succ_mul]; omega
  intro n
  have := g n #[]
  show ((List.replicate n z.cps).foldl (· ++ ·) #[]).size = n * z.cps.size
  rw [this]; simp
section
variable {X : Cx} {W : WX}
theorem opMulS : OpR X (binaryOp .Mult) rMulS := by
  intro pins s σ H x y v u Q I rx ry h
  obtain ⟨z, k, rfl, rfl, h1, h2, h3, h4, q⟩ := h
  obtain ⟨t, rfl⟩ := rx
  obtain ⟨t', rfl⟩ := ry
  have hlen : z.length * k.toNat ≤ 1000000 := by
    have : k.toNat ≤ 1000 := by omega
    calc z.length * k.toNat ≤ 1000 * 1000 := Nat.mul_le_mul h4 this
      _ = 1000000 := rfl
  have e1 : (k == 1 || z.length == 0) = false := by
    have : (k == 1) = false := by simp; omega
    have : (z.length == 0) = false := by simp; omega
    simp [*]
  have tl : ∀ n : Nat, n ≤ 1000000 → Builtin.Str.tooLong n = false := fun n hn => by
    unfold Builtin.Str.tooLong
    have := sizeLine_eq
    simp
    omega
  refine P.mul_str (by simp; omega) (fun _ _ => ?_) (fun _ _ => tl _ hlen) ?_
  · have h5 : (2 ^ 63 - 1 : Int) / k ≥ 1000 := by
      apply Int.le_ediv_of_mul_le (by omega)
      calc (1000 : Int) * k ≤ 1000 * 1000 := by omega
        _ ≤ 2 ^ 63 - 1 := by decide
    omega
  · rw [if_neg (by omega), if_neg (by simp [e1])]
    refine ⟨?_, .str (repS k.toNat z), H, I.tok _, ⟨_, rfl⟩, q⟩
    have e := repS_len z k.toNat
    unfold repS at e
    rw [e, Nat.mul_comm, sizeLine_eq]
    omega
theorem dMulS : OpD X W rMulS fMulS := by
  intro x y dx dy M F L G H σ Q o rx ry h
  unfold fMulS at h
  split at h
  · rename_i z k
    cases rx
    cases ry
    split at h
    · rename_i hz
      exact ⟨z, k, rfl, rfl, hz.1, hz.2.1, hz.2.2.1, hz.2.2.2, aok h o _ (.str _)⟩
    · exact h.elim
  · exact h.elim
end
end KB
namespace KB
open PySem PySem.Spec PyProof.Rows L2
/-! ### == of a list of lists that may change -/
def res2 (M : List MO) : D → D
  | .lst ds => .lst (ds.map (res M))
  | d => d
def fEqD (x y : D) (M : List MO) : R D := if shp (res2 M x) && shp (res M y) then .ok (.bl (dEqv (res2 M x) (res M y))) M else .stuck
theorem dp_resC {C : Kx} {F : Hp} {L : List Addr} {G H : Hp} {M : List MO} {v : V} {d : D} (o : Ok C F L G M H) (r : Rp C L G v d) (zc : (toP (res M d)).canLay0 = true) : Dp C.K H v (toP (res M d)) := by
  cases r with
  | @cell a n h =>
    rcases res_cell M n with e | ⟨ds, e⟩
    · rw [e] at zc; simp [toP, PyData.canLay0] at zc
    · obtain ⟨a', vs, e', h1, h2⟩ := o.viewL (Rp.cell h) e
      cases e'
      rw [e] at zc ⊢
      rw [toP] at zc ⊢
      exact .lst (.inl (.inl h1)) (dp_all o.sub ds _ h2 (by simpa [PyData.canLay0] using zc))
  | non => exact dp_of (L := L) o.sub _ _ .non zc
  | bl => exact dp_of (L := L) o.sub _ _ (.bl _) zc
  | int => exact dp_of (L := L) o.sub _ _ (.int _) zc
  | str => exact dp_of (L := L) o.sub _ _ (.str _) zc
  | tup h1 h2 => exact dp_of o.sub _ _ (.tup h1 h2) zc
  | lst h1 h2 => exact dp_of o.sub _ _ (.lst h1 h2) zc
  | scr h1 h2 => exact dp_of o.sub _ _ (.scr h1 h2) zc
  | exc h1 h2 => exact absurd (show PyData.canLay0 (toP (.exc _)) = true from zc) (by simp [toP, PyData.canLay0])
  | ptup h1 h2 h3 h4 => exact absurd (show PyData.canLay0 (toP (.ptup _)) = true from zc) (by simp [toP, PyData.canLay0])
theorem dp_resL {C : Kx} {F : Hp} {L : List Addr} {G H : Hp} {M : List MO} (o : Ok C F L G M H) : ∀ (ds : List D) (vs : List V), RpL C L G vs ds → PyData.canLayAll0 (toPs (ds.map (res M))) = true → DpAll C.K H vs (toPs (ds.map (res M)))
  | [], _, h, _ => by cases h; exact .nil
  | d :: ds, _, h, z => by
    cases h with
    | cons h1 h2 =>
      rw [List.map_cons, toPs] at z ⊢
      have z' : (toP (res M d)).canLay0 = true ∧ PyData.canLayAll0 (toPs (ds.map (res M))) = true := by simpa [PyData.canLayAll0] using z
      exact .cons (dp_resC o h1 z'.1) (dp_resL o ds _ h2 z'.2)
theorem dp_res2 {C : Kx} {F : Hp} {L : List Addr} {G H : Hp} {M : List MO} {v : V} {d : D} (o : Ok C F L G M H) (r : Rp C L G v d) (z : shp (res2 M d) = true) : Dp C.K H v (toP (res2 M d)) := by
  have zc := SeqAt.canLay_of_shaped z
  cases r with
  | lst h1 h2 =>
    rw [res2, toP] at zc ⊢
    exact .lst (.inl (.inl (o.sub _ _ h1))) (dp_resL o _ _ h2 (by simpa [PyData.canLay0] using zc))
  | @cell a n h => exact absurd (show PyData.canLay0 (toP (.cell n)) = true from zc) (by simp [toP, PyData.canLay0])
  | non => exact dp_of (L := L) o.sub _ _ .non zc
  | bl => exact dp_of (L := L) o.sub _ _ (.bl _) zc
  | int => exact dp_of (L := L) o.sub _ _ (.int _) zc
  | str => exact dp_of (L := L) o.sub _ _ (.str _) zc
  | tup h1 h2 => exact dp_of o.sub _ _ (.tup h1 h2) zc
  | scr h1 h2 => exact dp_of o.sub _ _ (.scr h1 h2) zc
  | exc h1 h2 => exact absurd (show PyData.canLay0 (toP (.exc _)) = true from zc) (by simp [toP, PyData.canLay0])
  | ptup h1 h2 h3 h4 => exact absurd (show PyData.canLay0 (toP (.ptup _)) = true from zc) (by simp [toP, PyData.canLay0])
theorem dEqDeep {X : Cx} {W : WX} : OpD X W (rEqD X.K) fEqD := by
  intro x y dx dy M F L G H σ Q o rx ry h
  unfold fEqD at h
  split at h
  · rename_i hz
    rw [Bool.and_eq_true] at hz
    exact ⟨_, _, dp_res2 o rx hz.1, dp_res o ry hz.2, hz.1, hz.2, aok h o _ (.bl _)⟩
  · exact h.elim
end KB
namespace KB
open PySem PySem.Spec PyProof.Rows L2
/-! ### [el for a, b in zip(list, list that may change)] -/
def compZ (g : GV) (t : EB) (el : EV) (e : EN) (as : List D) (n : Nat) : Nat → Nat → List D → List MO → R (List D)
  | 0, _, _, _ => .stuck
  | m + 1, i, acc, M => match M[n]? with
    | some (.lst ds) => match as[i]?, ds[i]? with
      | some a, some b => match g (.tup [a, b]) e with
        | some e1 => (t e1 M).nox fun b M1 => if b then (el e1 M1).nox fun y M2 => if acc.length < big then compZ g t el e as n m (i + 1) (acc ++ [y]) M2 else .stuck else compZ g t el e as n m (i + 1) acc M1
        | none => .stuck
      | _, _ => .ok acc M
    | _ => .stuck
def eLcZA (ea : EA) (g : GV) (vs : List Nat) (t : EB) (el : EV) : EA := fun e M => (ea e M).bind fun ds M1 => match ds with
  | [.lst a, .lst b] => compL g t el (wipeE e vs) (zipD a b) [] M1
  | [.lst a, .cell n] => compZ g t el (wipeE e vs) a n fuel 0 [] M1
  | _ => .stuck
section
variable {X : Cx} {W : WX}
theorem hoZip2 {t : TA} {ea : EA} (q : HoA X W t ea) : HoI X W (RZ.iZipA X.K t) (eZip2 ea) := by
  intro F e M σ L G H Rq o re h
  refine q F e M σ L G H _ o re ((Aft.bind h).imp fun ds M1 L1 G1 H1 o1 x1 h1 vs r => ?_)
  split at h1
  · rename_i as bs
    obtain ⟨v, w, rfl, r1, r2⟩ := two r
    cases r1 with
    | lst s1 l1 => cases r2 with
      | lst s2 l2 =>
        refine ⟨_, _, _, _, rfl, .inl ⟨.inl (.inl (o1.sub _ _ s1)), .inl (.inl (o1.sub _ _ s2)), ?_⟩⟩
        exact h1 L1 G1 H1 o1 (Ext.refl _ _) _ G1 H1 o1 (Ext.refl _ _) (wk_pair l1 l2 (walk_zip rfl) fun F' L' G' M' H' o x => ⟨.inl (.inl (o.sub _ _ (x.g _ _ s1))), .inl (.inl (o.sub _ _ (x.g _ _ s2)))⟩)
  · rename_i as bs
    obtain ⟨v, w, rfl, r1, r2⟩ := two r
    cases r1 with
    | tup s1 l1 => cases r2 with
      | tup s2 l2 =>
        refine ⟨_, _, _, _, rfl, .inr ⟨Same.seqT o1.sub s1, Same.seqT o1.sub s2, ?_⟩⟩
        exact h1 L1 G1 H1 o1 (Ext.refl _ _) _ G1 H1 o1 (Ext.refl _ _) (wk_pair l1 l2 (walk_zipT rfl) fun F' L' G' M' H' o x => ⟨Same.seqT o.sub (Same.seqT x.g s1), Same.seqT o.sub (Same.seqT x.g s2)⟩)
  · exact h1.elim
theorem hoLcZ {t : TA} {ea : EA} {is vs : List Nat} {g : GV} {et : EB} {el : EV} (q : HoA X W t ea) (hv : ∀ i ∈ is, i ∈ vs) :
    ∀ (F : Hp) (e : EN) (M : List MO) (σ : L2.St) (L : List Addr) (G H : Hp) (Q : VK), Ok (kx X) F L G M H → RpE (kx X) L G σ e →
    Aft X W F σ (kL X F Q) L G (eLcZA ea g vs et el e M) →
    tLc (RZ.iZipA X.K t) (tgOf X is g) (tbOf X W0 et) (teOf X W0 el) vs σ H Q := by
  intro F e M σ L G H Q o re h
  have old : eLcZA ea g vs et el e M = eLcA (eZip2 ea) g vs et el e M → tLc (RZ.iZipA X.K t) (tgOf X is g) (tbOf X W0 et) (teOf X W0 el) vs σ H Q := fun z => by
    rw [z] at h
    exact hoLc (hoZip2 q) hv F e M σ L G H Q o re h
  cases hr : ea e M with
  | stuck => unfold eLcZA at h; rw [hr] at h; exact h.elim
  | exc c M1 => exact old (by unfold eLcZA eLcA eZip2; rw [hr]; rfl)
  | ok ds M1 =>
    unfold eLcZA at h
    rw [hr] at h
    simp only [R.bind_ok] at h
    split at h
    · rename_i a b
      exact old (by unfold eLcZA eLcA eZip2; rw [hr]; rfl)
    · rename_i as n
      refine q F e M σ L G H _ o re ?_
      rw [hr]
      intro L1 G1 H1 o1 x1 vs' r
      obtain ⟨v, w, rfl, r1, r2⟩ := two r
      cases r1 with
      | @lst a vsA _ s1 l1 => cases r2 with
        | @cell b _ hl =>
          obtain ⟨u0, hu0, ku0⟩ := o1.here hl
          cases u0 with
          | obj c fs =>
            unfold fuel compZ at h
            rw [hu0] at h
            exact h.elim
          | lst ds0 =>
            obtain ⟨ws0, hv0, rv0⟩ := ku0
            refine ⟨a, b, vsA, ws0, rfl, .inl ⟨.inl (.inl (o1.sub _ _ s1)), .inl (.inl hv0), ?_⟩⟩
            intro Da hD
            have hFD : F Da = none := o1.freshF hD
            have o3 := o1.openF (u := .lst []) hD
            have rw2 : RpE (kx X) L1 G1 (wipe σ vs) (wipeE e vs) := (re.mono x1).wipe vs
            refine ⟨fun i m H' => ∃ acc us M' L' G', Ok (kx X) (upd F Da (.lst us)) L' G' M' H' ∧ Ext L1 G1 L' G' ∧ RpL (kx X) L' G' us acc ∧
              Aft X W F σ (kL X F Q) L' G' (compZ g et el (wipeE e vs) as n m i acc M'), ⟨fuel, [], [], M1, L1, G1, o3, Ext.refl _ _, .nil, Aft.mono h x1⟩, ?_⟩
            rintro i m H' ⟨acc, us, M', L', G', o', x', ra, h'⟩
            cases m with
            | zero => exact h'.elim
            | succ m =>
              obtain ⟨u, hu, ku⟩ := o'.here (x'.at hl)
              unfold compZ at h'
              rw [hu] at h'
              cases u with
              | obj c fs => exact h'.elim
              | lst ds =>
                obtain ⟨ws, hv', rv⟩ := ku
                dsimp only at h'
                have sA : SqL X.K H' a vsA := .inl (.inl (o'.sub _ _ (x'.g _ _ s1)))
                have sB : SqL X.K H' b ws := .inl (.inl hv')
                have lA := l1.mono x'
                cases hA : as[i]? with
                | none =>
                  rw [hA] at h'
                  refine .inl ⟨⟨vsA, ws, sA, sB, .inl ?_⟩, h' L' G' H' (o'.dropF hFD) (Ext.refl _ _) Da us H' hFD o' ra⟩
                  rw [lA.length]; exact List.getElem?_eq_none_iff.mp hA
                | some a0 =>
                  cases hB : ds[i]? with
                  | none =>
                    rw [hA, hB] at h'
                    refine .inl ⟨⟨vsA, ws, sA, sB, .inr ?_⟩, h' L' G' H' (o'.dropF hFD) (Ext.refl _ _) Da us H' hFD o' ra⟩
                    rw [rv.length]; exact List.getElem?_eq_none_iff.mp hB
                  | some b0 =>
                    rw [hA, hB] at h'
                    dsimp only at h'
                    obtain ⟨va, hva, rva⟩ := lA.get hA
                    obtain ⟨vb, hvb, rvb⟩ := rv.get hB
                    refine .inr ⟨⟨vsA, ws, va, vb, sA, sB, hva, hvb⟩, _, fun H5 n5 => ⟨m, Nat.lt_succ_self m, n5⟩, fun x H3 y => ?_⟩
                    obtain ⟨T, y1, y2, rfl, hT, rfl, k1, k2⟩ := y
                    have e1 : y1 = va := Option.some.inj ((k1 vsA sA).symm.trans hva)
                    have e2 : y2 = vb := Option.some.inj ((k2 ws sB).symm.trans hvb)
                    subst e1 e2
                    obtain ⟨o4, x4⟩ := o'.lay (u := .tup [y1, y2]) hT
                    have r3 : Rp (kx X) L' (upd G' T (.tup [y1, y2])) (.ref T) (.tup [a0, b0]) := .tup (.inl (.inl upd_same)) (.cons (rva.mono x4) (.cons (rvb.mono x4) .nil))
                    split at h'
                    · rename_i e3 he
                      refine ⟨_, _, _, e3, M', L', _, o4, (rw2.mono x').mono x4, r3, he, fun σ4 re4 u4 => ⟨wipe_upd u4 hv, ?_⟩⟩
                      refine ⟨_, e3, M', L', _, o4, re4, ?_⟩
                      refine ((Aft.nox (σ' := σ4) (Aft.mono h' x4)).reF fun _ _ _ _ => Ok.dropF hFD).imp fun b M5 L5 G5 H5 o5 x5 h6 => ?_
                      dsimp only [kB]
                      cases b with
                      | true =>
                        rw [if_pos rfl]
                        refine ⟨_, e3, M5, L5, G5, o5, re4.mono x5, ?_⟩
                        refine ((Aft.nox (σ' := σ4) h6).reF fun _ _ _ _ => Ok.dropF hFD).imp fun y M6 L6 G6 H6 o6 x6 h7 v r => ?_
                        split at h7
                        · rename_i hb
                          exact ⟨us, o6.fs Da _ upd_same, by rw [ra.length]; exact big_lt (Nat.le_of_lt hb), acc ++ [y], us ++ [v], M6, L6, G6, o6.turnF, ((x'.trans x4).trans x5).trans x6, (((ra.mono x4).mono x5).mono x6).append (.cons r .nil), h7⟩
                        · exact h7.elim
                      | false =>
                        rw [if_neg Bool.false_ne_true]
                        exact ⟨acc, us, M5, L5, G5, o5, (x'.trans x4).trans x5, (ra.mono x4).mono x5, h6⟩
                    · exact h'.elim
    · exact h.elim
theorem pd_lcZ {elt a b : Expr} {elts : List Expr} {kk : Nat} {tpos p zpos : Pos} {ifs : List Expr} {scope : Scope} {pos : Pos} {ea : EA} {is : List Nat} {g : GV} {et : EB} {el : EV} (own : List (Str × Nat)) (hc : X.calm = true) (hN : X.N.Nodup) (hm : X.mg "zip" = none) (ha : PAD X W [a, b] ea)
    (ok : BlkOk X.N X.env.scope scope own) (hv : ∀ i ∈ is, i ∈ own.map (·.2))
    (hg : ∀ (s : Shared) (H : Hp) (C : Addr) (cl : List (Str × Addr)) (fp : List Addr), PGD (X.blk s H scope (compEnvC scope cl C X.env) fp) (.Tuple elts kk tpos) is g)
    (ht : ∀ (s : Shared) (H : Hp) (C : Addr) (cl : List (Str × Addr)) (fp : List Addr), PTs (X.blk s H scope (compEnvC scope cl C X.env) fp) ifs (tbOf X W0 et))
    (he : ∀ (s : Shared) (H : Hp) (C : Addr) (cl : List (Str × Addr)) (fp : List Addr), PD (X.blk s H scope (compEnvC scope cl C X.env) fp) W0 elt el) (hgl : Gl X "zip" := by rfl)
    (hst : starEach [a, b] X.env = (false, eval a X.env) :: starEach [b] X.env := by rfl) (hpl : (backTo zpos (starEach [b] X.env)).any (·.1) = false := by rfl)
    (hs : ∀ x, foldedSetIterable (.Call (.Name "zip" p) [a, b] [] zpos) X.env x = pure x := by intro _; rfl) :
    PD X W (.ListComp elt [⟨.Tuple elts kk tpos, .Call (.Name "zip" p) [a, b] [] zpos, ifs, 0⟩] scope pos) (eArgs fLst' (eLcZA ea g (own.map (·.2)) et el)) := by
  obtain ⟨t, pa, qa⟩ := ha
  refine ⟨_, pe_lc (g := tgOf X is g) (tt := tbOf X W0 et) (te := teOf X W0 el) hc hN (RZ.pi_zipA hgl hm pa hst hpl) ok (fun s H C cl fp => (hg s H C cl fp).pg) ht (fun s H C cl fp => (he s H C cl fp).pe) hs, fun F e M σ L G H Q o re h => ?_⟩
  exact hoLcZ qa hv F e M σ L G H Q o re (kL_lst h)
end
end KB
namespace KB
open PySem PySem.Spec PyProof.Rows L2
section
variable {X : Cx} {W : WX}
/-! ### known tuples: tuple(list), and their count -/
def rTupP (K : PySem.W.Frag) : List V → Hp → VK → Prop := fun xs H Q => ∃ p ys, xs = [.ref p] ∧ SqL K H p ys ∧ ∀ (l : Addr) (ob : Obj), H l = none → ob.cls = .type "tuple" → ob.dict = none → Q (.ref l) (upd H l (.frz ob (.tup ys)))
theorem call_tupleP : CallR X (.type "tuple") (rTupP X.K) := by
  intro pins s σ H xs us Q I r h
  obtain ⟨p, ys, rfl, hq, q⟩ := h
  obtain ⟨u, rfl, rx⟩ := vals1 r
  cases rx
  obtain ⟨its, r', pl, hz⟩ := I.list hq
  have hlen := r'.length
  refine call_tuple_list pl.isList (fun h' kp => ?_) (by simp only [List.size_toArray] <;> omega)
  have I1 : Inv X pins σ H { s with heap := h' } := I.kept (t' := s.toks) kp
  have hg : (h'.push { cls := .type "tuple", data := .seq its.toArray }).get? h'.objs.size = some { cls := .type "tuple", data := .seq its.toArray } := Heap.get?_push_size _ rfl
  have I2 : Inv X pins σ (upd H h'.objs.size (.frz { cls := .type "tuple", data := .seq its.toArray } (.tup ys))) { s with heap := h'.push { cls := .type "tuple", data := .seq its.toArray } } :=
    I1.laid (t' := s.toks) (fun b o e => Heap.get?_push_of_some _ e) (Nat.le_refl _) (show ObjOk X.prog X.w _ _ _ (.frz _ (.tup ys)) from ⟨hg, hz, its, r', IsTup.new _ _⟩)
  exact ⟨.ref h'.objs.size, _, I2, rfl, q _ _ (I1.hok.fresh (Nat.le_refl _)) rfl rfl⟩
def fTupleP (ds : List D) (M : List MO) : R D := match ds with
  | [d] => match res M d with
    | .lst xs => .ok (.ptup xs) M
    | _ => .stuck
  | _ => .stuck
theorem dTupleP : CallD X W (rTupP X.K) fTupleP := by
  intro xs ds M F L G H σ Q o r h
  unfold fTupleP at h
  split at h
  · obtain ⟨v, rfl, rv⟩ := one r
    split at h
    · rename_i ys e
      obtain ⟨a, vs, rfl, s, l⟩ := o.viewL rv e
      refine ⟨a, vs, rfl, .inl (.inl s), fun p ob hp hc hd => ?_⟩
      obtain ⟨o', e'⟩ := o.lay (u := .frz ob (.tup vs)) hp
      exact h L _ _ o' e' _ (.ptup upd_same hc hd (l.mono e'))
    · exact h.elim
  · exact h.elim
theorem pd_tupleP {a : Expr} {p pos : Pos} {ea : EA} (hm : X.mg "tuple" = none) (ha : PAD X W [a] ea) (hg : Gl X "tuple" := by rfl) (hs : starEach [a] X.env = (false, eval a X.env) :: starEach [] X.env := by rfl) : PD X W (.Call (.Name "tuple" p) [a] [] pos) (eArgs fTupleP ea) :=
  pd_callTy call_tupleP dTupleP hg hm (by decide +kernel) ha (by decide) (by decide) hs rfl
/-- a known tuple, read as a tuple -/
def fWeak (x : D) (M : List MO) : R D := match x with
  | .ptup ds => .ok (.tup ds) M
  | d => .ok d M
theorem pd_weak {e : Expr} {ev : EV} (h : PD X W e ev) : PD X W e (eUn fWeak ev) := by
  obtain ⟨t, p, q⟩ := h
  refine ⟨t, p, fun F e M σ L G H Q o re h => ?_⟩
  refine q F e M σ L G H Q o re ((Aft.bind h).imp fun d M1 L1 G1 H1 o1 x1 h1 v r => ?_)
  unfold fWeak at h1
  split at h1
  · cases r with
    | ptup k1 k2 k3 k4 => exact aok h1 o1 _ (.tup (.inl (.inr ⟨_, k1⟩)) k4)
  · exact aok h1 o1 _ r
def kT (x : V) (H : Hp) : Prop := ∃ a ob vs, x = .ref a ∧ H a = some (.frz ob (.tup vs)) ∧ ob.cls = .type "tuple" ∧ ob.dict = none
theorem kT_is {pins : List (Addr × Obj)} {σ : L2.St} {H : Hp} {s : Shared} {x : V} {v : Value} (I : Inv X pins σ H s) (r : RelV x v) (k : kT x H) : s.TypeIs v "tuple" ∧ ∀ a, v = .ref a → ∃ ob, s.heap.get? a = some ob ∧ ob.dict = none := by
  obtain ⟨a, ob, vs, rfl, hH, hc, hd⟩ := k
  cases r
  obtain ⟨e, _⟩ := (show ObjOk X.prog X.w H s.heap a (.frz ob (.tup vs)) from I.hok a _ hH)
  refine ⟨⟨ob, e, hc⟩, fun b e2 => ?_⟩
  cases e2
  exact ⟨ob, e, hd⟩
def tBP (r : V → List V → Hp → VK → Prop) (to : TE) (t : TA) : TE := fun σ H Q => to σ H fun x H1 => kT x H1 ∧ t σ H1 fun xs H2 => r x xs H2 Q
theorem pe_bp {o e : Expr} {es : List Expr} {to : TE} {t : TA} {name : Str} {apos cpos : Pos} {id : String} {r : V → List V → Hp → VK → Prop} (pa : PlainAttrs "tuple") (slot : Slot "tuple" name id) (hty : typeOf (.builtin id) = pure (.type "method_descriptor")) (hm : MtR X id r) (ho : PE X o to) (ha : PA X (e :: es) t)
    (hbase : attributeBase o name X.env (eval o X.env) = eval o X.env := by rfl)
    (hfew : ((backTo cpos (starEach (e :: es) X.env)).all (fun x => !x.1) && (backToKw cpos (keywordEach [] X.env)).all (fun x => x.1.isSome)
      && decide ((e :: es).length + ([] : List Keyword).length + (if ([] : List Keyword).isEmpty then 0 else 1) < 30)) = true := by rfl)
    (hline : (apos.endLine == cpos.line) = true := by rfl) (hs : starEach (e :: es) X.env = (false, eval e X.env) :: starEach es X.env := by rfl) (hplain : (backTo cpos (starEach es X.env)).any (·.1) = false := by rfl) :
    PE X (.Call (.Attribute o name apos) (e :: es) [] cpos) (tBP r to t) := by
  refine ⟨fun pins s σ H Q I h => ?_⟩
  refine wpAny_Call_method_late hbase hfew hline rfl (thn (ho.run pins s σ H _ I h) fun v s1 ⟨x, H1, I1, r1, ty, q1⟩ => ?_)
  obtain ⟨h1, h2⟩ := kT_is I1 r1 ty
  refine ⟨"tuple", id, pa, slot, hty, h1, h2, ?_⟩
  have hA := ha.run cpos pins s1 σ H1 _ I1 q1
  rw [hs] at hA ⊢
  refine Calls.callWith_builtin (by show (false || (backTo cpos (starEach es X.env)).any (·.1)) = false; rw [hplain] <;> rfl) (Calls.evalArgs_plain ?_)
  exact thn hA fun us s2 ⟨vs, H2, I2, r2, q2⟩ => hm pins s2 σ H2 x vs v us Q I2 r1 r2 q2
def rCntP (K : PySem.W.Frag) : V → List V → Hp → VK → Prop := fun x xs H Q => ∃ (a : Addr) (ys : List V) (y : V), x = .ref a ∧ xs = [y] ∧ SqT K H a ys ∧ flatV y = true ∧ ys.all flatV = true ∧ Q (.int (ys.countP fun z => eqV z y : Nat)) H
theorem mt_countP : MtR X "tuple.count" (rCntP X.K) := by
  intro pins s σ H x xs v us Q I rx rxs h
  obtain ⟨a, ys, y, rfl, rfl, hsq, fy, fys, q⟩ := h
  cases rx
  cases rxs with
  | cons ry rt =>
    rename_i uy ut
    cases rt
    obtain ⟨its, rv, ⟨⟨cls, dd, data, sl⟩, ho, hc, n, hd⟩, hlen⟩ := I.tuple hsq
    simp only at hc hd
    subst hc hd
    refine call_meets PySem.F.slot_tuple_count ⟨_, ho, rfl⟩ PySem.F.entry_tuple_count (PySem.F.args_tuple_count_2 _ _) (SeqAt.tuple_countAt a its.toArray n dd sl uy (eqU y)) ⟨ho, fun w hw => mem_eqAt ry fy rv fys w (by simpa using hw), ?_⟩
    have ec : its.toArray.toList.countP (eqU y) = ys.countP fun z => eqV z y := by simpa using count_eq rv fys
    rw [ec]
    exact ⟨.int (ys.countP fun z => eqV z y : Nat), H, I.tok _, ⟨s.toks, rfl⟩, q⟩
def fCountP (o : D) (xs : List D) (M : List MO) : R D := match o, xs with
  | .ptup ds, [.int k] => match ints? ds with
    | some ns => .ok (.int (ns.count k : Nat)) M
    | none => .stuck
  | _, _ => .stuck
def ckP (o : D) (_ : List MO) : Bool := match o with
  | .ptup _ => true
  | _ => false
theorem int_flat (ns : List Int) : (ns.map V.int).all flatV = true := by
  rw [List.all_map, List.all_eq_true]; intro _ _; rfl
theorem int_eqV (x y : Int) : eqV (.int x) (.int y) = (x == y) := rfl
theorem dCountP : MtD X W (rCntP X.K) fCountP := by
  intro x vs dx ds M F L G H σ Q o rx r h
  unfold fCountP at h
  split at h
  · rename_i es k
    cases rx with
    | @ptup a ob ws _ k1 k2 k3 k4 =>
      split at h
      · rename_i ns hns
        have ew := ints_V k4 hns
        subst ew
        obtain ⟨v, rfl, rv⟩ := one r
        cases rv
        refine ⟨a, ns.map V.int, .int k, rfl, rfl, .inl (.inr ⟨ob, o.sub _ _ k1⟩), rfl, int_flat ns, ?_⟩
        have : ((ns.map V.int).countP fun z => eqV z (.int k)) = ns.count k := by
          rw [List.countP_map]
          simp [List.count, Function.comp_def, int_eqV]
        rw [this]
        exact aok h o _ (.int _)
      · exact h.elim
  · exact h.elim
theorem pd_countP {o a : Expr} {apos cpos : Pos} {eo : EV} {ea : EA} (ho : PD X W o eo) (ha : PAD X W [a] ea)
    (hbase : attributeBase o "count" X.env (eval o X.env) = eval o X.env := by rfl)
    (hfew : ((backTo cpos (starEach [a] X.env)).all (fun x => !x.1) && (backToKw cpos (keywordEach [] X.env)).all (fun x => x.1.isSome)
      && decide ([a].length + ([] : List Keyword).length + (if ([] : List Keyword).isEmpty then 0 else 1) < 30)) = true := by rfl)
    (hline : (apos.endLine == cpos.line) = true := by rfl) (hs : starEach [a] X.env = (false, eval a X.env) :: starEach [] X.env := by rfl) : PD X W (.Call (.Attribute o "count" apos) [a] [] cpos) (eMeth ckP fCountP eo ea) := by
  obtain ⟨to, po, qo⟩ := ho
  obtain ⟨ta, pa', qa⟩ := ha
  refine ⟨_, pe_bp PySem.F.plainAttrs_tuple PySem.F.slot_tuple_count PySem.F.type_tuple_count mt_countP po pa' hbase hfew hline hs rfl, fun F e M σ L G H Q o re h => ?_⟩
  refine qo F e M σ L G H _ o re ((Aft.bind h).imp fun d M1 L1 G1 H1 o1 x1 h1 v r => ?_)
  split at h1
  · rename_i hc
    refine ⟨?_, ?_⟩
    · unfold ckP at hc
      split at hc
      · cases r with
        | ptup k1 k2 k3 k4 => exact ⟨_, _, _, rfl, o1.sub _ _ k1, k2, k3⟩
      · cases hc
    · refine qa F e M1 σ L1 G1 H1 _ o1 (re.mono x1) ((Aft.bind h1).imp fun ds M2 L2 G2 H2 o2 x2 h2 vs rs => ?_)
      exact dCountP v vs d ds M2 F L2 G2 H2 σ Q o2 (r.mono x2) rs h2
  · exact h1.elim
end
end KB
namespace KB
open PySem PySem.Spec PyProof.Rows L2
def tab_SIZES : List (Str × Int) := [("fixed1", 1), ("fixed2", 2), ("fixed3", 3), ("fixed4", 4), ("little1", 1), ("little2", 2), ("little3", 3), ("little4", 4)]
def tab_LENGTHS : List (Str × Int) := [("raw", 40), ("closed", 40), ("counted", 9)]
def tab_MARKS : List (Str × Int) := [("first", 0), ("last", 2)]
def sv__law_start : SV := (sRet (eArgs fCell (eCons (eIf (eTest (eBin fNe (eVar 0) (eArgs fLst eNil))) (eArgs fListC (eCons (eVar 0) eNil)) (eArgs fCell (eCons (eC (.int 0)) eNil))) (eCons (eC (.int 0)) eNil))))
def m__law_start : List D → List MO → R D := mOf 1 1 sv__law_start
def sv__law_draw : SV := (sSeq (sSet 2 (eBin fIx (eVar 0) (eC (.int 0))))
    (sSeq (sSub (eVar 0) (eC (.int 1)) (eBin fAdd (eBin fIx (eVar 0) (eC (.int 1))) (eC (.int 1))))
    (sSeq (sSet 3 (eBin fMod (eBin fIx (eVar 0) (eC (.int 1))) (eArgs fLen (eCons (eVar 2) eNil))))
    (sSeq (sSet 4 (eBin fIx (eVar 2) (eVar 3)))
    (sSeq (sIf (eTest (eBin fGe (eVar 4) (eC (.int 1000000000000000000)))) (sSeq (sSub (eVar 2) (eVar 3) (eBin fFdiv (eVar 4) (eVar 1)))
    (sRet (eBin fMod (eVar 4) (eVar 1)))) sNil)
    (sSeq (sSet 5 (eBin fMod (eBin fAdd (eVar 4) (eBin fMul (eC (.int 104729)) (eBin fIx (eVar 0) (eC (.int 1))))) (eC (.int 4294967291))))
    (sSeq (sSet 5 (eBin fMod (eBin fPow (eVar 5) (eC (.int 5))) (eC (.int 4294967279))))
    (sRet (eBin fMod (eBin fFdiv (eBin fMod (eBin fAdd (eBin fMul (eBin fFdiv (eVar 5) (eC (.int 64))) (eC (.int 69621))) (eVar 5)) (eC (.int 4294967231))) (eC (.int 8))) (eVar 1))))))))))
def m__law_draw : List D → List MO → R D := mOf 2 6 sv__law_draw
def sv__law_pick : SV := (sRet (eBin fIx (eVar 1) (eArgs m__law_draw (eCons (eVar 0) (eCons (eArgs fLen (eCons (eVar 1) eNil)) eNil)))))
def m__law_pick : List D → List MO → R D := mOf 2 2 sv__law_pick
def sv__law_kind : SV := (sRet (eArgs m__law_pick (eCons (eVar 0) (eCons (eArgs fLst (eCons (eC (.str "int")) (eCons (eC (.str "fixed")) (eCons (eC (.str "fixed")) (eCons (eC (.str "little")) (eCons (eC (.str "raw")) (eCons (eC (.str "closed")) (eCons (eC (.str "closed")) (eCons (eC (.str "counted")) eNil))))))))) eNil))))
def m__law_kind : List D → List MO → R D := mOf 1 1 sv__law_kind
def sv__law_field : SV := (sSeq (sSet 1 (eArgs m__law_kind (eCons (eVar 0) eNil)))
    (sSeq (sIf (eTest (eBin fIn (eVar 1) (eArgs fTup (eCons (eC (.str "fixed")) (eCons (eC (.str "little")) eNil))))) (sSet 1 (eBin fAdd (eVar 1) (eArgs fStrI (eCons (eBin fAdd (eC (.int 1)) (eArgs m__law_draw (eCons (eVar 0) (eCons (eC (.int 4)) eNil)))) eNil)))) sNil)
    (sRet (eArgs fTup (eCons (eVar 1) (eCons (eArgs m__law_pick (eCons (eVar 0) (eCons (eArgs fLst (eCons (eC (.str "asc")) (eCons (eC (.str "desc")) eNil))) eNil))) (eCons (eArgs m__law_pick (eCons (eVar 0) (eCons (eArgs fLst (eCons (eC (.str "none")) (eCons (eC (.str "none")) (eCons (eC (.str "first")) (eCons (eC (.str "last")) eNil))))) eNil))) eNil)))))))
def m__law_field : List D → List MO → R D := mOf 1 2 sv__law_field
def sv__law_scheme : SV := (sRet (eArgs fTuple (eCons (eArgs fLst' (eLcA (eRange1 (eCons (eBin fAdd (eC (.int 1)) (eArgs m__law_draw (eCons (eVar 0) (eCons (eC (.int 4)) eNil)))) eNil)) (gN 1) [1] eYes (eArgs m__law_field (eCons (eVar 0) eNil)))) eNil)))
def m__law_scheme : List D → List MO → R D := mOf 1 2 sv__law_scheme
def sv__law_power : SV := (sSeq (sSet 1 (eC (.int 1)))
    (sSeq (sFor (eRange1 (eCons (eVar 0) eNil)) (gN 2) (sSet 1 (eBin fMul (eVar 1) (eC (.int 256)))))
    (sRet (eVar 1))))
def m__law_power : List D → List MO → R D := mOf 1 3 sv__law_power
def sv__law_most : SV := (sRet (eBin fSub (eArgs m__law_power (eCons (eArgs fIntS (eCons (eBin fIx (eVar 0) (eUn fNeg (eC (.int 1)))) eNil)) eNil)) (eC (.int 1))))
def m__law_most : List D → List MO → R D := mOf 1 1 sv__law_most
def sv__law_text : SV := (sSeq (sSet 2 (eArgs fLst (eCons (eC (.int 0)) (eCons (eC (.int 0)) (eCons (eC (.int 0)) (eCons (eC (.int 1)) (eCons (eC (.int 2)) (eCons (eC (.int 97)) (eCons (eC (.int 98)) (eCons (eC (.int 253)) (eCons (eC (.int 254)) (eCons (eC (.int 255)) (eCons (eC (.int 255)) (eCons (eArgs m__law_draw (eCons (eVar 0) (eCons (eC (.int 256)) eNil))) eNil))))))))))))))
    (sRet (eArgs fTuple (eCons (eArgs fLst' (eLcA (eRange1 (eCons (eArgs m__law_draw (eCons (eVar 0) (eCons (eBin fAdd (eVar 1) (eC (.int 1))) eNil))) eNil)) (gN 3) [3] eYes (eArgs m__law_pick (eCons (eVar 0) (eCons (eVar 2) eNil))))) eNil))))
def m__law_text : List D → List MO → R D := mOf 2 4 sv__law_text
def sv__law_value_1 : SV := (sAsg (gT [2, 3, 4]) (eVar 1))
def sv__law_value_2b1 : SV := (sRet (eC .non))
def sv__law_value_2 : SV := (sIf (eAnd (eTest (eBin fNe (eVar 4) (eC (.str "none")))) (eTest (eBin fEq (eArgs m__law_draw (eCons (eVar 0) (eCons (eC (.int 4)) eNil))) (eC (.int 0))))) sv__law_value_2b1 sNil)
def sv__law_value_3b1 : SV := (sSet 5 (eArgs m__law_draw (eCons (eVar 0) (eCons (eC (.int 9)) eNil))))
def sv__law_value_3b2 : SV := (sSet 6 (eArgs m__law_pick (eCons (eVar 0) (eCons (eArgs fLst (eCons (eBin fSub (eArgs m__law_power (eCons (eVar 5) eNil)) (eC (.int 1))) (eCons (eArgs m__law_power (eCons (eArgs fMax (eCons (eBin fSub (eVar 5) (eC (.int 1))) (eCons (eC (.int 0)) eNil))) eNil)) (eCons (eArgs m__law_draw (eCons (eVar 0) (eCons (eArgs m__law_power (eCons (eVar 5) eNil)) eNil))) eNil)))) eNil))))
def sv__law_value_3b3 : SV := (sRet (eArgs m__law_pick (eCons (eVar 0) (eCons (eArgs fLst (eCons (eVar 6) (eCons (eBin fSub (eC (.int 0)) (eVar 6)) eNil))) eNil))))
def sv__law_value_3 : SV := (sIf (eTest (eBin fEq (eVar 2) (eC (.str "int")))) (sSeq sv__law_value_3b1
    (sSeq sv__law_value_3b2
    sv__law_value_3b3)) sNil)
def sv__law_value_4b1 : SV := (sRet (eArgs m__law_pick (eCons (eVar 0) (eCons (eArgs fLst (eCons (eC (.int 0)) (eCons (eC (.int 1)) (eCons (eArgs m__law_most (eCons (eVar 2) eNil)) (eCons (eArgs m__law_draw (eCons (eVar 0) (eCons (eBin fAdd (eArgs m__law_most (eCons (eVar 2) eNil)) (eC (.int 1))) eNil))) eNil))))) eNil))))
def sv__law_value_4 : SV := (sIf (eOr (eTest (eBin fEq (eSl (eVar 2) eNoE (eSomeE (eC (.int 5)))) (eC (.str "fixed")))) (eTest (eBin fEq (eSl (eVar 2) eNoE (eSomeE (eC (.int 6)))) (eC (.str "little"))))) sv__law_value_4b1 sNil)
def sv__law_value_5 : SV := (sRet (eArgs m__law_text (eCons (eVar 0) (eCons (eArgs m__law_pick (eCons (eVar 0) (eCons (eArgs fLst (eCons (eC (.int 1)) (eCons (eC (.int 3)) (eCons (eC (.int 9)) eNil)))) eNil))) eNil))))
def sv__law_value : SV := (sSeq sv__law_value_1
    (sSeq sv__law_value_2
    (sSeq sv__law_value_3
    (sSeq sv__law_value_4
    sv__law_value_5))))
def m__law_value : List D → List MO → R D := mOf 2 7 sv__law_value
def sv__law_row : SV := (sRet (eArgs fTuple (eCons (eArgs fLst' (eLcA (eSeq (eVar 1)) (gN 2) [2] eYes (eArgs m__law_value (eCons (eVar 0) (eCons (eVar 2) eNil))))) eNil)))
def m__law_row : List D → List MO → R D := mOf 2 3 sv__law_row
def sv_is_field : SV := (sSeq (sIf (eOr (eNot (eTest (eUn (fIsi "tuple") (eVar 0)))) (eOr (eTest (eBin fNe (eArgs fLen (eCons (eVar 0) eNil)) (eC (.int 3)))) (eNot (eTest (eArgs fAll (eCons (eArgs fLst' (eLcA (eSeq (eVar 0)) (gN 4) [4] eYes (eUn (fIsi "str") (eVar 4)))) eNil)))))) (sRet (eC (.bl false))) sNil)
    (sSeq (sAsg (gT [1, 2, 3]) (eVar 0))
    (sSeq (sIf (eAnd (eTest (eBin fNe (eVar 1) (eC (.str "int")))) (eAnd (eTest (eUn (fInNotTab tab_SIZES) (eVar 1))) (eTest (eUn (fInNotTab tab_LENGTHS) (eVar 1))))) (sRet (eC (.bl false))) sNil)
    (sRet (eAndV (eBin fIn (eVar 2) (eArgs fTup (eCons (eC (.str "asc")) (eCons (eC (.str "desc")) eNil)))) (eBin fIn (eVar 3) (eArgs fTup (eCons (eC (.str "none")) (eCons (eC (.str "first")) (eCons (eC (.str "last")) eNil))))))))))
def m_is_field : List D → List MO → R D := mOf 1 5 sv_is_field
def sv_is_scheme : SV := (sSeq (sIf (eOr (eNot (eTest (eUn (fIsi "tuple") (eVar 0)))) (eNot (eTest (eChain fLe fLe (eC (.int 1)) (eArgs fLen (eCons (eVar 0) eNil)) (eC (.int 4)))))) (sRet (eC (.bl false))) sNil)
    (sRet (eArgs fAll (eCons (eArgs fLst' (eLcA (eSeq (eVar 0)) (gN 1) [1] eYes (eArgs m_is_field (eCons (eVar 1) eNil)))) eNil))))
def m_is_scheme : List D → List MO → R D := mOf 1 2 sv_is_scheme
def sv_is_int : SV := (sRet (eAndV (eUn (fIsi "int") (eVar 0)) (eAndV (eUn fNot (eUn (fIsi "bool") (eVar 0))) (eChain fLe fLe (eVar 1) (eVar 0) (eVar 2)))))
def m_is_int : List D → List MO → R D := mOf 3 3 sv_is_int
def sv_power : SV := (sSeq (sSet 1 (eC (.int 1)))
    (sSeq (sFor (eRange1 (eCons (eVar 0) eNil)) (gN 2) (sAug 1 fIMul (eC (.int 256))))
    (sRet (eVar 1))))
def m_power : List D → List MO → R D := mOf 1 3 sv_power
def sv_is_bytes : SV := (sSeq (sIf (eOr (eNot (eTest (eUn (fIsi "tuple") (eVar 0)))) (eTest (eBin fGt (eArgs fLen (eCons (eVar 0) eNil)) (eC (.int 400))))) (sRet (eC (.bl false))) sNil)
    (sRet (eArgs fAll (eCons (eArgs fLst' (eLcA (eSeq (eVar 0)) (gN 1) [1] eYes (eArgs m_is_int (eCons (eVar 1) (eCons (eC (.int 0)) (eCons (eC (.int 255)) eNil)))))) eNil))))
def m_is_bytes : List D → List MO → R D := mOf 1 2 sv_is_bytes
def sv_is_value : SV := (sSeq (sAsg (gT [2, 3, 4]) (eVar 0))
    (sSeq (sIf (eTest (eBin fIs (eVar 1) (eC .non))) (sRet (eBin fNe (eVar 4) (eC (.str "none")))) sNil)
    (sSeq (sIf (eTest (eBin fEq (eVar 2) (eC (.str "int")))) (sRet (eArgs m_is_int (eCons (eVar 1) (eCons (eUn fNeg (eC (.int 18446744073709551615))) (eCons (eC (.int 18446744073709551615)) eNil))))) sNil)
    (sSeq (sIf (eTest (eUn (fInTab tab_SIZES) (eVar 2))) (sRet (eArgs m_is_int (eCons (eVar 1) (eCons (eC (.int 0)) (eCons (eBin fSub (eArgs m_power (eCons (eUn (fTab tab_SIZES) (eVar 2)) eNil)) (eC (.int 1))) eNil))))) sNil)
    (sRet (eAndV (eArgs m_is_bytes (eCons (eVar 1) eNil)) (eBin fLe (eArgs fLen (eCons (eVar 1) eNil)) (eUn (fTab tab_LENGTHS) (eVar 2)))))))))
def m_is_value : List D → List MO → R D := mOf 2 5 sv_is_value
def sv_is_row : SV := (sSeq (sIf (eOr (eNot (eTest (eUn (fIsi "tuple") (eVar 1)))) (eTest (eBin fNe (eArgs fLen (eCons (eVar 1) eNil)) (eArgs fLen (eCons (eVar 0) eNil))))) (sRet (eC (.bl false))) sNil)
    (sRet (eArgs fAll (eCons (eArgs fLst' (eLcA (eZip2 (eCons (eVar 0) (eCons (eVar 1) eNil))) (gT [2, 3]) [2, 3] eYes (eArgs m_is_value (eCons (eVar 2) (eCons (eVar 3) eNil))))) eNil))))
def m_is_row : List D → List MO → R D := mOf 2 4 sv_is_row
def sv_check_scheme : SV := (sIf (eNot (eTest (eArgs m_is_scheme (eCons (eVar 0) eNil)))) (sRaise "BadScheme") sNil)
def m_check_scheme : List D → List MO → R D := mOf 1 1 sv_check_scheme
def sv_check_row : SV := (sIf (eNot (eTest (eArgs m_is_row (eCons (eVar 0) (eCons (eVar 1) eNil))))) (sRaise "BadRow") sNil)
def m_check_row : List D → List MO → R D := mOf 2 2 sv_check_row
def sv_digits_of : SV := (sSeq (sSet 2 (eArgs fCell eNil))
    (sSeq (sFor (eRange1 (eCons (eVar 1) eNil)) (gN 3) (sSeq (sExpr (eMeth ckL fAppend (eVar 2) (eCons (eBin fMod (eVar 0) (eC (.int 256))) eNil)))
    (sAug 0 fIFdiv (eC (.int 256)))))
    (sRet (eArgs fTuple (eCons (eUn fRev (eVar 2)) eNil)))))
def m_digits_of : List D → List MO → R D := mOf 2 4 sv_digits_of
def sv_flipped : SV := (sRet (eArgs fTuple (eCons (eArgs fLst' (eLcA (eSeq (eVar 0)) (gN 1) [1] eYes (eBin fSub (eC (.int 255)) (eVar 1)))) eNil)))
def m_flipped : List D → List MO → R D := mOf 1 2 sv_flipped
def sv_encode_int : SV := (sSeq (sSet 1 (eC (.int 0)))
    (sSeq (sWhile (eTest (eBin fLe (eArgs m_power (eCons (eVar 1) eNil)) (eArgs fAbs (eCons (eVar 0) eNil)))) (sAug 1 fIAdd (eC (.int 1))))
    (sSeq (sSet 2 (eArgs m_digits_of (eCons (eArgs fAbs (eCons (eVar 0) eNil)) (eCons (eVar 1) eNil))))
    (sRet (eIf (eTest (eBin fGe (eVar 0) (eC (.int 0)))) (eBin fAdd (eArgs fTup (eCons (eBin fAdd (eC (.int 128)) (eVar 1)) eNil)) (eVar 2)) (eBin fAdd (eArgs fTup (eCons (eBin fSub (eC (.int 128)) (eVar 1)) eNil)) (eArgs m_flipped (eCons (eVar 2) eNil))))))))
def m_encode_int : List D → List MO → R D := mOf 1 3 sv_encode_int
def sv_plain : SV := (sSeq (sIf (eTest (eBin fEq (eVar 0) (eC (.str "int")))) (sRet (eArgs m_encode_int (eCons (eVar 1) eNil))) sNil)
    (sSeq (sIf (eTest (eUn (fInTab tab_SIZES) (eVar 0))) (sSeq (sSet 4 (eArgs m_digits_of (eCons (eVar 1) (eCons (eUn (fTab tab_SIZES) (eVar 0)) eNil))))
    (sRet (eIf (eTest (eMeth ckS fStarts (eVar 0) (eCons (eC (.str "fixed")) eNil))) (eVar 4) (eUn fRev (eVar 4))))) sNil)
    (sSeq (sIf (eTest (eBin fEq (eVar 0) (eC (.str "raw")))) (sRet (eVar 1)) sNil)
    (sSeq (sIf (eTest (eBin fEq (eVar 0) (eC (.str "counted")))) (sRet (eBin fAdd (eArgs fTup (eCons (eArgs fLen (eCons (eVar 1) eNil)) eNil)) (eVar 1))) sNil)
    (sSeq (sSet 2 (eArgs fTup eNil))
    (sSeq (sFor (eSeq (eVar 1)) (gN 3) (sAug 2 fIAdd (eIf (eTest (eBin fEq (eVar 3) (eC (.int 0)))) (eArgs fTup (eCons (eC (.int 0)) (eCons (eC (.int 255)) eNil))) (eArgs fTup (eCons (eVar 3) eNil)))))
    (sRet (eBin fAdd (eVar 2) (eArgs fTup (eCons (eC (.int 0)) (eCons (eC (.int 1)) eNil)))))))))))
def m_plain : List D → List MO → R D := mOf 2 5 sv_plain
def sv_encode_value : SV := (sSeq (sAsg (gT [3, 4, 5]) (eVar 0))
    (sSeq (sIf (eTest (eBin fIs (eVar 1) (eC .non))) (sRet (eArgs fTup (eCons (eUn (fTab tab_MARKS) (eVar 5)) eNil))) sNil)
    (sSeq (sSet 2 (eArgs m_plain (eCons (eVar 3) (eCons (eVar 1) eNil))))
    (sSeq (sIf (eTest (eBin fEq (eVar 4) (eC (.str "desc")))) (sSet 2 (eArgs m_flipped (eCons (eVar 2) eNil))) sNil)
    (sRet (eIf (eTest (eBin fEq (eVar 5) (eC (.str "none")))) (eVar 2) (eBin fAdd (eArgs fTup (eCons (eC (.int 1)) eNil)) (eVar 2))))))))
def m_encode_value : List D → List MO → R D := mOf 2 6 sv_encode_value
def sv_joined : SV := (sSeq (sSet 2 (eArgs fTup eNil))
    (sSeq (sFor (eZip2 (eCons (eVar 0) (eCons (eVar 1) eNil))) (gT [3, 4]) (sAug 2 fIAdd (eArgs m_encode_value (eCons (eVar 3) (eCons (eVar 4) eNil)))))
    (sRet (eVar 2))))
def m_joined : List D → List MO → R D := mOf 2 5 sv_joined
def sv_encode : SV := (sSeq (sExpr (eArgs m_check_scheme (eCons (eVar 0) eNil)))
    (sSeq (sExpr (eArgs m_check_row (eCons (eVar 0) (eCons (eVar 1) eNil))))
    (sRet (eArgs m_joined (eCons (eVar 0) (eCons (eVar 1) eNil))))))
def m_encode : List D → List MO → R D := mOf 2 2 sv_encode
def sv__law_plain : SV := (sSeq (sIf (eTest (eBin fEq (eVar 0) (eC (.str "int")))) (sSeq (sSet 4 (eArgs fAbs (eCons (eVar 1) eNil)))
    (sSeq (sSet 2 (eArgs fLst eNil))
    (sSeq (sWhile (eTest (eBin fGt (eVar 4) (eC (.int 0)))) (sSeq (sSet 2 (eBin fAdd (eArgs fLst (eCons (eBin fMod (eVar 4) (eC (.int 256))) eNil)) (eVar 2)))
    (sSet 4 (eBin fFdiv (eVar 4) (eC (.int 256))))))
    (sSeq (sIf (eTest (eBin fLt (eVar 1) (eC (.int 0)))) (sRet (eBin fAdd (eArgs fLst (eCons (eBin fSub (eC (.int 128)) (eArgs fLen (eCons (eVar 2) eNil))) eNil)) (eArgs fLst' (eLcA (eSeq (eVar 2)) (gN 3) [3] eYes (eBin fSub (eC (.int 255)) (eVar 3)))))) sNil)
    (sRet (eBin fAdd (eArgs fLst (eCons (eBin fAdd (eC (.int 128)) (eArgs fLen (eCons (eVar 2) eNil))) eNil)) (eVar 2))))))) sNil)
    (sSeq (sIf (eOr (eTest (eBin fEq (eSl (eVar 0) eNoE (eSomeE (eC (.int 5)))) (eC (.str "fixed")))) (eTest (eBin fEq (eSl (eVar 0) eNoE (eSomeE (eC (.int 6)))) (eC (.str "little"))))) (sSeq (sSet 2 (eArgs fLst' (eLcA (eRange1 (eCons (eArgs fIntS (eCons (eBin fIx (eVar 0) (eUn fNeg (eC (.int 1)))) eNil)) eNil)) (gN 5) [5] eYes (eBin fMod (eBin fFdiv (eVar 1) (eArgs m__law_power (eCons (eVar 5) eNil))) (eC (.int 256))))))
    (sRet (eIf (eTest (eBin fEq (eSl (eVar 0) eNoE (eSomeE (eC (.int 5)))) (eC (.str "fixed")))) (eUn fRev (eVar 2)) (eVar 2)))) sNil)
    (sSeq (sIf (eTest (eBin fEq (eVar 0) (eC (.str "raw")))) (sRet (eArgs fList (eCons (eVar 1) eNil))) sNil)
    (sSeq (sIf (eTest (eBin fEq (eVar 0) (eC (.str "counted")))) (sRet (eBin fAdd (eArgs fLst (eCons (eArgs fLen (eCons (eVar 1) eNil)) eNil)) (eArgs fList (eCons (eVar 1) eNil)))) sNil)
    (sSeq (sSet 2 (eArgs fLst eNil))
    (sSeq (sFor (eSeq (eVar 1)) (gN 3) (sSet 2 (eBin fAdd (eVar 2) (eIf (eTest (eBin fEq (eVar 3) (eC (.int 0)))) (eArgs fLst (eCons (eC (.int 0)) (eCons (eC (.int 255)) eNil))) (eArgs fLst (eCons (eVar 3) eNil))))))
    (sRet (eBin fAdd (eVar 2) (eArgs fLst (eCons (eC (.int 0)) (eCons (eC (.int 1)) eNil)))))))))))
def m__law_plain : List D → List MO → R D := mOf 2 6 sv__law_plain
def sv__law_bytes : SV := (sSeq (sSet 2 (eArgs fLst eNil))
    (sSeq (sFor (eRange1 (eCons (eArgs fLen (eCons (eVar 0) eNil)) eNil)) (gN 3) (sSeq (sAsg (gT [4, 5, 6]) (eBin fIx (eVar 0) (eVar 3)))
    (sIf (eTest (eBin fIs (eBin fIx (eVar 1) (eVar 3)) (eC .non))) (sSet 2 (eBin fAdd (eVar 2) (eArgs fLst (eCons (eIf (eTest (eBin fEq (eVar 6) (eC (.str "first")))) (eC (.int 0)) (eC (.int 2))) eNil)))) (sSeq (sSet 7 (eArgs m__law_plain (eCons (eVar 4) (eCons (eBin fIx (eVar 1) (eVar 3)) eNil))))
    (sSet 2 (eBin fAdd (eBin fAdd (eVar 2) (eIf (eTest (eBin fEq (eVar 6) (eC (.str "none")))) (eArgs fLst eNil) (eArgs fLst (eCons (eC (.int 1)) eNil)))) (eIf (eTest (eBin fEq (eVar 5) (eC (.str "desc")))) (eArgs fLst' (eLcA (eSeq (eVar 7)) (gN 8) [8] eYes (eBin fSub (eC (.int 255)) (eVar 8)))) (eVar 7))))))))
    (sRet (eArgs fTuple (eCons (eVar 2) eNil)))))
def m__law_bytes : List D → List MO → R D := mOf 2 9 sv__law_bytes
def sv_law_k01_1 : SV := (sSet 1 (eArgs m__law_start (eCons (eVar 0) eNil)))
def sv_law_k01_2 : SV := (sSet 2 (eArgs m__law_scheme (eCons (eVar 1) eNil)))
def sv_law_k01_3 : SV := (sSet 3 (eArgs m__law_row (eCons (eVar 1) (eCons (eVar 2) eNil))))
def sv_law_k01_4b1 : SV := (sRet (eC (.bl false)))
def sv_law_k01_4 : SV := (sIf (eOr (eTest (eBin fIsNot (eArgs m_is_scheme (eCons (eVar 2) eNil)) (eC (.bl true)))) (eTest (eBin fIsNot (eArgs m_is_row (eCons (eVar 2) (eCons (eVar 3) eNil))) (eC (.bl true))))) sv_law_k01_4b1 sNil)
def sv_law_k01_5 : SV := (sSet 4 (eArgs m_encode (eCons (eVar 2) (eCons (eVar 3) eNil))))
def sv_law_k01_6b1 : SV := (sRet (eC (.bl false)))
def sv_law_k01_6 : SV := (sIf (eOr (eTest (eBin fNe (eVar 4) (eArgs m__law_bytes (eCons (eVar 2) (eCons (eVar 3) eNil))))) (eTest (eBin fIsNot (eArgs m_is_bytes (eCons (eVar 4) eNil)) (eC (.bl true))))) sv_law_k01_6b1 sNil)
def sv_law_k01_7 : SV := (sSet 5 (eArgs fTup eNil))
def sv_law_k01_8b1b1 : SV := (sRet (eC (.bl false)))
def sv_law_k01_8b1 : SV := (sIf (eOr (eTest (eBin fIsNot (eArgs m_is_field (eCons (eBin fIx (eVar 2) (eVar 6)) eNil)) (eC (.bl true)))) (eTest (eBin fIsNot (eArgs m_is_value (eCons (eBin fIx (eVar 2) (eVar 6)) (eCons (eBin fIx (eVar 3) (eVar 6)) eNil))) (eC (.bl true))))) sv_law_k01_8b1b1 sNil)
def sv_law_k01_8b2 : SV := (sSet 10 (eArgs m_encode_value (eCons (eBin fIx (eVar 2) (eVar 6)) (eCons (eBin fIx (eVar 3) (eVar 6)) eNil))))
def sv_law_k01_8b3b1 : SV := (sRet (eC (.bl false)))
def sv_law_k01_8b3 : SV := (sIf (eOr (eTest (eBin fNe (eVar 10) (eArgs m__law_bytes (eCons (eArgs fTup (eCons (eBin fIx (eVar 2) (eVar 6)) eNil)) (eCons (eArgs fTup (eCons (eBin fIx (eVar 3) (eVar 6)) eNil)) eNil))))) (eTest (eBin fNe (eVar 10) (eArgs m_encode (eCons (eArgs fTup (eCons (eBin fIx (eVar 2) (eVar 6)) eNil)) (eCons (eArgs fTup (eCons (eBin fIx (eVar 3) (eVar 6)) eNil)) eNil)))))) sv_law_k01_8b3b1 sNil)
def sv_law_k01_8b4 : SV := (sSet 5 (eBin fAdd (eVar 5) (eVar 10)))
def sv_law_k01_8 : SV := (sFor (eRange1 (eCons (eArgs fLen (eCons (eVar 2) eNil)) eNil)) (gN 6) (sSeq sv_law_k01_8b1
    (sSeq sv_law_k01_8b2
    (sSeq sv_law_k01_8b3
    sv_law_k01_8b4))))
def sv_law_k01_9 : SV := (sSet 7 (eArgs m__law_value (eCons (eVar 1) (eCons (eArgs fTup (eCons (eC (.str "int")) (eCons (eC (.str "asc")) (eCons (eC (.str "none")) eNil)))) eNil))))
def sv_law_k01_10 : SV := (sSet 8 (eArgs m_encode_value (eCons (eArgs fTup (eCons (eC (.str "int")) (eCons (eC (.str "asc")) (eCons (eC (.str "none")) eNil)))) (eCons (eVar 7) eNil))))
def sv_law_k01_11b1 : SV := (sRet (eC (.bl false)))
def sv_law_k01_11 : SV := (sIf (eOr (eTest (eBin fNe (eArgs fAbs (eCons (eBin fSub (eBin fIx (eVar 8) (eC (.int 0))) (eC (.int 128))) eNil)) (eBin fSub (eArgs fLen (eCons (eVar 8) eNil)) (eC (.int 1))))) (eTest (eBin fNe (eBin fLt (eVar 7) (eC (.int 0))) (eBin fLt (eBin fIx (eVar 8) (eC (.int 0))) (eC (.int 128)))))) sv_law_k01_11b1 sNil)
def sv_law_k01_12 : SV := (sSet 9 (eArgs m_encode_value (eCons (eArgs fTup (eCons (eC (.str "int")) (eCons (eC (.str "desc")) (eCons (eC (.str "none")) eNil)))) (eCons (eVar 7) eNil))))
def sv_law_k01_13 : SV := (sRet (eAndV (eBin fEq (eVar 5) (eVar 4)) (eBin fEq (eVar 9) (eArgs fTuple (eCons (eArgs fLst' (eLcA (eSeq (eVar 8)) (gN 11) [11] eYes (eBin fSub (eC (.int 255)) (eVar 11)))) eNil)))))
def sv_law_k01 : SV := (sSeq sv_law_k01_1
    (sSeq sv_law_k01_2
    (sSeq sv_law_k01_3
    (sSeq sv_law_k01_4
    (sSeq sv_law_k01_5
    (sSeq sv_law_k01_6
    (sSeq sv_law_k01_7
    (sSeq sv_law_k01_8
    (sSeq sv_law_k01_9
    (sSeq sv_law_k01_10
    (sSeq sv_law_k01_11
    (sSeq sv_law_k01_12
    sv_law_k01_13))))))))))))
def m_law_k01 : List D → List MO → R D := mOf 1 12 sv_law_k01
def sv__law_other : SV := (sRet (eArgs fTuple (eCons (eArgs fLst' (eLcA (eRange1 (eCons (eArgs fLen (eCons (eVar 1) eNil)) eNil)) (gN 3) [3] eYes (eIf (eTest (eBin fEq (eArgs m__law_draw (eCons (eVar 0) (eCons (eC (.int 2)) eNil))) (eC (.int 0)))) (eBin fIx (eVar 2) (eVar 3)) (eArgs m__law_value (eCons (eVar 0) (eCons (eBin fIx (eVar 1) (eVar 3)) eNil)))))) eNil)))
def m__law_other : List D → List MO → R D := mOf 3 4 sv__law_other
def sv__law_sign : SV := (sSeq (sIf (eTest (eBin fEq (eVar 1) (eVar 2))) (sRet (eC (.int 0))) sNil)
    (sSeq (sIf (eOr (eTest (eBin fIs (eVar 1) (eC .non))) (eTest (eBin fIs (eVar 2) (eC .non)))) (sRet (eIf (eTest (eBin fEq (eBin fIs (eVar 1) (eC .non)) (eBin fEq (eBin fIx (eVar 0) (eC (.int 2))) (eC (.str "first"))))) (eBin fSub (eC (.int 0)) (eC (.int 1))) (eC (.int 1)))) sNil)
    (sRet (eIf (eTest (eBin fEq (eBin fLt (eVar 1) (eVar 2)) (eBin fEq (eBin fIx (eVar 0) (eC (.int 1))) (eC (.str "asc"))))) (eBin fSub (eC (.int 0)) (eC (.int 1))) (eC (.int 1))))))
def m__law_sign : List D → List MO → R D := mOf 3 3 sv__law_sign
def sv__law_compare : SV := (sSeq (sFor (eRange1 (eCons (eArgs fLen (eCons (eVar 0) eNil)) eNil)) (gN 3) (sSeq (sSet 4 (eArgs m__law_sign (eCons (eBin fIx (eVar 0) (eVar 3)) (eCons (eBin fIx (eVar 1) (eVar 3)) (eCons (eBin fIx (eVar 2) (eVar 3)) eNil)))))
    (sIf (eTest (eBin fNe (eVar 4) (eC (.int 0)))) (sRet (eVar 4)) sNil)))
    (sRet (eC (.int 0))))
def m__law_compare : List D → List MO → R D := mOf 3 5 sv__law_compare
def sv_rank : SV := (sSeq (sIf (eTest (eBin fIsNot (eVar 1) (eC .non))) (sRet (eC (.int 0))) sNil)
    (sRet (eIf (eTest (eBin fEq (eBin fIx (eVar 0) (eC (.int 2))) (eC (.str "first")))) (eUn fNeg (eC (.int 1))) (eC (.int 1)))))
def m_rank : List D → List MO → R D := mOf 2 2 sv_rank
def sv_compare_values : SV := (sSeq (sIf (eOr (eTest (eBin fIs (eVar 1) (eC .non))) (eTest (eBin fIs (eVar 2) (eC .non)))) (sSeq (sPar 1 2 (eCons (eArgs m_rank (eCons (eVar 0) (eCons (eVar 1) eNil))) (eCons (eArgs m_rank (eCons (eVar 0) (eCons (eVar 2) eNil))) eNil)))
    (sRet (eIf (eTest (eBin fLt (eVar 1) (eVar 2))) (eUn fNeg (eC (.int 1))) (eIf (eTest (eBin fGt (eVar 1) (eVar 2))) (eC (.int 1)) (eC (.int 0)))))) sNil)
    (sSeq (sIf (eTest (eBin fEq (eVar 1) (eVar 2))) (sRet (eC (.int 0))) sNil)
    (sRet (eIf (eTest (eBin fEq (eBin fLt (eVar 1) (eVar 2)) (eBin fEq (eBin fIx (eVar 0) (eC (.int 1))) (eC (.str "asc"))))) (eUn fNeg (eC (.int 1))) (eC (.int 1))))))
def m_compare_values : List D → List MO → R D := mOf 3 3 sv_compare_values
def sv_compare_rows : SV := (sSeq (sExpr (eArgs m_check_scheme (eCons (eVar 0) eNil)))
    (sSeq (sExpr (eArgs m_check_row (eCons (eVar 0) (eCons (eVar 1) eNil))))
    (sSeq (sExpr (eArgs m_check_row (eCons (eVar 0) (eCons (eVar 2) eNil))))
    (sSeq (sFor (eZip3 (eCons (eVar 0) (eCons (eVar 1) (eCons (eVar 2) eNil)))) (gT [3, 4, 5]) (sSeq (sSet 6 (eArgs m_compare_values (eCons (eVar 3) (eCons (eVar 4) (eCons (eVar 5) eNil)))))
    (sIf (eTest (eBin fNe (eVar 6) (eC (.int 0)))) (sRet (eVar 6)) sNil)))
    (sRet (eC (.int 0)))))))
def m_compare_rows : List D → List MO → R D := mOf 3 7 sv_compare_rows
def sv_law_k02_1 : SV := (sSet 1 (eArgs m__law_start (eCons (eVar 0) eNil)))
def sv_law_k02_2 : SV := (sSet 2 (eArgs m__law_scheme (eCons (eVar 1) eNil)))
def sv_law_k02_3 : SV := (sSet 3 (eArgs fCell (eCons (eArgs m__law_row (eCons (eVar 1) (eCons (eVar 2) eNil))) eNil)))
def sv_law_k02_4b1 : SV := (sExpr (eMeth ckL fAppend (eVar 3) (eCons (eArgs m__law_other (eCons (eVar 1) (eCons (eVar 2) (eCons (eArgs m__law_pick (eCons (eVar 1) (eCons (eVar 3) eNil))) eNil)))) eNil)))
def sv_law_k02_4 : SV := (sFor (eRange1 (eCons (eC (.int 3)) eNil)) (gN 4) sv_law_k02_4b1)
def sv_law_k02_5b1b1 : SV := (sSet 11 (eArgs m__law_compare (eCons (eVar 2) (eCons (eVar 5) (eCons (eVar 8) eNil)))))
def sv_law_k02_5b1b2b1 : SV := (sRet (eC (.bl false)))
def sv_law_k02_5b1b2 : SV := (sIf (eOr (eTest (eBin fNe (eArgs m_compare_rows (eCons (eVar 2) (eCons (eVar 5) (eCons (eVar 8) eNil)))) (eVar 11))) (eTest (eBin fNe (eArgs m_compare_rows (eCons (eVar 2) (eCons (eVar 8) (eCons (eVar 5) eNil)))) (eBin fSub (eC (.int 0)) (eVar 11))))) sv_law_k02_5b1b2b1 sNil)
def sv_law_k02_5b1b3b1 : SV := (sRet (eC (.bl false)))
def sv_law_k02_5b1b3 : SV := (sIf (eTest (eBin fNe (eBin fEq (eVar 11) (eC (.int 0))) (eBin fEq (eVar 5) (eVar 8)))) sv_law_k02_5b1b3b1 sNil)
def sv_law_k02_5b1 : SV := (sFor (eSeq (eVar 3)) (gN 8) (sSeq sv_law_k02_5b1b1
    (sSeq sv_law_k02_5b1b2
    sv_law_k02_5b1b3)))
def sv_law_k02_5 : SV := (sFor (eSeq (eVar 3)) (gN 5) sv_law_k02_5b1)
def sv_law_k02_6 : SV := (sPar3 5 9 10 (eCons (eBin fIx (eVar 3) (eC (.int 0))) (eCons (eBin fIx (eVar 3) (eC (.int 1))) (eCons (eBin fIx (eVar 3) (eC (.int 2))) eNil))))
def sv_law_k02_7b1 : SV := (sRet (eC (.bl false)))
def sv_law_k02_7 : SV := (sIf (eAnd (eTest (eBin fLe (eArgs m_compare_rows (eCons (eVar 2) (eCons (eVar 5) (eCons (eVar 9) eNil)))) (eC (.int 0)))) (eAnd (eTest (eBin fLe (eArgs m_compare_rows (eCons (eVar 2) (eCons (eVar 9) (eCons (eVar 10) eNil)))) (eC (.int 0)))) (eTest (eBin fGt (eArgs m_compare_rows (eCons (eVar 2) (eCons (eVar 5) (eCons (eVar 10) eNil)))) (eC (.int 0)))))) sv_law_k02_7b1 sNil)
def sv_law_k02_8 : SV := (sSet 6 (eArgs m__law_field (eCons (eVar 1) eNil)))
def sv_law_k02_9 : SV := (sSet 7 (eArgs fLst' (eLcA (eRange1 (eCons (eC (.int 2)) eNil)) (gN 4) [4] eYes (eArgs m__law_value (eCons (eVar 1) (eCons (eVar 6) eNil))))))
def sv_law_k02_10 : SV := (sRet (eBin fEq (eArgs m_compare_rows (eCons (eArgs fTup (eCons (eVar 6) eNil)) (eCons (eArgs fTup (eCons (eBin fIx (eVar 7) (eC (.int 0))) eNil)) (eCons (eArgs fTup (eCons (eBin fIx (eVar 7) (eC (.int 1))) eNil)) eNil)))) (eArgs m__law_sign (eCons (eVar 6) (eCons (eBin fIx (eVar 7) (eC (.int 0))) (eCons (eBin fIx (eVar 7) (eC (.int 1))) eNil))))))
def sv_law_k02 : SV := (sSeq sv_law_k02_1
    (sSeq sv_law_k02_2
    (sSeq sv_law_k02_3
    (sSeq sv_law_k02_4
    (sSeq sv_law_k02_5
    (sSeq sv_law_k02_6
    (sSeq sv_law_k02_7
    (sSeq sv_law_k02_8
    (sSeq sv_law_k02_9
    sv_law_k02_10)))))))))
def m_law_k02 : List D → List MO → R D := mOf 1 12 sv_law_k02
def sv__law_good_field : SV := (sSeq (sSet 1 (eArgs m__law_pick (eCons (eVar 0) (eCons (eArgs fLst (eCons (eC (.str "int")) (eCons (eC (.str "fixed1")) (eCons (eC (.str "fixed2")) (eCons (eC (.str "fixed4")) (eCons (eC (.str "little1")) (eCons (eC (.str "closed")) (eCons (eC (.str "closed")) eNil)))))))) eNil))))
    (sRet (eArgs fTup (eCons (eVar 1) (eCons (eArgs m__law_pick (eCons (eVar 0) (eCons (eArgs fLst (eCons (eC (.str "asc")) (eCons (eC (.str "desc")) eNil))) eNil))) (eCons (eArgs m__law_pick (eCons (eVar 0) (eCons (eArgs fLst (eCons (eC (.str "none")) (eCons (eC (.str "none")) (eCons (eC (.str "first")) (eCons (eC (.str "last")) eNil))))) eNil))) eNil))))))
def m__law_good_field : List D → List MO → R D := mOf 1 2 sv__law_good_field
def sv__law_good : SV := (sSeq (sSet 1 (eArgs fTuple (eCons (eArgs fLst' (eLcA (eRange1 (eCons (eBin fAdd (eC (.int 1)) (eArgs m__law_draw (eCons (eVar 0) (eCons (eC (.int 4)) eNil)))) eNil)) (gN 2) [2] eYes (eArgs m__law_good_field (eCons (eVar 0) eNil)))) eNil)))
    (sSeq (sIf (eTest (eBin fEq (eArgs m__law_draw (eCons (eVar 0) (eCons (eC (.int 3)) eNil))) (eC (.int 0)))) (sSet 1 (eBin fAdd (eSl (eVar 1) eNoE (eSomeE (eUn fNeg (eC (.int 1))))) (eArgs fTup (eCons (eArgs fTup (eCons (eC (.str "raw")) (eCons (eC (.str "asc")) (eCons (eArgs m__law_pick (eCons (eVar 0) (eCons (eArgs fLst (eCons (eC (.str "none")) (eCons (eC (.str "first")) (eCons (eC (.str "last")) eNil)))) eNil))) eNil)))) eNil)))) sNil)
    (sRet (eVar 1))))
def m__law_good : List D → List MO → R D := mOf 1 3 sv__law_good
def sv_default_value : SV := (sRet (eIf (eTest (eBin fIn (eBin fIx (eVar 0) (eC (.int 0))) (eArgs fTup (eCons (eC (.str "raw")) (eCons (eC (.str "closed")) (eCons (eC (.str "counted")) eNil)))))) (eArgs fTup eNil) (eC (.int 0))))
def m_default_value : List D → List MO → R D := mOf 1 1 sv_default_value
def sv_default_row : SV := (sRet (eArgs fTuple (eCons (eArgs fLst' (eLcA (eSeq (eVar 0)) (gN 1) [1] eYes (eArgs m_default_value (eCons (eVar 1) eNil)))) eNil)))
def m_default_row : List D → List MO → R D := mOf 1 2 sv_default_row
def sv_field_pair : SV := (sSeq (sAsg (gT [2, 3, 4]) (eVar 0))
    (sSeq (sSet 1 (eC .non))
    (sSeq (sIf (eAnd (eTest (eUn (fInTab tab_SIZES) (eVar 2))) (eAnd (eTest (eMeth ckS fStarts (eVar 2) (eCons (eC (.str "little")) eNil))) (eTest (eBin fGt (eUn (fTab tab_SIZES) (eVar 2)) (eC (.int 1)))))) (sSet 1 (eArgs fTup (eCons (eC (.int 1)) (eCons (eC (.int 256)) eNil)))) sNil)
    (sSeq (sIf (eTest (eBin fEq (eVar 2) (eC (.str "counted")))) (sSet 1 (eArgs fTup (eCons (eArgs fTup (eCons (eC (.int 1)) (eCons (eC (.int 1)) eNil))) (eCons (eArgs fTup (eCons (eC (.int 2)) eNil)) eNil)))) sNil)
    (sSeq (sIf (eAnd (eTest (eBin fEq (eVar 2) (eC (.str "raw")))) (eTest (eBin fEq (eVar 3) (eC (.str "desc"))))) (sRet (eArgs fTup (eCons (eArgs fTup (eCons (eC (.int 0)) eNil)) (eCons (eArgs fTup eNil) eNil)))) sNil)
    (sSeq (sIf (eAnd (eTest (eBin fIsNot (eVar 1) (eC .non))) (eTest (eBin fEq (eVar 3) (eC (.str "desc"))))) (sSet 1 (eUn fRev (eVar 1))) sNil)
    (sRet (eVar 1))))))))
def m_field_pair : List D → List MO → R D := mOf 1 5 sv_field_pair
def sv_with_value : SV := (sRet (eBin fAdd (eBin fAdd (eSl (eVar 0) eNoE (eSomeE (eVar 1))) (eArgs fTup (eCons (eVar 2) eNil))) (eSl (eVar 0) (eSomeE (eBin fAdd (eVar 1) (eC (.int 1)))) eNoE)))
def m_with_value : List D → List MO → R D := mOf 3 3 sv_with_value
def sv_great_value : SV := (sSeq (sAsg (gT [1, 2, 3]) (eVar 0))
    (sSeq (sIf (eOr (eTest (eBin fEq (eVar 2) (eC (.str "desc")))) (eTest (eBin fEq (eVar 1) (eC (.str "int"))))) (sRet (eIf (eTest (eBin fEq (eVar 1) (eC (.str "raw")))) (eArgs fTup (eCons (eC (.int 0)) eNil)) (eIf (eTest (eBin fIn (eVar 1) (eArgs fTup (eCons (eC (.str "closed")) (eCons (eC (.str "counted")) eNil))))) (eArgs fTup eNil) (eC (.int 0))))) sNil)
    (sRet (eIf (eTest (eUn (fInTab tab_SIZES) (eVar 1))) (eBin fSub (eArgs m_power (eCons (eUn (fTab tab_SIZES) (eVar 1)) eNil)) (eC (.int 1))) (eArgs fTup (eCons (eC (.int 1)) eNil))))))
def m_great_value : List D → List MO → R D := mOf 1 4 sv_great_value
def sv_order_witness : SV := (sSeq (sExpr (eArgs m_check_scheme (eCons (eVar 0) eNil)))
    (sSeq (sSet 1 (eArgs m_default_row (eCons (eVar 0) eNil)))
    (sSeq (sFor (eEnum (eCons (eVar 0) eNil)) (gT [2, 3]) (sSeq (sSet 4 (eArgs m_field_pair (eCons (eVar 3) eNil)))
    (sSeq (sIf (eTest (eBin fIsNot (eVar 4) (eC .non))) (sRet (eArgs fTup (eCons (eArgs m_with_value (eCons (eVar 1) (eCons (eVar 2) (eCons (eBin fIx (eVar 4) (eC (.int 0))) eNil)))) (eCons (eArgs m_with_value (eCons (eVar 1) (eCons (eVar 2) (eCons (eBin fIx (eVar 4) (eC (.int 1))) eNil)))) eNil)))) sNil)
    (sIf (eAnd (eTest (eBin fEq (eBin fIx (eVar 3) (eC (.int 0))) (eC (.str "raw")))) (eTest (eBin fLt (eVar 2) (eBin fSub (eArgs fLen (eCons (eVar 0) eNil)) (eC (.int 1)))))) (sSeq (sSet 5 (eArgs m_with_value (eCons (eVar 1) (eCons (eBin fAdd (eVar 2) (eC (.int 1))) (eCons (eArgs m_great_value (eCons (eBin fIx (eVar 0) (eBin fAdd (eVar 2) (eC (.int 1)))) eNil)) eNil)))))
    (sRet (eArgs fTup (eCons (eVar 5) (eCons (eArgs m_with_value (eCons (eVar 1) (eCons (eVar 2) (eCons (eArgs fTup (eCons (eC (.int 0)) eNil)) eNil)))) eNil))))) sNil))))
    (sRet (eC .non)))))
def m_order_witness : List D → List MO → R D := mOf 1 6 sv_order_witness
def sv_keeps_order : SV := (sRet (eBin fIs (eArgs m_order_witness (eCons (eVar 0) eNil)) (eC .non)))
def m_keeps_order : List D → List MO → R D := mOf 1 1 sv_keeps_order
def sv_first_raw : SV := (sSeq (sFor (eEnum (eCons (eVar 0) eNil)) (gT [1, 2]) (sIf (eTest (eBin fEq (eBin fIx (eVar 2) (eC (.int 0))) (eC (.str "raw")))) (sRet (eVar 1)) sNil))
    (sRet (eC .non)))
def m_first_raw : List D → List MO → R D := mOf 1 3 sv_first_raw
def sv_is_constant : SV := (sRet (eAndV (eUn (fInTab tab_SIZES) (eBin fIx (eVar 0) (eC (.int 0)))) (eBin fEq (eBin fIx (eVar 0) (eC (.int 2))) (eC (.str "none")))))
def m_is_constant : List D → List MO → R D := mOf 1 1 sv_is_constant
def sv_blur_of : SV := (sSeq (sSet 1 (eArgs m_first_raw (eCons (eVar 0) eNil)))
    (sSeq (sIf (eTest (eBin fIsNot (eVar 1) (eC .non))) (sFor (eRange2 (eCons (eBin fAdd (eVar 1) (eC (.int 1))) (eCons (eArgs fLen (eCons (eVar 0) eNil)) eNil))) (gN 2) (sIf (eNot (eTest (eArgs m_is_constant (eCons (eBin fIx (eVar 0) (eVar 2)) eNil)))) (sRet (eArgs fTup (eCons (eVar 1) (eCons (eVar 2) eNil)))) sNil)) sNil)
    (sRet (eC .non))))
def m_blur_of : List D → List MO → R D := mOf 1 3 sv_blur_of
def sv_is_decodable : SV := (sSeq (sExpr (eArgs m_check_scheme (eCons (eVar 0) eNil)))
    (sRet (eBin fIs (eArgs m_blur_of (eCons (eVar 0) eNil)) (eC .non))))
def m_is_decodable : List D → List MO → R D := mOf 1 1 sv_is_decodable
def sv_law_k03_1 : SV := (sSet 1 (eArgs m__law_start (eCons (eVar 0) eNil)))
def sv_law_k03_2 : SV := (sSet 2 (eArgs m__law_good (eCons (eVar 1) eNil)))
def sv_law_k03_3b1 : SV := (sRet (eC (.bl false)))
def sv_law_k03_3 : SV := (sIf (eOr (eTest (eBin fIsNot (eArgs m_keeps_order (eCons (eVar 2) eNil)) (eC (.bl true)))) (eOr (eTest (eBin fIsNot (eArgs m_order_witness (eCons (eVar 2) eNil)) (eC .non))) (eTest (eBin fIsNot (eArgs m_is_decodable (eCons (eVar 2) eNil)) (eC (.bl true)))))) sv_law_k03_3b1 sNil)
def sv_law_k03_4 : SV := (sSet 3 (eArgs m__law_row (eCons (eVar 1) (eCons (eVar 2) eNil))))
def sv_law_k03_5b1 : SV := (sSet 5 (eArgs m__law_other (eCons (eVar 1) (eCons (eVar 2) (eCons (eVar 3) eNil)))))
def sv_law_k03_5b2b1 : SV := (sSet 7 (eArgs m__law_draw (eCons (eVar 1) (eCons (eArgs fLen (eCons (eVar 2) eNil)) eNil))))
def sv_law_k03_5b2b2b1 : SV := (sSet 10 (eSl (eBin fAdd (eBin fIx (eVar 5) (eVar 7)) (eArgs m__law_text (eCons (eVar 1) (eCons (eC (.int 3)) eNil)))) eNoE (eSomeE (eC (.int 9)))))
def sv_law_k03_5b2b2b2 : SV := (sSet 5 (eBin fAdd (eBin fAdd (eSl (eVar 5) eNoE (eSomeE (eVar 7))) (eArgs fTup (eCons (eVar 10) eNil))) (eSl (eVar 5) (eSomeE (eBin fAdd (eVar 7) (eC (.int 1)))) eNoE)))
def sv_law_k03_5b2b2 : SV := (sIf (eTest (eUn (fIsi "tuple") (eBin fIx (eVar 5) (eVar 7)))) (sSeq sv_law_k03_5b2b2b1
    sv_law_k03_5b2b2b2) sNil)
def sv_law_k03_5b2 : SV := (sIf (eTest (eBin fEq (eArgs m__law_draw (eCons (eVar 1) (eCons (eC (.int 2)) eNil))) (eC (.int 0)))) (sSeq sv_law_k03_5b2b1
    sv_law_k03_5b2b2) sNil)
def sv_law_k03_5b3 : SV := (sPar 8 9 (eCons (eArgs m_encode (eCons (eVar 2) (eCons (eVar 3) eNil))) (eCons (eArgs m_encode (eCons (eVar 2) (eCons (eVar 5) eNil))) eNil)))
def sv_law_k03_5b4 : SV := (sSet 6 (eIf (eTest (eBin fLt (eVar 8) (eVar 9))) (eBin fSub (eC (.int 0)) (eC (.int 1))) (eIf (eTest (eBin fGt (eVar 8) (eVar 9))) (eC (.int 1)) (eC (.int 0)))))
def sv_law_k03_5b5b1 : SV := (sRet (eC (.bl false)))
def sv_law_k03_5b5 : SV := (sIf (eOr (eTest (eBin fNe (eArgs m_compare_rows (eCons (eVar 2) (eCons (eVar 3) (eCons (eVar 5) eNil)))) (eVar 6))) (eTest (eBin fNe (eBin fEq (eVar 6) (eC (.int 0))) (eBin fEq (eVar 3) (eVar 5))))) sv_law_k03_5b5b1 sNil)
def sv_law_k03_5b6 : SV := (sSet 3 (eVar 5))
def sv_law_k03_5 : SV := (sFor (eRange1 (eCons (eC (.int 4)) eNil)) (gN 4) (sSeq sv_law_k03_5b1
    (sSeq sv_law_k03_5b2
    (sSeq sv_law_k03_5b3
    (sSeq sv_law_k03_5b4
    (sSeq sv_law_k03_5b5
    sv_law_k03_5b6))))))
def sv_law_k03_6 : SV := (sRet (eBin fEq (eArgs m_compare_rows (eCons (eVar 2) (eCons (eVar 3) (eCons (eVar 3) eNil)))) (eC (.int 0))))
def sv_law_k03 : SV := (sSeq sv_law_k03_1
    (sSeq sv_law_k03_2
    (sSeq sv_law_k03_3
    (sSeq sv_law_k03_4
    (sSeq sv_law_k03_5
    sv_law_k03_6)))))
def m_law_k03 : List D → List MO → R D := mOf 1 11 sv_law_k03
def sv__law_true : SV := (sRet (eAndV (eUn (fIsi "bool") (eVar 0)) (eBin fEq (eVar 0) (eVar 1))))
def m__law_true : List D → List MO → R D := mOf 2 2 sv__law_true
def sv_law_k04_1 : SV := (sSet 1 (eArgs m__law_start (eCons (eVar 0) eNil)))
def sv_law_k04_2 : SV := (sSet 2 (eArgs m__law_scheme (eCons (eVar 1) eNil)))
def sv_law_k04_3 : SV := (sSet 3 (eC (.bl true)))
def sv_law_k04_4b1 : SV := (sAsg (gT [11, 12, 13]) (eBin fIx (eVar 2) (eVar 4)))
def sv_law_k04_4b2b1 : SV := (sSet 3 (eC (.bl false)))
def sv_law_k04_4b2 : SV := (sIf (eOr (eTest (eBin fEq (eVar 11) (eC (.str "counted")))) (eAnd (eTest (eBin fEq (eSl (eVar 11) eNoE (eSomeE (eC (.int 6)))) (eC (.str "little")))) (eTest (eBin fNe (eVar 11) (eC (.str "little1")))))) sv_law_k04_4b2b1 sNil)
def sv_law_k04_4b3b1 : SV := (sSet 3 (eC (.bl false)))
def sv_law_k04_4b3 : SV := (sIf (eAnd (eTest (eBin fEq (eVar 11) (eC (.str "raw")))) (eOr (eTest (eBin fEq (eVar 12) (eC (.str "desc")))) (eTest (eBin fLt (eVar 4) (eBin fSub (eArgs fLen (eCons (eVar 2) eNil)) (eC (.int 1))))))) sv_law_k04_4b3b1 sNil)
def sv_law_k04_4 : SV := (sFor (eRange1 (eCons (eArgs fLen (eCons (eVar 2) eNil)) eNil)) (gN 4) (sSeq sv_law_k04_4b1
    (sSeq sv_law_k04_4b2
    sv_law_k04_4b3)))
def sv_law_k04_5b1 : SV := (sRet (eC (.bl false)))
def sv_law_k04_5 : SV := (sIf (eNot (eTest (eArgs m__law_true (eCons (eArgs m_keeps_order (eCons (eVar 2) eNil)) (eCons (eVar 3) eNil))))) sv_law_k04_5b1 sNil)
def sv_law_k04_6 : SV := (sSet 5 (eArgs m_order_witness (eCons (eVar 2) eNil)))
def sv_law_k04_7b1 : SV := (sRet (eC (.bl false)))
def sv_law_k04_7 : SV := (sIf (eTest (eBin fNe (eBin fIs (eVar 5) (eC .non)) (eVar 3))) sv_law_k04_7b1 sNil)
def sv_law_k04_8b1 : SV := (sAsg (gT [9, 10]) (eVar 5))
def sv_law_k04_8b2b1 : SV := (sRet (eC (.bl false)))
def sv_law_k04_8b2 : SV := (sIf (eOr (eTest (eBin fIsNot (eArgs m_is_row (eCons (eVar 2) (eCons (eVar 9) eNil))) (eC (.bl true)))) (eTest (eBin fIsNot (eArgs m_is_row (eCons (eVar 2) (eCons (eVar 10) eNil))) (eC (.bl true))))) sv_law_k04_8b2b1 sNil)
def sv_law_k04_8b3 : SV := (sRet (eAndV (eBin fEq (eArgs m__law_compare (eCons (eVar 2) (eCons (eVar 9) (eCons (eVar 10) eNil)))) (eBin fSub (eC (.int 0)) (eC (.int 1)))) (eBin fGe (eArgs m__law_bytes (eCons (eVar 2) (eCons (eVar 9) eNil))) (eArgs m__law_bytes (eCons (eVar 2) (eCons (eVar 10) eNil))))))
def sv_law_k04_8 : SV := (sIf (eTest (eBin fIsNot (eVar 5) (eC .non))) (sSeq sv_law_k04_8b1
    (sSeq sv_law_k04_8b2
    sv_law_k04_8b3)) sNil)
def sv_law_k04_9 : SV := (sSet 6 (eArgs m__law_row (eCons (eVar 1) (eCons (eVar 2) eNil))))
def sv_law_k04_10 : SV := (sSet 7 (eArgs m__law_other (eCons (eVar 1) (eCons (eVar 2) (eCons (eVar 6) eNil)))))
def sv_law_k04_11 : SV := (sSet 8 (eArgs m__law_compare (eCons (eVar 2) (eCons (eVar 6) (eCons (eVar 7) eNil)))))
def sv_law_k04_12 : SV := (sPar 9 10 (eCons (eArgs m__law_bytes (eCons (eVar 2) (eCons (eVar 6) eNil))) (eCons (eArgs m__law_bytes (eCons (eVar 2) (eCons (eVar 7) eNil))) eNil)))
def sv_law_k04_13 : SV := (sRet (eAndV (eBin fEq (eBin fLt (eVar 8) (eC (.int 0))) (eBin fLt (eVar 9) (eVar 10))) (eAndV (eBin fEq (eBin fGt (eVar 8) (eC (.int 0))) (eBin fGt (eVar 9) (eVar 10))) (eBin fEq (eArgs m_encode (eCons (eVar 2) (eCons (eVar 6) eNil))) (eVar 9)))))
def sv_law_k04 : SV := (sSeq sv_law_k04_1
    (sSeq sv_law_k04_2
    (sSeq sv_law_k04_3
    (sSeq sv_law_k04_4
    (sSeq sv_law_k04_5
    (sSeq sv_law_k04_6
    (sSeq sv_law_k04_7
    (sSeq sv_law_k04_8
    (sSeq sv_law_k04_9
    (sSeq sv_law_k04_10
    (sSeq sv_law_k04_11
    (sSeq sv_law_k04_12
    sv_law_k04_13))))))))))))
def m_law_k04 : List D → List MO → R D := mOf 1 14 sv_law_k04
def sv_ending_value : SV := (sSeq (sAsg (gT [3, 4, 5]) (eVar 0))
    (sSeq (sSet 2 (eIf (eTest (eBin fEq (eVar 4) (eC (.str "desc")))) (eBin fSub (eC (.int 255)) (eVar 1)) (eVar 1)))
    (sSeq (sIf (eTest (eUn (fInTab tab_SIZES) (eVar 3))) (sRet (eIf (eTest (eMeth ckS fStarts (eVar 3) (eCons (eC (.str "fixed")) eNil))) (eVar 2) (eBin fMul (eVar 2) (eArgs m_power (eCons (eBin fSub (eUn (fTab tab_SIZES) (eVar 3)) (eC (.int 1))) eNil))))) sNil)
    (sSeq (sIf (eTest (eBin fEq (eVar 3) (eC (.str "int")))) (sRet (eIf (eTest (eBin fGt (eVar 2) (eC (.int 0)))) (eVar 2) (eC (.int 256)))) sNil)
    (sRet (eArgs fTup (eCons (eVar 2) eNil)))))))
def m_ending_value : List D → List MO → R D := mOf 2 6 sv_ending_value
def sv_shifting_values : SV := (sSeq (sAsg (gT [1, 2, 3]) (eVar 0))
    (sSeq (sIf (eAnd (eTest (eBin fEq (eVar 1) (eC (.str "closed")))) (eTest (eBin fNe (eVar 3) (eC (.str "none"))))) (sRet (eArgs fTup (eCons (eIf (eTest (eBin fEq (eVar 2) (eC (.str "desc")))) (eArgs fTup (eCons (eC (.int 254)) eNil)) (eArgs fTup (eCons (eC (.int 1)) eNil))) (eCons (eArgs fTup eNil) eNil)))) sNil)
    (sSeq (sIf (eTest (eBin fNe (eVar 3) (eC (.str "none")))) (sRet (eArgs fTup (eCons (eArgs m_ending_value (eCons (eVar 0) (eCons (eUn (fTab tab_MARKS) (eVar 3)) eNil))) (eCons (eC .non) eNil)))) sNil)
    (sSeq (sIf (eTest (eBin fEq (eVar 1) (eC (.str "int")))) (sRet (eArgs fTup (eCons (eC (.int 128)) (eCons (eC (.int 0)) eNil)))) sNil)
    (sRet (eArgs fTup (eCons (eIf (eTest (eBin fEq (eVar 1) (eC (.str "counted")))) (eArgs fTup (eCons (eC (.int 0)) eNil)) (eArgs fTup (eCons (eC (.int 1)) eNil))) (eCons (eArgs fTup eNil) eNil))))))))
def m_shifting_values : List D → List MO → R D := mOf 1 4 sv_shifting_values
def sv_fail : SV := (sRaise "BadBytes")
def m_fail : List D → List MO → R D := mOf 0 0 sv_fail
def sv_take : SV := (sSeq (sIf (eTest (eBin fLt (eArgs fLen (eCons (eVar 0) eNil)) (eVar 1))) (sExpr (eArgs m_fail eNil)) sNil)
    (sRet (eArgs fTup (eCons (eSl (eVar 0) eNoE (eSomeE (eVar 1))) (eCons (eSl (eVar 0) (eSomeE (eVar 1)) eNoE) eNil)))))
def m_take : List D → List MO → R D := mOf 2 2 sv_take
def sv_number_of : SV := (sSeq (sSet 1 (eC (.int 0)))
    (sSeq (sFor (eSeq (eVar 0)) (gN 2) (sSet 1 (eBin fAdd (eBin fMul (eVar 1) (eC (.int 256))) (eVar 2))))
    (sRet (eVar 1))))
def m_number_of : List D → List MO → R D := mOf 1 3 sv_number_of
def sv_take_int : SV := (sSeq (sAsg (gT [3, 4]) (eArgs m_take (eCons (eVar 0) (eCons (eC (.int 1)) eNil))))
    (sSeq (sSet 1 (eArgs fAbs (eCons (eBin fSub (eBin fIx (eVar 3) (eC (.int 0))) (eC (.int 128))) eNil)))
    (sSeq (sIf (eTest (eBin fGt (eVar 1) (eC (.int 8)))) (sExpr (eArgs m_fail eNil)) sNil)
    (sSeq (sAsg (gT [5, 4]) (eArgs m_take (eCons (eVar 4) (eCons (eVar 1) eNil))))
    (sSeq (sSet 2 (eArgs m_number_of (eCons (eIf (eTest (eBin fGe (eBin fIx (eVar 3) (eC (.int 0))) (eC (.int 128)))) (eVar 5) (eArgs m_flipped (eCons (eVar 5) eNil))) eNil)))
    (sSeq (sIf (eAnd (eTest (eBin fGt (eVar 1) (eC (.int 0)))) (eTest (eBin fLt (eVar 2) (eArgs m_power (eCons (eBin fSub (eVar 1) (eC (.int 1))) eNil))))) (sExpr (eArgs m_fail eNil)) sNil)
    (sRet (eArgs fTup (eCons (eIf (eTest (eBin fGe (eBin fIx (eVar 3) (eC (.int 0))) (eC (.int 128)))) (eVar 2) (eUn fNeg (eVar 2))) (eCons (eVar 4) eNil))))))))))
def m_take_int : List D → List MO → R D := mOf 1 6 sv_take_int
def sv_take_closed : SV := (sSeq (sSet 1 (eArgs fTup eNil))
    (sSeq (sWhile (eTest (eBin fNe (eSl (eVar 0) eNoE (eSomeE (eC (.int 2)))) (eArgs fTup (eCons (eC (.int 0)) (eCons (eC (.int 1)) eNil))))) (sIf (eTest (eBin fEq (eSl (eVar 0) eNoE (eSomeE (eC (.int 2)))) (eArgs fTup (eCons (eC (.int 0)) (eCons (eC (.int 255)) eNil))))) (sSeq (sAug 1 fIAdd (eArgs fTup (eCons (eC (.int 0)) eNil)))
    (sSet 0 (eSl (eVar 0) (eSomeE (eC (.int 2))) eNoE))) (sIf (eOr (eTest (eBin fEq (eVar 0) (eArgs fTup eNil))) (eTest (eBin fEq (eBin fIx (eVar 0) (eC (.int 0))) (eC (.int 0))))) (sExpr (eArgs m_fail eNil)) (sSeq (sAug 1 fIAdd (eArgs fTup (eCons (eBin fIx (eVar 0) (eC (.int 0))) eNil)))
    (sSet 0 (eSl (eVar 0) (eSomeE (eC (.int 1))) eNoE))))))
    (sRet (eArgs fTup (eCons (eVar 1) (eCons (eSl (eVar 0) (eSomeE (eC (.int 2))) eNoE) eNil))))))
def m_take_closed : List D → List MO → R D := mOf 1 2 sv_take_closed
def sv_take_plain : SV := (sSeq (sIf (eTest (eBin fEq (eVar 0) (eC (.str "int")))) (sRet (eArgs m_take_int (eCons (eVar 1) eNil))) sNil)
    (sSeq (sIf (eTest (eUn (fInTab tab_SIZES) (eVar 0))) (sSeq (sAsg (gT [3, 4]) (eArgs m_take (eCons (eVar 1) (eCons (eUn (fTab tab_SIZES) (eVar 0)) eNil))))
    (sRet (eArgs fTup (eCons (eArgs m_number_of (eCons (eIf (eTest (eMeth ckS fStarts (eVar 0) (eCons (eC (.str "fixed")) eNil))) (eVar 3) (eUn fRev (eVar 3))) eNil)) (eCons (eVar 4) eNil))))) sNil)
    (sSeq (sIf (eTest (eBin fEq (eVar 0) (eC (.str "closed")))) (sRet (eArgs m_take_closed (eCons (eVar 1) eNil))) sNil)
    (sSeq (sIf (eTest (eBin fEq (eVar 0) (eC (.str "counted")))) (sSeq (sAsg (gT [5, 1]) (eArgs m_take (eCons (eVar 1) (eCons (eC (.int 1)) eNil))))
    (sSet 2 (eBin fIx (eVar 5) (eC (.int 0))))) sNil)
    (sRet (eArgs m_take (eCons (eVar 1) (eCons (eVar 2) eNil))))))))
def m_take_plain : List D → List MO → R D := mOf 3 6 sv_take_plain
def sv_take_value : SV := (sSeq (sAsg (gT [3, 4, 5]) (eVar 0))
    (sSeq (sIf (eTest (eBin fNe (eVar 5) (eC (.str "none")))) (sSeq (sAsg (gT [8, 1]) (eArgs m_take (eCons (eVar 1) (eCons (eC (.int 1)) eNil))))
    (sSeq (sIf (eTest (eBin fEq (eBin fIx (eVar 8) (eC (.int 0))) (eUn (fTab tab_MARKS) (eVar 5)))) (sRet (eArgs fTup (eCons (eC .non) (eCons (eVar 1) eNil)))) sNil)
    (sIf (eTest (eBin fNe (eBin fIx (eVar 8) (eC (.int 0))) (eC (.int 1)))) (sExpr (eArgs m_fail eNil)) sNil))) sNil)
    (sSeq (sIf (eTest (eBin fEq (eVar 4) (eC (.str "desc")))) (sSet 1 (eArgs m_flipped (eCons (eVar 1) eNil))) sNil)
    (sSeq (sIf (eTest (eBin fLt (eArgs fLen (eCons (eVar 1) eNil)) (eVar 2))) (sExpr (eArgs m_fail eNil)) sNil)
    (sSeq (sAsg (gT [6, 7]) (eArgs m_take_plain (eCons (eVar 3) (eCons (eVar 1) (eCons (eBin fSub (eArgs fLen (eCons (eVar 1) eNil)) (eVar 2)) eNil)))))
    (sSeq (sIf (eNot (eTest (eArgs m_is_value (eCons (eVar 0) (eCons (eVar 6) eNil))))) (sExpr (eArgs m_fail eNil)) sNil)
    (sRet (eArgs fTup (eCons (eVar 6) (eCons (eIf (eTest (eBin fEq (eVar 4) (eC (.str "desc")))) (eArgs m_flipped (eCons (eVar 7) eNil)) (eVar 7)) eNil))))))))))
def m_take_value : List D → List MO → R D := mOf 3 9 sv_take_value
def sv_constant_values : SV := (sSeq (sSet 2 (eArgs fCell eNil))
    (sSeq (sFor (eSeq (eVar 0)) (gN 3) (sSeq (sAsg (gT [4, 1]) (eArgs m_take_value (eCons (eVar 3) (eCons (eVar 1) (eCons (eC (.int 0)) eNil)))))
    (sExpr (eMeth ckL fAppend (eVar 2) (eCons (eVar 4) eNil)))))
    (sRet (eArgs fTuple (eCons (eVar 2) eNil)))))
def m_constant_values : List D → List MO → R D := mOf 2 5 sv_constant_values
def sv_decode_witness_1 : SV := (sExpr (eArgs m_check_scheme (eCons (eVar 0) eNil)))
def sv_decode_witness_2 : SV := (sSet 1 (eArgs m_blur_of (eCons (eVar 0) eNil)))
def sv_decode_witness_3b1 : SV := (sRet (eC .non))
def sv_decode_witness_3 : SV := (sIf (eTest (eBin fIs (eVar 1) (eC .non))) sv_decode_witness_3b1 sNil)
def sv_decode_witness_4 : SV := (sAsg (gT [11, 12]) (eVar 1))
def sv_decode_witness_5 : SV := (sSet 2 (eArgs m_default_row (eCons (eVar 0) eNil)))
def sv_decode_witness_6 : SV := (sAsg (gT [13, 14]) (eArgs m_shifting_values (eCons (eBin fIx (eVar 0) (eVar 12)) eNil)))
def sv_decode_witness_7 : SV := (sSet 3 (eSl (eVar 0) (eSomeE (eBin fAdd (eVar 11) (eC (.int 1)))) (eSomeE (eVar 12))))
def sv_decode_witness_8 : SV := (sSet 4 (eArgs m_joined (eCons (eVar 3) (eCons (eSl (eVar 2) (eSomeE (eBin fAdd (eVar 11) (eC (.int 1)))) (eSomeE (eVar 12))) eNil))))
def sv_decode_witness_9 : SV := (sSet 5 (eBin fAdd (eVar 4) (eArgs m_encode_value (eCons (eBin fIx (eVar 0) (eVar 12)) (eCons (eVar 13) eNil)))))
def sv_decode_witness_10 : SV := (sSet 6 (eBin fSub (eBin fSub (eArgs fLen (eCons (eVar 5) eNil)) (eArgs fLen (eCons (eVar 4) eNil))) (eArgs fLen (eCons (eArgs m_encode_value (eCons (eBin fIx (eVar 0) (eVar 12)) (eCons (eVar 14) eNil))) eNil))))
def sv_decode_witness_11 : SV := (sSet 7 (eIf (eTest (eBin fEq (eBin fIx (eBin fIx (eVar 0) (eVar 11)) (eC (.int 1))) (eC (.str "desc")))) (eArgs m_flipped (eCons (eSl (eVar 5) eNoE (eSomeE (eVar 6))) eNil)) (eSl (eVar 5) eNoE (eSomeE (eVar 6)))))
def sv_decode_witness_12 : SV := (sSet 8 (eArgs m_constant_values (eCons (eVar 3) (eCons (eSl (eVar 5) (eSomeE (eVar 6)) (eSomeE (eBin fAdd (eVar 6) (eArgs fLen (eCons (eVar 4) eNil))))) eNil))))
def sv_decode_witness_13 : SV := (sSet 9 (eBin fAdd (eBin fAdd (eSl (eVar 2) eNoE (eSomeE (eVar 12))) (eArgs fTup (eCons (eVar 13) eNil))) (eSl (eVar 2) (eSomeE (eBin fAdd (eVar 12) (eC (.int 1)))) eNoE)))
def sv_decode_witness_14 : SV := (sSet 10 (eBin fAdd (eBin fAdd (eBin fAdd (eBin fAdd (eSl (eVar 2) eNoE (eSomeE (eVar 11))) (eArgs fTup (eCons (eVar 7) eNil))) (eVar 8)) (eArgs fTup (eCons (eVar 14) eNil))) (eSl (eVar 2) (eSomeE (eBin fAdd (eVar 12) (eC (.int 1)))) eNoE)))
def sv_decode_witness_15 : SV := (sRet (eArgs fTup (eCons (eVar 9) (eCons (eVar 10) eNil))))
def sv_decode_witness : SV := (sSeq sv_decode_witness_1
    (sSeq sv_decode_witness_2
    (sSeq sv_decode_witness_3
    (sSeq sv_decode_witness_4
    (sSeq sv_decode_witness_5
    (sSeq sv_decode_witness_6
    (sSeq sv_decode_witness_7
    (sSeq sv_decode_witness_8
    (sSeq sv_decode_witness_9
    (sSeq sv_decode_witness_10
    (sSeq sv_decode_witness_11
    (sSeq sv_decode_witness_12
    (sSeq sv_decode_witness_13
    (sSeq sv_decode_witness_14
    sv_decode_witness_15))))))))))))))
def m_decode_witness : List D → List MO → R D := mOf 1 15 sv_decode_witness
def sv_check_bytes : SV := (sIf (eNot (eTest (eArgs m_is_bytes (eCons (eVar 0) eNil)))) (sRaise "BadBytes") sNil)
def m_check_bytes : List D → List MO → R D := mOf 1 1 sv_check_bytes
def sv_tail_length : SV := (sRet (eArgs fSum (eCons (eArgs fLst' (eLcA (eSeq (eSl (eVar 0) (eSomeE (eBin fAdd (eVar 1) (eC (.int 1)))) eNoE)) (gN 2) [2] eYes (eUn (fTab tab_SIZES) (eBin fIx (eVar 2) (eC (.int 0)))))) eNil)))
def m_tail_length : List D → List MO → R D := mOf 2 3 sv_tail_length
def sv_decode : SV := (sSeq (sExpr (eArgs m_check_scheme (eCons (eVar 0) eNil)))
    (sSeq (sIf (eTest (eBin fIsNot (eArgs m_blur_of (eCons (eVar 0) eNil)) (eC .non))) (sRaise "BadScheme") sNil)
    (sSeq (sExpr (eArgs m_check_bytes (eCons (eVar 1) eNil)))
    (sSeq (sSet 2 (eArgs fTup eNil))
    (sSeq (sFor (eEnum (eCons (eVar 0) eNil)) (gT [3, 4]) (sSeq (sSet 5 (eIf (eTest (eBin fEq (eBin fIx (eVar 4) (eC (.int 0))) (eC (.str "raw")))) (eArgs m_tail_length (eCons (eVar 0) (eCons (eVar 3) eNil))) (eC (.int 0))))
    (sSeq (sAsg (gT [6, 1]) (eArgs m_take_value (eCons (eVar 4) (eCons (eVar 1) (eCons (eVar 5) eNil)))))
    (sAug 2 fIAdd (eArgs fTup (eCons (eVar 6) eNil))))))
    (sSeq (sIf (eTest (eBin fNe (eVar 1) (eArgs fTup eNil))) (sRaise "BadBytes") sNil)
    (sRet (eVar 2))))))))
def m_decode : List D → List MO → R D := mOf 2 7 sv_decode
def sv_law_k05_1 : SV := (sSet 1 (eArgs m__law_start (eCons (eVar 0) eNil)))
def sv_law_k05_2 : SV := (sSet 2 (eArgs m__law_scheme (eCons (eVar 1) eNil)))
def sv_law_k05_3b1 : SV := (sSet 6 (eArgs fTup (eCons (eC (.str "raw")) (eCons (eArgs m__law_pick (eCons (eVar 1) (eCons (eArgs fLst (eCons (eC (.str "asc")) (eCons (eC (.str "desc")) eNil))) eNil))) (eCons (eArgs m__law_pick (eCons (eVar 1) (eCons (eArgs fLst (eCons (eC (.str "none")) (eCons (eC (.str "first")) (eCons (eC (.str "last")) eNil)))) eNil))) eNil)))))
def sv_law_k05_3b2 : SV := (sSet 2 (eBin fAdd (eArgs fTup (eCons (eVar 6) eNil)) (eArgs fTuple (eCons (eArgs fLst' (eLcA (eRange1 (eCons (eArgs m__law_draw (eCons (eVar 1) (eCons (eC (.int 4)) eNil))) eNil)) (gN 11) [11] eYes (eArgs m__law_field (eCons (eVar 1) eNil)))) eNil))))
def sv_law_k05_3b3b1 : SV := (sSet 10 (eArgs fTuple (eCons (eArgs fLst' (eLcA (eRange1 (eCons (eArgs m__law_draw (eCons (eVar 1) (eCons (eC (.int 3)) eNil))) eNil)) (gN 11) [11] eYes (eArgs fTup (eCons (eBin fAdd (eC (.str "fixed")) (eArgs fStrI (eCons (eBin fAdd (eC (.int 1)) (eArgs m__law_draw (eCons (eVar 1) (eCons (eC (.int 4)) eNil)))) eNil))) (eCons (eBin fIx (eVar 6) (eC (.int 1))) (eCons (eC (.str "none")) eNil)))))) eNil)))
def sv_law_k05_3b3b2 : SV := (sSet 2 (eBin fAdd (eBin fAdd (eArgs fTup (eCons (eVar 6) eNil)) (eVar 10)) (eArgs fTup (eCons (eArgs m__law_field (eCons (eVar 1) eNil)) eNil))))
def sv_law_k05_3b3 : SV := (sIf (eTest (eBin fEq (eArgs m__law_draw (eCons (eVar 1) (eCons (eC (.int 2)) eNil))) (eC (.int 0)))) (sSeq sv_law_k05_3b3b1
    sv_law_k05_3b3b2) sNil)
def sv_law_k05_3 : SV := (sIf (eTest (eBin fEq (eArgs m__law_draw (eCons (eVar 1) (eCons (eC (.int 2)) eNil))) (eC (.int 0)))) (sSeq sv_law_k05_3b1
    (sSeq sv_law_k05_3b2
    sv_law_k05_3b3)) sNil)
def sv_law_k05_4 : SV := (sSet 3 (eArgs fLst' (eLcA (eRange1 (eCons (eArgs fLen (eCons (eVar 2) eNil)) eNil)) (gN 11) [11] (eTest (eBin fEq (eBin fIx (eBin fIx (eVar 2) (eVar 11)) (eC (.int 0))) (eC (.str "raw")))) (eVar 11))))
def sv_law_k05_5 : SV := (sSet 4 (eC (.bl true)))
def sv_law_k05_6b1b1b1 : SV := (sSet 4 (eC (.bl false)))
def sv_law_k05_6b1b1 : SV := (sIf (eOr (eTest (eBin fIn (eVar 12) (eArgs fTup (eCons (eC (.str "int")) (eCons (eC (.str "raw")) (eCons (eC (.str "closed")) (eCons (eC (.str "counted")) eNil))))))) (eTest (eBin fNe (eVar 14) (eC (.str "none"))))) sv_law_k05_6b1b1b1 sNil)
def sv_law_k05_6b1 : SV := (sFor (eSeq (eSl (eVar 2) (eSomeE (eBin fAdd (eBin fIx (eVar 3) (eC (.int 0))) (eC (.int 1)))) eNoE)) (gT [12, 13, 14]) sv_law_k05_6b1b1)
def sv_law_k05_6 : SV := (sIf (eTest (eBin fNe (eVar 3) (eArgs fLst eNil))) sv_law_k05_6b1 sNil)
def sv_law_k05_7b1 : SV := (sRet (eC (.bl false)))
def sv_law_k05_7 : SV := (sIf (eNot (eTest (eArgs m__law_true (eCons (eArgs m_is_decodable (eCons (eVar 2) eNil)) (eCons (eVar 4) eNil))))) sv_law_k05_7b1 sNil)
def sv_law_k05_8 : SV := (sSet 5 (eArgs m_decode_witness (eCons (eVar 2) eNil)))
def sv_law_k05_9b1 : SV := (sSet 7 (eArgs m__law_row (eCons (eVar 1) (eCons (eVar 2) eNil))))
def sv_law_k05_9b2 : SV := (sRet (eAndV (eBin fIs (eVar 5) (eC .non)) (eBin fEq (eArgs m_decode (eCons (eVar 2) (eCons (eArgs m__law_bytes (eCons (eVar 2) (eCons (eVar 7) eNil))) eNil))) (eVar 7))))
def sv_law_k05_9 : SV := (sIf (eTest (eVar 4)) (sSeq sv_law_k05_9b1
    sv_law_k05_9b2) sNil)
def sv_law_k05_10 : SV := (sAsg (gT [8, 9]) (eVar 5))
def sv_law_k05_11b1 : SV := (sRet (eC (.bl false)))
def sv_law_k05_11 : SV := (sIf (eOr (eTest (eBin fIsNot (eArgs m_is_row (eCons (eVar 2) (eCons (eVar 8) eNil))) (eC (.bl true)))) (eOr (eTest (eBin fIsNot (eArgs m_is_row (eCons (eVar 2) (eCons (eVar 9) eNil))) (eC (.bl true)))) (eTest (eBin fEq (eVar 8) (eVar 9))))) sv_law_k05_11b1 sNil)
def sv_law_k05_12 : SV := (sRet (eAndV (eBin fEq (eArgs m__law_bytes (eCons (eVar 2) (eCons (eVar 8) eNil))) (eArgs m__law_bytes (eCons (eVar 2) (eCons (eVar 9) eNil)))) (eBin fEq (eArgs m_encode (eCons (eVar 2) (eCons (eVar 8) eNil))) (eArgs m_encode (eCons (eVar 2) (eCons (eVar 9) eNil))))))
def sv_law_k05 : SV := (sSeq sv_law_k05_1
    (sSeq sv_law_k05_2
    (sSeq sv_law_k05_3
    (sSeq sv_law_k05_4
    (sSeq sv_law_k05_5
    (sSeq sv_law_k05_6
    (sSeq sv_law_k05_7
    (sSeq sv_law_k05_8
    (sSeq sv_law_k05_9
    (sSeq sv_law_k05_10
    (sSeq sv_law_k05_11
    sv_law_k05_12)))))))))))
def m_law_k05 : List D → List MO → R D := mOf 1 15 sv_law_k05
def sv__law_error : SV := (sSeq (sSet 1 (eArgs fLst (eCons (eUn (fIsX "BadBytes") (eVar 0)) (eCons (eUn (fIsX "BadScheme") (eVar 0)) (eCons (eUn (fIsX "BadRow") (eVar 0)) eNil)))))
    (sSeq (sSet 1 (eBin fAdd (eVar 1) (eArgs fLst (eCons (eUn (fIsX "BadIndex") (eVar 0)) (eCons (eUn (fIsX "BadText") (eVar 0)) (eCons (eUn (fIsX "NotFound") (eVar 0)) eNil))))))
    (sSeq (sIf (eOr (eTest (eBin fNe (eMeth ckL fCount (eVar 1) (eCons (eC (.bl true)) eNil)) (eC (.int 1)))) (eOr (eNot (eTest (eUn (fIsX "KeyBytesError") (eVar 0)))) (eNot (eTest (eUn (fIsX "ValueError") (eVar 0)))))) (sRet (eC (.str "odd"))) sNil)
    (sRet (eBin fIx (eArgs fLst (eCons (eC (.str "bytes")) (eCons (eC (.str "scheme")) (eCons (eC (.str "row")) (eCons (eC (.str "index")) (eCons (eC (.str "text")) (eCons (eC (.str "none")) eNil))))))) (eMeth ckL fIndex (eVar 1) (eCons (eC (.bl true)) eNil)))))))
def m__law_error : List D → List MO → R D := mOf 1 2 sv__law_error
def sv__law_decoded : SV := (sSeq (sSet 2 (eC .non))
    (sSeq (sSet 3 (eC .non))
    (sSeq (sTry xcls 4 3 (sSet 2 (eArgs m_decode (eCons (eVar 0) (eCons (eVar 1) eNil)))))
    (sRet (eIf (eTest (eBin fIs (eVar 3) (eC .non))) (eVar 2) (eArgs m__law_error (eCons (eVar 3) eNil)))))))
def m__law_decoded : List D → List MO → R D := mOf 2 5 sv__law_decoded
def sv__law_string : SV := (sRet (eArgs fTuple (eCons (eArgs fLst' (eLcA (eRange1 (eCons (eArgs m__law_draw (eCons (eVar 0) (eCons (eBin fAdd (eVar 1) (eC (.int 1))) eNil))) eNil)) (gN 2) [2] eYes (eArgs m__law_pick (eCons (eVar 0) (eCons (eArgs fLst (eCons (eC (.int 0)) (eCons (eC (.int 0)) (eCons (eC (.int 1)) (eCons (eC (.int 2)) (eCons (eC (.int 5)) (eCons (eC (.int 6)) (eCons (eC (.int 254)) (eCons (eC (.int 255)) (eCons (eC (.int 255)) (eCons (eArgs m__law_draw (eCons (eVar 0) (eCons (eC (.int 256)) eNil))) eNil))))))))))) eNil))))) eNil)))
def m__law_string : List D → List MO → R D := mOf 2 3 sv__law_string
def sv_law_k06_1 : SV := (sSet 1 (eArgs m__law_start (eCons (eVar 0) eNil)))
def sv_law_k06_2 : SV := (sSet 2 (eArgs m__law_pick (eCons (eVar 1) (eCons (eArgs fLst (eCons (eArgs m__law_good (eCons (eVar 1) eNil)) (eCons (eArgs m__law_scheme (eCons (eVar 1) eNil)) eNil))) eNil))))
def sv_law_k06_3 : SV := (sSet 3 (eArgs m__law_row (eCons (eVar 1) (eCons (eVar 2) eNil))))
def sv_law_k06_4 : SV := (sSet 4 (eArgs m__law_bytes (eCons (eVar 2) (eCons (eVar 3) eNil))))
def sv_law_k06_5 : SV := (sSet 5 (eArgs m__law_decoded (eCons (eVar 2) (eCons (eVar 4) eNil))))
def sv_law_k06_6b1 : SV := (sRet (eBin fEq (eVar 5) (eC (.str "scheme"))))
def sv_law_k06_6 : SV := (sIf (eNot (eTest (eArgs m_is_decodable (eCons (eVar 2) eNil)))) sv_law_k06_6b1 sNil)
def sv_law_k06_7b1 : SV := (sRet (eC (.bl false)))
def sv_law_k06_7 : SV := (sIf (eTest (eBin fNe (eVar 5) (eVar 3))) sv_law_k06_7b1 sNil)
def sv_law_k06_8b1 : SV := (sSet 8 (eArgs m__law_draw (eCons (eVar 1) (eCons (eBin fAdd (eArgs fLen (eCons (eVar 4) eNil)) (eC (.int 1))) eNil))))
def sv_law_k06_8b2 : SV := (sSet 9 (eArgs m__law_pick (eCons (eVar 1) (eCons (eArgs fLst (eCons (eC (.int 0)) (eCons (eC (.int 1)) (eCons (eC (.int 2)) (eCons (eC (.int 127)) (eCons (eC (.int 128)) (eCons (eC (.int 129)) (eCons (eC (.int 254)) (eCons (eC (.int 255)) (eCons (eArgs m__law_draw (eCons (eVar 1) (eCons (eC (.int 256)) eNil))) eNil)))))))))) eNil))))
def sv_law_k06_8b3 : SV := (sSet 7 (eArgs m__law_pick (eCons (eVar 1) (eCons (eArgs fLst (eCons (eBin fAdd (eBin fAdd (eSl (eVar 4) eNoE (eSomeE (eVar 8))) (eArgs fTup (eCons (eVar 9) eNil))) (eSl (eVar 4) (eSomeE (eBin fAdd (eVar 8) (eC (.int 1)))) eNoE)) (eCons (eBin fAdd (eBin fAdd (eSl (eVar 4) eNoE (eSomeE (eVar 8))) (eArgs fTup (eCons (eVar 9) eNil))) (eSl (eVar 4) (eSomeE (eVar 8)) eNoE)) (eCons (eSl (eVar 4) eNoE (eSomeE (eVar 8))) (eCons (eBin fAdd (eSl (eVar 4) eNoE (eSomeE (eVar 8))) (eSl (eVar 4) (eSomeE (eBin fAdd (eVar 8) (eC (.int 1)))) eNoE)) eNil))))) eNil))))
def sv_law_k06_8b4 : SV := (sSet 5 (eArgs m__law_decoded (eCons (eVar 2) (eCons (eVar 7) eNil))))
def sv_law_k06_8b5b1b1 : SV := (sRet (eC (.bl false)))
def sv_law_k06_8b5b1 : SV := (sIf (eOr (eTest (eBin fIsNot (eArgs m_is_row (eCons (eVar 2) (eCons (eVar 5) eNil))) (eC (.bl true)))) (eTest (eBin fNe (eArgs m__law_bytes (eCons (eVar 2) (eCons (eVar 5) eNil))) (eVar 7)))) sv_law_k06_8b5b1b1 sNil)
def sv_law_k06_8b5eb1b1 : SV := (sRet (eC (.bl false)))
def sv_law_k06_8b5eb1 : SV := (sIf (eTest (eBin fEq (eVar 7) (eVar 4))) sv_law_k06_8b5eb1b1 sNil)
def sv_law_k06_8b5 : SV := (sIf (eTest (eBin fNe (eVar 5) (eC (.str "bytes")))) sv_law_k06_8b5b1 sv_law_k06_8b5eb1)
def sv_law_k06_8 : SV := (sFor (eRange1 (eCons (eC (.int 10)) eNil)) (gN 6) (sSeq sv_law_k06_8b1
    (sSeq sv_law_k06_8b2
    (sSeq sv_law_k06_8b3
    (sSeq sv_law_k06_8b4
    sv_law_k06_8b5)))))
def sv_law_k06_9b1b1 : SV := (sRet (eC (.bl false)))
def sv_law_k06_9b1 : SV := (sIf (eTest (eBin fNe (eArgs m__law_decoded (eCons (eArgs fTup (eCons (eArgs fTup (eCons (eC (.str "int")) (eCons (eC (.str "asc")) (eCons (eC (.str "none")) eNil)))) eNil)) (eCons (eVar 7) eNil))) (eC (.str "bytes")))) sv_law_k06_9b1b1 sNil)
def sv_law_k06_9 : SV := (sFor (eSeq (eArgs fLst (eCons (eArgs fTup (eCons (eC (.int 129)) (eCons (eC (.int 0)) eNil))) (eCons (eArgs fTup (eCons (eC (.int 130)) (eCons (eC (.int 0)) (eCons (eC (.int 5)) eNil)))) (eCons (eArgs fTup (eCons (eC (.int 127)) (eCons (eC (.int 255)) eNil))) (eCons (eArgs fTup (eCons (eC (.int 126)) (eCons (eC (.int 255)) (eCons (eC (.int 3)) eNil)))) (eCons (eArgs fTup (eCons (eC (.int 119)) (eCons (eC (.int 1)) (eCons (eC (.int 1)) eNil)))) (eCons (eBin fAdd (eArgs fTup (eCons (eC (.int 137)) eNil)) (eBin fMul (eArgs fTup (eCons (eC (.int 1)) eNil)) (eC (.int 9)))) (eCons (eArgs fTup (eCons (eC (.int 128)) (eCons (eC (.int 128)) eNil))) (eCons (eArgs fTup (eCons (eC (.int 129)) eNil)) eNil)))))))))) (gN 7) sv_law_k06_9b1)
def sv_law_k06_10 : SV := (sSet 7 (eArgs m__law_string (eCons (eVar 1) (eCons (eC (.int 9)) eNil))))
def sv_law_k06_11 : SV := (sSet 5 (eArgs m__law_decoded (eCons (eVar 2) (eCons (eVar 7) eNil))))
def sv_law_k06_12 : SV := (sRet (eOrV (eBin fEq (eVar 5) (eC (.str "bytes"))) (eAndV (eBin fIs (eArgs m_is_row (eCons (eVar 2) (eCons (eVar 5) eNil))) (eC (.bl true))) (eBin fEq (eArgs m__law_bytes (eCons (eVar 2) (eCons (eVar 5) eNil))) (eVar 7)))))
def sv_law_k06 : SV := (sSeq sv_law_k06_1
    (sSeq sv_law_k06_2
    (sSeq sv_law_k06_3
    (sSeq sv_law_k06_4
    (sSeq sv_law_k06_5
    (sSeq sv_law_k06_6
    (sSeq sv_law_k06_7
    (sSeq sv_law_k06_8
    (sSeq sv_law_k06_9
    (sSeq sv_law_k06_10
    (sSeq sv_law_k06_11
    sv_law_k06_12)))))))))))
def m_law_k06 : List D → List MO → R D := mOf 1 10 sv_law_k06
def sv__law_text_k07 : SV := (sSeq (sSet 2 (eArgs fLst (eCons (eC (.int 0)) (eCons (eC (.int 0)) (eCons (eC (.int 0)) (eCons (eC (.int 1)) (eCons (eC (.int 2)) (eCons (eC (.int 97)) (eCons (eC (.int 98)) (eCons (eC (.int 253)) (eCons (eC (.int 254)) (eCons (eC (.int 255)) (eCons (eC (.int 255)) (eCons (eArgs m__law_draw (eCons (eVar 0) (eCons (eC (.int 256)) eNil))) eNil))))))))))))))
    (sRet (eArgs fTupleP (eCons (eArgs fLst' (eLcA (eRange1 (eCons (eArgs m__law_draw (eCons (eVar 0) (eCons (eBin fAdd (eVar 1) (eC (.int 1))) eNil))) eNil)) (gN 3) [3] eYes (eArgs m__law_pick (eCons (eVar 0) (eCons (eVar 2) eNil))))) eNil))))
def m__law_text_k07 : List D → List MO → R D := mOf 2 4 sv__law_text_k07
def sv__law_value_k07_1 : SV := (sAsg (gT [2, 3, 4]) (eVar 1))
def sv__law_value_k07_2b1 : SV := (sRet (eC .non))
def sv__law_value_k07_2 : SV := (sIf (eAnd (eTest (eBin fNe (eVar 4) (eC (.str "none")))) (eTest (eBin fEq (eArgs m__law_draw (eCons (eVar 0) (eCons (eC (.int 4)) eNil))) (eC (.int 0))))) sv__law_value_k07_2b1 sNil)
def sv__law_value_k07_3b1 : SV := (sSet 5 (eArgs m__law_draw (eCons (eVar 0) (eCons (eC (.int 9)) eNil))))
def sv__law_value_k07_3b2 : SV := (sSet 6 (eArgs m__law_pick (eCons (eVar 0) (eCons (eArgs fLst (eCons (eBin fSub (eArgs m__law_power (eCons (eVar 5) eNil)) (eC (.int 1))) (eCons (eArgs m__law_power (eCons (eArgs fMax (eCons (eBin fSub (eVar 5) (eC (.int 1))) (eCons (eC (.int 0)) eNil))) eNil)) (eCons (eArgs m__law_draw (eCons (eVar 0) (eCons (eArgs m__law_power (eCons (eVar 5) eNil)) eNil))) eNil)))) eNil))))
def sv__law_value_k07_3b3 : SV := (sRet (eArgs m__law_pick (eCons (eVar 0) (eCons (eArgs fLst (eCons (eVar 6) (eCons (eBin fSub (eC (.int 0)) (eVar 6)) eNil))) eNil))))
def sv__law_value_k07_3 : SV := (sIf (eTest (eBin fEq (eVar 2) (eC (.str "int")))) (sSeq sv__law_value_k07_3b1
    (sSeq sv__law_value_k07_3b2
    sv__law_value_k07_3b3)) sNil)
def sv__law_value_k07_4b1 : SV := (sRet (eArgs m__law_pick (eCons (eVar 0) (eCons (eArgs fLst (eCons (eC (.int 0)) (eCons (eC (.int 1)) (eCons (eArgs m__law_most (eCons (eVar 2) eNil)) (eCons (eArgs m__law_draw (eCons (eVar 0) (eCons (eBin fAdd (eArgs m__law_most (eCons (eVar 2) eNil)) (eC (.int 1))) eNil))) eNil))))) eNil))))
def sv__law_value_k07_4 : SV := (sIf (eOr (eTest (eBin fEq (eSl (eVar 2) eNoE (eSomeE (eC (.int 5)))) (eC (.str "fixed")))) (eTest (eBin fEq (eSl (eVar 2) eNoE (eSomeE (eC (.int 6)))) (eC (.str "little"))))) sv__law_value_k07_4b1 sNil)
def sv__law_value_k07_5 : SV := (sRet (eUn fWeak (eArgs m__law_text_k07 (eCons (eVar 0) (eCons (eArgs m__law_pick (eCons (eVar 0) (eCons (eArgs fLst (eCons (eC (.int 1)) (eCons (eC (.int 3)) (eCons (eC (.int 9)) eNil)))) eNil))) eNil)))))
def sv__law_value_k07 : SV := (sSeq sv__law_value_k07_1
    (sSeq sv__law_value_k07_2
    (sSeq sv__law_value_k07_3
    (sSeq sv__law_value_k07_4
    sv__law_value_k07_5))))
def m__law_value_k07 : List D → List MO → R D := mOf 2 7 sv__law_value_k07
def sv_law_k07_1 : SV := (sSet 1 (eArgs m__law_start (eCons (eVar 0) eNil)))
def sv_law_k07_2 : SV := (sSet 2 (eArgs fTup (eCons (eC (.str "int")) (eCons (eC (.str "asc")) (eCons (eC (.str "none")) eNil)))))
def sv_law_k07_3 : SV := (sSet 3 (eArgs m__law_value_k07 (eCons (eVar 1) (eCons (eVar 2) eNil))))
def sv_law_k07_4b1 : SV := (sPar 11 12 (eCons (eArgs m_encode_value (eCons (eVar 2) (eCons (eVar 3) eNil))) (eCons (eArgs m_encode_value (eCons (eVar 2) (eCons (eBin fAdd (eVar 3) (eC (.int 1))) eNil))) eNil)))
def sv_law_k07_4b2b1 : SV := (sRet (eC (.bl false)))
def sv_law_k07_4b2 : SV := (sIf (eOr (eNot (eTest (eBin fLt (eVar 11) (eVar 12)))) (eTest (eBin fIsNot (eArgs m_is_value (eCons (eVar 2) (eCons (eBin fAdd (eVar 3) (eC (.int 1))) eNil))) (eC (.bl true))))) sv_law_k07_4b2b1 sNil)
def sv_law_k07_4 : SV := (sIf (eTest (eBin fLt (eArgs fAbs (eCons (eVar 3) eNil)) (eBin fSub (eBin fPow (eC (.int 2)) (eC (.int 64))) (eC (.int 1))))) (sSeq sv_law_k07_4b1
    sv_law_k07_4b2) sNil)
def sv_law_k07_5b1 : SV := (sRet (eC (.bl false)))
def sv_law_k07_5 : SV := (sIf (eAnd (eTest (eBin fGt (eArgs fLen (eCons (eArgs m_encode_value (eCons (eVar 2) (eCons (eVar 3) eNil))) eNil)) (eC (.int 1)))) (eTest (eBin fGt (eArgs m__law_power (eCons (eBin fSub (eArgs fLen (eCons (eArgs m_encode_value (eCons (eVar 2) (eCons (eVar 3) eNil))) eNil)) (eC (.int 2))) eNil)) (eArgs fAbs (eCons (eVar 3) eNil))))) sv_law_k07_5b1 sNil)
def sv_law_k07_6b1 : SV := (sSet 7 (eArgs fTup (eCons (eVar 4) (eCons (eArgs m__law_pick (eCons (eVar 1) (eCons (eArgs fLst (eCons (eC (.str "asc")) (eCons (eC (.str "desc")) eNil))) eNil))) (eCons (eArgs m__law_pick (eCons (eVar 1) (eCons (eArgs fLst (eCons (eC (.str "none")) (eCons (eC (.str "first")) (eCons (eC (.str "last")) eNil)))) eNil))) eNil)))))
def sv_law_k07_6b2 : SV := (sSet 8 (eArgs fCell (eCons (eArgs m__law_value_k07 (eCons (eVar 1) (eCons (eVar 7) eNil))) (eCons (eArgs m__law_value_k07 (eCons (eVar 1) (eCons (eVar 7) eNil))) eNil))))
def sv_law_k07_6b3b1 : SV := (sSub (eVar 8) (eC (.int 1)) (eSl (eBin fAdd (eBin fIx (eVar 8) (eC (.int 0))) (eUn fWeak (eArgs m__law_text_k07 (eCons (eVar 1) (eCons (eC (.int 2)) eNil))))) eNoE (eSomeE (eC (.int 9)))))
def sv_law_k07_6b3 : SV := (sIf (eAnd (eTest (eUn (fIsi "tuple") (eBin fIx (eVar 8) (eC (.int 0))))) (eTest (eBin fEq (eArgs m__law_draw (eCons (eVar 1) (eCons (eC (.int 2)) eNil))) (eC (.int 0))))) sv_law_k07_6b3b1 sNil)
def sv_law_k07_6b4 : SV := (sPar 11 12 (eCons (eArgs m_encode_value (eCons (eVar 7) (eCons (eBin fIx (eVar 8) (eC (.int 0))) eNil))) (eCons (eArgs m_encode_value (eCons (eVar 7) (eCons (eBin fIx (eVar 8) (eC (.int 1))) eNil))) eNil)))
def sv_law_k07_6b5b1 : SV := (sRet (eC (.bl false)))
def sv_law_k07_6b5 : SV := (sIf (eAnd (eTest (eBin fNe (eBin fIx (eVar 8) (eC (.int 0))) (eBin fIx (eVar 8) (eC (.int 1))))) (eTest (eBin fEq (eSl (eVar 12) eNoE (eSomeE (eArgs fLen (eCons (eVar 11) eNil)))) (eVar 11)))) sv_law_k07_6b5b1 sNil)
def sv_law_k07_6b6b1 : SV := (sRet (eC (.bl false)))
def sv_law_k07_6b6 : SV := (sIf (eTest (eBin fNe (eBin fEq (eVar 11) (eVar 12)) (eBin fEq (eBin fIx (eVar 8) (eC (.int 0))) (eBin fIx (eVar 8) (eC (.int 1)))))) sv_law_k07_6b6b1 sNil)
def sv_law_k07_6 : SV := (sFor (eSeq (eArgs fLst (eCons (eC (.str "int")) (eCons (eC (.str "closed")) (eCons (eC (.str "counted")) (eCons (eC (.str "fixed2")) (eCons (eC (.str "little3")) eNil))))))) (gN 4) (sSeq sv_law_k07_6b1
    (sSeq sv_law_k07_6b2
    (sSeq sv_law_k07_6b3
    (sSeq sv_law_k07_6b4
    (sSeq sv_law_k07_6b5
    sv_law_k07_6b6))))))
def sv_law_k07_7 : SV := (sPar 9 10 (eCons (eArgs m__law_text_k07 (eCons (eVar 1) (eCons (eC (.int 9)) eNil))) (eCons (eArgs m__law_text_k07 (eCons (eVar 1) (eCons (eC (.int 9)) eNil))) eNil)))
def sv_law_k07_8 : SV := (sSet 5 (eArgs fTup (eCons (eC (.str "raw")) (eCons (eArgs m__law_pick (eCons (eVar 1) (eCons (eArgs fLst (eCons (eC (.str "asc")) (eCons (eC (.str "desc")) eNil))) eNil))) (eCons (eC (.str "none")) eNil)))))
def sv_law_k07_9b1 : SV := (sRet (eC (.bl false)))
def sv_law_k07_9 : SV := (sIf (eTest (eBin fNe (eArgs m_encode_value (eCons (eVar 5) (eCons (eBin fAdd (eUn fWeak (eVar 9)) (eUn fWeak (eVar 10))) eNil))) (eBin fAdd (eArgs m_encode_value (eCons (eVar 5) (eCons (eUn fWeak (eVar 9)) eNil))) (eArgs m_encode_value (eCons (eVar 5) (eCons (eUn fWeak (eVar 10)) eNil)))))) sv_law_k07_9b1 sNil)
def sv_law_k07_10 : SV := (sSet 6 (eArgs fTup (eCons (eC (.str "closed")) (eCons (eC (.str "asc")) (eCons (eC (.str "none")) eNil)))))
def sv_law_k07_11 : SV := (sPar 11 12 (eCons (eArgs m_encode_value (eCons (eVar 6) (eCons (eUn fWeak (eVar 9)) eNil))) (eCons (eArgs m_encode_value (eCons (eVar 6) (eCons (eUn fWeak (eVar 10)) eNil))) eNil)))
def sv_law_k07_12 : SV := (sRet (eAndV (eBin fEq (eBin fLt (eVar 11) (eVar 12)) (eBin fLt (eUn fWeak (eVar 9)) (eUn fWeak (eVar 10)))) (eBin fEq (eArgs fLen (eCons (eVar 11) eNil)) (eBin fAdd (eBin fAdd (eArgs fLen (eCons (eUn fWeak (eVar 9)) eNil)) (eMeth ckP fCountP (eVar 9) (eCons (eC (.int 0)) eNil))) (eC (.int 2))))))
def sv_law_k07 : SV := (sSeq sv_law_k07_1
    (sSeq sv_law_k07_2
    (sSeq sv_law_k07_3
    (sSeq sv_law_k07_4
    (sSeq sv_law_k07_5
    (sSeq sv_law_k07_6
    (sSeq sv_law_k07_7
    (sSeq sv_law_k07_8
    (sSeq sv_law_k07_9
    (sSeq sv_law_k07_10
    (sSeq sv_law_k07_11
    sv_law_k07_12)))))))))))
def m_law_k07 : List D → List MO → R D := mOf 1 13 sv_law_k07
def sv__law_pair : SV := (sSeq (sSet 1 (eArgs m__law_string (eCons (eVar 0) (eCons (eC (.int 3)) eNil))))
    (sSeq (sPar 2 3 (eCons (eBin fAdd (eVar 1) (eArgs m__law_string (eCons (eVar 0) (eCons (eC (.int 3)) eNil)))) (eCons (eBin fAdd (eVar 1) (eArgs m__law_string (eCons (eVar 0) (eCons (eC (.int 3)) eNil)))) eNil)))
    (sSeq (sIf (eTest (eBin fEq (eArgs m__law_draw (eCons (eVar 0) (eCons (eC (.int 4)) eNil))) (eC (.int 0)))) (sSet 3 (eBin fAdd (eVar 2) (eArgs m__law_string (eCons (eVar 0) (eCons (eC (.int 2)) eNil))))) sNil)
    (sSeq (sIf (eTest (eBin fEq (eVar 2) (eVar 3))) (sSet 3 (eBin fAdd (eVar 2) (eArgs fTup (eCons (eArgs m__law_draw (eCons (eVar 0) (eCons (eC (.int 3)) eNil))) eNil)))) sNil)
    (sRet (eArgs fTup (eCons (eArgs fMin (eCons (eVar 2) (eCons (eVar 3) eNil))) (eCons (eArgs fMax (eCons (eVar 2) (eCons (eVar 3) eNil))) eNil))))))))
def m__law_pair : List D → List MO → R D := mOf 1 4 sv__law_pair
def sv_check_pair : SV := (sSeq (sExpr (eArgs m_check_bytes (eCons (eVar 0) eNil)))
    (sSeq (sExpr (eArgs m_check_bytes (eCons (eVar 1) eNil)))
    (sIf (eNot (eTest (eBin fLt (eVar 0) (eVar 1)))) (sRaise "BadBytes") sNil)))
def m_check_pair : List D → List MO → R D := mOf 2 2 sv_check_pair
def sv_common_length : SV := (sSeq (sSet 2 (eC (.int 0)))
    (sSeq (sWhile (eAnd (eTest (eBin fLt (eVar 2) (eArgs fLen (eCons (eVar 0) eNil)))) (eAnd (eTest (eBin fLt (eVar 2) (eArgs fLen (eCons (eVar 1) eNil)))) (eTest (eBin fEq (eBin fIx (eVar 0) (eVar 2)) (eBin fIx (eVar 1) (eVar 2)))))) (sAug 2 fIAdd (eC (.int 1))))
    (sRet (eVar 2))))
def m_common_length : List D → List MO → R D := mOf 2 3 sv_common_length
def sv_separator : SV := (sSeq (sExpr (eArgs m_check_pair (eCons (eVar 0) (eCons (eVar 1) eNil))))
    (sRet (eSl (eVar 1) eNoE (eSomeE (eBin fAdd (eArgs m_common_length (eCons (eVar 0) (eCons (eVar 1) eNil))) (eC (.int 1)))))))
def m_separator : List D → List MO → R D := mOf 2 2 sv_separator
def sv__law_shorter_1 : SV := (sSet 3 (eArgs fCell eNil))
def sv__law_shorter_2b1b1 : SV := (sSet 6 (eSl (eVar 4) eNoE (eSomeE (eVar 5))))
def sv__law_shorter_2b1b2 : SV := (sSet 7 (eBin fSub (eVar 2) (eVar 5)))
def sv__law_shorter_2b1b3b1 : SV := (sExpr (eMeth ckL fAppend (eVar 3) (eCons (eVar 6) eNil)))
def sv__law_shorter_2b1b3eb1 : SV := (sSet 8 (eIf (eTest (eBin fLt (eVar 5) (eArgs fLen (eCons (eVar 4) eNil)))) (eBin fIx (eVar 4) (eVar 5)) (eC (.int 0))))
def sv__law_shorter_2b1b3eb2b1 : SV := (sExpr (eMeth ckL fAppend (eVar 3) (eCons (eBin fAdd (eBin fAdd (eVar 6) (eArgs fTup (eCons (eVar 9) eNil))) (eBin fMul (eArgs fTup (eCons (eC (.int 0)) eNil)) (eBin fSub (eVar 7) (eC (.int 1))))) eNil)))
def sv__law_shorter_2b1b3eb2b2 : SV := (sExpr (eMeth ckL fAppend (eVar 3) (eCons (eBin fAdd (eBin fAdd (eVar 6) (eArgs fTup (eCons (eVar 9) eNil))) (eBin fMul (eArgs fTup (eCons (eC (.int 255)) eNil)) (eBin fSub (eVar 7) (eC (.int 1))))) eNil)))
def sv__law_shorter_2b1b3eb2 : SV := (sFor (eSeq (eUn fSortSet (eArgs fLst (eCons (eC (.int 0)) (eCons (eC (.int 255)) (eCons (eArgs fMax (eCons (eC (.int 0)) (eCons (eBin fSub (eVar 8) (eC (.int 1))) eNil))) (eCons (eArgs fMin (eCons (eC (.int 255)) (eCons (eBin fAdd (eVar 8) (eC (.int 1))) eNil))) eNil))))))) (gN 9) (sSeq sv__law_shorter_2b1b3eb2b1
    sv__law_shorter_2b1b3eb2b2))
def sv__law_shorter_2b1b3 : SV := (sIf (eTest (eBin fEq (eVar 7) (eC (.int 0)))) sv__law_shorter_2b1b3b1 (sSeq sv__law_shorter_2b1b3eb1
    sv__law_shorter_2b1b3eb2))
def sv__law_shorter_2b1 : SV := (sFor (eRange1 (eCons (eBin fAdd (eArgs fMin (eCons (eArgs fLen (eCons (eVar 4) eNil)) (eCons (eVar 2) eNil))) (eC (.int 1))) eNil)) (gN 5) (sSeq sv__law_shorter_2b1b1
    (sSeq sv__law_shorter_2b1b2
    sv__law_shorter_2b1b3)))
def sv__law_shorter_2 : SV := (sFor (eSeq (eArgs fLst (eCons (eVar 0) (eCons (eVar 1) eNil)))) (gN 4) sv__law_shorter_2b1)
def sv__law_shorter_3 : SV := (sRet (eVar 3))
def sv__law_shorter : SV := (sSeq sv__law_shorter_1
    (sSeq sv__law_shorter_2
    sv__law_shorter_3))
def m__law_shorter : List D → List MO → R D := mOf 3 10 sv__law_shorter
def sv_successor : SV := (sSeq (sExpr (eArgs m_check_bytes (eCons (eVar 0) eNil)))
    (sRet (eBin fAdd (eVar 0) (eArgs fTup (eCons (eC (.int 0)) eNil)))))
def m_successor : List D → List MO → R D := mOf 1 1 sv_successor
def sv_law_k08_1 : SV := (sSet 1 (eArgs m__law_start (eCons (eVar 0) eNil)))
def sv_law_k08_2 : SV := (sAsg (gT [6, 7]) (eArgs m__law_pair (eCons (eVar 1) eNil)))
def sv_law_k08_3 : SV := (sSet 2 (eArgs m_separator (eCons (eVar 6) (eCons (eVar 7) eNil))))
def sv_law_k08_4b1 : SV := (sRet (eC (.bl false)))
def sv_law_k08_4 : SV := (sIf (eOr (eNot (eTest (eChain fLt fLe (eVar 6) (eVar 2) (eVar 7)))) (eTest (eBin fNe (eVar 2) (eSl (eVar 7) eNoE (eSomeE (eArgs fLen (eCons (eVar 2) eNil))))))) sv_law_k08_4b1 sNil)
def sv_law_k08_5 : SV := (sSet 3 (eArgs fLen (eCons (eArgs fLst' (eLcA (eRange1 (eCons (eArgs fMin (eCons (eArgs fLen (eCons (eVar 6) eNil)) (eCons (eArgs fLen (eCons (eVar 7) eNil)) eNil))) eNil)) (gN 8) [8] (eTest (eBin fEq (eSl (eVar 6) eNoE (eSomeE (eBin fAdd (eVar 8) (eC (.int 1))))) (eSl (eVar 7) eNoE (eSomeE (eBin fAdd (eVar 8) (eC (.int 1))))))) (eVar 8))) eNil)))
def sv_law_k08_6b1 : SV := (sRet (eC (.bl false)))
def sv_law_k08_6 : SV := (sIf (eTest (eBin fNe (eArgs fLen (eCons (eVar 2) eNil)) (eBin fAdd (eVar 3) (eC (.int 1))))) sv_law_k08_6b1 sNil)
def sv_law_k08_7b1b1 : SV := (sRet (eC (.bl false)))
def sv_law_k08_7b1 : SV := (sIf (eTest (eBin fNe (eArgs fLst' (eLcA (eSeq (eArgs m__law_shorter (eCons (eVar 6) (eCons (eVar 7) (eCons (eVar 4) eNil))))) (gN 9) [9] (eTest (eChain fLt fLe (eVar 6) (eVar 9) (eVar 7))) (eVar 9))) (eArgs fLst eNil))) sv_law_k08_7b1b1 sNil)
def sv_law_k08_7 : SV := (sFor (eRange1 (eCons (eArgs fLen (eCons (eVar 2) eNil)) eNil)) (gN 4) sv_law_k08_7b1)
def sv_law_k08_8b1 : SV := (sRet (eC (.bl false)))
def sv_law_k08_8 : SV := (sIf (eOr (eTest (eBin fNe (eArgs m_successor (eCons (eVar 6) eNil)) (eBin fAdd (eVar 6) (eArgs fTup (eCons (eC (.int 0)) eNil))))) (eNot (eTest (eChain fLt fLe (eVar 6) (eArgs m_successor (eCons (eVar 6) eNil)) (eVar 7))))) sv_law_k08_8b1 sNil)
def sv_law_k08_9 : SV := (sSet 5 (eArgs m__law_string (eCons (eVar 1) (eCons (eC (.int 6)) eNil))))
def sv_law_k08_10 : SV := (sRet (eUn fNot (eChain fLt fLt (eVar 6) (eVar 5) (eArgs m_successor (eCons (eVar 6) eNil)))))
def sv_law_k08 : SV := (sSeq sv_law_k08_1
    (sSeq sv_law_k08_2
    (sSeq sv_law_k08_3
    (sSeq sv_law_k08_4
    (sSeq sv_law_k08_5
    (sSeq sv_law_k08_6
    (sSeq sv_law_k08_7
    (sSeq sv_law_k08_8
    (sSeq sv_law_k08_9
    sv_law_k08_10)))))))))
def m_law_k08 : List D → List MO → R D := mOf 1 10 sv_law_k08
def sv_above : SV := (sSeq (sFor (eEnum (eCons (eVar 0) eNil)) (gT [1, 2]) (sIf (eTest (eBin fLt (eVar 2) (eC (.int 255)))) (sRet (eBin fAdd (eSl (eVar 0) eNoE (eSomeE (eVar 1))) (eArgs fTup (eCons (eBin fAdd (eVar 2) (eC (.int 1))) eNil)))) sNil))
    (sRet (eBin fAdd (eVar 0) (eArgs fTup (eCons (eC (.int 0)) eNil)))))
def m_above : List D → List MO → R D := mOf 1 3 sv_above
def sv_between : SV := (sSeq (sExpr (eArgs m_check_pair (eCons (eVar 0) (eCons (eVar 1) eNil))))
    (sSeq (sIf (eTest (eBin fEq (eVar 1) (eBin fAdd (eVar 0) (eArgs fTup (eCons (eC (.int 0)) eNil))))) (sRaise "NotFound") sNil)
    (sSeq (sSet 2 (eArgs m_common_length (eCons (eVar 0) (eCons (eVar 1) eNil))))
    (sSeq (sPar 3 4 (eCons (eSl (eVar 0) eNoE (eSomeE (eVar 2))) (eCons (eBin fIx (eVar 1) (eVar 2)) eNil)))
    (sSeq (sIf (eTest (eBin fEq (eVar 2) (eArgs fLen (eCons (eVar 0) eNil)))) (sRet (eBin fAdd (eVar 3) (eArgs fTup (eCons (eIf (eTest (eBin fGt (eArgs fLen (eCons (eVar 1) eNil)) (eBin fAdd (eVar 2) (eC (.int 1))))) (eVar 4) (eBin fSub (eVar 4) (eC (.int 1)))) eNil)))) sNil)
    (sSeq (sIf (eOr (eTest (eBin fGt (eBin fSub (eVar 4) (eBin fIx (eVar 0) (eVar 2))) (eC (.int 1)))) (eTest (eBin fGt (eArgs fLen (eCons (eVar 1) eNil)) (eBin fAdd (eVar 2) (eC (.int 1)))))) (sRet (eBin fAdd (eVar 3) (eArgs fTup (eCons (eBin fAdd (eBin fIx (eVar 0) (eVar 2)) (eC (.int 1))) eNil)))) sNil)
    (sRet (eBin fAdd (eBin fAdd (eVar 3) (eArgs fTup (eCons (eBin fIx (eVar 0) (eVar 2)) eNil))) (eArgs m_above (eCons (eSl (eVar 0) (eSomeE (eBin fAdd (eVar 2) (eC (.int 1)))) eNoE) eNil))))))))))
def m_between : List D → List MO → R D := mOf 2 5 sv_between
def sv__law_told : SV := (sSeq (sSet 2 (eC .non))
    (sSeq (sSet 3 (eC .non))
    (sSeq (sTry xcls 4 3 (sSet 2 (eArgs m_between (eCons (eVar 0) (eCons (eVar 1) eNil)))))
    (sRet (eIf (eTest (eBin fIs (eVar 3) (eC .non))) (eVar 2) (eArgs m__law_error (eCons (eVar 3) eNil)))))))
def m__law_told : List D → List MO → R D := mOf 2 5 sv__law_told
def sv__law_least : SV := (sSeq (sSet 2 (eArgs fLen (eCons (eArgs fLst' (eLcA (eRange1 (eCons (eArgs fMin (eCons (eArgs fLen (eCons (eVar 0) eNil)) (eCons (eArgs fLen (eCons (eVar 1) eNil)) eNil))) eNil)) (gN 6) [6] (eTest (eBin fEq (eSl (eVar 0) eNoE (eSomeE (eBin fAdd (eVar 6) (eC (.int 1))))) (eSl (eVar 1) eNoE (eSomeE (eBin fAdd (eVar 6) (eC (.int 1))))))) (eVar 6))) eNil)))
    (sSeq (sFor (eRange2 (eCons (eBin fAdd (eVar 2) (eC (.int 1))) (eCons (eBin fAdd (eBin fAdd (eArgs fLen (eCons (eVar 0) eNil)) (eArgs fLen (eCons (eVar 1) eNil))) (eC (.int 2))) eNil))) (gN 3) (sSeq (sSet 4 (eBin fAdd (eArgs fLst' (eLcA (eRange2 (eCons (eVar 2) (eCons (eBin fAdd (eArgs fMin (eCons (eArgs fLen (eCons (eVar 0) eNil)) (eCons (eVar 3) eNil))) (eC (.int 1))) eNil))) (gN 8) [8] eYes (eSl (eVar 0) eNoE (eSomeE (eVar 8))))) (eArgs fLst' (eLcA (eRange2 (eCons (eVar 2) (eCons (eBin fAdd (eArgs fMin (eCons (eArgs fLen (eCons (eVar 1) eNil)) (eCons (eVar 3) eNil))) (eC (.int 1))) eNil))) (gN 8) [8] eYes (eSl (eVar 1) eNoE (eSomeE (eVar 8)))))))
    (sFor (eSeq (eVar 4)) (gN 5) (sIf (eTest (eBin fEq (eArgs fLen (eCons (eVar 5) eNil)) (eVar 3))) (sIf (eTest (eChain fLt fLt (eVar 0) (eVar 5) (eVar 1))) (sRet (eVar 3)) sNil) (sFor (eRange1 (eCons (eC (.int 256)) eNil)) (gN 7) (sFor (eSeq (eArgs fTup (eCons (eC (.int 0)) (eCons (eC (.int 255)) eNil)))) (gN 9) (sIf (eTest (eChain fLt fLt (eVar 0) (eBin fAdd (eBin fAdd (eVar 5) (eArgs fTup (eCons (eVar 7) eNil))) (eBin fMul (eArgs fTup (eCons (eVar 9) eNil)) (eBin fSub (eBin fSub (eVar 3) (eArgs fLen (eCons (eVar 5) eNil))) (eC (.int 1))))) (eVar 1))) (sRet (eVar 3)) sNil)))))))
    (sRet (eC .non))))
def m__law_least : List D → List MO → R D := mOf 2 10 sv__law_least
def sv_law_k09_1 : SV := (sSet 1 (eArgs m__law_start (eCons (eVar 0) eNil)))
def sv_law_k09_2 : SV := (sAsg (gT [5, 6]) (eArgs m__law_pair (eCons (eVar 1) eNil)))
def sv_law_k09_3 : SV := (sSet 2 (eArgs m__law_draw (eCons (eVar 1) (eCons (eC (.int 5)) eNil))))
def sv_law_k09_4b1 : SV := (sSet 6 (eBin fAdd (eSl (eVar 5) eNoE (eSomeE (eUn fNeg (eC (.int 1))))) (eArgs fTup (eCons (eBin fAdd (eBin fIx (eVar 5) (eUn fNeg (eC (.int 1)))) (eC (.int 1))) eNil))))
def sv_law_k09_4 : SV := (sIf (eAnd (eTest (eBin fEq (eVar 2) (eC (.int 0)))) (eAnd (eTest (eBin fNe (eVar 5) (eArgs fTup eNil))) (eTest (eBin fLt (eBin fIx (eVar 5) (eUn fNeg (eC (.int 1)))) (eC (.int 255)))))) sv_law_k09_4b1 sNil)
def sv_law_k09_5b1 : SV := (sSet 6 (eBin fAdd (eVar 5) (eBin fMul (eArgs fTup (eCons (eC (.int 0)) eNil)) (eBin fAdd (eC (.int 1)) (eArgs m__law_draw (eCons (eVar 1) (eCons (eC (.int 2)) eNil)))))))
def sv_law_k09_5 : SV := (sIf (eTest (eBin fEq (eVar 2) (eC (.int 1)))) sv_law_k09_5b1 sNil)
def sv_law_k09_6b1 : SV := (sSet 7 (eBin fMul (eArgs fTup (eCons (eArgs m__law_pick (eCons (eVar 1) (eCons (eArgs fLst (eCons (eC (.int 255)) (eCons (eC (.int 255)) (eCons (eArgs m__law_draw (eCons (eVar 1) (eCons (eC (.int 256)) eNil))) eNil)))) eNil))) eNil)) (eBin fAdd (eC (.int 1)) (eArgs m__law_draw (eCons (eVar 1) (eCons (eC (.int 2)) eNil))))))
def sv_law_k09_6b2 : SV := (sPar 5 6 (eCons (eBin fAdd (eBin fAdd (eVar 5) (eArgs fTup (eCons (eC (.int 5)) eNil))) (eVar 7)) (eCons (eBin fAdd (eBin fAdd (eVar 5) (eArgs fTup (eCons (eC (.int 6)) eNil))) (eArgs m__law_pick (eCons (eVar 1) (eCons (eArgs fLst (eCons (eArgs fTup eNil) (eCons (eArgs fTup eNil) (eCons (eArgs fTup (eCons (eC (.int 0)) eNil)) (eCons (eVar 7) eNil))))) eNil)))) eNil)))
def sv_law_k09_6 : SV := (sIf (eTest (eBin fEq (eVar 2) (eC (.int 2)))) (sSeq sv_law_k09_6b1
    sv_law_k09_6b2) sNil)
def sv_law_k09_7 : SV := (sSet 3 (eArgs m__law_told (eCons (eVar 5) (eCons (eVar 6) eNil))))
def sv_law_k09_8 : SV := (sSet 4 (eArgs m__law_least (eCons (eVar 5) (eCons (eVar 6) eNil))))
def sv_law_k09_9b1 : SV := (sRet (eC (.bl false)))
def sv_law_k09_9 : SV := (sIf (eTest (eBin fNe (eBin fIs (eVar 4) (eC .non)) (eBin fEq (eVar 6) (eBin fAdd (eVar 5) (eArgs fTup (eCons (eC (.int 0)) eNil)))))) sv_law_k09_9b1 sNil)
def sv_law_k09_10b1 : SV := (sRet (eBin fEq (eVar 3) (eC (.str "none"))))
def sv_law_k09_10 : SV := (sIf (eTest (eBin fIs (eVar 4) (eC .non))) sv_law_k09_10b1 sNil)
def sv_law_k09_11 : SV := (sRet (eAndV (eBin fIs (eArgs m_is_bytes (eCons (eVar 3) eNil)) (eC (.bl true))) (eAndV (eChain fLt fLt (eVar 5) (eVar 3) (eVar 6)) (eBin fEq (eArgs fLen (eCons (eVar 3) eNil)) (eVar 4)))))
def sv_law_k09 : SV := (sSeq sv_law_k09_1
    (sSeq sv_law_k09_2
    (sSeq sv_law_k09_3
    (sSeq sv_law_k09_4
    (sSeq sv_law_k09_5
    (sSeq sv_law_k09_6
    (sSeq sv_law_k09_7
    (sSeq sv_law_k09_8
    (sSeq sv_law_k09_9
    (sSeq sv_law_k09_10
    sv_law_k09_11))))))))))
def m_law_k09 : List D → List MO → R D := mOf 1 8 sv_law_k09
def sv_end_of : SV := (sSeq (sSet 1 (eBin fSub (eArgs fLen (eCons (eVar 0) eNil)) (eC (.int 1))))
    (sSeq (sWhile (eAnd (eTest (eBin fGe (eVar 1) (eC (.int 0)))) (eTest (eBin fEq (eBin fIx (eVar 0) (eVar 1)) (eC (.int 255))))) (sAug 1 fISub (eC (.int 1))))
    (sRet (eIf (eTest (eBin fLt (eVar 1) (eC (.int 0)))) (eC .non) (eBin fAdd (eSl (eVar 0) eNoE (eSomeE (eVar 1))) (eArgs fTup (eCons (eBin fAdd (eBin fIx (eVar 0) (eVar 1)) (eC (.int 1))) eNil)))))))
def m_end_of : List D → List MO → R D := mOf 1 2 sv_end_of
def sv_prefix_end : SV := (sSeq (sExpr (eArgs m_check_bytes (eCons (eVar 0) eNil)))
    (sRet (eArgs m_end_of (eCons (eVar 0) eNil))))
def m_prefix_end : List D → List MO → R D := mOf 1 1 sv_prefix_end
def sv_prefix_range : SV := (sSeq (sExpr (eArgs m_check_bytes (eCons (eVar 0) eNil)))
    (sRet (eArgs fTup (eCons (eVar 0) (eCons (eArgs m_end_of (eCons (eVar 0) eNil)) eNil)))))
def m_prefix_range : List D → List MO → R D := mOf 1 1 sv_prefix_range
def sv_law_k10_1 : SV := (sSet 1 (eArgs m__law_start (eCons (eVar 0) eNil)))
def sv_law_k10_2 : SV := (sSet 2 (eArgs m__law_string (eCons (eVar 1) (eCons (eC (.int 5)) eNil))))
def sv_law_k10_3b1 : SV := (sSet 2 (eBin fAdd (eSl (eVar 2) eNoE (eSomeE (eC (.int 1)))) (eBin fMul (eArgs fTup (eCons (eC (.int 255)) eNil)) (eArgs m__law_draw (eCons (eVar 1) (eCons (eC (.int 3)) eNil))))))
def sv_law_k10_3 : SV := (sIf (eTest (eBin fEq (eArgs m__law_draw (eCons (eVar 1) (eCons (eC (.int 4)) eNil))) (eC (.int 0)))) sv_law_k10_3b1 sNil)
def sv_law_k10_4 : SV := (sSet 3 (eArgs m_prefix_end (eCons (eVar 2) eNil)))
def sv_law_k10_5b1 : SV := (sRet (eC (.bl false)))
def sv_law_k10_5 : SV := (sIf (eOr (eTest (eBin fNe (eArgs m_prefix_range (eCons (eVar 2) eNil)) (eArgs fTup (eCons (eVar 2) (eCons (eVar 3) eNil))))) (eTest (eBin fNe (eBin fIs (eVar 3) (eC .non)) (eBin fEq (eArgs fLst' (eLcA (eSeq (eVar 2)) (gN 9) [9] (eTest (eBin fLt (eVar 9) (eC (.int 255)))) (eVar 9))) (eArgs fLst eNil))))) sv_law_k10_5b1 sNil)
def sv_law_k10_6 : SV := (sSet 4 (eBin fAddC (eArgs fLst' (eLcA (eRange1 (eCons (eC (.int 3)) eNil)) (gN 8) [8] eYes (eBin fAdd (eVar 2) (eArgs m__law_string (eCons (eVar 1) (eCons (eC (.int 4)) eNil)))))) (eArgs fLst (eCons (eBin fAdd (eVar 2) (eBin fMul (eArgs fTup (eCons (eC (.int 255)) eNil)) (eC (.int 6)))) (eCons (eVar 2) eNil)))))
def sv_law_k10_7 : SV := (sSet 4 (eBin fAddC (eVar 4) (eArgs fLst' (eLcA (eRange1 (eCons (eC (.int 6)) eNil)) (gN 8) [8] eYes (eArgs m__law_string (eCons (eVar 1) (eCons (eC (.int 6)) eNil)))))))
def sv_law_k10_8b1 : SV := (sSet 4 (eBin fAddC (eVar 4) (eArgs fLst (eCons (eSl (eVar 2) eNoE (eSomeE (eUn fNeg (eC (.int 1))))) (eCons (eBin fAdd (eBin fAdd (eSl (eVar 2) eNoE (eSomeE (eUn fNeg (eC (.int 1))))) (eArgs fTup (eCons (eArgs fMax (eCons (eC (.int 0)) (eCons (eBin fSub (eBin fIx (eVar 2) (eUn fNeg (eC (.int 1)))) (eC (.int 1))) eNil))) eNil))) (eBin fMul (eArgs fTup (eCons (eC (.int 255)) eNil)) (eC (.int 4)))) eNil)))))
def sv_law_k10_8b2 : SV := (sExpr (eMeth ckL fAppend (eVar 4) (eCons (eBin fAdd (eSl (eVar 2) eNoE (eSomeE (eUn fNeg (eC (.int 1))))) (eArgs fTup (eCons (eArgs fMin (eCons (eC (.int 255)) (eCons (eBin fAdd (eBin fIx (eVar 2) (eUn fNeg (eC (.int 1)))) (eC (.int 1))) eNil))) eNil))) eNil)))
def sv_law_k10_8 : SV := (sIf (eTest (eBin fNe (eVar 2) (eArgs fTup eNil))) (sSeq sv_law_k10_8b1
    sv_law_k10_8b2) sNil)
def sv_law_k10_9b1 : SV := (sSet 7 (eAndV (eBin fLe (eVar 2) (eVar 5)) (eOrV (eBin fIs (eVar 3) (eC .non)) (eBin fLt (eVar 5) (eVar 3)))))
def sv_law_k10_9b2b1 : SV := (sRet (eC (.bl false)))
def sv_law_k10_9b2 : SV := (sIf (eTest (eBin fNe (eVar 7) (eBin fEq (eSl (eVar 5) eNoE (eSomeE (eArgs fLen (eCons (eVar 2) eNil)))) (eVar 2)))) sv_law_k10_9b2b1 sNil)
def sv_law_k10_9 : SV := (sFor (eSeq (eVar 4)) (gN 5) (sSeq sv_law_k10_9b1
    sv_law_k10_9b2))
def sv_law_k10_10b1 : SV := (sRet (eC (.bl true)))
def sv_law_k10_10 : SV := (sIf (eTest (eBin fIs (eVar 3) (eC .non))) sv_law_k10_10b1 sNil)
def sv_law_k10_11b1 : SV := (sRet (eC (.bl false)))
def sv_law_k10_11 : SV := (sIf (eOr (eTest (eBin fEq (eSl (eVar 3) eNoE (eSomeE (eArgs fLen (eCons (eVar 2) eNil)))) (eVar 2))) (eNot (eTest (eBin fLt (eBin fAdd (eVar 2) (eBin fMul (eArgs fTup (eCons (eC (.int 255)) eNil)) (eC (.int 9)))) (eVar 3))))) sv_law_k10_11b1 sNil)
def sv_law_k10_12 : SV := (sSet 6 (eArgs fLst' (eLcA (eSeq (eVar 4)) (gN 5) [5] (eAnd (eTest (eChain fLt fLt (eVar 2) (eVar 5) (eVar 3))) (eTest (eBin fNe (eSl (eVar 5) eNoE (eSomeE (eArgs fLen (eCons (eVar 2) eNil)))) (eVar 2)))) (eVar 5))))
def sv_law_k10_13 : SV := (sRet (eAndV (eBin fEq (eVar 6) (eArgs fLst eNil)) (eAndV (eBin fGt (eBin fIx (eVar 3) (eUn fNeg (eC (.int 1)))) (eC (.int 0))) (eBin fLe (eArgs fLen (eCons (eVar 3) eNil)) (eArgs fLen (eCons (eVar 2) eNil))))))
def sv_law_k10 : SV := (sSeq sv_law_k10_1
    (sSeq sv_law_k10_2
    (sSeq sv_law_k10_3
    (sSeq sv_law_k10_4
    (sSeq sv_law_k10_5
    (sSeq sv_law_k10_6
    (sSeq sv_law_k10_7
    (sSeq sv_law_k10_8
    (sSeq sv_law_k10_9
    (sSeq sv_law_k10_10
    (sSeq sv_law_k10_11
    (sSeq sv_law_k10_12
    sv_law_k10_13))))))))))))
def m_law_k10 : List D → List MO → R D := mOf 1 10 sv_law_k10
def sv_check_ordered : SV := (sIf (eTest (eBin fIsNot (eArgs m_order_witness (eCons (eVar 0) eNil)) (eC .non))) (sRaise "BadScheme") sNil)
def m_check_ordered : List D → List MO → R D := mOf 1 1 sv_check_ordered
def sv_check_values : SV := (sSeq (sIf (eOr (eNot (eTest (eUn (fIsi "tuple") (eVar 1)))) (eTest (eBin fGe (eArgs fLen (eCons (eVar 1) eNil)) (eArgs fLen (eCons (eVar 0) eNil))))) (sRaise "BadRow") sNil)
    (sIf (eNot (eTest (eArgs fAll (eCons (eArgs fLst' (eLcA (eZip2 (eCons (eVar 0) (eCons (eVar 1) eNil))) (gT [2, 3]) [2, 3] eYes (eArgs m_is_value (eCons (eVar 2) (eCons (eVar 3) eNil))))) eNil)))) (sRaise "BadRow") sNil))
def m_check_values : List D → List MO → R D := mOf 2 4 sv_check_values
def sv_row_range : SV := (sSeq (sExpr (eArgs m_check_ordered (eCons (eVar 0) eNil)))
    (sSeq (sExpr (eArgs m_check_values (eCons (eVar 0) (eCons (eVar 1) eNil))))
    (sSeq (sSet 2 (eArgs m_joined (eCons (eSl (eVar 0) eNoE (eSomeE (eArgs fLen (eCons (eVar 1) eNil)))) (eCons (eVar 1) eNil))))
    (sRet (eArgs fTup (eCons (eVar 2) (eCons (eArgs m_end_of (eCons (eVar 2) eNil)) eNil)))))))
def m_row_range : List D → List MO → R D := mOf 2 3 sv_row_range
def sv_in_range : SV := (sSeq (sAsg (gT [2, 3]) (eVar 1))
    (sRet (eAndV (eBin fLe (eVar 2) (eVar 0)) (eOrV (eBin fIs (eVar 3) (eC .non)) (eBin fLt (eVar 0) (eVar 3))))))
def m_in_range : List D → List MO → R D := mOf 2 4 sv_in_range
def sv_starts_with : SV := (sSeq (sSet 3 (eArgs m_row_range (eCons (eVar 0) (eCons (eVar 1) eNil))))
    (sSeq (sExpr (eArgs m_check_bytes (eCons (eVar 2) eNil)))
    (sRet (eArgs m_in_range (eCons (eVar 2) (eCons (eVar 3) eNil))))))
def m_starts_with : List D → List MO → R D := mOf 3 4 sv_starts_with
def sv_law_k11_1 : SV := (sSet 1 (eArgs m__law_start (eCons (eVar 0) eNil)))
def sv_law_k11_2 : SV := (sSet 2 (eArgs m__law_good (eCons (eVar 1) eNil)))
def sv_law_k11_3 : SV := (sSet 3 (eArgs m__law_row (eCons (eVar 1) (eCons (eVar 2) eNil))))
def sv_law_k11_4 : SV := (sSet 4 (eSl (eVar 3) eNoE (eSomeE (eArgs m__law_draw (eCons (eVar 1) (eCons (eArgs fLen (eCons (eVar 2) eNil)) eNil))))))
def sv_law_k11_5 : SV := (sAsg (gT [8, 9]) (eArgs m_row_range (eCons (eVar 2) (eCons (eVar 4) eNil))))
def sv_law_k11_6b1 : SV := (sRet (eC (.bl false)))
def sv_law_k11_6 : SV := (sIf (eOr (eTest (eBin fNe (eVar 8) (eArgs m__law_bytes (eCons (eSl (eVar 2) eNoE (eSomeE (eArgs fLen (eCons (eVar 4) eNil)))) (eCons (eVar 4) eNil))))) (eTest (eBin fNe (eVar 9) (eArgs m_prefix_end (eCons (eVar 8) eNil))))) sv_law_k11_6b1 sNil)
def sv_law_k11_7b1 : SV := (sSet 10 (eArgs m__law_other (eCons (eVar 1) (eCons (eVar 2) (eCons (eVar 3) eNil)))))
def sv_law_k11_7b2b1 : SV := (sSet 10 (eBin fAdd (eVar 4) (eSl (eVar 10) (eSomeE (eArgs fLen (eCons (eVar 4) eNil))) eNoE)))
def sv_law_k11_7b2 : SV := (sIf (eTest (eBin fEq (eArgs m__law_draw (eCons (eVar 1) (eCons (eC (.int 2)) eNil))) (eC (.int 0)))) sv_law_k11_7b2b1 sNil)
def sv_law_k11_7b3 : SV := (sSet 6 (eArgs m__law_bytes (eCons (eVar 2) (eCons (eVar 10) eNil))))
def sv_law_k11_7b4 : SV := (sSet 7 (eAndV (eBin fLe (eVar 8) (eVar 6)) (eOrV (eBin fIs (eVar 9) (eC .non)) (eBin fLt (eVar 6) (eVar 9)))))
def sv_law_k11_7b5b1 : SV := (sRet (eC (.bl false)))
def sv_law_k11_7b5 : SV := (sIf (eOr (eTest (eBin fNe (eVar 7) (eBin fEq (eSl (eVar 10) eNoE (eSomeE (eArgs fLen (eCons (eVar 4) eNil)))) (eVar 4)))) (eNot (eTest (eArgs m__law_true (eCons (eArgs m_starts_with (eCons (eVar 2) (eCons (eVar 4) (eCons (eVar 6) eNil)))) (eCons (eVar 7) eNil)))))) sv_law_k11_7b5b1 sNil)
def sv_law_k11_7 : SV := (sFor (eRange1 (eCons (eC (.int 6)) eNil)) (gN 5) (sSeq sv_law_k11_7b1
    (sSeq sv_law_k11_7b2
    (sSeq sv_law_k11_7b3
    (sSeq sv_law_k11_7b4
    sv_law_k11_7b5)))))
def sv_law_k11_8 : SV := (sSet 6 (eArgs m__law_string (eCons (eVar 1) (eCons (eC (.int 8)) eNil))))
def sv_law_k11_9 : SV := (sSet 7 (eAndV (eBin fLe (eVar 8) (eVar 6)) (eOrV (eBin fIs (eVar 9) (eC .non)) (eBin fLt (eVar 6) (eVar 9)))))
def sv_law_k11_10b1 : SV := (sRet (eC (.bl false)))
def sv_law_k11_10 : SV := (sIf (eNot (eTest (eArgs m__law_true (eCons (eArgs m_starts_with (eCons (eVar 2) (eCons (eVar 4) (eCons (eVar 6) eNil)))) (eCons (eVar 7) eNil))))) sv_law_k11_10b1 sNil)
def sv_law_k11_11 : SV := (sRet (eAndV (eBin fEq (eArgs m_row_range (eCons (eVar 2) (eCons (eArgs fTup eNil) eNil))) (eArgs fTup (eCons (eArgs fTup eNil) (eCons (eC .non) eNil)))) (eBin fEq (eVar 7) (eBin fEq (eSl (eVar 6) eNoE (eSomeE (eArgs fLen (eCons (eVar 8) eNil)))) (eVar 8)))))
def sv_law_k11 : SV := (sSeq sv_law_k11_1
    (sSeq sv_law_k11_2
    (sSeq sv_law_k11_3
    (sSeq sv_law_k11_4
    (sSeq sv_law_k11_5
    (sSeq sv_law_k11_6
    (sSeq sv_law_k11_7
    (sSeq sv_law_k11_8
    (sSeq sv_law_k11_9
    (sSeq sv_law_k11_10
    sv_law_k11_11))))))))))
def m_law_k11 : List D → List MO → R D := mOf 1 11 sv_law_k11
def sv_value_bounds : SV := (sSeq (sExpr (eArgs m_check_ordered (eCons (eVar 0) eNil)))
    (sSeq (sExpr (eArgs m_check_values (eCons (eVar 0) (eCons (eVar 1) eNil))))
    (sSeq (sSet 4 (eArgs fLen (eCons (eVar 1) eNil)))
    (sSeq (sSet 5 (eBin fIx (eVar 0) (eVar 4)))
    (sSeq (sIf (eOr (eNot (eTest (eArgs m_is_value (eCons (eVar 5) (eCons (eVar 2) eNil))))) (eNot (eTest (eArgs m_is_value (eCons (eVar 5) (eCons (eVar 3) eNil)))))) (sRaise "BadRow") sNil)
    (sSeq (sSet 6 (eArgs m_joined (eCons (eSl (eVar 0) eNoE (eSomeE (eBin fAdd (eVar 4) (eC (.int 1))))) (eCons (eBin fAdd (eVar 1) (eArgs fTup (eCons (eVar 2) eNil))) eNil))))
    (sSeq (sSet 7 (eArgs m_joined (eCons (eSl (eVar 0) eNoE (eSomeE (eBin fAdd (eVar 4) (eC (.int 1))))) (eCons (eBin fAdd (eVar 1) (eArgs fTup (eCons (eVar 3) eNil))) eNil))))
    (sRet (eArgs fTup (eCons (eVar 6) (eCons (eIf (eTest (eBin fEq (eVar 4) (eBin fSub (eArgs fLen (eCons (eVar 0) eNil)) (eC (.int 1))))) (eBin fAdd (eVar 7) (eArgs fTup (eCons (eC (.int 0)) eNil))) (eArgs m_end_of (eCons (eVar 7) eNil))) eNil)))))))))))
def m_value_bounds : List D → List MO → R D := mOf 4 8 sv_value_bounds
def sv_law_k12_1 : SV := (sSet 1 (eArgs m__law_start (eCons (eVar 0) eNil)))
def sv_law_k12_2 : SV := (sSet 2 (eArgs m__law_good (eCons (eVar 1) eNil)))
def sv_law_k12_3 : SV := (sSet 3 (eArgs m__law_row (eCons (eVar 1) (eCons (eVar 2) eNil))))
def sv_law_k12_4 : SV := (sSet 4 (eArgs m__law_draw (eCons (eVar 1) (eCons (eArgs fLen (eCons (eVar 2) eNil)) eNil))))
def sv_law_k12_5 : SV := (sPar 7 8 (eCons (eBin fIx (eVar 2) (eVar 4)) (eCons (eSl (eVar 3) eNoE (eSomeE (eVar 4))) eNil)))
def sv_law_k12_6 : SV := (sPar 9 10 (eCons (eArgs m__law_value (eCons (eVar 1) (eCons (eVar 7) eNil))) (eCons (eArgs m__law_value (eCons (eVar 1) (eCons (eVar 7) eNil))) eNil)))
def sv_law_k12_7b1 : SV := (sPar 9 10 (eCons (eVar 10) (eCons (eVar 9) eNil)))
def sv_law_k12_7 : SV := (sIf (eAnd (eTest (eBin fGt (eArgs m__law_sign (eCons (eVar 7) (eCons (eVar 9) (eCons (eVar 10) eNil)))) (eC (.int 0)))) (eTest (eBin fGt (eArgs m__law_draw (eCons (eVar 1) (eCons (eC (.int 4)) eNil))) (eC (.int 0))))) sv_law_k12_7b1 sNil)
def sv_law_k12_8 : SV := (sAsg (gT [11, 12]) (eArgs m_value_bounds (eCons (eVar 2) (eCons (eVar 8) (eCons (eVar 9) (eCons (eVar 10) eNil))))))
def sv_law_k12_9b1 : SV := (sRet (eC (.bl false)))
def sv_law_k12_9 : SV := (sIf (eTest (eBin fNe (eVar 11) (eArgs m__law_bytes (eCons (eSl (eVar 2) eNoE (eSomeE (eBin fAdd (eVar 4) (eC (.int 1))))) (eCons (eBin fAdd (eVar 8) (eArgs fTup (eCons (eVar 9) eNil))) eNil))))) sv_law_k12_9b1 sNil)
def sv_law_k12_10 : SV := (sSet 5 (eArgs m__law_bytes (eCons (eSl (eVar 2) eNoE (eSomeE (eBin fAdd (eVar 4) (eC (.int 1))))) (eCons (eBin fAdd (eVar 8) (eArgs fTup (eCons (eVar 10) eNil))) eNil))))
def sv_law_k12_11b1 : SV := (sRet (eC (.bl false)))
def sv_law_k12_11 : SV := (sIf (eTest (eBin fNe (eVar 12) (eIf (eTest (eBin fEq (eVar 4) (eBin fSub (eArgs fLen (eCons (eVar 2) eNil)) (eC (.int 1))))) (eArgs m_successor (eCons (eVar 5) eNil)) (eArgs m_prefix_end (eCons (eVar 5) eNil))))) sv_law_k12_11b1 sNil)
def sv_law_k12_12b1 : SV := (sSet 13 (eArgs m__law_other (eCons (eVar 1) (eCons (eVar 2) (eCons (eVar 3) eNil)))))
def sv_law_k12_12b2b1 : SV := (sSet 16 (eArgs m__law_pick (eCons (eVar 1) (eCons (eArgs fLst (eCons (eVar 9) (eCons (eVar 10) (eCons (eArgs m__law_value (eCons (eVar 1) (eCons (eVar 7) eNil))) eNil)))) eNil))))
def sv_law_k12_12b2b2b1 : SV := (sSet 16 (eSl (eBin fAdd (eVar 16) (eArgs m__law_text (eCons (eVar 1) (eCons (eC (.int 2)) eNil)))) eNoE (eSomeE (eC (.int 9)))))
def sv_law_k12_12b2b2 : SV := (sIf (eAnd (eTest (eUn (fIsi "tuple") (eVar 16))) (eTest (eBin fEq (eArgs m__law_draw (eCons (eVar 1) (eCons (eC (.int 3)) eNil))) (eC (.int 0))))) sv_law_k12_12b2b2b1 sNil)
def sv_law_k12_12b2b3 : SV := (sSet 13 (eBin fAdd (eBin fAdd (eVar 8) (eArgs fTup (eCons (eVar 16) eNil))) (eSl (eVar 13) (eSomeE (eBin fAdd (eVar 4) (eC (.int 1)))) eNoE)))
def sv_law_k12_12b2 : SV := (sIf (eTest (eBin fGt (eArgs m__law_draw (eCons (eVar 1) (eCons (eC (.int 3)) eNil))) (eC (.int 0)))) (sSeq sv_law_k12_12b2b1
    (sSeq sv_law_k12_12b2b2
    sv_law_k12_12b2b3)) sNil)
def sv_law_k12_12b3 : SV := (sSet 14 (eArgs m__law_bytes (eCons (eVar 2) (eCons (eVar 13) eNil))))
def sv_law_k12_12b4 : SV := (sSet 15 (eAndV (eBin fEq (eSl (eVar 13) eNoE (eSomeE (eVar 4))) (eVar 8)) (eAndV (eBin fLe (eArgs m__law_sign (eCons (eVar 7) (eCons (eVar 9) (eCons (eBin fIx (eVar 13) (eVar 4)) eNil)))) (eC (.int 0))) (eBin fLe (eArgs m__law_sign (eCons (eVar 7) (eCons (eBin fIx (eVar 13) (eVar 4)) (eCons (eVar 10) eNil)))) (eC (.int 0))))))
def sv_law_k12_12b5b1 : SV := (sRet (eC (.bl false)))
def sv_law_k12_12b5 : SV := (sIf (eTest (eBin fNe (eAndV (eBin fLe (eVar 11) (eVar 14)) (eOrV (eBin fIs (eVar 12) (eC .non)) (eBin fLt (eVar 14) (eVar 12)))) (eVar 15))) sv_law_k12_12b5b1 sNil)
def sv_law_k12_12 : SV := (sFor (eRange1 (eCons (eC (.int 8)) eNil)) (gN 6) (sSeq sv_law_k12_12b1
    (sSeq sv_law_k12_12b2
    (sSeq sv_law_k12_12b3
    (sSeq sv_law_k12_12b4
    sv_law_k12_12b5)))))
def sv_law_k12_13 : SV := (sRet (eC (.bl true)))
def sv_law_k12 : SV := (sSeq sv_law_k12_1
    (sSeq sv_law_k12_2
    (sSeq sv_law_k12_3
    (sSeq sv_law_k12_4
    (sSeq sv_law_k12_5
    (sSeq sv_law_k12_6
    (sSeq sv_law_k12_7
    (sSeq sv_law_k12_8
    (sSeq sv_law_k12_9
    (sSeq sv_law_k12_10
    (sSeq sv_law_k12_11
    (sSeq sv_law_k12_12
    sv_law_k12_13))))))))))))
def m_law_k12 : List D → List MO → R D := mOf 1 17 sv_law_k12
def sv__law_keys : SV := (sSeq (sSet 1 (eArgs fCell eNil))
    (sSeq (sFor (eRange1 (eCons (eBin fAdd (eC (.int 1)) (eArgs m__law_draw (eCons (eVar 0) (eCons (eC (.int 9)) eNil)))) eNil)) (gN 2) (sSeq (sSet 3 (eArgs m__law_pick (eCons (eVar 0) (eCons (eBin fAdd (eVar 1) (eArgs fLst (eCons (eArgs fTup eNil) eNil))) eNil))))
    (sExpr (eMeth ckL fAppend (eVar 1) (eCons (eBin fAdd (eSl (eVar 3) eNoE (eSomeE (eArgs m__law_draw (eCons (eVar 0) (eCons (eC (.int 4)) eNil))))) (eArgs m__law_string (eCons (eVar 0) (eCons (eC (.int 4)) eNil)))) eNil)))))
    (sRet (eArgs fSortSetA (eCons (eVar 1) eNil)))))
def m__law_keys : List D → List MO → R D := mOf 1 4 sv__law_keys
def sv_check_keys : SV := (sSeq (sIf (eOr (eNot (eTest (eUn (fIsi "list") (eVar 0)))) (eOr (eTest (eBin fGt (eArgs fLen (eCons (eVar 0) eNil)) (eC (.int 200)))) (eNot (eTest (eArgs fAll (eCons (eArgs fLst' (eLcA (eSeq (eVar 0)) (gN 2) [2] eYes (eArgs m_is_bytes (eCons (eVar 2) eNil)))) eNil)))))) (sRaise "BadIndex") sNil)
    (sIf (eNot (eTest (eArgs fAll (eCons (eArgs fLst' (eLcA (eRange1 (eCons (eBin fSub (eArgs fLen (eCons (eVar 0) eNil)) (eC (.int 1))) eNil)) (gN 1) [1] eYes (eBin fLt (eBin fIx (eVar 0) (eVar 1)) (eBin fIx (eVar 0) (eBin fAdd (eVar 1) (eC (.int 1))))))) eNil)))) (sRaise "BadIndex") sNil))
def m_check_keys : List D → List MO → R D := mOf 1 3 sv_check_keys
def sv_separators : SV := (sSeq (sExpr (eArgs m_check_keys (eCons (eVar 0) eNil)))
    (sSeq (sIf (eOr (eNot (eTest (eUn (fIsi "list") (eVar 1)))) (eNot (eTest (eArgs fAll (eCons (eArgs fLst' (eLcA (eSeq (eVar 1)) (gN 2) [2] eYes (eAndV (eUn (fIsi "int") (eVar 2)) (eUn fNot (eUn (fIsi "bool") (eVar 2)))))) eNil))))) (sRaise "BadIndex") sNil)
    (sSeq (sIf (eNot (eTest (eArgs fAll (eCons (eArgs fLst' (eLcA (eSeq (eVar 1)) (gN 2) [2] eYes (eChain fLt fLt (eC (.int 0)) (eVar 2) (eArgs fLen (eCons (eVar 0) eNil))))) eNil)))) (sRaise "BadIndex") sNil)
    (sSeq (sIf (eNot (eTest (eArgs fAll (eCons (eArgs fLst' (eLcA (eRange1 (eCons (eBin fSub (eArgs fLen (eCons (eVar 1) eNil)) (eC (.int 1))) eNil)) (gN 3) [3] eYes (eBin fLt (eBin fIx (eVar 1) (eVar 3)) (eBin fIx (eVar 1) (eBin fAdd (eVar 3) (eC (.int 1))))))) eNil)))) (sRaise "BadIndex") sNil)
    (sRet (eArgs fLst' (eLcA (eSeq (eVar 1)) (gN 2) [2] eYes (eArgs m_separator (eCons (eBin fIx (eVar 0) (eBin fSub (eVar 2) (eC (.int 1)))) (eCons (eBin fIx (eVar 0) (eVar 2)) eNil))))))))))
def m_separators : List D → List MO → R D := mOf 2 4 sv_separators
def sv_are_separators : SV := (sSeq (sExpr (eArgs m_separators (eCons (eVar 0) (eCons (eVar 1) eNil))))
    (sSeq (sExpr (eArgs m_check_keys (eCons (eVar 2) eNil)))
    (sSeq (sIf (eTest (eBin fNe (eArgs fLen (eCons (eVar 2) eNil)) (eArgs fLen (eCons (eVar 1) eNil)))) (sRet (eC (.bl false))) sNil)
    (sRet (eArgs fAll (eCons (eArgs fLst' (eLcZA (eCons (eVar 1) (eCons (eVar 2) eNil)) (gT [3, 4]) [3, 4] eYes (eChain fLt fLe (eBin fIx (eVar 0) (eBin fSub (eVar 3) (eC (.int 1)))) (eVar 4) (eBin fIx (eVar 0) (eVar 3))))) eNil))))))
def m_are_separators : List D → List MO → R D := mOf 3 5 sv_are_separators
def sv_place_of : SV := (sSeq (sPar 2 3 (eCons (eC (.int 0)) (eCons (eArgs fLen (eCons (eVar 0) eNil)) eNil)))
    (sSeq (sWhile (eTest (eBin fLt (eVar 2) (eVar 3))) (sSeq (sSet 4 (eBin fFdiv (eBin fAdd (eVar 2) (eVar 3)) (eC (.int 2))))
    (sIf (eTest (eBin fLe (eBin fIx (eVar 0) (eVar 4)) (eVar 1))) (sSet 2 (eBin fAdd (eVar 4) (eC (.int 1)))) (sSet 3 (eVar 4)))))
    (sRet (eVar 2))))
def m_place_of : List D → List MO → R D := mOf 2 5 sv_place_of
def sv_route : SV := (sSeq (sExpr (eArgs m_check_keys (eCons (eVar 0) eNil)))
    (sSeq (sExpr (eArgs m_check_bytes (eCons (eVar 1) eNil)))
    (sRet (eArgs m_place_of (eCons (eVar 0) (eCons (eVar 1) eNil))))))
def m_route : List D → List MO → R D := mOf 2 2 sv_route
def sv_saved : SV := (sSeq (sSet 2 (eArgs m_separators (eCons (eVar 0) (eCons (eVar 1) eNil))))
    (sRet (eBin fSub (eArgs fSum (eCons (eArgs fLst' (eLcA (eSeq (eVar 1)) (gN 3) [3] eYes (eArgs fLen (eCons (eBin fIx (eVar 0) (eVar 3)) eNil)))) eNil)) (eArgs fSum (eCons (eArgs fLst' (eLcA (eSeq (eVar 2)) (gN 4) [4] eYes (eArgs fLen (eCons (eVar 4) eNil)))) eNil)))))
def m_saved : List D → List MO → R D := mOf 2 5 sv_saved
def sv_law_k13_1 : SV := (sSet 1 (eArgs m__law_start (eCons (eVar 0) eNil)))
def sv_law_k13_2 : SV := (sSet 2 (eArgs m__law_keys (eCons (eVar 1) eNil)))
def sv_law_k13_3 : SV := (sSet 3 (eArgs fLst' (eLcA (eRange2 (eCons (eC (.int 1)) (eCons (eArgs fLen (eCons (eVar 2) eNil)) eNil))) (gN 5) [5] (eTest (eBin fEq (eArgs m__law_draw (eCons (eVar 1) (eCons (eC (.int 2)) eNil))) (eC (.int 0)))) (eVar 5))))
def sv_law_k13_4 : SV := (sSet 4 (eArgs m_separators (eCons (eVar 2) (eCons (eVar 3) eNil))))
def sv_law_k13_5b1 : SV := (sRet (eC (.bl false)))
def sv_law_k13_5 : SV := (sIf (eOr (eTest (eBin fNe (eVar 4) (eArgs fLst' (eLcA (eSeq (eVar 3)) (gN 11) [11] eYes (eArgs m_separator (eCons (eBin fIx (eVar 2) (eBin fSub (eVar 11) (eC (.int 1)))) (eCons (eBin fIx (eVar 2) (eVar 11)) eNil))))))) (eTest (eBin fIsNot (eArgs m_are_separators (eCons (eVar 2) (eCons (eVar 3) (eCons (eVar 4) eNil)))) (eC (.bl true))))) sv_law_k13_5b1 sNil)
def sv_law_k13_6b1b1 : SV := (sRet (eC (.bl false)))
def sv_law_k13_6b1 : SV := (sIf (eTest (eBin fNe (eArgs m_route (eCons (eVar 4) (eCons (eBin fIx (eVar 2) (eVar 5)) eNil))) (eArgs fLen (eCons (eArgs fLst' (eLcA (eSeq (eVar 3)) (gN 11) [11] (eTest (eBin fLe (eVar 11) (eVar 5))) (eVar 11))) eNil)))) sv_law_k13_6b1b1 sNil)
def sv_law_k13_6 : SV := (sFor (eRange1 (eCons (eArgs fLen (eCons (eVar 2) eNil)) eNil)) (gN 5) sv_law_k13_6b1)
def sv_law_k13_7b1 : SV := (sRet (eC (.bl false)))
def sv_law_k13_7 : SV := (sIf (eTest (eBin fNe (eArgs m_saved (eCons (eVar 2) (eCons (eVar 3) eNil))) (eBin fSub (eArgs fSum (eCons (eArgs fLst' (eLcA (eSeq (eVar 3)) (gN 11) [11] eYes (eArgs fLen (eCons (eBin fIx (eVar 2) (eVar 11)) eNil)))) eNil)) (eArgs fSum (eCons (eArgs fLst' (eLcA (eSeq (eVar 4)) (gN 12) [12] eYes (eArgs fLen (eCons (eVar 12) eNil)))) eNil))))) sv_law_k13_7b1 sNil)
def sv_law_k13_8 : SV := (sSet 6 (eArgs m__law_string (eCons (eVar 1) (eCons (eC (.int 5)) eNil))))
def sv_law_k13_9b1 : SV := (sRet (eC (.bl false)))
def sv_law_k13_9 : SV := (sIf (eTest (eBin fNe (eArgs m_route (eCons (eVar 4) (eCons (eVar 6) eNil))) (eArgs fLen (eCons (eArgs fLst' (eLcA (eSeq (eVar 4)) (gN 12) [12] (eTest (eBin fLe (eVar 12) (eVar 6))) (eVar 12))) eNil)))) sv_law_k13_9b1 sNil)
def sv_law_k13_10b1 : SV := (sRet (eAndV (eBin fIs (eArgs m_are_separators (eCons (eVar 2) (eCons (eArgs fLst eNil) (eCons (eArgs fLst eNil) eNil)))) (eC (.bl true))) (eBin fEq (eArgs m_saved (eCons (eVar 2) (eCons (eArgs fLst eNil) eNil))) (eC (.int 0)))))
def sv_law_k13_10 : SV := (sIf (eTest (eBin fEq (eVar 3) (eArgs fLst eNil))) sv_law_k13_10b1 sNil)
def sv_law_k13_11 : SV := (sSet 7 (eArgs fCell' (eLcA (eSeq (eVar 3)) (gN 11) [11] eYes (eBin fIx (eVar 2) (eVar 11)))))
def sv_law_k13_12b1 : SV := (sRet (eC (.bl false)))
def sv_law_k13_12 : SV := (sIf (eTest (eBin fIsNot (eArgs m_are_separators (eCons (eVar 2) (eCons (eVar 3) (eCons (eVar 7) eNil)))) (eC (.bl true)))) sv_law_k13_12b1 sNil)
def sv_law_k13_13 : SV := (sSet 5 (eArgs m__law_draw (eCons (eVar 1) (eCons (eArgs fLen (eCons (eVar 7) eNil)) eNil))))
def sv_law_k13_14 : SV := (sSub (eVar 7) (eVar 5) (eArgs m__law_pick (eCons (eVar 1) (eCons (eArgs fLst (eCons (eBin fAdd (eBin fIx (eVar 7) (eVar 5)) (eArgs fTup (eCons (eC (.int 0)) eNil))) (eCons (eBin fIx (eVar 2) (eBin fSub (eBin fIx (eVar 3) (eVar 5)) (eC (.int 1)))) (eCons (eSl (eBin fIx (eVar 7) (eVar 5)) eNoE (eSomeE (eC (.int 1)))) (eCons (eArgs m__law_string (eCons (eVar 1) (eCons (eC (.int 3)) eNil))) (eCons (eBin fIx (eVar 4) (eVar 5)) eNil)))))) eNil))))
def sv_law_k13_15 : SV := (sSet 8 (eBin fEq (eArgs fLst' (eLcA (eRange1 (eCons (eBin fSub (eArgs fLen (eCons (eVar 7) eNil)) (eC (.int 1))) eNil)) (gN 10) [10] (eNot (eTest (eBin fLt (eBin fIx (eVar 7) (eVar 10)) (eBin fIx (eVar 7) (eBin fAdd (eVar 10) (eC (.int 1))))))) (eVar 10))) (eArgs fLst eNil)))
def sv_law_k13_16b1 : SV := (sRet (eC (.bl true)))
def sv_law_k13_16 : SV := (sIf (eNot (eTest (eVar 8))) sv_law_k13_16b1 sNil)
def sv_law_k13_17 : SV := (sSet 9 (eC (.bl true)))
def sv_law_k13_18b1 : SV := (sSet 9 (eAndV (eVar 9) (eChain fLt fLe (eBin fIx (eVar 2) (eBin fSub (eBin fIx (eVar 3) (eVar 10)) (eC (.int 1)))) (eBin fIx (eVar 7) (eVar 10)) (eBin fIx (eVar 2) (eBin fIx (eVar 3) (eVar 10))))))
def sv_law_k13_18 : SV := (sFor (eRange1 (eCons (eArgs fLen (eCons (eVar 7) eNil)) eNil)) (gN 10) sv_law_k13_18b1)
def sv_law_k13_19 : SV := (sRet (eAndV (eArgs m__law_true (eCons (eArgs m_are_separators (eCons (eVar 2) (eCons (eVar 3) (eCons (eVar 7) eNil)))) (eCons (eVar 9) eNil))) (eBin fIs (eArgs m_are_separators (eCons (eVar 2) (eCons (eVar 3) (eCons (eSl (eVar 7) (eSomeE (eC (.int 1))) eNoE) eNil)))) (eC (.bl false)))))
def sv_law_k13 : SV := (sSeq sv_law_k13_1
    (sSeq sv_law_k13_2
    (sSeq sv_law_k13_3
    (sSeq sv_law_k13_4
    (sSeq sv_law_k13_5
    (sSeq sv_law_k13_6
    (sSeq sv_law_k13_7
    (sSeq sv_law_k13_8
    (sSeq sv_law_k13_9
    (sSeq sv_law_k13_10
    (sSeq sv_law_k13_11
    (sSeq sv_law_k13_12
    (sSeq sv_law_k13_13
    (sSeq sv_law_k13_14
    (sSeq sv_law_k13_15
    (sSeq sv_law_k13_16
    (sSeq sv_law_k13_17
    (sSeq sv_law_k13_18
    sv_law_k13_19))))))))))))))))))
def m_law_k13 : List D → List MO → R D := mOf 1 13 sv_law_k13
def sv_Index___init__ : SV := (sSeq (sIf (eNot (eTest (eArgs m_is_int (eCons (eVar 1) (eCons (eC (.int 2)) (eCons (eC (.int 20)) eNil)))))) (sRaise "BadIndex") sNil)
    (sSeq (sFldO "Index" "size" (eVar 0) (eVar 1))
    (sSeq (sFldO "Index" "blocks" (eVar 0) (eArgs fCell (eCons (eArgs fLst eNil) eNil)))
    (sFldO "Index" "marks" (eVar 0) (eArgs fCell eNil)))))
def m_Index___init__ : List D → List MO → R D := mOf 2 2 sv_Index___init__
def sv__law_inserted : SV := (sSeq (sSet 4 (eArgs fLen (eCons (eArgs fLst' (eLcA (eSeq (eVar 1)) (gN 7) [7] (eTest (eBin fLe (eVar 7) (eVar 3))) (eVar 7))) eNil)))
    (sSeq (sSet 5 (eArgs fSorted (eCons (eBin fAdd (eBin fIx (eVar 0) (eVar 4)) (eArgs fLst (eCons (eVar 3) eNil))) eNil)))
    (sSeq (sIf (eTest (eBin fLe (eArgs fLen (eCons (eVar 5) eNil)) (eVar 2))) (sRet (eArgs fTup (eCons (eBin fAdd (eBin fAdd (eSl (eVar 0) eNoE (eSomeE (eVar 4))) (eArgs fLst (eCons (eVar 5) eNil))) (eSl (eVar 0) (eSomeE (eBin fAdd (eVar 4) (eC (.int 1)))) eNoE)) (eCons (eVar 1) eNil)))) sNil)
    (sSeq (sSet 6 (eBin fFdiv (eArgs fLen (eCons (eVar 5) eNil)) (eC (.int 2))))
    (sSeq (sSet 7 (eArgs m_separator (eCons (eBin fIx (eVar 5) (eBin fSub (eVar 6) (eC (.int 1)))) (eCons (eBin fIx (eVar 5) (eVar 6)) eNil))))
    (sRet (eArgs fTup (eCons (eBin fAdd (eBin fAdd (eSl (eVar 0) eNoE (eSomeE (eVar 4))) (eArgs fLst (eCons (eSl (eVar 5) eNoE (eSomeE (eVar 6))) (eCons (eSl (eVar 5) (eSomeE (eVar 6)) eNoE) eNil)))) (eSl (eVar 0) (eSomeE (eBin fAdd (eVar 4) (eC (.int 1)))) eNoE)) (eCons (eBin fAdd (eBin fAdd (eSl (eVar 1) eNoE (eSomeE (eVar 4))) (eArgs fLst (eCons (eVar 7) eNil))) (eSl (eVar 1) (eSomeE (eVar 4)) eNoE)) eNil)))))))))
def m__law_inserted : List D → List MO → R D := mOf 4 8 sv__law_inserted
def sv_Index_insert : SV := (sSeq (sExpr (eArgs m_check_bytes (eCons (eVar 1) eNil)))
    (sSeq (sSet 2 (eArgs m_place_of (eCons (eUn (fFldO "Index" "marks") (eVar 0)) (eCons (eVar 1) eNil))))
    (sSeq (sSet 3 (eBin fIx (eUn (fFldO "Index" "blocks") (eVar 0)) (eVar 2)))
    (sSeq (sIf (eTest (eBin fIn (eVar 1) (eVar 3))) (sRaise "BadIndex") sNil)
    (sSeq (sSet 3 (eArgs fSorted (eCons (eBin fAdd (eVar 3) (eArgs fLst (eCons (eVar 1) eNil))) eNil)))
    (sSeq (sSub (eUn (fFldO "Index" "blocks") (eVar 0)) (eVar 2) (eVar 3))
    (sSeq (sIf (eTest (eBin fGt (eArgs fLen (eCons (eVar 3) eNil)) (eUn (fFldO "Index" "size") (eVar 0)))) (sSeq (sSet 4 (eBin fFdiv (eArgs fLen (eCons (eVar 3) eNil)) (eC (.int 2))))
    (sSeq (sSub (eUn (fFldO "Index" "blocks") (eVar 0)) (eVar 2) (eSl (eVar 3) eNoE (eSomeE (eVar 4))))
    (sSeq (sExpr (eMeth ckL fInsert (eUn (fFldO "Index" "blocks") (eVar 0)) (eCons (eBin fAdd (eVar 2) (eC (.int 1))) (eCons (eSl (eVar 3) (eSomeE (eVar 4)) eNoE) eNil))))
    (sExpr (eMeth ckL fInsert (eUn (fFldO "Index" "marks") (eVar 0)) (eCons (eVar 2) (eCons (eArgs m_separator (eCons (eBin fIx (eVar 3) (eBin fSub (eVar 4) (eC (.int 1)))) (eCons (eBin fIx (eVar 3) (eVar 4)) eNil))) eNil))))))) sNil)
    (sRet (eArgs m_place_of (eCons (eUn (fFldO "Index" "marks") (eVar 0)) (eCons (eVar 1) eNil)))))))))))
def m_Index_insert : List D → List MO → R D := mOf 2 5 sv_Index_insert
def sv_Index_remove_k14 : SV := (sSeq (sExpr (eArgs m_check_bytes (eCons (eVar 1) eNil)))
    (sSeq (sSet 2 (eArgs m_place_of (eCons (eUn (fFldO "Index" "marks") (eVar 0)) (eCons (eVar 1) eNil))))
    (sSeq (sIf (eTest (eBin fNotIn (eVar 1) (eBin fIx (eUn (fFldO "Index" "blocks") (eVar 0)) (eVar 2)))) (sRaise "NotFound") sNil)
    (sSeq (sSub (eUn (fFldO "Index" "blocks") (eVar 0)) (eVar 2) (eArgs fLst' (eLcA (eSeq (eBin fIx (eUn (fFldO "Index" "blocks") (eVar 0)) (eVar 2))) (gN 3) [3] (eTest (eBin fNe (eVar 3) (eVar 1))) (eVar 3))))
    (sIf (eAnd (eTest (eBin fEq (eBin fIx (eUn (fFldO "Index" "blocks") (eVar 0)) (eVar 2)) (eArgs fLst eNil))) (eTest (eBin fGt (eArgs fLen (eCons (eUn (fFldO "Index" "blocks") (eVar 0)) eNil)) (eC (.int 1))))) (sSeq (sExpr (eMeth ckL fPop (eUn (fFldO "Index" "blocks") (eVar 0)) (eCons (eVar 2) eNil)))
    (sExpr (eMeth ckL fPop (eUn (fFldO "Index" "marks") (eVar 0)) (eCons (eArgs fMax (eCons (eBin fSub (eVar 2) (eC (.int 1))) (eCons (eC (.int 0)) eNil))) eNil)))) sNil)))))
def m_Index_remove_k14 : List D → List MO → R D := mOf 2 4 sv_Index_remove_k14
def sv__law_change_k14 : SV := (sSeq (sSet 3 (eC .non))
    (sSeq (sSet 4 (eC .non))
    (sSeq (sTry xcls 5 4 (sSet 3 (eIf (eTest (eBin fEq (eVar 1) (eC (.int 0)))) (eMethO "Index" "insert" m_Index_insert (eVar 0) (eCons (eVar 2) eNil)) (eMethO "Index" "remove" m_Index_remove_k14 (eVar 0) (eCons (eVar 2) eNil)))))
    (sRet (eIf (eTest (eBin fIs (eVar 4) (eC .non))) (eVar 3) (eArgs m__law_error (eCons (eVar 4) eNil)))))))
def m__law_change_k14 : List D → List MO → R D := mOf 3 6 sv__law_change_k14
def sv__law_removed : SV := (sSeq (sSet 3 (eArgs fLen (eCons (eArgs fLst' (eLcA (eSeq (eVar 1)) (gN 7) [7] (eTest (eBin fLe (eVar 7) (eVar 2))) (eVar 7))) eNil)))
    (sSeq (sSet 4 (eArgs fLst' (eLcA (eSeq (eBin fIx (eVar 0) (eVar 3))) (gN 6) [6] (eTest (eBin fNe (eVar 6) (eVar 2))) (eVar 6))))
    (sSeq (sIf (eAnd (eTest (eBin fEq (eVar 4) (eArgs fLst eNil))) (eTest (eBin fGt (eArgs fLen (eCons (eVar 0) eNil)) (eC (.int 1))))) (sSeq (sSet 5 (eArgs fMax (eCons (eBin fSub (eVar 3) (eC (.int 1))) (eCons (eC (.int 0)) eNil))))
    (sRet (eArgs fTup (eCons (eBin fAdd (eSl (eVar 0) eNoE (eSomeE (eVar 3))) (eSl (eVar 0) (eSomeE (eBin fAdd (eVar 3) (eC (.int 1)))) eNoE)) (eCons (eBin fAdd (eSl (eVar 1) eNoE (eSomeE (eVar 5))) (eSl (eVar 1) (eSomeE (eBin fAdd (eVar 5) (eC (.int 1)))) eNoE)) eNil))))) sNil)
    (sRet (eArgs fTup (eCons (eBin fAdd (eBin fAdd (eSl (eVar 0) eNoE (eSomeE (eVar 3))) (eArgs fLst (eCons (eVar 4) eNil))) (eSl (eVar 0) (eSomeE (eBin fAdd (eVar 3) (eC (.int 1)))) eNoE)) (eCons (eVar 1) eNil)))))))
def m__law_removed : List D → List MO → R D := mOf 3 8 sv__law_removed
def sv_Index_layout_k14 : SV := (sRet (eArgs fLst' (eLcA (eSeq (eUn (fFldO "Index" "blocks") (eVar 0))) (gN 1) [1] eYes (eArgs fList (eCons (eVar 1) eNil)))))
def m_Index_layout_k14 : List D → List MO → R D := mOf 1 2 sv_Index_layout_k14
def sv_Index_separators_k14 : SV := (sRet (eArgs fList (eCons (eUn (fFldO "Index" "marks") (eVar 0)) eNil)))
def m_Index_separators_k14 : List D → List MO → R D := mOf 1 1 sv_Index_separators_k14
def sv_Index___len__ : SV := (sRet (eArgs fLen (eCons (eArgs fLst' (eLc2A (eSeq (eUn (fFldO "Index" "blocks") (eVar 0))) (gN 1) [1, 2] (eSeq (eVar 1)) [2] (gN 2) eYes (eVar 2))) eNil)))
def m_Index___len__ : List D → List MO → R D := mOf 1 3 sv_Index___len__
def sv_Index_contains_k14 : SV := (sSeq (sExpr (eArgs m_check_bytes (eCons (eVar 1) eNil)))
    (sRet (eBin fIn (eVar 1) (eBin fIx (eUn (fFldO "Index" "blocks") (eVar 0)) (eArgs m_place_of (eCons (eUn (fFldO "Index" "marks") (eVar 0)) (eCons (eVar 1) eNil)))))))
def m_Index_contains_k14 : List D → List MO → R D := mOf 2 2 sv_Index_contains_k14
def sv_Index_find : SV := (sSeq (sIf (eOr (eNot (eTest (eUn (fIsi "tuple") (eVar 1)))) (eTest (eBin fNe (eArgs fLen (eCons (eVar 1) eNil)) (eC (.int 2))))) (sRaise "BadBytes") sNil)
    (sSeq (sExpr (eArgs m_check_bytes (eCons (eBin fIx (eVar 1) (eC (.int 0))) eNil)))
    (sSeq (sIf (eTest (eBin fIsNot (eBin fIx (eVar 1) (eC (.int 1))) (eC .non))) (sExpr (eArgs m_check_bytes (eCons (eBin fIx (eVar 1) (eC (.int 1))) eNil))) sNil)
    (sRet (eArgs fLst' (eLc2A (eSeq (eUn (fFldO "Index" "blocks") (eVar 0))) (gN 2) [2, 3] (eSeq (eVar 2)) [3] (gN 3) (eTest (eArgs m_in_range (eCons (eVar 3) (eCons (eVar 1) eNil)))) (eVar 3)))))))
def m_Index_find : List D → List MO → R D := mOf 2 4 sv_Index_find
def sv__law_emptied_1 : SV := (sSet 5 (eArgs m__law_pick (eCons (eVar 0) (eCons (eArgs fLst (eCons (eVar 4) (eCons (eArgs fSorted (eCons (eVar 4) eNil)) (eCons (eUn fRev (eArgs fSorted (eCons (eVar 4) eNil))) eNil)))) eNil))))
def sv__law_emptied_2b1 : SV := (sExpr (eMethO "Index" "remove" m_Index_remove_k14 (eVar 1) (eCons (eVar 6) eNil)))
def sv__law_emptied_2b2 : SV := (sAsg (gT [2, 3]) (eArgs m__law_removed (eCons (eVar 2) (eCons (eVar 3) (eCons (eVar 6) eNil)))))
def sv__law_emptied_2b3b1 : SV := (sRet (eC (.bl false)))
def sv__law_emptied_2b3 : SV := (sIf (eOr (eTest (eBin fNe (eMethO "Index" "layout" m_Index_layout_k14 (eVar 1) eNil) (eVar 2))) (eTest (eBin fNe (eMethO "Index" "separators" m_Index_separators_k14 (eVar 1) eNil) (eVar 3)))) sv__law_emptied_2b3b1 sNil)
def sv__law_emptied_2 : SV := (sFor (eSeq (eVar 5)) (gN 6) (sSeq sv__law_emptied_2b1
    (sSeq sv__law_emptied_2b2
    sv__law_emptied_2b3)))
def sv__law_emptied_3 : SV := (sRet (eAndV (eBin fEq (eMethO "Index" "layout" m_Index_layout_k14 (eVar 1) eNil) (eArgs fLst (eCons (eArgs fLst eNil) eNil))) (eAndV (eBin fEq (eMethO "Index" "separators" m_Index_separators_k14 (eVar 1) eNil) (eArgs fLst eNil)) (eBin fEq (eLenO "Index" m_Index___len__ (eCons (eVar 1) eNil)) (eC (.int 0))))))
def sv__law_emptied : SV := (sSeq sv__law_emptied_1
    (sSeq sv__law_emptied_2
    sv__law_emptied_3))
def m__law_emptied : List D → List MO → R D := mOf 5 7 sv__law_emptied
def sv_law_k14_1 : SV := (sSet 1 (eArgs m__law_start (eCons (eVar 0) eNil)))
def sv_law_k14_2 : SV := (sSet 2 (eBin fAdd (eC (.int 2)) (eArgs m__law_draw (eCons (eVar 1) (eCons (eC (.int 4)) eNil)))))
def sv_law_k14_3 : SV := (sSet 3 (eMakeO "Index" m_Index___init__ (eCons (eVar 2) eNil)))
def sv_law_k14_4 : SV := (sPar3 6 7 8 (eCons (eArgs fLst (eCons (eArgs fLst eNil) eNil)) (eCons (eArgs fLst eNil) (eCons (eArgs fCell eNil) eNil))))
def sv_law_k14_5b1 : SV := (sSet 5 (eArgs m__law_string (eCons (eVar 1) (eCons (eC (.int 3)) eNil))))
def sv_law_k14_5b2b1 : SV := (sSet 5 (eArgs m__law_pick (eCons (eVar 1) (eCons (eVar 8) eNil))))
def sv_law_k14_5b2 : SV := (sIf (eAnd (eTest (eBin fNe (eVar 8) (eArgs fLst eNil))) (eTest (eBin fEq (eArgs m__law_draw (eCons (eVar 1) (eCons (eC (.int 3)) eNil))) (eC (.int 0))))) sv_law_k14_5b2b1 sNil)
def sv_law_k14_5b3b1b1 : SV := (sAsg (gT [6, 7]) (eArgs m__law_inserted (eCons (eVar 6) (eCons (eVar 7) (eCons (eVar 2) (eCons (eVar 5) eNil))))))
def sv_law_k14_5b3b1b2 : SV := (sExpr (eMeth ckL fAppend (eVar 8) (eCons (eVar 5) eNil)))
def sv_law_k14_5b3b1b3 : SV := (sSet 10 (eArgs fLen (eCons (eArgs fLst' (eLcA (eSeq (eVar 7)) (gN 12) [12] (eTest (eBin fLe (eVar 12) (eVar 5))) (eVar 12))) eNil)))
def sv_law_k14_5b3b1eb1 : SV := (sSet 10 (eC (.str "index")))
def sv_law_k14_5b3b1 : SV := (sIf (eTest (eBin fNotIn (eVar 5) (eVar 8))) (sSeq sv_law_k14_5b3b1b1
    (sSeq sv_law_k14_5b3b1b2
    sv_law_k14_5b3b1b3)) sv_law_k14_5b3b1eb1)
def sv_law_k14_5b3b2b1 : SV := (sRet (eC (.bl false)))
def sv_law_k14_5b3b2 : SV := (sIf (eTest (eBin fNe (eArgs m__law_change_k14 (eCons (eVar 3) (eCons (eC (.int 0)) (eCons (eVar 5) eNil)))) (eVar 10))) sv_law_k14_5b3b2b1 sNil)
def sv_law_k14_5b3eb1b1 : SV := (sRet (eC (.bl false)))
def sv_law_k14_5b3eb1 : SV := (sIf (eTest (eBin fNe (eArgs m__law_change_k14 (eCons (eVar 3) (eCons (eC (.int 1)) (eCons (eVar 5) eNil)))) (eIf (eTest (eBin fIn (eVar 5) (eVar 8))) (eC .non) (eC (.str "none"))))) sv_law_k14_5b3eb1b1 sNil)
def sv_law_k14_5b3eb2b1 : SV := (sAsg (gT [6, 7]) (eArgs m__law_removed (eCons (eVar 6) (eCons (eVar 7) (eCons (eVar 5) eNil)))))
def sv_law_k14_5b3eb2b2 : SV := (sSet 8 (eArgs fCell' (eLcA (eSeq (eVar 8)) (gN 11) [11] (eTest (eBin fNe (eVar 11) (eVar 5))) (eVar 11))))
def sv_law_k14_5b3eb2 : SV := (sIf (eTest (eBin fIn (eVar 5) (eVar 8))) (sSeq sv_law_k14_5b3eb2b1
    sv_law_k14_5b3eb2b2) sNil)
def sv_law_k14_5b3 : SV := (sIf (eTest (eBin fGt (eArgs m__law_draw (eCons (eVar 1) (eCons (eC (.int 4)) eNil))) (eC (.int 0)))) (sSeq sv_law_k14_5b3b1
    sv_law_k14_5b3b2) (sSeq sv_law_k14_5b3eb1
    sv_law_k14_5b3eb2))
def sv_law_k14_5b4b1 : SV := (sRet (eC (.bl false)))
def sv_law_k14_5b4 : SV := (sIf (eOr (eTest (eBin fNe (eMethO "Index" "layout" m_Index_layout_k14 (eVar 3) eNil) (eVar 6))) (eOr (eTest (eBin fNe (eMethO "Index" "separators" m_Index_separators_k14 (eVar 3) eNil) (eVar 7))) (eTest (eBin fNe (eLenO "Index" m_Index___len__ (eCons (eVar 3) eNil)) (eArgs fLen (eCons (eVar 8) eNil)))))) sv_law_k14_5b4b1 sNil)
def sv_law_k14_5 : SV := (sFor (eRange1 (eCons (eC (.int 16)) eNil)) (gN 4) (sSeq sv_law_k14_5b1
    (sSeq sv_law_k14_5b2
    (sSeq sv_law_k14_5b3
    sv_law_k14_5b4))))
def sv_law_k14_6b1 : SV := (sSet 9 (eArgs m_route (eCons (eVar 7) (eCons (eVar 5) eNil))))
def sv_law_k14_6b2b1 : SV := (sRet (eC (.bl false)))
def sv_law_k14_6b2 : SV := (sIf (eOr (eNot (eTest (eArgs m__law_true (eCons (eMethO "Index" "contains" m_Index_contains_k14 (eVar 3) (eCons (eVar 5) eNil)) (eCons (eBin fIn (eVar 5) (eVar 8)) eNil))))) (eTest (eBin fNe (eBin fIn (eVar 5) (eBin fIx (eVar 6) (eVar 9))) (eBin fIn (eVar 5) (eVar 8))))) sv_law_k14_6b2b1 sNil)
def sv_law_k14_6 : SV := (sFor (eSeq (eBin fAdd (eVar 8) (eArgs fLst (eCons (eArgs m__law_string (eCons (eVar 1) (eCons (eC (.int 3)) eNil))) eNil)))) (gN 5) (sSeq sv_law_k14_6b1
    sv_law_k14_6b2))
def sv_law_k14_7b1 : SV := (sRet (eC (.bl false)))
def sv_law_k14_7 : SV := (sIf (eTest (eBin fNe (eMethO "Index" "find" m_Index_find (eVar 3) (eCons (eArgs fTup (eCons (eArgs fTup eNil) (eCons (eC .non) eNil))) eNil)) (eArgs fSorted (eCons (eVar 8) eNil)))) sv_law_k14_7b1 sNil)
def sv_law_k14_8 : SV := (sRet (eArgs m__law_emptied (eCons (eVar 1) (eCons (eVar 3) (eCons (eVar 6) (eCons (eVar 7) (eCons (eVar 8) eNil)))))))
def sv_law_k14 : SV := (sSeq sv_law_k14_1
    (sSeq sv_law_k14_2
    (sSeq sv_law_k14_3
    (sSeq sv_law_k14_4
    (sSeq sv_law_k14_5
    (sSeq sv_law_k14_6
    (sSeq sv_law_k14_7
    sv_law_k14_8)))))))
def m_law_k14 : List D → List MO → R D := mOf 1 13 sv_law_k14
def sv_law_k15_1 : SV := (sSet 1 (eArgs m__law_start (eCons (eVar 0) eNil)))
def sv_law_k15_2 : SV := (sSet 2 (eArgs m__law_good (eCons (eVar 1) eNil)))
def sv_law_k15_3 : SV := (sSet 3 (eArgs fCell (eCons (eArgs m__law_row (eCons (eVar 1) (eCons (eVar 2) eNil))) eNil)))
def sv_law_k15_4b1 : SV := (sExpr (eMeth ckL fAppend (eVar 3) (eCons (eArgs m__law_other (eCons (eVar 1) (eCons (eVar 2) (eCons (eArgs m__law_pick (eCons (eVar 1) (eCons (eVar 3) eNil))) eNil)))) eNil)))
def sv_law_k15_4 : SV := (sFor (eRange1 (eCons (eBin fAdd (eC (.int 2)) (eArgs m__law_draw (eCons (eVar 1) (eCons (eC (.int 9)) eNil)))) eNil)) (gN 4) sv_law_k15_4b1)
def sv_law_k15_5 : SV := (sSet 5 (eMakeO "Index" m_Index___init__ (eCons (eBin fAdd (eC (.int 2)) (eArgs m__law_draw (eCons (eVar 1) (eCons (eC (.int 3)) eNil)))) eNil)))
def sv_law_k15_6 : SV := (sSet 6 (eArgs fCell eNil))
def sv_law_k15_7b1b1 : SV := (sExpr (eMethO "Index" "insert" m_Index_insert (eVar 5) (eCons (eArgs m_encode (eCons (eVar 2) (eCons (eVar 7) eNil))) eNil)))
def sv_law_k15_7b1b2 : SV := (sExpr (eMeth ckL fAppend (eVar 6) (eCons (eVar 7) eNil)))
def sv_law_k15_7b1 : SV := (sIf (eTest (eBin fNotIn (eVar 7) (eVar 6))) (sSeq sv_law_k15_7b1b1
    sv_law_k15_7b1b2) sNil)
def sv_law_k15_7 : SV := (sFor (eSeq (eVar 3)) (gN 7) sv_law_k15_7b1)
def sv_law_k15_8 : SV := (sSet 8 (eArgs fLst' (eLcA (eSeq (eMethO "Index" "find" m_Index_find (eVar 5) (eCons (eArgs fTup (eCons (eArgs fTup eNil) (eCons (eC .non) eNil))) eNil))) (gN 19) [19] eYes (eArgs m_decode (eCons (eVar 2) (eCons (eVar 19) eNil))))))
def sv_law_k15_9b1 : SV := (sRet (eC (.bl false)))
def sv_law_k15_9 : SV := (sIf (eOr (eTest (eBin fNe (eArgs fLen (eCons (eVar 8) eNil)) (eArgs fLen (eCons (eVar 6) eNil)))) (eTest (eBin fNe (eArgs fLst' (eLcA (eSeq (eVar 6)) (gN 7) [7] (eTest (eBin fNotIn (eVar 7) (eVar 8))) (eVar 7))) (eArgs fLst eNil)))) sv_law_k15_9b1 sNil)
def sv_law_k15_10b1 : SV := (sRet (eC (.bl false)))
def sv_law_k15_10 : SV := (sIf (eTest (eBin fNe (eArgs fLst' (eLcA (eRange1 (eCons (eBin fSub (eArgs fLen (eCons (eVar 8) eNil)) (eC (.int 1))) eNil)) (gN 4) [4] (eTest (eBin fNe (eArgs m_compare_rows (eCons (eVar 2) (eCons (eBin fIx (eVar 8) (eVar 4)) (eCons (eBin fIx (eVar 8) (eBin fAdd (eVar 4) (eC (.int 1)))) eNil)))) (eBin fSub (eC (.int 0)) (eC (.int 1))))) (eVar 4))) (eArgs fLst eNil))) sv_law_k15_10b1 sNil)
def sv_law_k15_11 : SV := (sSet 7 (eArgs m__law_pick (eCons (eVar 1) (eCons (eVar 6) eNil))))
def sv_law_k15_12 : SV := (sSet 9 (eSl (eVar 7) eNoE (eSomeE (eArgs m__law_draw (eCons (eVar 1) (eCons (eArgs fLen (eCons (eVar 2) eNil)) eNil))))))
def sv_law_k15_13 : SV := (sSet 10 (eArgs fLst' (eLcA (eSeq (eMethO "Index" "find" m_Index_find (eVar 5) (eCons (eArgs m_row_range (eCons (eVar 2) (eCons (eVar 9) eNil))) eNil))) (gN 19) [19] eYes (eArgs m_decode (eCons (eVar 2) (eCons (eVar 19) eNil))))))
def sv_law_k15_14b1 : SV := (sRet (eC (.bl false)))
def sv_law_k15_14 : SV := (sIf (eTest (eBin fNe (eVar 10) (eArgs fLst' (eLcA (eSeq (eVar 8)) (gN 13) [13] (eTest (eBin fEq (eSl (eVar 13) eNoE (eSomeE (eArgs fLen (eCons (eVar 9) eNil)))) (eVar 9))) (eVar 13))))) sv_law_k15_14b1 sNil)
def sv_law_k15_15 : SV := (sSet 11 (eBin fIx (eVar 2) (eArgs fLen (eCons (eVar 9) eNil))))
def sv_law_k15_16 : SV := (sPar 16 17 (eCons (eBin fIx (eVar 7) (eArgs fLen (eCons (eVar 9) eNil))) (eCons (eArgs m__law_value (eCons (eVar 1) (eCons (eVar 11) eNil))) eNil)))
def sv_law_k15_17 : SV := (sSet 12 (eArgs fLst' (eLcA (eSeq (eMethO "Index" "find" m_Index_find (eVar 5) (eCons (eArgs m_value_bounds (eCons (eVar 2) (eCons (eVar 9) (eCons (eVar 16) (eCons (eVar 17) eNil))))) eNil))) (gN 19) [19] eYes (eArgs m_decode (eCons (eVar 2) (eCons (eVar 19) eNil))))))
def sv_law_k15_18b1 : SV := (sSet 18 (eAndV (eBin fEq (eSl (eVar 13) eNoE (eSomeE (eArgs fLen (eCons (eVar 9) eNil)))) (eVar 9)) (eBin fLe (eArgs m__law_sign (eCons (eVar 11) (eCons (eVar 16) (eCons (eBin fIx (eVar 13) (eArgs fLen (eCons (eVar 9) eNil))) eNil)))) (eC (.int 0)))))
def sv_law_k15_18b2b1 : SV := (sRet (eC (.bl false)))
def sv_law_k15_18b2 : SV := (sIf (eTest (eBin fNe (eBin fIn (eVar 13) (eVar 12)) (eAndV (eVar 18) (eBin fLe (eArgs m__law_sign (eCons (eVar 11) (eCons (eBin fIx (eVar 13) (eArgs fLen (eCons (eVar 9) eNil))) (eCons (eVar 17) eNil)))) (eC (.int 0)))))) sv_law_k15_18b2b1 sNil)
def sv_law_k15_18 : SV := (sFor (eSeq (eVar 8)) (gN 13) (sSeq sv_law_k15_18b1
    sv_law_k15_18b2))
def sv_law_k15_19 : SV := (sSet 14 (eArgs m__law_string (eCons (eVar 1) (eCons (eC (.int 2)) eNil))))
def sv_law_k15_20 : SV := (sSet 15 (eMethO "Index" "find" m_Index_find (eVar 5) (eCons (eArgs m_prefix_range (eCons (eVar 14) eNil)) eNil)))
def sv_law_k15_21 : SV := (sRet (eBin fEq (eVar 15) (eArgs fLst' (eLcA (eSeq (eMethO "Index" "find" m_Index_find (eVar 5) (eCons (eArgs fTup (eCons (eArgs fTup eNil) (eCons (eC .non) eNil))) eNil))) (gN 19) [19] (eTest (eBin fEq (eSl (eVar 19) eNoE (eSomeE (eArgs fLen (eCons (eVar 14) eNil)))) (eVar 14))) (eVar 19)))))
def sv_law_k15 : SV := (sSeq sv_law_k15_1
    (sSeq sv_law_k15_2
    (sSeq sv_law_k15_3
    (sSeq sv_law_k15_4
    (sSeq sv_law_k15_5
    (sSeq sv_law_k15_6
    (sSeq sv_law_k15_7
    (sSeq sv_law_k15_8
    (sSeq sv_law_k15_9
    (sSeq sv_law_k15_10
    (sSeq sv_law_k15_11
    (sSeq sv_law_k15_12
    (sSeq sv_law_k15_13
    (sSeq sv_law_k15_14
    (sSeq sv_law_k15_15
    (sSeq sv_law_k15_16
    (sSeq sv_law_k15_17
    (sSeq sv_law_k15_18
    (sSeq sv_law_k15_19
    (sSeq sv_law_k15_20
    sv_law_k15_21))))))))))))))))))))
def m_law_k15 : List D → List MO → R D := mOf 1 20 sv_law_k15
def sv_law_k16_1 : SV := (sSet 1 (eArgs m__law_start (eCons (eVar 0) eNil)))
def sv_law_k16_2 : SV := (sSet 2 (eBin fIx (eArgs m__law_field (eCons (eVar 1) eNil)) (eC (.int 0))))
def sv_law_k16_3 : SV := (sSet 3 (eArgs m__law_pick (eCons (eVar 1) (eCons (eArgs fLst (eCons (eC (.str "none")) (eCons (eC (.str "first")) (eCons (eC (.str "last")) eNil)))) eNil))))
def sv_law_k16_4 : SV := (sPar 8 9 (eCons (eArgs fTup (eCons (eVar 2) (eCons (eC (.str "asc")) (eCons (eVar 3) eNil)))) (eCons (eArgs fTup (eCons (eVar 2) (eCons (eC (.str "desc")) (eCons (eVar 3) eNil)))) eNil)))
def sv_law_k16_5 : SV := (sSet 4 (eArgs m__law_value (eCons (eVar 1) (eCons (eArgs fTup (eCons (eVar 2) (eCons (eC (.str "asc")) (eCons (eC (.str "none")) eNil)))) eNil))))
def sv_law_k16_6 : SV := (sPar 10 11 (eCons (eArgs m_encode_value (eCons (eVar 8) (eCons (eVar 4) eNil))) (eCons (eArgs m_encode_value (eCons (eVar 9) (eCons (eVar 4) eNil))) eNil)))
def sv_law_k16_7 : SV := (sSet 5 (eIf (eTest (eBin fEq (eVar 3) (eC (.str "none")))) (eC (.int 0)) (eC (.int 1))))
def sv_law_k16_8b1 : SV := (sRet (eC (.bl false)))
def sv_law_k16_8 : SV := (sIf (eOr (eTest (eBin fNe (eSl (eVar 10) eNoE (eSomeE (eVar 5))) (eSl (eVar 11) eNoE (eSomeE (eVar 5))))) (eTest (eBin fNe (eSl (eVar 11) (eSomeE (eVar 5)) eNoE) (eArgs fTuple (eCons (eArgs fLst' (eLcA (eSeq (eSl (eVar 10) (eSomeE (eVar 5)) eNoE)) (gN 13) [13] eYes (eBin fSub (eC (.int 255)) (eVar 13)))) eNil))))) sv_law_k16_8b1 sNil)
def sv_law_k16_9b1 : SV := (sRet (eC (.bl false)))
def sv_law_k16_9 : SV := (sIf (eOr (eTest (eBin fNe (eArgs fLen (eCons (eVar 10) eNil)) (eArgs fLen (eCons (eVar 11) eNil)))) (eTest (eBin fNe (eSl (eVar 10) (eSomeE (eVar 5)) eNoE) (eArgs m_encode_value (eCons (eArgs fTup (eCons (eVar 2) (eCons (eC (.str "asc")) (eCons (eC (.str "none")) eNil)))) (eCons (eVar 4) eNil)))))) sv_law_k16_9b1 sNil)
def sv_law_k16_10b1 : SV := (sRet (eC (.bl false)))
def sv_law_k16_10 : SV := (sIf (eOr (eTest (eBin fIsNot (eArgs m_is_value (eCons (eVar 8) (eCons (eVar 4) eNil))) (eC (.bl true)))) (eNot (eTest (eArgs m__law_true (eCons (eArgs m_is_value (eCons (eVar 9) (eCons (eC .non) eNil))) (eCons (eBin fNe (eVar 3) (eC (.str "none"))) eNil)))))) sv_law_k16_10b1 sNil)
def sv_law_k16_11b1 : SV := (sSet 12 (eArgs m_encode_value (eCons (eVar 8) (eCons (eC .non) eNil))))
def sv_law_k16_11b2b1 : SV := (sRet (eC (.bl false)))
def sv_law_k16_11b2 : SV := (sIf (eOr (eTest (eBin fNe (eVar 12) (eArgs m_encode_value (eCons (eVar 9) (eCons (eC .non) eNil))))) (eTest (eBin fNe (eArgs fLen (eCons (eVar 12) eNil)) (eC (.int 1))))) sv_law_k16_11b2b1 sNil)
def sv_law_k16_11b3b1 : SV := (sRet (eC (.bl false)))
def sv_law_k16_11b3 : SV := (sIf (eOr (eTest (eBin fNe (eBin fLt (eVar 12) (eVar 10)) (eBin fEq (eVar 3) (eC (.str "first"))))) (eOr (eTest (eBin fNe (eBin fLt (eVar 12) (eVar 11)) (eBin fEq (eVar 3) (eC (.str "first"))))) (eTest (eBin fNe (eSl (eVar 10) eNoE (eSomeE (eC (.int 1)))) (eArgs fTup (eCons (eC (.int 1)) eNil)))))) sv_law_k16_11b3b1 sNil)
def sv_law_k16_11b4b1 : SV := (sRet (eC (.bl false)))
def sv_law_k16_11b4 : SV := (sIf (eTest (eBin fNe (eArgs m_compare_rows (eCons (eArgs fTup (eCons (eVar 8) eNil)) (eCons (eArgs fTup (eCons (eC .non) eNil)) (eCons (eArgs fTup (eCons (eVar 4) eNil)) eNil)))) (eArgs m_compare_rows (eCons (eArgs fTup (eCons (eVar 9) eNil)) (eCons (eArgs fTup (eCons (eC .non) eNil)) (eCons (eArgs fTup (eCons (eVar 4) eNil)) eNil)))))) sv_law_k16_11b4b1 sNil)
def sv_law_k16_11 : SV := (sIf (eTest (eBin fNe (eVar 3) (eC (.str "none")))) (sSeq sv_law_k16_11b1
    (sSeq sv_law_k16_11b2
    (sSeq sv_law_k16_11b3
    sv_law_k16_11b4))) sNil)
def sv_law_k16_12 : SV := (sSet 6 (eArgs m__law_value (eCons (eVar 1) (eCons (eArgs fTup (eCons (eVar 2) (eCons (eC (.str "asc")) (eCons (eC (.str "none")) eNil)))) eNil))))
def sv_law_k16_13b1 : SV := (sRet (eC (.bl false)))
def sv_law_k16_13 : SV := (sIf (eTest (eBin fNe (eArgs m_compare_rows (eCons (eArgs fTup (eCons (eVar 8) eNil)) (eCons (eArgs fTup (eCons (eVar 4) eNil)) (eCons (eArgs fTup (eCons (eVar 6) eNil)) eNil)))) (eArgs m_compare_rows (eCons (eArgs fTup (eCons (eVar 9) eNil)) (eCons (eArgs fTup (eCons (eVar 6) eNil)) (eCons (eArgs fTup (eCons (eVar 4) eNil)) eNil)))))) sv_law_k16_13b1 sNil)
def sv_law_k16_14b1 : SV := (sSet 7 (eArgs m__law_most (eCons (eVar 2) eNil)))
def sv_law_k16_14b2 : SV := (sRet (eAndV (eBin fIs (eArgs m_is_value (eCons (eVar 8) (eCons (eVar 7) eNil))) (eC (.bl true))) (eAndV (eBin fIs (eArgs m_is_value (eCons (eVar 8) (eCons (eBin fAdd (eVar 7) (eC (.int 1))) eNil))) (eC (.bl false))) (eBin fIs (eArgs m_is_value (eCons (eVar 8) (eCons (eBin fSub (eC (.int 0)) (eC (.int 1))) eNil))) (eC (.bl false))))))
def sv_law_k16_14 : SV := (sIf (eOr (eTest (eBin fEq (eSl (eVar 2) eNoE (eSomeE (eC (.int 5)))) (eC (.str "fixed")))) (eTest (eBin fEq (eSl (eVar 2) eNoE (eSomeE (eC (.int 6)))) (eC (.str "little"))))) (sSeq sv_law_k16_14b1
    sv_law_k16_14b2) sNil)
def sv_law_k16_15b1 : SV := (sRet (eAndV (eBin fIs (eArgs m_is_value (eCons (eVar 8) (eCons (eBin fSub (eBin fPow (eC (.int 2)) (eC (.int 64))) (eC (.int 1))) eNil))) (eC (.bl true))) (eAndV (eBin fIs (eArgs m_is_value (eCons (eVar 8) (eCons (eBin fPow (eC (.int 2)) (eC (.int 64))) eNil))) (eC (.bl false))) (eBin fIs (eArgs m_is_value (eCons (eVar 8) (eCons (eBin fSub (eC (.int 0)) (eBin fPow (eC (.int 2)) (eC (.int 64)))) eNil))) (eC (.bl false))))))
def sv_law_k16_15 : SV := (sIf (eTest (eBin fEq (eVar 2) (eC (.str "int")))) sv_law_k16_15b1 sNil)
def sv_law_k16_16 : SV := (sSet 7 (eIf (eTest (eBin fEq (eVar 2) (eC (.str "counted")))) (eC (.int 9)) (eC (.int 40))))
def sv_law_k16_17 : SV := (sRet (eAndV (eBin fIs (eArgs m_is_value (eCons (eVar 8) (eCons (eBin fMul (eArgs fTup (eCons (eC (.int 7)) eNil)) (eVar 7)) eNil))) (eC (.bl true))) (eAndV (eBin fIs (eArgs m_is_value (eCons (eVar 8) (eCons (eBin fMul (eArgs fTup (eCons (eC (.int 7)) eNil)) (eBin fAdd (eVar 7) (eC (.int 1)))) eNil))) (eC (.bl false))) (eBin fIs (eArgs m_is_value (eCons (eVar 8) (eCons (eArgs fTup (eCons (eC (.int 256)) eNil)) eNil))) (eC (.bl false))))))
def sv_law_k16 : SV := (sSeq sv_law_k16_1
    (sSeq sv_law_k16_2
    (sSeq sv_law_k16_3
    (sSeq sv_law_k16_4
    (sSeq sv_law_k16_5
    (sSeq sv_law_k16_6
    (sSeq sv_law_k16_7
    (sSeq sv_law_k16_8
    (sSeq sv_law_k16_9
    (sSeq sv_law_k16_10
    (sSeq sv_law_k16_11
    (sSeq sv_law_k16_12
    (sSeq sv_law_k16_13
    (sSeq sv_law_k16_14
    (sSeq sv_law_k16_15
    (sSeq sv_law_k16_16
    sv_law_k16_17))))))))))))))))
def m_law_k16 : List D → List MO → R D := mOf 1 14 sv_law_k16
def sv_format_scheme : SV := (sSeq (sExpr (eArgs m_check_scheme (eCons (eVar 0) eNil)))
    (sRet (eMeth ckS fJoin (eC (.str ",")) (eCons (eArgs fLst' (eLcA (eSeq (eVar 0)) (gN 1) [1] eYes (eMeth ckS fJoin (eC (.str " ")) (eCons (eVar 1) eNil)))) eNil))))
def m_format_scheme : List D → List MO → R D := mOf 1 2 sv_format_scheme
def sv__law_words : SV := (sRet (eMeth ckS fJoin (eC (.str ",")) (eCons (eArgs fLst' (eLcA (eSeq (eVar 0)) (gN 1) [1] eYes (eBin fAdd (eBin fAdd (eBin fAdd (eBin fAdd (eBin fIx (eVar 1) (eC (.int 0))) (eC (.str " "))) (eBin fIx (eVar 1) (eC (.int 1)))) (eC (.str " "))) (eBin fIx (eVar 1) (eC (.int 2)))))) eNil)))
def m__law_words : List D → List MO → R D := mOf 1 2 sv__law_words
def sv_parse_scheme : SV := (sSeq (sIf (eNot (eTest (eUn (fIsi "str") (eVar 0)))) (sRaise "BadText") sNil)
    (sSeq (sSet 1 (eArgs fTuple (eCons (eArgs fLst' (eLcA (eSeq (eMeth ckS fSplit (eVar 0) (eCons (eC (.str ",")) eNil))) (gN 2) [2] eYes (eArgs fTuple (eCons (eMeth ckS fSplit (eVar 2) (eCons (eC (.str " ")) eNil)) eNil)))) eNil)))
    (sSeq (sIf (eNot (eTest (eArgs m_is_scheme (eCons (eVar 1) eNil)))) (sRaise "BadText") sNil)
    (sRet (eVar 1)))))
def m_parse_scheme : List D → List MO → R D := mOf 1 3 sv_parse_scheme
def sv_format_bytes : SV := (sSeq (sExpr (eArgs m_check_bytes (eCons (eVar 0) eNil)))
    (sRet (eMeth ckS fJoin (eC (.str "")) (eCons (eArgs fLst' (eLcA (eSeq (eVar 0)) (gN 1) [1] eYes (eBin fAdd (eBin fIx (eC (.str "0123456789abcdef")) (eBin fFdiv (eVar 1) (eC (.int 16)))) (eBin fIx (eC (.str "0123456789abcdef")) (eBin fMod (eVar 1) (eC (.int 16))))))) eNil))))
def m_format_bytes : List D → List MO → R D := mOf 1 2 sv_format_bytes
def sv__law_hex : SV := (sRet (eMeth ckS fJoin (eC (.str "")) (eCons (eArgs fLst' (eLcA (eSeq (eVar 0)) (gN 1) [1] eYes (eBin fAdd (eBin fIx (eC (.str "0123456789abcdef")) (eBin fFdiv (eVar 1) (eC (.int 16)))) (eBin fIx (eC (.str "0123456789abcdef")) (eBin fMod (eVar 1) (eC (.int 16))))))) eNil)))
def m__law_hex : List D → List MO → R D := mOf 1 2 sv__law_hex
def sv_parse_bytes : SV := (sSeq (sIf (eOr (eNot (eTest (eUn (fIsi "str") (eVar 0)))) (eOr (eTest (eBin fNe (eBin fMod (eArgs fLen (eCons (eVar 0) eNil)) (eC (.int 2))) (eC (.int 0)))) (eNot (eTest (eArgs fAll (eCons (eArgs fLst' (eLcA (eStrI (eVar 0)) (gN 3) [3] eYes (eBin fIn (eVar 3) (eC (.str "0123456789abcdef"))))) eNil)))))) (sRaise "BadText") sNil)
    (sSeq (sSet 1 (eArgs fTuple (eCons (eArgs fLst' (eLcA (eRange3 (eCons (eC (.int 0)) (eCons (eArgs fLen (eCons (eVar 0) eNil)) (eCons (eC (.int 2)) eNil)))) (gN 2) [2] eYes (eBin fAdd (eBin fMul (eMeth ckS fIndexS (eC (.str "0123456789abcdef")) (eCons (eBin fIx (eVar 0) (eVar 2)) eNil)) (eC (.int 16))) (eMeth ckS fIndexS (eC (.str "0123456789abcdef")) (eCons (eBin fIx (eVar 0) (eBin fAdd (eVar 2) (eC (.int 1)))) eNil))))) eNil)))
    (sSeq (sIf (eNot (eTest (eArgs m_is_bytes (eCons (eVar 1) eNil)))) (sRaise "BadText") sNil)
    (sRet (eVar 1)))))
def m_parse_bytes : List D → List MO → R D := mOf 1 4 sv_parse_bytes
def sv__law_parsed : SV := (sSeq (sSet 2 (eC .non))
    (sSeq (sSet 3 (eC .non))
    (sSeq (sTry xcls 4 3 (sSet 2 (eIf (eTest (eBin fEq (eVar 0) (eC (.int 0)))) (eArgs m_parse_scheme (eCons (eVar 1) eNil)) (eArgs m_parse_bytes (eCons (eVar 1) eNil)))))
    (sRet (eIf (eTest (eBin fIs (eVar 3) (eC .non))) (eVar 2) (eArgs m__law_error (eCons (eVar 3) eNil)))))))
def m__law_parsed : List D → List MO → R D := mOf 2 5 sv__law_parsed
def sv__law_rejected : SV := (sSeq (sSet 0 (eArgs fLst (eCons (eC .non) (eCons (eC (.int 5)) (eCons (eC (.str "")) (eCons (eC (.str "int")) (eCons (eC (.str "int asc")) (eCons (eC (.str "int asc none ")) (eCons (eC (.str " int asc none")) (eCons (eC (.str "int  asc none")) (eCons (eC (.str "int asc none,")) (eCons (eC (.str "int asc none, int asc none")) (eCons (eC (.str "int up none")) (eCons (eC (.str "int asc no")) eNil))))))))))))))
    (sSeq (sSet 0 (eBin fAdd (eVar 0) (eArgs fLst (eCons (eC (.str "fixed asc none")) (eCons (eC (.str "fixed5 asc none")) (eCons (eC (.str "fixed0 asc none")) (eCons (eC (.str "INT asc none")) (eCons (eC (.str "int asc none raw")) (eCons (eMeth ckS fJoin (eC (.str ",")) (eCons (eBin fMul (eArgs fLst (eCons (eC (.str "int asc none")) eNil)) (eC (.int 5))) eNil)) (eCons (eC (.str "int,asc,none")) eNil))))))))))
    (sSeq (sIf (eOr (eTest (eBin fNe (eArgs fLst' (eLcA (eSeq (eVar 0)) (gN 1) [1] eYes (eArgs m__law_parsed (eCons (eC (.int 0)) (eCons (eVar 1) eNil))))) (eBin fMul (eArgs fLst (eCons (eC (.str "text")) eNil)) (eC (.int 19))))) (eTest (eBin fNe (eArgs m_parse_scheme (eCons (eC (.str "fixed4 desc last")) eNil)) (eArgs fTup (eCons (eArgs fTup (eCons (eC (.str "fixed4")) (eCons (eC (.str "desc")) (eCons (eC (.str "last")) eNil)))) eNil))))) (sRet (eC (.bl false))) sNil)
    (sSeq (sSet 0 (eArgs fLst (eCons (eC .non) (eCons (eC (.int 5)) (eCons (eC (.str "0")) (eCons (eC (.str "000")) (eCons (eC (.str "0g")) (eCons (eC (.str "FF")) (eCons (eC (.str "0 ")) (eCons (eC (.str "00 00")) (eCons (eC (.str "0x00")) (eCons (eC (.str "-1")) (eCons (eBin fMulS (eC (.str "00")) (eC (.int 401))) eNil)))))))))))))
    (sSeq (sIf (eOr (eTest (eBin fNe (eArgs fLst' (eLcA (eSeq (eVar 0)) (gN 1) [1] eYes (eArgs m__law_parsed (eCons (eC (.int 1)) (eCons (eVar 1) eNil))))) (eBin fMul (eArgs fLst (eCons (eC (.str "text")) eNil)) (eC (.int 11))))) (eOr (eTest (eBin fNe (eArgs m_parse_bytes (eCons (eC (.str "")) eNil)) (eArgs fTup eNil))) (eTest (eBin fNe (eArgs m_format_bytes (eCons (eArgs fTup eNil) eNil)) (eC (.str "")))))) (sRet (eC (.bl false))) sNil)
    (sRet (eAndV (eBin fEq (eArgs m_parse_bytes (eCons (eBin fMulS (eC (.str "00")) (eC (.int 400))) eNil)) (eBin fMul (eArgs fTup (eCons (eC (.int 0)) eNil)) (eC (.int 400)))) (eBin fEq (eArgs m_parse_bytes (eCons (eC (.str "0aff")) eNil)) (eArgs fTup (eCons (eC (.int 10)) (eCons (eC (.int 255)) eNil)))))))))))
def m__law_rejected : List D → List MO → R D := mOf 0 2 sv__law_rejected
def sv_law_k17_1 : SV := (sSet 1 (eArgs m__law_start (eCons (eVar 0) eNil)))
def sv_law_k17_2 : SV := (sSet 2 (eArgs m__law_scheme (eCons (eVar 1) eNil)))
def sv_law_k17_3 : SV := (sSet 3 (eArgs m_format_scheme (eCons (eVar 2) eNil)))
def sv_law_k17_4b1 : SV := (sRet (eC (.bl false)))
def sv_law_k17_4 : SV := (sIf (eOr (eTest (eBin fNe (eVar 3) (eArgs m__law_words (eCons (eVar 2) eNil)))) (eTest (eBin fNe (eArgs m_parse_scheme (eCons (eVar 3) eNil)) (eVar 2)))) sv_law_k17_4b1 sNil)
def sv_law_k17_5 : SV := (sSet 4 (eArgs m__law_string (eCons (eVar 1) (eCons (eC (.int 8)) eNil))))
def sv_law_k17_6 : SV := (sSet 5 (eArgs m_format_bytes (eCons (eVar 4) eNil)))
def sv_law_k17_7b1 : SV := (sRet (eC (.bl false)))
def sv_law_k17_7 : SV := (sIf (eOr (eTest (eBin fNe (eVar 5) (eArgs m__law_hex (eCons (eVar 4) eNil)))) (eTest (eBin fNe (eArgs m_parse_bytes (eCons (eVar 5) eNil)) (eVar 4)))) sv_law_k17_7b1 sNil)
def sv_law_k17_8b1b1 : SV := (sSet 8 (eBin fIx (eArgs fLst (eCons (eVar 3) (eCons (eVar 5) eNil))) (eVar 7)))
def sv_law_k17_8b1b2 : SV := (sSet 9 (eArgs m__law_draw (eCons (eVar 1) (eCons (eBin fAdd (eArgs fLen (eCons (eVar 8) eNil)) (eC (.int 1))) eNil))))
def sv_law_k17_8b1b3 : SV := (sSet 10 (eArgs m__law_pick (eCons (eVar 1) (eCons (eArgs fLst (eCons (eC (.str "0")) (eCons (eC (.str "1")) (eCons (eC (.str "a")) (eCons (eC (.str "f")) (eCons (eC (.str "g")) (eCons (eC (.str " ")) (eCons (eC (.str ",")) (eCons (eC (.str "4")) (eCons (eC (.str "5")) (eCons (eC (.str "")) eNil))))))))))) eNil))))
def sv_law_k17_8b1b4 : SV := (sSet 11 (eArgs m__law_pick (eCons (eVar 1) (eCons (eArgs fLst (eCons (eBin fAdd (eBin fAdd (eSl (eVar 8) eNoE (eSomeE (eVar 9))) (eVar 10)) (eSl (eVar 8) (eSomeE (eBin fAdd (eVar 9) (eC (.int 1)))) eNoE)) (eCons (eBin fAdd (eBin fAdd (eSl (eVar 8) eNoE (eSomeE (eVar 9))) (eVar 10)) (eSl (eVar 8) (eSomeE (eVar 9)) eNoE)) eNil))) eNil))))
def sv_law_k17_8b1b5 : SV := (sSet 12 (eArgs m__law_parsed (eCons (eVar 7) (eCons (eVar 11) eNil))))
def sv_law_k17_8b1b6b1 : SV := (sRet (eC (.bl false)))
def sv_law_k17_8b1b6 : SV := (sIf (eAnd (eTest (eBin fNe (eVar 12) (eC (.str "text")))) (eTest (eBin fNe (eVar 11) (eIf (eTest (eBin fEq (eVar 7) (eC (.int 0)))) (eArgs m__law_words (eCons (eVar 12) eNil)) (eArgs m__law_hex (eCons (eVar 12) eNil)))))) sv_law_k17_8b1b6b1 sNil)
def sv_law_k17_8b1 : SV := (sFor (eSeq (eArgs fLst (eCons (eC (.int 0)) (eCons (eC (.int 1)) eNil)))) (gN 7) (sSeq sv_law_k17_8b1b1
    (sSeq sv_law_k17_8b1b2
    (sSeq sv_law_k17_8b1b3
    (sSeq sv_law_k17_8b1b4
    (sSeq sv_law_k17_8b1b5
    sv_law_k17_8b1b6))))))
def sv_law_k17_8 : SV := (sFor (eRange1 (eCons (eC (.int 8)) eNil)) (gN 6) sv_law_k17_8b1)
def sv_law_k17_9 : SV := (sRet (eArgs m__law_rejected eNil))
def sv_law_k17 : SV := (sSeq sv_law_k17_1
    (sSeq sv_law_k17_2
    (sSeq sv_law_k17_3
    (sSeq sv_law_k17_4
    (sSeq sv_law_k17_5
    (sSeq sv_law_k17_6
    (sSeq sv_law_k17_7
    (sSeq sv_law_k17_8
    sv_law_k17_9))))))))
def m_law_k17 : List D → List MO → R D := mOf 1 13 sv_law_k17
def sv__law_fields : SV := (sSeq (sSet 0 (eArgs fLst (eCons (eArgs fTup (eCons (eC (.str "int")) (eCons (eC (.str "asc")) (eCons (eC (.str "none")) eNil)))) (eCons (eArgs fTup (eCons (eC (.str "fixed1")) (eCons (eC (.str "desc")) (eCons (eC (.str "first")) eNil)))) (eCons (eArgs fTup (eCons (eC (.str "little4")) (eCons (eC (.str "asc")) (eCons (eC (.str "last")) eNil)))) (eCons (eArgs fTup (eCons (eC (.str "raw")) (eCons (eC (.str "asc")) (eCons (eC (.str "none")) eNil)))) (eCons (eArgs fTup (eCons (eC (.str "closed")) (eCons (eC (.str "asc")) (eCons (eC (.str "none")) eNil)))) (eCons (eArgs fTup (eCons (eC (.str "counted")) (eCons (eC (.str "desc")) (eCons (eC (.str "none")) eNil)))) eNil))))))))
    (sSeq (sSet 1 (eArgs fLst (eCons (eC .non) (eCons (eC (.int 5)) (eCons (eArgs fTup eNil) (eCons (eArgs fTup (eCons (eC (.str "int")) (eCons (eC (.str "asc")) eNil))) (eCons (eArgs fLst (eCons (eC (.str "int")) (eCons (eC (.str "asc")) (eCons (eC (.str "none")) eNil)))) (eCons (eArgs fTup (eCons (eC (.str "fixed")) (eCons (eC (.str "asc")) (eCons (eC (.str "none")) eNil)))) (eCons (eArgs fTup (eCons (eC (.str "fixed5")) (eCons (eC (.str "asc")) (eCons (eC (.str "none")) eNil)))) (eCons (eArgs fTup (eCons (eC (.str "little0")) (eCons (eC (.str "asc")) (eCons (eC (.str "none")) eNil)))) (eCons (eArgs fTup (eCons (eC (.str "text")) (eCons (eC (.str "asc")) (eCons (eC (.str "none")) eNil)))) (eCons (eArgs fTup (eCons (eC (.str "int")) (eCons (eC (.str "up")) (eCons (eC (.str "none")) eNil)))) (eCons (eArgs fTup (eCons (eC (.str "int")) (eCons (eC (.str "asc")) (eCons (eC .non) eNil)))) (eCons (eArgs fTup (eCons (eC (.str "int")) (eCons (eC (.str "asc")) (eCons (eC (.str "none")) (eCons (eC (.int 0)) eNil))))) (eCons (eArgs fTup (eCons (eC (.str "asc")) (eCons (eC (.str "int")) (eCons (eC (.str "none")) eNil)))) (eCons (eArgs fTup (eCons (eC (.int 1)) (eCons (eC (.int 2)) (eCons (eC (.int 3)) eNil)))) eNil))))))))))))))))
    (sSeq (sIf (eOr (eTest (eBin fNe (eArgs fLst' (eLcA (eSeq (eVar 0)) (gN 2) [2] eYes (eArgs m_is_field (eCons (eVar 2) eNil)))) (eBin fMul (eArgs fLst (eCons (eC (.bl true)) eNil)) (eC (.int 6))))) (eTest (eBin fNe (eArgs fLst' (eLcA (eSeq (eVar 1)) (gN 2) [2] eYes (eArgs m_is_field (eCons (eVar 2) eNil)))) (eBin fMul (eArgs fLst (eCons (eC (.bl false)) eNil)) (eC (.int 14)))))) (sRet (eC (.bl false))) sNil)
    (sSeq (sIf (eOr (eTest (eBin fIsNot (eArgs m_is_scheme (eCons (eArgs fTuple (eCons (eSl (eVar 0) eNoE (eSomeE (eC (.int 4)))) eNil)) eNil)) (eC (.bl true)))) (eOr (eTest (eBin fIsNot (eArgs m_is_scheme (eCons (eArgs fTuple (eCons (eSl (eVar 0) eNoE (eSomeE (eC (.int 5)))) eNil)) eNil)) (eC (.bl false)))) (eOr (eTest (eBin fIsNot (eArgs m_is_scheme (eCons (eArgs fTup eNil) eNil)) (eC (.bl false)))) (eTest (eBin fIsNot (eArgs m_is_scheme (eCons (eSl (eVar 0) eNoE (eSomeE (eC (.int 1)))) eNil)) (eC (.bl false))))))) (sRet (eC (.bl false))) sNil)
    (sRet (eBin fEq (eArgs fLst' (eLcA (eSeq (eVar 1)) (gN 2) [2] eYes (eArgs m_is_scheme (eCons (eArgs fTup (eCons (eVar 2) eNil)) eNil)))) (eBin fMul (eArgs fLst (eCons (eC (.bl false)) eNil)) (eC (.int 14)))))))))
def m__law_fields : List D → List MO → R D := mOf 0 3 sv__law_fields
def sv__law_values : SV := (sSeq (sSet 0 (eArgs fTup (eCons (eC (.str "int")) (eCons (eC (.str "asc")) (eCons (eC (.str "none")) eNil)))))
    (sSeq (sSet 1 (eArgs fTup (eCons (eC (.str "closed")) (eCons (eC (.str "desc")) (eCons (eC (.str "none")) eNil)))))
    (sSeq (sFor (eSeq (eArgs fLst (eCons (eC .non) (eCons (eC (.str "1")) (eCons (eC (.bl true)) (eCons (eArgs fTup (eCons (eC (.int 1)) eNil)) (eCons (eArgs fLst (eCons (eC (.int 1)) eNil)) (eCons (eBin fPow (eC (.int 2)) (eC (.int 64))) eNil)))))))) (gN 2) (sIf (eOr (eTest (eBin fIsNot (eArgs m_is_value (eCons (eVar 0) (eCons (eVar 2) eNil))) (eC (.bl false)))) (eTest (eBin fIsNot (eArgs m_is_value (eCons (eArgs fTup (eCons (eC (.str "fixed4")) (eCons (eC (.str "asc")) (eCons (eC (.str "none")) eNil)))) (eCons (eVar 2) eNil))) (eC (.bl false))))) (sRet (eC (.bl false))) sNil))
    (sSeq (sFor (eSeq (eArgs fLst (eCons (eC .non) (eCons (eC (.int 1)) (eCons (eArgs fTup (eCons (eC (.str "a")) eNil)) (eCons (eArgs fLst (eCons (eC (.int 1)) eNil)) (eCons (eBin fMul (eArgs fTup (eCons (eC (.int 7)) eNil)) (eC (.int 41))) (eCons (eArgs fTup (eCons (eC (.int 256)) eNil)) (eCons (eC (.str "a")) (eCons (eC (.bl true)) eNil)))))))))) (gN 2) (sIf (eOr (eTest (eBin fIsNot (eArgs m_is_value (eCons (eVar 1) (eCons (eVar 2) eNil))) (eC (.bl false)))) (eTest (eBin fIsNot (eArgs m_is_value (eCons (eArgs fTup (eCons (eC (.str "raw")) (eCons (eC (.str "asc")) (eCons (eC (.str "none")) eNil)))) (eCons (eVar 2) eNil))) (eC (.bl false))))) (sRet (eC (.bl false))) sNil))
    (sRet (eAndV (eBin fIs (eArgs m_is_value (eCons (eArgs fTup (eCons (eC (.str "counted")) (eCons (eC (.str "asc")) (eCons (eC (.str "first")) eNil)))) (eCons (eC .non) eNil))) (eC (.bl true))) (eBin fIs (eArgs m_is_value (eCons (eArgs fTup (eCons (eC (.str "counted")) (eCons (eC (.str "asc")) (eCons (eC (.str "first")) eNil)))) (eCons (eBin fMul (eArgs fTup (eCons (eC (.int 7)) eNil)) (eC (.int 10))) eNil))) (eC (.bl false)))))))))
def m__law_values : List D → List MO → R D := mOf 0 3 sv__law_values
def sv__law_call : SV := (sSeq (sIf (eTest (eBin fEq (eVar 0) (eC (.int 0)))) (sRet (eArgs m_successor (eCons (eVar 1) eNil))) sNil)
    (sSeq (sIf (eTest (eBin fEq (eVar 0) (eC (.int 1)))) (sRet (eArgs m_prefix_end (eCons (eVar 1) eNil))) sNil)
    (sSeq (sIf (eTest (eBin fEq (eVar 0) (eC (.int 2)))) (sRet (eArgs m_prefix_range (eCons (eVar 1) eNil))) sNil)
    (sSeq (sIf (eTest (eBin fEq (eVar 0) (eC (.int 3)))) (sRet (eArgs m_format_bytes (eCons (eVar 1) eNil))) sNil)
    (sSeq (sIf (eTest (eBin fEq (eVar 0) (eC (.int 4)))) (sRet (eArgs m_separator (eCons (eVar 1) (eCons (eVar 2) eNil)))) sNil)
    (sSeq (sIf (eTest (eBin fEq (eVar 0) (eC (.int 5)))) (sRet (eArgs m_between (eCons (eVar 1) (eCons (eVar 2) eNil)))) sNil)
    (sSeq (sIf (eTest (eBin fEq (eVar 0) (eC (.int 6)))) (sRet (eArgs m_encode (eCons (eVar 1) (eCons (eVar 2) eNil)))) sNil)
    (sSeq (sIf (eTest (eBin fEq (eVar 0) (eC (.int 7)))) (sRet (eArgs m_decode (eCons (eVar 1) (eCons (eVar 2) eNil)))) sNil)
    (sSeq (sIf (eTest (eBin fEq (eVar 0) (eC (.int 8)))) (sRet (eArgs m_keeps_order (eCons (eVar 1) eNil))) sNil)
    (sSeq (sIf (eTest (eBin fEq (eVar 0) (eC (.int 9)))) (sRet (eArgs m_order_witness (eCons (eVar 1) eNil))) sNil)
    (sSeq (sIf (eTest (eBin fEq (eVar 0) (eC (.int 10)))) (sRet (eArgs m_is_decodable (eCons (eVar 1) eNil))) sNil)
    (sSeq (sIf (eTest (eBin fEq (eVar 0) (eC (.int 11)))) (sRet (eArgs m_decode_witness (eCons (eVar 1) eNil))) sNil)
    (sRet (eIf (eTest (eBin fEq (eVar 0) (eC (.int 12)))) (eArgs m_format_scheme (eCons (eVar 1) eNil)) (eArgs m_compare_rows (eCons (eVar 1) (eCons (eVar 2) (eCons (eVar 2) eNil))))))))))))))))))
def m__law_call : List D → List MO → R D := mOf 3 3 sv__law_call
def sv__law_asked : SV := (sSeq (sSet 3 (eC .non))
    (sSeq (sTry xcls 4 3 (sExpr (eArgs m__law_call (eCons (eVar 0) (eCons (eVar 1) (eCons (eVar 2) eNil))))))
    (sRet (eIf (eTest (eBin fIs (eVar 3) (eC .non))) (eC (.str "done")) (eArgs m__law_error (eCons (eVar 3) eNil))))))
def m__law_asked : List D → List MO → R D := mOf 3 5 sv__law_asked
def sv_law_k18_1 : SV := (sSet 1 (eArgs m__law_start (eCons (eVar 0) eNil)))
def sv_law_k18_2b1 : SV := (sRet (eC (.bl false)))
def sv_law_k18_2 : SV := (sIf (eOr (eNot (eTest (eArgs m__law_fields eNil))) (eNot (eTest (eArgs m__law_values eNil)))) sv_law_k18_2b1 sNil)
def sv_law_k18_3 : SV := (sSet 2 (eArgs fLst (eCons (eC .non) (eCons (eC (.int 5)) (eCons (eArgs fLst (eCons (eC (.int 1)) eNil)) (eCons (eArgs fTup (eCons (eC (.int 256)) eNil)) (eCons (eArgs fTup (eCons (eBin fSub (eC (.int 0)) (eC (.int 1))) eNil)) (eCons (eArgs fTup (eCons (eC (.bl true)) eNil)) (eCons (eArgs fTup (eCons (eC (.str "a")) eNil)) (eCons (eArgs fTup (eCons (eC .non) eNil)) (eCons (eBin fMul (eArgs fTup (eCons (eC (.int 0)) eNil)) (eC (.int 401))) (eCons (eC (.str "00")) eNil))))))))))))
def sv_law_k18_4b1b1 : SV := (sRet (eC (.bl false)))
def sv_law_k18_4b1 : SV := (sIf (eOr (eTest (eBin fNe (eArgs fLst' (eLcA (eRange1 (eCons (eC (.int 6)) eNil)) (gN 7) [7] eYes (eArgs m__law_asked (eCons (eVar 7) (eCons (eVar 3) (eCons (eArgs fTup (eCons (eC (.int 5)) eNil)) eNil)))))) (eBin fMul (eArgs fLst (eCons (eC (.str "bytes")) eNil)) (eC (.int 6))))) (eTest (eBin fNe (eArgs fLst' (eLcA (eSeq (eArgs fTup (eCons (eC (.int 4)) (eCons (eC (.int 5)) eNil)))) (gN 7) [7] eYes (eArgs m__law_asked (eCons (eVar 7) (eCons (eArgs fTup (eCons (eC (.int 5)) eNil)) (eCons (eVar 3) eNil)))))) (eBin fMul (eArgs fLst (eCons (eC (.str "bytes")) eNil)) (eC (.int 2)))))) sv_law_k18_4b1b1 sNil)
def sv_law_k18_4b2b1 : SV := (sRet (eC (.bl false)))
def sv_law_k18_4b2 : SV := (sIf (eTest (eBin fIsNot (eArgs m_is_bytes (eCons (eVar 3) eNil)) (eC (.bl false)))) sv_law_k18_4b2b1 sNil)
def sv_law_k18_4 : SV := (sFor (eSeq (eVar 2)) (gN 3) (sSeq sv_law_k18_4b1
    sv_law_k18_4b2))
def sv_law_k18_5 : SV := (sSet 4 (eArgs m__law_draw (eCons (eVar 1) (eCons (eC (.int 256)) eNil))))
def sv_law_k18_6b1 : SV := (sRet (eC (.bl false)))
def sv_law_k18_6 : SV := (sIf (eOr (eTest (eBin fNe (eArgs fLst' (eLcA (eSeq (eArgs fTup (eCons (eC (.int 4)) (eCons (eC (.int 5)) eNil)))) (gN 7) [7] eYes (eArgs m__law_asked (eCons (eVar 7) (eCons (eArgs fTup (eCons (eVar 4) eNil)) (eCons (eArgs fTup (eCons (eVar 4) eNil)) eNil)))))) (eBin fMul (eArgs fLst (eCons (eC (.str "bytes")) eNil)) (eC (.int 2))))) (eTest (eBin fNe (eArgs fLst' (eLcA (eSeq (eArgs fTup (eCons (eC (.int 4)) (eCons (eC (.int 5)) eNil)))) (gN 7) [7] eYes (eArgs m__law_asked (eCons (eVar 7) (eCons (eArgs fTup (eCons (eVar 4) (eCons (eC (.int 1)) eNil))) (eCons (eArgs fTup (eCons (eVar 4) eNil)) eNil)))))) (eBin fMul (eArgs fLst (eCons (eC (.str "bytes")) eNil)) (eC (.int 2)))))) sv_law_k18_6b1 sNil)
def sv_law_k18_7b1 : SV := (sRet (eC (.bl false)))
def sv_law_k18_7 : SV := (sIf (eOr (eTest (eBin fNe (eArgs m__law_asked (eCons (eC (.int 5)) (eCons (eArgs fTup (eCons (eVar 4) eNil)) (eCons (eArgs fTup (eCons (eVar 4) (eCons (eC (.int 0)) eNil))) eNil)))) (eC (.str "none")))) (eOr (eTest (eBin fNe (eArgs m__law_asked (eCons (eC (.int 5)) (eCons (eArgs fTup eNil) (eCons (eArgs fTup (eCons (eC (.int 0)) eNil)) eNil)))) (eC (.str "none")))) (eTest (eBin fIsNot (eArgs m_is_bytes (eCons (eBin fMul (eArgs fTup (eCons (eC (.int 0)) eNil)) (eC (.int 400))) eNil)) (eC (.bl true)))))) sv_law_k18_7b1 sNil)
def sv_law_k18_8b1b1 : SV := (sRet (eC (.bl false)))
def sv_law_k18_8b1 : SV := (sIf (eTest (eBin fNe (eArgs fLst' (eLcA (eRange2 (eCons (eC (.int 6)) (eCons (eC (.int 14)) eNil))) (gN 7) [7] eYes (eArgs m__law_asked (eCons (eVar 7) (eCons (eVar 3) (eCons (eC .non) eNil)))))) (eBin fMul (eArgs fLst (eCons (eC (.str "scheme")) eNil)) (eC (.int 8))))) sv_law_k18_8b1b1 sNil)
def sv_law_k18_8 : SV := (sFor (eSeq (eArgs fLst (eCons (eC .non) (eCons (eC (.int 5)) (eCons (eArgs fTup eNil) (eCons (eArgs fLst (eCons (eArgs fTup (eCons (eC (.str "int")) (eCons (eC (.str "asc")) (eCons (eC (.str "none")) eNil)))) eNil)) (eCons (eArgs fTup (eCons (eArgs fTup (eCons (eC (.str "int")) (eCons (eC (.str "asc")) eNil))) eNil)) (eCons (eBin fMul (eArgs fTup (eCons (eArgs fTup (eCons (eC (.str "int")) (eCons (eC (.str "asc")) (eCons (eC (.str "none")) eNil)))) eNil)) (eC (.int 5))) eNil)))))))) (gN 3) sv_law_k18_8b1)
def sv_law_k18_9 : SV := (sSet 5 (eArgs fTup (eCons (eArgs fTup (eCons (eC (.str "int")) (eCons (eC (.str "asc")) (eCons (eC (.str "none")) eNil)))) (eCons (eArgs fTup (eCons (eC (.str "closed")) (eCons (eC (.str "desc")) (eCons (eC (.str "last")) eNil)))) eNil))))
def sv_law_k18_10b1b1 : SV := (sRet (eC (.bl false)))
def sv_law_k18_10b1 : SV := (sIf (eOr (eTest (eBin fNe (eArgs fLst' (eLcA (eSeq (eArgs fTup (eCons (eC (.int 6)) (eCons (eC (.int 13)) eNil)))) (gN 7) [7] eYes (eArgs m__law_asked (eCons (eVar 7) (eCons (eVar 5) (eCons (eVar 3) eNil)))))) (eBin fMul (eArgs fLst (eCons (eC (.str "row")) eNil)) (eC (.int 2))))) (eTest (eBin fIsNot (eArgs m_is_row (eCons (eVar 5) (eCons (eVar 3) eNil))) (eC (.bl false))))) sv_law_k18_10b1b1 sNil)
def sv_law_k18_10 : SV := (sFor (eSeq (eArgs fLst (eCons (eC .non) (eCons (eC (.int 5)) (eCons (eArgs fTup eNil) (eCons (eArgs fTup (eCons (eC (.int 1)) eNil)) (eCons (eArgs fTup (eCons (eC (.int 1)) (eCons (eArgs fTup (eCons (eC (.int 7)) eNil)) (eCons (eC (.int 2)) eNil)))) (eCons (eArgs fLst (eCons (eC (.int 1)) (eCons (eArgs fTup (eCons (eC (.int 7)) eNil)) eNil))) (eCons (eArgs fTup (eCons (eC (.int 1)) (eCons (eC (.int 2)) eNil))) (eCons (eArgs fTup (eCons (eArgs fTup (eCons (eC (.int 7)) eNil)) (eCons (eC (.int 1)) eNil))) (eCons (eArgs fTup (eCons (eC .non) (eCons (eArgs fTup (eCons (eC (.int 7)) eNil)) eNil))) (eCons (eArgs fTup (eCons (eC (.bl true)) (eCons (eArgs fTup (eCons (eC (.int 7)) eNil)) eNil))) (eCons (eArgs fTup (eCons (eC (.int 1)) (eCons (eArgs fTup (eCons (eC (.int 300)) eNil)) eNil))) (eCons (eArgs fTup (eCons (eC (.int 1)) (eCons (eC (.str "a")) eNil))) eNil)))))))))))))) (gN 3) sv_law_k18_10b1)
def sv_law_k18_11b1b1 : SV := (sRet (eC (.bl false)))
def sv_law_k18_11b1 : SV := (sIf (eTest (eBin fNe (eArgs m__law_asked (eCons (eC (.int 7)) (eCons (eVar 5) (eCons (eVar 3) eNil)))) (eC (.str "bytes")))) sv_law_k18_11b1b1 sNil)
def sv_law_k18_11 : SV := (sFor (eSeq (eArgs fLst (eCons (eC .non) (eCons (eC (.int 5)) (eCons (eArgs fTup eNil) (eCons (eArgs fTup (eCons (eC (.int 300)) eNil)) (eCons (eArgs fTup (eCons (eC (.int 128)) eNil)) (eCons (eArgs fTup (eCons (eC (.int 128)) (eCons (eC (.int 3)) eNil))) (eCons (eArgs fLst (eCons (eC (.int 128)) (eCons (eC (.int 2)) eNil))) (eCons (eArgs fTup (eCons (eC (.int 128)) (eCons (eC (.int 2)) (eCons (eC (.int 0)) eNil)))) (eCons (eArgs fTup (eCons (eC (.int 129)) (eCons (eC (.int 0)) (eCons (eC (.int 2)) eNil)))) (eCons (eArgs fTup (eCons (eC (.int 130)) (eCons (eC (.int 0)) (eCons (eC (.int 5)) (eCons (eC (.int 2)) eNil))))) (eCons (eBin fAdd (eBin fAdd (eArgs fTup (eCons (eC (.int 137)) eNil)) (eBin fMul (eArgs fTup (eCons (eC (.int 1)) eNil)) (eC (.int 9)))) (eArgs fTup (eCons (eC (.int 2)) eNil))) eNil))))))))))))) (gN 3) sv_law_k18_11b1)
def sv_law_k18_12 : SV := (sSet 6 (eArgs fTup (eCons (eArgs fTup (eCons (eC (.str "raw")) (eCons (eC (.str "asc")) (eCons (eC (.str "none")) eNil)))) (eCons (eArgs fTup (eCons (eC (.str "int")) (eCons (eC (.str "asc")) (eCons (eC (.str "none")) eNil)))) eNil))))
def sv_law_k18_13 : SV := (sRet (eAndV (eBin fEq (eArgs m__law_asked (eCons (eC (.int 7)) (eCons (eVar 6) (eCons (eC .non) eNil)))) (eC (.str "scheme"))) (eAndV (eBin fEq (eArgs m_decode (eCons (eVar 5) (eCons (eArgs fTup (eCons (eC (.int 128)) (eCons (eC (.int 2)) eNil))) eNil))) (eArgs fTup (eCons (eC (.int 0)) (eCons (eC .non) eNil)))) (eBin fEq (eArgs m_successor (eCons (eBin fMul (eArgs fTup (eCons (eC (.int 0)) eNil)) (eC (.int 399))) eNil)) (eBin fMul (eArgs fTup (eCons (eC (.int 0)) eNil)) (eC (.int 400)))))))
def sv_law_k18 : SV := (sSeq sv_law_k18_1
    (sSeq sv_law_k18_2
    (sSeq sv_law_k18_3
    (sSeq sv_law_k18_4
    (sSeq sv_law_k18_5
    (sSeq sv_law_k18_6
    (sSeq sv_law_k18_7
    (sSeq sv_law_k18_8
    (sSeq sv_law_k18_9
    (sSeq sv_law_k18_10
    (sSeq sv_law_k18_11
    (sSeq sv_law_k18_12
    sv_law_k18_13))))))))))))
def m_law_k18 : List D → List MO → R D := mOf 1 8 sv_law_k18
def sv__law_ranges : SV := (sSeq (sSet 5 (eC .non))
    (sSeq (sTry xcls 6 5 (sIf (eTest (eBin fEq (eVar 0) (eC (.int 0)))) (sExpr (eArgs m_row_range (eCons (eVar 1) (eCons (eVar 2) eNil)))) (sIf (eTest (eBin fEq (eVar 0) (eC (.int 1)))) (sExpr (eArgs m_starts_with (eCons (eVar 1) (eCons (eVar 2) (eCons (eVar 3) eNil))))) (sExpr (eArgs m_value_bounds (eCons (eVar 1) (eCons (eVar 2) (eCons (eVar 3) (eCons (eVar 4) eNil)))))))))
    (sRet (eIf (eTest (eBin fIs (eVar 5) (eC .non))) (eC (.str "done")) (eArgs m__law_error (eCons (eVar 5) eNil))))))
def m__law_ranges : List D → List MO → R D := mOf 5 7 sv__law_ranges
def sv__law_splits : SV := (sSeq (sSet 4 (eC .non))
    (sSeq (sTry xcls 5 4 (sIf (eTest (eBin fEq (eVar 0) (eC (.int 0)))) (sExpr (eArgs m_separators (eCons (eVar 1) (eCons (eVar 2) eNil)))) (sIf (eTest (eBin fEq (eVar 0) (eC (.int 1)))) (sExpr (eArgs m_saved (eCons (eVar 1) (eCons (eVar 2) eNil)))) (sIf (eTest (eBin fEq (eVar 0) (eC (.int 2)))) (sExpr (eArgs m_are_separators (eCons (eVar 1) (eCons (eVar 2) (eCons (eVar 3) eNil))))) (sExpr (eArgs m_route (eCons (eVar 1) (eCons (eVar 3) eNil))))))))
    (sRet (eIf (eTest (eBin fIs (eVar 4) (eC .non))) (eC (.str "done")) (eArgs m__law_error (eCons (eVar 4) eNil))))))
def m__law_splits : List D → List MO → R D := mOf 4 6 sv__law_splits
def sv_Index_remove_k19 : SV := (sSeq (sExpr (eArgs m_check_bytes (eCons (eVar 1) eNil)))
    (sSeq (sSet 2 (eArgs m_place_of (eCons (eUn (fFldO "Index" "marks") (eVar 0)) (eCons (eVar 1) eNil))))
    (sSeq (sIf (eTest (eBin fNotIn (eVar 1) (eBin fIx (eUn (fFldO "Index" "blocks") (eVar 0)) (eVar 2)))) (sRaise "NotFound") sNil)
    (sSeq (sSub (eUn (fFldO "Index" "blocks") (eVar 0)) (eVar 2) (eArgs fLst' (eLcA (eSeq (eBin fIx (eUn (fFldO "Index" "blocks") (eVar 0)) (eVar 2))) (gN 3) [3] (eTest (eBin fNe (eVar 3) (eVar 1))) (eVar 3))))
    (sIf (eAnd (eTest (eBin fEq (eBin fIx (eUn (fFldO "Index" "blocks") (eVar 0)) (eVar 2)) (eArgs fLst eNil))) (eTest (eBin fGt (eArgs fLen (eCons (eUn (fFldO "Index" "blocks") (eVar 0)) eNil)) (eC (.int 1))))) (sSeq (sExpr (eMeth ckL fPop (eUn (fFldO "Index" "blocks") (eVar 0)) (eCons (eVar 2) eNil)))
    (sExpr (eMeth ckL fPop (eUn (fFldO "Index" "marks") (eVar 0)) (eCons (eArgs fMax (eCons (eBin fSub (eVar 2) (eC (.int 1))) (eCons (eC (.int 0)) eNil))) eNil)))) sNil)))))
def m_Index_remove_k19 : List D → List MO → R D := mOf 2 4 sv_Index_remove_k19
def sv_Index_contains_k19 : SV := (sSeq (sExpr (eArgs m_check_bytes (eCons (eVar 1) eNil)))
    (sRet (eBin fIn (eVar 1) (eBin fIx (eUn (fFldO "Index" "blocks") (eVar 0)) (eArgs m_place_of (eCons (eUn (fFldO "Index" "marks") (eVar 0)) (eCons (eVar 1) eNil)))))))
def m_Index_contains_k19 : List D → List MO → R D := mOf 2 2 sv_Index_contains_k19
def sv__law_change_k19 : SV := (sSeq (sSet 3 (eC .non))
    (sSeq (sTry xcls 4 3 (sIf (eTest (eBin fEq (eVar 1) (eC (.int 0)))) (sExpr (eMethO "Index" "insert" m_Index_insert (eVar 0) (eCons (eVar 2) eNil))) (sIf (eTest (eBin fEq (eVar 1) (eC (.int 1)))) (sExpr (eMethO "Index" "remove" m_Index_remove_k19 (eVar 0) (eCons (eVar 2) eNil))) (sIf (eTest (eBin fEq (eVar 1) (eC (.int 2)))) (sExpr (eMethO "Index" "contains" m_Index_contains_k19 (eVar 0) (eCons (eVar 2) eNil))) (sIf (eTest (eBin fEq (eVar 1) (eC (.int 3)))) (sExpr (eMethO "Index" "find" m_Index_find (eVar 0) (eCons (eVar 2) eNil))) (sExpr (eMakeO "Index" m_Index___init__ (eCons (eVar 2) eNil))))))))
    (sRet (eIf (eTest (eBin fIs (eVar 3) (eC .non))) (eC (.str "done")) (eArgs m__law_error (eCons (eVar 3) eNil))))))
def m__law_change_k19 : List D → List MO → R D := mOf 3 5 sv__law_change_k19
def sv_Index_layout_k19 : SV := (sRet (eArgs fLst' (eLcA (eSeq (eUn (fFldO "Index" "blocks") (eVar 0))) (gN 1) [1] eYes (eArgs fListC (eCons (eVar 1) eNil)))))
def m_Index_layout_k19 : List D → List MO → R D := mOf 1 2 sv_Index_layout_k19
def sv_Index_separators_k19 : SV := (sRet (eArgs fListC (eCons (eUn (fFldO "Index" "marks") (eVar 0)) eNil)))
def m_Index_separators_k19 : List D → List MO → R D := mOf 1 1 sv_Index_separators_k19
def sv__law_index_1b1 : SV := (sRet (eC (.bl false)))
def sv__law_index_1 : SV := (sIf (eOr (eTest (eBin fNe (eArgs fLst' (eLcA (eSeq (eArgs fTup (eCons (eC .non) (eCons (eC (.int 1)) (eCons (eC (.int 21)) (eCons (eC (.bl true)) (eCons (eC (.str "2")) eNil))))))) (gN 1) [1] eYes (eArgs m__law_change_k19 (eCons (eC .non) (eCons (eC (.int 4)) (eCons (eVar 1) eNil)))))) (eBin fMul (eArgs fLst (eCons (eC (.str "index")) eNil)) (eC (.int 5))))) (eTest (eBin fNe (eArgs fLst' (eLcA (eSeq (eArgs fTup (eCons (eC (.int 2)) (eCons (eC (.int 20)) eNil)))) (gN 2) [2] eYes (eArgs m__law_change_k19 (eCons (eC .non) (eCons (eC (.int 4)) (eCons (eVar 2) eNil)))))) (eBin fMul (eArgs fLst (eCons (eC (.str "done")) eNil)) (eC (.int 2)))))) sv__law_index_1b1 sNil)
def sv__law_index_2 : SV := (sSet 0 (eMakeO "Index" m_Index___init__ (eCons (eC (.int 2)) eNil)))
def sv__law_index_3b1b1 : SV := (sRet (eC (.bl false)))
def sv__law_index_3b1 : SV := (sIf (eTest (eBin fNe (eArgs fLst' (eLcA (eRange1 (eCons (eC (.int 3)) eNil)) (gN 3) [3] eYes (eArgs m__law_change_k19 (eCons (eVar 0) (eCons (eVar 3) (eCons (eVar 1) eNil)))))) (eBin fMul (eArgs fLst (eCons (eC (.str "bytes")) eNil)) (eC (.int 3))))) sv__law_index_3b1b1 sNil)
def sv__law_index_3 : SV := (sFor (eSeq (eArgs fLst (eCons (eC .non) (eCons (eC (.int 5)) (eCons (eArgs fLst (eCons (eC (.int 1)) eNil)) (eCons (eArgs fTup (eCons (eC (.int 256)) eNil)) (eCons (eArgs fTup (eCons (eC (.bl true)) eNil)) eNil))))))) (gN 1) sv__law_index_3b1)
def sv__law_index_4b1b1 : SV := (sRet (eC (.bl false)))
def sv__law_index_4b1 : SV := (sIf (eTest (eBin fNe (eArgs m__law_change_k19 (eCons (eVar 0) (eCons (eC (.int 3)) (eCons (eVar 1) eNil)))) (eC (.str "bytes")))) sv__law_index_4b1b1 sNil)
def sv__law_index_4 : SV := (sFor (eSeq (eArgs fLst (eCons (eC .non) (eCons (eC (.int 5)) (eCons (eArgs fTup eNil) (eCons (eArgs fTup (eCons (eArgs fTup (eCons (eC (.int 1)) eNil)) eNil)) (eCons (eArgs fLst (eCons (eArgs fTup (eCons (eC (.int 1)) eNil)) (eCons (eArgs fTup (eCons (eC (.int 2)) eNil)) eNil))) (eCons (eArgs fTup (eCons (eArgs fTup (eCons (eC (.int 1)) eNil)) (eCons (eC (.int 5)) eNil))) (eCons (eArgs fTup (eCons (eC (.int 5)) (eCons (eArgs fTup (eCons (eC (.int 1)) eNil)) eNil))) (eCons (eArgs fTup (eCons (eC .non) (eCons (eArgs fTup (eCons (eC (.int 1)) eNil)) eNil))) (eCons (eArgs fTup (eCons (eArgs fTup (eCons (eC (.int 1)) eNil)) (eCons (eArgs fTup (eCons (eC (.int 2)) eNil)) (eCons (eArgs fTup (eCons (eC (.int 3)) eNil)) eNil)))) (eCons (eArgs fTup (eCons (eArgs fTup (eCons (eC (.int 256)) eNil)) (eCons (eC .non) eNil))) eNil)))))))))))) (gN 1) sv__law_index_4b1)
def sv__law_index_5b1 : SV := (sRet (eC (.bl false)))
def sv__law_index_5 : SV := (sIf (eOr (eTest (eBin fNe (eArgs m__law_change_k19 (eCons (eVar 0) (eCons (eC (.int 1)) (eCons (eArgs fTup (eCons (eC (.int 1)) eNil)) eNil)))) (eC (.str "none")))) (eOr (eTest (eBin fNe (eMethO "Index" "insert" m_Index_insert (eVar 0) (eCons (eArgs fTup (eCons (eC (.int 1)) eNil)) eNil)) (eC (.int 0)))) (eOr (eTest (eBin fNe (eArgs m__law_change_k19 (eCons (eVar 0) (eCons (eC (.int 0)) (eCons (eArgs fTup (eCons (eC (.int 1)) eNil)) eNil)))) (eC (.str "index")))) (eTest (eBin fIsNot (eMethO "Index" "contains" m_Index_contains_k19 (eVar 0) (eCons (eArgs fTup (eCons (eC (.int 2)) eNil)) eNil)) (eC (.bl false))))))) sv__law_index_5b1 sNil)
def sv__law_index_6 : SV := (sExpr (eMeth ckL fAppend (eBin fIx (eMethO "Index" "layout" m_Index_layout_k19 (eVar 0) eNil) (eC (.int 0))) (eCons (eArgs fTup (eCons (eC (.int 9)) eNil)) eNil)))
def sv__law_index_7 : SV := (sExpr (eMeth ckL fAppend (eMethO "Index" "separators" m_Index_separators_k19 (eVar 0) eNil) (eCons (eArgs fTup (eCons (eC (.int 9)) eNil)) eNil)))
def sv__law_index_8 : SV := (sRet (eAndV (eBin fEqD (eMethO "Index" "layout" m_Index_layout_k19 (eVar 0) eNil) (eArgs fLst (eCons (eArgs fLst (eCons (eArgs fTup (eCons (eC (.int 1)) eNil)) eNil)) eNil))) (eAndV (eBin fEq (eMethO "Index" "separators" m_Index_separators_k19 (eVar 0) eNil) (eArgs fLst eNil)) (eAndV (eBin fEq (eLenO "Index" m_Index___len__ (eCons (eVar 0) eNil)) (eC (.int 1))) (eBin fEq (eMethO "Index" "find" m_Index_find (eVar 0) (eCons (eArgs fTup (eCons (eArgs fTup (eCons (eC (.int 2)) eNil)) (eCons (eArgs fTup (eCons (eC (.int 1)) eNil)) eNil))) eNil)) (eArgs fLst eNil))))))
def sv__law_index : SV := (sSeq sv__law_index_1
    (sSeq sv__law_index_2
    (sSeq sv__law_index_3
    (sSeq sv__law_index_4
    (sSeq sv__law_index_5
    (sSeq sv__law_index_6
    (sSeq sv__law_index_7
    sv__law_index_8)))))))
def m__law_index : List D → List MO → R D := mOf 0 4 sv__law_index
def sv__law_lists_1 : SV := (sSet 1 (eArgs fLst (eCons (eC .non) (eCons (eC (.int 5)) (eCons (eArgs fTup (eCons (eArgs fTup (eCons (eC (.int 1)) eNil)) (eCons (eArgs fTup (eCons (eC (.int 2)) eNil)) eNil))) (eCons (eArgs fLst (eCons (eC (.int 1)) eNil)) (eCons (eArgs fLst (eCons (eArgs fTup (eCons (eC (.int 1)) eNil)) (eCons (eArgs fTup (eCons (eC (.int 1)) eNil)) eNil))) (eCons (eArgs fLst (eCons (eArgs fTup (eCons (eC (.int 2)) eNil)) (eCons (eArgs fTup (eCons (eC (.int 1)) eNil)) eNil))) (eCons (eArgs fLst (eCons (eArgs fTup (eCons (eC (.int 256)) eNil)) eNil)) (eCons (eArgs fLst' (eLcA (eRange1 (eCons (eC (.int 201)) eNil)) (gN 5) [5] eYes (eArgs fTup (eCons (eBin fFdiv (eVar 5) (eC (.int 250))) (eCons (eBin fMod (eVar 5) (eC (.int 250))) eNil))))) eNil))))))))))
def sv__law_lists_2b1b1 : SV := (sRet (eC (.bl false)))
def sv__law_lists_2b1 : SV := (sIf (eTest (eBin fNe (eArgs fLst' (eLcA (eRange1 (eCons (eC (.int 4)) eNil)) (gN 5) [5] eYes (eArgs m__law_splits (eCons (eVar 5) (eCons (eVar 2) (eCons (eC .non) (eCons (eC .non) eNil))))))) (eBin fMul (eArgs fLst (eCons (eC (.str "index")) eNil)) (eC (.int 4))))) sv__law_lists_2b1b1 sNil)
def sv__law_lists_2 : SV := (sFor (eSeq (eVar 1)) (gN 2) sv__law_lists_2b1)
def sv__law_lists_3 : SV := (sSet 3 (eArgs fLst (eCons (eArgs fTup (eCons (eC (.int 1)) eNil)) (eCons (eArgs fTup (eCons (eC (.int 3)) eNil)) (eCons (eArgs fTup (eCons (eC (.int 5)) eNil)) eNil)))))
def sv__law_lists_4b1b1 : SV := (sRet (eC (.bl false)))
def sv__law_lists_4b1 : SV := (sIf (eTest (eBin fNe (eArgs fLst' (eLcA (eRange1 (eCons (eC (.int 3)) eNil)) (gN 5) [5] eYes (eArgs m__law_splits (eCons (eVar 5) (eCons (eVar 3) (eCons (eVar 2) (eCons (eC .non) eNil))))))) (eBin fMul (eArgs fLst (eCons (eC (.str "index")) eNil)) (eC (.int 3))))) sv__law_lists_4b1b1 sNil)
def sv__law_lists_4 : SV := (sFor (eSeq (eArgs fLst (eCons (eC .non) (eCons (eC (.int 5)) (eCons (eArgs fTup (eCons (eC (.int 1)) eNil)) (eCons (eArgs fLst (eCons (eC (.int 0)) eNil)) (eCons (eArgs fLst (eCons (eC (.int 3)) eNil)) (eCons (eArgs fLst (eCons (eBin fSub (eC (.int 0)) (eC (.int 1))) eNil)) (eCons (eArgs fLst (eCons (eC (.int 1)) (eCons (eC (.int 1)) eNil))) (eCons (eArgs fLst (eCons (eC (.int 2)) (eCons (eC (.int 1)) eNil))) (eCons (eArgs fLst (eCons (eC (.bl true)) eNil)) (eCons (eArgs fLst (eCons (eC .non) eNil)) (eCons (eArgs fLst (eCons (eC (.str "1")) eNil)) eNil))))))))))))) (gN 2) sv__law_lists_4b1)
def sv__law_lists_5b1b1 : SV := (sRet (eC (.bl false)))
def sv__law_lists_5b1 : SV := (sIf (eTest (eBin fNe (eArgs m__law_splits (eCons (eC (.int 2)) (eCons (eVar 3) (eCons (eArgs fLst (eCons (eC (.int 1)) (eCons (eC (.int 2)) eNil))) (eCons (eVar 2) eNil))))) (eC (.str "index")))) sv__law_lists_5b1b1 sNil)
def sv__law_lists_5 : SV := (sFor (eSeq (eArgs fLst (eCons (eC .non) (eCons (eC (.int 5)) (eCons (eArgs fLst (eCons (eArgs fTup (eCons (eC (.int 2)) eNil)) (eCons (eArgs fTup (eCons (eC (.int 2)) eNil)) eNil))) (eCons (eArgs fLst (eCons (eC (.int 5)) eNil)) (eCons (eArgs fLst (eCons (eArgs fTup (eCons (eC (.int 4)) eNil)) (eCons (eArgs fTup (eCons (eC (.int 2)) eNil)) eNil))) eNil))))))) (gN 2) sv__law_lists_5b1)
def sv__law_lists_6b1 : SV := (sRet (eC (.bl false)))
def sv__law_lists_6 : SV := (sIf (eOr (eTest (eBin fNe (eArgs fLst' (eLcA (eSeq (eArgs fTup (eCons (eC .non) (eCons (eC (.int 5)) (eCons (eArgs fLst (eCons (eC (.int 1)) eNil)) (eCons (eArgs fTup (eCons (eC (.int 256)) eNil)) eNil)))))) (gN 2) [2] eYes (eArgs m__law_splits (eCons (eC (.int 3)) (eCons (eVar 3) (eCons (eC (.int 0)) (eCons (eVar 2) eNil))))))) (eBin fMul (eArgs fLst (eCons (eC (.str "bytes")) eNil)) (eC (.int 4))))) (eTest (eBin fNe (eArgs m_route (eCons (eArgs fLst eNil) (eCons (eArgs fTup (eCons (eArgs m__law_draw (eCons (eVar 0) (eCons (eC (.int 256)) eNil))) eNil)) eNil))) (eC (.int 0))))) sv__law_lists_6b1 sNil)
def sv__law_lists_7 : SV := (sSet 4 (eArgs fLst' (eLcA (eRange1 (eCons (eC (.int 200)) eNil)) (gN 5) [5] eYes (eArgs fTup (eCons (eBin fFdiv (eVar 5) (eC (.int 250))) (eCons (eBin fMod (eVar 5) (eC (.int 250))) eNil))))))
def sv__law_lists_8 : SV := (sRet (eAndV (eArgs m__law_index eNil) (eAndV (eBin fEq (eArgs m__law_splits (eCons (eC (.int 0)) (eCons (eVar 4) (eCons (eArgs fLst (eCons (eC (.int 1)) (eCons (eC (.int 199)) eNil))) (eCons (eC .non) eNil))))) (eC (.str "done"))) (eAndV (eBin fEq (eArgs m_separators (eCons (eArgs fLst eNil) (eCons (eArgs fLst eNil) eNil))) (eArgs fLst eNil)) (eBin fIs (eArgs m_are_separators (eCons (eVar 3) (eCons (eArgs fLst (eCons (eC (.int 1)) (eCons (eC (.int 2)) eNil))) (eCons (eArgs fLst (eCons (eArgs fTup (eCons (eC (.int 2)) eNil)) eNil)) eNil)))) (eC (.bl false)))))))
def sv__law_lists : SV := (sSeq sv__law_lists_1
    (sSeq sv__law_lists_2
    (sSeq sv__law_lists_3
    (sSeq sv__law_lists_4
    (sSeq sv__law_lists_5
    (sSeq sv__law_lists_6
    (sSeq sv__law_lists_7
    sv__law_lists_8)))))))
def m__law_lists : List D → List MO → R D := mOf 1 6 sv__law_lists
def sv_law_k19_1 : SV := (sSet 1 (eArgs m__law_start (eCons (eVar 0) eNil)))
def sv_law_k19_2 : SV := (sSet 2 (eArgs fTup (eCons (eArgs fTup (eCons (eC (.str "int")) (eCons (eC (.str "asc")) (eCons (eC (.str "none")) eNil)))) (eCons (eArgs fTup (eCons (eC (.str "closed")) (eCons (eC (.str "desc")) (eCons (eC (.str "last")) eNil)))) eNil))))
def sv_law_k19_3b1b1 : SV := (sRet (eC (.bl false)))
def sv_law_k19_3b1 : SV := (sIf (eTest (eBin fNe (eArgs fLst' (eLcA (eRange1 (eCons (eC (.int 3)) eNil)) (gN 4) [4] eYes (eArgs m__law_ranges (eCons (eVar 4) (eCons (eVar 3) (eCons (eC .non) (eCons (eC .non) (eCons (eC .non) eNil)))))))) (eBin fMul (eArgs fLst (eCons (eC (.str "scheme")) eNil)) (eC (.int 3))))) sv_law_k19_3b1b1 sNil)
def sv_law_k19_3 : SV := (sFor (eSeq (eArgs fLst (eCons (eC .non) (eCons (eC (.int 5)) (eCons (eArgs fTup eNil) eNil))))) (gN 3) sv_law_k19_3b1)
def sv_law_k19_4b1b1 : SV := (sRet (eC (.bl false)))
def sv_law_k19_4b1 : SV := (sIf (eTest (eBin fNe (eArgs fLst' (eLcA (eRange1 (eCons (eC (.int 3)) eNil)) (gN 4) [4] eYes (eArgs m__law_ranges (eCons (eVar 4) (eCons (eVar 3) (eCons (eC .non) (eCons (eC .non) (eCons (eC .non) eNil)))))))) (eBin fMul (eArgs fLst (eCons (eC (.str "scheme")) eNil)) (eC (.int 3))))) sv_law_k19_4b1b1 sNil)
def sv_law_k19_4 : SV := (sFor (eSeq (eArgs fLst (eCons (eBin fMul (eArgs fTup (eCons (eArgs fTup (eCons (eC (.str "counted")) (eCons (eC (.str "asc")) (eCons (eC (.str "none")) eNil)))) eNil)) (eC (.int 2))) (eCons (eArgs fTup (eCons (eArgs fTup (eCons (eC (.str "raw")) (eCons (eC (.str "asc")) (eCons (eC (.str "none")) eNil)))) (eCons (eArgs fTup (eCons (eC (.str "int")) (eCons (eC (.str "asc")) (eCons (eC (.str "none")) eNil)))) eNil))) (eCons (eArgs fTup (eCons (eArgs fTup (eCons (eC (.str "little2")) (eCons (eC (.str "asc")) (eCons (eC (.str "none")) eNil)))) (eCons (eArgs fTup (eCons (eC (.str "int")) (eCons (eC (.str "asc")) (eCons (eC (.str "none")) eNil)))) eNil))) eNil))))) (gN 3) sv_law_k19_4b1)
def sv_law_k19_5b1b1 : SV := (sRet (eC (.bl false)))
def sv_law_k19_5b1 : SV := (sIf (eTest (eBin fNe (eArgs fLst' (eLcA (eRange1 (eCons (eC (.int 3)) eNil)) (gN 4) [4] eYes (eArgs m__law_ranges (eCons (eVar 4) (eCons (eVar 2) (eCons (eVar 3) (eCons (eC .non) (eCons (eC .non) eNil)))))))) (eBin fMul (eArgs fLst (eCons (eC (.str "row")) eNil)) (eC (.int 3))))) sv_law_k19_5b1b1 sNil)
def sv_law_k19_5 : SV := (sFor (eSeq (eArgs fLst (eCons (eC .non) (eCons (eC (.int 5)) (eCons (eArgs fLst (eCons (eC (.int 1)) eNil)) (eCons (eArgs fTup (eCons (eC (.str "a")) eNil)) (eCons (eArgs fTup (eCons (eC .non) eNil)) (eCons (eArgs fTup (eCons (eC (.bl true)) eNil)) (eCons (eArgs fTup (eCons (eC (.int 1)) (eCons (eArgs fTup (eCons (eC (.int 7)) eNil)) eNil))) (eCons (eArgs fTup (eCons (eBin fPow (eC (.int 2)) (eC (.int 64))) eNil)) eNil)))))))))) (gN 3) sv_law_k19_5b1)
def sv_law_k19_6b1 : SV := (sRet (eC (.bl false)))
def sv_law_k19_6 : SV := (sIf (eTest (eBin fNe (eArgs fLst' (eLcA (eSeq (eArgs fTup (eCons (eC .non) (eCons (eC (.int 5)) (eCons (eArgs fTup (eCons (eC (.int 256)) eNil)) eNil))))) (gN 3) [3] eYes (eArgs m__law_ranges (eCons (eC (.int 1)) (eCons (eVar 2) (eCons (eArgs fTup (eCons (eC (.int 1)) eNil)) (eCons (eVar 3) (eCons (eC (.int 0)) eNil)))))))) (eBin fMul (eArgs fLst (eCons (eC (.str "bytes")) eNil)) (eC (.int 3))))) sv_law_k19_6b1 sNil)
def sv_law_k19_7b1b1 : SV := (sRet (eC (.bl false)))
def sv_law_k19_7b1 : SV := (sIf (eTest (eBin fNe (eArgs fLst' (eLcA (eSeq (eArgs fLst (eCons (eArgs fTup (eCons (eVar 3) (eCons (eArgs fTup (eCons (eC (.int 7)) eNil)) eNil))) (eCons (eArgs fTup (eCons (eArgs fTup (eCons (eC (.int 7)) eNil)) (eCons (eVar 3) eNil))) eNil)))) (gT [5, 6]) [5, 6] eYes (eArgs m__law_ranges (eCons (eC (.int 2)) (eCons (eVar 2) (eCons (eArgs fTup (eCons (eC (.int 1)) eNil)) (eCons (eVar 5) (eCons (eVar 6) eNil)))))))) (eBin fMul (eArgs fLst (eCons (eC (.str "row")) eNil)) (eC (.int 2))))) sv_law_k19_7b1b1 sNil)
def sv_law_k19_7 : SV := (sFor (eSeq (eArgs fLst (eCons (eC (.int 1)) (eCons (eArgs fTup (eCons (eC (.int 300)) eNil)) (eCons (eBin fMul (eArgs fTup (eCons (eC (.int 7)) eNil)) (eC (.int 41))) (eCons (eC (.bl true)) (eCons (eC (.str "a")) eNil))))))) (gN 3) sv_law_k19_7b1)
def sv_law_k19_8b1 : SV := (sRet (eC (.bl false)))
def sv_law_k19_8 : SV := (sIf (eTest (eBin fNe (eArgs fLst' (eLcA (eSeq (eArgs fLst (eCons (eArgs fTup (eCons (eC .non) (eCons (eC (.int 1)) eNil))) (eCons (eArgs fTup (eCons (eC (.int 1)) (eCons (eC .non) eNil))) (eCons (eArgs fTup (eCons (eC (.int 1)) (eCons (eC (.int 0)) eNil))) eNil))))) (gT [5, 6]) [5, 6] eYes (eArgs m__law_ranges (eCons (eC (.int 2)) (eCons (eVar 2) (eCons (eArgs fTup eNil) (eCons (eVar 5) (eCons (eVar 6) eNil)))))))) (eArgs fLst (eCons (eC (.str "row")) (eCons (eC (.str "row")) (eCons (eC (.str "done")) eNil)))))) sv_law_k19_8b1 sNil)
def sv_law_k19_9 : SV := (sRet (eArgs m__law_lists (eCons (eVar 1) eNil)))
def sv_law_k19 : SV := (sSeq sv_law_k19_1
    (sSeq sv_law_k19_2
    (sSeq sv_law_k19_3
    (sSeq sv_law_k19_4
    (sSeq sv_law_k19_5
    (sSeq sv_law_k19_6
    (sSeq sv_law_k19_7
    (sSeq sv_law_k19_8
    sv_law_k19_9))))))))
def m_law_k19 : List D → List MO → R D := mOf 1 7 sv_law_k19
def sv__law_strings_1b1 : SV := (sRet (eC (.bl false)))
def sv__law_strings_1 : SV := (sIf (eOr (eTest (eBin fIsNot (eArgs m_is_bytes (eCons (eArgs fTup (eCons (eC (.int 0)) (eCons (eC (.int 256)) eNil))) eNil)) (eC (.bl false)))) (eOr (eTest (eBin fNe (eArgs m_successor (eCons (eArgs fTup (eCons (eC (.int 5)) eNil)) eNil)) (eArgs fTup (eCons (eC (.int 5)) (eCons (eC (.int 0)) eNil))))) (eOr (eTest (eBin fNe (eArgs m_prefix_end (eCons (eArgs fTup (eCons (eC (.int 1)) (eCons (eC (.int 255)) eNil))) eNil)) (eArgs fTup (eCons (eC (.int 2)) eNil)))) (eTest (eBin fIsNot (eArgs m_prefix_end (eCons (eArgs fTup (eCons (eC (.int 255)) eNil)) eNil)) (eC .non)))))) sv__law_strings_1b1 sNil)
def sv__law_strings_2b1 : SV := (sRet (eC (.bl false)))
def sv__law_strings_2 : SV := (sIf (eTest (eBin fNe (eArgs m_separator (eCons (eArgs fTup (eCons (eC (.int 1)) (eCons (eC (.int 5)) (eCons (eC (.int 9)) eNil)))) (eCons (eArgs fTup (eCons (eC (.int 1)) (eCons (eC (.int 7)) (eCons (eC (.int 2)) eNil)))) eNil))) (eArgs fTup (eCons (eC (.int 1)) (eCons (eC (.int 7)) eNil))))) sv__law_strings_2b1 sNil)
def sv__law_strings_3 : SV := (sSet 0 (eArgs m_between (eCons (eArgs fTup (eCons (eC (.int 5)) (eCons (eC (.int 7)) (eCons (eC (.int 9)) eNil)))) (eCons (eArgs fTup (eCons (eC (.int 6)) eNil)) eNil))))
def sv__law_strings_4b1 : SV := (sRet (eC (.bl false)))
def sv__law_strings_4 : SV := (sIf (eOr (eTest (eBin fNe (eArgs fLen (eCons (eVar 0) eNil)) (eC (.int 2)))) (eOr (eNot (eTest (eChain fLt fLt (eArgs fTup (eCons (eC (.int 5)) (eCons (eC (.int 7)) (eCons (eC (.int 9)) eNil)))) (eVar 0) (eArgs fTup (eCons (eC (.int 6)) eNil))))) (eTest (eBin fNe (eArgs m_prefix_range (eCons (eArgs fTup (eCons (eC (.int 7)) eNil)) eNil)) (eArgs fTup (eCons (eArgs fTup (eCons (eC (.int 7)) eNil)) (eCons (eArgs fTup (eCons (eC (.int 8)) eNil)) eNil))))))) sv__law_strings_4b1 sNil)
def sv__law_strings_5b1 : SV := (sRet (eC (.bl false)))
def sv__law_strings_5 : SV := (sIf (eOr (eTest (eBin fNe (eArgs m_separators (eCons (eArgs fLst (eCons (eArgs fTup (eCons (eC (.int 1)) (eCons (eC (.int 1)) eNil))) (eCons (eArgs fTup (eCons (eC (.int 1)) (eCons (eC (.int 9)) (eCons (eC (.int 9)) eNil)))) (eCons (eArgs fTup (eCons (eC (.int 2)) (eCons (eC (.int 5)) eNil))) eNil)))) (eCons (eArgs fLst (eCons (eC (.int 1)) (eCons (eC (.int 2)) eNil))) eNil))) (eArgs fLst (eCons (eArgs fTup (eCons (eC (.int 1)) (eCons (eC (.int 9)) eNil))) (eCons (eArgs fTup (eCons (eC (.int 2)) eNil)) eNil))))) (eTest (eBin fNe (eArgs m_route (eCons (eArgs fLst (eCons (eArgs fTup (eCons (eC (.int 1)) (eCons (eC (.int 9)) eNil))) (eCons (eArgs fTup (eCons (eC (.int 2)) eNil)) eNil))) (eCons (eArgs fTup (eCons (eC (.int 1)) (eCons (eC (.int 9)) (eCons (eC (.int 0)) eNil)))) eNil))) (eC (.int 1))))) sv__law_strings_5b1 sNil)
def sv__law_strings_6b1 : SV := (sRet (eC (.bl false)))
def sv__law_strings_6 : SV := (sIf (eOr (eTest (eBin fIsNot (eArgs m_are_separators (eCons (eArgs fLst (eCons (eArgs fTup (eCons (eC (.int 1)) eNil)) (eCons (eArgs fTup (eCons (eC (.int 3)) eNil)) eNil))) (eCons (eArgs fLst (eCons (eC (.int 1)) eNil)) (eCons (eArgs fLst (eCons (eArgs fTup (eCons (eC (.int 2)) eNil)) eNil)) eNil)))) (eC (.bl true)))) (eTest (eBin fNe (eArgs m_saved (eCons (eArgs fLst (eCons (eArgs fTup (eCons (eC (.int 1)) (eCons (eC (.int 1)) eNil))) (eCons (eArgs fTup (eCons (eC (.int 1)) (eCons (eC (.int 9)) (eCons (eC (.int 9)) eNil)))) eNil))) (eCons (eArgs fLst (eCons (eC (.int 1)) eNil)) eNil))) (eC (.int 1))))) sv__law_strings_6b1 sNil)
def sv__law_strings_7 : SV := (sRet (eAndV (eBin fEq (eArgs m_format_bytes (eCons (eArgs fTup (eCons (eC (.int 0)) (eCons (eC (.int 255)) eNil))) eNil)) (eC (.str "00ff"))) (eBin fEq (eArgs m_parse_bytes (eCons (eC (.str "")) eNil)) (eArgs fTup eNil))))
def sv__law_strings : SV := (sSeq sv__law_strings_1
    (sSeq sv__law_strings_2
    (sSeq sv__law_strings_3
    (sSeq sv__law_strings_4
    (sSeq sv__law_strings_5
    (sSeq sv__law_strings_6
    sv__law_strings_7))))))
def m__law_strings : List D → List MO → R D := mOf 0 1 sv__law_strings
def sv__law_rows_1b1 : SV := (sRet (eC (.bl false)))
def sv__law_rows_1 : SV := (sIf (eOr (eTest (eBin fIsNot (eArgs m_is_value (eCons (eArgs fTup (eCons (eC (.str "fixed1")) (eCons (eC (.str "asc")) (eCons (eC (.str "none")) eNil)))) (eCons (eC (.int 256)) eNil))) (eC (.bl false)))) (eTest (eBin fNe (eArgs m_encode_value (eCons (eArgs fTup (eCons (eC (.str "int")) (eCons (eC (.str "asc")) (eCons (eC (.str "none")) eNil)))) (eCons (eBin fSub (eC (.int 0)) (eC (.int 1))) eNil))) (eArgs fTup (eCons (eC (.int 127)) (eCons (eC (.int 254)) eNil)))))) sv__law_rows_1b1 sNil)
def sv__law_rows_2b1 : SV := (sRet (eC (.bl false)))
def sv__law_rows_2 : SV := (sIf (eOr (eTest (eBin fNe (eArgs m_encode_value (eCons (eArgs fTup (eCons (eC (.str "closed")) (eCons (eC (.str "desc")) (eCons (eC (.str "last")) eNil)))) (eCons (eArgs fTup (eCons (eC (.int 97)) eNil)) eNil))) (eArgs fTup (eCons (eC (.int 1)) (eCons (eC (.int 158)) (eCons (eC (.int 255)) (eCons (eC (.int 254)) eNil))))))) (eTest (eBin fIsNot (eArgs m_is_row (eCons (eVar 0) (eCons (eArgs fTup (eCons (eC (.int 3)) (eCons (eC .non) eNil))) eNil))) (eC (.bl true))))) sv__law_rows_2b1 sNil)
def sv__law_rows_3b1 : SV := (sRet (eC (.bl false)))
def sv__law_rows_3 : SV := (sIf (eOr (eTest (eBin fNe (eArgs m_encode (eCons (eVar 0) (eCons (eArgs fTup (eCons (eC (.int 300)) (eCons (eC .non) eNil))) eNil))) (eArgs fTup (eCons (eC (.int 130)) (eCons (eC (.int 1)) (eCons (eC (.int 44)) (eCons (eC (.int 2)) eNil))))))) (eOr (eTest (eBin fNe (eArgs m_compare_rows (eCons (eVar 0) (eCons (eArgs fTup (eCons (eC (.int 1)) (eCons (eArgs fTup (eCons (eC (.int 97)) eNil)) eNil))) (eCons (eArgs fTup (eCons (eC (.int 1)) (eCons (eArgs fTup (eCons (eC (.int 98)) eNil)) eNil))) eNil)))) (eC (.int 1)))) (eTest (eBin fIsNot (eArgs m_keeps_order (eCons (eVar 0) eNil)) (eC (.bl true)))))) sv__law_rows_3b1 sNil)
def sv__law_rows_4b1 : SV := (sRet (eC (.bl false)))
def sv__law_rows_4 : SV := (sIf (eOr (eTest (eBin fIsNot (eArgs m_is_decodable (eCons (eArgs fTup (eCons (eArgs fTup (eCons (eC (.str "raw")) (eCons (eC (.str "asc")) (eCons (eC (.str "none")) eNil)))) (eCons (eArgs fTup (eCons (eC (.str "fixed2")) (eCons (eC (.str "asc")) (eCons (eC (.str "none")) eNil)))) eNil))) eNil)) (eC (.bl true)))) (eTest (eBin fNe (eArgs m_decode (eCons (eVar 0) (eCons (eArgs fTup (eCons (eC (.int 130)) (eCons (eC (.int 1)) (eCons (eC (.int 44)) (eCons (eC (.int 2)) eNil))))) eNil))) (eArgs fTup (eCons (eC (.int 300)) (eCons (eC .non) eNil)))))) sv__law_rows_4b1 sNil)
def sv__law_rows_5b1 : SV := (sRet (eC (.bl false)))
def sv__law_rows_5 : SV := (sIf (eOr (eTest (eBin fNe (eArgs m_row_range (eCons (eVar 0) (eCons (eArgs fTup (eCons (eC (.int 0)) eNil)) eNil))) (eArgs fTup (eCons (eArgs fTup (eCons (eC (.int 128)) eNil)) (eCons (eArgs fTup (eCons (eC (.int 129)) eNil)) eNil))))) (eTest (eBin fIsNot (eArgs m_starts_with (eCons (eVar 0) (eCons (eArgs fTup (eCons (eC (.int 0)) eNil)) (eCons (eArgs fTup (eCons (eC (.int 128)) (eCons (eC (.int 2)) eNil))) eNil)))) (eC (.bl true))))) sv__law_rows_5b1 sNil)
def sv__law_rows_6 : SV := (sRet (eBin fEq (eArgs m_value_bounds (eCons (eVar 0) (eCons (eArgs fTup (eCons (eC (.int 0)) eNil)) (eCons (eArgs fTup (eCons (eC (.int 98)) eNil)) (eCons (eArgs fTup (eCons (eC (.int 97)) eNil)) eNil))))) (eArgs fTup (eCons (eArgs fTup (eCons (eC (.int 128)) (eCons (eC (.int 1)) (eCons (eC (.int 157)) (eCons (eC (.int 255)) (eCons (eC (.int 254)) eNil)))))) (eCons (eArgs fTup (eCons (eC (.int 128)) (eCons (eC (.int 1)) (eCons (eC (.int 158)) (eCons (eC (.int 255)) (eCons (eC (.int 254)) (eCons (eC (.int 0)) eNil))))))) eNil)))))
def sv__law_rows : SV := (sSeq sv__law_rows_1
    (sSeq sv__law_rows_2
    (sSeq sv__law_rows_3
    (sSeq sv__law_rows_4
    (sSeq sv__law_rows_5
    sv__law_rows_6)))))
def m__law_rows : List D → List MO → R D := mOf 1 1 sv__law_rows
def sv_Index_layout_k20 : SV := (sRet (eArgs fLst' (eLcA (eSeq (eUn (fFldO "Index" "blocks") (eVar 0))) (gN 1) [1] eYes (eArgs fList (eCons (eVar 1) eNil)))))
def m_Index_layout_k20 : List D → List MO → R D := mOf 1 2 sv_Index_layout_k20
def sv_Index_separators_k20 : SV := (sRet (eArgs fList (eCons (eUn (fFldO "Index" "marks") (eVar 0)) eNil)))
def m_Index_separators_k20 : List D → List MO → R D := mOf 1 1 sv_Index_separators_k20
def sv_law_k20_1 : SV := (sSet 1 (eArgs m__law_start (eCons (eVar 0) eNil)))
def sv_law_k20_2 : SV := (sSet 2 (eArgs fTup (eCons (eArgs fTup (eCons (eC (.str "int")) (eCons (eC (.str "asc")) (eCons (eC (.str "none")) eNil)))) (eCons (eArgs fTup (eCons (eC (.str "closed")) (eCons (eC (.str "desc")) (eCons (eC (.str "last")) eNil)))) eNil))))
def sv_law_k20_3b1 : SV := (sRet (eC (.bl false)))
def sv_law_k20_3 : SV := (sIf (eOr (eNot (eTest (eArgs m__law_strings eNil))) (eNot (eTest (eArgs m__law_rows (eCons (eVar 2) eNil))))) sv_law_k20_3b1 sNil)
def sv_law_k20_4 : SV := (sSet 3 (eMakeO "Index" m_Index___init__ (eCons (eC (.int 2)) eNil)))
def sv_law_k20_5b1 : SV := (sExpr (eMethO "Index" "insert" m_Index_insert (eVar 3) (eCons (eVar 4) eNil)))
def sv_law_k20_5 : SV := (sFor (eSeq (eArgs fLst (eCons (eArgs fTup (eCons (eC (.int 1)) (eCons (eC (.int 1)) eNil))) (eCons (eArgs fTup (eCons (eC (.int 1)) (eCons (eC (.int 9)) (eCons (eC (.int 9)) eNil)))) (eCons (eArgs fTup (eCons (eC (.int 2)) (eCons (eC (.int 5)) eNil))) eNil))))) (gN 4) sv_law_k20_5b1)
def sv_law_k20_6b1 : SV := (sRet (eC (.bl false)))
def sv_law_k20_6 : SV := (sIf (eOr (eTest (eBin fNe (eMethO "Index" "layout" m_Index_layout_k20 (eVar 3) eNil) (eArgs fLst (eCons (eArgs fLst (eCons (eArgs fTup (eCons (eC (.int 1)) (eCons (eC (.int 1)) eNil))) eNil)) (eCons (eArgs fLst (eCons (eArgs fTup (eCons (eC (.int 1)) (eCons (eC (.int 9)) (eCons (eC (.int 9)) eNil)))) (eCons (eArgs fTup (eCons (eC (.int 2)) (eCons (eC (.int 5)) eNil))) eNil))) eNil))))) (eTest (eBin fNe (eMethO "Index" "separators" m_Index_separators_k20 (eVar 3) eNil) (eArgs fLst (eCons (eArgs fTup (eCons (eC (.int 1)) (eCons (eC (.int 9)) eNil))) eNil))))) sv_law_k20_6b1 sNil)
def sv_law_k20_7b1 : SV := (sRet (eC (.bl false)))
def sv_law_k20_7 : SV := (sIf (eOr (eTest (eBin fNe (eMethO "Index" "find" m_Index_find (eVar 3) (eCons (eArgs fTup (eCons (eArgs fTup (eCons (eC (.int 1)) (eCons (eC (.int 9)) eNil))) (eCons (eC .non) eNil))) eNil)) (eArgs fLst (eCons (eArgs fTup (eCons (eC (.int 1)) (eCons (eC (.int 9)) (eCons (eC (.int 9)) eNil)))) (eCons (eArgs fTup (eCons (eC (.int 2)) (eCons (eC (.int 5)) eNil))) eNil))))) (eTest (eBin fNe (eArgs m_format_scheme (eCons (eVar 2) eNil)) (eC (.str "int asc none,closed desc last"))))) sv_law_k20_7b1 sNil)
def sv_law_k20_8 : SV := (sSet 5 (eBin fAdd (eC (.int 1)) (eArgs m__law_draw (eCons (eVar 1) (eCons (eC (.int 255)) eNil)))))
def sv_law_k20_9 : SV := (sRet (eBin fEq (eArgs m_encode (eCons (eVar 2) (eCons (eArgs fTup (eCons (eVar 5) (eCons (eC .non) eNil))) eNil))) (eArgs fTup (eCons (eC (.int 129)) (eCons (eVar 5) (eCons (eC (.int 2)) eNil))))))
def sv_law_k20 : SV := (sSeq sv_law_k20_1
    (sSeq sv_law_k20_2
    (sSeq sv_law_k20_3
    (sSeq sv_law_k20_4
    (sSeq sv_law_k20_5
    (sSeq sv_law_k20_6
    (sSeq sv_law_k20_7
    (sSeq sv_law_k20_8
    sv_law_k20_9))))))))
def m_law_k20 : List D → List MO → R D := mOf 1 6 sv_law_k20
end KB
namespace KB
open PySem PySem.Spec PyProof.Rows L2
/-! ### data that may be compared -/
def okD (k : Nat) (d : D) : Prop := (toP d).canLay0 = true ∧ (toP d).depth ≤ k
theorem okD.shp {k : Nat} {d : D} (h : okD k d) (hk : k ≤ 64 := by decide) : shp d = true := by
  unfold KB.shp SeqAt.shaped
  rw [h.1, decide_eq_true (Nat.le_trans h.2 hk)]
  rfl
theorem okD.mono {k j : Nat} {d : D} (h : okD k d) (e : k ≤ j) : okD j d := ⟨h.1, Nat.le_trans h.2 e⟩
theorem okD_int (k : Nat) (i : Int) : okD k (.int i) := ⟨by simp [toP, PyData.canLay0], by simp [toP, PyData.depth]⟩
theorem okD_bl (k : Nat) (i : Bool) : okD k (.bl i) := ⟨by simp [toP, PyData.canLay0], by simp [toP, PyData.depth]⟩
theorem okD_non (k : Nat) : okD k .non := ⟨by simp [toP, PyData.canLay0], by simp [toP, PyData.depth]⟩
theorem okDs {k : Nat} : ∀ {ds : List D}, (∀ d ∈ ds, okD k d) → PyData.canLayAll0 (toPs ds) = true ∧ PyData.depthAll (toPs ds) ≤ k
  | [], _ => by simp [toPs, PyData.canLayAll0, PyData.depthAll]
  | d :: ds, h => by
    have h1 := h d (by simp)
    have h2 := okDs (ds := ds) fun x hx => h x (List.mem_cons_of_mem _ hx)
    simp only [toPs, PyData.canLayAll0, PyData.depthAll, h1.1, h2.1, Bool.and_self, true_and]
    exact Nat.max_le.mpr ⟨h1.2, h2.2⟩
theorem okD_tup {k : Nat} {ds : List D} (h : ∀ d ∈ ds, okD k d) : okD (k + 1) (.tup ds) := by
  have := okDs h
  refine ⟨by simp only [toP, PyData.canLay0]; exact this.1, by simp only [toP, PyData.depth]; omega⟩
theorem okD_lst {k : Nat} {ds : List D} (h : ∀ d ∈ ds, okD k d) : okD (k + 1) (.lst ds) := by
  have := okDs h
  refine ⟨by simp only [toP, PyData.canLay0]; exact this.1, by simp only [toP, PyData.depth]; omega⟩
theorem okD_scr {k : Nat} {ds : List D} (h : ∀ d ∈ ds, okD k d) : okD (k + 1) (.scr ds) := by
  have := okDs h
  refine ⟨by simp only [toP, PyData.canLay0]; exact this.1, by simp only [toP, PyData.depth]; omega⟩
theorem okD_bs (ns : List Int) : okD 1 (bs ns) := okD_tup fun d h => by
  obtain ⟨n, _, rfl⟩ := List.mem_map.mp h
  exact okD_int 0 n
theorem okD_ints (ns : List Int) : okD 1 (.lst (ns.map .int)) := okD_lst fun d h => by
  obtain ⟨n, _, rfl⟩ := List.mem_map.mp h
  exact okD_int 0 n
theorem okD_scrI (ns : List Int) : okD 1 (.scr (ns.map .int)) := okD_scr fun d h => by
  obtain ⟨n, _, rfl⟩ := List.mem_map.mp h
  exact okD_int 0 n
/-- an end of a range: a byte string, or None -/
def ob : Option (List Int) → D
  | none => .non
  | some b => bs b
theorem okD_ob (o : Option (List Int)) : okD 1 (ob o) := by
  cases o with
  | none => exact okD_non 1
  | some b => exact okD_bs b
@[simp] theorem shp_bs (ns : List Int) : shp (bs ns) = true := (okD_bs ns).shp
@[simp] theorem shp_ints (ns : List Int) : shp (.lst (ns.map .int)) = true := (okD_ints ns).shp
@[simp] theorem shp_scr (ns : List Int) : shp (.scr (ns.map .int)) = true := (okD_scrI ns).shp
@[simp] theorem shp_ob (o : Option (List Int)) : shp (ob o) = true := (okD_ob o).shp
@[simp] theorem shp_bl (b : Bool) : shp (.bl b) = true := (okD_bl 0 b).shp
@[simp] theorem shp_int (b : Int) : shp (.int b) = true := (okD_int 0 b).shp
@[simp] theorem shp_non : shp .non = true := (okD_non 0).shp
@[simp] theorem shp_nil : shp (.lst []) = true := (okD_lst (k := 0) (by simp)).shp
@[simp] theorem shp_nilT : shp (.tup []) = true := (okD_tup (k := 0) (by simp)).shp
@[simp] theorem eqvAll_ints : ∀ a b : List Int, PyData.eqvAll (toPs (a.map .int)) (toPs (b.map .int)) = decide (a = b)
  | [], [] => by simp [toPs, PyData.eqvAll]
  | [], _ :: _ => by simp [toPs, PyData.eqvAll]
  | _ :: _, [] => by simp [toPs, PyData.eqvAll]
  | x :: a, y :: b => by
    have ih := eqvAll_ints a b
    simp only [List.map_cons, toPs, PyData.eqvAll, toP, PyData.eqv, ih, beq_dec]
    by_cases h1 : x = y <;> by_cases h2 : a = b <;> simp [h1, h2]
@[simp] theorem dEqv_bs (a b : List Int) : dEqv (bs a) (bs b) = decide (a = b) := by
  simp only [dEqv, bs, toP, PyData.eqv, eqvAll_ints]
@[simp] theorem dEqv_ints (a b : List Int) : dEqv (.lst (a.map .int)) (.lst (b.map .int)) = decide (a = b) := by
  simp only [dEqv, toP, PyData.eqv, eqvAll_ints]
@[simp] theorem dEqv_int (a b : Int) : dEqv (.int a) (.int b) = decide (a = b) := by
  simp only [dEqv, toP, PyData.eqv, beq_dec]
@[simp] theorem dEqv_bl (a b : Bool) : dEqv (.bl a) (.bl b) = (a == b) := by
  simp only [dEqv, toP, PyData.eqv]
@[simp] theorem dEqv_nil (a : List D) : dEqv (.lst a) (.lst []) = a.isEmpty := by
  cases a <;> simp [dEqv, toP, toPs, PyData.eqv, PyData.eqvAll]
@[simp] theorem dEqv_snil (a : List D) : dEqv (.scr a) (.lst []) = a.isEmpty := by
  cases a <;> simp [dEqv, toP, toPs, PyData.eqv, PyData.eqvAll]
theorem dEqv_refl {k : Nat} {d : D} (h : okD k d) : dEqv d d = true := SeqAt.eqv_refl _ h.1
/-! ### comprehensions as maps -/
theorem compL_acc {α : Type} {c : α → D} {g : GV} {t : EB} {el : EV} {e : EN} {M : List MO} {f : α → D} {p : α → Bool} : ∀ (xs : List α) (acc : List D), acc.length + xs.length ≤ big → (∀ x ∈ xs, ∃ e1, g (c x) e = some e1 ∧ t e1 M = .ok (p x) M ∧ (p x = true → el e1 M = .ok (f x) M)) → compL g t el e (xs.map c) acc M = .ok (acc ++ (xs.filter p).map f) M
  | [], acc, _, _ => by simp [compL]
  | x :: xs, acc, hl, h => by
    obtain ⟨e1, h1, h2, h3⟩ := h x (by simp)
    have hb : acc.length < big := by simp at hl; omega
    simp only [List.map_cons, compL, h1, R.nox_ok, h2]
    cases hp : p x with
    | true =>
      simp only [if_true, h3 hp, R.nox_ok, hb]
      rw [compL_acc xs (acc ++ [f x]) (by simp at hl ⊢; omega) fun y hy => h y (by simp [hy])]
      simp [hp]
    | false =>
      simp only [Bool.false_eq_true, if_false]
      rw [compL_acc xs acc (by simp at hl ⊢; omega) fun y hy => h y (by simp [hy])]
      simp [hp]
theorem compL_filter {α : Type} {c : α → D} {g : GV} {t : EB} {el : EV} {e : EN} {M : List MO} (f : α → D) (p : α → Bool) (xs : List α) (hl : xs.length ≤ big) (h : ∀ x ∈ xs, ∃ e1, g (c x) e = some e1 ∧ t e1 M = .ok (p x) M ∧ (p x = true → el e1 M = .ok (f x) M)) : compL g t el e (xs.map c) [] M = .ok ((xs.filter p).map f) M := by
  have := compL_acc (f := f) (p := p) xs [] (by simpa using hl) h
  simpa using this
theorem compL_map {α : Type} {c : α → D} {g : GV} {el : EV} {e : EN} {M : List MO} (f : α → D) (xs : List α) (hl : xs.length ≤ big) (h : ∀ x ∈ xs, ∃ e1, g (c x) e = some e1 ∧ el e1 M = .ok (f x) M) : compL g eYes el e (xs.map c) [] M = .ok (xs.map f) M := by
  have := compL_filter (c := c) (t := eYes) f (fun _ => true) xs hl fun x hx => by
    obtain ⟨e1, h1, h2⟩ := h x hx
    exact ⟨e1, h1, rfl, fun _ => h2⟩
  rw [List.filter_eq_self.mpr (by simp)] at this
  exact this
/-! ### draws -/
structure DS where
  ns : List Int
  c : Int
  ne : ns ≠ []
def DM (s : DS) (Rm : List MO) : List MO := .lst (s.ns.map .int) :: .lst [.cell 0, .int s.c] :: Rm
theorem compL_draw {g : GV} {el : EV} {e : EN} {Rm : List MO} {P : D → Prop} : ∀ (ds acc : List D) (s : DS), acc.length + ds.length ≤ big → (∀ d ∈ ds, ∀ s, ∃ e1 y s', g d e = some e1 ∧ el e1 (DM s Rm) = .ok y (DM s' Rm) ∧ P y) →
    ∃ ys s', compL g eYes el e ds acc (DM s Rm) = .ok (acc ++ ys) (DM s' Rm) ∧ ys.length = ds.length ∧ ∀ y ∈ ys, P y
  | [], acc, s, _, _ => ⟨[], s, by simp [compL], rfl, by simp⟩
  | d :: ds, acc, s, hl, h => by
    obtain ⟨e1, y, s1, h1, h2, h3⟩ := h d (by simp) s
    have hb : acc.length < big := by simp at hl; omega
    obtain ⟨ys, s2, h4, h5, h6⟩ := compL_draw ds (acc ++ [y]) s1 (by simp at hl ⊢; omega) fun x hx => h x (by simp [hx])
    refine ⟨y :: ys, s2, ?_, by simp [h5], fun z hz => ?_⟩
    · simp only [compL, h1, eYes, R.nox_ok, if_true, h2, hb]
      rw [h4]
      simp
    · rcases List.mem_cons.mp hz with rfl | hz
      · exact h3
      · exact h6 z hz
theorem atI_in {α : Type} {xs : List α} {i : Int} (h0 : 0 ≤ i) (h1 : i < xs.length) : ∃ x ∈ xs, atI xs i = some x ∧ xs[i.toNat]? = some x := by
  have hl : i.toNat < xs.length := by omega
  refine ⟨xs[i.toNat], List.getElem_mem hl, ?_, List.getElem?_eq_getElem hl⟩
  unfold atI ixN
  rw [if_pos h0, if_pos h1]
  exact List.getElem?_eq_getElem hl
theorem start_eq (ns : List Int) : ∃ s, m__law_start [.scr (ns.map .int)] [] = .ok (.cell 1) (DM s []) := by
  cases ns with
  | nil => exact ⟨⟨[0], 0, by simp⟩, by rfl⟩
  | cons n ns =>
    refine ⟨⟨n :: ns, 0, by simp⟩, ?_⟩
    have h := shp_scr (n :: ns)
    simp only [List.map_cons] at h
    simp [m__law_start, mOf, sv__law_start, startE, sRet, eArgs, eCons, eIf, eTest, eBin, fNe, eNil, fLst, big, h, fListC, fCell, eC, DM, res]
theorem set_map_int (ns : List Int) (i : Nat) (v : Int) : (ns.map D.int).set i (.int v) = (ns.set i v).map D.int := by
  rw [List.map_set]
theorem w64_lt {i : Int} (h0 : 0 ≤ i) (h : i < 2 ^ 64) : w64 i = true := decide_eq_true ⟨by omega, h⟩
theorem draw_eq (s : DS) (k : Int) (hk : 0 < k) (hk2 : k ≤ 2 ^ 80) (Rm : List MO) : ∃ r s', m__law_draw [.cell 1, .int k] (DM s Rm) = .ok (.int r) (DM s' Rm) ∧ 0 ≤ r ∧ r < k := by
  have hlen : (0 : Int) < (s.ns.length : Int) := by
    have := s.ne
    have : s.ns.length ≠ 0 := fun z => this (List.eq_nil_of_length_eq_zero z)
    omega
  have hlenN : 0 < s.ns.length := by omega
  have h1 : 0 ≤ (s.c + 1) % (s.ns.length : Int) := Int.emod_nonneg _ (by omega)
  have h2 : (s.c + 1) % (s.ns.length : Int) < s.ns.length := Int.emod_lt_of_pos _ hlen
  obtain ⟨x, hx, ha, hg⟩ := atI_in (xs := s.ns) h1 h2
  have ha' : atI (s.ns.map D.int) ((s.c + 1) % (s.ns.length : Int)) = some (.int x) := by
    unfold atI at ha ⊢
    rw [List.length_map]
    cases q : ixN s.ns.length ((s.c + 1) % (s.ns.length : Int)) with
    | none => rw [q] at ha; cases ha
    | some j => rw [q] at ha; simp only [Option.bind_some] at ha ⊢; rw [List.getElem?_map, ha]; rfl
  have hj : ixN s.ns.length ((s.c + 1) % (s.ns.length : Int)) = some ((s.c + 1) % (s.ns.length : Int)).toNat := by
    unfold ixN
    rw [if_pos h1, if_pos h2]
  have hl : decide (0 < (s.ns.length : Int)) = true := decide_eq_true hlen
  have hdk : cDiv x k = true := decide_eq_true ⟨hk, hk2⟩
  have e0 : atI [D.cell 0, .int s.c] 0 = some (.cell 0) := rfl
  have e1 : atI [D.cell 0, .int s.c] 1 = some (.int s.c) := rfl
  have e2 : atI [D.cell 0, .int (s.c + 1)] 1 = some (.int (s.c + 1)) := rfl
  have e3 : ixN 2 1 = some 1 := rfl
  by_cases hb : 1000000000000000000 ≤ x
  · refine ⟨x % k, ⟨s.ns.set ((s.c + 1) % (s.ns.length : Int)).toNat (x / k), s.c + 1, ?_⟩, ?_, Int.emod_nonneg _ (by omega), Int.emod_lt_of_pos _ hk⟩
    · intro z
      have : (s.ns.set ((s.c + 1) % (s.ns.length : Int)).toNat (x / k)).length = 0 := by rw [z]; rfl
      rw [List.length_set] at this
      exact s.ne (List.eq_nil_of_length_eq_zero this)
    · simp [m__law_draw, mOf, sv__law_draw, startE, DM, res, fIx, fLen, e0, e1, e2, e3, ha', hj, hl, hb, hdk, hk, hlen, hlenN]
  · have hnb : decide (1000000000000000000 ≤ x) = false := decide_eq_false hb
    have p1 : (0 : Int) ≤ (x + 104729 * (s.c + 1)) % 4294967291 := Int.emod_nonneg _ (by decide)
    have p2 : (x + 104729 * (s.c + 1)) % 4294967291 < 4294967291 := Int.emod_lt_of_pos _ (by decide)
    generalize hm : (x + 104729 * (s.c + 1)) % 4294967291 = m at p1 p2
    have p3 : (0 : Int) ≤ m ^ 5 % 4294967279 := Int.emod_nonneg _ (by decide)
    have p4 : m ^ 5 % 4294967279 < 4294967279 := Int.emod_lt_of_pos _ (by decide)
    have hpw : cPow m 5 = true := decide_eq_true ⟨by decide, by decide, by omega⟩
    have hmul1 : cMul 104729 (s.c + 1) = true := by unfold cMul; rw [w64_lt (by decide) (by decide)]; rfl
    have hdv1 : ∀ z : Int, cDiv z 64 = true := fun z => decide_eq_true (by decide)
    have hdv2 : ∀ z : Int, cDiv z 8 = true := fun z => decide_eq_true (by decide)
    have hmul2 : ∀ z : Int, cMul z 69621 = true := fun z => by unfold cMul; rw [w64_lt (i := 69621) (by decide) (by decide), Bool.or_true]
    generalize hn : m ^ 5 % 4294967279 = n at p3 p4
    refine ⟨(n / 64 * 69621 + n) % 4294967231 / 8 % k, ⟨s.ns, s.c + 1, s.ne⟩, ?_, Int.emod_nonneg _ (by omega), Int.emod_lt_of_pos _ hk⟩
    simp [m__law_draw, mOf, sv__law_draw, startE, DM, res, fIx, fLen, e0, e1, e2, e3, ha', hj, hl, hb, hdk, hk, hlen, hm, hn, hpw, hmul1, hmul2, hdv1, hdv2, hlenN]
end KB
namespace KB
open PySem PySem.Spec PyProof.Rows L2
/-! ### byte strings -/
def By (ns : List Int) : Prop := ∀ b ∈ ns, 0 ≤ b ∧ b ≤ 255
theorem By.nil : By [] := fun _ h => nomatch h
theorem By.cons {x : Int} {ns : List Int} (h : 0 ≤ x ∧ x ≤ 255) (hs : By ns) : By (x :: ns) := fun b hb => by
  rcases List.mem_cons.mp hb with rfl | hb
  · exact h
  · exact hs b hb
theorem By.tail {x : Int} {ns : List Int} (h : By (x :: ns)) : By ns := fun b hb => h b (List.mem_cons_of_mem _ hb)
theorem By.head {x : Int} {ns : List Int} (h : By (x :: ns)) : 0 ≤ x ∧ x ≤ 255 := h x (List.mem_cons_self ..)
theorem By.append {a b : List Int} (h : By a) (h' : By b) : By (a ++ b) := fun x hx => (List.mem_append.mp hx).elim (h x) (h' x)
theorem By.take {a : List Int} (h : By a) (n : Nat) : By (a.take n) := fun x hx => h x (List.mem_of_mem_take hx)
theorem By.drop {a : List Int} (h : By a) (n : Nat) : By (a.drop n) := fun x hx => h x (List.mem_of_mem_drop hx)
theorem By.rep (n : Nat) {x : Int} (h : 0 ≤ x ∧ x ≤ 255) : By (List.replicate n x) := fun b hb => by rw [(List.mem_replicate.mp hb).2]; exact h
section
variable (M : List MO)
@[simp] theorem fLen_bs (a : List Int) : fLen [bs a] M = .ok (.int a.length) M := by simp [bs]
@[simp] theorem res_bs (a : List Int) : res M (bs a) = bs a := rfl
theorem atI_map {α β : Type} (f : α → β) (xs : List α) (i : Int) : atI (xs.map f) i = (atI xs i).map f := by
  unfold atI
  rw [List.length_map]
  cases ixN xs.length i with
  | none => rfl
  | some j => simp
@[simp] theorem fIx_bs (a : List Int) (i : Int) : fIx (bs a) (.int i) M = match atI a i with
  | some d => .ok (.int d) M
  | none => .stuck := by
  unfold bs
  rw [fIx_tup, atI_map]
  cases atI a i <;> rfl
theorem cutD_map {α β : Type} (f : α → β) (xs : List α) (lo hi : Option Int) : cutD (xs.map f) lo hi = (cutD xs lo hi).map f := by
  unfold cutD
  rw [List.length_map, List.map_take, List.map_drop]
@[simp] theorem fSl_bs (a : List Int) (lo hi : Option Int) : fSl (bs a) lo hi M = .ok (bs (cutD a lo hi)) M := by
  unfold bs
  rw [fSl_tup, cutD_map]
@[simp] theorem fAdd_bs (a b : List Int) : fAdd (bs a) (bs b) M = if a.length + b.length ≤ big then .ok (bs (a ++ b)) M else .stuck := by
  simp [bs]
@[simp] theorem bs_one (x : Int) : D.tup [.int x] = bs [x] := rfl
@[simp] theorem bs_nil : D.tup [] = bs [] := rfl
@[simp] theorem fIsi_bs (a : List Int) : fIsi "tuple" (bs a) M = .ok (.bl true) M := by simp [bs]
@[simp] theorem fMul_bs (x k : Int) : fMul (bs [x]) (.int k) M = if -1000 ≤ k ∧ k ≤ 1000 then .ok (bs (List.replicate k.toNat x)) M else .stuck := by
  show fMul (.tup [.int x]) (.int k) M = _
  rw [fMul_tup]
  simp [repD, bs]
end
theorem cut_to {α : Type} (xs : List α) (k : Nat) : cutD xs none (some (k : Int)) = xs.take k := by
  unfold cutD
  rw [HT.sIx_nat, HT.sIx_none]
  simp
theorem cut_from {α : Type} (xs : List α) (k : Nat) : cutD xs (some (k : Int)) none = xs.drop k := by
  unfold cutD
  rw [HT.sIx_nat, HT.sIx_none]
  by_cases h : k ≤ xs.length
  · rw [Nat.min_eq_left h, List.take_of_length_le (by rw [List.length_drop]; exact Nat.le_refl _)]
  · rw [Nat.min_eq_right (by omega), List.drop_length, List.drop_eq_nil_of_le (by omega)]
    simp
theorem cut_toI {α : Type} (xs : List α) {k : Int} (h : 0 ≤ k) : cutD xs none (some k) = xs.take k.toNat := by
  have := cut_to xs k.toNat
  rw [Int.toNat_of_nonneg h] at this
  exact this
theorem cut_fromI {α : Type} (xs : List α) {k : Int} (h : 0 ≤ k) : cutD xs (some k) none = xs.drop k.toNat := by
  have := cut_from xs k.toNat
  rw [Int.toNat_of_nonneg h] at this
  exact this
theorem cut_last {α : Type} (xs : List α) : cutD xs none (some (-1)) = xs.dropLast := by
  unfold cutD
  rw [HT.sIx_none]
  have : HT.sIx xs.length xs.length (some (-1)) = xs.length - 1 := by
    have h := HT.clip_eq (-1) xs.length xs.length
    rw [if_pos (by decide)] at h
    omega
  rw [this]
  simp [List.dropLast_eq_take]
theorem pick_eq (s : DS) (xs : List D) (h : xs ≠ []) (h2 : xs.length ≤ 1000000) (Rm : List MO) : ∃ x s', m__law_pick [.cell 1, .lst xs] (DM s Rm) = .ok x (DM s' Rm) ∧ x ∈ xs := by
  have hl : (0 : Int) < (xs.length : Int) := by
    have : xs.length ≠ 0 := fun z => h (List.eq_nil_of_length_eq_zero z)
    omega
  obtain ⟨r, s', e, h3, h4⟩ := draw_eq s (xs.length : Int) hl (by omega) Rm
  obtain ⟨x, hx, ha, _⟩ := atI_in (xs := xs) h3 h4
  refine ⟨x, s', ?_, hx⟩
  simp [m__law_pick, mOf, sv__law_pick, startE, e, ha]
theorem string_eq (s : DS) (n : Int) (h0 : 0 ≤ n) (h1 : n ≤ 1000) (Rm : List MO) : ∃ ns s', m__law_string [.cell 1, .int n] (DM s Rm) = .ok (bs ns) (DM s' Rm) ∧ (ns.length : Int) ≤ n ∧ By ns := by
  obtain ⟨r, s1, e, h3, h4⟩ := draw_eq s (n + 1) (by omega) (by omega) Rm
  have hr : rgOk r = true := decide_eq_true ⟨by omega, by omega⟩
  have key := compL_draw (g := gN 2) (el := (eArgs m__law_pick (eCons (eVar 0) (eCons (eArgs fLst (eCons (eC (.int 0)) (eCons (eC (.int 0)) (eCons (eC (.int 1)) (eCons (eC (.int 2)) (eCons (eC (.int 5)) (eCons (eC (.int 6)) (eCons (eC (.int 254)) (eCons (eC (.int 255)) (eCons (eC (.int 255)) (eCons (eArgs m__law_draw (eCons (eVar 0) (eCons (eC (.int 256)) eNil))) eNil))))))))))) eNil)))) (e := [some (.cell 1), some (.int n), none]) (Rm := Rm) (P := fun y => ∃ i : Int, y = .int i ∧ 0 ≤ i ∧ i ≤ 255)
    (rangeD 0 r.toNat) [] s1 (by simp [rangeD, big]; omega) (fun d hd s => by
      obtain ⟨q, s2, e2, h5, h6⟩ := draw_eq s 256 (by decide) (by decide) Rm
      obtain ⟨x, s3, e3, hx⟩ := pick_eq s2 [.int 0, .int 0, .int 1, .int 2, .int 5, .int 6, .int 254, .int 255, .int 255, .int q] (by simp) (by simp) Rm
      refine ⟨_, x, s3, rfl, ?_, ?_⟩
      · simp [e2, e3, big]
      · simp at hx
        rcases hx with rfl | rfl | rfl | rfl | rfl | rfl | rfl | rfl | rfl | rfl <;> exact ⟨_, rfl, by omega, by omega⟩)
  obtain ⟨ys, s2, e2, hl, hP⟩ := key
  have hys : ∃ ns : List Int, ys = ns.map D.int ∧ By ns := by
    clear e2 hl
    induction ys with
    | nil => exact ⟨[], rfl, By.nil⟩
    | cons y ys ih =>
      obtain ⟨i, rfl, hi⟩ := hP y (by simp)
      obtain ⟨ns, rfl, hn⟩ := ih fun z hz => hP z (by simp [hz])
      exact ⟨i :: ns, rfl, hn.cons hi⟩
  obtain ⟨ns, rfl, hn⟩ := hys
  refine ⟨ns, s2, ?_, ?_, hn⟩
  · simp [m__law_string, mOf, sv__law_string, startE, e, hr, wipeE]
    rw [e2]
    simp [bs]
  · rw [List.length_map, rangeD_length] at hl
    omega
theorem is_int_eq (i lo hi : Int) (M : List MO) : m_is_int [.int i, .int lo, .int hi] M = .ok (.bl (decide (lo ≤ i) && decide (i ≤ hi))) M := by
  simp [m_is_int, mOf, sv_is_int, startE]
  by_cases h : lo ≤ i <;> by_cases h2 : i ≤ hi <;> simp [h, h2]
theorem is_bytes_gen (ns : List Int) (M : List MO) : m_is_bytes [bs ns] M = .ok (.bl (decide (ns.length ≤ 400) && ns.all fun b => decide (0 ≤ b) && decide (b ≤ 255))) M := by
  by_cases hl : ns.length ≤ 400
  · have h1 : ¬ (400 : Int) < (ns.length : Int) := by omega
    simp only [m_is_bytes, mOf, sv_is_bytes, startE]
    simp [h1, hl, wipeE]
    have key := compL_map (c := D.int) (g := gN 1) (el := (eArgs m_is_int (eCons (eVar 1) (eCons (eC (.int 0)) (eCons (eC (.int 255)) eNil))))) (e := [some (bs ns), none]) (M := M) (fun b => .bl (decide (0 ≤ b) && decide (b ≤ 255))) ns (by unfold big; omega) (fun b hb => ⟨_, rfl, by simp [is_int_eq]⟩)
    simp [key]
    have : (List.map (fun b : Int => D.bl (decide (0 ≤ b) && decide (b ≤ 255))) ns) = (ns.map fun b => decide (0 ≤ b) && decide (b ≤ 255)).map D.bl := by
      rw [List.map_map]
      rfl
    rw [this, fAll_bls]
    simp [List.all_map, Function.comp_def]
  · have h1 : (400 : Int) < (ns.length : Int) := by omega
    simp [m_is_bytes, mOf, sv_is_bytes, startE, h1, hl]
theorem is_bytes_eq {ns : List Int} (h : By ns) (hl : ns.length ≤ 400) (M : List MO) : m_is_bytes [bs ns] M = .ok (.bl true) M := by
  rw [is_bytes_gen, decide_eq_true hl]
  have : (ns.all fun b => decide (0 ≤ b) && decide (b ≤ 255)) = true := by
    rw [List.all_eq_true]
    intro b hb
    have := h b hb
    simp [this.1, this.2]
  rw [this]
  rfl
theorem check_bytes_eq {ns : List Int} (h : By ns) (hl : ns.length ≤ 400) (M : List MO) : m_check_bytes [bs ns] M = .ok .non M := by
  simp [m_check_bytes, mOf, sv_check_bytes, startE, is_bytes_eq h hl]
end KB
namespace KB
open PySem PySem.Spec PyProof.Rows L2
/-! ### the order of byte strings -/
theorem lexLt_asymm : ∀ (a b : List Int), HT.lexLt a b = true → HT.lexLt b a = false
  | [], [], _ => rfl
  | [], _ :: _, _ => rfl
  | _ :: _, [], h => by simp [HT.lexLt] at h
  | x :: a, y :: b, h => by
    rw [HT.lexLt_cons] at h ⊢
    by_cases e : x = y
    · rw [if_pos e] at h; rw [if_pos e.symm]; exact lexLt_asymm a b h
    · rw [if_neg e] at h; rw [if_neg (fun z => e z.symm)]
      have := of_decide_eq_true h
      exact decide_eq_false (by omega)
theorem lexLt_irrefl : ∀ a : List Int, HT.lexLt a a = false
  | [] => rfl
  | x :: a => by rw [HT.lexLt_cons, if_pos rfl]; exact lexLt_irrefl a
theorem lexLt_total : ∀ (a b : List Int), HT.lexLt a b = false → HT.lexLt b a = false → a = b
  | [], [], _, _ => rfl
  | [], _ :: _, h, _ => by simp [HT.lexLt] at h
  | _ :: _, [], _, h => by simp [HT.lexLt] at h
  | x :: a, y :: b, h, h' => by
    rw [HT.lexLt_cons] at h h'
    by_cases e : x = y
    · subst e
      rw [if_pos rfl] at h h'
      rw [lexLt_total a b h h']
    · rw [if_neg e] at h
      rw [if_neg (fun z => e z.symm)] at h'
      have h1 := of_decide_eq_false h
      have h2 := of_decide_eq_false h'
      omega
theorem lexLt_trans : ∀ (a b c : List Int), HT.lexLt a b = true → HT.lexLt b c = true → HT.lexLt a c = true
  | _, [], [], _, h => by simp [HT.lexLt] at h
  | _, _ :: _, [], _, h => by simp [HT.lexLt] at h
  | [], _, _ :: _, _, _ => rfl
  | x :: a, [], _ :: _, h, _ => by simp [HT.lexLt] at h
  | x :: a, y :: b, z :: c, h, h' => by
    rw [HT.lexLt_cons] at h h' ⊢
    by_cases e : x = y
    · subst e
      rw [if_pos rfl] at h
      by_cases e2 : x = z
      · subst e2; rw [if_pos rfl] at h' ⊢; exact lexLt_trans a b c h h'
      · rw [if_neg e2] at h' ⊢; exact h'
    · rw [if_neg e] at h
      have h1 := of_decide_eq_true h
      by_cases e2 : y = z
      · subst e2; rw [if_neg e]; exact h
      · rw [if_neg e2] at h'
        have h2 := of_decide_eq_true h'
        rw [if_neg (by omega)]
        exact decide_eq_true (by omega)
/-! ### the end of a prefix's range -/
def endOf : List Int → Option (List Int)
  | [] => none
  | x :: xs => match endOf xs with
    | some e => some (x :: e)
    | none => if x = 255 then none else some [x + 1]
theorem endOf_snoc255 : ∀ xs : List Int, endOf (xs ++ [255]) = endOf xs
  | [] => rfl
  | x :: xs => by
    show (match endOf (xs ++ [255]) with | some e => some (x :: e) | none => _) = _
    rw [endOf_snoc255 xs]
    rfl
theorem endOf_snoc {x : Int} (h : x ≠ 255) : ∀ xs : List Int, endOf (xs ++ [x]) = some (xs ++ [x + 1])
  | [] => by simp [endOf, h]
  | y :: xs => by
    show (match endOf (xs ++ [x]) with | some e => some (y :: e) | none => _) = _
    rw [endOf_snoc h xs]
    rfl
theorem atI_of {α : Type} {xs : List α} {n : Nat} (h : n < xs.length) : atI xs (n : Int) = some xs[n] := atI_nat (List.getElem?_eq_getElem h)
theorem end_loop (p : List Int) (M : List MO) : ∀ (n : Nat) (k : Nat), n ≤ p.length → n + 1 ≤ k →
    ∃ l : Int, whileN (eAnd (eTest (eBin fGe (eVar 1) (eC (.int 0)))) (eTest (eBin fEq (eBin fIx (eVar 0) (eVar 1)) (eC (.int 255))))) (sAug 1 fISub (eC (.int 1))) k [some (bs p), some (.int ((n : Int) - 1))] M = .nx [some (bs p), some (.int l)] M ∧
      ((l < 0 ∧ endOf (p.take n) = none) ∨ ∃ j : Nat, ∃ h : j < p.length, l = (j : Int) ∧ endOf (p.take n) = some (p.take j ++ [p[j] + 1]))
  | 0, k, _, hk => by
    obtain ⟨k, rfl⟩ : ∃ k', k = k' + 1 := ⟨k - 1, by omega⟩
    refine ⟨-1, ?_, .inl ⟨by decide, rfl⟩⟩
    simp [whileN]
  | n + 1, k, hn, hk => by
    obtain ⟨k, rfl⟩ : ∃ k', k = k' + 1 := ⟨k - 1, by omega⟩
    have hlt : n < p.length := by omega
    have e1 : ((n + 1 : Nat) : Int) - 1 = (n : Int) := by omega
    have ht : p.take (n + 1) = p.take n ++ [p[n]] := by rw [List.take_add_one, List.getElem?_eq_getElem hlt]; rfl
    rw [e1]
    by_cases h : p[n] = 255
    · obtain ⟨l, hl, hr⟩ := end_loop p M n k (by omega) (by omega)
      refine ⟨l, ?_, ?_⟩
      · rw [← hl]
        have h0 : (0 : Int) ≤ (n : Int) := by omega
        simp [whileN, atI_of hlt, h, fEq, h0]
      · rw [ht, h, endOf_snoc255]
        exact hr
    · refine ⟨n, ?_, .inr ⟨n, hlt, rfl, ?_⟩⟩
      · have h0 : (0 : Int) ≤ (n : Int) := by omega
        simp [whileN, atI_of hlt, h, fEq, h0]
      · rw [ht, endOf_snoc h]
theorem end_of_eq (p : List Int) (hl : p.length ≤ 400) (M : List MO) : m_end_of [bs p] M = .ok (ob (endOf p)) M := by
  obtain ⟨l, h1, h2⟩ := end_loop p M p.length fuel (Nat.le_refl _) (by unfold fuel; omega)
  rw [List.take_length] at h2
  simp only [m_end_of, mOf, sv_end_of, startE]
  simp
  rw [h1]
  rcases h2 with ⟨h2, h3⟩ | ⟨j, hj, rfl, h3⟩
  · simp [h2, h3, ob]
  · have h0 : ¬ (j : Int) < 0 := by omega
    have hb : min j p.length + 1 ≤ big := by unfold big; omega
    simp [h0, h3, ob, atI_of hj, cut_to, hb]
theorem endOf_len : ∀ (p e : List Int), endOf p = some e → e.length ≤ p.length ∧ e ≠ []
  | [], e, h => by cases h
  | x :: xs, e, h => by
    unfold endOf at h
    cases q : endOf xs with
    | some e' =>
      rw [q] at h
      cases h
      have := endOf_len xs e' q
      simp only [List.length_cons]
      exact ⟨by omega, by simp⟩
    | none =>
      rw [q] at h
      dsimp only at h
      split at h
      · cases h
      · cases h; simp
theorem endOf_by : ∀ (p e : List Int), By p → endOf p = some e → By e
  | [], e, _, h => by cases h
  | x :: xs, e, hb, h => by
    unfold endOf at h
    cases q : endOf xs with
    | some e' =>
      rw [q] at h
      cases h
      exact (endOf_by xs e' hb.tail q).cons hb.head
    | none =>
      rw [q] at h
      dsimp only at h
      split at h
      · cases h
      · cases h
        have := hb.head
        exact By.nil.cons ⟨by omega, by omega⟩
theorem endOf_none : ∀ (p : List Int), (endOf p = none) ↔ p.filter (fun b => decide (b ≠ 255)) = []
  | [] => by simp [endOf]
  | x :: xs => by
    have ih := endOf_none xs
    unfold endOf
    cases q : endOf xs with
    | some e' =>
      rw [q] at ih
      simp at ih
      by_cases h : x = 255 <;> simp [h, ih]
    | none =>
      rw [q] at ih
      have ih' := ih.mp rfl
      by_cases h : x = 255
      · simp [h] at ih' ⊢; exact ih'
      · simp [h]
/-- the last byte of an end is above 0 -/
theorem endOf_last : ∀ (p e : List Int), By p → endOf p = some e → ∃ a x, e = a ++ [x] ∧ 0 < x
  | [], e, _, h => by cases h
  | x :: xs, e, hb, h => by
    unfold endOf at h
    cases q : endOf xs with
    | some e' =>
      rw [q] at h
      cases h
      obtain ⟨a, y, rfl, hy⟩ := endOf_last xs e' hb.tail q
      exact ⟨x :: a, y, rfl, hy⟩
    | none =>
      rw [q] at h
      dsimp only at h
      split at h
      · cases h
      · cases h
        have := hb.head
        exact ⟨[], x + 1, rfl, by omega⟩
/-- in the range: not below, and below the end -/
def inside (p s : List Int) : Bool := !HT.lexLt s p && (match endOf p with
  | none => true
  | some e => HT.lexLt s e)
theorem inside_eq : ∀ (p s : List Int), By s → inside p s = decide (s.take p.length = p)
  | [], s, _ => by cases s <;> simp [inside, endOf, HT.lexLt]
  | x :: xs, [], _ => by simp [inside, HT.lexLt]
  | x :: xs, y :: ys, hs => by
    have ih := inside_eq xs ys hs.tail
    have hy := hs.head
    unfold inside at ih ⊢
    rw [HT.lexLt_cons]
    simp only [List.length_cons, List.take_succ_cons, List.cons.injEq]
    unfold endOf
    by_cases h : y = x
    · subst h
      simp only [if_true, true_and]
      cases q : endOf xs with
      | some e => rw [q] at ih; simp only [HT.lexLt_cons, if_true]; exact ih
      | none =>
        rw [q] at ih
        simp only [Bool.and_true] at ih
        by_cases h2 : y = 255
        · simp [h2, ih]
        · have e1 : HT.lexLt (y :: ys) [y + 1] = true := by
            rw [HT.lexLt_cons, if_neg (by omega)]
            exact decide_eq_true (by omega)
          simp [h2, ih, e1]
    · rw [if_neg h]
      have hd : decide (y = x ∧ ys.take xs.length = xs) = false := decide_eq_false fun z => h z.1
      rw [hd]
      by_cases h2 : y < x
      · simp [h2]
      · have e0 : decide (y < x) = false := decide_eq_false h2
        rw [e0]
        cases q : endOf xs with
        | some e =>
          simp only [HT.lexLt_cons, if_neg h, e0]
          rfl
        | none =>
          by_cases h3 : x = 255
          · omega
          · simp only [h3, if_false]
            have e1 : HT.lexLt (y :: ys) [x + 1] = false := by
              rw [HT.lexLt_cons]
              by_cases h4 : y = x + 1
              · rw [if_pos h4]; cases ys <;> rfl
              · rw [if_neg h4]; exact decide_eq_false (by omega)
            rw [e1]
            rfl
theorem prefix_end_eq {p : List Int} (h : By p) (hl : p.length ≤ 400) (M : List MO) : m_prefix_end [bs p] M = .ok (ob (endOf p)) M := by
  simp [m_prefix_end, mOf, sv_prefix_end, startE, check_bytes_eq h hl, end_of_eq p hl]
theorem prefix_range_eq {p : List Int} (h : By p) (hl : p.length ≤ 400) (M : List MO) : m_prefix_range [bs p] M = .ok (.tup [bs p, ob (endOf p)]) M := by
  simp [m_prefix_range, mOf, sv_prefix_range, startE, check_bytes_eq h hl, end_of_eq p hl]
end KB
namespace KB
open PySem PySem.Spec PyProof.Rows L2
/-! ### laws: helpers -/
@[simp] theorem DM_length (s : DS) (Rm : List MO) : (DM s Rm).length = Rm.length + 2 := rfl
@[simp] theorem DM_snoc (s : DS) (Rm : List MO) (o : MO) : DM s Rm ++ [o] = DM s (Rm ++ [o]) := rfl
@[simp] theorem DM_at (s : DS) (Rm : List MO) (n : Nat) : (DM s Rm)[n + 2]? = Rm[n]? := rfl
theorem fAddC_res {x y : D} {M : List MO} {a b : List D} (hx : res M x = .lst a) (hy : res M y = .lst b) (hl : a.length + b.length ≤ big) : fAddC x y M = .ok (.cell M.length) (M ++ [.lst (a ++ b)]) := by
  simp [fAddC, hx, hy, hl]
theorem res_at {M : List MO} {n : Nat} {ds : List D} (h : M[n]? = some (.lst ds)) : res M (.cell n) = .lst ds := by simp [res, h]
theorem forC_inv {g : GV} {b : SV} {n : Nat} {M : List MO} {ds : List D} (hM : M[n]? = some (.lst ds)) (I : EN → Prop)
    (hs : ∀ d ∈ ds, ∀ e, I e → ∃ e1 e2, g d e = some e1 ∧ b e1 M = .nx e2 M ∧ I e2) : ∀ (k i : Nat) (e : EN), I e → ds.length < i + k → i ≤ ds.length → ∃ e', forC g b n k i e M = .nx e' M ∧ I e'
  | 0, i, e, hI, hk, hi => by omega
  | k + 1, i, e, hI, hk, hi => by
    unfold forC
    simp only [hM]
    cases hd : ds[i]? with
    | none => exact ⟨e, rfl, hI⟩
    | some d =>
      obtain ⟨e1, e2, h1, h2, h3⟩ := hs d (List.mem_of_getElem? hd) e hI
      simp only [h1, h2, RS.turn_nx]
      exact forC_inv hM I hs k (i + 1) e2 h3 (by omega) (List.getElem?_eq_some_iff.mp hd).1
theorem compC_acc {α : Type} {c : α → D} {g : GV} {t : EB} {el : EV} {e : EN} {n : Nat} {M : List MO} {f : α → D} {p : α → Bool} {xs : List α} (hM : M[n]? = some (.lst (xs.map c))) (hl : xs.length ≤ 1000) (h : ∀ x ∈ xs, ∃ e1, g (c x) e = some e1 ∧ t e1 M = .ok (p x) M ∧ (p x = true → el e1 M = .ok (f x) M)) :
    ∀ (k i : Nat) (acc : List D), xs.length < i + k → i ≤ xs.length → acc.length ≤ i → compC g t el e n k i acc M = .ok (acc ++ ((xs.drop i).filter p).map f) M
  | 0, i, acc, hk, hi, _ => by omega
  | k + 1, i, acc, hk, hii, ha => by
    unfold compC
    simp only [hM]
    rw [List.getElem?_map]
    cases hd : xs[i]? with
    | none =>
      have : xs.length ≤ i := List.getElem?_eq_none_iff.mp hd
      simp [List.drop_eq_nil_of_le this]
    | some d =>
      obtain ⟨e1, h1, h2, h3⟩ := h d (List.mem_of_getElem? hd)
      obtain ⟨hi, hdi⟩ := List.getElem?_eq_some_iff.mp hd
      have hb : acc.length < big := by unfold big; omega
      have hdr : xs.drop i = d :: xs.drop (i + 1) := by rw [List.drop_eq_getElem_cons hi, hdi]
      simp only [Option.map_some, h1, R.nox_ok, h2]
      cases hp : p d with
      | true =>
        simp only [if_true, h3 hp, R.nox_ok, hb]
        rw [compC_acc hM hl h k (i + 1) (acc ++ [f d]) (by omega) hi (by simp; omega), hdr]
        simp [hp]
      | false =>
        simp only [Bool.false_eq_true, if_false]
        rw [compC_acc hM hl h k (i + 1) acc (by omega) hi (by omega), hdr]
        simp [hp]
theorem compC_filter {α : Type} {c : α → D} {g : GV} {t : EB} {el : EV} {e : EN} {n : Nat} {M : List MO} (f : α → D) (p : α → Bool) (xs : List α) (hM : M[n]? = some (.lst (xs.map c))) (hl : xs.length ≤ 1000) (h : ∀ x ∈ xs, ∃ e1, g (c x) e = some e1 ∧ t e1 M = .ok (p x) M ∧ (p x = true → el e1 M = .ok (f x) M)) :
    compC g t el e n fuel 0 [] M = .ok ((xs.filter p).map f) M := by
  have := compC_acc hM hl (f := f) (p := p) h fuel 0 [] (by unfold fuel; omega) (by omega) (by simp)
  simpa using this
/-- a list of byte strings -/
def kl (xs : List (List Int)) : List D := xs.map bs
@[simp] theorem kl_length (xs : List (List Int)) : (kl xs).length = xs.length := by simp [kl]
@[simp] theorem kl_append (xs ys : List (List Int)) : kl xs ++ kl ys = kl (xs ++ ys) := by simp [kl]
theorem kl_nil : ([] : List D) = kl [] := rfl
theorem ys_kl {ys : List D} {Q : List Int → Prop} (h : ∀ y ∈ ys, ∃ b, y = bs b ∧ Q b) : ∃ xs, ys = kl xs ∧ ∀ x ∈ xs, Q x := by
  induction ys with
  | nil => exact ⟨[], rfl, by simp⟩
  | cons y ys ih =>
    obtain ⟨b, rfl, hb⟩ := h y (by simp)
    obtain ⟨xs, rfl, hx⟩ := ih fun z hz => h z (by simp [hz])
    refine ⟨b :: xs, rfl, fun x hx' => ?_⟩
    rcases List.mem_cons.mp hx' with rfl | hx'
    · exact hb
    · exact hx x hx'
theorem eqv_kl_nil (xs : List (List Int)) : dEqv (.lst (kl xs)) (.lst []) = xs.isEmpty := by
  rw [dEqv_nil]
  cases xs <;> rfl
end KB
namespace KB
open PySem PySem.Spec PyProof.Rows L2
/-! ### common prefixes, separators -/
def comN : List Int → List Int → Nat
  | x :: a, y :: b => if x = y then comN a b + 1 else 0
  | _, _ => 0
theorem comN_nil_l (b : List Int) : comN [] b = 0 := by cases b <;> rfl
theorem comN_nil_r (a : List Int) : comN a [] = 0 := by cases a <;> rfl
theorem comN_le : ∀ (a b : List Int), comN a b ≤ a.length ∧ comN a b ≤ b.length
  | [], b => by rw [comN_nil_l]; simp
  | _ :: _, [] => by simp [comN]
  | x :: a, y :: b => by
    have := comN_le a b
    simp only [comN, List.length_cons]
    split <;> omega
theorem comN_take : ∀ (a b : List Int), a.take (comN a b) = b.take (comN a b)
  | [], b => by rw [comN_nil_l]; simp
  | _ :: _, [] => by simp [comN]
  | x :: a, y :: b => by
    simp only [comN]
    split
    · rename_i h; subst h; simp [comN_take a b]
    · simp
theorem take_iff_com : ∀ (k : Nat) (a b : List Int), k + 1 ≤ a.length → k + 1 ≤ b.length → (a.take (k + 1) = b.take (k + 1) ↔ k < comN a b)
  | k, [], b, h1, _ => by simp at h1
  | k, _ :: _, [], _, h2 => by simp at h2
  | k, x :: a, y :: b, h1, h2 => by
    simp only [List.take_succ_cons, comN]
    by_cases h : x = y
    · subst h
      simp only [if_true]
      cases k with
      | zero => simp
      | succ k =>
        have := take_iff_com k a b (by simpa using h1) (by simpa using h2)
        constructor
        · intro e; simp only [List.cons.injEq, true_and] at e; have := this.mp e; omega
        · intro e; simp only [List.cons.injEq, true_and]; exact this.mpr (by omega)
    · rw [if_neg h]; simp [h]
theorem com_next : ∀ (a b : List Int), comN a b < a.length → comN a b < b.length → a[comN a b]? ≠ b[comN a b]?
  | [], b, h, _ => by simp at h
  | _ :: _, [], _, h => by simp at h
  | x :: a, y :: b, h1, h2 => by
    simp only [comN] at h1 h2 ⊢
    by_cases h : x = y
    · subst h
      simp only [if_true, List.length_cons] at h1 h2 ⊢
      simp only [List.getElem?_cons_succ]
      exact com_next a b (by omega) (by omega)
    · rw [if_neg h]; simp [h]
theorem com_loop (a b : List Int) (M : List MO) : ∀ (n k j : Nat), comN a b - j = n → j ≤ comN a b → n + 1 ≤ k →
    whileN (eAnd (eTest (eBin fLt (eVar 2) (eArgs fLen (eCons (eVar 0) eNil)))) (eAnd (eTest (eBin fLt (eVar 2) (eArgs fLen (eCons (eVar 1) eNil)))) (eTest (eBin fEq (eBin fIx (eVar 0) (eVar 2)) (eBin fIx (eVar 1) (eVar 2)))))) (sAug 2 fIAdd (eC (.int 1))) k [some (bs a), some (bs b), some (.int (j : Int))] M = .nx [some (bs a), some (bs b), some (.int (comN a b : Nat))] M
  | 0, k, j, hn, hj, hk => by
    obtain ⟨k, rfl⟩ : ∃ k', k = k' + 1 := ⟨k - 1, by omega⟩
    obtain rfl : j = comN a b := by omega
    by_cases h1 : comN a b < a.length
    · by_cases h2 : comN a b < b.length
      · have := com_next a b h1 h2
        have h1' : (comN a b : Int) < (a.length : Int) := by omega
        have h2' : (comN a b : Int) < (b.length : Int) := by omega
        rw [List.getElem?_eq_getElem h1, List.getElem?_eq_getElem h2] at this
        have hne : ¬ a[comN a b] = b[comN a b] := fun e => this (by rw [e])
        simp [whileN, h1', h2', atI_of h1, atI_of h2, fEq, hne]
      · have h1' : (comN a b : Int) < (a.length : Int) := by omega
        have h2' : ¬ (comN a b : Int) < (b.length : Int) := by omega
        simp [whileN, h1', h2']
    · have h1' : ¬ (comN a b : Int) < (a.length : Int) := by omega
      simp [whileN, h1']
  | n + 1, k, j, hn, hj, hk => by
    obtain ⟨k, rfl⟩ : ∃ k', k = k' + 1 := ⟨k - 1, by omega⟩
    have hl := comN_le a b
    have ih := com_loop a b M n k (j + 1) (by omega) (by omega) (by omega)
    have h1 : j < a.length := by omega
    have h2 : j < b.length := by omega
    have h1' : (j : Int) < (a.length : Int) := by omega
    have h2' : (j : Int) < (b.length : Int) := by omega
    have e : a[j] = b[j] := by
      have := (take_iff_com j a b (by omega) (by omega)).mpr (by omega)
      have e2 : (a.take (j + 1))[j]? = (b.take (j + 1))[j]? := by rw [this]
      rw [List.getElem?_take_of_lt (by omega), List.getElem?_take_of_lt (by omega), List.getElem?_eq_getElem h1, List.getElem?_eq_getElem h2] at e2
      exact Option.some.inj e2
    have e3 : ((j : Int) + 1) = ((j + 1 : Nat) : Int) := by omega
    rw [← ih]
    simp [whileN, h1', h2', atI_of h1, atI_of h2, fEq, e]
theorem common_length_eq (a b : List Int) (h : a.length ≤ 1000) (M : List MO) : m_common_length [bs a, bs b] M = .ok (.int (comN a b : Nat)) M := by
  have hl := comN_le a b
  have := com_loop a b M (comN a b - 0) fuel 0 rfl (by omega) (by unfold fuel; omega)
  simp only [m_common_length, mOf, sv_common_length, startE]
  simp at this ⊢
  rw [this]
  simp
/-- the separator of a < b -/
def sepOf (a b : List Int) : List Int := b.take (comN a b + 1)
theorem com_lt : ∀ (a b : List Int), HT.lexLt a b = true → comN a b < b.length
  | [], [], h => by simp [HT.lexLt] at h
  | [], _ :: _, _ => by simp [comN]
  | _ :: _, [], h => by simp [HT.lexLt] at h
  | x :: a, y :: b, h => by
    rw [HT.lexLt_cons] at h
    simp only [comN, List.length_cons]
    by_cases e : x = y
    · rw [if_pos e] at h ⊢; have := com_lt a b h; omega
    · rw [if_neg e]; omega
theorem sep_lt : ∀ (a b : List Int), HT.lexLt a b = true → HT.lexLt a (sepOf a b) = true
  | [], [], h => by simp [HT.lexLt] at h
  | [], _ :: _, _ => by simp [sepOf, comN, HT.lexLt]
  | _ :: _, [], h => by simp [HT.lexLt] at h
  | x :: a, y :: b, h => by
    rw [HT.lexLt_cons] at h
    simp only [sepOf, comN, List.take_succ_cons, HT.lexLt_cons]
    by_cases e : x = y
    · rw [if_pos e] at h ⊢; rw [if_pos e]; exact sep_lt a b h
    · rw [if_neg e] at h ⊢; exact h
theorem lex_take : ∀ (b : List Int) (n : Nat), HT.lexLt b (b.take n) = false
  | [], n => by simp [HT.lexLt]
  | x :: b, 0 => rfl
  | x :: b, n + 1 => by rw [List.take_succ_cons, HT.lexLt_cons, if_pos rfl]; exact lex_take b n
theorem sep_le (a b : List Int) : HT.lexLt b (sepOf a b) = false := lex_take _ _
theorem sep_len (a b : List Int) (h : HT.lexLt a b = true) : (sepOf a b).length = comN a b + 1 := by
  have := com_lt a b h
  rw [sepOf, List.length_take]; omega
/-- no shorter string separates -/
theorem sep_short : ∀ (x a b : List Int), x.length ≤ comN a b → HT.lexLt a x = true → HT.lexLt b x = true
  | [], a, b, _, h => by cases a <;> simp [HT.lexLt] at h
  | x :: xs, [], b, h, _ => by rw [comN_nil_l] at h; simp at h
  | x :: xs, _ :: _, [], h, _ => by simp [comN] at h
  | x :: xs, y :: a, z :: b, h, h1 => by
    simp only [comN, List.length_cons] at h
    by_cases e : y = z
    · subst e
      rw [if_pos rfl] at h
      rw [HT.lexLt_cons] at h1 ⊢
      by_cases e2 : y = x
      · rw [if_pos e2] at h1 ⊢; exact sep_short xs a b (by omega) h1
      · rw [if_neg e2] at h1 ⊢; exact h1
    · rw [if_neg e] at h; omega
theorem check_pair_eq {a b : List Int} (ha : By a) (hb : By b) (la : a.length ≤ 400) (lb : b.length ≤ 400) (h : HT.lexLt a b = true) (M : List MO) : m_check_pair [bs a, bs b] M = .ok .non M := by
  simp [m_check_pair, mOf, sv_check_pair, startE, check_bytes_eq ha la, check_bytes_eq hb lb, h]
theorem separator_eq {a b : List Int} (ha : By a) (hb : By b) (la : a.length ≤ 400) (lb : b.length ≤ 400) (h : HT.lexLt a b = true) (M : List MO) : m_separator [bs a, bs b] M = .ok (bs (sepOf a b)) M := by
  have e : cutD b none (some ((comN a b : Int) + 1)) = sepOf a b := by
    rw [show ((comN a b : Int) + 1) = ((comN a b + 1 : Nat) : Int) from by omega, cut_to]; rfl
  simp [m_separator, mOf, sv_separator, startE, check_pair_eq ha hb la lb h, common_length_eq a b (by omega), e]
theorem successor_eq {a : List Int} (ha : By a) (la : a.length ≤ 400) (M : List MO) : m_successor [bs a] M = .ok (bs (a ++ [0])) M := by
  have : a.length + 1 ≤ big := by unfold big; omega
  simp [m_successor, mOf, sv_successor, startE, check_bytes_eq ha la, this]
theorem lex_succ : ∀ (a : List Int) (x : Int), HT.lexLt a (a ++ [x]) = true
  | [], x => rfl
  | y :: a, x => by rw [List.cons_append, HT.lexLt_cons, if_pos rfl]; exact lex_succ a x
/-- a ++ [0] is the next one -/
theorem lex_succ_le : ∀ (a b : List Int), By b → HT.lexLt a b = true → HT.lexLt b (a ++ [0]) = false
  | [], [], _, h => by simp [HT.lexLt] at h
  | [], y :: b, hb, _ => by
    have := hb y (by simp)
    rw [List.nil_append, HT.lexLt_cons]
    by_cases e : y = 0
    · rw [if_pos e]; cases b <;> rfl
    · rw [if_neg e]; exact decide_eq_false (by omega)
  | _ :: _, [], _, h => by simp [HT.lexLt] at h
  | x :: a, y :: b, hb, h => by
    rw [HT.lexLt_cons] at h
    rw [List.cons_append, HT.lexLt_cons]
    by_cases e : x = y
    · rw [if_pos e] at h; rw [if_pos e.symm]; exact lex_succ_le a b hb.tail h
    · rw [if_neg e] at h; rw [if_neg fun z => e z.symm]
      have := of_decide_eq_true h
      exact decide_eq_false (by omega)
@[simp] theorem fMin_bs (a b : List Int) (M : List MO) : fMin [bs a, bs b] M = .ok (if HT.lexLt b a then bs b else bs a) M := by simp [fMin, f2M, bs]
@[simp] theorem fMax_bs (a b : List Int) (M : List MO) : fMax [bs a, bs b] M = .ok (if HT.lexLt a b then bs b else bs a) M := by simp [fMax, f2M, bs]
theorem bs_inj {a b : List Int} : (bs a = bs b) ↔ a = b := by
  constructor
  · intro h
    have : a.map D.int = b.map D.int := by injection h
    exact List.map_inj_right (fun x y e => by injection e) |>.mp this
  · intro h; rw [h]
theorem min_max_ne {a b : List Int} (h : a ≠ b) : ∃ lo hi, (if HT.lexLt b a then bs b else bs a) = bs lo ∧ (if HT.lexLt a b then bs b else bs a) = bs hi ∧ HT.lexLt lo hi = true ∧ ((lo = a ∧ hi = b) ∨ (lo = b ∧ hi = a)) := by
  cases h1 : HT.lexLt a b with
  | true => exact ⟨a, b, by rw [lexLt_asymm _ _ h1]; rfl, rfl, h1, .inl ⟨rfl, rfl⟩⟩
  | false =>
    cases h2 : HT.lexLt b a with
    | true => exact ⟨b, a, rfl, rfl, h2, .inr ⟨rfl, rfl⟩⟩
    | false => exact absurd (lexLt_total _ _ h1 h2) h
theorem forL_inv {g : GV} {b : SV} (I : Nat → EN → List MO → Prop) : ∀ (ds : List D) (i : Nat) (e : EN) (M : List MO), I i e M → (∀ d ∈ ds, ∀ i e M, I i e M → ∃ e1 e2 M2, g d e = some e1 ∧ (b e1 M = .nx e2 M2 ∨ b e1 M = .cnt e2 M2) ∧ I (i + 1) e2 M2) →
    ∃ e' M', forL g b ds e M = .nx e' M' ∧ I (i + ds.length) e' M'
  | [], i, e, M, h, _ => ⟨e, M, rfl, h⟩
  | d :: ds, i, e, M, h, hs => by
    obtain ⟨e1, e2, M2, h1, h2, h3⟩ := hs d (List.mem_cons_self ..) i e M h
    obtain ⟨e', M', h4, h5⟩ := forL_inv I ds (i + 1) e2 M2 h3 fun d hd => hs d (List.mem_cons_of_mem _ hd)
    refine ⟨e', M', ?_, by rw [List.length_cons, show i + (ds.length + 1) = i + 1 + ds.length from by omega]; exact h5⟩
    unfold forL
    simp only [h1]
    rcases h2 with h2 | h2
    · rw [h2]; exact h4
    · rw [h2]; exact h4
theorem forL_ix {g : GV} {b : SV} (I : Nat → EN → List MO → Prop) : ∀ (ds : List D) (i : Nat) (e : EN) (M : List MO), I i e M → (∀ j d, ds[j]? = some d → ∀ e M, I (i + j) e M → ∃ e1 e2 M2, g d e = some e1 ∧ (b e1 M = .nx e2 M2 ∨ b e1 M = .cnt e2 M2) ∧ I (i + j + 1) e2 M2) →
    ∃ e' M', forL g b ds e M = .nx e' M' ∧ I (i + ds.length) e' M'
  | [], i, e, M, h, _ => ⟨e, M, rfl, h⟩
  | d :: ds, i, e, M, h, hs => by
    obtain ⟨e1, e2, M2, h1, h2, h3⟩ := hs 0 d rfl e M h
    obtain ⟨e', M', h4, h5⟩ := forL_ix I ds (i + 1) e2 M2 h3 fun j d hd e M h => by
      have := hs (j + 1) d (by simpa using hd) e M (by rw [show i + (j + 1) = i + 1 + j from by omega]; exact h)
      rw [show i + (j + 1) + 1 = i + 1 + j + 1 from by omega] at this
      exact this
    refine ⟨e', M', ?_, by rw [List.length_cons, show i + (ds.length + 1) = i + 1 + ds.length from by omega]; exact h5⟩
    unfold forL
    simp only [h1]
    rcases h2 with h2 | h2
    · rw [h2]; exact h4
    · rw [h2]; exact h4
end KB
namespace KB
open PySem PySem.Spec PyProof.Rows L2
/-! ### byte strings that part at a byte -/
def Dv : List Int → List Int → Prop
  | x :: a, y :: b => x < y ∨ (x = y ∧ Dv a b)
  | _, _ => False
theorem Dv.lt : ∀ {a b : List Int} (u v : List Int), Dv a b → HT.lexLt (a ++ u) (b ++ v) = true
  | [], _, _, _, h => by simp [Dv] at h
  | _ :: _, [], _, _, h => by simp [Dv] at h
  | x :: a, y :: b, u, v, h => by
    rw [List.cons_append, List.cons_append, HT.lexLt_cons]
    rcases h with h | ⟨rfl, h⟩
    · rw [if_neg (by omega)]; exact decide_eq_true h
    · rw [if_pos rfl]; exact Dv.lt u v h
theorem Dv.lt0 {a b : List Int} (h : Dv a b) : HT.lexLt a b = true := by
  have := h.lt [] []
  simpa using this
theorem Dv.left : ∀ (p : List Int) {a b : List Int}, Dv a b → Dv (p ++ a) (p ++ b)
  | [], _, _, h => h
  | x :: p, _, _, h => .inr ⟨rfl, Dv.left p h⟩
theorem Dv.app : ∀ {a b : List Int} (u v : List Int), Dv a b → Dv (a ++ u) (b ++ v)
  | [], _, _, _, h => by simp [Dv] at h
  | _ :: _, [], _, _, h => by simp [Dv] at h
  | x :: a, y :: b, u, v, h => by
    rcases h with h | ⟨rfl, h⟩
    · exact .inl h
    · exact .inr ⟨rfl, Dv.app u v h⟩
def flp (a : List Int) : List Int := a.map fun x => 255 - x
@[simp] theorem flp_nil : flp [] = [] := rfl
@[simp] theorem flp_cons (x : Int) (a : List Int) : flp (x :: a) = (255 - x) :: flp a := rfl
@[simp] theorem flp_append (a b : List Int) : flp (a ++ b) = flp a ++ flp b := by simp [flp]
@[simp] theorem flp_length (a : List Int) : (flp a).length = a.length := by simp [flp]
theorem flp_flp : ∀ a : List Int, flp (flp a) = a
  | [] => rfl
  | x :: a => by rw [flp_cons, flp_cons, flp_flp a]; congr 1; omega
theorem Dv.flp : ∀ {a b : List Int}, Dv a b → Dv (flp b) (flp a)
  | [], _, h => by simp [Dv] at h
  | _ :: _, [], h => by simp [Dv] at h
  | x :: a, y :: b, h => by
    rcases h with h | ⟨rfl, h⟩
    · exact .inl (by show 255 - y < 255 - x; omega)
    · exact .inr ⟨rfl, Dv.flp h⟩
theorem Dv.no_prefix : ∀ {a b : List Int} (u v : List Int), Dv a b → a ++ u ≠ b ++ v
  | [], _, _, _, h => by simp [Dv] at h
  | _ :: _, [], _, _, h => by simp [Dv] at h
  | x :: a, y :: b, u, v, h => by
    intro e
    simp only [List.cons_append, List.cons.injEq] at e
    rcases h with h | ⟨rfl, h⟩
    · omega
    · exact Dv.no_prefix u v h e.2
theorem Dv.ne {a b : List Int} (h : Dv a b) : a ≠ b := by
  have := h.no_prefix [] []
  simpa using this
theorem Dv.take {a b : List Int} (h : Dv a b) : b.take a.length ≠ a := by
  intro e
  have := h.no_prefix (b.drop a.length) []
  apply this
  conv => lhs; lhs; rw [← e]
  simp
theorem Dv.take' {a b : List Int} (h : Dv a b) : a.take b.length ≠ b := by
  intro e
  have := h.no_prefix [] (a.drop b.length)
  apply this
  conv => rhs; lhs; rw [← e]
  simp
theorem Dv.same : ∀ {a b : List Int}, a.length = b.length → HT.lexLt a b = true → Dv a b
  | [], [], _, h => by simp [HT.lexLt] at h
  | [], _ :: _, e, _ => by simp at e
  | _ :: _, [], e, _ => by simp at e
  | x :: a, y :: b, e, h => by
    rw [HT.lexLt_cons] at h
    by_cases q : x = y
    · rw [if_pos q] at h; exact .inr ⟨q, Dv.same (by simpa using e) h⟩
    · rw [if_neg q] at h; exact .inl (of_decide_eq_true h)
theorem Dv.or : ∀ {a b : List Int}, a.length = b.length → a ≠ b → Dv a b ∨ Dv b a
  | [], [], _, h => absurd rfl h
  | [], _ :: _, e, _ => by simp at e
  | _ :: _, [], e, _ => by simp at e
  | x :: a, y :: b, e, h => by
    by_cases q : x = y
    · subst q
      rcases Dv.or (a := a) (b := b) (by simpa using e) (fun z => h (by rw [z])) with z | z
      · exact .inl (.inr ⟨rfl, z⟩)
      · exact .inr (.inr ⟨rfl, z⟩)
    · by_cases l : x < y
      · exact .inl (.inl l)
      · exact .inr (.inl (by omega))
/-! ### digits -/
def dig : Nat → Nat → List Int
  | 0, _ => []
  | c + 1, v => dig c (v / 256) ++ [((v % 256 : Nat) : Int)]
@[simp] theorem dig_length : ∀ (c v : Nat), (dig c v).length = c
  | 0, _ => rfl
  | c + 1, v => by simp [dig, dig_length c]
theorem dig_by : ∀ (c v : Nat), ∀ b ∈ dig c v, 0 ≤ b ∧ b ≤ 255
  | 0, _ => by simp [dig]
  | c + 1, v => by
    intro b hb
    simp only [dig, List.mem_append, List.mem_singleton] at hb
    rcases hb with hb | rfl
    · exact dig_by c _ b hb
    · omega
theorem dig_dv : ∀ (c a b : Nat), a < b → b < 256 ^ c → Dv (dig c a) (dig c b)
  | 0, a, b, h, h2 => by simp at h2; omega
  | c + 1, a, b, h, h2 => by
    simp only [dig]
    have h3 : b / 256 < 256 ^ c := by
      rw [Nat.pow_succ] at h2
      exact Nat.div_lt_of_lt_mul (by rw [Nat.mul_comm]; exact h2)
    by_cases q : a / 256 < b / 256
    · exact (dig_dv c _ _ q h3).app _ _
    · have e : a / 256 = b / 256 := by omega
      rw [e]
      exact Dv.left _ (.inl (by omega))
/-- the number of bytes that an integer needs -/
def cntF : Nat → Nat → Nat
  | 0, _ => 0
  | f + 1, n => if n = 0 then 0 else cntF f (n / 256) + 1
theorem cntF_iff : ∀ (f n c : Nat), n < 256 ^ f → (256 ^ c ≤ n ↔ c < cntF f n)
  | 0, n, c, h => by
    simp at h
    subst h
    have : 0 < 256 ^ c := Nat.pow_pos (by decide)
    simp only [cntF]; omega
  | f + 1, n, c, h => by
    simp only [cntF]
    by_cases q : n = 0
    · subst q
      have : 0 < 256 ^ c := Nat.pow_pos (by decide)
      simp
    · rw [if_neg q]
      cases c with
      | zero => simp; omega
      | succ c =>
        have h3 : n / 256 < 256 ^ f := by
          rw [Nat.pow_succ] at h
          exact Nat.div_lt_of_lt_mul (by rw [Nat.mul_comm]; exact h)
        have ih := cntF_iff f (n / 256) c h3
        rw [Nat.pow_succ]
        rw [← Nat.le_div_iff_mul_le (by decide), ih]
        omega
def cnt (n : Nat) : Nat := cntF 8 n
theorem cnt_iff {n : Nat} (c : Nat) (h : n < 256 ^ 8) : 256 ^ c ≤ n ↔ c < cnt n := cntF_iff 8 n c h
theorem cntF_le : ∀ (f n : Nat), cntF f n ≤ f
  | 0, _ => by simp [cntF]
  | f + 1, n => by
    have := cntF_le f (n / 256)
    simp only [cntF]; split <;> omega
theorem cnt_le (n : Nat) : cnt n ≤ 8 := cntF_le 8 n
theorem lt_cnt {n : Nat} (h : n < 256 ^ 8) : n < 256 ^ cnt n := by
  have := (cnt_iff (cnt n) h)
  omega
theorem cnt_pos {n : Nat} (h : n < 256 ^ 8) (h0 : 0 < n) : 0 < cnt n := (cnt_iff 0 h).mp (by simp; omega)
theorem cnt_mono {a b : Nat} (h : a ≤ b) (hb : b < 256 ^ 8) : cnt a ≤ cnt b := by
  by_cases q : cnt b < cnt a
  · have h1 := (cnt_iff (cnt b) (show a < 256 ^ 8 by omega)).mpr q
    have h2 := lt_cnt hb
    omega
  · omega
theorem cnt_zero : cnt 0 = 0 := rfl
/-- as the law's own loop finds them -/
theorem dig_cntF : ∀ (f n : Nat), n ≠ 0 → dig (cntF (f + 1) n) n = dig (cntF f (n / 256)) (n / 256) ++ [((n % 256 : Nat) : Int)]
  | f, n, h => by simp only [cntF, if_neg h, dig]
def encI (i : Int) : List Int := if 0 ≤ i then (128 + (cnt i.natAbs : Int)) :: dig (cnt i.natAbs) i.natAbs else (128 - (cnt i.natAbs : Int)) :: flp (dig (cnt i.natAbs) i.natAbs)
theorem encI_dv {i j : Int} (h : i < j) (hi : i.natAbs < 256 ^ 8) (hj : j.natAbs < 256 ^ 8) : Dv (encI i) (encI j) := by
  unfold encI
  by_cases h0 : 0 ≤ i
  · rw [if_pos h0, if_pos (by omega)]
    have hl : i.natAbs < j.natAbs := by omega
    have hm := cnt_mono (Nat.le_of_lt hl) hj
    by_cases q : cnt i.natAbs = cnt j.natAbs
    · rw [q]
      exact .inr ⟨rfl, dig_dv _ _ _ hl (lt_cnt hj)⟩
    · exact .inl (by omega)
  · rw [if_neg h0]
    have hp := cnt_pos hi (by omega)
    by_cases h1 : 0 ≤ j
    · rw [if_pos h1]; exact .inl (by omega)
    · rw [if_neg h1]
      have hl : j.natAbs < i.natAbs := by omega
      have hm := cnt_mono (Nat.le_of_lt hl) hi
      by_cases q : cnt j.natAbs = cnt i.natAbs
      · rw [q]
        exact .inr ⟨rfl, (dig_dv _ _ _ hl (lt_cnt hi)).flp⟩
      · exact .inl (by omega)
theorem encI_len (i : Int) : (encI i).length = cnt i.natAbs + 1 := by unfold encI; split <;> simp
theorem encI_by (i : Int) : ∀ b ∈ encI i, 0 ≤ b ∧ b ≤ 255 := by
  have hc := cnt_le i.natAbs
  intro b hb
  unfold encI at hb
  split at hb
  · rcases List.mem_cons.mp hb with rfl | hb
    · omega
    · exact dig_by _ _ b hb
  · rcases List.mem_cons.mp hb with rfl | hb
    · omega
    · obtain ⟨x, hx, rfl⟩ := List.mem_map.mp hb
      have := dig_by _ _ x hx
      omega
/-! ### closed byte strings -/
def cl0 : List Int → List Int
  | [] => []
  | x :: b => (if x = 0 then [0, 255] else [x]) ++ cl0 b
def cl (b : List Int) : List Int := cl0 b ++ [0, 1]
theorem cl_cons (x : Int) (b : List Int) : cl (x :: b) = (if x = 0 then [0, 255] else [x]) ++ cl b := by simp [cl, cl0]
theorem cl0_append : ∀ (a b : List Int), cl0 (a ++ b) = cl0 a ++ cl0 b
  | [], b => rfl
  | x :: a, b => by simp [cl0, cl0_append a b]
theorem cl0_len : ∀ b : List Int, (cl0 b).length ≤ 2 * b.length
  | [] => by simp [cl0]
  | x :: b => by
    have := cl0_len b
    simp only [cl0, List.length_append, List.length_cons]
    split <;> simp <;> omega
theorem cl_len (b : List Int) : (cl b).length ≤ 2 * b.length + 2 := by
  have := cl0_len b
  simp [cl]; omega
theorem cl0_by : ∀ {b : List Int}, (∀ x ∈ b, 0 ≤ x ∧ x ≤ 255) → ∀ x ∈ cl0 b, 0 ≤ x ∧ x ≤ 255
  | [], _ => by simp [cl0]
  | y :: b, h => by
    intro x hx
    simp only [cl0, List.mem_append] at hx
    have hy := h y (by simp)
    rcases hx with hx | hx
    · split at hx <;> simp at hx <;> omega
    · exact cl0_by (fun z hz => h z (by simp [hz])) x hx
theorem cl_by {b : List Int} (h : ∀ x ∈ b, 0 ≤ x ∧ x ≤ 255) : ∀ x ∈ cl b, 0 ≤ x ∧ x ≤ 255 := by
  intro x hx
  simp only [cl, List.mem_append] at hx
  rcases hx with hx | hx
  · exact cl0_by h x hx
  · simp at hx; omega
theorem cl_dv : ∀ {a b : List Int}, (∀ x ∈ a, 0 ≤ x) → (∀ x ∈ b, 0 ≤ x) → HT.lexLt a b = true → Dv (cl a) (cl b)
  | [], [], _, _, h => by simp [HT.lexLt] at h
  | [], y :: b, _, hb, _ => by
    rw [cl_cons]
    by_cases q : y = 0
    · rw [if_pos q]; exact .inr ⟨rfl, .inl (by decide)⟩
    · have := hb y (by simp)
      rw [if_neg q]; exact .inl (by omega)
  | _ :: _, [], _, _, h => by simp [HT.lexLt] at h
  | x :: a, y :: b, ha, hb, h => by
    rw [HT.lexLt_cons] at h
    rw [cl_cons, cl_cons]
    by_cases q : x = y
    · subst q
      rw [if_pos rfl] at h
      exact Dv.left _ (cl_dv (fun z hz => ha z (by simp [hz])) (fun z hz => hb z (by simp [hz])) h)
    · rw [if_neg q] at h
      have l := of_decide_eq_true h
      have h1 := ha x (by simp)
      rw [if_neg (show ¬ y = 0 by omega)]
      by_cases q0 : x = 0
      · rw [if_pos q0]; exact .inl (by omega)
      · rw [if_neg q0]; exact .inl (by omega)
end KB
namespace KB
open PySem PySem.Spec PyProof.Rows L2
/-! ### kinds, fields, values -/
inductive Kd where
  | int | f1 | f2 | f3 | f4 | l1 | l2 | l3 | l4 | raw | closed | counted
  deriving DecidableEq
inductive Nl where
  | none | first | last
  deriving DecidableEq
def Kd.s : Kd → Str
  | .int => "int" | .f1 => "fixed1" | .f2 => "fixed2" | .f3 => "fixed3" | .f4 => "fixed4" | .l1 => "little1" | .l2 => "little2" | .l3 => "little3" | .l4 => "little4" | .raw => "raw" | .closed => "closed" | .counted => "counted"
def Nl.s : Nl → Str
  | .none => "none" | .first => "first" | .last => "last"
def dS : Bool → Str
  | true => "desc" | false => "asc"
def Kd.size : Kd → Nat
  | .f1 => 1 | .f2 => 2 | .f3 => 3 | .f4 => 4 | .l1 => 1 | .l2 => 2 | .l3 => 3 | .l4 => 4 | _ => 0
def Kd.sized : Kd → Bool
  | .f1 => true | .f2 => true | .f3 => true | .f4 => true | .l1 => true | .l2 => true | .l3 => true | .l4 => true | _ => false
def Kd.fix : Kd → Bool
  | .f1 => true | .f2 => true | .f3 => true | .f4 => true | _ => false
def Kd.lit : Kd → Bool
  | .l1 => true | .l2 => true | .l3 => true | .l4 => true | _ => false
def Kd.byt : Kd → Bool
  | .raw => true | .closed => true | .counted => true | _ => false
def Kd.lim : Kd → Nat
  | .raw => 40 | .closed => 40 | .counted => 9 | _ => 0
theorem Kd.split (k : Kd) : k = .int ∨ (k.sized = true ∧ k.byt = false ∧ k ≠ .int ∧ 0 < k.size ∧ k.size ≤ 4 ∧ k.lit = !k.fix) ∨ (k.byt = true ∧ k.sized = false ∧ k ≠ .int ∧ k.fix = false ∧ k.lit = false) := by cases k <;> decide
structure Fd where
  k : Kd
  d : Bool
  n : Nl
  deriving DecidableEq
def Fd.dd (f : Fd) : D := .tup [.str f.k.s, .str (dS f.d), .str f.n.s]
inductive Vl where
  | non | num (i : Int) | byt (b : List Int)
  deriving DecidableEq
def Vl.dd : Vl → D
  | .non => .non | .num i => .int i | .byt b => bs b
@[simp] theorem dd_non : Vl.non.dd = .non := rfl
@[simp] theorem dd_num (i : Int) : (Vl.num i).dd = .int i := rfl
@[simp] theorem dd_byt (b : List Int) : (Vl.byt b).dd = bs b := rfl
def pw (c : Nat) : Int := 256 ^ c
theorem pw_zero : pw 0 = 1 := Int.pow_zero _
theorem pw_succ (c : Nat) : pw (c + 1) = pw c * 256 := Int.pow_succ ..
theorem pw_eq (c : Nat) : pw c = 256 ^ c := rfl
theorem pw_nat (c : Nat) : pw c = ((256 ^ c : Nat) : Int) := by rw [pw_eq, Int.natCast_pow]; rfl
def okV (f : Fd) : Vl → Prop
  | .non => f.n ≠ .none
  | .num i => (f.k = .int ∧ i.natAbs < 256 ^ 8) ∨ (f.k.sized = true ∧ 0 ≤ i ∧ i < pw f.k.size)
  | .byt b => f.k.byt = true ∧ By b ∧ b.length ≤ f.k.lim
inductive F2 {α β : Type} (P : α → β → Prop) : List α → List β → Prop
  | nil : F2 P [] []
  | cons {a : α} {b : β} {as : List α} {bs : List β} : P a b → F2 P as bs → F2 P (a :: as) (b :: bs)
theorem F2.length {α β : Type} {P : α → β → Prop} {as : List α} {bs : List β} (h : F2 P as bs) : as.length = bs.length := by
  induction h with
  | nil => rfl
  | cons _ _ ih => simp [ih]
theorem F2.get {α β : Type} {P : α → β → Prop} {as : List α} {bs : List β} (h : F2 P as bs) : ∀ {i : Nat} {a : α}, as[i]? = some a → ∃ b, bs[i]? = some b ∧ P a b := by
  induction h with
  | nil => intro i a e; simp at e
  | cons h1 h2 ih =>
    intro i a e
    cases i with
    | zero => simp at e; subst e; exact ⟨_, rfl, h1⟩
    | succ i => exact ih (by simpa using e)
theorem F2.take {α β : Type} {P : α → β → Prop} {as : List α} {bs : List β} (h : F2 P as bs) : ∀ (n : Nat), F2 P (as.take n) (bs.take n) := by
  induction h with
  | nil => intro n; simp; exact .nil
  | cons h1 h2 ih =>
    intro n
    cases n with
    | zero => exact .nil
    | succ n => exact .cons h1 (ih n)
theorem F2.drop {α β : Type} {P : α → β → Prop} {as : List α} {bs : List β} (h : F2 P as bs) : ∀ (n : Nat), F2 P (as.drop n) (bs.drop n) := by
  induction h with
  | nil => intro n; simp; exact .nil
  | cons h1 h2 ih =>
    intro n
    cases n with
    | zero => exact .cons h1 h2
    | succ n => exact ih n
theorem F2.append {α β : Type} {P : α → β → Prop} {as as' : List α} {bs bs' : List β} (h : F2 P as bs) (h' : F2 P as' bs') : F2 P (as ++ as') (bs ++ bs') := by
  induction h with
  | nil => exact h'
  | cons h1 h2 ih => exact .cons h1 ih
theorem F2.imp {α β : Type} {P Q : α → β → Prop} {as : List α} {bs : List β} (h : F2 P as bs) (i : ∀ a b, a ∈ as → P a b → Q a b) : F2 Q as bs := by
  induction h with
  | nil => exact .nil
  | cons h1 h2 ih => exact .cons (i _ _ (by simp) h1) (ih fun a b ha => i a b (by simp [ha]))
/-! ### texts -/
@[simp] theorem dEqv_str (a b : Str) : dEqv (.str a) (.str b) = decide (a = b) := by
  simp only [dEqv, toP, PyData.eqv]
  by_cases h : a = b <;> simp [h]
theorem okD_str (k : Nat) {i : Str} (h : PyData.strOk i = true) : okD k (.str i) := ⟨by simp [toP, PyData.canLay0, h], by simp [toP, PyData.depth]⟩
@[simp] theorem shp_str (i : Str) : shp (.str i) = PyData.strOk i := by
  simp [shp, SeqAt.shaped, toP, PyData.canLay0, PyData.depth]
@[simp] theorem ok_ks (k : Kd) : PyData.strOk k.s = true := by cases k <;> decide +kernel
@[simp] theorem ok_ds (k : Bool) : PyData.strOk (dS k) = true := by cases k <;> decide +kernel
@[simp] theorem ok_ns (k : Nl) : PyData.strOk k.s = true := by cases k <;> decide +kernel
@[simp] theorem ok_l0 : PyData.strOk ("int" : Str) = true := by decide +kernel
@[simp] theorem ok_l1 : PyData.strOk ("raw" : Str) = true := by decide +kernel
@[simp] theorem ok_l2 : PyData.strOk ("closed" : Str) = true := by decide +kernel
@[simp] theorem ok_l3 : PyData.strOk ("counted" : Str) = true := by decide +kernel
@[simp] theorem ok_l4 : PyData.strOk ("little1" : Str) = true := by decide +kernel
@[simp] theorem ok_l5 : PyData.strOk ("desc" : Str) = true := by decide +kernel
@[simp] theorem ok_l6 : PyData.strOk ("asc" : Str) = true := by decide +kernel
@[simp] theorem ok_l7 : PyData.strOk ("none" : Str) = true := by decide +kernel
@[simp] theorem ok_l8 : PyData.strOk ("first" : Str) = true := by decide +kernel
@[simp] theorem ok_l9 : PyData.strOk ("last" : Str) = true := by decide +kernel
@[simp] theorem ok_l10 : PyData.strOk ("fixed" : Str) = true := by decide +kernel
@[simp] theorem ok_l11 : PyData.strOk ("little" : Str) = true := by decide +kernel
theorem s_dec {a b : Str} {p : Prop} [Decidable p] (h : decide (a = b) = decide p) : (a = b) ↔ p := by
  by_cases q : p
  · simp [q] at h; simp [q, h]
  · simp [q] at h; simp [q, h]
@[simp] theorem ks_int (k : Kd) : (k.s = ("int" : Str)) ↔ k = .int := s_dec (by cases k <;> decide +kernel)
@[simp] theorem ks_raw (k : Kd) : (k.s = ("raw" : Str)) ↔ k = .raw := s_dec (by cases k <;> decide +kernel)
@[simp] theorem ks_closed (k : Kd) : (k.s = ("closed" : Str)) ↔ k = .closed := s_dec (by cases k <;> decide +kernel)
@[simp] theorem ks_counted (k : Kd) : (k.s = ("counted" : Str)) ↔ k = .counted := s_dec (by cases k <;> decide +kernel)
@[simp] theorem ks_little1 (k : Kd) : (k.s = ("little1" : Str)) ↔ k = .l1 := s_dec (by cases k <;> decide +kernel)
@[simp] theorem ds_desc (b : Bool) : (dS b = ("desc" : Str)) ↔ b = true := s_dec (by cases b <;> decide +kernel)
@[simp] theorem ds_asc (b : Bool) : (dS b = ("asc" : Str)) ↔ b = false := s_dec (by cases b <;> decide +kernel)
@[simp] theorem ns_none (n : Nl) : (n.s = ("none" : Str)) ↔ n = .none := s_dec (by cases n <;> decide +kernel)
@[simp] theorem ns_first (n : Nl) : (n.s = ("first" : Str)) ↔ n = .first := s_dec (by cases n <;> decide +kernel)
@[simp] theorem ns_last (n : Nl) : (n.s = ("last" : Str)) ↔ n = .last := s_dec (by cases n <;> decide +kernel)
@[simp] theorem lk_sizes (k : Kd) : (tab_SIZES.lookup k.s) = if k.sized then some (k.size : Int) else none := by cases k <;> decide +kernel
@[simp] theorem lk_lengths (k : Kd) : (tab_LENGTHS.lookup k.s) = if k.byt then some (k.lim : Int) else none := by cases k <;> decide +kernel
@[simp] theorem lk_marks (n : Nl) : (tab_MARKS.lookup n.s) = if n = .none then none else some (if n = .first then 0 else 2) := by cases n <;> decide +kernel
@[simp] theorem fInTab_str (t : List (Str × Int)) (z : Str) (M : List MO) : fInTab t (.str z) M = .ok (.bl (t.lookup z).isSome) M := rfl
@[simp] theorem fInNotTab_str (t : List (Str × Int)) (z : Str) (M : List MO) : fInNotTab t (.str z) M = .ok (.bl (!(t.lookup z).isSome)) M := rfl
@[simp] theorem fTab_str (t : List (Str × Int)) (z : Str) (M : List MO) : fTab t (.str z) M = match t.lookup z with
    | some i => .ok (.int i) M
    | none => .stuck := rfl
theorem in_dirs (b : Bool) (M : List MO) : fIn (.str (dS b)) (.tup [.str "asc", .str "desc"]) M = .ok (.bl true) M := by
  have : inV (dV (.str (dS b))) ([D.str "asc", .str "desc"].map dV) = true := by cases b <;> decide +kernel
  simp only [fIn, fInB, res_tup, flatD, List.all_cons, List.all_nil, Bool.and_self, if_true, this]
theorem in_nulls (n : Nl) (M : List MO) : fIn (.str n.s) (.tup [.str "none", .str "first", .str "last"]) M = .ok (.bl true) M := by
  have : inV (dV (.str n.s)) ([D.str "none", .str "first", .str "last"].map dV) = true := by cases n <;> decide +kernel
  simp only [fIn, fInB, res_tup, flatD, List.all_cons, List.all_nil, Bool.and_self, if_true, this]
theorem in_bytes (k : Kd) (M : List MO) : fIn (.str k.s) (.tup [.str "raw", .str "closed", .str "counted"]) M = .ok (.bl k.byt) M := by
  have : inV (dV (.str k.s)) ([D.str "raw", .str "closed", .str "counted"].map dV) = k.byt := by cases k <;> decide +kernel
  simp only [fIn, fInB, res_tup, flatD, List.all_cons, List.all_nil, Bool.and_self, if_true, this]
theorem st_fixed (k : Kd) (M : List MO) : fStarts (.str k.s) [.str "fixed"] M = .ok (.bl k.fix) M := by
  have : Txt.startswith k.s "fixed" = k.fix := by cases k <;> decide +kernel
  simp only [fStarts, this]
theorem st_little (k : Kd) (M : List MO) : fStarts (.str k.s) [.str "little"] M = .ok (.bl k.lit) M := by
  have : Txt.startswith k.s "little" = k.lit := by cases k <;> decide +kernel
  simp only [fStarts, this]
@[simp] theorem ckS_str (a : Str) (M : List MO) : ckS (.str a) M = true := rfl
@[simp] theorem le_big4 : 4 ≤ big := by decide
@[simp] theorem le_big5 : 5 ≤ big := by decide
@[simp] theorem le_big6 : 6 ≤ big := by decide
@[simp] theorem le_big7 : 7 ≤ big := by decide
@[simp] theorem le_big8 : 8 ≤ big := by decide
@[simp] theorem le_big9 : 9 ≤ big := by decide
@[simp] theorem le_big10 : 10 ≤ big := by decide
@[simp] theorem le_big11 : 11 ≤ big := by decide
@[simp] theorem le_big12 : 12 ≤ big := by decide
theorem Fd_len (f : Fd) : ∃ a b c, f.dd = .tup [a, b, c] := ⟨_, _, _, rfl⟩
/-! ### is_field, is_scheme -/
theorem field_parts (a b c : Str) (M : List MO) : compL (gN 4) eYes (eUn (fIsi "str") (eVar 4)) [some (D.tup [.str a, .str b, .str c]), none, none, none, none] [.str a, .str b, .str c] [] M = .ok [.bl true, .bl true, .bl true] M := by
  have key := compL_map (c := fun x : Str => D.str x) (g := gN 4) (el := eUn (fIsi "str") (eVar 4)) (e := [some (D.tup [.str a, .str b, .str c]), none, none, none, none]) (M := M) (fun _ => .bl true) [a, b, c] (by simp) (fun b hb => ⟨_, rfl, by simp⟩)
  simpa using key
theorem all_three (M : List MO) : fAll [.lst [.bl true, .bl true, .bl true]] M = .ok (.bl true) M := fAll_bls M [true, true, true]
theorem is_field_eq (f : Fd) (M : List MO) : m_is_field [f.dd] M = .ok (.bl true) M := by
  obtain ⟨k, d, n⟩ := f
  simp only [m_is_field, mOf, sv_is_field, startE, Fd.dd]
  rcases k.split with h | h | h
  · subst h
    simp [wipeE, field_parts, all_three, fNe, fEq, in_dirs, in_nulls]
  · simp [wipeE, field_parts, all_three, fNe, fEq, h, in_dirs, in_nulls]
  · simp [wipeE, field_parts, all_three, fNe, fEq, h, in_dirs, in_nulls]
/-- a scheme as data -/
def sch (fs : List Fd) : D := .tup (fs.map Fd.dd)
def rowd (vs : List Vl) : D := .tup (vs.map Vl.dd)
theorem is_scheme_eq {fs : List Fd} (h1 : 1 ≤ fs.length) (h2 : fs.length ≤ 4) (M : List MO) : m_is_scheme [sch fs] M = .ok (.bl true) M := by
  have key := compL_map (c := Fd.dd) (g := gN 1) (el := eArgs m_is_field (eCons (eVar 1) eNil)) (e := [some (sch fs), none]) (M := M) (fun _ => .bl true) fs (by unfold big; omega) (fun b hb => ⟨_, rfl, by simp [is_field_eq]⟩)
  have e : fs.map (fun _ => D.bl true) = (fs.map fun _ => true).map D.bl := by simp
  rw [e] at key
  have h3 : (1 : Int) ≤ (fs.length : Int) := by omega
  have h4 : (fs.length : Int) ≤ 4 := by omega
  simp only [m_is_scheme, mOf, sv_is_scheme, startE]
  simp only [sch] at key ⊢
  simp [h3, h4, wipeE, key]
  have := fAll_bls M (fs.map fun _ => true)
  simp only [List.map_map] at this
  first | (rw [List.map_map]; rw [this]; simp) | simp_all
theorem check_scheme_eq {fs : List Fd} (h1 : 1 ≤ fs.length) (h2 : fs.length ≤ 4) (M : List MO) : m_check_scheme [sch fs] M = .ok .non M := by
  simp [m_check_scheme, mOf, sv_check_scheme, startE, is_scheme_eq h1 h2]
end KB
namespace KB
open PySem PySem.Spec PyProof.Rows L2
/-! ### powers -/
theorem cMul_256 (z : Int) : cMul z 256 = true := by unfold cMul; rw [w64_lt (i := 256) (by decide) (by decide), Bool.or_true]
theorem rangeD_at {lo : Int} {n j : Nat} {d : D} (h : (rangeD lo n)[j]? = some d) : j < n ∧ d = .int (lo + (j : Nat)) := by
  have hj := (List.getElem?_eq_some_iff.mp h).1
  simp [rangeD] at hj
  unfold rangeD at h
  rw [List.getElem?_map, List.getElem?_range hj] at h
  simp at h
  exact ⟨hj, h.symm⟩
theorem power_step (c p : Int) (j : Nat) (M : List MO) : (sAug 1 fIMul (eC (.int 256))) [some (.int c), some (.int p), some (.int (0 + (j : Nat)))] M = .nx [some (.int c), some (.int (p * 256)), some (.int (0 + (j : Nat)))] M := by
  have hm := cMul_256 p
  simp [hm]
theorem power_eq (c : Nat) (hc : c ≤ 1000) (M : List MO) : m_power [.int (c : Int)] M = .ok (.int (pw c)) M := by
  obtain ⟨e', M', f1, o, rfl, rfl⟩ := forL_ix (g := gN 2) (b := sAug 1 fIMul (eC (.int 256))) (fun i e M' => ∃ o, e = [some (.int (c : Int)), some (.int (pw i)), o] ∧ M' = M) (rangeD 0 c) 0 [some (.int (c : Int)), some (.int 1), none] M ⟨none, by rw [pw_zero], rfl⟩ (fun j d hd e M' hI => by
    obtain ⟨hj, rfl⟩ := rangeD_at hd
    obtain ⟨o, rfl, rfl⟩ := hI
    exact ⟨_, _, _, rfl, .inl (power_step _ _ _ _), some (.int (0 + (j : Nat))), by rw [pw_succ], rfl⟩)
  have hr : rgOk (c : Int) = true := decide_eq_true (by omega)
  rw [rangeD_length, Nat.zero_add] at f1
  simp [m_power, mOf, sv_power, startE, hr, f1]
theorem law_power_step (c p : Int) (j : Nat) (M : List MO) : (sSet 1 (eBin fMul (eVar 1) (eC (.int 256)))) [some (.int c), some (.int p), some (.int (0 + (j : Nat)))] M = .nx [some (.int c), some (.int (p * 256)), some (.int (0 + (j : Nat)))] M := by
  have hm := cMul_256 p
  simp [hm]
theorem law_power_eq (c : Nat) (hc : c ≤ 1000) (M : List MO) : m__law_power [.int (c : Int)] M = .ok (.int (pw c)) M := by
  obtain ⟨e', M', f1, o, rfl, rfl⟩ := forL_ix (g := gN 2) (b := sSet 1 (eBin fMul (eVar 1) (eC (.int 256)))) (fun i e M' => ∃ o, e = [some (.int (c : Int)), some (.int (pw i)), o] ∧ M' = M) (rangeD 0 c) 0 [some (.int (c : Int)), some (.int 1), none] M ⟨none, by rw [pw_zero], rfl⟩ (fun j d hd e M' hI => by
    obtain ⟨hj, rfl⟩ := rangeD_at hd
    obtain ⟨o, rfl, rfl⟩ := hI
    exact ⟨_, _, _, rfl, .inl (law_power_step _ _ _ _), some (.int (0 + (j : Nat))), by rw [pw_succ], rfl⟩)
  have hr : rgOk (c : Int) = true := decide_eq_true (by omega)
  rw [rangeD_length, Nat.zero_add] at f1
  simp [m__law_power, mOf, sv__law_power, startE, hr, f1]
/-! ### is_value, is_row -/
def isV (f : Fd) : Vl → Bool
  | .non => decide (f.n ≠ .none)
  | .num i => if f.k = .int then decide (-18446744073709551615 ≤ i) && decide (i ≤ 18446744073709551615) else if f.k.sized then decide (0 ≤ i) && decide (i ≤ pw f.k.size - 1) else false
  | .byt b => if f.k.byt then (decide (b.length ≤ 400) && b.all fun x => decide (0 ≤ x) && decide (x ≤ 255)) && decide (b.length ≤ f.k.lim) else false
theorem is_int_non (lo hi : D) (M : List MO) : m_is_int [.non, lo, hi] M = .ok (.bl false) M := by
  simp [m_is_int, mOf, sv_is_int, startE]
theorem is_int_bs (b : List Int) (lo hi : D) (M : List MO) : m_is_int [bs b, lo, hi] M = .ok (.bl false) M := by
  simp [m_is_int, mOf, sv_is_int, startE, bs]
theorem is_bytes_int (i : Int) (M : List MO) : m_is_bytes [.int i] M = .ok (.bl false) M := by
  simp [m_is_bytes, mOf, sv_is_bytes, startE]
theorem is_value_gen (f : Fd) (v : Vl) (M : List MO) : m_is_value [f.dd, v.dd] M = .ok (.bl (isV f v)) M := by
  obtain ⟨k, d, n⟩ := f
  simp only [m_is_value, mOf, sv_is_value, startE, Fd.dd]
  have hk : k.size ≤ 1000 := by cases k <;> decide
  cases v with
  | non => simp [isV, fNe]
  | num i =>
    rcases k.split with h | h | h
    · subst h
      simp [isV, fEq, is_int_eq]
    · simp [isV, fEq, h, is_int_eq, power_eq k.size hk]
    · simp [isV, fEq, h, is_bytes_int]
  | byt b =>
    rcases k.split with h | h | h
    · subst h
      simp [isV, fEq, is_int_bs, Kd.byt]
    · simp [isV, fEq, h, is_int_bs, power_eq k.size hk]
    · simp only [isV, h, if_true]
      generalize hq : (decide (b.length ≤ 400) && b.all fun x => decide (0 ≤ x) && decide (x ≤ 255)) = q
      have hq' := is_bytes_gen b M
      rw [hq] at hq'
      cases q <;> simp [fEq, h, hq']
theorem isV_ok {f : Fd} {v : Vl} (h : okV f v) : isV f v = true := by
  obtain ⟨k, d, n⟩ := f
  cases v with
  | non => simp [okV] at h; simp [isV, h]
  | num i =>
    simp only [okV] at h
    rcases h with ⟨rfl, h⟩ | ⟨h1, h2, h3⟩
    · simp [isV]; omega
    · have h4 : k ≠ .int := by rintro rfl; cases h1
      simp [isV, h1, h4]; omega
  | byt b =>
    simp only [okV] at h
    obtain ⟨h1, h2, h3⟩ := h
    have h4 : k.lim ≤ 40 := by cases k <;> decide
    simp only [isV, h1, if_true, Bool.and_eq_true, decide_eq_true_eq, List.all_eq_true]
    exact ⟨⟨by omega, fun x hx => h2 x hx⟩, h3⟩
theorem ok_isV {f : Fd} {v : Vl} (h : isV f v = true) : okV f v := by
  obtain ⟨k, d, n⟩ := f
  cases v with
  | non => simpa [isV, okV] using h
  | num i =>
    simp only [isV, okV] at h ⊢
    by_cases h1 : k = .int
    · subst h1
      simp at h
      exact .inl ⟨rfl, by omega⟩
    · by_cases h2 : k.sized = true
      · simp [h1, h2] at h
        exact .inr ⟨h2, by omega, by omega⟩
      · simp [h1, h2] at h
  | byt b =>
    simp only [isV, okV] at h ⊢
    by_cases h1 : k.byt = true
    · simp only [h1, if_true, Bool.and_eq_true, decide_eq_true_eq, List.all_eq_true] at h
      exact ⟨h1, fun x hx => h.1.2 x hx, h.2⟩
    · simp [h1] at h
theorem is_value_eq {f : Fd} {v : Vl} (h : okV f v) (M : List MO) : m_is_value [f.dd, v.dd] M = .ok (.bl true) M := by
  rw [is_value_gen, isV_ok h]
def okR (fs : List Fd) (vs : List Vl) : Prop := F2 okV fs vs
theorem compL_zip {g : GV} {el : EV} {e : EN} {M : List MO} {fs : List Fd} {vs : List Vl} (h : F2 (fun f v => ∃ e1, g (.tup [f.dd, v.dd]) e = some e1 ∧ el e1 M = .ok (.bl true) M) fs vs) : ∀ (acc : List D), acc.length + fs.length ≤ big → compL g eYes el e (zipD (fs.map Fd.dd) (vs.map Vl.dd)) acc M = .ok (acc ++ List.replicate fs.length (.bl true)) M := by
  induction h with
  | nil => intro acc _; simp [zipD, compL]
  | cons h1 h2 ih =>
    intro acc hl
    obtain ⟨e1, q1, q2⟩ := h1
    have hb : acc.length < big := by simp at hl; omega
    simp only [List.map_cons, zipD, compL, q1, ev_yes, R.nox_ok, if_true, q2, hb]
    rw [ih (acc ++ [D.bl true]) (by simp at hl ⊢; omega)]
    simp [List.replicate_succ]
theorem fAll_rep (n : Nat) (M : List MO) : fAll [.lst (List.replicate n (.bl true))] M = .ok (.bl true) M := by
  have := fAll_bls M (List.replicate n true)
  simp only [List.map_replicate] at this
  rw [this]
  simp
@[simp] theorem ev_zip2 (ea : EA) (e : EN) (M : List MO) : eZip2 ea e M = (ea e M).bind fun ds M1 => match ds with
  | [.lst a, .lst b] => .ok (.snap (zipD a b)) M1
  | [.tup a, .tup b] => .ok (.snap (zipD a b)) M1
  | _ => .stuck := rfl
theorem is_row_eq {fs : List Fd} {vs : List Vl} (h : okR fs vs) (hl : fs.length ≤ 4) (M : List MO) : m_is_row [sch fs, rowd vs] M = .ok (.bl true) M := by
  have key := compL_zip (g := gT [2, 3]) (el := eArgs m_is_value (eCons (eVar 2) (eCons (eVar 3) eNil))) (e := [some (sch fs), some (rowd vs), none, none]) (M := M) (h.imp fun f v _ q => ⟨_, rfl, by simp [is_value_eq q]⟩) [] (by unfold big; simp; omega)
  have hlen := F2.length h
  simp only [sch, rowd] at key ⊢
  simp only [m_is_row, mOf, sv_is_row, startE]
  simp [hlen, fNe, wipeE]
  simp only [hlen] at key
  simp [key, fAll_rep]
theorem check_row_eq {fs : List Fd} {vs : List Vl} (h : okR fs vs) (hl : fs.length ≤ 4) (M : List MO) : m_check_row [sch fs, rowd vs] M = .ok .non M := by
  simp [m_check_row, mOf, sv_check_row, startE, is_row_eq h hl]
end KB
namespace KB
open PySem PySem.Spec PyProof.Rows L2
/-! ### draws of fields, values, rows -/
theorem compL_drawT {α β : Type} {c : α → D} {c' : β → D} {g : GV} {el : EV} {e : EN} {Rm : List MO} {P : α → β → Prop} : ∀ (xs : List α) (acc : List D) (s : DS), acc.length + xs.length ≤ big → (∀ x ∈ xs, ∀ s, ∃ e1 y s', g (c x) e = some e1 ∧ el e1 (DM s Rm) = .ok (c' y) (DM s' Rm) ∧ P x y) →
    ∃ ys s', compL g eYes el e (xs.map c) acc (DM s Rm) = .ok (acc ++ ys.map c') (DM s' Rm) ∧ F2 P xs ys
  | [], acc, s, _, _ => ⟨[], s, by simp [compL], .nil⟩
  | d :: ds, acc, s, hl, h => by
    obtain ⟨e1, y, s1, h1, h2, h3⟩ := h d (by simp) s
    have hb : acc.length < big := by simp at hl; omega
    obtain ⟨ys, s2, h4, h5⟩ := compL_drawT ds (acc ++ [c' y]) s1 (by simp at hl ⊢; omega) fun x hx => h x (by simp [hx])
    refine ⟨y :: ys, s2, ?_, .cons h3 h5⟩
    simp only [List.map_cons, compL, h1, eYes, R.nox_ok, if_true, h2, hb]
    rw [h4]
    simp
theorem F2.all_right {α β : Type} {Q : β → Prop} {as : List α} {bs : List β} (h : F2 (fun _ b => Q b) as bs) : ∀ b ∈ bs, Q b := by
  induction h with
  | nil => simp
  | cons h1 h2 ih => intro b hb; rcases List.mem_cons.mp hb with rfl | hb; exact h1; exact ih b hb
theorem range_of (n : Nat) : rangeD 0 n = (List.range n).map fun i => D.int (0 + (i : Nat)) := rfl
theorem fx_str (r : Int) (h0 : 0 ≤ r) (h1 : r < 4) (M : List MO) : ∃ k : Kd, (fStrI [.int (1 + r)] M).bind (fun x M1 => fAdd (.str "fixed") x M1) = .ok (.str k.s) M ∧ k.fix = true := by
  have : r = 0 ∨ r = 1 ∨ r = 2 ∨ r = 3 := by omega
  have q1 : (("fixed" : Str) ++ (Str.ofString (toString (1 : Int)))) = Kd.f1.s := by decide +kernel
  have q2 : (("fixed" : Str) ++ (Str.ofString (toString (2 : Int)))) = Kd.f2.s := by decide +kernel
  have q3 : (("fixed" : Str) ++ (Str.ofString (toString (3 : Int)))) = Kd.f3.s := by decide +kernel
  have q4 : (("fixed" : Str) ++ (Str.ofString (toString (4 : Int)))) = Kd.f4.s := by decide +kernel
  have l1 : ("fixed" : Str).length + (Str.ofString (toString (1 : Int))).length ≤ big := by decide +kernel
  have l2 : ("fixed" : Str).length + (Str.ofString (toString (2 : Int))).length ≤ big := by decide +kernel
  have l3 : ("fixed" : Str).length + (Str.ofString (toString (3 : Int))).length ≤ big := by decide +kernel
  have l4 : ("fixed" : Str).length + (Str.ofString (toString (4 : Int))).length ≤ big := by decide +kernel
  rcases this with rfl | rfl | rfl | rfl
  · exact ⟨.f1, by rw [show (1 : Int) + 0 = 1 from rfl]; simp only [fStrI]; rw [if_pos (by decide)]; simp only [R.bind_ok, fAdd_str]; rw [if_pos l1, q1], rfl⟩
  · exact ⟨.f2, by rw [show (1 : Int) + 1 = 2 from rfl]; simp only [fStrI]; rw [if_pos (by decide)]; simp only [R.bind_ok, fAdd_str]; rw [if_pos l2, q2], rfl⟩
  · exact ⟨.f3, by rw [show (1 : Int) + 2 = 3 from rfl]; simp only [fStrI]; rw [if_pos (by decide)]; simp only [R.bind_ok, fAdd_str]; rw [if_pos l3, q3], rfl⟩
  · exact ⟨.f4, by rw [show (1 : Int) + 3 = 4 from rfl]; simp only [fStrI]; rw [if_pos (by decide)]; simp only [R.bind_ok, fAdd_str]; rw [if_pos l4, q4], rfl⟩
theorem li_str (r : Int) (h0 : 0 ≤ r) (h1 : r < 4) (M : List MO) : ∃ k : Kd, (fStrI [.int (1 + r)] M).bind (fun x M1 => fAdd (.str "little") x M1) = .ok (.str k.s) M ∧ k.lit = true := by
  have : r = 0 ∨ r = 1 ∨ r = 2 ∨ r = 3 := by omega
  have q1 : (("little" : Str) ++ (Str.ofString (toString (1 : Int)))) = Kd.l1.s := by decide +kernel
  have q2 : (("little" : Str) ++ (Str.ofString (toString (2 : Int)))) = Kd.l2.s := by decide +kernel
  have q3 : (("little" : Str) ++ (Str.ofString (toString (3 : Int)))) = Kd.l3.s := by decide +kernel
  have q4 : (("little" : Str) ++ (Str.ofString (toString (4 : Int)))) = Kd.l4.s := by decide +kernel
  have l1 : ("little" : Str).length + (Str.ofString (toString (1 : Int))).length ≤ big := by decide +kernel
  have l2 : ("little" : Str).length + (Str.ofString (toString (2 : Int))).length ≤ big := by decide +kernel
  have l3 : ("little" : Str).length + (Str.ofString (toString (3 : Int))).length ≤ big := by decide +kernel
  have l4 : ("little" : Str).length + (Str.ofString (toString (4 : Int))).length ≤ big := by decide +kernel
  rcases this with rfl | rfl | rfl | rfl
  · exact ⟨.l1, by rw [show (1 : Int) + 0 = 1 from rfl]; simp only [fStrI]; rw [if_pos (by decide)]; simp only [R.bind_ok, fAdd_str]; rw [if_pos l1, q1], rfl⟩
  · exact ⟨.l2, by rw [show (1 : Int) + 1 = 2 from rfl]; simp only [fStrI]; rw [if_pos (by decide)]; simp only [R.bind_ok, fAdd_str]; rw [if_pos l2, q2], rfl⟩
  · exact ⟨.l3, by rw [show (1 : Int) + 2 = 3 from rfl]; simp only [fStrI]; rw [if_pos (by decide)]; simp only [R.bind_ok, fAdd_str]; rw [if_pos l3, q3], rfl⟩
  · exact ⟨.l4, by rw [show (1 : Int) + 3 = 4 from rfl]; simp only [fStrI]; rw [if_pos (by decide)]; simp only [R.bind_ok, fAdd_str]; rw [if_pos l4, q4], rfl⟩
theorem beq_sym (a b : Str) : (a == b) = (b == a) := by
  by_cases h : a = b
  · rw [h]
  · rw [beq_eq_false_iff_ne.mpr h, beq_eq_false_iff_ne.mpr (Ne.symm h)]
theorem in_fl (a : Str) (b : Bool) (h : (a == ("fixed" : Str) || a == ("little" : Str)) = b) (M : List MO) : fIn (.str a) (.tup [.str "fixed", .str "little"]) M = .ok (.bl b) M := by
  have e : ∀ (x y : Str), eqV (.str x) (.str y) = (x == y) := fun x y => rfl
  have : inV (dV (.str a)) ([D.str "fixed", .str "little"].map dV) = b := by
    rw [← h]
    simp only [inV, List.map_cons, List.map_nil, dV, List.any_cons, List.any_nil, Bool.or_false, e]
    rw [beq_sym "fixed" a, beq_sym "little" a]
  simp only [fIn, fInB, res_tup, flatD, List.all_cons, List.all_nil, Bool.and_self, if_true, this]
/-- the drawn kind -/
theorem kind_eq (s : DS) (Rm : List MO) : ∃ x s', m__law_kind [.cell 1] (DM s Rm) = .ok (.str x) (DM s' Rm) ∧ (x = "fixed" ∨ x = "little" ∨ ∃ k : Kd, x = k.s ∧ (k = .int ∨ k.byt = true)) := by
  obtain ⟨x, s', e, hx⟩ := pick_eq s [.str "int", .str "fixed", .str "fixed", .str "little", .str "raw", .str "closed", .str "closed", .str "counted"] (by simp) (by simp) Rm
  have e2 : m__law_kind [.cell 1] (DM s Rm) = .ok x (DM s' Rm) := by
    simp [m__law_kind, mOf, sv__law_kind, startE, e]
  simp only [List.mem_cons, List.not_mem_nil, or_false] at hx
  rcases hx with rfl | rfl | rfl | rfl | rfl | rfl | rfl | rfl
  · exact ⟨_, s', e2, .inr (.inr ⟨.int, rfl, .inl rfl⟩)⟩
  · exact ⟨_, s', e2, .inl rfl⟩
  · exact ⟨_, s', e2, .inl rfl⟩
  · exact ⟨_, s', e2, .inr (.inl rfl)⟩
  · exact ⟨_, s', e2, .inr (.inr ⟨.raw, rfl, .inr rfl⟩)⟩
  · exact ⟨_, s', e2, .inr (.inr ⟨.closed, rfl, .inr rfl⟩)⟩
  · exact ⟨_, s', e2, .inr (.inr ⟨.closed, rfl, .inr rfl⟩)⟩
  · exact ⟨_, s', e2, .inr (.inr ⟨.counted, rfl, .inr rfl⟩)⟩
theorem dir_eq (s : DS) (Rm : List MO) : ∃ d s', m__law_pick [.cell 1, .lst [.str "asc", .str "desc"]] (DM s Rm) = .ok (.str (dS d)) (DM s' Rm) := by
  obtain ⟨x, s', e, hx⟩ := pick_eq s [.str "asc", .str "desc"] (by simp) (by simp) Rm
  simp only [List.mem_cons, List.not_mem_nil, or_false] at hx
  rcases hx with rfl | rfl
  · exact ⟨false, s', e⟩
  · exact ⟨true, s', e⟩
theorem nul_eq (s : DS) (Rm : List MO) : ∃ n s', m__law_pick [.cell 1, .lst [.str "none", .str "none", .str "first", .str "last"]] (DM s Rm) = .ok (.str (Nl.s n)) (DM s' Rm) := by
  obtain ⟨x, s', e, hx⟩ := pick_eq s [.str "none", .str "none", .str "first", .str "last"] (by simp) (by simp) Rm
  simp only [List.mem_cons, List.not_mem_nil, or_false] at hx
  rcases hx with rfl | rfl | rfl | rfl
  · exact ⟨.none, s', e⟩
  · exact ⟨.none, s', e⟩
  · exact ⟨.first, s', e⟩
  · exact ⟨.last, s', e⟩
theorem nul3_eq (s : DS) (Rm : List MO) : ∃ n s', m__law_pick [.cell 1, .lst [.str "none", .str "first", .str "last"]] (DM s Rm) = .ok (.str (Nl.s n)) (DM s' Rm) := by
  obtain ⟨x, s', e, hx⟩ := pick_eq s [.str "none", .str "first", .str "last"] (by simp) (by simp) Rm
  simp only [List.mem_cons, List.not_mem_nil, or_false] at hx
  rcases hx with rfl | rfl | rfl
  · exact ⟨.none, s', e⟩
  · exact ⟨.first, s', e⟩
  · exact ⟨.last, s', e⟩
theorem field_eq (s : DS) (Rm : List MO) : ∃ f s', m__law_field [.cell 1] (DM s Rm) = .ok (Fd.dd f) (DM s' Rm) := by
  obtain ⟨x, s1, e1, hx⟩ := kind_eq s Rm
  have key : ∃ k s2, (sIf (eTest (eBin fIn (eVar 1) (eArgs fTup (eCons (eC (.str "fixed")) (eCons (eC (.str "little")) eNil))))) (sSet 1 (eBin fAdd (eVar 1) (eArgs fStrI (eCons (eBin fAdd (eC (.int 1)) (eArgs m__law_draw (eCons (eVar 0) (eCons (eC (.int 4)) eNil)))) eNil)))) sNil) [some (.cell 1), some (.str x)] (DM s1 Rm) = .nx [some (.cell 1), some (.str (Kd.s k))] (DM s2 Rm) := by
    obtain ⟨r, s2, e2, h0, h1⟩ := draw_eq s1 4 (by decide) (by decide) Rm
    rcases hx with rfl | rfl | ⟨k, rfl, hk⟩
    · obtain ⟨k, e3, _⟩ := fx_str r h0 h1 (DM s2 Rm)
      refine ⟨k, s2, ?_⟩
      simp [in_fl "fixed" true (by decide +kernel), e2, e3]
    · obtain ⟨k, e3, _⟩ := li_str r h0 h1 (DM s2 Rm)
      refine ⟨k, s2, ?_⟩
      simp [in_fl "little" true (by decide +kernel), e2, e3]
    · refine ⟨k, s1, ?_⟩
      have : (k.s == ("fixed" : Str) || k.s == ("little" : Str)) = false := by cases k <;> decide +kernel
      simp [in_fl k.s false this]
  obtain ⟨k, s2, e2⟩ := key
  obtain ⟨d, s3, e3⟩ := dir_eq s2 Rm
  obtain ⟨n, s4, e4⟩ := nul_eq s3 Rm
  refine ⟨⟨k, d, n⟩, s4, ?_⟩
  simp only [m__law_field, mOf, sv__law_field, startE]
  simp only [sv_seq] at e2 ⊢
  simp [e1] at e2 ⊢
  simp [e2, e3, e4, Fd.dd]
theorem scheme_eq (s : DS) (Rm : List MO) : ∃ fs s', m__law_scheme [.cell 1] (DM s Rm) = .ok (sch fs) (DM s' Rm) ∧ 1 ≤ fs.length ∧ fs.length ≤ 4 := by
  obtain ⟨r, s1, e1, h0, h1⟩ := draw_eq s 4 (by decide) (by decide) Rm
  obtain ⟨fs, s2, e2, h2⟩ := compL_drawT (c := fun i : Nat => D.int (0 + (i : Nat))) (c' := Fd.dd) (g := gN 1) (el := eArgs m__law_field (eCons (eVar 0) eNil)) (e := [some (.cell 1), none]) (Rm := Rm) (P := fun _ _ => True) (List.range (1 + r).toNat) [] s1 (by simp [big]; omega) (fun x _ s => by
    obtain ⟨f, s', e⟩ := field_eq s Rm
    exact ⟨_, f, s', rfl, by simp [e], trivial⟩)
  have hl := F2.length h2
  simp at hl
  have hr : rgOk (1 + r) = true := decide_eq_true (by omega)
  refine ⟨fs, s2, ?_, by omega, by omega⟩
  simp only [m__law_scheme, mOf, sv__law_scheme, startE]
  simp [e1, hr, wipeE]
  rw [range_of, e2]
  simp [sch]
end KB
namespace KB
open PySem PySem.Spec PyProof.Rows L2
/-! ### parts of kinds -/
def k5 (k : Kd) : Str := ⟨(cutD k.s.cps.toList none (some 5)).toArray⟩
def k6 (k : Kd) : Str := ⟨(cutD k.s.cps.toList none (some 6)).toArray⟩
def kz (k : Kd) : Str := ⟨#[(atI k.s.cps.toList (-1)).getD 0]⟩
theorem ks_len (k : Kd) : k.s.length ≤ big := by cases k <;> decide +kernel
@[simp] theorem fSl_k5 (k : Kd) (M : List MO) : fSl (.str k.s) none (some 5) M = .ok (.str (k5 k)) M := by
  simp only [fSl, res_str, if_pos (ks_len k), k5]
@[simp] theorem fSl_k6 (k : Kd) (M : List MO) : fSl (.str k.s) none (some 6) M = .ok (.str (k6 k)) M := by
  simp only [fSl, res_str, if_pos (ks_len k), k6]
@[simp] theorem ok_k5 (k : Kd) : PyData.strOk (k5 k) = true := by cases k <;> decide +kernel
@[simp] theorem ok_k6 (k : Kd) : PyData.strOk (k6 k) = true := by cases k <;> decide +kernel
@[simp] theorem k5_fixed (k : Kd) : (k5 k = ("fixed" : Str)) ↔ k.fix = true := s_dec (by cases k <;> decide +kernel)
@[simp] theorem k6_little (k : Kd) : (k6 k = ("little" : Str)) ↔ k.lit = true := s_dec (by cases k <;> decide +kernel)
@[simp] theorem fIx_kz (k : Kd) (M : List MO) : fIx (.str k.s) (.int (-1)) M = .ok (.str (kz k)) M := by
  have h : atI k.s.cps.toList (-1) = some ((atI k.s.cps.toList (-1)).getD 0) := by cases k <;> decide +kernel
  simp only [fIx, res_str, if_pos (ks_len k), kz]
  rw [h]
  rfl
theorem fIntS_kz (k : Kd) (h : k.sized = true) (M : List MO) : fIntS [.str (kz k)] M = .ok (.int (k.size : Int)) M := by
  have h1 : (kz k).length ≤ 640 := by cases k <;> decide +kernel
  have h2 : PySem.intText? (kz k) = some (k.size : Int) := by
    revert h
    cases k <;> intro h <;> first | (cases h; done) | decide +kernel
  simp only [fIntS, if_pos h1, h2]
theorem law_most_eq (k : Kd) (h : k.sized = true) (M : List MO) : m__law_most [.str k.s] M = .ok (.int (pw k.size - 1)) M := by
  have hk : k.size ≤ 1000 := by cases k <;> decide
  simp [m__law_most, mOf, sv__law_most, startE, fIntS_kz k h, law_power_eq k.size hk]
theorem ints_of {ys : List D} (hP : ∀ y ∈ ys, ∃ i : Int, y = .int i ∧ 0 ≤ i ∧ i ≤ 255) : ∃ ns : List Int, ys = ns.map D.int ∧ By ns := by
  induction ys with
  | nil => exact ⟨[], rfl, By.nil⟩
  | cons y ys ih =>
    obtain ⟨i, rfl, hi⟩ := hP y (by simp)
    obtain ⟨ns, rfl, hn⟩ := ih fun z hz => hP z (by simp [hz])
    exact ⟨i :: ns, rfl, hn.cons hi⟩
theorem text_eq (s : DS) (n : Int) (h0 : 0 ≤ n) (h1 : n ≤ 1000) (Rm : List MO) : ∃ ns s', m__law_text [.cell 1, .int n] (DM s Rm) = .ok (bs ns) (DM s' Rm) ∧ (ns.length : Int) ≤ n ∧ By ns := by
  obtain ⟨q, s0, e0, h5, h6⟩ := draw_eq s 256 (by decide) (by decide) Rm
  obtain ⟨r, s1, e, h3, h4⟩ := draw_eq s0 (n + 1) (by omega) (by omega) Rm
  have hr : rgOk r = true := decide_eq_true ⟨by omega, by omega⟩
  obtain ⟨ys, s2, e2, hl, hP⟩ := compL_draw (g := gN 3) (el := (eArgs m__law_pick (eCons (eVar 0) (eCons (eVar 2) eNil)))) (e := [some (.cell 1), some (.int n), some (.lst [.int 0, .int 0, .int 0, .int 1, .int 2, .int 97, .int 98, .int 253, .int 254, .int 255, .int 255, .int q]), none]) (Rm := Rm) (P := fun y => ∃ i : Int, y = .int i ∧ 0 ≤ i ∧ i ≤ 255)
    (rangeD 0 r.toNat) [] s1 (by simp [rangeD, big]; omega) (fun d hd s => by
      obtain ⟨x, s3, e3, hx⟩ := pick_eq s [.int 0, .int 0, .int 0, .int 1, .int 2, .int 97, .int 98, .int 253, .int 254, .int 255, .int 255, .int q] (by simp) (by simp) Rm
      refine ⟨_, x, s3, rfl, ?_, ?_⟩
      · simp [e3]
      · simp at hx
        rcases hx with rfl | rfl | rfl | rfl | rfl | rfl | rfl | rfl | rfl <;> exact ⟨_, rfl, by omega, by omega⟩)
  obtain ⟨ns, rfl, hn⟩ := ints_of hP
  refine ⟨ns, s2, ?_, ?_, hn⟩
  · simp [m__law_text, mOf, sv__law_text, startE, e0, e, hr, wipeE]
    rw [e2]
    simp [bs]
  · rw [List.length_map, rangeD_length] at hl
    omega
theorem pw_mono {a b : Nat} (h : a ≤ b) : pw a ≤ pw b := by
  rw [pw_nat, pw_nat]
  exact Int.ofNat_le.mpr (Nat.pow_le_pow_right (by decide) h)
theorem pw_pos (a : Nat) : 0 < pw a := by
  rw [pw_nat]
  exact Int.natCast_pos.mpr (Nat.pow_pos (by decide))
theorem pw8 : pw 8 = 18446744073709551616 := by decide +kernel
theorem value_int (s : DS) (d : Bool) (n : Nl) (Rm : List MO) : ∃ i s', (sSeq sv__law_value_3b1 (sSeq sv__law_value_3b2 sv__law_value_3b3)) [some (.cell 1), some (Fd.dd ⟨.int, d, n⟩), some (.str Kd.int.s), some (.str (dS d)), some (.str n.s), none, none] (DM s Rm) = .ret (.int i) (DM s' Rm) ∧ i.natAbs < 256 ^ 8 := by
  obtain ⟨r, s1, e1, h1, h2⟩ := draw_eq s 9 (by decide) (by decide) Rm
  obtain ⟨c, rfl⟩ : ∃ c : Nat, r = (c : Int) := ⟨r.toNat, by omega⟩
  have hm : maxI ((c : Int) - 1) 0 = ((c - 1 : Nat) : Int) := by unfold maxI; split <;> omega
  have p0 := pw_pos c
  have p1 := pw_mono (show c ≤ 8 by omega)
  have p2 := pw_mono (show c - 1 ≤ 8 by omega)
  have p3 := pw_pos (c - 1)
  rw [pw8] at p1 p2
  have w1 := fun M => law_power_eq c (by omega) M
  have w2 := fun M => law_power_eq (c - 1) (by omega) M
  -- c - 1 < 8: so the middle one is below
  have p4 : pw (c - 1) < 18446744073709551616 := by
    have := pw_mono (show c - 1 ≤ 7 by omega)
    have h7 : pw 7 = 72057594037927936 := by decide +kernel
    omega
  obtain ⟨q, s2, e2, h3, h4⟩ := draw_eq s1 (pw c) p0 (by omega) Rm
  obtain ⟨x, s3, e3, hx⟩ := pick_eq s2 [.int (pw c - 1), .int (pw (c - 1)), .int q] (by simp) (by simp) Rm
  have hx2 : ∃ z : Int, x = .int z ∧ z.natAbs < 256 ^ 8 := by
    simp only [List.mem_cons, List.not_mem_nil, or_false] at hx
    rcases hx with rfl | rfl | rfl
    · exact ⟨_, rfl, by omega⟩
    · exact ⟨_, rfl, by omega⟩
    · exact ⟨_, rfl, by omega⟩
  obtain ⟨z, rfl, hz⟩ := hx2
  obtain ⟨y, s4, e4', hy⟩ := pick_eq s3 [.int z, .int (0 - z)] (by simp) (by simp) Rm
  have hy2 : ∃ i : Int, y = .int i ∧ i.natAbs < 256 ^ 8 := by
    simp only [List.mem_cons, List.not_mem_nil, or_false] at hy
    rcases hy with rfl | rfl
    · exact ⟨_, rfl, by omega⟩
    · exact ⟨_, rfl, by omega⟩
  obtain ⟨i, rfl, hi⟩ := hy2
  refine ⟨i, s4, ?_, hi⟩
  simp only [Int.zero_sub] at e4'
  simp [sv__law_value_3b1, sv__law_value_3b2, sv__law_value_3b3, e1, w1, hm, w2, e2, e3, e4']
theorem value_eq (s : DS) (f : Fd) (Rm : List MO) : ∃ v s', m__law_value [.cell 1, f.dd] (DM s Rm) = .ok (Vl.dd v) (DM s' Rm) ∧ okV f v ∧ (∀ b, v = .byt b → b.length ≤ 9) := by
  obtain ⟨k, d, n⟩ := f
  have first : (∃ s', n ≠ .none ∧ sv__law_value_2 [some (.cell 1), some (Fd.dd ⟨k, d, n⟩), some (.str k.s), some (.str (dS d)), some (.str n.s), none, none] (DM s Rm) = .ret .non (DM s' Rm)) ∨ (∃ s', sv__law_value_2 [some (.cell 1), some (Fd.dd ⟨k, d, n⟩), some (.str k.s), some (.str (dS d)), some (.str n.s), none, none] (DM s Rm) = .nx [some (.cell 1), some (Fd.dd ⟨k, d, n⟩), some (.str k.s), some (.str (dS d)), some (.str n.s), none, none] (DM s' Rm)) := by
    by_cases hn : n = .none
    · exact .inr ⟨s, by simp [sv__law_value_2, fNe, hn]⟩
    · obtain ⟨r, s1, e1, _, _⟩ := draw_eq s 4 (by decide) (by decide) Rm
      by_cases hr : r = 0
      · exact .inl ⟨s1, hn, by simp [sv__law_value_2, sv__law_value_2b1, fNe, fEq, hn, e1, hr]⟩
      · exact .inr ⟨s1, by simp [sv__law_value_2, fNe, fEq, hn, e1, hr]⟩
  have e1 : sv__law_value_1 [some (.cell 1), some (Fd.dd ⟨k, d, n⟩), none, none, none, none, none] (DM s Rm) = .nx [some (.cell 1), some (Fd.dd ⟨k, d, n⟩), some (.str k.s), some (.str (dS d)), some (.str n.s), none, none] (DM s Rm) := by
    simp [sv__law_value_1, Fd.dd]
  rcases first with ⟨s1, hn, e2⟩ | ⟨s1, e2⟩
  · refine ⟨.non, s1, ?_, hn, fun b h => by cases h⟩
    simp [m__law_value, mOf, sv__law_value, startE, e1, e2]
  · rcases k.split with h | h | h
    · subst h
      obtain ⟨i, s2, e3, hi⟩ := value_int s1 d n Rm
      refine ⟨.num i, s2, ?_, .inl ⟨rfl, hi⟩, fun b h => by cases h⟩
      simp only [sv_seq] at e3
      simp [m__law_value, mOf, sv__law_value, startE, e1, e2, sv__law_value_3, fEq, e3]
    · have p0 := pw_pos k.size
      have p1 := pw_mono (show k.size ≤ 8 by omega)
      rw [pw8] at p1
      have p2 := pw_mono (show 1 ≤ k.size by omega)
      have h7 : pw 1 = 256 := by decide +kernel
      obtain ⟨q, s2, e3, h3, h4⟩ := draw_eq s1 (pw k.size) p0 (by omega) Rm
      obtain ⟨x, s3, e4, hx⟩ := pick_eq s2 [.int 0, .int 1, .int (pw k.size - 1), .int q] (by simp) (by simp) Rm
      have hx2 : ∃ z : Int, x = .int z ∧ 0 ≤ z ∧ z < pw k.size := by
        simp only [List.mem_cons, List.not_mem_nil, or_false] at hx
        rcases hx with rfl | rfl | rfl | rfl
        · exact ⟨_, rfl, by omega, by omega⟩
        · exact ⟨_, rfl, by omega, by omega⟩
        · exact ⟨_, rfl, by omega, by omega⟩
        · exact ⟨_, rfl, by omega, by omega⟩
      obtain ⟨z, rfl, hz⟩ := hx2
      refine ⟨.num z, s3, ?_, .inr ⟨h.1, hz⟩, fun b h => by cases h⟩
      have hs := h.2.2.2.2.2
      cases hf : k.fix with
      | true => simp [m__law_value, mOf, sv__law_value, startE, e1, e2, sv__law_value_3, fEq, h, sv__law_value_4, sv__law_value_4b1, hf, law_most_eq k h.1, e3, e4]
      | false =>
        rw [hf] at hs
        simp [m__law_value, mOf, sv__law_value, startE, e1, e2, sv__law_value_3, fEq, h, hs, sv__law_value_4, sv__law_value_4b1, hf, law_most_eq k h.1, e3, e4]
    · obtain ⟨x, s2, e3, hx⟩ := pick_eq s1 [.int 1, .int 3, .int 9] (by simp) (by simp) Rm
      have hx2 : ∃ z : Int, x = .int z ∧ 0 ≤ z ∧ z ≤ 9 := by
        simp only [List.mem_cons, List.not_mem_nil, or_false] at hx
        rcases hx with rfl | rfl | rfl <;> exact ⟨_, rfl, by omega, by omega⟩
      obtain ⟨z, rfl, hz⟩ := hx2
      obtain ⟨b, s3, e4, hl, hb⟩ := text_eq s2 z hz.1 (by omega) Rm
      have hlim : 9 ≤ k.lim := by
        have := h.1
        revert this
        cases k <;> intro h <;> first | (cases h; done) | decide
      refine ⟨.byt b, s3, ?_, ⟨h.1, hb, by show b.length ≤ k.lim; omega⟩, fun b' h => by cases h; omega⟩
      simp [m__law_value, mOf, sv__law_value, startE, e1, e2, sv__law_value_3, fEq, h, sv__law_value_4, sv__law_value_5, e3, e4]
theorem row_eq (s : DS) (fs : List Fd) (hl : fs.length ≤ 4) (Rm : List MO) : ∃ vs s', m__law_row [.cell 1, sch fs] (DM s Rm) = .ok (rowd vs) (DM s' Rm) ∧ okR fs vs := by
  obtain ⟨vs, s2, e2, h2⟩ := compL_drawT (c := Fd.dd) (c' := Vl.dd) (g := gN 2) (el := eArgs m__law_value (eCons (eVar 0) (eCons (eVar 2) eNil))) (e := [some (.cell 1), some (sch fs), none]) (Rm := Rm) (P := okV) fs [] s (by simp [big]; omega) (fun x _ s => by
    obtain ⟨v, s', e, h, _⟩ := value_eq s x Rm
    exact ⟨_, v, s', rfl, by simp [e], h⟩)
  refine ⟨vs, s2, ?_, h2⟩
  simp only [sch] at e2 ⊢
  simp only [m__law_row, mOf, sv__law_row, startE]
  simp [wipeE]
  rw [e2]
  simp [rowd]
theorem F2.of_ix {α β : Type} {P : α → β → Prop} : ∀ {as : List α} {bs : List β}, as.length = bs.length → (∀ (i : Nat) a b, as[i]? = some a → bs[i]? = some b → P a b) → F2 P as bs
  | [], [], _, _ => .nil
  | [], _ :: _, h, _ => by simp at h
  | _ :: _, [], h, _ => by simp at h
  | a :: as, b :: bs, h, q => .cons (q 0 a b rfl rfl) (F2.of_ix (by simpa using h) fun i a b h1 h2 => q (i + 1) a b (by simpa using h1) (by simpa using h2))
theorem other_eq (s : DS) (fs : List Fd) (vs : List Vl) (h : okR fs vs) (hl : fs.length ≤ 4) (Rm : List MO) : ∃ ws s', m__law_other [.cell 1, sch fs, rowd vs] (DM s Rm) = .ok (rowd ws) (DM s' Rm) ∧ okR fs ws := by
  have hlen := F2.length h
  obtain ⟨ws, s2, e2, h2⟩ := compL_drawT (c := fun i : Nat => D.int (0 + (i : Nat))) (c' := Vl.dd) (g := gN 3) (el := (eIf (eTest (eBin fEq (eArgs m__law_draw (eCons (eVar 0) (eCons (eC (.int 2)) eNil))) (eC (.int 0)))) (eBin fIx (eVar 2) (eVar 3)) (eArgs m__law_value (eCons (eVar 0) (eCons (eBin fIx (eVar 1) (eVar 3)) eNil))))) (e := [some (.cell 1), some (sch fs), some (rowd vs), none]) (Rm := Rm) (P := fun i w => ∀ f, fs[i]? = some f → okV f w) (List.range fs.length) [] s (by simp [big]; omega) (fun x hx s => by
    have hx := List.mem_range.mp hx
    obtain ⟨r, s1, e1, _, _⟩ := draw_eq s 2 (by decide) (by decide) Rm
    have hf : fs[x]? = some fs[x] := List.getElem?_eq_getElem hx
    obtain ⟨v, hv, hok⟩ := F2.get h hf
    have a1 : atI (fs.map Fd.dd) (x : Int) = some fs[x].dd := atI_nat (by rw [List.getElem?_map, hf]; rfl)
    have a2 : atI (vs.map Vl.dd) (x : Int) = some v.dd := atI_nat (by rw [List.getElem?_map, hv]; rfl)
    by_cases hr : r = 0
    · refine ⟨_, v, s1, rfl, ?_, fun f hf' => by rw [hf] at hf'; cases hf'; exact hok⟩
      simp [e1, hr, fEq, rowd, a2]
    · obtain ⟨w, s2, e2, hw, _⟩ := value_eq s1 fs[x] Rm
      refine ⟨_, w, s2, rfl, ?_, fun f hf' => by rw [hf] at hf'; cases hf'; exact hw⟩
      simp [e1, hr, fEq, sch, a1, e2])
  have hl2 := F2.length h2
  simp at hl2
  refine ⟨ws, s2, ?_, F2.of_ix hl2 fun i f w hf hw => ?_⟩
  · have hr : rgOk (fs.length : Int) = true := decide_eq_true (by omega)
    simp only [sch, rowd] at e2 ⊢
    simp only [m__law_other, mOf, sv__law_other, startE]
    simp [wipeE, hr]
    rw [range_of, e2]
    simp
  · have hi : i < fs.length := (List.getElem?_eq_some_iff.mp hf).1
    obtain ⟨w', hw', hP⟩ := F2.get h2 (show (List.range fs.length)[i]? = some i by rw [List.getElem?_range hi])
    rw [hw] at hw'; cases hw'
    exact hP f hf
end KB
namespace KB
open PySem PySem.Spec PyProof.Rows L2
/-- a byte string that is a known tuple -/
def pbs (ns : List Int) : D := .ptup (ns.map .int)
theorem weak_pbs (ns : List Int) (M : List MO) : fWeak (pbs ns) M = .ok (bs ns) M := rfl
theorem count_pbs (ns : List Int) (k : Int) (M : List MO) : fCountP (pbs ns) [.int k] M = .ok (.int (ns.count k : Nat)) M := by
  have : ∀ ns : List Int, ints? (ns.map .int) = some ns := fun ns => by
    induction ns with
    | nil => rfl
    | cons n ns ih => simp [ints?, ih]
  unfold fCountP pbs
  simp only [this]
theorem text_eq7 (s : DS) (n : Int) (h0 : 0 ≤ n) (h1 : n ≤ 1000) (Rm : List MO) : ∃ ns s', m__law_text_k07 [.cell 1, .int n] (DM s Rm) = .ok (pbs ns) (DM s' Rm) ∧ (ns.length : Int) ≤ n ∧ By ns := by
  obtain ⟨q, s0, e0, h5, h6⟩ := draw_eq s 256 (by decide) (by decide) Rm
  obtain ⟨r, s1, e, h3, h4⟩ := draw_eq s0 (n + 1) (by omega) (by omega) Rm
  have hr : rgOk r = true := decide_eq_true ⟨by omega, by omega⟩
  obtain ⟨ys, s2, e2, hl, hP⟩ := compL_draw (g := gN 3) (el := (eArgs m__law_pick (eCons (eVar 0) (eCons (eVar 2) eNil)))) (e := [some (.cell 1), some (.int n), some (.lst [.int 0, .int 0, .int 0, .int 1, .int 2, .int 97, .int 98, .int 253, .int 254, .int 255, .int 255, .int q]), none]) (Rm := Rm) (P := fun y => ∃ i : Int, y = .int i ∧ 0 ≤ i ∧ i ≤ 255)
    (rangeD 0 r.toNat) [] s1 (by simp [rangeD, big]; omega) (fun d hd s => by
      obtain ⟨x, s3, e3, hx⟩ := pick_eq s [.int 0, .int 0, .int 0, .int 1, .int 2, .int 97, .int 98, .int 253, .int 254, .int 255, .int 255, .int q] (by simp) (by simp) Rm
      refine ⟨_, x, s3, rfl, ?_, ?_⟩
      · simp [e3]
      · simp at hx
        rcases hx with rfl | rfl | rfl | rfl | rfl | rfl | rfl | rfl | rfl <;> exact ⟨_, rfl, by omega, by omega⟩)
  obtain ⟨ns, rfl, hn⟩ := ints_of hP
  refine ⟨ns, s2, ?_, ?_, hn⟩
  · simp [m__law_text_k07, mOf, sv__law_text_k07, startE, e0, e, hr, wipeE]
    rw [e2]
    simp [pbs, fTupleP]
  · rw [List.length_map, rangeD_length] at hl
    omega
theorem value_int7 (s : DS) (d : Bool) (n : Nl) (Rm : List MO) : ∃ i s', (sSeq sv__law_value_k07_3b1 (sSeq sv__law_value_k07_3b2 sv__law_value_k07_3b3)) [some (.cell 1), some (Fd.dd ⟨.int, d, n⟩), some (.str Kd.int.s), some (.str (dS d)), some (.str n.s), none, none] (DM s Rm) = .ret (.int i) (DM s' Rm) ∧ i.natAbs < 256 ^ 8 := by
  obtain ⟨r, s1, e1, h1, h2⟩ := draw_eq s 9 (by decide) (by decide) Rm
  obtain ⟨c, rfl⟩ : ∃ c : Nat, r = (c : Int) := ⟨r.toNat, by omega⟩
  have hm : maxI ((c : Int) - 1) 0 = ((c - 1 : Nat) : Int) := by unfold maxI; split <;> omega
  have p0 := pw_pos c
  have p1 := pw_mono (show c ≤ 8 by omega)
  have p2 := pw_mono (show c - 1 ≤ 8 by omega)
  have p3 := pw_pos (c - 1)
  rw [pw8] at p1 p2
  have w1 := fun M => law_power_eq c (by omega) M
  have w2 := fun M => law_power_eq (c - 1) (by omega) M
  -- c - 1 < 8: so the middle one is below
  have p4 : pw (c - 1) < 18446744073709551616 := by
    have := pw_mono (show c - 1 ≤ 7 by omega)
    have h7 : pw 7 = 72057594037927936 := by decide +kernel
    omega
  obtain ⟨q, s2, e2, h3, h4⟩ := draw_eq s1 (pw c) p0 (by omega) Rm
  obtain ⟨x, s3, e3, hx⟩ := pick_eq s2 [.int (pw c - 1), .int (pw (c - 1)), .int q] (by simp) (by simp) Rm
  have hx2 : ∃ z : Int, x = .int z ∧ z.natAbs < 256 ^ 8 := by
    simp only [List.mem_cons, List.not_mem_nil, or_false] at hx
    rcases hx with rfl | rfl | rfl
    · exact ⟨_, rfl, by omega⟩
    · exact ⟨_, rfl, by omega⟩
    · exact ⟨_, rfl, by omega⟩
  obtain ⟨z, rfl, hz⟩ := hx2
  obtain ⟨y, s4, e4', hy⟩ := pick_eq s3 [.int z, .int (0 - z)] (by simp) (by simp) Rm
  have hy2 : ∃ i : Int, y = .int i ∧ i.natAbs < 256 ^ 8 := by
    simp only [List.mem_cons, List.not_mem_nil, or_false] at hy
    rcases hy with rfl | rfl
    · exact ⟨_, rfl, by omega⟩
    · exact ⟨_, rfl, by omega⟩
  obtain ⟨i, rfl, hi⟩ := hy2
  refine ⟨i, s4, ?_, hi⟩
  simp only [Int.zero_sub] at e4'
  simp [sv__law_value_k07_3b1, sv__law_value_k07_3b2, sv__law_value_k07_3b3, e1, w1, hm, w2, e2, e3, e4']
theorem value_eq7 (s : DS) (f : Fd) (Rm : List MO) : ∃ v s', m__law_value_k07 [.cell 1, f.dd] (DM s Rm) = .ok (Vl.dd v) (DM s' Rm) ∧ okV f v ∧ (∀ b, v = .byt b → b.length ≤ 9) := by
  obtain ⟨k, d, n⟩ := f
  have first : (∃ s', n ≠ .none ∧ sv__law_value_k07_2 [some (.cell 1), some (Fd.dd ⟨k, d, n⟩), some (.str k.s), some (.str (dS d)), some (.str n.s), none, none] (DM s Rm) = .ret .non (DM s' Rm)) ∨ (∃ s', sv__law_value_k07_2 [some (.cell 1), some (Fd.dd ⟨k, d, n⟩), some (.str k.s), some (.str (dS d)), some (.str n.s), none, none] (DM s Rm) = .nx [some (.cell 1), some (Fd.dd ⟨k, d, n⟩), some (.str k.s), some (.str (dS d)), some (.str n.s), none, none] (DM s' Rm)) := by
    by_cases hn : n = .none
    · exact .inr ⟨s, by simp [sv__law_value_k07_2, fNe, hn]⟩
    · obtain ⟨r, s1, e1, _, _⟩ := draw_eq s 4 (by decide) (by decide) Rm
      by_cases hr : r = 0
      · exact .inl ⟨s1, hn, by simp [sv__law_value_k07_2, sv__law_value_k07_2b1, fNe, fEq, hn, e1, hr]⟩
      · exact .inr ⟨s1, by simp [sv__law_value_k07_2, fNe, fEq, hn, e1, hr]⟩
  have e1 : sv__law_value_k07_1 [some (.cell 1), some (Fd.dd ⟨k, d, n⟩), none, none, none, none, none] (DM s Rm) = .nx [some (.cell 1), some (Fd.dd ⟨k, d, n⟩), some (.str k.s), some (.str (dS d)), some (.str n.s), none, none] (DM s Rm) := by
    simp [sv__law_value_k07_1, Fd.dd]
  rcases first with ⟨s1, hn, e2⟩ | ⟨s1, e2⟩
  · refine ⟨.non, s1, ?_, hn, fun b h => by cases h⟩
    simp [m__law_value_k07, mOf, sv__law_value_k07, startE, e1, e2]
  · rcases k.split with h | h | h
    · subst h
      obtain ⟨i, s2, e3, hi⟩ := value_int7 s1 d n Rm
      refine ⟨.num i, s2, ?_, .inl ⟨rfl, hi⟩, fun b h => by cases h⟩
      simp only [sv_seq] at e3
      simp [m__law_value_k07, mOf, sv__law_value_k07, startE, e1, e2, sv__law_value_k07_3, fEq, e3]
    · have p0 := pw_pos k.size
      have p1 := pw_mono (show k.size ≤ 8 by omega)
      rw [pw8] at p1
      have p2 := pw_mono (show 1 ≤ k.size by omega)
      have h7 : pw 1 = 256 := by decide +kernel
      obtain ⟨q, s2, e3, h3, h4⟩ := draw_eq s1 (pw k.size) p0 (by omega) Rm
      obtain ⟨x, s3, e4, hx⟩ := pick_eq s2 [.int 0, .int 1, .int (pw k.size - 1), .int q] (by simp) (by simp) Rm
      have hx2 : ∃ z : Int, x = .int z ∧ 0 ≤ z ∧ z < pw k.size := by
        simp only [List.mem_cons, List.not_mem_nil, or_false] at hx
        rcases hx with rfl | rfl | rfl | rfl
        · exact ⟨_, rfl, by omega, by omega⟩
        · exact ⟨_, rfl, by omega, by omega⟩
        · exact ⟨_, rfl, by omega, by omega⟩
        · exact ⟨_, rfl, by omega, by omega⟩
      obtain ⟨z, rfl, hz⟩ := hx2
      refine ⟨.num z, s3, ?_, .inr ⟨h.1, hz⟩, fun b h => by cases h⟩
      have hs := h.2.2.2.2.2
      cases hf : k.fix with
      | true => simp [m__law_value_k07, mOf, sv__law_value_k07, startE, e1, e2, sv__law_value_k07_3, fEq, h, sv__law_value_k07_4, sv__law_value_k07_4b1, hf, law_most_eq k h.1, e3, e4]
      | false =>
        rw [hf] at hs
        simp [m__law_value_k07, mOf, sv__law_value_k07, startE, e1, e2, sv__law_value_k07_3, fEq, h, hs, sv__law_value_k07_4, sv__law_value_k07_4b1, hf, law_most_eq k h.1, e3, e4]
    · obtain ⟨x, s2, e3, hx⟩ := pick_eq s1 [.int 1, .int 3, .int 9] (by simp) (by simp) Rm
      have hx2 : ∃ z : Int, x = .int z ∧ 0 ≤ z ∧ z ≤ 9 := by
        simp only [List.mem_cons, List.not_mem_nil, or_false] at hx
        rcases hx with rfl | rfl | rfl <;> exact ⟨_, rfl, by omega, by omega⟩
      obtain ⟨z, rfl, hz⟩ := hx2
      obtain ⟨b, s3, e4, hl, hb⟩ := text_eq7 s2 z hz.1 (by omega) Rm
      have hlim : 9 ≤ k.lim := by
        have := h.1
        revert this
        cases k <;> intro h <;> first | (cases h; done) | decide
      refine ⟨.byt b, s3, ?_, ⟨h.1, hb, by show b.length ≤ k.lim; omega⟩, fun b' h => by cases h; omega⟩
      simp [m__law_value_k07, mOf, sv__law_value_k07, startE, e1, e2, sv__law_value_k07_3, fEq, h, sv__law_value_k07_4, sv__law_value_k07_5, e3, e4, weak_pbs]
end KB
namespace KB
open PySem PySem.Spec PyProof.Rows L2
/-! ### the order of values and rows -/
def vlt : Vl → Vl → Bool
  | .num i, .num j => decide (i < j)
  | .byt a, .byt b => HT.lexLt a b
  | _, _ => false
def sgn (f : Fd) (a b : Vl) : Int := if a = b then 0 else if a = .non ∨ b = .non then (if decide (a = .non) = decide (f.n = .first) then -1 else 1) else if vlt a b = !f.d then -1 else 1
def fnz : List Int → Int
  | [] => 0
  | x :: xs => if x = 0 then fnz xs else x
def sgs : List Fd → List Vl → List Vl → List Int
  | f :: fs, a :: as, b :: bs => sgn f a b :: sgs fs as bs
  | _, _, _ => []
def cmpR (fs : List Fd) (as bs : List Vl) : Int := fnz (sgs fs as bs)
/-- the values of one field are of one sort -/
theorem okV_same {f : Fd} {a b : Vl} (ha : okV f a) (hb : okV f b) : a = .non ∨ b = .non ∨ (∃ i j, a = .num i ∧ b = .num j) ∨ (∃ x y, a = .byt x ∧ b = .byt y) := by
  obtain ⟨k, d, n⟩ := f
  cases a with
  | non => exact .inl rfl
  | num i =>
    cases b with
    | non => exact .inr (.inl rfl)
    | num j => exact .inr (.inr (.inl ⟨i, j, rfl, rfl⟩))
    | byt y =>
      exfalso
      simp only [okV] at ha hb
      rcases ha with ⟨rfl, _⟩ | ⟨h, _⟩
      · exact absurd hb.1 (by decide)
      · have := hb.1; revert h this; cases k <;> decide
  | byt x =>
    cases b with
    | non => exact .inr (.inl rfl)
    | byt y => exact .inr (.inr (.inr ⟨x, y, rfl, rfl⟩))
    | num j =>
      exfalso
      simp only [okV] at ha hb
      rcases hb with ⟨rfl, _⟩ | ⟨h, _⟩
      · exact absurd ha.1 (by decide)
      · have := ha.1; revert h this; cases k <;> decide
@[simp] theorem fIx_f0 (f : Fd) (M : List MO) : fIx f.dd (.int 0) M = .ok (.str f.k.s) M := rfl
@[simp] theorem fIx_f1 (f : Fd) (M : List MO) : fIx f.dd (.int 1) M = .ok (.str (dS f.d)) M := rfl
@[simp] theorem fIx_f2 (f : Fd) (M : List MO) : fIx f.dd (.int 2) M = .ok (.str f.n.s) M := rfl
@[simp] theorem dEqv_non_non : dEqv .non .non = true := by simp [dEqv, toP, PyData.eqv]
@[simp] theorem dEqv_non_int (i : Int) : dEqv .non (.int i) = false := by simp [dEqv, toP, PyData.eqv]
@[simp] theorem dEqv_int_non (i : Int) : dEqv (.int i) .non = false := by simp [dEqv, toP, PyData.eqv]
@[simp] theorem dEqv_non_bs (b : List Int) : dEqv .non (bs b) = false := by simp [dEqv, toP, bs, PyData.eqv]
@[simp] theorem dEqv_bs_non (b : List Int) : dEqv (bs b) .non = false := by simp [dEqv, toP, bs, PyData.eqv]
theorem rank_eq (f : Fd) (a : Vl) (M : List MO) : m_rank [f.dd, a.dd] M = .ok (.int (if a = .non then (if f.n = .first then -1 else 1) else 0)) M := by
  cases a with
  | non =>
    by_cases h : f.n = .first <;> simp [m_rank, mOf, sv_rank, startE, fEq, h]
  | num i => simp [m_rank, mOf, sv_rank, startE]
  | byt b => simp [m_rank, mOf, sv_rank, startE]
theorem rank_non (f : Fd) (M : List MO) : m_rank [f.dd, .non] M = .ok (.int (if f.n = .first then -1 else 1)) M := rank_eq f .non M
theorem rank_num (f : Fd) (i : Int) (M : List MO) : m_rank [f.dd, .int i] M = .ok (.int 0) M := rank_eq f (.num i) M
theorem rank_byt (f : Fd) (b : List Int) (M : List MO) : m_rank [f.dd, bs b] M = .ok (.int 0) M := rank_eq f (.byt b) M
theorem compare_values_eq {f : Fd} {a b : Vl} (ha : okV f a) (hb : okV f b) (M : List MO) : m_compare_values [f.dd, a.dd, b.dd] M = .ok (.int (sgn f a b)) M := by
  have hs := okV_same ha hb
  simp only [m_compare_values, mOf, sv_compare_values, startE]
  rcases hs with rfl | rfl | ⟨i, j, rfl, rfl⟩ | ⟨x, y, rfl, rfl⟩
  · by_cases h : f.n = .first <;> cases b <;> simp [rank_non, rank_num, rank_byt, h, sgn]
  · by_cases h : f.n = .first <;> cases a <;> simp [rank_non, rank_num, rank_byt, h, sgn]
  · by_cases h : i = j
    · simp [sgn, h, fEq]
    · cases hd : f.d <;> by_cases hl : i < j <;> simp [sgn, h, fEq, vlt, hl, hd]
  · by_cases h : x = y
    · simp [sgn, h, fEq]
    · cases hd : f.d <;> cases hl : HT.lexLt x y <;> simp [sgn, h, fEq, vlt, hl, hd]
theorem okD1 (v : Vl) : okD 1 v.dd := by
  cases v with
  | non => exact okD_non 1
  | num i => exact okD_int 1 i
  | byt b => exact okD_bs b
@[simp] theorem shp_v (v : Vl) : shp v.dd = true := (okD1 v).shp
theorem dEqv_v {f : Fd} {a b : Vl} (ha : okV f a) (hb : okV f b) : dEqv a.dd b.dd = decide (a = b) := by
  rcases okV_same ha hb with rfl | rfl | ⟨i, j, rfl, rfl⟩ | ⟨x, y, rfl, rfl⟩
  · cases b <;> simp
  · cases a <;> simp
  · by_cases h : i = j <;> simp [h]
  · by_cases h : x = y <;> simp [h]
@[simp] theorem res_v (M : List MO) (v : Vl) : res M v.dd = v.dd := by cases v <;> rfl
theorem law_sign_eq {f : Fd} {a b : Vl} (ha : okV f a) (hb : okV f b) (M : List MO) : m__law_sign [f.dd, a.dd, b.dd] M = .ok (.int (sgn f a b)) M := by
  have hs := okV_same ha hb
  simp only [m__law_sign, mOf, sv__law_sign, startE]
  rcases hs with rfl | rfl | ⟨i, j, rfl, rfl⟩ | ⟨x, y, rfl, rfl⟩
  · by_cases h : f.n = .first <;> cases b <;> simp [fEq, h, sgn]
  · by_cases h : f.n = .first <;> cases a <;> simp [fEq, h, sgn]
  · by_cases h : i = j
    · simp [sgn, h, fEq]
    · cases hd : f.d <;> by_cases hl : i < j <;> simp [sgn, h, fEq, vlt, hl, hd]
  · by_cases h : x = y
    · simp [sgn, h, fEq]
    · cases hd : f.d <;> cases hl : HT.lexLt x y <;> simp [sgn, h, fEq, vlt, hl, hd]
/-! a loop that returns the first that is not 0 -/
theorem forL_fnz {g : GV} {b : SV} {M : List MO} (I : EN → Prop) : ∀ (ds : List D) (cs : List Int) (e : EN), ds.length = cs.length → I e →
    (∀ (j : Nat) d c, ds[j]? = some d → cs[j]? = some c → ∀ e, I e → ∃ e1, g d e = some e1 ∧ (if c = 0 then ∃ e2, b e1 M = .nx e2 M ∧ I e2 else b e1 M = .ret (.int c) M)) →
    (if fnz cs = 0 then ∃ e', forL g b ds e M = .nx e' M ∧ I e' else forL g b ds e M = .ret (.int (fnz cs)) M)
  | [], [], e, _, h, _ => by simp [fnz, forL, h]
  | [], _ :: _, _, h, _, _ => by simp at h
  | _ :: _, [], _, h, _, _ => by simp at h
  | d :: ds, c :: cs, e, hl, h, hs => by
    obtain ⟨e1, h1, h2⟩ := hs 0 d c rfl rfl e h
    by_cases hc : c = 0
    · rw [if_pos hc] at h2
      obtain ⟨e2, h3, h4⟩ := h2
      have ih := forL_fnz I ds cs e2 (by simpa using hl) h4 fun j d c hd hc => hs (j + 1) d c (by simpa using hd) (by simpa using hc)
      simp only [fnz, if_pos hc]
      unfold forL
      simp only [h1, h3, RS.turn_nx]
      exact ih
    · rw [if_neg hc] at h2
      simp only [fnz, if_neg hc]
      unfold forL
      simp only [h1, h2, RS.turn_ret]
theorem sgs_length {fs : List Fd} {as bs : List Vl} (ha : okR fs as) (hb : okR fs bs) : (sgs fs as bs).length = fs.length := by
  induction ha generalizing bs with
  | nil => rfl
  | cons h1 h2 ih => cases hb with | cons h3 h4 => simp [sgs, ih h4]
theorem sgs_get : ∀ {fs : List Fd} {as bs : List Vl} {i : Nat} {f : Fd} {a b : Vl}, fs[i]? = some f → as[i]? = some a → bs[i]? = some b → (sgs fs as bs)[i]? = some (sgn f a b)
  | [], _, _, _, _, _, _, h, _, _ => by simp at h
  | _ :: _, [], _, _, _, _, _, _, h, _ => by simp at h
  | _ :: _, _ :: _, [], _, _, _, _, _, _, h => by simp at h
  | f :: fs, a :: as, b :: bs, 0, _, _, _, h1, h2, h3 => by
    simp at h1 h2 h3; subst h1 h2 h3; rfl
  | f :: fs, a :: as, b :: bs, i + 1, _, _, _, h1, h2, h3 => by
    simp only [sgs, List.getElem?_cons_succ] at h1 h2 h3 ⊢
    exact sgs_get h1 h2 h3
@[simp] theorem ev_zip3 (ea : EA) (e : EN) (M : List MO) : eZip3 ea e M = (ea e M).bind fun ds M1 => match ds with
  | [.tup a, .tup b, .tup c] => if a.length = b.length ∧ a.length = c.length then .ok (.snap (zipD3 a b c)) M1 else .stuck
  | _ => .stuck := rfl
theorem zipD3_len : ∀ (fs : List Fd) (as bs : List Vl), okR fs as → okR fs bs → (zipD3 (fs.map Fd.dd) (as.map Vl.dd) (bs.map Vl.dd)).length = fs.length
  | [], _, _, h, h' => by cases h; cases h'; rfl
  | f :: fs, _, _, h, h' => by
    cases h with
    | cons h1 h2 => cases h' with | cons h3 h4 => simp [zipD3, zipD3_len fs _ _ h2 h4]
theorem zipD3_at : ∀ (fs : List Fd) (as bs : List Vl), okR fs as → okR fs bs → ∀ (j : Nat) (d : D), (zipD3 (fs.map Fd.dd) (as.map Vl.dd) (bs.map Vl.dd))[j]? = some d → ∃ f a b, fs[j]? = some f ∧ as[j]? = some a ∧ bs[j]? = some b ∧ okV f a ∧ okV f b ∧ d = .tup [f.dd, a.dd, b.dd]
  | [], _, _, h, h', j, d, hd => by cases h; cases h'; simp [zipD3] at hd
  | f :: fs, _, _, h, h', j, d, hd => by
    cases h with
    | cons h1 h2 =>
      cases h' with
      | cons h3 h4 =>
        cases j with
        | zero => simp [zipD3] at hd; exact ⟨_, _, _, rfl, rfl, rfl, h1, h3, hd.symm⟩
        | succ j => simp only [List.map_cons, zipD3, List.getElem?_cons_succ] at hd ⊢; exact zipD3_at fs _ _ h2 h4 j d hd
theorem compare_rows_eq {fs : List Fd} {as bs : List Vl} (h1 : 1 ≤ fs.length) (h2 : fs.length ≤ 4) (ha : okR fs as) (hb : okR fs bs) (M : List MO) : m_compare_rows [sch fs, rowd as, rowd bs] M = .ok (.int (cmpR fs as bs)) M := by
  have key := forL_fnz (g := gT [3, 4, 5]) (b := (sSeq (sSet 6 (eArgs m_compare_values (eCons (eVar 3) (eCons (eVar 4) (eCons (eVar 5) eNil)))))
    (sIf (eTest (eBin fNe (eVar 6) (eC (.int 0)))) (sRet (eVar 6)) sNil))) (M := M) (fun e => ∃ p q r t, e = [some (sch fs), some (rowd as), some (rowd bs), p, q, r, t]) (zipD3 (fs.map Fd.dd) (as.map Vl.dd) (bs.map Vl.dd)) (sgs fs as bs) [some (sch fs), some (rowd as), some (rowd bs), none, none, none, none]
    (by rw [zipD3_len fs as bs ha hb, sgs_length ha hb]) ⟨_, _, _, _, rfl⟩ (fun j d c hd hc e he => by
      obtain ⟨f, a, b, q1, q2, q3, o1, o2, rfl⟩ := zipD3_at fs as bs ha hb j d hd
      rw [sgs_get q1 q2 q3] at hc
      cases hc
      obtain ⟨p, q, r, t, rfl⟩ := he
      refine ⟨_, rfl, ?_⟩
      have e1 := fun M => compare_values_eq o1 o2 M
      split
      · rename_i hz
        rw [hz] at e1
        exact ⟨[some (sch fs), some (rowd as), some (rowd bs), some f.dd, some a.dd, some b.dd, some (.int 0)], by simp [e1, fNe], _, _, _, _, rfl⟩
      · rename_i hz
        simp [e1, fNe, hz])
  have c0 := check_scheme_eq h1 h2 M
  have c1 := check_row_eq ha h2 M
  have c2 := check_row_eq hb h2 M
  have l1 := F2.length ha
  have l2 := F2.length hb
  simp only [m_compare_rows, mOf, sv_compare_rows, startE]
  simp only [sch, rowd] at key c0 c1 c2 ⊢
  unfold cmpR
  split at key
  · rename_i hz
    obtain ⟨e', k1, _⟩ := key
    simp [c0, c1, c2, l1.symm, l2.symm, k1, hz]
  · rename_i hz
    simp [c0, c1, c2, l1.symm, l2.symm, key]
theorem law_compare_eq {fs : List Fd} {as bs : List Vl} (h2 : fs.length ≤ 4) (ha : okR fs as) (hb : okR fs bs) (M : List MO) : m__law_compare [sch fs, rowd as, rowd bs] M = .ok (.int (cmpR fs as bs)) M := by
  have key := forL_fnz (g := gN 3) (b := (sSeq (sSet 4 (eArgs m__law_sign (eCons (eBin fIx (eVar 0) (eVar 3)) (eCons (eBin fIx (eVar 1) (eVar 3)) (eCons (eBin fIx (eVar 2) (eVar 3)) eNil)))))
    (sIf (eTest (eBin fNe (eVar 4) (eC (.int 0)))) (sRet (eVar 4)) sNil))) (M := M) (fun e => ∃ p q, e = [some (sch fs), some (rowd as), some (rowd bs), p, q]) (rangeD 0 fs.length) (sgs fs as bs) [some (sch fs), some (rowd as), some (rowd bs), none, none]
    (by rw [rangeD_length, sgs_length ha hb]) ⟨_, _, rfl⟩ (fun j d c hd hc e he => by
      obtain ⟨hj, rfl⟩ := rangeD_at hd
      have q1 : fs[j]? = some fs[j] := List.getElem?_eq_getElem hj
      obtain ⟨a, q2, o1⟩ := F2.get ha q1
      obtain ⟨b, q3, o2⟩ := F2.get hb q1
      rw [sgs_get q1 q2 q3] at hc
      cases hc
      have a1 : atI (fs.map Fd.dd) (j : Int) = some fs[j].dd := atI_nat (by rw [List.getElem?_map, q1]; rfl)
      have a2 : atI (as.map Vl.dd) (j : Int) = some a.dd := atI_nat (by rw [List.getElem?_map, q2]; rfl)
      have a3 : atI (bs.map Vl.dd) (j : Int) = some b.dd := atI_nat (by rw [List.getElem?_map, q3]; rfl)
      obtain ⟨p, q, rfl⟩ := he
      refine ⟨_, rfl, ?_⟩
      have e1 := fun M => law_sign_eq o1 o2 M
      split
      · rename_i hz
        rw [hz] at e1
        exact ⟨[some (sch fs), some (rowd as), some (rowd bs), some (.int (j : Int)), some (.int 0)], by simp [sch, rowd, a1, a2, a3, e1, fNe], _, _, rfl⟩
      · rename_i hz
        simp [sch, rowd, a1, a2, a3, e1, fNe, hz])
  have hr : rgOk (fs.length : Int) = true := decide_eq_true (by omega)
  simp only [m__law_compare, mOf, sv__law_compare, startE]
  simp only [sch, rowd] at key ⊢
  unfold cmpR
  split at key
  · rename_i hz
    obtain ⟨e', k1, _⟩ := key
    simp [hr, k1, hz]
  · rename_i hz
    simp [hr, key]
/-! ### it is an order -/
theorem sgn_self (f : Fd) (a : Vl) : sgn f a a = 0 := by simp [sgn]
theorem sgn_cases (f : Fd) (a b : Vl) : sgn f a b = 0 ∨ sgn f a b = -1 ∨ sgn f a b = 1 := by
  unfold sgn
  by_cases h1 : a = b
  · simp [h1]
  · simp only [h1, if_false]
    split <;> split <;> simp
theorem sgn_zero {f : Fd} {a b : Vl} : sgn f a b = 0 ↔ a = b := by
  constructor
  · intro h
    by_cases h1 : a = b
    · exact h1
    · unfold sgn at h
      rw [if_neg h1] at h
      split at h <;> split at h <;> simp at h
  · rintro rfl; exact sgn_self f a
theorem vlt_flip {f : Fd} {a b : Vl} (ha : okV f a) (hb : okV f b) (h : a ≠ b) (h1 : a ≠ .non) (h2 : b ≠ .non) : vlt b a = !vlt a b := by
  rcases okV_same ha hb with rfl | rfl | ⟨i, j, rfl, rfl⟩ | ⟨x, y, rfl, rfl⟩
  · exact absurd rfl h1
  · exact absurd rfl h2
  · have : i ≠ j := fun z => h (by rw [z])
    simp only [vlt]
    by_cases q : i < j
    · have q2 : ¬ j < i := by omega
      simp [q, q2]
    · have q2 : j < i := by omega
      simp [q, q2]
  · have : x ≠ y := fun z => h (by rw [z])
    simp only [vlt]
    cases q : HT.lexLt x y with
    | true => rw [lexLt_asymm _ _ q]; rfl
    | false =>
      cases q2 : HT.lexLt y x with
      | true => rfl
      | false => exact absurd (lexLt_total _ _ q q2) this
theorem sgn_flip {f : Fd} {a b : Vl} (ha : okV f a) (hb : okV f b) : sgn f b a = - sgn f a b := by
  by_cases h : a = b
  · subst h; simp [sgn_self]
  · have h' : ¬ b = a := fun z => h z.symm
    unfold sgn
    rw [if_neg h, if_neg h']
    by_cases h1 : a = .non
    · subst h1
      by_cases hf : f.n = .first <;> simp [hf, h']
    · by_cases h2 : b = .non
      · subst h2
        by_cases hf : f.n = .first <;> simp [hf, h]
      · have z1 : ¬ (b = .non ∨ a = .non) := by simp [h1, h2]
        have z2 : ¬ (a = .non ∨ b = .non) := by simp [h1, h2]
        rw [if_neg z1, if_neg z2, vlt_flip ha hb h h1 h2]
        cases vlt a b <;> cases f.d <;> simp
theorem vlt_trans {a b c : Vl} (h1 : vlt a b = true) (h2 : vlt b c = true) : vlt a c = true := by
  cases a <;> cases b <;> cases c <;> simp only [vlt, decide_eq_true_eq, Bool.false_eq_true] at h1 h2 ⊢
  · omega
  · exact lexLt_trans _ _ _ h1 h2
theorem sgn_lt {f : Fd} {a b : Vl} (ha : okV f a) (hb : okV f b) (h : sgn f a b = -1) : a ≠ b ∧ ((a = .non ∧ f.n = .first) ∨ (b = .non ∧ f.n ≠ .first) ∨ (a ≠ .non ∧ b ≠ .non ∧ (if f.d then vlt b a = true else vlt a b = true))) := by
  have hne : a ≠ b := by rintro rfl; rw [sgn_self] at h; cases h
  refine ⟨hne, ?_⟩
  unfold sgn at h
  rw [if_neg hne] at h
  by_cases h1 : a = .non
  · subst h1
    by_cases hf : f.n = .first
    · exact .inl ⟨rfl, hf⟩
    · simp [hf] at h
  · by_cases h2 : b = .non
    · subst h2
      by_cases hf : f.n = .first
      · simp [hf, h1] at h
      · exact .inr (.inl ⟨rfl, hf⟩)
    · refine .inr (.inr ⟨h1, h2, ?_⟩)
      rw [if_neg (by simp [h1, h2])] at h
      rw [vlt_flip ha hb hne h1 h2]
      cases q : vlt a b <;> cases q2 : f.d <;> simp [q, q2] at h ⊢
theorem sgn_of {f : Fd} {a b : Vl} (ha : okV f a) (hb : okV f b) (hne : a ≠ b) (h : (a = .non ∧ f.n = .first) ∨ (b = .non ∧ f.n ≠ .first) ∨ (a ≠ .non ∧ b ≠ .non ∧ (if f.d then vlt b a = true else vlt a b = true))) : sgn f a b = -1 := by
  unfold sgn
  rw [if_neg hne]
  rcases h with ⟨rfl, h⟩ | ⟨rfl, h⟩ | ⟨h1, h2, h⟩
  · simp [h]
  · have : ¬ a = .non := hne
    simp [h, this]
  · rw [if_neg (by simp [h1, h2])]
    rw [vlt_flip ha hb hne h1 h2] at h
    cases q : vlt a b <;> cases q2 : f.d <;> simp [q, q2] at h ⊢
theorem sgn_trans {f : Fd} {a b c : Vl} (ha : okV f a) (hb : okV f b) (hc : okV f c) (h1 : sgn f a b = -1) (h2 : sgn f b c = -1) : sgn f a c = -1 := by
  obtain ⟨n1, k1⟩ := sgn_lt ha hb h1
  obtain ⟨n2, k2⟩ := sgn_lt hb hc h2
  have hne : a ≠ c := by
    rintro rfl
    rw [sgn_flip ha hb, h1] at h2
    cases h2
  apply sgn_of ha hc hne
  rcases k1 with k1 | ⟨rfl, k1⟩ | ⟨x1, x2, k1⟩
  · exact .inl k1
  · rcases k2 with ⟨_, k2⟩ | ⟨k2, _⟩ | ⟨k2, _⟩
    · exact absurd k2 k1
    · exact absurd k2.symm n2
    · exact absurd rfl k2
  · rcases k2 with ⟨rfl, k2⟩ | k2 | ⟨y1, y2, k2⟩
    · exact absurd rfl x2
    · exact .inr (.inl k2)
    · refine .inr (.inr ⟨x1, y2, ?_⟩)
      cases hd : f.d
      · simp [hd] at k1 k2 ⊢; exact vlt_trans k1 k2
      · simp [hd] at k1 k2 ⊢; exact vlt_trans k2 k1
theorem cmpR_cons (f : Fd) (fs : List Fd) (a b : Vl) (as bs : List Vl) : cmpR (f :: fs) (a :: as) (b :: bs) = if sgn f a b = 0 then cmpR fs as bs else sgn f a b := rfl
theorem cmpR_cases : ∀ (fs : List Fd) (as bs : List Vl), cmpR fs as bs = 0 ∨ cmpR fs as bs = -1 ∨ cmpR fs as bs = 1
  | [], _, _ => .inl rfl
  | _ :: _, [], _ => .inl rfl
  | _ :: _, _ :: _, [] => .inl rfl
  | f :: fs, a :: as, b :: bs => by
    rw [cmpR_cons]
    split
    · exact cmpR_cases fs as bs
    · exact sgn_cases f a b
theorem cmpR_zero {fs : List Fd} {as bs : List Vl} (ha : okR fs as) (hb : okR fs bs) : cmpR fs as bs = 0 ↔ as = bs := by
  induction ha generalizing bs with
  | nil => cases hb; simp [cmpR, sgs, fnz]
  | cons h1 h2 ih =>
    cases hb with
    | cons h3 h4 =>
      rw [cmpR_cons]
      split
      · rename_i hz
        rw [sgn_zero] at hz
        subst hz
        rw [ih h4]
        simp
      · rename_i hz
        rw [sgn_zero] at hz
        simp only [List.cons.injEq, hz, false_and, iff_false]
        intro z
        exact hz (sgn_zero.mp z)
theorem cmpR_flip {fs : List Fd} {as bs : List Vl} (ha : okR fs as) (hb : okR fs bs) : cmpR fs bs as = - cmpR fs as bs := by
  induction ha generalizing bs with
  | nil => cases hb; rfl
  | @cons f a fs as h1 h2 ih =>
    cases hb with
    | @cons _ b _ bs h3 h4 =>
      rw [cmpR_cons, cmpR_cons, sgn_flip h1 h3, ih h4]
      by_cases hz : sgn f a b = 0
      · rw [if_pos hz, if_pos (by rw [hz]; rfl)]
      · rw [if_neg hz, if_neg (by omega)]
theorem cmpR_trans {fs : List Fd} {as bs cs : List Vl} (ha : okR fs as) (hb : okR fs bs) (hc : okR fs cs) (h1 : cmpR fs as bs ≤ 0) (h2 : cmpR fs bs cs ≤ 0) : cmpR fs as cs ≤ 0 := by
  induction ha generalizing bs cs with
  | nil => cases hb; cases hc; decide
  | @cons f a fs as p1 p2 ih =>
    cases hb with
    | @cons _ b _ bs p3 p4 =>
      cases hc with
      | @cons _ c _ cs p5 p6 =>
        rw [cmpR_cons] at h1 h2 ⊢
        by_cases z1 : sgn f a b = 0
        · rw [if_pos z1] at h1
          rw [sgn_zero] at z1
          subst z1
          by_cases z2 : sgn f a c = 0
          · rw [if_pos z2] at h2 ⊢; exact ih p4 p6 h1 h2
          · rw [if_neg z2] at h2 ⊢; exact h2
        · rw [if_neg z1] at h1
          have q1 : sgn f a b = -1 := by rcases sgn_cases f a b with h | h | h <;> omega
          by_cases z2 : sgn f b c = 0
          · rw [sgn_zero] at z2
            subst z2
            rw [if_neg z1]; exact h1
          · rw [if_neg z2] at h2
            have q2 : sgn f b c = -1 := by rcases sgn_cases f b c with h | h | h <;> omega
            have q3 := sgn_trans p1 p3 p5 q1 q2
            rw [if_neg (by omega)]; omega
end KB
namespace KB
open PySem PySem.Spec PyProof.Rows L2
theorem okD_row (vs : List Vl) : okD 2 (rowd vs) := okD_tup fun d h => by
  obtain ⟨v, _, rfl⟩ := List.mem_map.mp h
  exact okD1 v
@[simp] theorem shp_row (vs : List Vl) : shp (rowd vs) = true := (okD_row vs).shp
@[simp] theorem res_row (M : List MO) (vs : List Vl) : res M (rowd vs) = rowd vs := rfl
theorem eqvAll_row {fs : List Fd} {as bs : List Vl} (ha : okR fs as) (hb : okR fs bs) : PyData.eqvAll (toPs (as.map Vl.dd)) (toPs (bs.map Vl.dd)) = decide (as = bs) := by
  induction ha generalizing bs with
  | nil => cases hb; simp [toPs, PyData.eqvAll]
  | @cons f a fs as h1 h2 ih =>
    cases hb with
    | @cons _ b _ bs h3 h4 =>
      have e1 : PyData.eqv (toP a.dd) (toP b.dd) = decide (a = b) := dEqv_v h1 h3
      simp only [List.map_cons, toPs, PyData.eqvAll, ih h4, e1]
      by_cases q1 : a = b <;> by_cases q2 : as = bs <;> simp [q1, q2]
theorem dEqv_row {fs : List Fd} {as bs : List Vl} (ha : okR fs as) (hb : okR fs bs) : dEqv (rowd as) (rowd bs) = decide (as = bs) := by
  simp only [dEqv, rowd, toP, PyData.eqv]
  exact eqvAll_row ha hb
theorem fEq_row {fs : List Fd} {as bs : List Vl} (ha : okR fs as) (hb : okR fs bs) (M : List MO) : fEq (rowd as) (rowd bs) M = .ok (.bl (decide (as = bs))) M := by
  simp [fEq, dEqv_row ha hb]
theorem fNe_row {fs : List Fd} {as bs : List Vl} (ha : okR fs as) (hb : okR fs bs) (M : List MO) : fNe (rowd as) (rowd bs) M = .ok (.bl (!decide (as = bs))) M := by
  simp [fNe, dEqv_row ha hb]
theorem app_at {M : List MO} {n : Nat} {ds : List D} {x : D} (h : M[n]? = some (.lst ds)) (hb : ds.length < big) : fAppend (.cell n) [x] M = .ok .non (M.set n (.lst (ds ++ [x]))) := by
  simp [fAppend, h, hb]
theorem pickC_eq (s : DS) (n : Nat) (xs : List D) (h : xs ≠ []) (h2 : xs.length ≤ 1000000) (Rm : List MO) (hM : Rm[n]? = some (.lst xs)) : ∃ x s', m__law_pick [.cell 1, .cell (n + 2)] (DM s Rm) = .ok x (DM s' Rm) ∧ x ∈ xs := by
  have hl : (0 : Int) < (xs.length : Int) := by
    have : xs.length ≠ 0 := fun z => h (List.eq_nil_of_length_eq_zero z)
    omega
  obtain ⟨r, s', e, h3, h4⟩ := draw_eq s (xs.length : Int) hl (by omega) Rm
  obtain ⟨x, hx, ha, _⟩ := atI_in (xs := xs) h3 h4
  have r1 : ∀ s : DS, res (DM s Rm) (.cell (n + 2)) = .lst xs := fun s => res_at (by rw [DM_at]; exact hM)
  refine ⟨x, s', ?_, hx⟩
  simp [m__law_pick, mOf, sv__law_pick, startE, fLen, fIx, r1, e, ha]
end KB
namespace KB
open PySem PySem.Spec PyProof.Rows L2
/-! ### lists of ints -/
def il (a : List Int) : D := .lst (a.map .int)
@[simp] theorem il_nil : D.lst [] = il [] := rfl
@[simp] theorem il_one (x : Int) : D.lst [.int x] = il [x] := rfl
@[simp] theorem il_two (x y : Int) : D.lst [.int x, .int y] = il [x, y] := rfl
@[simp] theorem il_map (a : List Int) : D.lst (a.map .int) = il a := rfl
@[simp] theorem bs_map (a : List Int) : D.tup (a.map .int) = bs a := rfl
@[simp] theorem bs_two (x y : Int) : D.tup [.int x, .int y] = bs [x, y] := rfl
section
variable (M : List MO) (a b : List Int)
@[simp] theorem res_il : res M (il a) = il a := rfl
@[simp] theorem fAdd_il : fAdd (il a) (il b) M = if a.length + b.length ≤ big then .ok (il (a ++ b)) M else .stuck := by
  unfold il; rw [fAdd_lst, List.length_map, List.length_map, List.map_append]
@[simp] theorem fIAdd_bs : fIAdd (bs a) (bs b) M = if a.length + b.length ≤ big then .ok (bs (a ++ b)) M else .stuck := by
  unfold bs; rw [fIAdd_tup, List.length_map, List.length_map, List.map_append]
@[simp] theorem srcOf_il : srcOf (il a) M = .ok (.snap (a.map .int)) M := rfl
@[simp] theorem fTuple_il : fTuple [il a] M = .ok (bs a) M := rfl
@[simp] theorem fList_bs : fList [bs a] M = .ok (il a) M := rfl
@[simp] theorem fLen_il : fLen [il a] M = .ok (.int a.length) M := by unfold il; rw [fLen_lst, List.length_map]
@[simp] theorem fRev_il : fRev (il a) M = .ok (il a.reverse) M := by
  unfold il; simp only [fRev, res_lst]; rw [List.map_reverse]
@[simp] theorem fRev_bs : fRev (bs a) M = .ok (bs a.reverse) M := by
  unfold bs; simp only [fRev, res_tup]; rw [List.map_reverse]
@[simp] theorem fLst'_ints : fLst' (a.map .int) M = .ok (il a) M := rfl
@[simp] theorem shp_il : shp (il a) = true := shp_ints a
@[simp] theorem dEqv_il : dEqv (il a) (il b) = decide (a = b) := dEqv_ints a b
end
theorem set_snoc {α : Type} (M : List α) (x y : α) : (M ++ [x]).set M.length y = M ++ [y] := by
  rw [List.set_append_right _ _ (Nat.le_refl _)]
  simp
theorem get_snoc {α : Type} (M : List α) (x : α) : (M ++ [x])[M.length]? = some x := by simp
theorem flp_comp (e : EN) (a : List Int) (i : Nat) (h : e.length > i) (ha : a.length ≤ big) (M : List MO) : compL (gN i) eYes (eBin fSub (eC (.int 255)) (eVar i)) e (a.map .int) [] M = .ok ((flp a).map .int) M := by
  have key := compL_map (c := D.int) (g := gN i) (el := (eBin fSub (eC (.int 255)) (eVar i))) (e := e) (M := M) (fun x => .int (255 - x)) a ha (fun x _ => ⟨_, rfl, by simp [h]⟩)
  rw [key]
  simp [flp]
theorem flipped_eq (a : List Int) (ha : a.length ≤ 1000) (M : List MO) : m_flipped [bs a] M = .ok (bs (flp a)) M := by
  have key := flp_comp [some (bs a), none] a 1 (by simp) (by unfold big; omega) M
  simp [m_flipped, mOf, sv_flipped, startE, wipeE, key]
/-! ### digits -/
theorem dig_head : ∀ (j v : Nat), dig (j + 1) v = ((v / 256 ^ j % 256 : Nat) : Int) :: dig j v
  | 0, v => by simp [dig]
  | j + 1, v => by
    rw [dig, dig_head j (v / 256)]
    rw [Nat.div_div_eq_div_mul, ← Nat.pow_add_one']
    simp [dig]
theorem digits_of_eq (v c : Nat) (hc : c ≤ 1000) (M : List MO) : ∃ J, m_digits_of [.int (v : Int), .int (c : Int)] M = .ok (bs (dig c v)) (M ++ J) := by
  obtain ⟨e', M', f1, o, rfl, rfl⟩ := forL_ix (g := gN 3) (b := (sSeq (sExpr (eMeth ckL fAppend (eVar 2) (eCons (eBin fMod (eVar 0) (eC (.int 256))) eNil))) (sAug 0 fIFdiv (eC (.int 256))))) (fun i e M' => ∃ o, e = [some (.int ((v / 256 ^ i : Nat) : Int)), some (.int (c : Int)), some (.cell M.length), o] ∧ M' = M ++ [.lst ((dig i v).reverse.map .int)]) (rangeD 0 c) 0 [some (.int (v : Int)), some (.int (c : Int)), some (.cell M.length), none] (M ++ [.lst []]) ⟨none, by simp, by simp [dig]⟩ (fun j d hd e M' hI => by
    obtain ⟨hj, rfl⟩ := rangeD_at hd
    obtain ⟨o, rfl, rfl⟩ := hI
    refine ⟨_, [some (.int ((v / 256 ^ (0 + j + 1) : Nat) : Int)), some (.int (c : Int)), some (.cell M.length), some (.int (0 + (j : Nat)))], M ++ [.lst ((dig (0 + j + 1) v).reverse.map .int)], rfl, .inl ?_, some (.int (0 + (j : Nat))), rfl, rfl⟩
    have hM := get_snoc M (MO.lst ((dig (0 + j) v).reverse.map .int))
    have ck : ckL (.cell M.length) (M ++ [.lst ((dig (0 + j) v).reverse.map .int)]) = true := by simp only [ckL, res_at hM]
    have ap := app_at (x := .int ((v / 256 ^ (0 + j) % 256 : Nat) : Int)) hM (by simp [big]; omega)
    rw [set_snoc] at ap
    have dh := dig_head (0 + j) v
    have e1 : (((v / 256 ^ (0 + j) : Nat) : Int) % 256) = ((v / 256 ^ (0 + j) % 256 : Nat) : Int) := by omega
    have e2 : (((v / 256 ^ (0 + j) : Nat) : Int) / 256) = ((v / 256 ^ (0 + j + 1) : Nat) : Int) := by
      rw [Nat.pow_succ, ← Nat.div_div_eq_div_mul]; omega
    have cd : cDivS ((v / 256 ^ (0 + j) : Nat) : Int) 256 = true := decide_eq_true (by decide)
    have e3 : (dig (0 + j + 1) v).reverse.map D.int = (dig (0 + j) v).reverse.map D.int ++ [.int ((v / 256 ^ (0 + j) % 256 : Nat) : Int)] := by rw [dh]; simp
    rw [e3]
    generalize (dig (0 + j) v).reverse.map D.int = ds at *
    generalize hq : ((v / 256 ^ (0 + j) : Nat) : Int) = q at *
    generalize ((v / 256 ^ (0 + j) % 256 : Nat) : Int) = q1 at *
    generalize ((v / 256 ^ (0 + j + 1) : Nat) : Int) = q2 at *
    simp [ck, e1, ap, cd, e2])
  rw [rangeD_length, Nat.zero_add] at f1
  refine ⟨[.lst ((dig c v).reverse.map .int)], ?_⟩
  have hr : rgOk (c : Int) = true := decide_eq_true (by omega)
  have hM := get_snoc M (MO.lst ((dig c v).reverse.map .int))
  have hrev : fRev (.cell M.length) (M ++ [.lst ((dig c v).reverse.map .int)]) = .ok (il (dig c v)) (M ++ [.lst ((dig c v).reverse.map .int)]) := by
    simp only [fRev, res_at hM]
    rw [← List.map_reverse, List.reverse_reverse]
    rfl
  have fc : fCell [] M = .ok (.cell M.length) (M ++ [.lst []]) := by simp [fCell]
  simp only [m_digits_of, mOf, sv_digits_of, startE]
  clear hM
  generalize (dig c v).reverse.map D.int = ds at *
  simp [fc, hr]
  rw [f1]
  simp [hrev]
/-! ### the spec -/
def pl (k : Kd) : Vl → List Int
  | .non => []
  | .num i => if k = .int then encI i else if k.lit then (dig k.size i.natAbs).reverse else dig k.size i.natAbs
  | .byt b => if k = .closed then cl b else if k = .counted then (b.length : Int) :: b else b
def dirv (d : Bool) (a : List Int) : List Int := if d then flp a else a
def mk (n : Nl) : List Int := if n = .none then [] else [1]
def enc (f : Fd) : Vl → List Int
  | .non => [if f.n = .first then 0 else 2]
  | v => mk f.n ++ dirv f.d (pl f.k v)
theorem enc_v {f : Fd} {v : Vl} (h : v ≠ .non) : enc f v = mk f.n ++ dirv f.d (pl f.k v) := by cases v <;> first | rfl | exact absurd rfl h
def encR : List Fd → List Vl → List Int
  | f :: fs, v :: vs => enc f v ++ encR fs vs
  | _, _ => []
theorem By.flp {a : List Int} (h : By a) : By (KB.flp a) := fun b hb => by
  obtain ⟨x, hx, rfl⟩ := List.mem_map.mp hb
  have := h x hx
  omega
theorem By.rev {a : List Int} (h : By a) : By a.reverse := fun b hb => h b (by simpa using hb)
theorem pl_by {f : Fd} {v : Vl} (h : okV f v) : By (pl f.k v) ∧ (pl f.k v).length ≤ 82 := by
  obtain ⟨k, d, n⟩ := f
  cases v with
  | non => exact ⟨By.nil, by simp [pl]⟩
  | num i =>
    simp only [pl]
    have hs : k.size ≤ 4 := by cases k <;> decide
    split
    · exact ⟨encI_by i, by rw [encI_len]; have := cnt_le i.natAbs; omega⟩
    · split
      · exact ⟨By.rev (dig_by _ _), by simp; omega⟩
      · exact ⟨dig_by _ _, by simp; omega⟩
  | byt b =>
    simp only [okV] at h
    obtain ⟨h1, h2, h3⟩ := h
    have h4 : k.lim ≤ 40 := by cases k <;> decide
    simp only [pl]
    split
    · exact ⟨cl_by h2, by have := cl_len b; omega⟩
    · split
      · exact ⟨By.cons (by omega) h2, by simp; omega⟩
      · exact ⟨h2, by omega⟩
theorem dirv_by {a : List Int} (d : Bool) (h : By a) : By (dirv d a) := by
  unfold dirv; split
  · exact h.flp
  · exact h
@[simp] theorem dirv_len (d : Bool) (a : List Int) : (dirv d a).length = a.length := by unfold dirv; split <;> simp
theorem enc_by {f : Fd} {v : Vl} (h : okV f v) : By (enc f v) ∧ (enc f v).length ≤ 83 := by
  by_cases hv : v = .non
  · subst hv
    simp only [enc]
    refine ⟨?_, by simp⟩
    intro b hb
    simp at hb
    subst hb
    split <;> omega
  · rw [enc_v hv]
    have := pl_by h
    refine ⟨By.append ?_ (dirv_by _ this.1), ?_⟩
    · unfold mk; split
      · exact By.nil
      · exact By.cons (by omega) By.nil
    · unfold mk; split <;> simp <;> omega
theorem encR_by {fs : List Fd} {vs : List Vl} (h : okR fs vs) : By (encR fs vs) ∧ (encR fs vs).length ≤ 83 * fs.length := by
  induction h with
  | nil => exact ⟨By.nil, by simp [encR]⟩
  | cons h1 h2 ih =>
    have := enc_by h1
    simp only [encR]
    exact ⟨this.1.append ih.1, by simp; omega⟩
theorem encR_append {fs fs' : List Fd} {vs vs' : List Vl} (h : okR fs vs) : encR (fs ++ fs') (vs ++ vs') = encR fs vs ++ encR fs' vs' := by
  induction h with
  | nil => rfl
  | cons h1 h2 ih => simp [encR, ih]
theorem encR_take_succ : ∀ {fs : List Fd} {vs : List Vl} {j : Nat} {f : Fd} {v : Vl}, fs[j]? = some f → vs[j]? = some v → encR (fs.take (j + 1)) (vs.take (j + 1)) = encR (fs.take j) (vs.take j) ++ enc f v
  | [], _, _, _, _, h, _ => by simp at h
  | _ :: _, [], _, _, _, _, h => by simp at h
  | f :: fs, v :: vs, 0, _, _, h, h' => by
    simp at h h'; subst h h'
    simp [encR]
  | f :: fs, v :: vs, j + 1, _, _, h, h' => by
    simp only [List.getElem?_cons_succ] at h h'
    have := encR_take_succ h h'
    simp only [List.take_succ_cons, encR] at this ⊢
    rw [this]
    simp
end KB
namespace KB
open PySem PySem.Spec PyProof.Rows L2
theorem absI (i : Int) : (if i < 0 then -i else i) = ((i.natAbs : Nat) : Int) := by split <;> omega
/-! ### encode_int -/
theorem cnt_loop (i : Int) (hi : i.natAbs < 256 ^ 8) (M : List MO) (o : Option D) : ∀ (n k j : Nat), cnt i.natAbs - j = n → j ≤ cnt i.natAbs → n + 1 ≤ k →
    whileN (eTest (eBin fLe (eArgs m_power (eCons (eVar 1) eNil)) (eArgs fAbs (eCons (eVar 0) eNil)))) (sAug 1 fIAdd (eC (.int 1))) k [some (.int i), some (.int (j : Int)), o] M = .nx [some (.int i), some (.int (cnt i.natAbs : Nat)), o] M
  | n, 0, j, _, _, h => by omega
  | n, k + 1, j, hn, hj, hk => by
    have hc := cnt_le i.natAbs
    have hp := power_eq j (by omega) M
    have hiff := cnt_iff j hi
    have hle : (pw j ≤ ((i.natAbs : Nat) : Int)) ↔ j < cnt i.natAbs := by
      rw [pw_nat]
      exact Iff.trans Int.ofNat_le hiff
    unfold whileN
    by_cases q : j < cnt i.natAbs
    · have hq := hle.mpr q
      rw [← absI] at hq
      simp only [ev_test, ev_bin, ev_args, ev_cons, ev_nil, ev_var, List.getElem?_cons_succ, List.getElem?_cons_zero, R.bind_ok, hp, fAbs_int, fLe_int, decide_eq_true hq, R.toS_ok, if_true, sv_aug, ev_c, fIAdd_int, List.set_cons_succ, List.set_cons_zero, RS.turn_nx]
      have := cnt_loop i hi M o (cnt i.natAbs - (j + 1)) k (j + 1) rfl q (by omega)
      rw [show ((j : Int) + 1) = ((j + 1 : Nat) : Int) from by omega]
      exact this
    · have hq : ¬ pw j ≤ ((i.natAbs : Nat) : Int) := fun z => q (hle.mp z)
      rw [← absI] at hq
      have : j = cnt i.natAbs := by omega
      subst this
      simp only [ev_test, ev_bin, ev_args, ev_cons, ev_nil, ev_var, List.getElem?_cons_succ, List.getElem?_cons_zero, R.bind_ok, hp, fAbs_int, fLe_int, decide_eq_false hq, R.toS_ok, Bool.false_eq_true, if_false]
theorem encode_int_eq (i : Int) (hi : i.natAbs < 256 ^ 8) (M : List MO) : ∃ J, m_encode_int [.int i] M = .ok (bs (encI i)) (M ++ J) := by
  have hc := cnt_le i.natAbs
  have hw := cnt_loop i hi M none (cnt i.natAbs) fuel 0 (by omega) (by omega) (by unfold fuel; omega)
  obtain ⟨J, hd⟩ := digits_of_eq i.natAbs (cnt i.natAbs) (by omega) M
  have hd2 : m_digits_of [.int (if i < 0 then -i else i), .int (cnt i.natAbs : Nat)] M = .ok (bs (dig (cnt i.natAbs) i.natAbs)) (M ++ J) := by rw [absI]; exact hd
  have hf := flipped_eq (dig (cnt i.natAbs) i.natAbs) (by simp; omega) (M ++ J)
  have hb : 1 + cnt i.natAbs ≤ big := by unfold big; omega
  refine ⟨J, ?_⟩
  simp only [m_encode_int, mOf, sv_encode_int, startE]
  simp at hw
  by_cases h0 : 0 ≤ i
  · simp [hw, hd2, h0, encI, hb]
  · simp [hw, hd2, h0, encI, hf, hb]
/-! ### plain -/
theorem cl_loop (M : List MO) (x0 x1 o4 : Option D) : ∀ (b acc : List Int) (o3 : Option D), acc.length + 2 * b.length ≤ 1000 →
    ∃ o3', forL (gN 3) (sAug 2 fIAdd (eIf (eTest (eBin fEq (eVar 3) (eC (.int 0)))) (eArgs fTup (eCons (eC (.int 0)) (eCons (eC (.int 255)) eNil))) (eArgs fTup (eCons (eVar 3) eNil)))) (b.map .int) [x0, x1, some (bs acc), o3, o4] M = .nx [x0, x1, some (bs (acc ++ cl0 b)), o3', o4] M
  | [], acc, o3, _ => ⟨o3, by simp [forL, cl0]⟩
  | x :: b, acc, o3, h => by
    by_cases hx : x = 0
    · obtain ⟨o3', ih⟩ := cl_loop M x0 x1 o4 b (acc ++ [0, 255]) (some (.int x)) (by simp at h ⊢; omega)
      refine ⟨o3', ?_⟩
      have hb : acc.length + 2 ≤ big := by simp at h; unfold big; omega
      subst hx
      simp [forL, fEq, hb, ih, cl0]
    · obtain ⟨o3', ih⟩ := cl_loop M x0 x1 o4 b (acc ++ [x]) (some (.int x)) (by simp at h ⊢; omega)
      refine ⟨o3', ?_⟩
      have hb : acc.length + 1 ≤ big := by simp at h; unfold big; omega
      simp [forL, fEq, hb, ih, cl0, hx]
theorem plain_eq {f : Fd} {v : Vl} (h : okV f v) (hv : v ≠ .non) (M : List MO) : ∃ J, m_plain [.str f.k.s, v.dd] M = .ok (bs (pl f.k v)) (M ++ J) := by
  obtain ⟨k, d, n⟩ := f
  simp only
  cases v with
  | non => exact absurd rfl hv
  | num i =>
    simp only [okV] at h
    rcases h with ⟨rfl, h⟩ | ⟨h1, h2, h3⟩
    · obtain ⟨J, e⟩ := encode_int_eq i h M
      exact ⟨J, by simp [m_plain, mOf, sv_plain, startE, fEq, e, pl]⟩
    · have h4 : k ≠ .int := by rintro rfl; cases h1
      have hs : k.size ≤ 4 := by cases k <;> decide
      obtain ⟨J, e⟩ := digits_of_eq i.natAbs k.size (by omega) M
      rw [show ((i.natAbs : Nat) : Int) = i from by omega] at e
      refine ⟨J, ?_⟩
      have hl : k.lit = !k.fix := by
        revert h1; cases k <;> decide
      cases hf : k.fix with
      | true => simp [m_plain, mOf, sv_plain, startE, fEq, e, pl, h4, h1, st_fixed, hf, hl]
      | false => simp [m_plain, mOf, sv_plain, startE, fEq, e, pl, h4, h1, st_fixed, hf, hl]
  | byt b =>
    simp only [okV] at h
    obtain ⟨h1, h2, h3⟩ := h
    have hlim : k.lim ≤ 40 := by cases k <;> decide
    have hk : k = .raw ∨ k = .closed ∨ k = .counted := by revert h1; cases k <;> decide
    have hb1 : 1 + b.length ≤ big := by unfold big; omega
    refine ⟨[], ?_⟩
    rw [List.append_nil]
    rcases hk with rfl | rfl | rfl
    · simp [m_plain, mOf, sv_plain, startE, fEq, pl, Kd.sized]
    · obtain ⟨o3, e⟩ := cl_loop M (some (.str Kd.closed.s)) (some (bs b)) none b [] none (by simp; omega)
      have := cl0_len b
      have hb2 : (cl0 b).length + 2 ≤ big := by unfold big; omega
      simp at e
      simp [m_plain, mOf, sv_plain, startE, fEq, pl, Kd.sized, e, hb2, cl]
    · simp [m_plain, mOf, sv_plain, startE, fEq, pl, Kd.sized, hb1]
theorem encode_value_eq {f : Fd} {v : Vl} (h : okV f v) (M : List MO) : ∃ J, m_encode_value [f.dd, v.dd] M = .ok (bs (enc f v)) (M ++ J) := by
  by_cases hv : v = .non
  · subst hv
    have hn : f.n ≠ .none := h
    refine ⟨[], ?_⟩
    simp [m_encode_value, mOf, sv_encode_value, startE, Fd.dd, enc, hn]
  · obtain ⟨J, e⟩ := plain_eq h hv M
    have hlen := (pl_by h).2
    have hf := flipped_eq (pl f.k v) (by omega) (M ++ J)
    have hb : 1 + (pl f.k v).length ≤ big := by unfold big; omega
    have hi : isNon v.dd = false := by cases v <;> first | rfl | exact absurd rfl hv
    refine ⟨J, ?_⟩
    rw [enc_v hv]
    by_cases hn : f.n = .none <;> cases hd : f.d <;> simp [m_encode_value, mOf, sv_encode_value, startE, Fd.dd, hi, e, fEq, hn, hd, mk, dirv, hf, hb]
theorem joined_loop {fs : List Fd} {vs : List Vl} (h : okR fs vs) (x0 x1 : Option D) : ∀ (acc : List Int) (o3 o4 : Option D) (M : List MO), acc.length + 83 * fs.length ≤ 1000 →
    ∃ J o3' o4', forL (gT [3, 4]) (sAug 2 fIAdd (eArgs m_encode_value (eCons (eVar 3) (eCons (eVar 4) eNil)))) (zipD (fs.map Fd.dd) (vs.map Vl.dd)) [x0, x1, some (bs acc), o3, o4] M = .nx [x0, x1, some (bs (acc ++ encR fs vs)), o3', o4'] (M ++ J) := by
  induction h with
  | nil => intro acc o3 o4 M _; exact ⟨[], o3, o4, by simp [zipD, forL, encR]⟩
  | @cons f v fs vs h1 h2 ih =>
    intro acc o3 o4 M hl
    obtain ⟨J, e⟩ := encode_value_eq h1 M
    have hlen := (enc_by h1).2
    obtain ⟨J2, p3, p4, e2⟩ := ih (acc ++ enc f v) (some f.dd) (some v.dd) (M ++ J) (by simp at hl ⊢; omega)
    refine ⟨J ++ J2, p3, p4, ?_⟩
    have hb : acc.length + (enc f v).length ≤ big := by simp at hl; unfold big; omega
    simp [zipD, forL, e, hb, encR]
    simp at e2
    exact e2
theorem joined_eq {fs : List Fd} {vs : List Vl} (h : okR fs vs) (hl : fs.length ≤ 4) (M : List MO) : ∃ J, m_joined [sch fs, rowd vs] M = .ok (bs (encR fs vs)) (M ++ J) := by
  obtain ⟨J, p3, p4, e⟩ := joined_loop h (some (sch fs)) (some (rowd vs)) [] none none M (by simp; omega)
  refine ⟨J, ?_⟩
  simp only [sch, rowd] at e ⊢
  simp only [List.nil_append] at e
  simp [m_joined, mOf, sv_joined, startE, e]
theorem encode_eq {fs : List Fd} {vs : List Vl} (h : okR fs vs) (h1 : 1 ≤ fs.length) (hl : fs.length ≤ 4) (M : List MO) : ∃ J, m_encode [sch fs, rowd vs] M = .ok (bs (encR fs vs)) (M ++ J) := by
  obtain ⟨J, e⟩ := joined_eq h hl M
  refine ⟨J, ?_⟩
  simp [m_encode, mOf, sv_encode, startE, check_scheme_eq h1 hl, check_row_eq h hl, e]
end KB
namespace KB
open PySem PySem.Spec PyProof.Rows L2
/-! ### the law's own encoder -/
theorem whileN_succ (c : EB) (b : SV) (k : Nat) (e : EN) (M : List MO) : whileN c b (k + 1) e M = (c e M).toS e fun q M1 => if q then (b e M1).turn (whileN c b k) else .nx e M1 := rfl
theorem min_loop (M : List MO) (x0 x1 o3 o5 : Option D) : ∀ (f n k : Nat) (acc : List Int), n < 256 ^ f → f + 1 ≤ k → acc.length + f ≤ 1000 →
    whileN (eTest (eBin fGt (eVar 4) (eC (.int 0)))) (sSeq (sSet 2 (eBin fAdd (eArgs fLst (eCons (eBin fMod (eVar 4) (eC (.int 256))) eNil)) (eVar 2))) (sSet 4 (eBin fFdiv (eVar 4) (eC (.int 256))))) k [x0, x1, some (il acc), o3, some (.int (n : Int)), o5] M = .nx [x0, x1, some (il (dig (cntF f n) n ++ acc)), o3, some (.int 0), o5] M
  | f, n, 0, acc, _, h, _ => by omega
  | 0, n, k + 1, acc, hn, hk, _ => by
    have : n = 0 := by simp at hn; exact hn
    subst this
    unfold whileN
    simp [cntF, dig]
  | f + 1, n, k + 1, acc, hn, hk, hl => by
    by_cases h0 : n = 0
    · subst h0
      unfold whileN
      simp [cntF, dig]
    · have h3 : n / 256 < 256 ^ f := by
        rw [Nat.pow_succ] at hn
        exact Nat.div_lt_of_lt_mul (by rw [Nat.mul_comm]; exact hn)
      have ih := min_loop M x0 x1 o3 o5 f (n / 256) k (((n % 256 : Nat) : Int) :: acc) h3 (by omega) (by simp; omega)
      have e0 := dig_cntF f n h0
      have hp : (0 : Int) < (n : Int) := by omega
      have hb : 1 + acc.length ≤ big := by unfold big; omega
      have e1 : ((n : Int) % 256) = ((n % 256 : Nat) : Int) := by omega
      have e2 : ((n : Int) / 256) = ((n / 256 : Nat) : Int) := by omega
      have cd : cDiv (n : Int) 256 = true := decide_eq_true (by decide)
      rw [e0]
      simp only [List.append_assoc, List.cons_append, List.nil_append]
      rw [← ih]
      generalize hq : ((n % 256 : Nat) : Int) = q at *
      generalize hq2 : ((n / 256 : Nat) : Int) = q2 at *
      rw [whileN_succ]
      have hd : decide ((0 : Int) < (n : Int)) = true := decide_eq_true hp
      simp only [ev_test, ev_bin, ev_c, ev_var, List.getElem?_cons_succ, List.getElem?_cons_zero, R.bind_ok, fGt_int, hd, R.toS_ok, if_true, sv_seq, sv_set, ev_args, ev_cons, ev_nil, fMod_int, if_pos (show (0 : Int) < 256 by decide), e1, fLst_eq, List.length_cons, List.length_nil, if_pos one_le_big, Nat.zero_add, il_one, fAdd_il, if_pos hb, List.set_cons_succ, List.set_cons_zero, RS.bind_nx, fFdiv_int, cd, e2, RS.turn_nx, List.cons_append, List.nil_append]
theorem dig_range : ∀ (c v : Nat), ((List.range c).map fun k => ((v / 256 ^ k % 256 : Nat) : Int)) = (dig c v).reverse
  | 0, v => rfl
  | c + 1, v => by
    rw [List.range_succ, List.map_append, dig_range c v, dig_head]
    simp
theorem clL_loop (M : List MO) (x0 x1 o4 o5 : Option D) : ∀ (b acc : List Int) (o3 : Option D), acc.length + 2 * b.length ≤ 1000 →
    ∃ o3', forL (gN 3) (sSet 2 (eBin fAdd (eVar 2) (eIf (eTest (eBin fEq (eVar 3) (eC (.int 0)))) (eArgs fLst (eCons (eC (.int 0)) (eCons (eC (.int 255)) eNil))) (eArgs fLst (eCons (eVar 3) eNil))))) (b.map .int) [x0, x1, some (il acc), o3, o4, o5] M = .nx [x0, x1, some (il (acc ++ cl0 b)), o3', o4, o5] M
  | [], acc, o3, _ => ⟨o3, by simp [forL, cl0]⟩
  | x :: b, acc, o3, h => by
    by_cases hx : x = 0
    · obtain ⟨o3', ih⟩ := clL_loop M x0 x1 o4 o5 b (acc ++ [0, 255]) (some (.int x)) (by simp at h ⊢; omega)
      refine ⟨o3', ?_⟩
      have hb : acc.length + 2 ≤ big := by simp at h; unfold big; omega
      subst hx
      simp [forL, fEq, hb, ih, cl0]
    · obtain ⟨o3', ih⟩ := clL_loop M x0 x1 o4 o5 b (acc ++ [x]) (some (.int x)) (by simp at h ⊢; omega)
      refine ⟨o3', ?_⟩
      have hb : acc.length + 1 ≤ big := by simp at h; unfold big; omega
      simp [forL, fEq, hb, ih, cl0, hx]
theorem law_plain_eq {f : Fd} {v : Vl} (h : okV f v) (hv : v ≠ .non) (M : List MO) : m__law_plain [.str f.k.s, v.dd] M = .ok (il (pl f.k v)) M := by
  obtain ⟨k, d, n⟩ := f
  simp only
  cases v with
  | non => exact absurd rfl hv
  | num i =>
    simp only [okV] at h
    rcases h with ⟨rfl, h⟩ | ⟨h1, h2, h3⟩
    · have hw := min_loop M (some (.str Kd.int.s)) (some (.int i)) none none 8 i.natAbs fuel [] h (by unfold fuel; omega) (by simp)
      have hc := cnt_le i.natAbs
      have hb : 1 + cnt i.natAbs ≤ big := by unfold big; omega
      simp only [List.append_nil] at hw
      rw [show cntF 8 i.natAbs = cnt i.natAbs from rfl, ← absI] at hw
      by_cases h0 : 0 ≤ i
      · have h0' : ¬ i < 0 := by omega
        simp only [h0', if_false] at hw
        simp [m__law_plain, mOf, sv__law_plain, startE, fEq, pl, hw, h0', encI, h0, hb]
      · have h0' : i < 0 := by omega
        simp only [h0', if_true] at hw
        have key := flp_comp [some (.str Kd.int.s), some (.int i), some (il (dig (cnt i.natAbs) i.natAbs)), none, some (.int 0), none] (dig (cnt i.natAbs) i.natAbs) 3 (by simp) (by simp; unfold big; omega) M
        simp [m__law_plain, mOf, sv__law_plain, startE, fEq, pl, hw, h0', encI, h0, hb, wipeE, key]
    · have h4 : k ≠ .int := by rintro rfl; cases h1
      have hs : k.size ≤ 4 := by cases k <;> decide
      have hl : k.lit = !k.fix := by
        revert h1; cases k <;> decide
      have key := compL_map (c := fun k : Nat => D.int (0 + (k : Nat))) (g := gN 5) (el := (eBin fMod (eBin fFdiv (eVar 1) (eArgs m__law_power (eCons (eVar 5) eNil))) (eC (.int 256)))) (e := [some (.str k.s), some (.int i), none, none, none, none]) (M := M) (fun j => .int ((i.natAbs / 256 ^ j % 256 : Nat) : Int)) (List.range k.size) (by simp; unfold big; omega) (fun j hj => by
        have hj := List.mem_range.mp hj
        have hp := law_power_eq j (by omega) M
        have p0 := pw_pos j
        have p1 := pw_mono (show j ≤ 8 by omega)
        rw [pw8] at p1
        have cd : cDiv i (pw j) = true := decide_eq_true ⟨p0, by omega⟩
        have e1 : i / pw j % 256 = ((i.natAbs / 256 ^ j % 256 : Nat) : Int) := by
          rw [pw_nat]
          conv => lhs; lhs; lhs; rw [show i = ((i.natAbs : Nat) : Int) from by omega]
          rw [← Int.natCast_ediv]
          omega
        refine ⟨_, rfl, ?_⟩
        simp only [Int.zero_add]
        simp [hp, cd, e1])
      have e2 : (List.range k.size).map (fun j => D.int ((i.natAbs / 256 ^ j % 256 : Nat) : Int)) = (dig k.size i.natAbs).reverse.map D.int := by
        rw [← dig_range, List.map_map]; rfl
      rw [e2] at key
      have hr : rgOk (k.size : Int) = true := decide_eq_true (by omega)
      have e3 : rangeD 0 k.size = (List.range k.size).map fun k : Nat => D.int (0 + (k : Nat)) := rfl
      rw [← e3] at key
      generalize hds : (dig k.size i.natAbs).reverse = ds at key
      have hds' : dig k.size i.natAbs = ds.reverse := by rw [← hds, List.reverse_reverse]
      cases hf : k.fix with
      | true => simp [m__law_plain, mOf, sv__law_plain, startE, fEq, pl, h4, h1, hf, hl, fIntS_kz k h1, hr, wipeE, key, hds']
      | false => simp [m__law_plain, mOf, sv__law_plain, startE, fEq, pl, h4, h1, hf, hl, fIntS_kz k h1, hr, wipeE, key, hds']
  | byt b =>
    simp only [okV] at h
    obtain ⟨h1, h2, h3⟩ := h
    have hlim : k.lim ≤ 40 := by cases k <;> decide
    have hk : k = .raw ∨ k = .closed ∨ k = .counted := by revert h1; cases k <;> decide
    have hb1 : 1 + b.length ≤ big := by unfold big; omega
    rcases hk with rfl | rfl | rfl
    · simp [m__law_plain, mOf, sv__law_plain, startE, fEq, pl, Kd.fix, Kd.lit]
    · obtain ⟨o3, e⟩ := clL_loop M (some (.str Kd.closed.s)) (some (bs b)) none none b [] none (by simp; omega)
      have := cl0_len b
      have hb2 : (cl0 b).length + 2 ≤ big := by unfold big; omega
      simp at e
      simp [m__law_plain, mOf, sv__law_plain, startE, fEq, pl, Kd.fix, Kd.lit, e, hb2, cl]
    · simp [m__law_plain, mOf, sv__law_plain, startE, fEq, pl, Kd.fix, Kd.lit, hb1]
theorem law_bytes_eq {fs : List Fd} {vs : List Vl} (h : okR fs vs) (hl : fs.length ≤ 4) (M : List MO) : m__law_bytes [sch fs, rowd vs] M = .ok (bs (encR fs vs)) M := by
  have hlen := F2.length h
  obtain ⟨e', M', f1, o3, o4, o5, o6, o7, o8, rfl, rfl⟩ := forL_ix (g := gN 3) (b := (sSeq (sAsg (gT [4, 5, 6]) (eBin fIx (eVar 0) (eVar 3)))
    (sIf (eTest (eBin fIs (eBin fIx (eVar 1) (eVar 3)) (eC .non))) (sSet 2 (eBin fAdd (eVar 2) (eArgs fLst (eCons (eIf (eTest (eBin fEq (eVar 6) (eC (.str "first")))) (eC (.int 0)) (eC (.int 2))) eNil)))) (sSeq (sSet 7 (eArgs m__law_plain (eCons (eVar 4) (eCons (eBin fIx (eVar 1) (eVar 3)) eNil))))
    (sSet 2 (eBin fAdd (eBin fAdd (eVar 2) (eIf (eTest (eBin fEq (eVar 6) (eC (.str "none")))) (eArgs fLst eNil) (eArgs fLst (eCons (eC (.int 1)) eNil)))) (eIf (eTest (eBin fEq (eVar 5) (eC (.str "desc")))) (eArgs fLst' (eLcA (eSeq (eVar 7)) (gN 8) [8] eYes (eBin fSub (eC (.int 255)) (eVar 8)))) (eVar 7)))))))) (fun i e M' => ∃ o3 o4 o5 o6 o7 o8, e = [some (sch fs), some (rowd vs), some (il (encR (fs.take i) (vs.take i))), o3, o4, o5, o6, o7, o8] ∧ M' = M) (rangeD 0 fs.length) 0 [some (sch fs), some (rowd vs), some (il []), none, none, none, none, none, none] M ⟨none, none, none, none, none, none, by simp [encR], rfl⟩ (fun j d hd e M' hI => by
    obtain ⟨hj, rfl⟩ := rangeD_at hd
    obtain ⟨o3, o4, o5, o6, o7, o8, rfl, rfl⟩ := hI
    have q1 : fs[j]? = some fs[j] := List.getElem?_eq_getElem hj
    obtain ⟨v, q2, ok⟩ := F2.get h q1
    have a1 : atI (fs.map Fd.dd) (j : Int) = some fs[j].dd := atI_nat (by rw [List.getElem?_map, q1]; rfl)
    have a2 : atI (vs.map Vl.dd) (j : Int) = some v.dd := atI_nat (by rw [List.getElem?_map, q2]; rfl)
    have hs := encR_take_succ q1 q2
    have hb := (encR_by (F2.take h j)).2
    have hb2 : (fs.take j).length ≤ 4 := by simp; omega
    have he := enc_by ok
    rw [Nat.zero_add, hs]
    generalize fs[j] = f at *
    generalize encR (fs.take j) (vs.take j) = acc at *
    by_cases hv : v = .non
    · subst hv
      have hb3 : acc.length + 1 ≤ big := by unfold big; omega
      refine ⟨_, [some (sch fs), some (rowd vs), some (il (acc ++ enc f .non)), some (.int (0 + (j : Nat))), some (.str f.k.s), some (.str (dS f.d)), some (.str f.n.s), o7, o8], _, rfl, .inl ?_, _, _, _, _, _, _, rfl, rfl⟩
      by_cases hn : f.n = .first <;> simp [sch, rowd, a1, a2, Fd.dd, fEq, hn, hb3, enc]
    · have hp := pl_by ok
      have e1 := law_plain_eq ok hv M'
      have hi : isNon v.dd = false := by cases v <;> first | rfl | exact absurd rfl hv
      have hb3 : acc.length + 1 ≤ big := by unfold big; omega
      have hb4 : acc.length + 1 + (pl f.k v).length ≤ big := by unfold big; omega
      have hb5 : acc.length + (pl f.k v).length ≤ big := by unfold big; omega
      have hb6 : acc.length ≤ big := by unfold big; omega
      refine ⟨_, [some (sch fs), some (rowd vs), some (il (acc ++ enc f v)), some (.int (0 + (j : Nat))), some (.str f.k.s), some (.str (dS f.d)), some (.str f.n.s), some (il (pl f.k v)), o8], _, rfl, .inl ?_, _, _, _, _, _, _, rfl, rfl⟩
      have key := flp_comp [some (sch fs), some (rowd vs), some (il acc), some (.int (j : Nat)), some (.str f.k.s), some (.str (dS f.d)), some (.str f.n.s), some (il (pl f.k v)), none] (pl f.k v) 8 (by simp) (by unfold big; omega) M'
      rw [enc_v hv]
      simp only [sch, rowd] at key ⊢
      obtain ⟨k, d, n⟩ := f
      simp only at *
      cases n <;> cases d <;> simp [a1, a2, Fd.dd, hi, e1, fEq, hb3, hb4, hb5, hb6, mk, dirv, wipeE, key])
  rw [rangeD_length] at f1
  have hr : rgOk (fs.length : Int) = true := decide_eq_true (by omega)
  have t1 : fs.take (0 + fs.length) = fs := by rw [Nat.zero_add]; exact List.take_length
  have t2 : vs.take (0 + fs.length) = vs := by rw [Nat.zero_add, hlen]; exact List.take_length
  rw [t1, t2] at f1
  simp only [sch, rowd] at f1 ⊢
  simp [m__law_bytes, mOf, sv__law_bytes, startE, hr, f1]
end KB
namespace KB
open PySem PySem.Spec PyProof.Rows L2
theorem DM_app (s : DS) (Rm J : List MO) : DM s Rm ++ J = DM s (Rm ++ J) := rfl
theorem mOf_eq {np n : Nat} {sv : SV} {ds : List D} {M : List MO} (h : ds.length = np) : mOf np n sv ds M = (sv (startE n ds) M).toR := by unfold mOf; rw [if_pos h]
/-! ### the encodings keep the order -/
/-- kinds whose encodings keep the order and part -/
def Kd.good : Kd → Bool
  | .int => true | .f1 => true | .f2 => true | .f3 => true | .f4 => true | .l1 => true | .closed => true | _ => false
theorem pw_natAbs {i : Int} {c : Nat} (h0 : 0 ≤ i) (h : i < pw c) : i.natAbs < 256 ^ c := by
  rw [pw_nat] at h
  omega
theorem pl_dv {f : Fd} {a b : Vl} (hk : f.k.good = true) (ha : okV f a) (hb : okV f b) (h : vlt a b = true) : Dv (pl f.k a) (pl f.k b) := by
  obtain ⟨k, d, n⟩ := f
  simp only at hk
  cases a with
  | non => cases b <;> simp [vlt] at h
  | num i =>
    cases b with
    | num j =>
      simp only [vlt, decide_eq_true_eq] at h
      simp only [okV] at ha hb
      by_cases hki : k = .int
      · subst hki
        rcases ha with ⟨_, ha⟩ | ⟨ha, _⟩
        · rcases hb with ⟨_, hb⟩ | ⟨hb, _⟩
          · simp only [pl, if_true]
            exact encI_dv h ha hb
          · cases hb
        · cases ha
      · rcases ha with ⟨ha, _⟩ | ⟨_, ha, ha2⟩
        · exact absurd ha hki
        · rcases hb with ⟨hb, _⟩ | ⟨_, hb, hb2⟩
          · exact absurd hb hki
          · have hd := dig_dv k.size i.natAbs j.natAbs (by omega) (pw_natAbs hb hb2)
            simp only [pl, if_neg hki]
            by_cases hl : k.lit = true
            · have : k = .l1 := by revert hk hl; cases k <;> decide
              subst this
              rw [if_pos hl, if_pos hl]
              have e : ∀ v : Nat, (dig 1 v).reverse = dig 1 v := fun v => by simp [dig]
              simp only [Kd.size] at hd ⊢
              rw [e, e]
              exact hd
            · rw [if_neg hl, if_neg hl]
              exact hd
    | non => simp [vlt] at h
    | byt _ => simp [vlt] at h
  | byt x =>
    cases b with
    | byt y =>
      simp only [vlt] at h
      simp only [okV] at ha hb
      have : k = .closed := by
        have := ha.1
        revert hk this; cases k <;> decide
      subst this
      simp only [pl, if_true]
      exact cl_dv (fun z hz => (ha.2.1 z hz).1) (fun z hz => (hb.2.1 z hz).1) h
    | non => simp [vlt] at h
    | num _ => simp [vlt] at h
theorem enc_dv {f : Fd} {a b : Vl} (hk : f.k.good = true) (ha : okV f a) (hb : okV f b) (h : sgn f a b = -1) : Dv (enc f a) (enc f b) := by
  obtain ⟨hne, hc⟩ := sgn_lt ha hb h
  rcases hc with ⟨rfl, hn⟩ | ⟨rfl, hn⟩ | ⟨h1, h2, hl⟩
  · have hb' : b ≠ .non := fun z => hne z.symm
    rw [enc_v hb']
    have : mk f.n = [1] := by simp [mk, hn]
    rw [this]
    simp only [enc, hn, if_true]
    exact .inl (by decide)
  · have ha' : a ≠ .non := hne
    rw [enc_v ha']
    have hnn : f.n ≠ .none := hb
    have : mk f.n = [1] := by simp [mk, hnn]
    rw [this]
    simp only [enc, if_neg hn]
    exact .inl (by decide)
  · rw [enc_v h1, enc_v h2]
    refine Dv.left _ ?_
    unfold dirv
    cases hd : f.d with
    | true => simp only [hd, if_true] at hl ⊢; exact (pl_dv hk hb ha hl).flp
    | false => simp only [hd, Bool.false_eq_true, if_false] at hl ⊢; exact pl_dv hk ha hb hl
/-- one of two different values' encodings parts from the other -/
theorem enc_part {f : Fd} {a b : Vl} (hk : f.k.good = true) (ha : okV f a) (hb : okV f b) (h : a ≠ b) : (sgn f a b = -1 ∧ Dv (enc f a) (enc f b)) ∨ (sgn f a b = 1 ∧ Dv (enc f b) (enc f a)) := by
  rcases sgn_cases f a b with z | z | z
  · exact absurd (sgn_zero.mp z) h
  · exact .inl ⟨z, enc_dv hk ha hb z⟩
  · refine .inr ⟨z, enc_dv hk hb ha ?_⟩
    rw [sgn_flip ha hb, z]
/-- the last field: a raw one in ascending direction will do, too -/
def Fd.fin (f : Fd) : Bool := f.k.good || (decide (f.k = .raw) && !f.d)
theorem lex_cons_app (p : List Int) (a b : List Int) : HT.lexLt (p ++ a) (p ++ b) = HT.lexLt a b := by
  induction p with
  | nil => rfl
  | cons x p ih => rw [List.cons_append, List.cons_append, HT.lexLt_cons, if_pos rfl, ih]
theorem enc_lt {f : Fd} {a b : Vl} (hk : f.fin = true) (ha : okV f a) (hb : okV f b) (h : sgn f a b = -1) : HT.lexLt (enc f a) (enc f b) = true := by
  unfold Fd.fin at hk
  rw [Bool.or_eq_true] at hk
  rcases hk with hk | hk
  · exact (enc_dv hk ha hb h).lt0
  · rw [Bool.and_eq_true, decide_eq_true_eq, Bool.not_eq_true'] at hk
    obtain ⟨hk, hd⟩ := hk
    obtain ⟨hne, hc⟩ := sgn_lt ha hb h
    rcases hc with ⟨rfl, hn⟩ | ⟨rfl, hn⟩ | ⟨h1, h2, hl⟩
    · have hb' : b ≠ .non := fun z => hne z.symm
      rw [enc_v hb']
      have : mk f.n = [1] := by simp [mk, hn]
      rw [this]
      simp [enc, hn, HT.lexLt]
    · have ha' : a ≠ .non := hne
      rw [enc_v ha']
      have hnn : f.n ≠ .none := hb
      have : mk f.n = [1] := by simp [mk, hnn]
      rw [this]
      simp [enc, hn, HT.lexLt]
    · rw [enc_v h1, enc_v h2, lex_cons_app]
      simp only [hd, Bool.false_eq_true, if_false] at hl
      simp only [dirv, hd, Bool.false_eq_true, if_false]
      rcases okV_same ha hb with rfl | rfl | ⟨i, j, rfl, rfl⟩ | ⟨x, y, rfl, rfl⟩
      · exact absurd rfl h1
      · exact absurd rfl h2
      · simp only [okV, hk] at ha
        rcases ha with ⟨ha, _⟩ | ⟨ha, _⟩ <;> cases ha
      · simp only [pl, hk]
        simpa [vlt] using hl
/-- schemes that keep the order -/
def goodS : List Fd → Prop
  | [] => True
  | [f] => f.fin = true
  | f :: g :: fs => f.k.good = true ∧ goodS (g :: fs)
theorem goodS.tail {f : Fd} {fs : List Fd} (h : goodS (f :: fs)) : goodS fs := by
  cases fs with
  | nil => trivial
  | cons g fs => exact h.2
theorem encR_lt : ∀ {fs : List Fd} {as bs : List Vl}, goodS fs → okR fs as → okR fs bs → cmpR fs as bs = -1 → HT.lexLt (encR fs as) (encR fs bs) = true
  | [], _, _, _, ha, hb, h => by cases ha; cases hb; simp [cmpR, sgs, fnz] at h
  | [f], _, _, g, ha, hb, h => by
    cases ha with
    | @cons _ a _ as h1 h2 =>
      cases hb with
      | @cons _ b _ bs h3 h4 =>
        cases h2; cases h4
        rw [cmpR_cons] at h
        simp only [encR, List.append_nil]
        by_cases z : sgn f a b = 0
        · rw [if_pos z] at h; simp [cmpR, sgs, fnz] at h
        · rw [if_neg z] at h; exact enc_lt g h1 h3 h
  | f :: f' :: fs, _, _, g, ha, hb, h => by
    cases ha with
    | @cons _ a _ as h1 h2 =>
      cases hb with
      | @cons _ b _ bs h3 h4 =>
        rw [cmpR_cons] at h
        simp only [encR]
        by_cases z : sgn f a b = 0
        · rw [if_pos z] at h
          rw [sgn_zero] at z
          subst z
          rw [lex_cons_app]
          exact encR_lt g.2 h2 h4 h
        · rw [if_neg z] at h
          exact (enc_dv g.1 h1 h3 h).lt _ _
theorem encR_sign {fs : List Fd} {as bs : List Vl} (g : goodS fs) (ha : okR fs as) (hb : okR fs bs) : HT.lexLt (encR fs as) (encR fs bs) = decide (cmpR fs as bs = -1) ∧ HT.lexLt (encR fs bs) (encR fs as) = decide (cmpR fs as bs = 1) := by
  have fl := cmpR_flip ha hb
  rcases cmpR_cases fs as bs with z | z | z
  · have := (cmpR_zero ha hb).mp z
    subst this
    rw [z, lexLt_irrefl]; simp
  · have l := encR_lt g ha hb z
    rw [z, l, lexLt_asymm _ _ l]; simp
  · have l := encR_lt g hb ha (by rw [fl, z])
    rw [z, l, lexLt_asymm _ _ l]; simp
/-! ### drawn schemes that keep the order -/
theorem good_field_eq (s : DS) (Rm : List MO) : ∃ f s', m__law_good_field [.cell 1] (DM s Rm) = .ok (Fd.dd f) (DM s' Rm) ∧ f.k.good = true := by
  obtain ⟨x, s1, e1, hx⟩ := pick_eq s [.str "int", .str "fixed1", .str "fixed2", .str "fixed4", .str "little1", .str "closed", .str "closed"] (by simp) (by simp) Rm
  have hx2 : ∃ k : Kd, x = .str k.s ∧ k.good = true := by
    simp only [List.mem_cons, List.not_mem_nil, or_false] at hx
    rcases hx with rfl | rfl | rfl | rfl | rfl | rfl | rfl
    · exact ⟨.int, rfl, rfl⟩
    · exact ⟨.f1, rfl, rfl⟩
    · exact ⟨.f2, rfl, rfl⟩
    · exact ⟨.f4, rfl, rfl⟩
    · exact ⟨.l1, rfl, rfl⟩
    · exact ⟨.closed, rfl, rfl⟩
    · exact ⟨.closed, rfl, rfl⟩
  obtain ⟨k, rfl, hk⟩ := hx2
  obtain ⟨d, s2, e2⟩ := dir_eq s1 Rm
  obtain ⟨n, s3, e3⟩ := nul_eq s2 Rm
  refine ⟨⟨k, d, n⟩, s3, ?_, hk⟩
  simp [m__law_good_field, mOf, sv__law_good_field, startE, e1, e2, e3, Fd.dd]
theorem goodS_all : ∀ {fs : List Fd}, (∀ f ∈ fs, f.k.good = true) → goodS fs
  | [], _ => trivial
  | [f], h => by simp [goodS, Fd.fin, h f (by simp)]
  | f :: g :: fs, h => ⟨h f (by simp), goodS_all fun x hx => h x (by simp at hx ⊢; exact .inr hx)⟩
theorem goodS_snoc : ∀ {fs : List Fd} {g : Fd}, (∀ f ∈ fs, f.k.good = true) → g.fin = true → goodS (fs ++ [g])
  | [], g, _, hg => hg
  | [f], g, h, hg => ⟨h f (by simp), hg⟩
  | f :: f' :: fs, g, h, hg => ⟨h f (by simp), goodS_snoc (fs := f' :: fs) (fun x hx => h x (by simp at hx ⊢; exact .inr hx)) hg⟩
theorem good_eq (s : DS) (Rm : List MO) : ∃ fs s', m__law_good [.cell 1] (DM s Rm) = .ok (sch fs) (DM s' Rm) ∧ goodS fs ∧ 1 ≤ fs.length ∧ fs.length ≤ 4 := by
  obtain ⟨r, s1, e1, h0, h1⟩ := draw_eq s 4 (by decide) (by decide) Rm
  obtain ⟨fs, s2, e2, h2⟩ := compL_drawT (c := fun i : Nat => D.int (0 + (i : Nat))) (c' := Fd.dd) (g := gN 2) (el := eArgs m__law_good_field (eCons (eVar 0) eNil)) (e := [some (.cell 1), none, none]) (Rm := Rm) (P := fun _ f => f.k.good = true) (List.range (1 + r).toNat) [] s1 (by simp [big]; omega) (fun x _ s => by
    obtain ⟨f, s', e, h⟩ := good_field_eq s Rm
    exact ⟨_, f, s', rfl, by simp [e], h⟩)
  have hl := F2.length h2
  simp at hl
  have hg := F2.all_right h2
  have hr : rgOk (1 + r) = true := decide_eq_true (by omega)
  obtain ⟨q, s3, e3, _, _⟩ := draw_eq s2 3 (by decide) (by decide) Rm
  rw [← range_of] at e2
  by_cases hq : q = 0
  · obtain ⟨n, s4, e4⟩ := nul3_eq s3 Rm
    refine ⟨fs.dropLast ++ [⟨.raw, false, n⟩], s4, ?_, goodS_snoc (fun f hf => hg f (List.dropLast_subset fs hf)) (by simp [Fd.fin]), by simp, by simp; omega⟩
    have hb : (fs.map Fd.dd).length - 1 + 1 ≤ big := by simp; unfold big; omega
    have hc : cutD (fs.map Fd.dd) none (some (-1)) = (fs.dropLast).map Fd.dd := by rw [cut_last, List.map_dropLast]
    have hraw : D.tup [.str "raw", .str "asc", .str n.s] = Fd.dd ⟨.raw, false, n⟩ := rfl
    have hb2 : fs.length - 1 + 1 ≤ big := by unfold big; omega
    simp only [m__law_good, mOf, sv__law_good, startE]
    simp [e1, hr, wipeE, e2, e3, hq, fEq, e4, hc, hraw, hb2, sch]
  · refine ⟨fs, s3, ?_, goodS_all hg, by omega, by omega⟩
    simp only [m__law_good, mOf, sv__law_good, startE]
    simp [e1, hr, wipeE, e2, e3, hq, fEq, sch]
end KB
namespace KB
open PySem PySem.Spec PyProof.Rows L2
@[simp] theorem fRev_tup (a : List D) (M : List MO) : fRev (.tup a) M = .ok (.tup a.reverse) M := by simp only [fRev, res_tup]
@[simp] theorem ev_enum (ea : EA) (e : EN) (M : List MO) : eEnum ea e M = (ea e M).bind fun ds M1 => match ds with
  | [.tup a] => .ok (.snap (enumD 0 a)) M1
  | _ => .stuck := rfl
/-- a loop that may return -/
theorem forL_find {g : GV} {b : SV} {M : List MO} (I : EN → Prop) (r : Nat → Option D) : ∀ (ds : List D) (i : Nat) (e : EN), I e →
    (∀ (j : Nat) d, ds[j]? = some d → ∀ e, I e → ∃ e1, g d e = some e1 ∧ ((r (i + j) = none ∧ ∃ e2, b e1 M = .nx e2 M ∧ I e2) ∨ (∃ v, r (i + j) = some v ∧ b e1 M = .ret v M))) →
    (∃ e', forL g b ds e M = .nx e' M ∧ I e' ∧ ∀ j, j < ds.length → r (i + j) = none) ∨ (∃ j v, j < ds.length ∧ r (i + j) = some v ∧ (∀ l, l < j → r (i + l) = none) ∧ forL g b ds e M = .ret v M)
  | [], i, e, h, _ => .inl ⟨e, rfl, h, by simp⟩
  | d :: ds, i, e, h, hs => by
    obtain ⟨e1, h1, h2⟩ := hs 0 d rfl e h
    rcases h2 with ⟨h2, e2, h3, h4⟩ | ⟨v, h2, h3⟩
    · have ih := forL_find I r ds (i + 1) e2 h4 fun j d hd e he => by
        have := hs (j + 1) d (by simpa using hd) e he
        rw [show i + (j + 1) = i + 1 + j from by omega] at this
        exact this
      rcases ih with ⟨e', k1, k2, k3⟩ | ⟨j, v, k1, k2, k3, k4⟩
      · refine .inl ⟨e', by simp only [forL, h1, h3, RS.turn_nx]; exact k1, k2, fun j hj => ?_⟩
        cases j with
        | zero => exact h2
        | succ j => rw [show i + (j + 1) = i + 1 + j from by omega]; exact k3 j (by simpa using hj)
      · refine .inr ⟨j + 1, v, by simpa using k1, by rw [show i + (j + 1) = i + 1 + j from by omega]; exact k2, fun l hl => ?_, by simp only [forL, h1, h3, RS.turn_nx]; exact k4⟩
        cases l with
        | zero => exact h2
        | succ l => rw [show i + (l + 1) = i + 1 + l from by omega]; exact k3 l (by omega)
    · exact .inr ⟨0, v, by simp, h2, fun l hl => by omega, by simp only [forL, h1, h3, RS.turn_ret]⟩
/-! ### pairs out of order, default rows -/
def fpair (f : Fd) : Option (Vl × Vl) :=
  if f.k.lit && decide (1 < f.k.size) then some (if f.d then (.num 256, .num 1) else (.num 1, .num 256))
  else if f.k = .counted then some (if f.d then (.byt [2], .byt [1, 1]) else (.byt [1, 1], .byt [2]))
  else if f.k = .raw ∧ f.d = true then some (.byt [0], .byt [])
  else none
def pairD : Option (Vl × Vl) → D
  | none => .non
  | some (a, b) => .tup [a.dd, b.dd]
theorem field_pair_eq (f : Fd) (M : List MO) : m_field_pair [f.dd] M = .ok (pairD (fpair f)) M := by
  obtain ⟨k, d, n⟩ := f
  simp only [m_field_pair, mOf, sv_field_pair, startE, Fd.dd]
  cases k <;> cases d <;> simp [fpair, pairD, st_little, fEq, Kd.lit, Kd.size, Kd.sized]
def dfl (k : Kd) : Vl := if k.byt then .byt [] else .num 0
theorem default_value_eq (f : Fd) (M : List MO) : m_default_value [f.dd] M = .ok (dfl f.k).dd M := by
  cases h : f.k.byt <;> simp [m_default_value, mOf, sv_default_value, startE, in_bytes, h, dfl]
def dflR (fs : List Fd) : List Vl := fs.map fun f => dfl f.k
theorem default_row_eq (fs : List Fd) (hl : fs.length ≤ 4) (M : List MO) : m_default_row [sch fs] M = .ok (rowd (dflR fs)) M := by
  have key := compL_map (c := Fd.dd) (g := gN 1) (el := eArgs m_default_value (eCons (eVar 1) eNil)) (e := [some (sch fs), none]) (M := M) (fun f => (dfl f.k).dd) fs (by unfold big; omega) (fun b hb => ⟨_, rfl, by simp [default_value_eq]⟩)
  simp only [sch] at key ⊢
  simp only [m_default_row, mOf, sv_default_row, startE]
  simp [wipeE, key, rowd, dflR, Function.comp_def]
theorem dfl_ok (f : Fd) : okV f (dfl f.k) := by
  obtain ⟨k, d, n⟩ := f
  unfold dfl
  cases h : k.byt with
  | true => exact ⟨h, By.nil, by simp⟩
  | false =>
    rcases k.split with h1 | h1 | h1
    · subst h1; exact .inl ⟨rfl, by decide⟩
    · have := pw_pos k.size
      exact .inr ⟨h1.1, by omega, this⟩
    · rw [h1.1] at h; cases h
theorem dflR_ok : ∀ fs : List Fd, okR fs (dflR fs)
  | [] => .nil
  | f :: fs => .cons (dfl_ok f) (dflR_ok fs)
theorem with_value_eq (vs : List Vl) (p : Nat) (v : Vl) (hl : vs.length ≤ 4) (M : List MO) : m_with_value [rowd vs, .int (p : Int), v.dd] M = .ok (rowd (vs.take p ++ v :: vs.drop (p + 1))) M := by
  have c1 := cut_to (vs.map Vl.dd) p
  have c2 : cutD (vs.map Vl.dd) (some ((p : Int) + 1)) none = (vs.map Vl.dd).drop (p + 1) := by
    rw [show ((p : Int) + 1) = ((p + 1 : Nat) : Int) from by omega, cut_from]
  have b1 : min p vs.length + 1 ≤ big := by unfold big; omega
  have b2 : min p vs.length + 1 + (vs.length - (p + 1)) ≤ big := by unfold big; omega
  simp [m_with_value, mOf, sv_with_value, startE, rowd, c1, c2, b1, b2]
def grt (f : Fd) : Vl := if f.d = true ∨ f.k = .int then (if f.k = .raw then .byt [0] else if f.k = .closed ∨ f.k = .counted then .byt [] else .num 0) else if f.k.sized then .num (pw f.k.size - 1) else .byt [1]
theorem in_cc (k : Kd) (M : List MO) : fIn (.str k.s) (.tup [.str "closed", .str "counted"]) M = .ok (.bl (decide (k = .closed ∨ k = .counted))) M := by
  have : inV (dV (.str k.s)) ([D.str "closed", .str "counted"].map dV) = decide (k = .closed ∨ k = .counted) := by cases k <;> decide +kernel
  simp only [fIn, fInB, res_tup, flatD, List.all_cons, List.all_nil, Bool.and_self, if_true, this]
theorem great_value_eq (f : Fd) (M : List MO) : m_great_value [f.dd] M = .ok (grt f).dd M := by
  obtain ⟨k, d, n⟩ := f
  have hk : k.size ≤ 1000 := by cases k <;> decide
  have hp := power_eq k.size hk M
  simp only [m_great_value, mOf, sv_great_value, startE, Fd.dd, grt]
  cases d with
  | true =>
    by_cases h1 : k = .raw
    · subst h1; simp [fEq]
    · by_cases h2 : k = .closed ∨ k = .counted
      · simp [fEq, h1, in_cc, h2]
      · simp [fEq, h1, in_cc, h2]
  | false =>
    by_cases h0 : k = .int
    · subst h0; simp [fEq, in_cc]
    · cases h3 : k.sized <;> simp [fEq, h0, h3, hp]
/-! ### order_witness -/
def wv (vs : List Vl) (p : Nat) (v : Vl) : List Vl := vs.take p ++ v :: vs.drop (p + 1)
def bad (fs : List Fd) (j : Nat) : Option (List Vl × List Vl) := match fs[j]? with
  | none => none
  | some f => match fpair f with
    | some (a, b) => some (wv (dflR fs) j a, wv (dflR fs) j b)
    | none => if f.k = .raw then match fs[j + 1]? with
      | some g => some (wv (dflR fs) (j + 1) (grt g), wv (dflR fs) j (.byt [0]))
      | none => none
      else none
def rowsD : Option (List Vl × List Vl) → Option D := Option.map fun p => .tup [rowd p.1, rowd p.2]
theorem rw_with (vs : List Vl) (p : Nat) (v : Vl) (hl : vs.length ≤ 4) (M : List MO) : m_with_value [rowd vs, .int (p : Int), v.dd] M = .ok (rowd (wv vs p v)) M := with_value_eq vs p v hl M
theorem pair_at (a b : D) : atI [a, b] 0 = some a ∧ atI [a, b] 1 = some b := ⟨rfl, rfl⟩
theorem order_witness_eq {fs : List Fd} (h1 : 1 ≤ fs.length) (h2 : fs.length ≤ 4) (M : List MO) :
    ((∀ j, j < fs.length → bad fs j = none) ∧ m_order_witness [sch fs] M = .ok .non M) ∨ (∃ j p, j < fs.length ∧ bad fs j = some p ∧ (∀ l, l < j → bad fs l = none) ∧ m_order_witness [sch fs] M = .ok (.tup [rowd p.1, rowd p.2]) M) := by
  have hd : (dflR fs).length ≤ 4 := by simp [dflR]; exact h2
  have key := forL_find (g := gT [2, 3]) (b := (sSeq (sSet 4 (eArgs m_field_pair (eCons (eVar 3) eNil)))
    (sSeq (sIf (eTest (eBin fIsNot (eVar 4) (eC .non))) (sRet (eArgs fTup (eCons (eArgs m_with_value (eCons (eVar 1) (eCons (eVar 2) (eCons (eBin fIx (eVar 4) (eC (.int 0))) eNil)))) (eCons (eArgs m_with_value (eCons (eVar 1) (eCons (eVar 2) (eCons (eBin fIx (eVar 4) (eC (.int 1))) eNil)))) eNil)))) sNil)
    (sIf (eAnd (eTest (eBin fEq (eBin fIx (eVar 3) (eC (.int 0))) (eC (.str "raw")))) (eTest (eBin fLt (eVar 2) (eBin fSub (eArgs fLen (eCons (eVar 0) eNil)) (eC (.int 1)))))) (sSeq (sSet 5 (eArgs m_with_value (eCons (eVar 1) (eCons (eBin fAdd (eVar 2) (eC (.int 1))) (eCons (eArgs m_great_value (eCons (eBin fIx (eVar 0) (eBin fAdd (eVar 2) (eC (.int 1)))) eNil)) eNil)))))
    (sRet (eArgs fTup (eCons (eVar 5) (eCons (eArgs m_with_value (eCons (eVar 1) (eCons (eVar 2) (eCons (eArgs fTup (eCons (eC (.int 0)) eNil)) eNil)))) eNil))))) sNil)))) (M := M) (fun e => ∃ o2 o3 o4, e = [some (sch fs), some (rowd (dflR fs)), o2, o3, o4, none]) (fun j => rowsD (bad fs j)) (enumD 0 (fs.map Fd.dd)) 0 [some (sch fs), some (rowd (dflR fs)), none, none, none, none] ⟨_, _, _, rfl⟩ (fun j d hd' e he => by
      obtain ⟨a, ha, rfl⟩ := enumD_get 0 _ j d hd'
      rw [List.getElem?_map] at ha
      obtain ⟨f, hf, rfl⟩ := Option.map_eq_some_iff.mp ha
      obtain ⟨o2, o3, o4, rfl⟩ := he
      simp only [Nat.zero_add]
      refine ⟨_, rfl, ?_⟩
      have fp := fun M => field_pair_eq f M
      cases hfp : fpair f with
      | some p =>
        obtain ⟨a, b⟩ := p
        rw [hfp] at fp
        simp only [pairD] at fp
        refine .inr ⟨.tup [rowd (wv (dflR fs) j a), rowd (wv (dflR fs) j b)], ?_, ?_⟩
        · simp [bad, hf, hfp, rowsD]
        · simp [fp, pair_at, rw_with _ _ _ hd]
      | none =>
        rw [hfp] at fp
        simp only [pairD] at fp
        have hj : j < fs.length := (List.getElem?_eq_some_iff.mp hf).1
        by_cases hr : f.k = .raw
        · by_cases hl : j + 1 < fs.length
          · have hg : fs[j + 1]? = some fs[j + 1] := List.getElem?_eq_getElem hl
            refine .inr ⟨.tup [rowd (wv (dflR fs) (j + 1) (grt fs[j + 1])), rowd (wv (dflR fs) j (.byt [0]))], ?_, ?_⟩
            · simp [bad, hf, hfp, hr, hg, rowsD]
            · have a1 : atI (fs.map Fd.dd) ((j : Int) + 1) = some fs[j + 1].dd := by
                rw [show ((j : Int) + 1) = ((j + 1 : Nat) : Int) from by omega]
                exact atI_nat (by rw [List.getElem?_map, hg]; rfl)
              have hlt : (j : Int) < (fs.length : Int) - 1 := by omega
              have w1 := rw_with (dflR fs) (j + 1) (grt fs[j + 1]) hd M
              rw [show ((j + 1 : Nat) : Int) = (j : Int) + 1 from by omega] at w1
              have w2 := rw_with (dflR fs) j (.byt [0]) hd M
              simp only [dd_byt] at w2
              simp only [sch] at *
              simp [fp, fEq, hr, hlt, a1, great_value_eq, w1, w2]
          · have hg : fs[j + 1]? = none := List.getElem?_eq_none (by omega)
            refine .inl ⟨by simp [bad, hf, hfp, hr, hg, rowsD], [some (sch fs), some (rowd (dflR fs)), some (.int (j : Int)), some f.dd, some .non, none], ?_, _, _, _, rfl⟩
            have hlt : ¬ (j : Int) < (fs.length : Int) - 1 := by omega
            simp only [sch]
            simp [fp, fEq, hr, hlt]
        · refine .inl ⟨by simp [bad, hf, hfp, hr, rowsD], [some (sch fs), some (rowd (dflR fs)), some (.int (j : Int)), some f.dd, some .non, none], ?_, _, _, _, rfl⟩
          simp [fp, fEq, hr])
  rw [enumD_length, List.length_map] at key
  have c0 := check_scheme_eq h1 h2 M
  have c1 := default_row_eq fs h2 M
  simp only [sch] at key c0 c1 ⊢
  rcases key with ⟨e', k1, _, k2⟩ | ⟨j, v, k1, k2, k3, k4⟩
  · refine .inl ⟨fun j hj => ?_, ?_⟩
    · have := k2 j hj
      simp only [Nat.zero_add, rowsD, Option.map_eq_none_iff] at this
      exact this
    · simp [m_order_witness, mOf, sv_order_witness, startE, c0, c1, k1]
  · simp only [Nat.zero_add, rowsD, Option.map_eq_some_iff] at k2 k3
    obtain ⟨p, hp, rfl⟩ := k2
    refine .inr ⟨j, p, k1, hp, fun l hl => ?_, ?_⟩
    · have := k3 l hl
      simpa using this
    · simp [m_order_witness, mOf, sv_order_witness, startE, c0, c1, k4]
end KB
namespace KB
open PySem PySem.Spec PyProof.Rows L2
theorem range2_eq (a b : Int) (n : Nat) (r1 : rgOk a = true) (r2 : rgOk b = true) (r3 : (b - a).toNat = n) (ea : EA) (e : EN) (M : List MO) (h : ea e M = .ok [.int a, .int b] M) : eRange2 ea e M = .ok (.snap (rangeD a n)) M := by
  rw [ev_range2, h]
  simp only [R.bind_ok, r1, r2, r3, Bool.and_self, if_true]
theorem blur_nx (xs : List D) (j : Int) (ds : List D) (e' : EN) (M : List MO) (h4 : m_first_raw [.tup xs] M = .ok (.int j) M) (er : eRange2 (eCons (eBin fAdd (eVar 1) (eC (.int 1))) (eCons (eArgs fLen (eCons (eVar 0) eNil)) eNil)) [some (.tup xs), some (.int j), none] M = .ok (.snap ds) M)
  (k1 : forL (gN 2) (sIf (eNot (eTest (eArgs m_is_constant (eCons (eBin fIx (eVar 0) (eVar 2)) eNil)))) (sRet (eArgs fTup (eCons (eVar 1) (eCons (eVar 2) eNil)))) sNil) ds [some (.tup xs), some (.int j), none] M = .nx e' M) : m_blur_of [.tup xs] M = .ok .non M := by
  simp [m_blur_of, mOf, sv_blur_of, startE, h4, -ev_range2, er, k1]
theorem blur_ret (xs : List D) (j : Int) (ds : List D) (v : D) (M : List MO) (h4 : m_first_raw [.tup xs] M = .ok (.int j) M) (er : eRange2 (eCons (eBin fAdd (eVar 1) (eC (.int 1))) (eCons (eArgs fLen (eCons (eVar 0) eNil)) eNil)) [some (.tup xs), some (.int j), none] M = .ok (.snap ds) M)
  (k1 : forL (gN 2) (sIf (eNot (eTest (eArgs m_is_constant (eCons (eBin fIx (eVar 0) (eVar 2)) eNil)))) (sRet (eArgs fTup (eCons (eVar 1) (eCons (eVar 2) eNil)))) sNil) ds [some (.tup xs), some (.int j), none] M = .ret v M) : m_blur_of [.tup xs] M = .ok v M := by
  simp [m_blur_of, mOf, sv_blur_of, startE, h4, -ev_range2, er, k1]
theorem blur_src (xs : List D) (j : Nat) (hj : j ≤ 4) (hl : xs.length ≤ 4) (M : List MO) : eRange2 (eCons (eBin fAdd (eVar 1) (eC (.int 1))) (eCons (eArgs fLen (eCons (eVar 0) eNil)) eNil)) [some (.tup xs), some (.int (j : Int)), none] M = .ok (.snap (rangeD ((j : Int) + 1) (xs.length - (j + 1)))) M := by
  have r1 : rgOk ((j : Int) + 1) = true := decide_eq_true (by omega)
  have r2 : rgOk (xs.length : Int) = true := decide_eq_true (by omega)
  have r3 : ((xs.length : Int) - ((j : Int) + 1)).toNat = xs.length - (j + 1) := by omega
  exact range2_eq _ _ _ r1 r2 r3 _ _ M (by simp)
/-! ### blur_of -/
def isRaw (fs : List Fd) (j : Nat) : Bool := match fs[j]? with
  | some f => decide (f.k = .raw)
  | none => false
def isCon (f : Fd) : Bool := f.k.sized && decide (f.n = .none)
theorem is_constant_eq (f : Fd) (M : List MO) : m_is_constant [f.dd] M = .ok (.bl (isCon f)) M := by
  cases h : f.k.sized <;> simp [m_is_constant, mOf, sv_is_constant, startE, h, isCon, fEq]
theorem first_raw_eq {fs : List Fd} (M : List MO) : ((∀ j, j < fs.length → isRaw fs j = false) ∧ m_first_raw [sch fs] M = .ok .non M) ∨ (∃ j, j < fs.length ∧ isRaw fs j = true ∧ (∀ l, l < j → isRaw fs l = false) ∧ m_first_raw [sch fs] M = .ok (.int (j : Int)) M) := by
  have key := forL_find (g := gT [1, 2]) (b := (sIf (eTest (eBin fEq (eBin fIx (eVar 2) (eC (.int 0))) (eC (.str "raw")))) (sRet (eVar 1)) sNil)) (M := M) (fun e => ∃ o1 o2, e = [some (sch fs), o1, o2]) (fun j => if isRaw fs j then some (.int (j : Int)) else none) (enumD 0 (fs.map Fd.dd)) 0 [some (sch fs), none, none] ⟨_, _, rfl⟩ (fun j d hd' e he => by
      obtain ⟨a, ha, rfl⟩ := enumD_get 0 _ j d hd'
      rw [List.getElem?_map] at ha
      obtain ⟨f, hf, rfl⟩ := Option.map_eq_some_iff.mp ha
      obtain ⟨o1, o2, rfl⟩ := he
      simp only [Nat.zero_add]
      refine ⟨_, rfl, ?_⟩
      by_cases hr : f.k = .raw
      · exact .inr ⟨.int (j : Int), by simp [isRaw, hf, hr], by simp [fEq, hr]⟩
      · exact .inl ⟨by simp [isRaw, hf, hr], [some (sch fs), some (.int (j : Int)), some f.dd], by simp [fEq, hr], _, _, rfl⟩)
  rw [enumD_length, List.length_map] at key
  simp only [sch] at key ⊢
  rcases key with ⟨e', k1, _, k2⟩ | ⟨j, v, k1, k2, k3, k4⟩
  · refine .inl ⟨fun j hj => ?_, ?_⟩
    · have := k2 j hj
      simpa using this
    · simp [m_first_raw, mOf, sv_first_raw, startE, k1]
  · simp only [Nat.zero_add] at k2 k3
    by_cases hj : isRaw fs j = true
    · rw [if_pos hj] at k2
      cases k2
      refine .inr ⟨j, k1, hj, fun l hl => ?_, ?_⟩
      · have := k3 l hl
        simpa using this
      · simp [m_first_raw, mOf, sv_first_raw, startE, k4]
    · rw [if_neg hj] at k2; cases k2
def conAt (fs : List Fd) (j : Nat) : Bool := match fs[j]? with
  | some f => isCon f
  | none => true
/-- no blur, or the first raw field's place and that of the first behind it without a constant length -/
theorem blur_of_eq {fs : List Fd} (hl : fs.length ≤ 4) (M : List MO) : ((∀ j, isRaw fs j = true → ∀ l, j < l → conAt fs l = true) ∧ m_blur_of [sch fs] M = .ok .non M) ∨
    (∃ j l, j < l ∧ l < fs.length ∧ isRaw fs j = true ∧ (∀ i, i < j → isRaw fs i = false) ∧ conAt fs l = false ∧ (∀ i, j < i → i < l → conAt fs i = true) ∧ m_blur_of [sch fs] M = .ok (.tup [.int (j : Int), .int (l : Int)]) M) := by
  rcases first_raw_eq (fs := fs) M with ⟨h1, h2⟩ | ⟨j, h1, h2, h3, h4⟩
  · refine .inl ⟨fun j hj => ?_, ?_⟩
    · exfalso
      by_cases q : j < fs.length
      · rw [h1 j q] at hj; cases hj
      · simp [isRaw, List.getElem?_eq_none (show fs.length ≤ j by omega)] at hj
    · simp [m_blur_of, mOf, sv_blur_of, startE, h2]
  · have key := forL_find (g := gN 2) (b := (sIf (eNot (eTest (eArgs m_is_constant (eCons (eBin fIx (eVar 0) (eVar 2)) eNil)))) (sRet (eArgs fTup (eCons (eVar 1) (eCons (eVar 2) eNil)))) sNil)) (M := M) (fun e => ∃ o2, e = [some (sch fs), some (.int (j : Int)), o2]) (fun i => if conAt fs i then none else some (.tup [.int (j : Int), .int (i : Int)])) (rangeD ((j : Int) + 1) (fs.length - (j + 1))) (j + 1) [some (sch fs), some (.int (j : Int)), none] ⟨_, rfl⟩ (fun i d hd e he => by
      obtain ⟨hi, rfl⟩ := rangeD_at hd
      obtain ⟨o2, rfl⟩ := he
      refine ⟨_, rfl, ?_⟩
      have hlt : j + 1 + i < fs.length := by omega
      have hf : fs[j + 1 + i]? = some fs[j + 1 + i] := List.getElem?_eq_getElem hlt
      have e1 : ((j : Int) + 1 + (i : Nat)) = ((j + 1 + i : Nat) : Int) := by omega
      have a1 : atI (fs.map Fd.dd) ((j + 1 + i : Nat) : Int) = some fs[j + 1 + i].dd := atI_nat (by rw [List.getElem?_map, hf]; rfl)
      rw [e1]
      generalize hq : ((j + 1 + i : Nat) : Int) = q at *
      have hc : conAt fs (j + 1 + i) = isCon fs[j + 1 + i] := by simp [conAt, hf]
      cases hcon : isCon fs[j + 1 + i] with
      | true => exact .inl ⟨by simp [hc, hcon], [some (sch fs), some (.int (j : Int)), some (.int q)], by simp only [sch]; simp [a1, is_constant_eq, hcon], _, rfl⟩
      | false => exact .inr ⟨.tup [.int (j : Int), .int q], by simp [hc, hcon, hq], by simp only [sch]; simp [a1, is_constant_eq, hcon]⟩)
    rw [rangeD_length] at key
    have er := blur_src (fs.map Fd.dd) j (by omega) (by simp; omega) M
    rw [List.length_map] at er
    simp only [sch] at key h4 ⊢
    have uniq : ∀ i, isRaw fs i = true → j ≤ i := fun i hi => by
      by_cases q : i < j
      · rw [h3 i q] at hi; cases hi
      · omega
    rcases key with ⟨e', k1, _, k2⟩ | ⟨i, v, k1, k2, k3, k4⟩
    · refine .inl ⟨fun i hi l hl => ?_, ?_⟩
      · have hle := uniq i hi
        by_cases q : l < fs.length
        · have := k2 (l - (j + 1)) (by omega)
          rw [show j + 1 + (l - (j + 1)) = l from by omega] at this
          simpa using this
        · simp [conAt, List.getElem?_eq_none (show fs.length ≤ l by omega)]
      · exact blur_nx _ _ _ _ M h4 er k1
    · have hc : conAt fs (j + 1 + i) = false := by
        cases q : conAt fs (j + 1 + i) with
        | false => rfl
        | true => rw [q] at k2; cases k2
      rw [hc] at k2
      simp only [Bool.false_eq_true, if_false, Option.some.injEq] at k2
      subst k2
      refine .inr ⟨j, j + 1 + i, by omega, by omega, h2, h3, hc, fun l q1 q2 => ?_, ?_⟩
      · have := k3 (l - (j + 1)) (by omega)
        rw [show j + 1 + (l - (j + 1)) = l from by omega] at this
        simpa using this
      · exact blur_ret _ _ _ _ M h4 er k4
/-! ### schemes that keep the order -/
theorem goodS_at : ∀ {fs : List Fd} {j : Nat} {f : Fd}, goodS fs → fs[j]? = some f → f.fin = true ∧ (j + 1 < fs.length → f.k.good = true)
  | [], j, f, _, h => by simp at h
  | [g], 0, f, hg, h => by simp at h; subst h; exact ⟨hg, by simp⟩
  | [g], j + 1, f, hg, h => by simp at h
  | g :: g' :: fs, 0, f, hg, h => by simp at h; subst h; exact ⟨by simp [Fd.fin, hg.1], fun _ => hg.1⟩
  | g :: g' :: fs, j + 1, f, hg, h => by
    have := goodS_at (fs := g' :: fs) (j := j) hg.2 (by simpa using h)
    exact ⟨this.1, fun z => this.2 (by simpa using z)⟩
theorem good_bad {fs : List Fd} (hg : goodS fs) (j : Nat) : bad fs j = none := by
  unfold bad
  cases hf : fs[j]? with
  | none => rfl
  | some f =>
    obtain ⟨h1, h2⟩ := goodS_at hg hf
    have hp : fpair f = none := by
      unfold Fd.fin at h1
      obtain ⟨k, d, n⟩ := f
      revert h1
      cases k <;> cases d <;> simp [fpair, Kd.good, Kd.lit, Kd.size]
    simp only [hp]
    by_cases hr : f.k = .raw
    · rw [if_pos hr]
      cases hg2 : fs[j + 1]? with
      | none => rfl
      | some g =>
        have := h2 (List.getElem?_eq_some_iff.mp hg2).1
        rw [hr] at this; cases this
    · rw [if_neg hr]
theorem good_witness {fs : List Fd} (hg : goodS fs) (h1 : 1 ≤ fs.length) (h2 : fs.length ≤ 4) (M : List MO) : m_order_witness [sch fs] M = .ok .non M := by
  rcases order_witness_eq h1 h2 M with ⟨_, h⟩ | ⟨j, p, _, h, _⟩
  · exact h
  · rw [good_bad hg] at h; cases h
theorem good_keeps {fs : List Fd} (hg : goodS fs) (h1 : 1 ≤ fs.length) (h2 : fs.length ≤ 4) (M : List MO) : m_keeps_order [sch fs] M = .ok (.bl true) M := by
  simp [m_keeps_order, mOf, sv_keeps_order, startE, good_witness hg h1 h2]
theorem good_blur {fs : List Fd} (hg : goodS fs) (h2 : fs.length ≤ 4) (M : List MO) : m_blur_of [sch fs] M = .ok .non M := by
  rcases blur_of_eq h2 M with ⟨_, h⟩ | ⟨j, l, q1, q2, q3, _⟩
  · exact h
  · exfalso
    unfold isRaw at q3
    cases hf : fs[j]? with
    | none => rw [hf] at q3; cases q3
    | some f =>
      rw [hf] at q3
      simp only [decide_eq_true_eq] at q3
      have := (goodS_at hg hf).2 (by omega)
      rw [q3] at this; cases this
theorem good_decodable {fs : List Fd} (hg : goodS fs) (h1 : 1 ≤ fs.length) (h2 : fs.length ≤ 4) (M : List MO) : m_is_decodable [sch fs] M = .ok (.bl true) M := by
  simp [m_is_decodable, mOf, sv_is_decodable, startE, check_scheme_eq h1 h2, good_blur hg h2]
end KB
namespace KB
open PySem PySem.Spec PyProof.Rows L2
theorem okR_wv {fs : List Fd} {vs : List Vl} (h : okR fs vs) {j : Nat} {f : Fd} {v : Vl} (hf : fs[j]? = some f) (hv : okV f v) : okR fs (wv vs j v) := by
  have hj : j < fs.length := (List.getElem?_eq_some_iff.mp hf).1
  have e : fs = fs.take j ++ f :: fs.drop (j + 1) := by
    have := List.getElem?_eq_some_iff.mp hf
    obtain ⟨h1, h2⟩ := this
    conv => lhs; rw [← List.take_append_drop j fs]
    rw [List.drop_eq_getElem_cons h1, h2]
  have k : F2 okV (fs.take j ++ f :: fs.drop (j + 1)) (vs.take j ++ v :: vs.drop (j + 1)) := F2.append (F2.take h j) (.cons hv (F2.drop h (j + 1)))
  rw [← e] at k
  exact k
def isB : Vl → Bool
  | .byt _ => true
  | _ => false
theorem fIsi_v (v : Vl) (M : List MO) : fIsi "tuple" v.dd M = .ok (.bl (isB v)) M := by cases v <;> simp [isB]
@[simp] theorem fIsi_row (v : List Vl) (M : List MO) : fIsi "tuple" (rowd v) M = .ok (.bl true) M := by simp [rowd]
@[simp] theorem fLen_row (v : List Vl) (M : List MO) : fLen [rowd v] M = .ok (.int (v.length : Int)) M := by simp [rowd]
@[simp] theorem fLen_sch (v : List Fd) (M : List MO) : fLen [sch v] M = .ok (.int (v.length : Int)) M := by simp [sch]
theorem fSl_row (v : List Vl) (n : Nat) (M : List MO) : fSl (rowd v) none (some (n : Int)) M = .ok (rowd (v.take n)) M := by
  have := cut_to (v.map Vl.dd) n
  simp [rowd, this]
theorem fSl_row2 (v : List Vl) (n : Nat) (M : List MO) : fSl (rowd v) (some (n : Int)) none M = .ok (rowd (v.drop n)) M := by
  have := cut_from (v.map Vl.dd) n
  simp [rowd, this]
theorem fSl_sch (v : List Fd) (n : Nat) (M : List MO) : fSl (sch v) none (some (n : Int)) M = .ok (sch (v.take n)) M := by
  have := cut_to (v.map Fd.dd) n
  simp [sch, this]
theorem fAdd_row (a b : List Vl) (h : a.length + b.length ≤ 1000) (M : List MO) : fAdd (rowd a) (rowd b) M = .ok (rowd (a ++ b)) M := by
  have : a.length + b.length ≤ big := by unfold big; omega
  simp [rowd, this]
theorem zipD_take : ∀ (fs : List Fd) (vs : List Vl), zipD (fs.map Fd.dd) (vs.map Vl.dd) = zipD ((fs.take vs.length).map Fd.dd) (vs.map Vl.dd)
  | [], vs => by simp
  | _ :: _, [] => by simp [zipD]
  | f :: fs, v :: vs => by simp [zipD, zipD_take fs vs]
theorem check_values_eq {fs : List Fd} {vs : List Vl} (h : okR (fs.take vs.length) vs) (hl : vs.length < fs.length) (h4 : fs.length ≤ 4) (M : List MO) : m_check_values [sch fs, rowd vs] M = .ok .non M := by
  have key := compL_zip (g := gT [2, 3]) (el := eArgs m_is_value (eCons (eVar 2) (eCons (eVar 3) eNil))) (e := [some (sch fs), some (rowd vs), none, none]) (M := M) (h.imp fun f v _ q => ⟨_, rfl, by simp [is_value_eq q]⟩) [] (by unfold big; simp; omega)
  rw [← zipD_take] at key
  have hge : ¬ ((fs.length : Int) ≤ (vs.length : Int)) := by omega
  have e1 : (eLcA (eZip2 (eCons (eVar 0) (eCons (eVar 1) eNil))) (gT [2, 3]) [2, 3] eYes (eArgs m_is_value (eCons (eVar 2) (eCons (eVar 3) eNil)))) [some (sch fs), some (rowd vs), none, none] M = .ok (List.replicate (fs.take vs.length).length (.bl true)) M := by
    simp only [sch, rowd] at key ⊢
    simp [wipeE, key]
  simp only [m_check_values, mOf, sv_check_values, startE]
  simp [hge, -ev_lcA, e1, fAll_rep]
theorem check_ordered_eq {fs : List Fd} (hg : goodS fs) (h1 : 1 ≤ fs.length) (h2 : fs.length ≤ 4) (M : List MO) : m_check_ordered [sch fs] M = .ok .non M := by
  simp [m_check_ordered, mOf, sv_check_ordered, startE, good_witness hg h1 h2]
theorem row_range_eq {fs : List Fd} {vs : List Vl} (hg : goodS fs) (h : okR (fs.take vs.length) vs) (hl : vs.length < fs.length) (h4 : fs.length ≤ 4) (M : List MO) : ∃ J, m_row_range [sch fs, rowd vs] M = .ok (.tup [bs (encR (fs.take vs.length) vs), ob (endOf (encR (fs.take vs.length) vs))]) (M ++ J) := by
  obtain ⟨J, e⟩ := joined_eq h (by simp; omega) M
  have hb := encR_by h
  have hb2 : (fs.take vs.length).length ≤ 4 := by simp; omega
  have e2 := end_of_eq (encR (fs.take vs.length) vs) (by omega) (M ++ J)
  refine ⟨J, ?_⟩
  simp [m_row_range, mOf, sv_row_range, startE, check_ordered_eq hg (by omega) h4, check_values_eq h hl h4, fSl_sch, e, e2]
/-- low <= s and (high is None or s < high) -/
def rng (p : List Int) (o : Option (List Int)) (s : List Int) : Bool := !HT.lexLt s p && (match o with
  | none => true
  | some e => HT.lexLt s e)
theorem rng_inside (p s : List Int) (h : By s) : rng p (endOf p) s = decide (s.take p.length = p) := inside_eq p s h
theorem rng_expr (p : List Int) (o : Option (List Int)) (s : List Int) (e : EN) (M : List MO) (i8 i6 i9 : Nat) (h8 : e[i8]? = some (some (bs p))) (h6 : e[i6]? = some (some (bs s))) (h9 : e[i9]? = some (some (ob o))) :
    (eAndV (eBin fLe (eVar i8) (eVar i6)) (eOrV (eBin fIs (eVar i9) (eC .non)) (eBin fLt (eVar i6) (eVar i9)))) e M = .ok (.bl (rng p o s)) M := by
  cases o with
  | none => cases q : HT.lexLt s p <;> simp [h8, h6, h9, ob, rng, q]
  | some x => cases q : HT.lexLt s p <;> simp [h8, h6, h9, ob, rng, q]
theorem in_range_eq (p : List Int) (o : Option (List Int)) (s : List Int) (M : List MO) : m_in_range [bs s, .tup [bs p, ob o]] M = .ok (.bl (rng p o s)) M := by
  cases o with
  | none => cases q : HT.lexLt s p <;> simp [m_in_range, mOf, sv_in_range, startE, ob, rng, q]
  | some x => cases q : HT.lexLt s p <;> simp [m_in_range, mOf, sv_in_range, startE, ob, rng, q]
theorem starts_with_eq {fs : List Fd} {vs : List Vl} (hg : goodS fs) (h : okR (fs.take vs.length) vs) (hl : vs.length < fs.length) (h4 : fs.length ≤ 4) {s : List Int} (hs : By s) (hs2 : s.length ≤ 400) (M : List MO) : ∃ J, m_starts_with [sch fs, rowd vs, bs s] M = .ok (.bl (rng (encR (fs.take vs.length) vs) (endOf (encR (fs.take vs.length) vs)) s)) (M ++ J) := by
  obtain ⟨J, e⟩ := row_range_eq hg h hl h4 M
  refine ⟨J, ?_⟩
  simp [m_starts_with, mOf, sv_starts_with, startE, e, check_bytes_eq hs hs2, in_range_eq]
theorem pre_iff : ∀ {fs : List Fd} {vs ws : List Vl}, goodS fs → okR (fs.take vs.length) vs → vs.length < fs.length → okR fs ws → ((encR fs ws).take (encR (fs.take vs.length) vs).length = encR (fs.take vs.length) vs ↔ ws.take vs.length = vs)
  | fs, [], ws, _, _, _, _ => by simp [encR]
  | [], _ :: _, _, _, _, h, _ => by simp at h
  | [f], v :: vs, ws, _, _, h, _ => by simp at h
  | f :: f' :: fs, v :: vs, _, hg, h1, hl, h2 => by
    cases h2 with
    | @cons _ w _ ws k1 k2 =>
      simp only [List.length_cons, List.take_succ_cons] at h1 ⊢
      cases h1 with
      | cons k3 k4 =>
        simp only [encR, List.length_append, List.cons.injEq]
        by_cases e : w = v
        · subst e
          have ih := pre_iff (fs := f' :: fs) (vs := vs) (ws := ws) hg.2 k4 (by simpa using hl) k2
          rw [List.take_append, List.take_of_length_le (by omega), Nat.add_sub_cancel_left]
          simp only [List.append_cancel_left_eq, true_and]
          exact ih
        · simp only [e, false_and, iff_false]
          intro z
          have e2 := List.take_append_drop ((enc f v).length + (encR (List.take vs.length (f' :: fs)) vs).length) (enc f w ++ encR (f' :: fs) ws)
          rw [z] at e2
          rcases enc_part hg.1 k1 k3 e with ⟨_, q⟩ | ⟨_, q⟩
          · apply q.no_prefix (encR (f' :: fs) ws) (encR (List.take vs.length (f' :: fs)) vs ++ List.drop ((enc f v).length + (encR (List.take vs.length (f' :: fs)) vs).length) (enc f w ++ encR (f' :: fs) ws))
            rw [← List.append_assoc]
            exact e2.symm
          · apply q.no_prefix (encR (List.take vs.length (f' :: fs)) vs ++ List.drop ((enc f v).length + (encR (List.take vs.length (f' :: fs)) vs).length) (enc f w ++ encR (f' :: fs) ws)) (encR (f' :: fs) ws)
            rw [← List.append_assoc]
            exact e2
theorem dEqv_ob_refl (o : Option (List Int)) : dEqv (ob o) (ob o) = true := dEqv_refl (okD_ob o)
@[simp] theorem res_ob (o : Option (List Int)) (M : List MO) : res M (ob o) = ob o := by cases o <;> rfl
theorem law_true_fn (a b : Bool) (M : List MO) : m__law_true [.bl a, .bl b] M = .ok (.bl (a == b)) M := by
  simp [m__law_true, mOf, sv__law_true, startE, fEq]
end KB
namespace KB
open PySem PySem.Spec PyProof.Rows L2
/-! ### numbers of bytes -/
def nbF : Int → List Int → Int
  | a, [] => a
  | a, x :: r => nbF (a * 256 + x) r
def nb (a : List Int) : Int := nbF 0 a
theorem nbF_snoc : ∀ (r : List Int) (a x : Int), nbF a (r ++ [x]) = nbF a r * 256 + x
  | [], a, x => rfl
  | y :: r, a, x => by simp only [List.cons_append, nbF]; exact nbF_snoc r _ x
theorem nb_snoc (r : List Int) (x : Int) : nb (r ++ [x]) = nb r * 256 + x := nbF_snoc r 0 x
theorem nb_dig : ∀ (c v : Nat), v < 256 ^ c → nb (dig c v) = (v : Int)
  | 0, v, h => by
    have : v = 0 := by simp at h; exact h
    subst this; rfl
  | c + 1, v, h => by
    have h3 : v / 256 < 256 ^ c := by
      rw [Nat.pow_succ] at h
      exact Nat.div_lt_of_lt_mul (by rw [Nat.mul_comm]; exact h)
    rw [dig, nb_snoc, nb_dig c _ h3]
    omega
theorem snoc_ind {P : List Int → Prop} (h0 : P []) (h1 : ∀ r x, P r → P (r ++ [x])) (a : List Int) : P a := by
  have : P a.reverse.reverse := by
    generalize a.reverse = b
    induction b with
    | nil => exact h0
    | cons x r ih => rw [List.reverse_cons]; exact h1 _ _ ih
  rwa [List.reverse_reverse] at this
theorem dig_nb : ∀ (a : List Int), By a → (0 ≤ nb a ∧ nb a < pw a.length) ∧ dig a.length (nb a).natAbs = a := by
  refine snoc_ind (fun _ => ⟨⟨by decide, by decide⟩, rfl⟩) fun r x ih h => ?_
  have hr : By r := fun b hb => h b (by simp [hb])
  have hx := h x (by simp)
  obtain ⟨⟨i1, i2⟩, i3⟩ := ih hr
  rw [nb_snoc, List.length_append, List.length_cons, List.length_nil, Nat.zero_add, pw_succ]
  refine ⟨⟨by omega, by omega⟩, ?_⟩
  rw [dig]
  have e1 : (nb r * 256 + x).natAbs / 256 = (nb r).natAbs := by omega
  have e2 : (((nb r * 256 + x).natAbs % 256 : Nat) : Int) = x := by omega
  rw [e1, e2, i3]
/-! ### taking values -/
def tkI : List Int → Option (Int × List Int)
  | [] => none
  | h :: r =>
    if 8 < (h - 128).natAbs then none
    else if r.length < (h - 128).natAbs then none
    else if 0 < (h - 128).natAbs ∧ nb (if 128 ≤ h then r.take (h - 128).natAbs else flp (r.take (h - 128).natAbs)) < pw ((h - 128).natAbs - 1) then none
    else some (if 128 ≤ h then nb (r.take (h - 128).natAbs) else -nb (flp (r.take (h - 128).natAbs)), r.drop (h - 128).natAbs)
def tkC : List Int → Option (List Int × List Int)
  | [] => none
  | [_] => none
  | x :: y :: r => if x = 0 then (if y = 1 then some ([], r) else if y = 255 then (tkC r).map fun p => (0 :: p.1, p.2) else none) else (tkC (y :: r)).map fun p => (x :: p.1, p.2)
def tkP (k : Kd) (data : List Int) (len : Nat) : Option (Vl × List Int) :=
  if k = .int then (tkI data).map fun p => (.num p.1, p.2)
  else if k.sized then (if data.length < k.size then none else some (.num (nb (if k.fix then data.take k.size else (data.take k.size).reverse)), data.drop k.size))
  else if k = .closed then (tkC data).map fun p => (.byt p.1, p.2)
  else if k = .counted then (match data with
    | [] => none
    | h :: r => if (r.length : Int) < h then none else some (.byt (r.take h.toNat), r.drop h.toNat))
  else (if data.length < len then none else some (.byt (data.take len), data.drop len))
def tkW (f : Fd) (data : List Int) (len : Nat) : Option (Vl × List Int) :=
  if data.length < len then none else
  match tkP f.k (dirv f.d data) (data.length - len) with
  | none => none
  | some (v, r) => if isV f v then some (v, dirv f.d r) else none
def tkV (f : Fd) (data : List Int) (len : Nat) : Option (Vl × List Int) :=
  if f.n = .none then tkW f data len else
  match data with
  | [] => none
  | h :: r => if h = (if f.n = .first then 0 else 2) then some (.non, r) else if h ≠ 1 then none else tkW f r len
theorem dirv_dirv (d : Bool) (a : List Int) : dirv d (dirv d a) = a := by cases d <;> simp [dirv, flp_flp]
theorem dirv_app (d : Bool) (a b : List Int) : dirv d (a ++ b) = dirv d a ++ dirv d b := by cases d <;> simp [dirv]
theorem tkI_enc (i : Int) (hi : i.natAbs < 256 ^ 8) (R : List Int) : tkI (encI i ++ R) = some (i, R) := by
  have hc := cnt_le i.natAbs
  have hl := lt_cnt hi
  have hd := nb_dig _ _ hl
  unfold encI
  by_cases h0 : 0 ≤ i
  · rw [if_pos h0]
    have e1 : (128 + (cnt i.natAbs : Int) - 128).natAbs = cnt i.natAbs := by omega
    have e2 : (128 : Int) ≤ 128 + (cnt i.natAbs : Int) := by omega
    simp only [List.cons_append, tkI, e1, e2, if_true]
    rw [if_neg (by omega), if_neg (by simp)]
    have t1 : (dig (cnt i.natAbs) i.natAbs ++ R).take (cnt i.natAbs) = dig (cnt i.natAbs) i.natAbs := List.take_left' (dig_length _ _)
    have t2 : (dig (cnt i.natAbs) i.natAbs ++ R).drop (cnt i.natAbs) = R := List.drop_left' (dig_length _ _)
    rw [t1, t2, hd, if_neg]
    · congr 2; omega
    · rintro ⟨z1, z2⟩
      have := (cnt_iff (cnt i.natAbs - 1) hi).mpr (by omega)
      rw [pw_nat] at z2
      omega
  · rw [if_neg h0]
    have hp := cnt_pos hi (by omega)
    have e1 : (128 - (cnt i.natAbs : Int) - 128).natAbs = cnt i.natAbs := by omega
    have e2 : ¬ (128 : Int) ≤ 128 - (cnt i.natAbs : Int) := by omega
    simp only [List.cons_append, tkI, e1, e2, if_false]
    rw [if_neg (by omega), if_neg (by simp)]
    have t1 : (flp (dig (cnt i.natAbs) i.natAbs) ++ R).take (cnt i.natAbs) = flp (dig (cnt i.natAbs) i.natAbs) := List.take_left' (by simp)
    have t2 : (flp (dig (cnt i.natAbs) i.natAbs) ++ R).drop (cnt i.natAbs) = R := List.drop_left' (by simp)
    rw [t1, t2, flp_flp, hd, if_neg]
    · congr 2; omega
    · rintro ⟨z1, z2⟩
      have := (cnt_iff (cnt i.natAbs - 1) hi).mpr (by omega)
      rw [pw_nat] at z2
      omega
theorem tkC_enc : ∀ (b R : List Int), tkC (cl b ++ R) = some (b, R)
  | [], R => by simp [cl, cl0, tkC]
  | x :: b, R => by
    have ih := tkC_enc b R
    rw [cl_cons]
    by_cases q : x = 0
    · subst q
      simp [tkC, ih]
    · rw [if_neg q]
      have : ∃ y t, cl b ++ R = y :: t := by
        cases b with
        | nil => exact ⟨0, 1 :: R, by simp [cl, cl0]⟩
        | cons y b => rw [cl_cons]; split <;> exact ⟨_, _, rfl⟩
      obtain ⟨y, t, e⟩ := this
      simp only [List.cons_append, List.nil_append, e] at ih ⊢
      simp [tkC, q, ih]
theorem tkP_enc {f : Fd} {v : Vl} (h : okV f v) (hv : v ≠ .non) (R : List Int) (len : Nat) (hr : f.k = .raw → len = (pl f.k v).length) : tkP f.k (pl f.k v ++ R) len = some (v, R) := by
  obtain ⟨k, d, n⟩ := f
  simp only at hr ⊢
  cases v with
  | non => exact absurd rfl hv
  | num i =>
    simp only [okV] at h
    rcases h with ⟨rfl, h⟩ | ⟨h1, h2, h3⟩
    · simp [tkP, pl, tkI_enc i h]
    · have h4 : k ≠ .int := by rintro rfl; cases h1
      have hl : k.lit = !k.fix := by revert h1; cases k <;> decide
      have hd := nb_dig k.size i.natAbs (pw_natAbs h2 h3)
      have e0 : ((i.natAbs : Nat) : Int) = i := by omega
      simp only [tkP, pl, h4, if_false, h1, if_true]
      cases hf : k.fix with
      | true =>
        rw [hf] at hl
        simp only [hl, Bool.not_true, Bool.false_eq_true, if_false, if_true]
        rw [if_neg (by simp), List.take_left' (dig_length _ _), List.drop_left' (dig_length _ _), hd, e0]
      | false =>
        rw [hf] at hl
        simp only [hl, Bool.not_false, Bool.false_eq_true, if_false, if_true]
        rw [if_neg (by simp), List.take_left' (by simp), List.drop_left' (by simp), List.reverse_reverse, hd, e0]
  | byt b =>
    simp only [okV] at h
    have hk : k = .raw ∨ k = .closed ∨ k = .counted := by have := h.1; revert this; cases k <;> decide
    rcases hk with rfl | rfl | rfl
    · have := hr rfl
      subst this
      simp [tkP, pl, Kd.sized]
    · simp [tkP, pl, Kd.sized, tkC_enc]
    · have : ¬ ((b.length : Int) + (R.length : Int) < (b.length : Int)) := by omega
      simp [tkP, pl, Kd.sized, this]
theorem tkV_enc {f : Fd} {v : Vl} (h : okV f v) (R : List Int) (len : Nat) (hr : f.k = .raw → len = R.length) (hn : f.k ≠ .raw → len = 0) : tkV f (enc f v ++ R) len = some (v, R) := by
  have hw : ∀ v, okV f v → v ≠ .non → tkW f (dirv f.d (pl f.k v) ++ R) len = some (v, R) := fun v h hv => by
    unfold tkW
    have hl : len ≤ R.length := by
      by_cases q : f.k = .raw
      · rw [hr q]; exact Nat.le_refl _
      · rw [hn q]; omega
    rw [if_neg (by simp; omega), dirv_app, dirv_dirv]
    rw [tkP_enc h hv (dirv f.d R) _ (fun q => by rw [hr q]; simp)]
    simp only [isV_ok h, if_true, dirv_dirv]
  by_cases hv : v = .non
  · subst hv
    have hnn : f.n ≠ .none := h
    unfold tkV
    rw [if_neg hnn]
    simp [enc]
  · rw [enc_v hv]
    unfold tkV
    by_cases hnn : f.n = .none
    · rw [if_pos hnn]
      have : mk f.n = [] := by simp [mk, hnn]
      rw [this, List.nil_append]
      exact hw v h hv
    · rw [if_neg hnn]
      have : mk f.n = [1] := by simp [mk, hnn]
      rw [this]
      simp only [List.cons_append, List.nil_append]
      rw [if_neg (by split <;> decide)]
      simp only [ne_eq, not_true_eq_false, if_false]
      exact hw v h hv
/-! ### rows -/
def tln : List Fd → Nat
  | [] => 0
  | f :: fs => f.k.size + tln fs
def dcd : List Fd → List Int → Option (List Vl × List Int)
  | [], data => some ([], data)
  | f :: fs, data => match tkV f data (if f.k = .raw then tln fs else 0) with
    | none => none
    | some (v, r) => (dcd fs r).map fun p => (v :: p.1, p.2)
/-- behind a raw field all have constant lengths -/
def nbl : List Fd → Prop
  | [] => True
  | f :: fs => (f.k = .raw → ∀ g ∈ fs, isCon g = true) ∧ nbl fs
theorem enc_con {f : Fd} {v : Vl} (h : isCon f = true) (ok : okV f v) : (enc f v).length = f.k.size := by
  unfold isCon at h
  rw [Bool.and_eq_true, decide_eq_true_eq] at h
  have hv : v ≠ .non := by rintro rfl; exact ok h.2
  rw [enc_v hv]
  have : mk f.n = [] := by simp [mk, h.2]
  rw [this, List.nil_append, dirv_len]
  obtain ⟨k, d, n⟩ := f
  cases v with
  | non => exact absurd rfl hv
  | num i =>
    have hk : k ≠ .int := by rintro rfl; cases h.1
    simp only [pl, hk, if_false]
    split <;> simp
  | byt b =>
    exfalso
    have h1 : k.sized = true := h.1
    have h2 : k.byt = true := ok.1
    clear h ok
    revert h1 h2; cases k <;> decide
theorem encR_con {fs : List Fd} {vs : List Vl} (ok : okR fs vs) (h : ∀ g ∈ fs, isCon g = true) : (encR fs vs).length = tln fs := by
  induction ok with
  | nil => rfl
  | cons h1 h2 ih => simp only [encR, List.length_append, tln]; rw [enc_con (h _ (by simp)) h1, ih fun g hg => h g (by simp [hg])]
theorem dcd_enc : ∀ {fs : List Fd} {vs : List Vl}, nbl fs → okR fs vs → dcd fs (encR fs vs) = some (vs, [])
  | [], _, _, h => by cases h; rfl
  | f :: fs, _, hn, h => by
    cases h with
    | @cons _ v _ vs h1 h2 =>
      simp only [encR, dcd]
      have : tkV f (enc f v ++ encR fs vs) (if f.k = .raw then tln fs else 0) = some (v, encR fs vs) := by
        apply tkV_enc h1
        · intro q; rw [if_pos q, encR_con h2 (hn.1 q)]
        · intro q; rw [if_neg q]
      rw [this]
      simp only
      rw [dcd_enc hn.2 h2]
      rfl
end KB
namespace KB
open PySem PySem.Spec PyProof.Rows L2
/-! ### plain facts -/
theorem cl0_len_eq : ∀ b : List Int, (cl0 b).length = b.length + b.count 0
  | [] => rfl
  | x :: b => by
    have ih := cl0_len_eq b
    unfold cl0
    by_cases h : x = 0
    · subst h; simp [ih]; omega
    · simp [h, ih]; omega
theorem cl_len_eq (b : List Int) : (cl b).length = b.length + b.count 0 + 2 := by
  unfold cl
  rw [List.length_append, cl0_len_eq]
  rfl
theorem cl_order {a b : List Int} (ha : By a) (hb : By b) : HT.lexLt (cl a) (cl b) = HT.lexLt a b := by
  have pa : ∀ x ∈ a, 0 ≤ x := fun x h => (ha x h).1
  have pb : ∀ x ∈ b, 0 ≤ x := fun x h => (hb x h).1
  cases h : HT.lexLt a b with
  | true => exact (cl_dv pa pb h).lt0
  | false =>
    cases h2 : HT.lexLt b a with
    | true => exact lexLt_asymm _ _ (cl_dv pb pa h2).lt0
    | false => rw [lexLt_total _ _ h h2, lexLt_irrefl]
/-- no encoding, but a raw one, begins another one -/
theorem enc_free {f : Fd} {a b : Vl} (hk : f.k ≠ .raw) (ha : okV f a) (hb : okV f b) (h : (enc f b).take (enc f a).length = enc f a) : a = b := by
  have e : enc f b = enc f a ++ (enc f b).drop (enc f a).length := by
    conv => lhs; rw [← List.take_append_drop (enc f a).length (enc f b)]
    rw [h]
  have h1 := tkV_enc ha ((enc f b).drop (enc f a).length) 0 (fun z => absurd z hk) (fun _ => rfl)
  have h2 := tkV_enc hb [] 0 (fun z => absurd z hk) (fun _ => rfl)
  rw [← e] at h1
  rw [List.append_nil, h1] at h2
  injection h2 with h3
  exact (Prod.mk.inj h3).1
theorem enc_inj7 {f : Fd} {a b : Vl} (hk : f.k ≠ .raw) (ha : okV f a) (hb : okV f b) : decide (enc f a = enc f b) = decide (a = b) := by
  rw [decide_eq_decide]
  exact ⟨fun h => enc_free hk ha hb (by rw [h]; exact List.take_length), fun h => by rw [h]⟩

/-! ### the law -/
def intF : Fd := ⟨.int, false, .none⟩
theorem DM_app7 (s : DS) (Rm J : List MO) : DM s Rm ++ J = DM s (Rm ++ J) := rfl
def E7 (sc : D) (i : Int) (o4 o5 o6 o7 o8 o9 o10 o11 o12 : Option D) : EN := [some sc, some (.cell 1), some intF.dd, some (.int i), o4, o5, o6, o7, o8, o9, o10, o11, o12]
theorem pow64 (M : List MO) : fPow (.int 2) (.int 64) M = .ok (.int 18446744073709551616) M := by kernel_rfl
theorem encF (i : Int) : enc intF (.num i) = encI i := rfl
theorem okI {i : Int} (h : i.natAbs < 256 ^ 8) : okV intF (.num i) := .inl ⟨rfl, h⟩
theorem encI_eq7 {i : Int} (h : i.natAbs < 256 ^ 8) (M : List MO) : ∃ J, m_encode_value [intF.dd, .int i] M = .ok (bs (encI i)) (M ++ J) := encode_value_eq (okI h) M
theorem l7_4 (sc : D) {i : Int} (h : i.natAbs < 256 ^ 8) (s : DS) (Rm : List MO) : ∃ J o11 o12, sv_law_k07_4 (E7 sc i none none none none none none none none none) (DM s Rm) = .nx (E7 sc i none none none none none none none o11 o12) (DM s (Rm ++ J)) := by
  have ht : eTest (eBin fLt (eArgs fAbs (eCons (eVar 3) eNil)) (eBin fSub (eBin fPow (eC (.int 2)) (eC (.int 64))) (eC (.int 1)))) (E7 sc i none none none none none none none none none) (DM s Rm) = .ok (decide ((if i < 0 then -i else i) < 18446744073709551615)) (DM s Rm) := by
    have v3 : eVar 3 (E7 sc i none none none none none none none none none) (DM s Rm) = .ok (.int i) (DM s Rm) := rfl
    have hs : fSub (.int 18446744073709551616) (.int 1) (DM s Rm) = .ok (.int 18446744073709551615) (DM s Rm) := rfl
    rw [ev_test, ev_bin, ev_args, ev_cons, v3, R.bind_ok, ev_nil, R.bind_ok, R.bind_ok, fAbs_int, R.bind_ok, ev_bin, ev_bin, ev_c, R.bind_ok, ev_c, R.bind_ok, pow64, R.bind_ok, ev_c, R.bind_ok, hs, R.bind_ok, fLt_int]
    rfl
  unfold sv_law_k07_4
  rw [sv_if, ht, R.toS_ok]
  by_cases hlt : (if i < 0 then -i else i) < 18446744073709551615
  · rw [decide_eq_true hlt, if_pos rfl]
    have h2 : (i + 1).natAbs < 256 ^ 8 := by
      have e8 : (256 : Nat) ^ 8 = 18446744073709551616 := by decide +kernel
      rw [e8] at h ⊢
      split at hlt <;> omega
    obtain ⟨J1, e1⟩ := encI_eq7 h (DM s Rm)
    obtain ⟨J2, e2⟩ := encI_eq7 h2 (DM s Rm ++ J1)
    refine ⟨J1 ++ J2, some (bs (encI i)), some (bs (encI (i + 1))), ?_⟩
    have q1 : sv_law_k07_4b1 (E7 sc i none none none none none none none none none) (DM s Rm) = .nx (E7 sc i none none none none none none none (some (bs (encI i))) (some (bs (encI (i + 1))))) (DM s (Rm ++ (J1 ++ J2))) := by
      rw [← DM_app7, ← List.append_assoc]
      simp [sv_law_k07_4b1, E7, e1, e2]
    have hl : HT.lexLt (encI i) (encI (i + 1)) = true := (encI_dv (by omega) h h2).lt0
    have hiv := is_value_eq (okI h2) (DM s (Rm ++ (J1 ++ J2)))
    have hiv' : m_is_value [intF.dd, .int (i + 1)] (DM s (Rm ++ (J1 ++ J2))) = .ok (.bl true) (DM s (Rm ++ (J1 ++ J2))) := hiv
    have q2 : sv_law_k07_4b2 (E7 sc i none none none none none none none (some (bs (encI i))) (some (bs (encI (i + 1))))) (DM s (Rm ++ (J1 ++ J2))) = .nx (E7 sc i none none none none none none none (some (bs (encI i))) (some (bs (encI (i + 1))))) (DM s (Rm ++ (J1 ++ J2))) := by
      simp [sv_law_k07_4b2, E7, hl, hiv', fIsNot]
    rw [sv_seq, q1, RS.bind_nx, q2]
  · rw [decide_eq_false hlt]
    exact ⟨[], none, none, by rw [List.append_nil]; rfl⟩

theorem l7_5 (sc : D) {i : Int} (h : i.natAbs < 256 ^ 8) (s : DS) (Rm : List MO) (o11 o12 : Option D) : ∃ J, sv_law_k07_5 (E7 sc i none none none none none none none o11 o12) (DM s Rm) = .nx (E7 sc i none none none none none none none o11 o12) (DM s (Rm ++ J)) := by
  obtain ⟨J1, e1⟩ := encI_eq7 h (DM s Rm)
  rw [DM_app7] at e1
  have hc := cnt_le i.natAbs
  have hlen := encI_len i
  have hL : ∀ M M', m_encode_value [intF.dd, .int i] M = .ok (bs (encI i)) M' → eArgs fLen (eCons (eArgs m_encode_value (eCons (eVar 2) (eCons (eVar 3) eNil))) eNil) (E7 sc i none none none none none none none o11 o12) M = .ok (.int ((cnt i.natAbs : Int) + 1)) M' := fun M M' hh => by
    have v2 : eVar 2 (E7 sc i none none none none none none none o11 o12) M = .ok intF.dd M := rfl
    have v3 : eVar 3 (E7 sc i none none none none none none none o11 o12) M = .ok (.int i) M := rfl
    have hl2 : ((encI i).length : Int) = (cnt i.natAbs : Int) + 1 := by omega
    rw [ev_args, ev_cons, ev_args, ev_cons, v2, R.bind_ok, ev_cons, v3, R.bind_ok, ev_nil, R.bind_ok, R.bind_ok, R.bind_ok, hh, R.bind_ok, ev_nil, R.bind_ok, R.bind_ok, fLen_bs, hl2]
  have t1 : eTest (eBin fGt (eArgs fLen (eCons (eArgs m_encode_value (eCons (eVar 2) (eCons (eVar 3) eNil))) eNil)) (eC (.int 1))) (E7 sc i none none none none none none none o11 o12) (DM s Rm) = .ok (decide (1 ≤ cnt i.natAbs)) (DM s (Rm ++ J1)) := by
    have hd : decide ((1 : Int) < (cnt i.natAbs : Int) + 1) = decide (1 ≤ cnt i.natAbs) := by rw [decide_eq_decide]; omega
    rw [ev_test, ev_bin, hL _ _ e1, R.bind_ok, ev_c, R.bind_ok, fGt_int, hd]
    rfl
  unfold sv_law_k07_5
  rw [sv_if, ev_and, t1, R.bind_ok]
  by_cases h1 : 1 ≤ cnt i.natAbs
  · obtain ⟨J2, e2⟩ := encI_eq7 h (DM s (Rm ++ J1))
    rw [DM_app7] at e2
    refine ⟨J1 ++ J2, ?_⟩
    rw [decide_eq_true h1, if_pos rfl]
    have hp := law_power_eq (cnt i.natAbs - 1) (by omega) (DM s (Rm ++ J1 ++ J2))
    have hpw : pw (cnt i.natAbs - 1) ≤ (if i < 0 then -i else i) := by
      have := (cnt_iff (cnt i.natAbs - 1) h).mpr (by omega)
      rw [pw_nat]
      split <;> omega
    have hs : fSub (.int ((cnt i.natAbs : Int) + 1)) (.int 2) (DM s (Rm ++ J1 ++ J2)) = .ok (.int ((cnt i.natAbs - 1 : Nat) : Int)) (DM s (Rm ++ J1 ++ J2)) := by
      have : (cnt i.natAbs : Int) + 1 - 2 = ((cnt i.natAbs - 1 : Nat) : Int) := by omega
      rw [fSub_int, this]
    have v3 : eVar 3 (E7 sc i none none none none none none none o11 o12) (DM s (Rm ++ J1 ++ J2)) = .ok (.int i) (DM s (Rm ++ J1 ++ J2)) := rfl
    have t2 : eTest (eBin fGt (eArgs m__law_power (eCons (eBin fSub (eArgs fLen (eCons (eArgs m_encode_value (eCons (eVar 2) (eCons (eVar 3) eNil))) eNil)) (eC (.int 2))) eNil)) (eArgs fAbs (eCons (eVar 3) eNil))) (E7 sc i none none none none none none none o11 o12) (DM s (Rm ++ J1)) = .ok false (DM s (Rm ++ J1 ++ J2)) := by
      rw [ev_test, ev_bin, ev_args, ev_cons, ev_bin, hL _ _ e2, R.bind_ok, ev_c, R.bind_ok, hs, R.bind_ok, ev_nil, R.bind_ok, R.bind_ok, hp, R.bind_ok, ev_args, ev_cons, v3, R.bind_ok, ev_nil, R.bind_ok, R.bind_ok, fAbs_int, R.bind_ok, fGt_int, decide_eq_false (by omega)]
      rfl
    rw [t2, List.append_assoc]
    rfl
  · refine ⟨J1, ?_⟩
    rw [decide_eq_false h1]
    rfl

theorem sSub_cell7 {M M0 : List MO} {eo ei ev : EV} {e : EN} {p : Nat} {k : Nat} {ds : List D} {v : D} (h1 : ev e M0 = .ok v M) (h2 : eo e M = .ok (.cell p) M) (h3 : ei e M = .ok (.int (k : Nat)) M) (hM : M[p]? = some (.lst ds)) (hk : k < ds.length) : sSub eo ei ev e M0 = .nx e (M.set p (.lst (ds.set k v))) := by
  have hix : ixN ds.length (k : Int) = some k := by
    unfold ixN
    rw [if_pos (by omega), if_pos (by omega)]
    simp
  rw [sv_sub, h1, R.toS_ok, h2, R.toS_ok, h3, R.toS_ok]
  simp only [hM, hix]
section
variable (sc : D) (i : Int) {k : Kd} (hk : k ≠ .raw) (d : Bool) (n : Nl)
include hk
theorem l7_6t (s : DS) (Rm : List MO) {p : Nat} {a b : Vl} (ha : okV ⟨k, d, n⟩ a) (hb : okV ⟨k, d, n⟩ b) (hM : Rm[p]? = some (.lst [a.dd, b.dd])) (o4 o5 o6 o9 o10 o11 o12 : Option D) : ∃ J p11 p12, (sSeq sv_law_k07_6b4 (sSeq sv_law_k07_6b5 sv_law_k07_6b6)) (E7 sc i o4 o5 o6 (some (Fd.dd ⟨k, d, n⟩)) (some (.cell (p + 2))) o9 o10 o11 o12) (DM s Rm) = .nx (E7 sc i o4 o5 o6 (some (Fd.dd ⟨k, d, n⟩)) (some (.cell (p + 2))) o9 o10 p11 p12) (DM s (Rm ++ J)) := by
  have hpl : p < Rm.length := (List.getElem?_eq_some_iff.mp hM).1
  have at' : ∀ J, (DM s (Rm ++ J))[p + 2]? = some (.lst [a.dd, b.dd]) := fun J => by
    rw [DM_at, List.getElem?_append_left hpl]; exact hM
  have r1 : ∀ J, res (DM s (Rm ++ J)) (.cell (p + 2)) = .lst [a.dd, b.dd] := fun J => res_at (at' J)
  have i0 : ∀ J, fIx (.cell (p + 2)) (.int 0) (DM s (Rm ++ J)) = .ok a.dd (DM s (Rm ++ J)) := fun J => by
    unfold fIx
    rw [r1]
    rfl
  have i1 : ∀ J, fIx (.cell (p + 2)) (.int 1) (DM s (Rm ++ J)) = .ok b.dd (DM s (Rm ++ J)) := fun J => by
    unfold fIx
    rw [r1]
    rfl
  obtain ⟨J1, e1⟩ := encode_value_eq ha (DM s Rm)
  rw [DM_app7] at e1
  obtain ⟨J2, e2⟩ := encode_value_eq hb (DM s (Rm ++ J1))
  rw [DM_app7, List.append_assoc] at e2
  have i00 := i0 []
  rw [List.append_nil] at i00
  have q4 : sv_law_k07_6b4 (E7 sc i o4 o5 o6 (some (Fd.dd ⟨k, d, n⟩)) (some (.cell (p + 2))) o9 o10 o11 o12) (DM s Rm) = .nx (E7 sc i o4 o5 o6 (some (Fd.dd ⟨k, d, n⟩)) (some (.cell (p + 2))) o9 o10 (some (bs (enc ⟨k, d, n⟩ a))) (some (bs (enc ⟨k, d, n⟩ b)))) (DM s (Rm ++ (J1 ++ J2))) := by
    have i11 := i1 J1
    generalize Fd.dd ⟨k, d, n⟩ = fd at *
    simp [sv_law_k07_6b4, E7, i00, e1, i11, e2]
  have n1 : fNe a.dd b.dd (DM s (Rm ++ (J1 ++ J2))) = .ok (.bl (!decide (a = b))) (DM s (Rm ++ (J1 ++ J2))) := by
    have := dEqv_v ha hb
    have h1 := (okD1 a).shp
    have h2 := (okD1 b).shp
    have z1 : res (DM s (Rm ++ (J1 ++ J2))) a.dd = a.dd := by cases a <;> rfl
    have z2 : res (DM s (Rm ++ (J1 ++ J2))) b.dd = b.dd := by cases b <;> rfl
    unfold fNe
    rw [z1, z2, h1, h2, this]
    rfl
  have n2 : fEq a.dd b.dd (DM s (Rm ++ (J1 ++ J2))) = .ok (.bl (decide (a = b))) (DM s (Rm ++ (J1 ++ J2))) := by
    have := dEqv_v ha hb
    have h1 := (okD1 a).shp
    have h2 := (okD1 b).shp
    have z1 : res (DM s (Rm ++ (J1 ++ J2))) a.dd = a.dd := by cases a <;> rfl
    have z2 : res (DM s (Rm ++ (J1 ++ J2))) b.dd = b.dd := by cases b <;> rfl
    unfold fEq
    rw [z1, z2, h1, h2, this]
    rfl
  have n3 : fEq (bs (enc ⟨k, d, n⟩ a)) (bs (enc ⟨k, d, n⟩ b)) (DM s (Rm ++ (J1 ++ J2))) = .ok (.bl (decide (a = b))) (DM s (Rm ++ (J1 ++ J2))) := by
    rw [← enc_inj7 hk ha hb]
    simp [fEq]
  have cut := cut_to (enc ⟨k, d, n⟩ b) (enc ⟨k, d, n⟩ a).length
  have n4 : a ≠ b → fEq (bs ((enc ⟨k, d, n⟩ b).take (enc ⟨k, d, n⟩ a).length)) (bs (enc ⟨k, d, n⟩ a)) (DM s (Rm ++ (J1 ++ J2))) = .ok (.bl false) (DM s (Rm ++ (J1 ++ J2))) := fun hne => by
    have : ¬ ((enc ⟨k, d, n⟩ b).take (enc ⟨k, d, n⟩ a).length = enc ⟨k, d, n⟩ a) := fun z => hne (enc_free hk ha hb z)
    simp only [fEq, res_bs, shp_bs, Bool.and_self, if_true, dEqv_bs, decide_eq_false this]
  have j0 := i0 (J1 ++ J2)
  have j1 := i1 (J1 ++ J2)
  have q5 : sv_law_k07_6b5 (E7 sc i o4 o5 o6 (some (Fd.dd ⟨k, d, n⟩)) (some (.cell (p + 2))) o9 o10 (some (bs (enc ⟨k, d, n⟩ a))) (some (bs (enc ⟨k, d, n⟩ b)))) (DM s (Rm ++ (J1 ++ J2))) = .nx (E7 sc i o4 o5 o6 (some (Fd.dd ⟨k, d, n⟩)) (some (.cell (p + 2))) o9 o10 (some (bs (enc ⟨k, d, n⟩ a))) (some (bs (enc ⟨k, d, n⟩ b)))) (DM s (Rm ++ (J1 ++ J2))) := by
    by_cases hab : a = b
    · rw [decide_eq_true hab] at n1
      generalize Fd.dd ⟨k, d, n⟩ = fd at *
      simp [sv_law_k07_6b5, E7, j0, j1, n1]
    · rw [decide_eq_false hab] at n1
      have n4 := n4 hab
      generalize (enc ⟨k, d, n⟩ b).take (enc ⟨k, d, n⟩ a).length = tk at *
      generalize enc ⟨k, d, n⟩ a = xa at *
      generalize enc ⟨k, d, n⟩ b = xb at *
      generalize Fd.dd ⟨k, d, n⟩ = fd at *
      simp [sv_law_k07_6b5, E7, j0, j1, n1, cut, n4]
  have q6 : sv_law_k07_6b6 (E7 sc i o4 o5 o6 (some (Fd.dd ⟨k, d, n⟩)) (some (.cell (p + 2))) o9 o10 (some (bs (enc ⟨k, d, n⟩ a))) (some (bs (enc ⟨k, d, n⟩ b)))) (DM s (Rm ++ (J1 ++ J2))) = .nx (E7 sc i o4 o5 o6 (some (Fd.dd ⟨k, d, n⟩)) (some (.cell (p + 2))) o9 o10 (some (bs (enc ⟨k, d, n⟩ a))) (some (bs (enc ⟨k, d, n⟩ b)))) (DM s (Rm ++ (J1 ++ J2))) := by
    have hne : ∀ (b : Bool) M, fNe (.bl b) (.bl b) M = .ok (.bl false) M := fun b M => by cases b <;> kernel_rfl
    generalize decide (a = b) = v at *
    generalize enc ⟨k, d, n⟩ a = xa at *
    generalize enc ⟨k, d, n⟩ b = xb at *
    generalize Fd.dd ⟨k, d, n⟩ = fd at *
    simp [sv_law_k07_6b6, E7, j0, j1, n2, n3, hne]
  refine ⟨J1 ++ J2, some (bs (enc ⟨k, d, n⟩ a)), some (bs (enc ⟨k, d, n⟩ b)), ?_⟩
  rw [sv_seq, q4, RS.bind_nx, sv_seq, q5, RS.bind_nx, q6]

/-- one kind -/
theorem l7_6k (s : DS) (Rm : List MO) (o5 o6 o7 o8 o9 o10 o11 o12 : Option D) : ∃ s' J p7 p8 p11 p12, (sSeq sv_law_k07_6b1 (sSeq sv_law_k07_6b2 (sSeq sv_law_k07_6b3 (sSeq sv_law_k07_6b4 (sSeq sv_law_k07_6b5 sv_law_k07_6b6))))) (E7 sc i (some (.str k.s)) o5 o6 o7 o8 o9 o10 o11 o12) (DM s Rm) = .nx (E7 sc i (some (.str k.s)) o5 o6 p7 p8 o9 o10 p11 p12) (DM s' J) := by
  obtain ⟨d, s1, e1⟩ := dir_eq s Rm
  obtain ⟨n, s2, e2⟩ := nul3_eq s1 Rm
  have hb2 : (2 : Nat) ≤ big := by decide
  have hb3 : (3 : Nat) ≤ big := by decide
  have q1 : sv_law_k07_6b1 (E7 sc i (some (.str k.s)) o5 o6 o7 o8 o9 o10 o11 o12) (DM s Rm) = .nx (E7 sc i (some (.str k.s)) o5 o6 (some (Fd.dd ⟨k, d, n⟩)) o8 o9 o10 o11 o12) (DM s2 Rm) := by
    simp [sv_law_k07_6b1, E7, hb2, hb3, e1, e2, Fd.dd]
  obtain ⟨a, s3, e3, ha, ha9⟩ := value_eq7 s2 ⟨k, d, n⟩ Rm
  obtain ⟨b, s4, e4, hb, _⟩ := value_eq7 s3 ⟨k, d, n⟩ Rm
  have q2 : sv_law_k07_6b2 (E7 sc i (some (.str k.s)) o5 o6 (some (Fd.dd ⟨k, d, n⟩)) o8 o9 o10 o11 o12) (DM s2 Rm) = .nx (E7 sc i (some (.str k.s)) o5 o6 (some (Fd.dd ⟨k, d, n⟩)) (some (.cell (Rm.length + 2))) o9 o10 o11 o12) (DM s4 (Rm ++ [.lst [a.dd, b.dd]])) := by
    have hc : fCell [a.dd, b.dd] (DM s4 Rm) = .ok (.cell (Rm.length + 2)) (DM s4 (Rm ++ [.lst [a.dd, b.dd]])) := by
      unfold fCell
      simp [hb2]
    generalize Fd.dd ⟨k, d, n⟩ = fd at *
    generalize Rm ++ [MO.lst [a.dd, b.dd]] = R2 at *
    simp [sv_law_k07_6b2, E7, e3, e4, hc]
  have at0 : ∀ s, (DM s (Rm ++ [.lst [a.dd, b.dd]]))[Rm.length + 2]? = some (.lst [a.dd, b.dd]) := fun s => by
    rw [DM_at, List.getElem?_append_right (Nat.le_refl _), Nat.sub_self]; rfl
  have i0 : ∀ s, fIx (.cell (Rm.length + 2)) (.int 0) (DM s (Rm ++ [.lst [a.dd, b.dd]])) = .ok a.dd (DM s (Rm ++ [.lst [a.dd, b.dd]])) := fun s => by
    unfold fIx
    rw [res_at (at0 s)]
    rfl
  -- the second value may be changed
  have q3 : ∃ s5 b', okV ⟨k, d, n⟩ b' ∧ sv_law_k07_6b3 (E7 sc i (some (.str k.s)) o5 o6 (some (Fd.dd ⟨k, d, n⟩)) (some (.cell (Rm.length + 2))) o9 o10 o11 o12) (DM s4 (Rm ++ [.lst [a.dd, b.dd]])) = .nx (E7 sc i (some (.str k.s)) o5 o6 (some (Fd.dd ⟨k, d, n⟩)) (some (.cell (Rm.length + 2))) o9 o10 o11 o12) (DM s5 (Rm ++ [.lst [a.dd, Vl.dd b']])) := by
    have t1 : eTest (eUn (fIsi "tuple") (eBin fIx (eVar 8) (eC (.int 0)))) (E7 sc i (some (.str k.s)) o5 o6 (some (Fd.dd ⟨k, d, n⟩)) (some (.cell (Rm.length + 2))) o9 o10 o11 o12) (DM s4 (Rm ++ [.lst [a.dd, b.dd]])) = .ok (isB a) (DM s4 (Rm ++ [.lst [a.dd, b.dd]])) := by
      have v8 : eVar 8 (E7 sc i (some (.str k.s)) o5 o6 (some (Fd.dd ⟨k, d, n⟩)) (some (.cell (Rm.length + 2))) o9 o10 o11 o12) (DM s4 (Rm ++ [.lst [a.dd, b.dd]])) = .ok (.cell (Rm.length + 2)) (DM s4 (Rm ++ [.lst [a.dd, b.dd]])) := rfl
      rw [ev_test, ev_un, ev_bin, v8, R.bind_ok, ev_c, R.bind_ok, i0, R.bind_ok, fIsi_v]
      rfl
    unfold sv_law_k07_6b3
    rw [sv_if, ev_and, t1, R.bind_ok]
    cases hB : isB a with
    | false => exact ⟨s4, b, hb, rfl⟩
    | true =>
      obtain ⟨q, s5, e5, _, _⟩ := draw_eq s4 2 (by decide) (by decide) (Rm ++ [.lst [a.dd, b.dd]])
      have t2 : eTest (eBin fEq (eArgs m__law_draw (eCons (eVar 1) (eCons (eC (.int 2)) eNil))) (eC (.int 0))) (E7 sc i (some (.str k.s)) o5 o6 (some (Fd.dd ⟨k, d, n⟩)) (some (.cell (Rm.length + 2))) o9 o10 o11 o12) (DM s4 (Rm ++ [.lst [a.dd, b.dd]])) = .ok (decide (q = 0)) (DM s5 (Rm ++ [.lst [a.dd, b.dd]])) := by
        generalize Rm ++ [MO.lst [a.dd, b.dd]] = R2 at *
        simp [E7, e5, fEq]
      rw [if_pos rfl, t2]
      by_cases hq : q = 0
      · cases a with
        | byt x =>
          obtain ⟨t, s6, e6, tl, tb⟩ := text_eq7 s5 2 (by decide) (by decide) (Rm ++ [.lst [(Vl.byt x).dd, b.dd]])
          obtain ⟨k1, k2, k3⟩ : k.byt = true ∧ By x ∧ x.length ≤ k.lim := ha
          have hlim : k.lim ≤ 40 := by cases k <;> decide
          have hlim2 : 9 ≤ k.lim := by revert k1; cases k <;> decide
          have okn : okV ⟨k, d, n⟩ (.byt ((x ++ t).take 9)) := ⟨k1, (k2.append tb).take 9, by
            show ((x ++ t).take 9).length ≤ k.lim
            simp; omega⟩
          have hbb : x.length + t.length ≤ big := by unfold big; omega
          have c9 : cutD (x ++ t) none (some 9) = (x ++ t).take 9 := cut_to (x ++ t) 9
          refine ⟨s6, .byt ((x ++ t).take 9), okn, ?_⟩
          rw [decide_eq_true hq, R.toS_ok, if_pos rfl]
          have hev : (eSl (eBin fAdd (eBin fIx (eVar 8) (eC (.int 0))) (eUn fWeak (eArgs m__law_text_k07 (eCons (eVar 1) (eCons (eC (.int 2)) eNil))))) eNoE (eSomeE (eC (.int 9)))) (E7 sc i (some (.str k.s)) o5 o6 (some (Fd.dd ⟨k, d, n⟩)) (some (.cell (Rm.length + 2))) o9 o10 o11 o12) (DM s5 (Rm ++ [.lst [(Vl.byt x).dd, b.dd]])) = .ok (bs ((x ++ t).take 9)) (DM s6 (Rm ++ [.lst [(Vl.byt x).dd, b.dd]])) := by
            have i05 := i0 s5
            generalize Rm ++ [MO.lst [(Vl.byt x).dd, b.dd]] = R2 at *
            generalize (x ++ t).take 9 = bt at *
            simp [E7, i05, e6, weak_pbs, hbb, c9]
          have hs := sSub_cell7 (eo := eVar 8) (ei := eC (.int 1)) (k := 1) (p := Rm.length + 2) (e := E7 sc i (some (.str k.s)) o5 o6 (some (Fd.dd ⟨k, d, n⟩)) (some (.cell (Rm.length + 2))) o9 o10 o11 o12) hev rfl rfl (at0 s6) (by simp)
          unfold sv_law_k07_6b3b1
          rw [hs]
          congr 1
          show DM s6 ((Rm ++ [MO.lst [(Vl.byt x).dd, b.dd]]).set Rm.length (MO.lst [bs x, bs ((x ++ t).take 9)])) = _
          rw [List.set_append_right _ _ (Nat.le_refl _), Nat.sub_self]
          rfl
        | non => cases hB
        | num z => cases hB
      · refine ⟨s5, b, hb, ?_⟩
        rw [decide_eq_false hq]
        rfl
  obtain ⟨s5, b', hb', q3⟩ := q3
  obtain ⟨J, p11, p12, q4⟩ := l7_6t sc i hk d n s5 (Rm ++ [.lst [a.dd, Vl.dd b']]) (p := Rm.length) ha hb' (by rw [List.getElem?_append_right (Nat.le_refl _), Nat.sub_self]; rfl) (some (D.str k.s)) o5 o6 o9 o10 o11 o12
  refine ⟨s5, Rm ++ [.lst [a.dd, Vl.dd b']] ++ J, some (Fd.dd ⟨k, d, n⟩), some (.cell (Rm.length + 2)), p11, p12, ?_⟩
  rw [sv_seq, q1, RS.bind_nx, sv_seq, q2, RS.bind_nx, sv_seq, q3, RS.bind_nx, q4]
end

/-! ### the kinds in turn, and the end -/
def body7 : SV := (sSeq sv_law_k07_6b1 (sSeq sv_law_k07_6b2 (sSeq sv_law_k07_6b3 (sSeq sv_law_k07_6b4 (sSeq sv_law_k07_6b5 sv_law_k07_6b6)))))
theorem l7_loop (sc : D) (i : Int) : ∀ (ks : List Kd), (∀ k ∈ ks, k ≠ .raw) → ∀ (s : DS) (Rm : List MO) (o4 o5 o6 o7 o8 o9 o10 o11 o12 : Option D), ∃ s' J p4 p7 p8 p11 p12, forL (gN 4) body7 (ks.map fun k => .str k.s) (E7 sc i o4 o5 o6 o7 o8 o9 o10 o11 o12) (DM s Rm) = .nx (E7 sc i p4 o5 o6 p7 p8 o9 o10 p11 p12) (DM s' J)
  | [], _, s, Rm, o4, o5, o6, o7, o8, o9, o10, o11, o12 => ⟨s, Rm, o4, o7, o8, o11, o12, rfl⟩
  | k :: ks, h, s, Rm, o4, o5, o6, o7, o8, o9, o10, o11, o12 => by
    obtain ⟨s1, J1, p7, p8, p11, p12, e1⟩ := l7_6k sc i (h k (by simp)) s Rm o5 o6 o7 o8 o9 o10 o11 o12
    obtain ⟨s2, J2, r4, r7, r8, r11, r12, e2⟩ := l7_loop sc i ks (fun k hk => h k (by simp [hk])) s1 J1 (some (.str k.s)) o5 o6 p7 p8 o9 o10 p11 p12
    refine ⟨s2, J2, r4, r7, r8, r11, r12, ?_⟩
    have hg : (E7 sc i o4 o5 o6 o7 o8 o9 o10 o11 o12).set 4 (some (.str k.s)) = E7 sc i (some (.str k.s)) o5 o6 o7 o8 o9 o10 o11 o12 := rfl
    have hb : body7 (E7 sc i (some (.str k.s)) o5 o6 o7 o8 o9 o10 o11 o12) (DM s Rm) = .nx (E7 sc i (some (.str k.s)) o5 o6 p7 p8 o9 o10 p11 p12) (DM s1 J1) := e1
    rw [List.map_cons]
    unfold forL
    rw [gN_eq, hg]
    show (body7 _ _).turn _ = _
    rw [hb, RS.turn_nx, e2]
theorem l7_6 (sc : D) (i : Int) (s : DS) (Rm : List MO) (o11 o12 : Option D) : ∃ s' J p4 p7 p8 p11 p12, sv_law_k07_6 (E7 sc i none none none none none none none o11 o12) (DM s Rm) = .nx (E7 sc i p4 none none p7 p8 none none p11 p12) (DM s' J) := by
  obtain ⟨s', J, p4, p7, p8, p11, p12, e⟩ := l7_loop sc i [.int, .closed, .counted, .f2, .l3] (by decide) s Rm none none none none none none none o11 o12
  refine ⟨s', J, p4, p7, p8, p11, p12, ?_⟩
  rw [← e]
  rfl
theorem fEq_bl7 (a b : Bool) (M : List MO) (h : a = b) : fEq (.bl a) (.bl b) M = .ok (.bl true) M := by
  subst h
  cases a <;> kernel_rfl
theorem fEq_int7 (a b : Int) (M : List MO) (h : a = b) : fEq (.int a) (.int b) M = .ok (.bl true) M := by
  subst h
  simp [fEq]
theorem l7_7 (sc : D) (i : Int) (s : DS) (Rm : List MO) (o4 o7 o8 o11 o12 : Option D) : ∃ t m s', sv_law_k07_7 (E7 sc i o4 none none o7 o8 none none o11 o12) (DM s Rm) = .nx (E7 sc i o4 none none o7 o8 (some (pbs t)) (some (pbs m)) o11 o12) (DM s' Rm) ∧ By t ∧ By m ∧ t.length ≤ 9 ∧ m.length ≤ 9 := by
  obtain ⟨t, s1, e1, h1, b1⟩ := text_eq7 s 9 (by decide) (by decide) Rm
  obtain ⟨m, s2, e2, h2, b2⟩ := text_eq7 s1 9 (by decide) (by decide) Rm
  refine ⟨t, m, s2, ?_, b1, b2, by omega, by omega⟩
  simp [sv_law_k07_7, E7, e1, e2]
theorem l7_8 (sc : D) (i : Int) (s : DS) (Rm : List MO) (o4 o7 o8 o9 o10 o11 o12 : Option D) : ∃ d s', sv_law_k07_8 (E7 sc i o4 none none o7 o8 o9 o10 o11 o12) (DM s Rm) = .nx (E7 sc i o4 (some (Fd.dd ⟨.raw, d, .none⟩)) none o7 o8 o9 o10 o11 o12) (DM s' Rm) := by
  obtain ⟨d, s1, e1⟩ := dir_eq s Rm
  have hb2 : (2 : Nat) ≤ big := by decide
  have hb3 : (3 : Nat) ≤ big := by decide
  refine ⟨d, s1, ?_⟩
  simp [sv_law_k07_8, E7, e1, hb2, hb3, Fd.dd, Kd.s, Nl.s]
theorem l7_9 (sc : D) (i : Int) (d : Bool) {t m : List Int} (ht : By t) (hm : By m) (lt : t.length ≤ 9) (lm : m.length ≤ 9) (s : DS) (Rm : List MO) (o4 o7 o8 o11 o12 : Option D) : ∃ J, sv_law_k07_9 (E7 sc i o4 (some (Fd.dd ⟨.raw, d, .none⟩)) none o7 o8 (some (pbs t)) (some (pbs m)) o11 o12) (DM s Rm) = .nx (E7 sc i o4 (some (Fd.dd ⟨.raw, d, .none⟩)) none o7 o8 (some (pbs t)) (some (pbs m)) o11 o12) (DM s (Rm ++ J)) := by
  have okr : ∀ x : List Int, By x → x.length ≤ 40 → okV ⟨.raw, d, .none⟩ (.byt x) := fun x hx hl => ⟨rfl, hx, hl⟩
  have er : ∀ x : List Int, enc ⟨.raw, d, .none⟩ (.byt x) = dirv d x := fun x => rfl
  obtain ⟨J1, e1⟩ := encode_value_eq (okr (t ++ m) (ht.append hm) (by simp; omega)) (DM s Rm)
  rw [DM_app7] at e1
  obtain ⟨J2, e2⟩ := encode_value_eq (okr t ht (by omega)) (DM s (Rm ++ J1))
  rw [DM_app7] at e2
  obtain ⟨J3, e3⟩ := encode_value_eq (okr m hm (by omega)) (DM s (Rm ++ J1 ++ J2))
  rw [DM_app7] at e3
  rw [er] at e1 e2 e3
  have e1' : m_encode_value [Fd.dd ⟨.raw, d, .none⟩, bs (t ++ m)] (DM s Rm) = .ok (bs (dirv d (t ++ m))) (DM s (Rm ++ J1)) := e1
  have e2' : m_encode_value [Fd.dd ⟨.raw, d, .none⟩, bs t] (DM s (Rm ++ J1)) = .ok (bs (dirv d t)) (DM s (Rm ++ J1 ++ J2)) := e2
  have e3' : m_encode_value [Fd.dd ⟨.raw, d, .none⟩, bs m] (DM s (Rm ++ J1 ++ J2)) = .ok (bs (dirv d m)) (DM s (Rm ++ J1 ++ J2 ++ J3)) := e3
  refine ⟨J1 ++ J2 ++ J3, ?_⟩
  have a1 : ∀ M, fAdd (bs t) (bs m) M = .ok (bs (t ++ m)) M := fun M => by rw [fAdd_bs, if_pos (by unfold big; omega)]
  have dl : ∀ x, (dirv d x).length = x.length := fun x => by unfold dirv flp; split <;> simp
  have a2 : ∀ M, fAdd (bs (dirv d t)) (bs (dirv d m)) M = .ok (bs (dirv d (t ++ m))) M := fun M => by
    rw [fAdd_bs, if_pos (by rw [dl, dl]; unfold big; omega), dirv_app]
  have a3 : ∀ M, fNe (bs (dirv d (t ++ m))) (bs (dirv d (t ++ m))) M = .ok (.bl false) M := fun M => by simp [fNe]
  have as : Rm ++ (J1 ++ J2 ++ J3) = Rm ++ J1 ++ J2 ++ J3 := by simp
  rw [as]
  generalize Rm ++ J1 ++ J2 ++ J3 = R3 at *
  generalize Rm ++ J1 ++ J2 = R2 at *
  generalize Rm ++ J1 = R1 at *
  generalize dirv d (t ++ m) = x0 at *
  generalize dirv d t = x1 at *
  generalize dirv d m = x2 at *
  generalize Fd.dd ⟨.raw, d, .none⟩ = fd at *
  generalize t ++ m = tm at *
  simp [sv_law_k07_9, E7, weak_pbs, a1, e1', e2', e3', a2, a3]
def clF : Fd := ⟨.closed, false, .none⟩
theorem l7_10 (sc : D) (i : Int) (o4 o5 o7 o8 o9 o10 o11 o12 : Option D) (M : List MO) : sv_law_k07_10 (E7 sc i o4 o5 none o7 o8 o9 o10 o11 o12) M = .nx (E7 sc i o4 o5 (some clF.dd) o7 o8 o9 o10 o11 o12) M := rfl
theorem l7_11 (sc : D) (i : Int) {t m : List Int} (ht : By t) (hm : By m) (lt : t.length ≤ 9) (lm : m.length ≤ 9) (o4 o5 o7 o8 o11 o12 : Option D) (M : List MO) : ∃ M', sv_law_k07_11 (E7 sc i o4 o5 (some clF.dd) o7 o8 (some (pbs t)) (some (pbs m)) o11 o12) M = .nx (E7 sc i o4 o5 (some clF.dd) o7 o8 (some (pbs t)) (some (pbs m)) (some (bs (cl t))) (some (bs (cl m)))) M' := by
  have okr : ∀ x : List Int, By x → x.length ≤ 40 → okV clF (.byt x) := fun x hx hl => ⟨rfl, hx, hl⟩
  obtain ⟨J1, e1⟩ := encode_value_eq (okr t ht (by omega)) M
  obtain ⟨J2, e2⟩ := encode_value_eq (okr m hm (by omega)) (M ++ J1)
  have e1' : m_encode_value [clF.dd, bs t] M = .ok (bs (cl t)) (M ++ J1) := e1
  have e2' : m_encode_value [clF.dd, bs m] (M ++ J1) = .ok (bs (cl m)) (M ++ J1 ++ J2) := e2
  refine ⟨M ++ J1 ++ J2, ?_⟩
  generalize M ++ J1 ++ J2 = M2 at *
  generalize M ++ J1 = M1 at *
  simp [sv_law_k07_11, E7, weak_pbs, e1', e2']
theorem l7_12 (sc : D) (i : Int) {t m : List Int} (ht : By t) (hm : By m) (o4 o5 o6 o7 o8 : Option D) (M : List MO) : sv_law_k07_12 (E7 sc i o4 o5 o6 o7 o8 (some (pbs t)) (some (pbs m)) (some (bs (cl t))) (some (bs (cl m)))) M = .ret (.bl true) M := by
  have h1 := fEq_bl7 (HT.lexLt (cl t) (cl m)) (HT.lexLt t m) M (cl_order ht hm)
  have h2 := fEq_int7 ((cl t).length : Int) ((t.length : Int) + (t.count 0 : Nat) + 2) M (by rw [cl_len_eq]; omega)
  have h3 := count_pbs t 0 M
  have h4 : ∀ M, ckP (pbs t) M = true := fun M => rfl
  simp [sv_law_k07_12, E7, weak_pbs, h1, h2, h3, h4]
theorem law_true (ns : List Int) (h : ns.length ≤ 63) : ∃ M', m_law_k07 [.scr (ns.map .int)] [] = .ok (.bl true) M' := by
  obtain ⟨s0, e0⟩ := start_eq ns
  obtain ⟨v, s1, e1, hv, _⟩ := value_eq7 s0 intF []
  obtain ⟨i, rfl, hi⟩ : ∃ i, v = .num i ∧ i.natAbs < 256 ^ 8 := by
    cases v with
    | non => exact absurd rfl (hv : intF.n ≠ .none)
    | num i => 
      rcases (hv : (intF.k = .int ∧ i.natAbs < 256 ^ 8) ∨ _) with h | h
      · exact ⟨i, rfl, h.2⟩
      · exact absurd h.1 (by decide)
    | byt b => exact absurd (hv : intF.k.byt = true ∧ _).1 (by decide)
  have e1' : m__law_value_k07 [.cell 1, intF.dd] (DM s0 []) = .ok (.int i) (DM s1 []) := e1
  have q1 : sv_law_k07_1 (startE 13 [.scr (ns.map .int)]) [] = .nx [some (.scr (ns.map .int)), some (.cell 1), none, none, none, none, none, none, none, none, none, none, none] (DM s0 []) := by
    simp [sv_law_k07_1, startE, e0]
  have q2 : ∀ M, sv_law_k07_2 [some (.scr (ns.map .int)), some (.cell 1), none, none, none, none, none, none, none, none, none, none, none] M = .nx [some (.scr (ns.map .int)), some (.cell 1), some intF.dd, none, none, none, none, none, none, none, none, none, none] M := fun M => rfl
  have q3 : sv_law_k07_3 [some (.scr (ns.map .int)), some (.cell 1), some intF.dd, none, none, none, none, none, none, none, none, none, none] (DM s0 []) = .nx (E7 (.scr (ns.map .int)) i none none none none none none none none none) (DM s1 []) := by
    simp [sv_law_k07_3, E7, e1']
  obtain ⟨J4, o11, o12, q4⟩ := l7_4 (.scr (ns.map .int)) hi s1 []
  obtain ⟨J5, q5⟩ := l7_5 (.scr (ns.map .int)) hi s1 ([] ++ J4) o11 o12
  obtain ⟨s6, J6, p4, p7, p8, p11, p12, q6⟩ := l7_6 (.scr (ns.map .int)) i s1 ([] ++ J4 ++ J5) o11 o12
  obtain ⟨t, m, s7, q7, ht, hm, lt, lm⟩ := l7_7 (.scr (ns.map .int)) i s6 J6 p4 p7 p8 p11 p12
  obtain ⟨d, s8, q8⟩ := l7_8 (.scr (ns.map .int)) i s7 J6 p4 p7 p8 (some (pbs t)) (some (pbs m)) p11 p12
  obtain ⟨J9, q9⟩ := l7_9 (.scr (ns.map .int)) i d ht hm lt lm s8 J6 p4 p7 p8 p11 p12
  obtain ⟨M', q11⟩ := l7_11 (.scr (ns.map .int)) i ht hm lt lm p4 (some (Fd.dd ⟨.raw, d, .none⟩)) p7 p8 p11 p12 (DM s8 (J6 ++ J9))
  refine ⟨M', ?_⟩
  unfold m_law_k07
  rw [mOf_eq (np := 1) (ds := [.scr (ns.map .int)]) rfl]
  unfold sv_law_k07
  rw [sv_seq, q1, RS.bind_nx, sv_seq, q2, RS.bind_nx, sv_seq, q3, RS.bind_nx, sv_seq, q4, RS.bind_nx, sv_seq, q5, RS.bind_nx, sv_seq, q6, RS.bind_nx, sv_seq, q7, RS.bind_nx, sv_seq, q8, RS.bind_nx, sv_seq, q9, RS.bind_nx, sv_seq, l7_10, RS.bind_nx, sv_seq, q11, RS.bind_nx, l7_12 _ _ ht hm]
  rfl
end KB
namespace KB
open PySem PySem.Spec PyProof.Rows L2
def topS (i : Nat) : Stmt := PySem.Challenge.pw_keybytes_k07_whole_integers.main.body.getD i (.Pass ⟨0, 0, 0, 0⟩)
section
variable {P : Program} {w : World} {C : Kx} {base : Heap}
abbrev st__law_start : Stmt := topS 18
theorem sc__law_start : FnScope ["script"] ["script"] (defScope st__law_start) := ⟨rfl, rfl, rfl, by decide +kernel, rfl, by decide +kernel, by decide +kernel⟩
theorem has__law_start (B : BI C.mg) 
    {f : Addr} {fd : FuncData} (Fu : Fun C.K "_law_start" "_law_start" st__law_start f fd) (gf : C.mg "_law_start" = some (.ref f)) (b : Binds C.K fd ["script"] []) : Has P w C base "_law_start" 1 m__law_start := by
  refine fn_has (sv := sv__law_start) Fu sc__law_start gf b (fun cdv A outer s H E hr => ?_)
  have hu0 := hr.units0; have hu64 := hr.units; have hu65 := hu65_of hr
  have tk : Takes (cxOf (L2.CX P w) P w C.K C.mg base ["script"] "_law_start" (defScope st__law_start) f cdv A outer s H E) (fun cls d _ H => E cls d H) := takes_of rfl rfl rfl rfl
  exact (psd_one (psd_ret (pd_lstC (pad_cons (pd_if (pb_cmp (op_neD hu64) dNe (pd_var 0) (pd_lst pad_nil) (nomark _)) (pd_listC B.list' (pad_cons (pd_var 0) pad_nil)) (pd_lstC (pad_cons pd_int pad_nil))) (pad_cons pd_int pad_nil)))))
abbrev st__law_draw : Stmt := topS 19
theorem sc__law_draw : FnScope ["draws", "limit", "numbers", "at", "cell", "mixed"] ["draws", "limit"] (defScope st__law_draw) := ⟨rfl, rfl, rfl, by decide +kernel, rfl, by decide +kernel, by decide +kernel⟩
theorem has__law_draw (B : BI C.mg) 
    {f : Addr} {fd : FuncData} (Fu : Fun C.K "_law_draw" "_law_draw" st__law_draw f fd) (gf : C.mg "_law_draw" = some (.ref f)) (b : Binds C.K fd ["draws", "limit"] []) : Has P w C base "_law_draw" 1 m__law_draw := by
  refine fn_has (sv := sv__law_draw) Fu sc__law_draw gf b (fun cdv A outer s H E hr => ?_)
  have hu0 := hr.units0; have hu64 := hr.units; have hu65 := hu65_of hr
  have tk : Takes (cxOf (L2.CX P w) P w C.K C.mg base ["draws", "limit", "numbers", "at", "cell", "mixed"] "_law_draw" (defScope st__law_draw) f cdv A outer s H E) (fun cls d _ H => E cls d H) := takes_of rfl rfl rfl rfl
  exact (psd_cons (psd_set (i := 2) (pd_ix (pd_var 0) pd_int) sc__law_draw.nd)
    (psd_cons (psd_sub (pd_var 0) pd_int (pd_op opAdd dAdd (pd_ix (pd_var 0) pd_int) pd_int))
    (psd_cons (psd_set (i := 3) (pd_op op_mod dMod (pd_ix (pd_var 0) pd_int) (pd_len B.len (pad_cons (pd_var 2) pad_nil))) sc__law_draw.nd)
    (psd_cons (psd_set (i := 4) (pd_ix (pd_var 2) (pd_var 3)) sc__law_draw.nd)
    (psd_cons (psd_if (pb_cmp (opGe hu0) dGe (pd_var 4) pd_int (nomark _)) (psd_cons (psd_sub (pd_var 2) (pd_var 3) (pd_op op_fdivW dFdiv (pd_var 4) (pd_var 1)))
    (psd_one (psd_ret (pd_op op_mod dMod (pd_var 4) (pd_var 1))))) psd_nil)
    (psd_cons (psd_set (i := 5) (pd_op op_mod dMod (pd_op opAdd dAdd (pd_var 4) (pd_op opMul dMul pd_int (pd_ix (pd_var 0) pd_int))) pd_int) sc__law_draw.nd)
    (psd_cons (psd_set (i := 5) (pd_op op_mod dMod (pd_op op_pow dPow (pd_var 5) pd_int) pd_int) sc__law_draw.nd)
    (psd_one (psd_ret (pd_op op_mod dMod (pd_op op_fdivW dFdiv (pd_op op_mod dMod (pd_op opAdd dAdd (pd_op opMul dMul (pd_op op_fdivW dFdiv (pd_var 5) pd_int) pd_int) (pd_var 5)) pd_int) pd_int) (pd_var 1)))))))))))
abbrev st__law_pick : Stmt := topS 20
theorem sc__law_pick : FnScope ["draws", "choices"] ["draws", "choices"] (defScope st__law_pick) := ⟨rfl, rfl, rfl, by decide +kernel, rfl, by decide +kernel, by decide +kernel⟩
theorem has__law_pick (B : BI C.mg) (h__law_draw : Has P w C base "_law_draw" 1 m__law_draw)
    {f : Addr} {fd : FuncData} (Fu : Fun C.K "_law_pick" "_law_pick" st__law_pick f fd) (gf : C.mg "_law_pick" = some (.ref f)) (b : Binds C.K fd ["draws", "choices"] []) : Has P w C base "_law_pick" 2 m__law_pick := by
  refine fn_has (sv := sv__law_pick) Fu sc__law_pick gf b (fun cdv A outer s H E hr => ?_)
  have hu0 := hr.units0; have hu64 := hr.units; have hu65 := hu65_of hr
  have tk : Takes (cxOf (L2.CX P w) P w C.K C.mg base ["draws", "choices"] "_law_pick" (defScope st__law_pick) f cdv A outer s H E) (fun cls d _ H => E cls d H) := takes_of rfl rfl rfl rfl
  exact (psd_one (psd_ret (pd_ix (pd_var 1) (pd_call h__law_draw hr tk (pad_cons (pd_var 0) (pad_cons (pd_len B.len (pad_cons (pd_var 1) pad_nil)) pad_nil))))))
abbrev st__law_power : Stmt := topS 21
theorem sc__law_power : FnScope ["count", "found", "k"] ["count"] (defScope st__law_power) := ⟨rfl, rfl, rfl, by decide +kernel, rfl, by decide +kernel, by decide +kernel⟩
theorem has__law_power (B : BI C.mg) 
    {f : Addr} {fd : FuncData} (Fu : Fun C.K "_law_power" "_law_power" st__law_power f fd) (gf : C.mg "_law_power" = some (.ref f)) (b : Binds C.K fd ["count"] []) : Has P w C base "_law_power" 1 m__law_power := by
  refine fn_has (sv := sv__law_power) Fu sc__law_power gf b (fun cdv A outer s H E hr => ?_)
  have hu0 := hr.units0; have hu64 := hr.units; have hu65 := hu65_of hr
  have tk : Takes (cxOf (L2.CX P w) P w C.K C.mg base ["count", "found", "k"] "_law_power" (defScope st__law_power) f cdv A outer s H E) (fun cls d _ H => E cls d H) := takes_of rfl rfl rfl rfl
  exact (psd_cons (psd_set (i := 1) pd_int sc__law_power.nd)
    (psd_cons (psd_for (passes_of rfl) rfl (pid_range1 B.range (pad_cons (pd_var 0) pad_nil)) (pgd_name 2 sc__law_power.nd) (psd_one (psd_set (i := 1) (pd_op opMul dMul (pd_var 1) pd_int) sc__law_power.nd)))
    (psd_one (psd_ret (pd_var 1)))))
abbrev st__law_most : Stmt := topS 22
theorem sc__law_most : FnScope ["kind"] ["kind"] (defScope st__law_most) := ⟨rfl, rfl, rfl, by decide +kernel, rfl, by decide +kernel, by decide +kernel⟩
theorem has__law_most (B : BI C.mg) (h__law_power : Has P w C base "_law_power" 1 m__law_power)
    {f : Addr} {fd : FuncData} (Fu : Fun C.K "_law_most" "_law_most" st__law_most f fd) (gf : C.mg "_law_most" = some (.ref f)) (b : Binds C.K fd ["kind"] []) : Has P w C base "_law_most" 2 m__law_most := by
  refine fn_has (sv := sv__law_most) Fu sc__law_most gf b (fun cdv A outer s H E hr => ?_)
  have hu0 := hr.units0; have hu64 := hr.units; have hu65 := hu65_of hr
  have tk : Takes (cxOf (L2.CX P w) P w C.K C.mg base ["kind"] "_law_most" (defScope st__law_most) f cdv A outer s H E) (fun cls d _ H => E cls d H) := takes_of rfl rfl rfl rfl
  exact (psd_one (psd_ret (pd_op op_sub dSub (pd_call h__law_power hr tk (pad_cons (pd_intS B.int' (pad_cons (pd_ix (pd_var 0) (pd_un un_neg dNeg pd_int)) pad_nil)) pad_nil)) pd_int)))
abbrev st__law_text : Stmt := topS 23
theorem sc__law_text : FnScope ["draws", "length", "special", "k"] ["draws", "length"] (defScope st__law_text) := ⟨rfl, rfl, rfl, by decide +kernel, rfl, by decide +kernel, by decide +kernel⟩
theorem has__law_text (B : BI C.mg) (h__law_draw : Has P w C base "_law_draw" 1 m__law_draw) (h__law_pick : Has P w C base "_law_pick" 2 m__law_pick)
    {f : Addr} {fd : FuncData} (Fu : Fun C.K "_law_text" "_law_text" st__law_text f fd) (gf : C.mg "_law_text" = some (.ref f)) (b : Binds C.K fd ["draws", "length"] []) : Has P w C base "_law_text" 3 m__law_text_k07 := by
  refine fn_has (sv := sv__law_text_k07) Fu sc__law_text gf b (fun cdv A outer s H E hr => ?_)
  have hu0 := hr.units0; have hu64 := hr.units; have hu65 := hu65_of hr
  have tk : Takes (cxOf (L2.CX P w) P w C.K C.mg base ["draws", "length", "special", "k"] "_law_text" (defScope st__law_text) f cdv A outer s H E) (fun cls d _ H => E cls d H) := takes_of rfl rfl rfl rfl
  exact (psd_cons (psd_set (i := 2) (pd_lst (pad_cons pd_int (pad_cons pd_int (pad_cons pd_int (pad_cons pd_int (pad_cons pd_int (pad_cons pd_int (pad_cons pd_int (pad_cons pd_int (pad_cons pd_int (pad_cons pd_int (pad_cons pd_int (pad_cons (pd_call h__law_draw hr tk (pad_cons (pd_var 0) (pad_cons pd_int pad_nil))) pad_nil))))))))))))) sc__law_text.nd)
    (psd_one (psd_ret (pd_tupleP B.tuple' (pad_cons (pd_lc (own := [("k", 3)]) [("k", 3)] rfl sc__law_text.nd (pid_range1 B.range (pad_cons (pd_call h__law_draw hr tk (pad_cons (pd_var 0) (pad_cons (pd_op opAdd dAdd (pd_var 1) pd_int) pad_nil))) pad_nil)) (blkOk_by (N := ["draws", "length", "special", "k"]) (sc := defScope st__law_text) (own := [("k", 3)]) (by decide +kernel)) (by decide) (fun _ _ _ _ _ => (pgd_name 3 sc__law_text.nd)) (fun _ _ _ _ _ => ptsd_nil) (fun _ _ _ _ _ => (pd_call h__law_pick hr takes0 (pad_cons (pd_var 0) (pad_cons (pd_var 2) pad_nil))))) pad_nil)))))
abbrev st__law_value : Stmt := topS 24
theorem sc__law_value : FnScope ["draws", "field", "kind", "direction", "nulls", "size", "near"] ["draws", "field"] (defScope st__law_value) := ⟨rfl, rfl, rfl, by decide +kernel, rfl, by decide +kernel, by decide +kernel⟩
theorem has__law_value (B : BI C.mg) (h__law_draw : Has P w C base "_law_draw" 1 m__law_draw) (h__law_pick : Has P w C base "_law_pick" 2 m__law_pick) (h__law_power : Has P w C base "_law_power" 1 m__law_power) (h__law_most : Has P w C base "_law_most" 2 m__law_most) (h__law_text : Has P w C base "_law_text" 3 m__law_text_k07)
    {f : Addr} {fd : FuncData} (Fu : Fun C.K "_law_value" "_law_value" st__law_value f fd) (gf : C.mg "_law_value" = some (.ref f)) (b : Binds C.K fd ["draws", "field"] []) : Has P w C base "_law_value" 4 m__law_value_k07 := by
  refine fn_has (sv := sv__law_value_k07) Fu sc__law_value gf b (fun cdv A outer s H E hr => ?_)
  have hu0 := hr.units0; have hu64 := hr.units; have hu65 := hu65_of hr
  have tk : Takes (cxOf (L2.CX P w) P w C.K C.mg base ["draws", "field", "kind", "direction", "nulls", "size", "near"] "_law_value" (defScope st__law_value) f cdv A outer s H E) (fun cls d _ H => E cls d H) := takes_of rfl rfl rfl rfl
  exact (psd_cons (psd_asg (pd_var 1) (pgd_tup rfl (pgsd_cons 2 sc__law_value.nd (pgsd_cons 3 sc__law_value.nd (pgsd_cons 4 sc__law_value.nd pgsd_nil)))))
    (psd_cons (psd_if (PWD.pb (pw_and' (pb_cmp (op_neD hu64) dNe (pd_var 4) pd_str (nomark _)) (pw_and1' (pb_cmp (op_eqD hu64) dEq (pd_call h__law_draw hr tk (pad_cons (pd_var 0) (pad_cons pd_int pad_nil))) pd_int (nomark _))))) (psd_one (psd_ret pd_non)) psd_nil)
    (psd_cons (psd_if (pb_cmp (op_eqD hu64) dEq (pd_var 2) pd_str (nomark _)) (psd_cons (psd_set (i := 5) (pd_call h__law_draw hr tk (pad_cons (pd_var 0) (pad_cons pd_int pad_nil))) sc__law_value.nd)
    (psd_cons (psd_set (i := 6) (pd_call h__law_pick hr tk (pad_cons (pd_var 0) (pad_cons (pd_lst (pad_cons (pd_op op_sub dSub (pd_call h__law_power hr tk (pad_cons (pd_var 5) pad_nil)) pd_int) (pad_cons (pd_call h__law_power hr tk (pad_cons (pd_max rfl B.max hu65 (pad_cons (pd_op op_sub dSub (pd_var 5) pd_int) (pad_cons pd_int pad_nil))) pad_nil)) (pad_cons (pd_call h__law_draw hr tk (pad_cons (pd_var 0) (pad_cons (pd_call h__law_power hr tk (pad_cons (pd_var 5) pad_nil)) pad_nil))) pad_nil)))) pad_nil))) sc__law_value.nd)
    (psd_one (psd_ret (pd_call h__law_pick hr tk (pad_cons (pd_var 0) (pad_cons (pd_lst (pad_cons (pd_var 6) (pad_cons (pd_op op_sub dSub pd_int (pd_var 6)) pad_nil))) pad_nil))))))) psd_nil)
    (psd_cons (psd_if (PWD.pb (pw_or' (pb_cmp (op_eqD hu64) dEq (pd_slice (pd_var 2) pod_none (pod_some pd_int)) pd_str (nomark _)) (pw_or1' (pb_cmp (op_eqD hu64) dEq (pd_slice (pd_var 2) pod_none (pod_some pd_int)) pd_str (nomark _))))) (psd_one (psd_ret (pd_call h__law_pick hr tk (pad_cons (pd_var 0) (pad_cons (pd_lst (pad_cons pd_int (pad_cons pd_int (pad_cons (pd_call h__law_most hr tk (pad_cons (pd_var 2) pad_nil)) (pad_cons (pd_call h__law_draw hr tk (pad_cons (pd_var 0) (pad_cons (pd_op opAdd dAdd (pd_call h__law_most hr tk (pad_cons (pd_var 2) pad_nil)) pd_int) pad_nil))) pad_nil))))) pad_nil))))) psd_nil)
    (psd_one (psd_ret (pd_weak (pd_call h__law_text hr tk (pad_cons (pd_var 0) (pad_cons (pd_call h__law_pick hr tk (pad_cons (pd_var 0) (pad_cons (pd_lst (pad_cons pd_int (pad_cons pd_int (pad_cons pd_int pad_nil)))) pad_nil))) pad_nil))))))))))
abbrev st_power : Stmt := topS 11
theorem sc_power : FnScope ["count", "found", "turn"] ["count"] (defScope st_power) := ⟨rfl, rfl, rfl, by decide +kernel, rfl, by decide +kernel, by decide +kernel⟩
theorem has_power (B : BI C.mg) 
    {f : Addr} {fd : FuncData} (Fu : Fun C.K "power" "power" st_power f fd) (gf : C.mg "power" = some (.ref f)) (b : Binds C.K fd ["count"] []) : Has P w C base "power" 1 m_power := by
  refine fn_has (sv := sv_power) Fu sc_power gf b (fun cdv A outer s H E hr => ?_)
  have hu0 := hr.units0; have hu64 := hr.units; have hu65 := hu65_of hr
  have tk : Takes (cxOf (L2.CX P w) P w C.K C.mg base ["count", "found", "turn"] "power" (defScope st_power) f cdv A outer s H E) (fun cls d _ H => E cls d H) := takes_of rfl rfl rfl rfl
  exact (psd_cons (psd_set (i := 1) pd_int sc_power.nd)
    (psd_cons (psd_for (passes_of rfl) rfl (pid_range1 B.range (pad_cons (pd_var 0) pad_nil)) (pgd_name 2 sc_power.nd) (psd_one (psd_aug (i := 1) iop_mul dIMul sc_power.nd pd_int)))
    (psd_one (psd_ret (pd_var 1)))))
abbrev st_digits_of : Stmt := topS 12
theorem sc_digits_of : FnScope ["value", "count", "found", "turn"] ["value", "count"] (defScope st_digits_of) := ⟨rfl, rfl, rfl, by decide +kernel, rfl, by decide +kernel, by decide +kernel⟩
theorem has_digits_of (B : BI C.mg) 
    {f : Addr} {fd : FuncData} (Fu : Fun C.K "digits_of" "digits_of" st_digits_of f fd) (gf : C.mg "digits_of" = some (.ref f)) (b : Binds C.K fd ["value", "count"] []) : Has P w C base "digits_of" 1 m_digits_of := by
  refine fn_has (sv := sv_digits_of) Fu sc_digits_of gf b (fun cdv A outer s H E hr => ?_)
  have hu0 := hr.units0; have hu64 := hr.units; have hu65 := hu65_of hr
  have tk : Takes (cxOf (L2.CX P w) P w C.K C.mg base ["value", "count", "found", "turn"] "digits_of" (defScope st_digits_of) f cdv A outer s H E) (fun cls d _ H => E cls d H) := takes_of rfl rfl rfl rfl
  exact (psd_cons (psd_set (i := 2) (pd_lstC pad_nil) sc_digits_of.nd)
    (psd_cons (psd_for (passes_of rfl) rfl (pid_range1 B.range (pad_cons (pd_var 1) pad_nil)) (pgd_name 3 sc_digits_of.nd) (psd_cons (psd_expr (pd_append (pd_var 2) (pad_cons (pd_op op_mod dMod (pd_var 0) pd_int) pad_nil)))
    (psd_one (psd_aug (i := 0) iop_fdiv dIFdiv sc_digits_of.nd pd_int))))
    (psd_one (psd_ret (pd_tuple B.tuple' (pad_cons (pd_rev (pd_var 2)) pad_nil))))))
abbrev st_flipped : Stmt := topS 13
theorem sc_flipped : FnScope ["data", "byte"] ["data"] (defScope st_flipped) := ⟨rfl, rfl, rfl, by decide +kernel, rfl, by decide +kernel, by decide +kernel⟩
theorem has_flipped (B : BI C.mg) 
    {f : Addr} {fd : FuncData} (Fu : Fun C.K "flipped" "flipped" st_flipped f fd) (gf : C.mg "flipped" = some (.ref f)) (b : Binds C.K fd ["data"] []) : Has P w C base "flipped" 1 m_flipped := by
  refine fn_has (sv := sv_flipped) Fu sc_flipped gf b (fun cdv A outer s H E hr => ?_)
  have hu0 := hr.units0; have hu64 := hr.units; have hu65 := hu65_of hr
  have tk : Takes (cxOf (L2.CX P w) P w C.K C.mg base ["data", "byte"] "flipped" (defScope st_flipped) f cdv A outer s H E) (fun cls d _ H => E cls d H) := takes_of rfl rfl rfl rfl
  exact (psd_one (psd_ret (pd_tuple B.tuple' (pad_cons (pd_lc (own := [("byte", 1)]) [("byte", 1)] rfl sc_flipped.nd (pid_seq (pd_var 0)) (blkOk_by (N := ["data", "byte"]) (sc := defScope st_flipped) (own := [("byte", 1)]) (by decide +kernel)) (by decide) (fun _ _ _ _ _ => (pgd_name 1 sc_flipped.nd)) (fun _ _ _ _ _ => ptsd_nil) (fun _ _ _ _ _ => (pd_op op_sub dSub pd_int (pd_var 1)))) pad_nil))))
abbrev st_encode_int : Stmt := topS 14
theorem sc_encode_int : FnScope ["value", "count", "data"] ["value"] (defScope st_encode_int) := ⟨rfl, rfl, rfl, by decide +kernel, rfl, by decide +kernel, by decide +kernel⟩
theorem has_encode_int (B : BI C.mg) (h_power : Has P w C base "power" 1 m_power) (h_digits_of : Has P w C base "digits_of" 1 m_digits_of) (h_flipped : Has P w C base "flipped" 1 m_flipped)
    {f : Addr} {fd : FuncData} (Fu : Fun C.K "encode_int" "encode_int" st_encode_int f fd) (gf : C.mg "encode_int" = some (.ref f)) (b : Binds C.K fd ["value"] []) : Has P w C base "encode_int" 2 m_encode_int := by
  refine fn_has (sv := sv_encode_int) Fu sc_encode_int gf b (fun cdv A outer s H E hr => ?_)
  have hu0 := hr.units0; have hu64 := hr.units; have hu65 := hu65_of hr
  have tk : Takes (cxOf (L2.CX P w) P w C.K C.mg base ["value", "count", "data"] "encode_int" (defScope st_encode_int) f cdv A outer s H E) (fun cls d _ H => E cls d H) := takes_of rfl rfl rfl rfl
  exact (psd_cons (psd_set (i := 1) pd_int sc_encode_int.nd)
    (psd_cons (psd_while (passes_of rfl) (pb_cmp (opLe hu0) dLe (pd_call h_power hr tk (pad_cons (pd_var 1) pad_nil)) (pd_abs B.abs (pad_cons (pd_var 0) pad_nil)) (nomark _)) (psd_one (psd_aug (i := 1) iopAdd dIAdd sc_encode_int.nd pd_int)))
    (psd_cons (psd_set (i := 2) (pd_call h_digits_of hr tk (pad_cons (pd_abs B.abs (pad_cons (pd_var 0) pad_nil)) (pad_cons (pd_var 1) pad_nil))) sc_encode_int.nd)
    (psd_one (psd_ret (pd_if (pb_cmp (opGe hu0) dGe (pd_var 0) pd_int (nomark _)) (pd_op opAdd dAdd (pd_tup (pad_cons (pd_op opAdd dAdd pd_int (pd_var 1)) pad_nil)) (pd_var 2)) (pd_op opAdd dAdd (pd_tup (pad_cons (pd_op op_sub dSub pd_int (pd_var 1)) pad_nil)) (pd_call h_flipped hr tk (pad_cons (pd_var 2) pad_nil)))))))))
abbrev st_plain : Stmt := topS 15
theorem sc_plain : FnScope ["kind", "value", "found", "byte", "data"] ["kind", "value"] (defScope st_plain) := ⟨rfl, rfl, rfl, by decide +kernel, rfl, by decide +kernel, by decide +kernel⟩
theorem has_plain (B : BI C.mg) (c_SIZES : TabAt w C "SIZES" tab_SIZES) (h_encode_int : Has P w C base "encode_int" 2 m_encode_int) (h_digits_of : Has P w C base "digits_of" 1 m_digits_of)
    {f : Addr} {fd : FuncData} (Fu : Fun C.K "plain" "plain" st_plain f fd) (gf : C.mg "plain" = some (.ref f)) (b : Binds C.K fd ["kind", "value"] []) : Has P w C base "plain" 3 m_plain := by
  refine fn_has (sv := sv_plain) Fu sc_plain gf b (fun cdv A outer s H E hr => ?_)
  have hu0 := hr.units0; have hu64 := hr.units; have hu65 := hu65_of hr
  have tk : Takes (cxOf (L2.CX P w) P w C.K C.mg base ["kind", "value", "found", "byte", "data"] "plain" (defScope st_plain) f cdv A outer s H E) (fun cls d _ H => E cls d H) := takes_of rfl rfl rfl rfl
  exact (psd_cons (psd_if (pb_cmp (op_eqD hu64) dEq (pd_var 0) pd_str (nomark _)) (psd_one (psd_ret (pd_call h_encode_int hr tk (pad_cons (pd_var 1) pad_nil)))) psd_nil)
    (psd_cons (psd_if (pb_inTab c_SIZES (pd_var 0)) (psd_cons (psd_set (i := 4) (pd_call h_digits_of hr tk (pad_cons (pd_var 1) (pad_cons (pd_tab c_SIZES (pd_var 0)) pad_nil))) sc_plain.nd)
    (psd_one (psd_ret (pd_if (pb_val (pd_startswith (pd_var 0) (pad_cons pd_str pad_nil))) (pd_var 4) (pd_rev (pd_var 4)))))) psd_nil)
    (psd_cons (psd_if (pb_cmp (op_eqD hu64) dEq (pd_var 0) pd_str (nomark _)) (psd_one (psd_ret (pd_var 1))) psd_nil)
    (psd_cons (psd_if (pb_cmp (op_eqD hu64) dEq (pd_var 0) pd_str (nomark _)) (psd_one (psd_ret (pd_op opAdd dAdd (pd_tup (pad_cons (pd_len B.len (pad_cons (pd_var 1) pad_nil)) pad_nil)) (pd_var 1)))) psd_nil)
    (psd_cons (psd_set (i := 2) (pd_tup pad_nil) sc_plain.nd)
    (psd_cons (psd_for (passes_of rfl) rfl (pid_seq (pd_var 1)) (pgd_name 3 sc_plain.nd) (psd_one (psd_aug (i := 2) iopAdd dIAdd sc_plain.nd (pd_if (pb_cmp (op_eqD hu64) dEq (pd_var 3) pd_int (nomark _)) (pd_tup (pad_cons pd_int (pad_cons pd_int pad_nil))) (pd_tup (pad_cons (pd_var 3) pad_nil))))))
    (psd_one (psd_ret (pd_op opAdd dAdd (pd_var 2) (pd_tup (pad_cons pd_int (pad_cons pd_int pad_nil))))))))))))
abbrev st_encode_value : Stmt := topS 16
theorem sc_encode_value : FnScope ["field", "value", "data", "kind", "direction", "nulls"] ["field", "value"] (defScope st_encode_value) := ⟨rfl, rfl, rfl, by decide +kernel, rfl, by decide +kernel, by decide +kernel⟩
theorem has_encode_value (B : BI C.mg) (c_MARKS : TabAt w C "MARKS" tab_MARKS) (h_plain : Has P w C base "plain" 3 m_plain) (h_flipped : Has P w C base "flipped" 1 m_flipped)
    {f : Addr} {fd : FuncData} (Fu : Fun C.K "encode_value" "encode_value" st_encode_value f fd) (gf : C.mg "encode_value" = some (.ref f)) (b : Binds C.K fd ["field", "value"] []) : Has P w C base "encode_value" 4 m_encode_value := by
  refine fn_has (sv := sv_encode_value) Fu sc_encode_value gf b (fun cdv A outer s H E hr => ?_)
  have hu0 := hr.units0; have hu64 := hr.units; have hu65 := hu65_of hr
  have tk : Takes (cxOf (L2.CX P w) P w C.K C.mg base ["field", "value", "data", "kind", "direction", "nulls"] "encode_value" (defScope st_encode_value) f cdv A outer s H E) (fun cls d _ H => E cls d H) := takes_of rfl rfl rfl rfl
  exact (psd_cons (psd_asg (pd_var 0) (pgd_tup rfl (pgsd_cons 3 sc_encode_value.nd (pgsd_cons 4 sc_encode_value.nd (pgsd_cons 5 sc_encode_value.nd pgsd_nil)))))
    (psd_cons (psd_if (pb_cmp opIs dIs (pd_var 1) pd_non (nomark _)) (psd_one (psd_ret (pd_tup (pad_cons (pd_tab c_MARKS (pd_var 5)) pad_nil)))) psd_nil)
    (psd_cons (psd_set (i := 2) (pd_call h_plain hr tk (pad_cons (pd_var 3) (pad_cons (pd_var 1) pad_nil))) sc_encode_value.nd)
    (psd_cons (psd_if (pb_cmp (op_eqD hu64) dEq (pd_var 4) pd_str (nomark _)) (psd_one (psd_set (i := 2) (pd_call h_flipped hr tk (pad_cons (pd_var 2) pad_nil)) sc_encode_value.nd)) psd_nil)
    (psd_one (psd_ret (pd_if (pb_cmp (op_eqD hu64) dEq (pd_var 5) pd_str (nomark _)) (pd_var 2) (pd_op opAdd dAdd (pd_tup (pad_cons pd_int pad_nil)) (pd_var 2)))))))))
abbrev st_is_int : Stmt := topS 1
theorem sc_is_int : FnScope ["value", "low", "high"] ["value", "low", "high"] (defScope st_is_int) := ⟨rfl, rfl, rfl, by decide +kernel, rfl, by decide +kernel, by decide +kernel⟩
theorem has_is_int (B : BI C.mg) 
    {f : Addr} {fd : FuncData} (Fu : Fun C.K "is_int" "is_int" st_is_int f fd) (gf : C.mg "is_int" = some (.ref f)) (b : Binds C.K fd ["value", "low", "high"] []) : Has P w C base "is_int" 1 m_is_int := by
  refine fn_has (sv := sv_is_int) Fu sc_is_int gf b (fun cdv A outer s H E hr => ?_)
  have hu0 := hr.units0; have hu64 := hr.units; have hu65 := hu65_of hr
  have tk : Takes (cxOf (L2.CX P w) P w C.K C.mg base ["value", "low", "high"] "is_int" (defScope st_is_int) f cdv A outer s H E) (fun cls d _ H => E cls d H) := takes_of rfl rfl rfl rfl
  exact (psd_one (psd_ret (pd_and (pd_isi B.isinstance B.int' (by decide +kernel) (pd_var 0)) (pd_and (pd_not (pd_isi B.isinstance B.bool' (by decide +kernel) (pd_var 0))) (pd_one (pd_chain (opLe hu0) dLe (opLe hu0) dLe (pd_var 1) (pd_var 0) (pd_var 2)))))))
abbrev st_is_bytes : Stmt := topS 4
theorem sc_is_bytes : FnScope ["value", "byte"] ["value"] (defScope st_is_bytes) := ⟨rfl, rfl, rfl, by decide +kernel, rfl, by decide +kernel, by decide +kernel⟩
theorem has_is_bytes (B : BI C.mg) {t_MOST_LENGTH : Tok} (c_MOST_LENGTH : C.mg "MOST_LENGTH" = some (.int 400 t_MOST_LENGTH)) (h_is_int : Has P w C base "is_int" 1 m_is_int)
    {f : Addr} {fd : FuncData} (Fu : Fun C.K "is_bytes" "is_bytes" st_is_bytes f fd) (gf : C.mg "is_bytes" = some (.ref f)) (b : Binds C.K fd ["value"] []) : Has P w C base "is_bytes" 2 m_is_bytes := by
  refine fn_has (sv := sv_is_bytes) Fu sc_is_bytes gf b (fun cdv A outer s H E hr => ?_)
  have hu0 := hr.units0; have hu64 := hr.units; have hu65 := hu65_of hr
  have tk : Takes (cxOf (L2.CX P w) P w C.K C.mg base ["value", "byte"] "is_bytes" (defScope st_is_bytes) f cdv A outer s H E) (fun cls d _ H => E cls d H) := takes_of rfl rfl rfl rfl
  exact (psd_cons (psd_if (PWD.pb (pw_or' (pb_not (pb_val (pd_isi B.isinstance B.tuple' (by decide +kernel) (pd_var 0)))) (pw_or1' (pb_cmp (opGt hu0) dGt (pd_len B.len (pad_cons (pd_var 0) pad_nil)) (pd_globI (by rfl) c_MOST_LENGTH) (nomark _))))) (psd_one (psd_ret pd_bl)) psd_nil)
    (psd_one (psd_ret (pd_all rfl B.all (pad_cons (pd_lc (own := [("byte", 1)]) [("byte", 1)] rfl sc_is_bytes.nd (pid_seq (pd_var 0)) (blkOk_by (N := ["value", "byte"]) (sc := defScope st_is_bytes) (own := [("byte", 1)]) (by decide +kernel)) (by decide) (fun _ _ _ _ _ => (pgd_name 1 sc_is_bytes.nd)) (fun _ _ _ _ _ => ptsd_nil) (fun _ _ _ _ _ => (pd_call h_is_int hr takes0 (pad_cons (pd_var 1) (pad_cons pd_int (pad_cons pd_int pad_nil)))))) pad_nil)))))
abbrev st_is_value : Stmt := topS 10
theorem sc_is_value : FnScope ["field", "value", "kind", "direction", "nulls"] ["field", "value"] (defScope st_is_value) := ⟨rfl, rfl, rfl, by decide +kernel, rfl, by decide +kernel, by decide +kernel⟩
theorem has_is_value (B : BI C.mg) {t_MOST_INT : Tok} (c_MOST_INT : C.mg "MOST_INT" = some (.int 18446744073709551615 t_MOST_INT)) (c_SIZES : TabAt w C "SIZES" tab_SIZES) (c_LENGTHS : TabAt w C "LENGTHS" tab_LENGTHS) (h_is_int : Has P w C base "is_int" 1 m_is_int) (h_power : Has P w C base "power" 1 m_power) (h_is_bytes : Has P w C base "is_bytes" 2 m_is_bytes)
    {f : Addr} {fd : FuncData} (Fu : Fun C.K "is_value" "is_value" st_is_value f fd) (gf : C.mg "is_value" = some (.ref f)) (b : Binds C.K fd ["field", "value"] []) : Has P w C base "is_value" 3 m_is_value := by
  refine fn_has (sv := sv_is_value) Fu sc_is_value gf b (fun cdv A outer s H E hr => ?_)
  have hu0 := hr.units0; have hu64 := hr.units; have hu65 := hu65_of hr
  have tk : Takes (cxOf (L2.CX P w) P w C.K C.mg base ["field", "value", "kind", "direction", "nulls"] "is_value" (defScope st_is_value) f cdv A outer s H E) (fun cls d _ H => E cls d H) := takes_of rfl rfl rfl rfl
  exact (psd_cons (psd_asg (pd_var 0) (pgd_tup rfl (pgsd_cons 2 sc_is_value.nd (pgsd_cons 3 sc_is_value.nd (pgsd_cons 4 sc_is_value.nd pgsd_nil)))))
    (psd_cons (psd_if (pb_cmp opIs dIs (pd_var 1) pd_non (nomark _)) (psd_one (psd_ret (pd_cmp (op_neD hu64) dNe (pd_var 4) pd_str (nomark _)))) psd_nil)
    (psd_cons (psd_if (pb_cmp (op_eqD hu64) dEq (pd_var 2) pd_str (nomark _)) (psd_one (psd_ret (pd_call h_is_int hr tk (pad_cons (pd_var 1) (pad_cons (pd_un un_neg dNeg (pd_globI (by rfl) c_MOST_INT)) (pad_cons (pd_globI (by rfl) c_MOST_INT) pad_nil)))))) psd_nil)
    (psd_cons (psd_if (pb_inTab c_SIZES (pd_var 2)) (psd_one (psd_ret (pd_call h_is_int hr tk (pad_cons (pd_var 1) (pad_cons pd_int (pad_cons (pd_op op_sub dSub (pd_call h_power hr tk (pad_cons (pd_tab c_SIZES (pd_var 2)) pad_nil)) pd_int) pad_nil)))))) psd_nil)
    (psd_one (psd_ret (pd_and (pd_call h_is_bytes hr tk (pad_cons (pd_var 1) pad_nil)) (pd_one (pd_cmp (opLe hu0) dLe (pd_len B.len (pad_cons (pd_var 1) pad_nil)) (pd_tab c_LENGTHS (pd_var 2)) (nomark _))))))))))
abbrev st_law : Stmt := topS 25
theorem sc_law : FnScope ["script", "draws", "field", "value", "kind", "raw", "closed", "other", "values", "text", "more", "one", "two"] ["script"] (defScope st_law) := ⟨rfl, rfl, rfl, by decide +kernel, rfl, by decide +kernel, by decide +kernel⟩
theorem ok_law (B : BI C.mg) (h__law_start : Has P w C base "_law_start" 1 m__law_start) (h__law_value : Has P w C base "_law_value" 4 m__law_value_k07) (h_encode_value : Has P w C base "encode_value" 4 m_encode_value) (h_is_value : Has P w C base "is_value" 3 m_is_value) (h__law_power : Has P w C base "_law_power" 1 m__law_power) (h__law_pick : Has P w C base "_law_pick" 2 m__law_pick) (h__law_draw : Has P w C base "_law_draw" 1 m__law_draw) (h__law_text : Has P w C base "_law_text" 3 m__law_text_k07)
    {f : Addr} {fd : FuncData} (Fu : Fun C.K "law" "law" st_law f fd) (gf : C.mg "law" = some (.ref f)) (b : Binds C.K fd ["script"] []) : FnOk P w C.K C.mg base (L2.CX P w) 5 f fd ["script"] (spOf C m_law_k07) := by
  refine fn_ok (sv := sv_law_k07) Fu sc_law gf b (fun cdv A outer s H E hr => ?_)
  have hu0 := hr.units0; have hu64 := hr.units; have hu65 := hu65_of hr
  have tk : Takes (cxOf (L2.CX P w) P w C.K C.mg base ["script", "draws", "field", "value", "kind", "raw", "closed", "other", "values", "text", "more", "one", "two"] "law" (defScope st_law) f cdv A outer s H E) (fun cls d _ H => E cls d H) := takes_of rfl rfl rfl rfl
  exact (psd_cons (psd_set (i := 1) (pd_call h__law_start hr tk (pad_cons (pd_var 0) pad_nil)) sc_law.nd)
    (psd_cons (psd_set (i := 2) (pd_tup (pad_cons pd_str (pad_cons pd_str (pad_cons pd_str pad_nil)))) sc_law.nd)
    (psd_cons (psd_set (i := 3) (pd_call h__law_value hr tk (pad_cons (pd_var 1) (pad_cons (pd_var 2) pad_nil))) sc_law.nd)
    (psd_cons (psd_if (pb_cmp (opLt hu0) dLt (pd_abs B.abs (pad_cons (pd_var 3) pad_nil)) (pd_op op_sub dSub (pd_op op_pow dPow pd_int pd_int) pd_int) (nomark _)) (psd_cons (psd_par (i := 11) (j := 12) rfl sc_law.nd (pad_cons (pd_call h_encode_value hr tk (pad_cons (pd_var 2) (pad_cons (pd_var 3) pad_nil))) (pad_cons (pd_call h_encode_value hr tk (pad_cons (pd_var 2) (pad_cons (pd_op opAdd dAdd (pd_var 3) pd_int) pad_nil))) pad_nil)))
    (psd_one (psd_if (PWD.pb (pw_or' (pb_not (pb_cmp (opLt hu0) dLt (pd_var 11) (pd_var 12) (nomark _))) (pw_or1' (pb_cmp opIsNot dIsNot (pd_call h_is_value hr tk (pad_cons (pd_var 2) (pad_cons (pd_op opAdd dAdd (pd_var 3) pd_int) pad_nil))) pd_bl (nomark _))))) (psd_one (psd_ret pd_bl)) psd_nil))) psd_nil)
    (psd_cons (psd_if (PWD.pb (pw_and' (pb_cmp (opGt hu0) dGt (pd_len B.len (pad_cons (pd_call h_encode_value hr tk (pad_cons (pd_var 2) (pad_cons (pd_var 3) pad_nil))) pad_nil)) pd_int (nomark _)) (pw_and1' (pb_cmp (opGt hu0) dGt (pd_call h__law_power hr tk (pad_cons (pd_op op_sub dSub (pd_len B.len (pad_cons (pd_call h_encode_value hr tk (pad_cons (pd_var 2) (pad_cons (pd_var 3) pad_nil))) pad_nil)) pd_int) pad_nil)) (pd_abs B.abs (pad_cons (pd_var 3) pad_nil)) (nomark _))))) (psd_one (psd_ret pd_bl)) psd_nil)
    (psd_cons (psd_for (passes_of rfl) rfl (pid_seq (pd_lst (pad_cons pd_str (pad_cons pd_str (pad_cons pd_str (pad_cons pd_str (pad_cons pd_str pad_nil))))))) (pgd_name 4 sc_law.nd) (psd_cons (psd_set (i := 7) (pd_tup (pad_cons (pd_var 4) (pad_cons (pd_call h__law_pick hr tk (pad_cons (pd_var 1) (pad_cons (pd_lst (pad_cons pd_str (pad_cons pd_str pad_nil))) pad_nil))) (pad_cons (pd_call h__law_pick hr tk (pad_cons (pd_var 1) (pad_cons (pd_lst (pad_cons pd_str (pad_cons pd_str (pad_cons pd_str pad_nil)))) pad_nil))) pad_nil)))) sc_law.nd)
    (psd_cons (psd_set (i := 8) (pd_lstC (pad_cons (pd_call h__law_value hr tk (pad_cons (pd_var 1) (pad_cons (pd_var 7) pad_nil))) (pad_cons (pd_call h__law_value hr tk (pad_cons (pd_var 1) (pad_cons (pd_var 7) pad_nil))) pad_nil))) sc_law.nd)
    (psd_cons (psd_if (PWD.pb (pw_and' (pb_val (pd_isi B.isinstance B.tuple' (by decide +kernel) (pd_ix (pd_var 8) pd_int))) (pw_and1' (pb_cmp (op_eqD hu64) dEq (pd_call h__law_draw hr tk (pad_cons (pd_var 1) (pad_cons pd_int pad_nil))) pd_int (nomark _))))) (psd_one (psd_sub (pd_var 8) pd_int (pd_slice (pd_op opAdd dAdd (pd_ix (pd_var 8) pd_int) (pd_weak (pd_call h__law_text hr tk (pad_cons (pd_var 1) (pad_cons pd_int pad_nil))))) pod_none (pod_some pd_int)))) psd_nil)
    (psd_cons (psd_par (i := 11) (j := 12) rfl sc_law.nd (pad_cons (pd_call h_encode_value hr tk (pad_cons (pd_var 7) (pad_cons (pd_ix (pd_var 8) pd_int) pad_nil))) (pad_cons (pd_call h_encode_value hr tk (pad_cons (pd_var 7) (pad_cons (pd_ix (pd_var 8) pd_int) pad_nil))) pad_nil)))
    (psd_cons (psd_if (PWD.pb (pw_and' (pb_cmp (op_neD hu64) dNe (pd_ix (pd_var 8) pd_int) (pd_ix (pd_var 8) pd_int) (nomark _)) (pw_and1' (pb_cmp (op_eqD hu64) dEq (pd_slice (pd_var 12) pod_none (pod_some (pd_len B.len (pad_cons (pd_var 11) pad_nil)))) (pd_var 11) (nomark _))))) (psd_one (psd_ret pd_bl)) psd_nil)
    (psd_one (psd_if (pb_cmp (op_neD hu64) dNe (pd_cmp (op_eqD hu64) dEq (pd_var 11) (pd_var 12) (nomark _)) (pd_cmp (op_eqD hu64) dEq (pd_ix (pd_var 8) pd_int) (pd_ix (pd_var 8) pd_int) (nomark _)) (nomark _)) (psd_one (psd_ret pd_bl)) psd_nil))))))))
    (psd_cons (psd_par (i := 9) (j := 10) rfl sc_law.nd (pad_cons (pd_call h__law_text hr tk (pad_cons (pd_var 1) (pad_cons pd_int pad_nil))) (pad_cons (pd_call h__law_text hr tk (pad_cons (pd_var 1) (pad_cons pd_int pad_nil))) pad_nil)))
    (psd_cons (psd_set (i := 5) (pd_tup (pad_cons pd_str (pad_cons (pd_call h__law_pick hr tk (pad_cons (pd_var 1) (pad_cons (pd_lst (pad_cons pd_str (pad_cons pd_str pad_nil))) pad_nil))) (pad_cons pd_str pad_nil)))) sc_law.nd)
    (psd_cons (psd_if (pb_cmp (op_neD hu64) dNe (pd_call h_encode_value hr tk (pad_cons (pd_var 5) (pad_cons (pd_op opAdd dAdd (pd_weak (pd_var 9)) (pd_weak (pd_var 10))) pad_nil))) (pd_op opAdd dAdd (pd_call h_encode_value hr tk (pad_cons (pd_var 5) (pad_cons (pd_weak (pd_var 9)) pad_nil))) (pd_call h_encode_value hr tk (pad_cons (pd_var 5) (pad_cons (pd_weak (pd_var 10)) pad_nil)))) (nomark _)) (psd_one (psd_ret pd_bl)) psd_nil)
    (psd_cons (psd_set (i := 6) (pd_tup (pad_cons pd_str (pad_cons pd_str (pad_cons pd_str pad_nil)))) sc_law.nd)
    (psd_cons (psd_par (i := 11) (j := 12) rfl sc_law.nd (pad_cons (pd_call h_encode_value hr tk (pad_cons (pd_var 6) (pad_cons (pd_weak (pd_var 9)) pad_nil))) (pad_cons (pd_call h_encode_value hr tk (pad_cons (pd_var 6) (pad_cons (pd_weak (pd_var 10)) pad_nil))) pad_nil)))
    (psd_one (psd_ret (pd_and (pd_cmp (op_eqD hu64) dEq (pd_cmp (opLt hu0) dLt (pd_var 11) (pd_var 12) (nomark _)) (pd_cmp (opLt hu0) dLt (pd_weak (pd_var 9)) (pd_weak (pd_var 10)) (nomark _)) (nomark _)) (pd_one (pd_cmp (op_eqD hu64) dEq (pd_len B.len (pad_cons (pd_var 11) pad_nil)) (pd_op opAdd dAdd (pd_op opAdd dAdd (pd_len B.len (pad_cons (pd_weak (pd_var 9)) pad_nil)) (pd_countP (pd_var 9) (pad_cons pd_int pad_nil))) pd_int) (nomark _)))))))))))))))))
end
theorem all_mk {l : PySem.W.OpenLaw} {w : World} {K : PySem.W.Frag} {h : Heap} {mg : Str → Option Value} {fa : Addr} {f0 : Addr} {od0 an0 : Option Addr} {sl0 : Array (Option Value)} {oc0 kV0 dc0 pm0 cd0 ct0 : Value} {f1 : Addr} {od1 an1 : Option Addr} {sl1 : Array (Option Value)} {oc1 kV1 dc1 pm1 cd1 ct1 : Value} {f2 : Addr} {od2 an2 : Option Addr} {sl2 : Array (Option Value)} {oc2 kV2 dc2 pm2 cd2 ct2 : Value} {f3 : Addr} {od3 an3 : Option Addr} {sl3 : Array (Option Value)} {oc3 kV3 dc3 pm3 cd3 ct3 : Value} {f4 : Addr} {od4 an4 : Option Addr} {sl4 : Array (Option Value)} {oc4 kV4 dc4 pm4 cd4 ct4 : Value} {f5 : Addr} {od5 an5 : Option Addr} {sl5 : Array (Option Value)} {oc5 kV5 dc5 pm5 cd5 ct5 : Value} {f6 : Addr} {od6 an6 : Option Addr} {sl6 : Array (Option Value)} {oc6 kV6 dc6 pm6 cd6 ct6 : Value} {f7 : Addr} {od7 an7 : Option Addr} {sl7 : Array (Option Value)} {oc7 kV7 dc7 pm7 cd7 ct7 : Value} {f8 : Addr} {od8 an8 : Option Addr} {sl8 : Array (Option Value)} {oc8 kV8 dc8 pm8 cd8 ct8 : Value} {f9 : Addr} {od9 an9 : Option Addr} {sl9 : Array (Option Value)} {oc9 kV9 dc9 pm9 cd9 ct9 : Value} {f10 : Addr} {od10 an10 : Option Addr} {sl10 : Array (Option Value)} {oc10 kV10 dc10 pm10 cd10 ct10 : Value} {f11 : Addr} {od11 an11 : Option Addr} {sl11 : Array (Option Value)} {oc11 kV11 dc11 pm11 cd11 ct11 : Value} {f12 : Addr} {od12 an12 : Option Addr} {sl12 : Array (Option Value)} {oc12 kV12 dc12 pm12 cd12 ct12 : Value} {f13 : Addr} {od13 an13 : Option Addr} {sl13 : Array (Option Value)} {oc13 kV13 dc13 pm13 cd13 ct13 : Value} {f14 : Addr} {od14 an14 : Option Addr} {sl14 : Array (Option Value)} {oc14 kV14 dc14 pm14 cd14 ct14 : Value} {f15 : Addr} {od15 an15 : Option Addr} {sl15 : Array (Option Value)} {oc15 kV15 dc15 pm15 cd15 ct15 : Value} {f16 : Addr} {od16 an16 : Option Addr} {sl16 : Array (Option Value)} {oc16 kV16 dc16 pm16 cd16 ct16 : Value} {t_MOST_LENGTH : Tok} {t_MOST_INT : Tok} {d_SIZES : Addr} {es_SIZES : Array DictEntry} {m_SIZES : Nat} {d_MARKS : Addr} {es_MARKS : Array DictEntry} {m_MARKS : Nat} {d_LENGTHS : Addr} {es_LENGTHS : Array DictEntry} {m_LENGTHS : Nat} (X : K.In h) (G : h.Ns mainGlobals mg) (hfa : mg "law" = some (.ref fa))
    (a0 : PySem.W.nsIn K mainGlobals "_law_start" = some (some (.ref f0))) (l0 : K.lookup f0 = some ⟨oc0, od0, .func (PySem.W.fnOf "_law_start" "_law_start" (defArgs st__law_start) (defBody st__law_start) (defScope st__law_start) .none kV0 dc0 pm0 an0 cd0 ct0), sl0⟩) (c0 : PySem.W.codeIn K cd0 "_law_start" = true) (k0 : PySem.W.keepIn K (.ref f0) = true)
    (a1 : PySem.W.nsIn K mainGlobals "_law_draw" = some (some (.ref f1))) (l1 : K.lookup f1 = some ⟨oc1, od1, .func (PySem.W.fnOf "_law_draw" "_law_draw" (defArgs st__law_draw) (defBody st__law_draw) (defScope st__law_draw) .none kV1 dc1 pm1 an1 cd1 ct1), sl1⟩) (c1 : PySem.W.codeIn K cd1 "_law_draw" = true) (k1 : PySem.W.keepIn K (.ref f1) = true)
    (a2 : PySem.W.nsIn K mainGlobals "_law_pick" = some (some (.ref f2))) (l2 : K.lookup f2 = some ⟨oc2, od2, .func (PySem.W.fnOf "_law_pick" "_law_pick" (defArgs st__law_pick) (defBody st__law_pick) (defScope st__law_pick) .none kV2 dc2 pm2 an2 cd2 ct2), sl2⟩) (c2 : PySem.W.codeIn K cd2 "_law_pick" = true) (k2 : PySem.W.keepIn K (.ref f2) = true)
    (a3 : PySem.W.nsIn K mainGlobals "_law_power" = some (some (.ref f3))) (l3 : K.lookup f3 = some ⟨oc3, od3, .func (PySem.W.fnOf "_law_power" "_law_power" (defArgs st__law_power) (defBody st__law_power) (defScope st__law_power) .none kV3 dc3 pm3 an3 cd3 ct3), sl3⟩) (c3 : PySem.W.codeIn K cd3 "_law_power" = true) (k3 : PySem.W.keepIn K (.ref f3) = true)
    (a4 : PySem.W.nsIn K mainGlobals "_law_most" = some (some (.ref f4))) (l4 : K.lookup f4 = some ⟨oc4, od4, .func (PySem.W.fnOf "_law_most" "_law_most" (defArgs st__law_most) (defBody st__law_most) (defScope st__law_most) .none kV4 dc4 pm4 an4 cd4 ct4), sl4⟩) (c4 : PySem.W.codeIn K cd4 "_law_most" = true) (k4 : PySem.W.keepIn K (.ref f4) = true)
    (a5 : PySem.W.nsIn K mainGlobals "_law_text" = some (some (.ref f5))) (l5 : K.lookup f5 = some ⟨oc5, od5, .func (PySem.W.fnOf "_law_text" "_law_text" (defArgs st__law_text) (defBody st__law_text) (defScope st__law_text) .none kV5 dc5 pm5 an5 cd5 ct5), sl5⟩) (c5 : PySem.W.codeIn K cd5 "_law_text" = true) (k5 : PySem.W.keepIn K (.ref f5) = true)
    (a6 : PySem.W.nsIn K mainGlobals "_law_value" = some (some (.ref f6))) (l6 : K.lookup f6 = some ⟨oc6, od6, .func (PySem.W.fnOf "_law_value" "_law_value" (defArgs st__law_value) (defBody st__law_value) (defScope st__law_value) .none kV6 dc6 pm6 an6 cd6 ct6), sl6⟩) (c6 : PySem.W.codeIn K cd6 "_law_value" = true) (k6 : PySem.W.keepIn K (.ref f6) = true)
    (a7 : PySem.W.nsIn K mainGlobals "power" = some (some (.ref f7))) (l7 : K.lookup f7 = some ⟨oc7, od7, .func (PySem.W.fnOf "power" "power" (defArgs st_power) (defBody st_power) (defScope st_power) .none kV7 dc7 pm7 an7 cd7 ct7), sl7⟩) (c7 : PySem.W.codeIn K cd7 "power" = true) (k7 : PySem.W.keepIn K (.ref f7) = true)
    (a8 : PySem.W.nsIn K mainGlobals "digits_of" = some (some (.ref f8))) (l8 : K.lookup f8 = some ⟨oc8, od8, .func (PySem.W.fnOf "digits_of" "digits_of" (defArgs st_digits_of) (defBody st_digits_of) (defScope st_digits_of) .none kV8 dc8 pm8 an8 cd8 ct8), sl8⟩) (c8 : PySem.W.codeIn K cd8 "digits_of" = true) (k8 : PySem.W.keepIn K (.ref f8) = true)
    (a9 : PySem.W.nsIn K mainGlobals "flipped" = some (some (.ref f9))) (l9 : K.lookup f9 = some ⟨oc9, od9, .func (PySem.W.fnOf "flipped" "flipped" (defArgs st_flipped) (defBody st_flipped) (defScope st_flipped) .none kV9 dc9 pm9 an9 cd9 ct9), sl9⟩) (c9 : PySem.W.codeIn K cd9 "flipped" = true) (k9 : PySem.W.keepIn K (.ref f9) = true)
    (a10 : PySem.W.nsIn K mainGlobals "encode_int" = some (some (.ref f10))) (l10 : K.lookup f10 = some ⟨oc10, od10, .func (PySem.W.fnOf "encode_int" "encode_int" (defArgs st_encode_int) (defBody st_encode_int) (defScope st_encode_int) .none kV10 dc10 pm10 an10 cd10 ct10), sl10⟩) (c10 : PySem.W.codeIn K cd10 "encode_int" = true) (k10 : PySem.W.keepIn K (.ref f10) = true)
    (a11 : PySem.W.nsIn K mainGlobals "plain" = some (some (.ref f11))) (l11 : K.lookup f11 = some ⟨oc11, od11, .func (PySem.W.fnOf "plain" "plain" (defArgs st_plain) (defBody st_plain) (defScope st_plain) .none kV11 dc11 pm11 an11 cd11 ct11), sl11⟩) (c11 : PySem.W.codeIn K cd11 "plain" = true) (k11 : PySem.W.keepIn K (.ref f11) = true)
    (a12 : PySem.W.nsIn K mainGlobals "encode_value" = some (some (.ref f12))) (l12 : K.lookup f12 = some ⟨oc12, od12, .func (PySem.W.fnOf "encode_value" "encode_value" (defArgs st_encode_value) (defBody st_encode_value) (defScope st_encode_value) .none kV12 dc12 pm12 an12 cd12 ct12), sl12⟩) (c12 : PySem.W.codeIn K cd12 "encode_value" = true) (k12 : PySem.W.keepIn K (.ref f12) = true)
    (a13 : PySem.W.nsIn K mainGlobals "is_int" = some (some (.ref f13))) (l13 : K.lookup f13 = some ⟨oc13, od13, .func (PySem.W.fnOf "is_int" "is_int" (defArgs st_is_int) (defBody st_is_int) (defScope st_is_int) .none kV13 dc13 pm13 an13 cd13 ct13), sl13⟩) (c13 : PySem.W.codeIn K cd13 "is_int" = true) (k13 : PySem.W.keepIn K (.ref f13) = true)
    (a14 : PySem.W.nsIn K mainGlobals "is_bytes" = some (some (.ref f14))) (l14 : K.lookup f14 = some ⟨oc14, od14, .func (PySem.W.fnOf "is_bytes" "is_bytes" (defArgs st_is_bytes) (defBody st_is_bytes) (defScope st_is_bytes) .none kV14 dc14 pm14 an14 cd14 ct14), sl14⟩) (c14 : PySem.W.codeIn K cd14 "is_bytes" = true) (k14 : PySem.W.keepIn K (.ref f14) = true)
    (a15 : PySem.W.nsIn K mainGlobals "is_value" = some (some (.ref f15))) (l15 : K.lookup f15 = some ⟨oc15, od15, .func (PySem.W.fnOf "is_value" "is_value" (defArgs st_is_value) (defBody st_is_value) (defScope st_is_value) .none kV15 dc15 pm15 an15 cd15 ct15), sl15⟩) (c15 : PySem.W.codeIn K cd15 "is_value" = true) (k15 : PySem.W.keepIn K (.ref f15) = true)
    (a16 : PySem.W.nsIn K mainGlobals "law" = some (some (.ref f16))) (l16 : K.lookup f16 = some ⟨oc16, od16, .func (PySem.W.fnOf "law" "law" (defArgs st_law) (defBody st_law) (defScope st_law) .none kV16 dc16 pm16 an16 cd16 ct16), sl16⟩) (c16 : PySem.W.codeIn K cd16 "law" = true) (k16 : PySem.W.keepIn K (.ref f16) = true)
    (n_MOST_LENGTH : PySem.W.nsIn K mainGlobals "MOST_LENGTH" = some (some (.int 400 t_MOST_LENGTH)))
    (n_MOST_INT : PySem.W.nsIn K mainGlobals "MOST_INT" = some (some (.int 18446744073709551615 t_MOST_INT)))
    (n_SIZES : PySem.W.nsIn K mainGlobals "SIZES" = some (some (.ref d_SIZES))) (l_SIZES : K.lookup d_SIZES = some ⟨.type "dict", none, .dict es_SIZES m_SIZES, #[]⟩) (t_SIZES : TabEs w.params es_SIZES.toList tab_SIZES) (s_SIZES : (d_SIZES == sysModules) = false)
    (n_MARKS : PySem.W.nsIn K mainGlobals "MARKS" = some (some (.ref d_MARKS))) (l_MARKS : K.lookup d_MARKS = some ⟨.type "dict", none, .dict es_MARKS m_MARKS, #[]⟩) (t_MARKS : TabEs w.params es_MARKS.toList tab_MARKS) (s_MARKS : (d_MARKS == sysModules) = false)
    (n_LENGTHS : PySem.W.nsIn K mainGlobals "LENGTHS" = some (some (.ref d_LENGTHS))) (l_LENGTHS : K.lookup d_LENGTHS = some ⟨.type "dict", none, .dict es_LENGTHS m_LENGTHS, #[]⟩) (t_LENGTHS : TabEs w.params es_LENGTHS.toList tab_LENGTHS) (s_LENGTHS : (d_LENGTHS == sysModules) = false)
    (z_len : PySem.W.nsIn K mainGlobals "len" = some none)
    (z_range : PySem.W.nsIn K mainGlobals "range" = some none)
    (z_isinstance : PySem.W.nsIn K mainGlobals "isinstance" = some none)
    (z_int : PySem.W.nsIn K mainGlobals "int" = some none)
    (z_bool : PySem.W.nsIn K mainGlobals "bool" = some none)
    (z_tuple : PySem.W.nsIn K mainGlobals "tuple" = some none)
    (z_str : PySem.W.nsIn K mainGlobals "str" = some none)
    (z_list : PySem.W.nsIn K mainGlobals "list" = some none)
    (z_all : PySem.W.nsIn K mainGlobals "all" = some none)
    (z_min : PySem.W.nsIn K mainGlobals "min" = some none)
    (z_max : PySem.W.nsIn K mainGlobals "max" = some none)
    (z_sum : PySem.W.nsIn K mainGlobals "sum" = some none)
    (z_abs : PySem.W.nsIn K mainGlobals "abs" = some none)
    (z_sorted : PySem.W.nsIn K mainGlobals "sorted" = some none)
    (z_set : PySem.W.nsIn K mainGlobals "set" = some none)
    (z_enumerate : PySem.W.nsIn K mainGlobals "enumerate" = some none)
    (z_zip : PySem.W.nsIn K mainGlobals "zip" = some none) :
    ∃ fd : FuncData, (∀ (s : Shared) (v : Value), BindsTo s fd ⟨[v], []⟩ [("script", v)]) ∧ ∀ base : Heap, K.In base → base.Ns mainGlobals mg → FnOk l.prog w K mg base (L2.CX l.prog w) 5 fa fd ["script"] (spLaw K 63) := by
  have e := hfa.symm.trans (PySem.W.mg_of X G a16)
  cases e
  have B : BI mg := ⟨PySem.W.mg_none_of X G z_len, PySem.W.mg_none_of X G z_range, PySem.W.mg_none_of X G z_isinstance, PySem.W.mg_none_of X G z_int, PySem.W.mg_none_of X G z_bool, PySem.W.mg_none_of X G z_tuple, PySem.W.mg_none_of X G z_str, PySem.W.mg_none_of X G z_list, PySem.W.mg_none_of X G z_all, PySem.W.mg_none_of X G z_min, PySem.W.mg_none_of X G z_max, PySem.W.mg_none_of X G z_sum, PySem.W.mg_none_of X G z_abs, PySem.W.mg_none_of X G z_sorted, PySem.W.mg_none_of X G z_set, PySem.W.mg_none_of X G z_enumerate, PySem.W.mg_none_of X G z_zip⟩
  have q_MOST_LENGTH := PySem.W.mg_of X G n_MOST_LENGTH
  have q_MOST_INT := PySem.W.mg_of X G n_MOST_INT
  have q_SIZES : TabAt w ⟨K, mg⟩ "SIZES" tab_SIZES := ⟨d_SIZES, es_SIZES, m_SIZES, PySem.W.mg_of X G n_SIZES, l_SIZES, t_SIZES, s_SIZES⟩
  have q_MARKS : TabAt w ⟨K, mg⟩ "MARKS" tab_MARKS := ⟨d_MARKS, es_MARKS, m_MARKS, PySem.W.mg_of X G n_MARKS, l_MARKS, t_MARKS, s_MARKS⟩
  have q_LENGTHS : TabAt w ⟨K, mg⟩ "LENGTHS" tab_LENGTHS := ⟨d_LENGTHS, es_LENGTHS, m_LENGTHS, PySem.W.mg_of X G n_LENGTHS, l_LENGTHS, t_LENGTHS, s_LENGTHS⟩
  have F0 := fun_mk (st := st__law_start) l0 c0 k0
  have b0 := F0.binds (ps := ["script"]) fun _ _ _ _ _ _ us hl => match us, hl with | [_], _ => rfl
  have F1 := fun_mk (st := st__law_draw) l1 c1 k1
  have b1 := F1.binds (ps := ["draws", "limit"]) fun _ _ _ _ _ _ us hl => match us, hl with | [_, _], _ => rfl
  have F2 := fun_mk (st := st__law_pick) l2 c2 k2
  have b2 := F2.binds (ps := ["draws", "choices"]) fun _ _ _ _ _ _ us hl => match us, hl with | [_, _], _ => rfl
  have F3 := fun_mk (st := st__law_power) l3 c3 k3
  have b3 := F3.binds (ps := ["count"]) fun _ _ _ _ _ _ us hl => match us, hl with | [_], _ => rfl
  have F4 := fun_mk (st := st__law_most) l4 c4 k4
  have b4 := F4.binds (ps := ["kind"]) fun _ _ _ _ _ _ us hl => match us, hl with | [_], _ => rfl
  have F5 := fun_mk (st := st__law_text) l5 c5 k5
  have b5 := F5.binds (ps := ["draws", "length"]) fun _ _ _ _ _ _ us hl => match us, hl with | [_, _], _ => rfl
  have F6 := fun_mk (st := st__law_value) l6 c6 k6
  have b6 := F6.binds (ps := ["draws", "field"]) fun _ _ _ _ _ _ us hl => match us, hl with | [_, _], _ => rfl
  have F7 := fun_mk (st := st_power) l7 c7 k7
  have b7 := F7.binds (ps := ["count"]) fun _ _ _ _ _ _ us hl => match us, hl with | [_], _ => rfl
  have F8 := fun_mk (st := st_digits_of) l8 c8 k8
  have b8 := F8.binds (ps := ["value", "count"]) fun _ _ _ _ _ _ us hl => match us, hl with | [_, _], _ => rfl
  have F9 := fun_mk (st := st_flipped) l9 c9 k9
  have b9 := F9.binds (ps := ["data"]) fun _ _ _ _ _ _ us hl => match us, hl with | [_], _ => rfl
  have F10 := fun_mk (st := st_encode_int) l10 c10 k10
  have b10 := F10.binds (ps := ["value"]) fun _ _ _ _ _ _ us hl => match us, hl with | [_], _ => rfl
  have F11 := fun_mk (st := st_plain) l11 c11 k11
  have b11 := F11.binds (ps := ["kind", "value"]) fun _ _ _ _ _ _ us hl => match us, hl with | [_, _], _ => rfl
  have F12 := fun_mk (st := st_encode_value) l12 c12 k12
  have b12 := F12.binds (ps := ["field", "value"]) fun _ _ _ _ _ _ us hl => match us, hl with | [_, _], _ => rfl
  have F13 := fun_mk (st := st_is_int) l13 c13 k13
  have b13 := F13.binds (ps := ["value", "low", "high"]) fun _ _ _ _ _ _ us hl => match us, hl with | [_, _, _], _ => rfl
  have F14 := fun_mk (st := st_is_bytes) l14 c14 k14
  have b14 := F14.binds (ps := ["value"]) fun _ _ _ _ _ _ us hl => match us, hl with | [_], _ => rfl
  have F15 := fun_mk (st := st_is_value) l15 c15 k15
  have b15 := F15.binds (ps := ["field", "value"]) fun _ _ _ _ _ _ us hl => match us, hl with | [_, _], _ => rfl
  have F16 := fun_mk (st := st_law) l16 c16 k16
  have b16 := F16.binds (ps := ["script"]) fun _ _ _ _ _ _ us hl => match us, hl with | [_], _ => rfl
  refine ⟨PySem.W.fnOf "law" "law" (defArgs st_law) (defBody st_law) (defScope st_law) .none kV16 dc16 pm16 an16 cd16 ct16, fun s v => .of_eq rfl, fun base _ _ => ?_⟩
  have h__law_start := has__law_start (P := l.prog) (w := w) (C := ⟨K, mg⟩) (base := base) B  F0 (PySem.W.mg_of X G a0) b0
  have h__law_draw := has__law_draw (P := l.prog) (w := w) (C := ⟨K, mg⟩) (base := base) B  F1 (PySem.W.mg_of X G a1) b1
  have h__law_pick := has__law_pick (P := l.prog) (w := w) (C := ⟨K, mg⟩) (base := base) B h__law_draw F2 (PySem.W.mg_of X G a2) b2
  have h__law_power := has__law_power (P := l.prog) (w := w) (C := ⟨K, mg⟩) (base := base) B  F3 (PySem.W.mg_of X G a3) b3
  have h__law_most := has__law_most (P := l.prog) (w := w) (C := ⟨K, mg⟩) (base := base) B h__law_power F4 (PySem.W.mg_of X G a4) b4
  have h__law_text := has__law_text (P := l.prog) (w := w) (C := ⟨K, mg⟩) (base := base) B h__law_draw h__law_pick F5 (PySem.W.mg_of X G a5) b5
  have h__law_value := has__law_value (P := l.prog) (w := w) (C := ⟨K, mg⟩) (base := base) B h__law_draw h__law_pick h__law_power h__law_most h__law_text F6 (PySem.W.mg_of X G a6) b6
  have h_power := has_power (P := l.prog) (w := w) (C := ⟨K, mg⟩) (base := base) B  F7 (PySem.W.mg_of X G a7) b7
  have h_digits_of := has_digits_of (P := l.prog) (w := w) (C := ⟨K, mg⟩) (base := base) B  F8 (PySem.W.mg_of X G a8) b8
  have h_flipped := has_flipped (P := l.prog) (w := w) (C := ⟨K, mg⟩) (base := base) B  F9 (PySem.W.mg_of X G a9) b9
  have h_encode_int := has_encode_int (P := l.prog) (w := w) (C := ⟨K, mg⟩) (base := base) B h_power h_digits_of h_flipped F10 (PySem.W.mg_of X G a10) b10
  have h_plain := has_plain (P := l.prog) (w := w) (C := ⟨K, mg⟩) (base := base) B q_SIZES h_encode_int h_digits_of F11 (PySem.W.mg_of X G a11) b11
  have h_encode_value := has_encode_value (P := l.prog) (w := w) (C := ⟨K, mg⟩) (base := base) B q_MARKS h_plain h_flipped F12 (PySem.W.mg_of X G a12) b12
  have h_is_int := has_is_int (P := l.prog) (w := w) (C := ⟨K, mg⟩) (base := base) B  F13 (PySem.W.mg_of X G a13) b13
  have h_is_bytes := has_is_bytes (P := l.prog) (w := w) (C := ⟨K, mg⟩) (base := base) B q_MOST_LENGTH h_is_int F14 (PySem.W.mg_of X G a14) b14
  have h_is_value := has_is_value (P := l.prog) (w := w) (C := ⟨K, mg⟩) (base := base) B q_MOST_INT q_SIZES q_LENGTHS h_is_int h_power h_is_bytes F15 (PySem.W.mg_of X G a15) b15
  exact (ok_law (C := ⟨K, mg⟩) B h__law_start h__law_value h_encode_value h_is_value h__law_power h__law_pick h__law_draw h__law_text F16 (PySem.W.mg_of X G a16) b16).imp (law_imp (C := ⟨K, mg⟩) law_true)
end KB
open PySem PySem.W PyProof.Rows
set_option maxHeartbeats 0 in
theorem PySem.Challenge.cw_keybytes_k07_whole_integers_holds : PySem.Challenge.rw_keybytes_k07_whole_integers.Holds := by
  w_on; o_law; k_head; (case hw => w_witness2)
  k_fill
  refine L2.walk_of (l := PySem.Challenge.rw_keybytes_k07_whole_integers) (n := 63) (k := 5) (x := "script") (CX := fun w => L2.CX PySem.Challenge.pw_keybytes_k07_whole_integers w) (sp := fun w => KB.spLaw _ 63) rfl (by decide) rfl ⟨rfl, by decide, by decide⟩ (fun w h Y => PySem.W.kIn_of Y) ?F (fun _ H a ns hl _ hS => ⟨a, ns, rfl, hl, hS, fun _ => rfl⟩) (fun _ _ _ _ _ h => KB.cx_no h)
  case F =>
    intro w mg fa h KX G hmg
    refine' KB.all_mk KX G hmg ?a0 ?l0 ?c0 ?k0 ?a1 ?l1 ?c1 ?k1 ?a2 ?l2 ?c2 ?k2 ?a3 ?l3 ?c3 ?k3 ?a4 ?l4 ?c4 ?k4 ?a5 ?l5 ?c5 ?k5 ?a6 ?l6 ?c6 ?k6 ?a7 ?l7 ?c7 ?k7 ?a8 ?l8 ?c8 ?k8 ?a9 ?l9 ?c9 ?k9 ?a10 ?l10 ?c10 ?k10 ?a11 ?l11 ?c11 ?k11 ?a12 ?l12 ?c12 ?k12 ?a13 ?l13 ?c13 ?k13 ?a14 ?l14 ?c14 ?k14 ?a15 ?l15 ?c15 ?k15 ?a16 ?l16 ?c16 ?k16 ?n_MOST_LENGTH ?n_MOST_INT ?n_SIZES ?l_SIZES ?t_SIZES ?s_SIZES ?n_MARKS ?l_MARKS ?t_MARKS ?s_MARKS ?n_LENGTHS ?l_LENGTHS ?t_LENGTHS ?s_LENGTHS ?z_len ?z_range ?z_isinstance ?z_int ?z_bool ?z_tuple ?z_str ?z_list ?z_all ?z_min ?z_max ?z_sum ?z_abs ?z_sorted ?z_set ?z_enumerate ?z_zip
    (case a0 => k_is); (case l0 => k_is); (case c0 => k_is); (case k0 => k_is); (case a1 => k_is); (case l1 => k_is); (case c1 => k_is); (case k1 => k_is); (case a2 => k_is); (case l2 => k_is); (case c2 => k_is); (case k2 => k_is); (case a3 => k_is); (case l3 => k_is); (case c3 => k_is); (case k3 => k_is); (case a4 => k_is); (case l4 => k_is); (case c4 => k_is); (case k4 => k_is); (case a5 => k_is); (case l5 => k_is); (case c5 => k_is); (case k5 => k_is); (case a6 => k_is); (case l6 => k_is); (case c6 => k_is); (case k6 => k_is); (case a7 => k_is); (case l7 => k_is); (case c7 => k_is); (case k7 => k_is); (case a8 => k_is); (case l8 => k_is); (case c8 => k_is); (case k8 => k_is); (case a9 => k_is); (case l9 => k_is); (case c9 => k_is); (case k9 => k_is); (case a10 => k_is); (case l10 => k_is); (case c10 => k_is); (case k10 => k_is); (case a11 => k_is); (case l11 => k_is); (case c11 => k_is); (case k11 => k_is); (case a12 => k_is); (case l12 => k_is); (case c12 => k_is); (case k12 => k_is); (case a13 => k_is); (case l13 => k_is); (case c13 => k_is); (case k13 => k_is); (case a14 => k_is); (case l14 => k_is); (case c14 => k_is); (case k14 => k_is); (case a15 => k_is); (case l15 => k_is); (case c15 => k_is); (case k15 => k_is); (case a16 => k_is); (case l16 => k_is); (case c16 => k_is); (case k16 => k_is); (case n_MOST_LENGTH => k_is); (case n_MOST_INT => k_is); (case n_SIZES => k_is); (case l_SIZES => k_is); (case t_SIZES => exact (KB.TabEs.tcons ⟨_, _, rfl, rfl, rfl⟩ (KB.TabEs.tcons ⟨_, _, rfl, rfl, rfl⟩ (KB.TabEs.tcons ⟨_, _, rfl, rfl, rfl⟩ (KB.TabEs.tcons ⟨_, _, rfl, rfl, rfl⟩ (KB.TabEs.tcons ⟨_, _, rfl, rfl, rfl⟩ (KB.TabEs.tcons ⟨_, _, rfl, rfl, rfl⟩ (KB.TabEs.tcons ⟨_, _, rfl, rfl, rfl⟩ (KB.TabEs.tcons ⟨_, _, rfl, rfl, rfl⟩ KB.TabEs.tnil))))))))); (case s_SIZES => decide); (case n_MARKS => k_is); (case l_MARKS => k_is); (case t_MARKS => exact (KB.TabEs.tcons ⟨_, _, rfl, rfl, rfl⟩ (KB.TabEs.tcons ⟨_, _, rfl, rfl, rfl⟩ KB.TabEs.tnil))); (case s_MARKS => decide); (case n_LENGTHS => k_is); (case l_LENGTHS => k_is); (case t_LENGTHS => exact (KB.TabEs.tcons ⟨_, _, rfl, rfl, rfl⟩ (KB.TabEs.tcons ⟨_, _, rfl, rfl, rfl⟩ (KB.TabEs.tcons ⟨_, _, rfl, rfl, rfl⟩ KB.TabEs.tnil)))); (case s_LENGTHS => decide); (case z_len => k_is); (case z_range => k_is); (case z_isinstance => k_is); (case z_int => k_is); (case z_bool => k_is); (case z_tuple => k_is); (case z_str => k_is); (case z_list => k_is); (case z_all => k_is); (case z_min => k_is); (case z_max => k_is); (case z_sum => k_is); (case z_abs => k_is); (case z_sorted => k_is); (case z_set => k_is); (case z_enumerate => k_is); (case z_zip => k_is)
