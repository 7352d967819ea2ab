import PyProof.Rows.All
import Wide.All
import OpenK.AllK
import Wide.FinOn
import HandS.ForMost
import HandS.ForExc
import HandS.Walk
import HandS.TupAny
import HandS.TupMul
import HandS.TupLe
import HandS.IsInst
import HandS.Deep
import HandS.Zip
import HandS.Wide
import HandS.EndBits
import HandS.Style
import HandS.Sort
import HandS.More
import HandS.SetFor
import KE.GoesMore
import HandS.ExcValue
import HandS.ExcIs
import HandS.Comp
import HandS.NamedTupSort
import HandS.TupSets
import HandS.StrMore
import HandS.Text
import PyProof.StrOps2
import PySem.Challenge.RW_keybytes_k14_whole_index
set_option Elab.async false
set_option linter.all false
set_option maxRecDepth 100000
set_option autoImplicit false
set_option maxHeartbeats 4000000
namespace KB
open PySem PySem.Spec PyProof.Rows L2

/-- plain data: what a Python value of this program is, without addresses; a cell is a list (or object) that may change -/
inductive D where
  | non | bl (b : Bool) | int (i : Int) | str (s : Str) | tup (ds : List D) | lst (ds : List D) | cell (n : Nat) | scr (ds : List D) | exc (c : Str)

inductive MO where
  | lst (ds : List D)
  | obj (c : Str) (fs : List (Str × D))

structure Kx where
  K : PySem.W.Frag
  mg : Str → Option Value
abbrev kx (X : Cx) : Kx := ⟨X.K, X.mg⟩

/-- an exception object of the class cls at a -/
def CxO (cls : Value) (a : Addr) : HO := .ext fun hp => ∃ (ob : Obj) (fv : Array Value), hp.get? a = some ob ∧ ob.data = .fields fv ∧ Zc cls none ob
mutual
inductive Rp (C : Kx) (L : List Addr) (G : Hp) : V → D → Prop
  | non : Rp C L G .non .non
  | bl (b : Bool) : Rp C L G (.bl b) (.bl b)
  | int (i : Int) : Rp C L G (.int i) (.int i)
  | str (x : Str) : Rp C L G (.str x) (.str x)
  | tup {a : Addr} {vs : List V} {ds : List D} : SqT C.K G a vs → RpL C L G vs ds → Rp C L G (.ref a) (.tup ds)
  | lst {a : Addr} {vs : List V} {ds : List D} : G a = some (.lst vs) → RpL C L G vs ds → Rp C L G (.ref a) (.lst ds)
  | scr {a : Addr} {vs : List V} {ds : List D} : SqL C.K G a vs → RpL C L G vs ds → Rp C L G (.ref a) (.scr ds)
  | cell {a : Addr} {n : Nat} : L[n]? = some a → Rp C L G (.ref a) (.cell n)
  | exc {a : Addr} {c : Str} {u : Value} : C.mg c = some u → G a = some (CxO u a) → Rp C L G (.ref a) (.exc c)
inductive RpL (C : Kx) (L : List Addr) (G : Hp) : List V → List D → Prop
  | nil : RpL C L G [] []
  | cons {v : V} {d : D} {vs : List V} {ds : List D} : Rp C L G v d → RpL C L G vs ds → RpL C L G (v :: vs) (d :: ds)
end

structure Ext (L : List Addr) (G : Hp) (L' : List Addr) (G' : Hp) : Prop where
  l : ∃ J, L' = L ++ J
  g : Same G G'
theorem Ext.refl (L : List Addr) (G : Hp) : Ext L G L G := ⟨⟨[], by simp⟩, Same.refl G⟩
theorem Ext.trans {L L1 L2' : List Addr} {G G1 G2 : Hp} (a : Ext L G L1 G1) (b : Ext L1 G1 L2' G2) : Ext L G L2' G2 := by
  obtain ⟨⟨J, rfl⟩, g⟩ := a
  obtain ⟨⟨J', rfl⟩, g'⟩ := b
  exact ⟨⟨J ++ J', by simp⟩, g.trans g'⟩
theorem Ext.at {L L' : List Addr} {G G' : Hp} (e : Ext L G L' G') {n : Nat} {a : Addr} (h : L[n]? = some a) : L'[n]? = some a := by
  obtain ⟨⟨J, rfl⟩, _⟩ := e
  rw [List.getElem?_append_left (List.getElem?_eq_some_iff.mp h).1]
  exact h

theorem Same.seqT {K : PySem.W.Frag} {H H' : Hp} {a : Addr} {xs : List V} (e : Same H H') (h : SqT K H a xs) : SqT K H' a xs := by
  rcases h with (h | ⟨o, h⟩) | h
  · exact .inl (.inl (e _ _ h))
  · exact .inl (.inr ⟨o, e _ _ h⟩)
  · exact .inr h

section
variable {C : Kx} {L L' : List Addr} {G G' : Hp}
mutual
theorem Rp.mono (e : Ext L G L' G') : ∀ {d : D} {v : V}, Rp C L G v d → Rp C L' G' v d
  | .non, _, h => by cases h; exact .non
  | .bl _, _, h => by cases h; exact .bl _
  | .int _, _, h => by cases h; exact .int _
  | .str _, _, h => by cases h; exact .str _
  | .tup _, _, h => by cases h with | tup hs hl => exact .tup (Same.seqT e.g hs) (RpL.mono e hl)
  | .lst _, _, h => by cases h with | lst hs hl => exact .lst (e.g _ _ hs) (RpL.mono e hl)
  | .scr _, _, h => by cases h with | scr hs hl => exact .scr (e.g.seq hs) (RpL.mono e hl)
  | .cell _, _, h => by cases h with | cell hs => exact .cell (e.at hs)
  | .exc _, _, h => by cases h with | exc h1 h2 => exact .exc h1 (e.g _ _ h2)
theorem RpL.mono (e : Ext L G L' G') : ∀ {ds : List D} {vs : List V}, RpL C L G vs ds → RpL C L' G' vs ds
  | [], _, h => by cases h; exact .nil
  | _ :: _, _, h => by cases h with | cons h1 h2 => exact .cons (Rp.mono e h1) (RpL.mono e h2)
end
theorem RpL.length : ∀ {ds : List D} {vs : List V}, RpL C L G vs ds → vs.length = ds.length
  | [], _, h => by cases h; rfl
  | _ :: _, _, h => by cases h with | cons h1 h2 => simp [RpL.length h2]
theorem RpL.get : ∀ {ds : List D} {vs : List V}, RpL C L G vs ds → ∀ {i : Nat} {d : D}, ds[i]? = some d → ∃ v, vs[i]? = some v ∧ Rp C L G v d
  | [], _, h, i, d, e => by simp at e
  | _ :: _, _, h, 0, d, e => by
    cases h with
    | cons h1 h2 => simp at e; subst e; exact ⟨_, rfl, h1⟩
  | _ :: _, _, h, i + 1, d, e => by
    cases h with
    | cons h1 h2 => exact RpL.get h2 (i := i) (by simpa using e)
theorem RpL.getV : ∀ {ds : List D} {vs : List V}, RpL C L G vs ds → ∀ {i : Nat} {v : V}, vs[i]? = some v → ∃ d, ds[i]? = some d ∧ Rp C L G v d
  | [], _, h, i, v, e => by cases h; simp at e
  | _ :: _, _, h, 0, v, e => by
    cases h with
    | cons h1 h2 => simp at e; subst e; exact ⟨_, rfl, h1⟩
  | _ :: _, _, h, i + 1, v, e => by
    cases h with
    | cons h1 h2 => exact RpL.getV h2 (i := i) (by simpa using e)
theorem RpL.append : ∀ {ds es : List D} {vs ws : List V}, RpL C L G vs ds → RpL C L G ws es → RpL C L G (vs ++ ws) (ds ++ es)
  | [], _, _, _, h, h' => by cases h; exact h'
  | _ :: _, _, _, _, h, h' => by cases h with | cons h1 h2 => exact .cons h1 (RpL.append h2 h')
theorem RpL.take : ∀ (n : Nat) {ds : List D} {vs : List V}, RpL C L G vs ds → RpL C L G (vs.take n) (ds.take n)
  | 0, _, _, _ => .nil
  | _ + 1, [], _, h => by cases h; exact .nil
  | n + 1, _ :: _, _, h => by cases h with | cons h1 h2 => exact .cons h1 (RpL.take n h2)
theorem RpL.drop : ∀ (n : Nat) {ds : List D} {vs : List V}, RpL C L G vs ds → RpL C L G (vs.drop n) (ds.drop n)
  | 0, _, _, h => h
  | _ + 1, [], _, h => by cases h; exact .nil
  | n + 1, _ :: _, _, h => by cases h with | cons h1 h2 => exact RpL.drop n h2
theorem RpL.set : ∀ (n : Nat) {ds : List D} {vs : List V} {v : V} {d : D}, RpL C L G vs ds → Rp C L G v d → RpL C L G (vs.set n v) (ds.set n d)
  | _, [], _, _, _, h, _ => by cases h; exact .nil
  | 0, _ :: _, _, _, _, h, r => by cases h with | cons h1 h2 => exact .cons r h2
  | n + 1, _ :: _, _, _, _, h, r => by cases h with | cons h1 h2 => exact .cons h1 (RpL.set n h2 r)
theorem RpL.reverse {ds : List D} {vs : List V} (h : RpL C L G vs ds) : RpL C L G vs.reverse ds.reverse := by
  induction ds generalizing vs with
  | nil => cases h; exact .nil
  | cons d ds ih => cases h with | cons h1 h2 => rw [List.reverse_cons, List.reverse_cons]; exact (ih h2).append (.cons h1 .nil)
end

/-- the frame of cells: each stands outside of what never changes -/
def MoOk (C : Kx) (L : List Addr) (G H : Hp) (a : Addr) : MO → Prop
  | .lst ds => ∃ vs, H a = some (.lst vs) ∧ RpL C L G vs ds
  | .obj c fs => ∃ A dx fv, C.mg c = some (.ref A) ∧ H a = some (.ins A dx fv) ∧ fv.map (·.1) = fs.map (·.1) ∧ RpL C L G (fv.map (·.2)) (fs.map (·.2))
structure Ok (C : Kx) (F : Hp) (L : List Addr) (G : Hp) (M : List MO) (H : Hp) : Prop where
  fs : Same F H
  fo : ∀ a o, F a = some o → G a = none ∧ a ∉ L
  sub : Same G H
  len : L.length = M.length
  nd : L.Nodup
  out : ∀ a ∈ L, G a = none
  cells : ∀ (n : Nat) (a : Addr) (o : MO), L[n]? = some a → M[n]? = some o → MoOk C L G H a o
section
variable {C : Kx} {F : Hp} {L L' : List Addr} {G G' H H' : Hp} {M : List MO} {a : Addr}
theorem MoOk.mono (e : Ext L G L' G') (h : H' a = H a) : ∀ {o : MO}, MoOk C L G H a o → MoOk C L' G' H' a o
  | .lst _, ⟨vs, h1, h2⟩ => ⟨vs, by rw [h]; exact h1, h2.mono e⟩
  | .obj _ _, ⟨A, dx, fv, h1, h2, h3, h4⟩ => ⟨A, dx, fv, h1, by rw [h]; exact h2, h3, h4.mono e⟩
theorem MoOk.some : ∀ {o : MO}, MoOk C L G H a o → ∃ u, H a = Option.some u
  | .lst _, ⟨vs, h1, h2⟩ => ⟨_, h1⟩
  | .obj _ _, ⟨A, dx, fv, h1, h2, h3, h4⟩ => ⟨_, h2⟩
theorem Ok.here (o : Ok C F L G M H) {n : Nat} (h : L[n]? = some a) : ∃ u, M[n]? = some u ∧ MoOk C L G H a u := by
  have h1 : n < M.length := by rw [← o.len]; exact (List.getElem?_eq_some_iff.mp h).1
  exact ⟨M[n], List.getElem?_eq_getElem h1, o.cells n a _ h (List.getElem?_eq_getElem h1)⟩
theorem Ok.there (o : Ok C F L G M H) (h : a ∈ L) : ∃ u, H a = some u := by
  obtain ⟨n, hn⟩ := List.getElem?_of_mem h
  obtain ⟨u, _, hu⟩ := o.here hn
  exact hu.some
theorem Ok.freshF (o : Ok C F L G M H) (h : H a = none) : F a = none := by
  cases q : F a with
  | none => rfl
  | some u => rw [o.fs a u q] at h; cases h
theorem Ok.fresh (o : Ok C F L G M H) (h : H a = none) : G a = none ∧ a ∉ L := by
  refine ⟨?_, fun hm => ?_⟩
  · cases q : G a with
    | none => rfl
    | some u => rw [o.sub a u q] at h; cases h
  · obtain ⟨u, hu⟩ := o.there hm
    rw [hu] at h; cases h
/-- a new object that never changes -/
theorem Ok.lay (o : Ok C F L G M H) {p : Addr} {u : HO} (h : H p = none) : Ok C F L (upd G p u) M (upd H p u) ∧ Ext L G L (upd G p u) := by
  obtain ⟨g, nl⟩ := o.fresh h
  have e : Ext L G L (upd G p u) := ⟨⟨[], by simp⟩, fun b x q => by rw [upd_ne (ne_of_none q g)]; exact q⟩
  have nf := o.freshF h
  refine ⟨⟨fun b x q => by rw [upd_ne (ne_of_none q nf)]; exact o.fs b x q, fun b x q => ⟨by rw [upd_ne (ne_of_none q nf)]; exact (o.fo b x q).1, (o.fo b x q).2⟩, fun b x q => ?_, o.len, o.nd, fun b hb => ?_, fun n b x h1 h2 => ?_⟩, e⟩
  · by_cases hb : b = p
    · subst hb; rw [upd_same] at q ⊢; exact q
    · rw [upd_ne hb] at q ⊢; exact o.sub b x q
  · rw [upd_ne (fun z : b = p => nl (z ▸ hb))]; exact o.out b hb
  · have hb : b ∈ L := List.mem_of_getElem? h1
    exact (o.cells n b x h1 h2).mono e (upd_ne (fun z : b = p => nl (z ▸ hb)))
/-- a new object nobody needs -/
theorem Ok.lose (o : Ok C F L G M H) {p : Addr} {u : HO} (h : H p = none) : Ok C F L G M (upd H p u) := by
  obtain ⟨g, nl⟩ := o.fresh h
  have nf := o.freshF h
  refine ⟨fun b x q => by rw [upd_ne (ne_of_none q nf)]; exact o.fs b x q, o.fo, fun b x q => ?_, o.len, o.nd, o.out, fun n b x h1 h2 => ?_⟩
  · rw [upd_ne (ne_of_none q g)]; exact o.sub b x q
  · have hb : b ∈ L := List.mem_of_getElem? h1
    exact (o.cells n b x h1 h2).mono (Ext.refl _ _) (upd_ne (fun z : b = p => nl (z ▸ hb)))
/-- a new cell -/
theorem Ok.cellNew (o : Ok C F L G M H) {p : Addr} {vs : List V} {ds : List D} (h : H p = none) (r : RpL C L G vs ds) :
    Ok C F (L ++ [p]) G (M ++ [.lst ds]) (upd H p (.lst vs)) ∧ Ext L G (L ++ [p]) G ∧ Rp C (L ++ [p]) G (.ref p) (.cell M.length) := by
  obtain ⟨g, nl⟩ := o.fresh h
  have e : Ext L G (L ++ [p]) G := ⟨⟨[p], rfl⟩, Same.refl G⟩
  have nf := o.freshF h
  refine ⟨⟨fun b x q => by rw [upd_ne (ne_of_none q nf)]; exact o.fs b x q, fun b x q => ⟨(o.fo b x q).1, fun z => ?_⟩, fun b x q => ?_, by simp [o.len], ?_, fun b hb => ?_, fun n b x h1 h2 => ?_⟩, e, .cell ?_⟩
  · rcases List.mem_append.mp z with z | z
    · exact (o.fo b x q).2 z
    · simp at z; subst z; rw [nf] at q; cases q
  · rw [upd_ne (ne_of_none q g)]; exact o.sub b x q
  · exact List.nodup_append.mpr ⟨o.nd, by simp, fun b hb c hc => by simp at hc; subst hc; exact fun z => nl (z ▸ hb)⟩
  · rcases List.mem_append.mp hb with hb | hb
    · exact o.out b hb
    · simp at hb; subst hb; exact g
  · by_cases hn : n < L.length
    · rw [List.getElem?_append_left hn] at h1
      rw [List.getElem?_append_left (by rw [← o.len]; exact hn)] at h2
      have hb : b ∈ L := List.mem_of_getElem? h1
      exact (o.cells n b x h1 h2).mono e (upd_ne (fun z : b = p => nl (z ▸ hb)))
    · have hn1 : n = L.length := by
        have := (List.getElem?_eq_some_iff.mp h1).1
        simp at this; omega
      subst hn1
      rw [List.getElem?_append_right (Nat.le_refl _)] at h1
      rw [List.getElem?_append_right (by rw [o.len]; exact Nat.le_refl _)] at h2
      simp at h1
      simp [o.len] at h2
      subst h1 h2
      exact ⟨vs, upd_same, r.mono e⟩
  · rw [← o.len]; simp
/-- a cell's list is changed -/
theorem Ok.cellSet (o : Ok C F L G M H) {n : Nat} {vs : List V} {ds : List D} (h : L[n]? = some a) (r : RpL C L G vs ds) :
    Ok C F L G (M.set n (.lst ds)) (upd H a (.lst vs)) := by
  have ha : a ∈ L := List.mem_of_getElem? h
  refine ⟨fun b x q => by rw [upd_ne (fun z : b = a => (o.fo b x q).2 (z ▸ ha))]; exact o.fs b x q, o.fo, fun b x q => ?_, by simp [o.len], o.nd, o.out, fun m b x h1 h2 => ?_⟩
  · rw [upd_ne (ne_of_none q (o.out a ha))]; exact o.sub b x q
  · by_cases hm : m = n
    · subst hm
      rw [h] at h1
      cases h1
      rw [List.getElem?_set_self (by rw [← o.len]; exact (List.getElem?_eq_some_iff.mp h).1)] at h2
      cases h2
      exact ⟨vs, upd_same, r⟩
    · rw [List.getElem?_set_ne (fun z => hm z.symm)] at h2
      refine (o.cells m b x h1 h2).mono (Ext.refl _ _) (upd_ne fun z => hm ?_)
      subst z
      obtain ⟨i1, e1⟩ := List.getElem?_eq_some_iff.mp h1
      obtain ⟨i2, e2⟩ := List.getElem?_eq_some_iff.mp h
      exact (List.getElem_inj o.nd).mp (e1.trans e2.symm)
/-- the object at an address that is no cell may be anything newer -/
theorem Ok.forget (o : Ok C F L G M H) {M' : List MO} {J : List MO} {L0 : List Addr} {J' : List Addr} (hM : M = M' ++ J) (hL : L = L0 ++ J') (hl : L0.length = M'.length) (hc : ∀ (n : Nat) (b : Addr) (x : MO), L0[n]? = some b → M'[n]? = some x → MoOk C L0 G H b x) : Ok C F L0 G M' H := by
  subst hM hL
  exact ⟨o.fs, fun b x q => ⟨(o.fo b x q).1, fun z => (o.fo b x q).2 (List.mem_append_left _ z)⟩, o.sub, hl, (List.nodup_append.mp o.nd).1, fun b hb => o.out b (List.mem_append_left _ hb), hc⟩
end

/-! ### results -/
inductive R (α : Type) where
  | ok (a : α) (M : List MO)
  | exc (c : Str) (M : List MO)
  | stuck
def R.bind {α β : Type} (r : R α) (f : α → List MO → R β) : R β := match r with
  | .ok a M => f a M
  | .exc c M => .exc c M
  | .stuck => .stuck
@[simp] theorem R.bind_ok {α β : Type} (a : α) (M : List MO) (f : α → List MO → R β) : (R.ok a M).bind f = f a M := rfl
@[simp] theorem R.bind_exc {α β : Type} (c : Str) (M : List MO) (f : α → List MO → R β) : (R.exc c M : R α).bind f = .exc c M := rfl
@[simp] theorem R.bind_stuck {α β : Type} (f : α → List MO → R β) : (R.stuck : R α).bind f = .stuck := rfl
abbrev EN := List (Option D)
abbrev EV := EN → List MO → R D
abbrev EB := EN → List MO → R Bool
abbrev EA := EN → List MO → R (List D)
inductive RS where
  | nx (e : EN) (M : List MO)
  | ret (d : D) (M : List MO)
  | brk (e : EN) (M : List MO)
  | cnt (e : EN) (M : List MO)
  | exc (c : Str) (e : EN) (M : List MO)
  | stuck
abbrev SV := EN → List MO → RS

/-- the slots hold the data -/
structure RpE (C : Kx) (L : List Addr) (G : Hp) (σ : L2.St) (e : EN) : Prop where
  len : σ.length = e.length
  at' : ∀ (i : Nat) (d : D), e[i]? = some (some d) → ∃ v, σ[i]? = some (some v) ∧ Rp C L G v d
section
variable {C : Kx} {L L' : List Addr} {G G' H H' : Hp} {M : List MO} {σ : L2.St} {e : EN}
theorem RpE.mono (h : RpE C L G σ e) (x : Ext L G L' G') : RpE C L' G' σ e :=
  ⟨h.len, fun i d q => by obtain ⟨v, h1, h2⟩ := h.at' i d q; exact ⟨v, h1, h2.mono x⟩⟩
theorem RpE.set (h : RpE C L G σ e) {i : Nat} {v : V} {d : D} (r : Rp C L G v d) : RpE C L G (σ.set i (some v)) (e.set i (some d)) := by
  refine ⟨by simp [h.len], fun j x q => ?_⟩
  by_cases hj : i = j
  · subst hj
    by_cases hi : i < e.length
    · rw [List.getElem?_set_self hi] at q
      cases q
      exact ⟨v, List.getElem?_set_self (by rw [h.len]; exact hi), r⟩
    · rw [List.getElem?_eq_none (by simp; omega)] at q; cases q
  · rw [List.getElem?_set_ne hj] at q ⊢
    exact h.at' j x q
theorem RpE.weak (h : RpE C L G σ e) {e' : EN} (hl : e'.length = e.length) (w : ∀ (i : Nat) (d : D), e'[i]? = some (some d) → e[i]? = some (some d)) : RpE C L G σ e' :=
  ⟨h.len.trans hl.symm, fun i d q => h.at' i d (w i d q)⟩
end

/-- what is wanted behind an expression: k of its data, or the wish of the exception -/
def Aft {α : Type} (X : Cx) (W : WX) (F : Hp) (σ : L2.St) (k : α → List MO → List Addr → Hp → Hp → Prop) (L : List Addr) (G : Hp) : R α → Prop
  | .ok d M' => ∀ L' G' H', Ok (kx X) F L' G' M' H' → Ext L G L' G' → k d M' L' G' H'
  | .exc c M' => ∀ L' G' H' u, Ok (kx X) F L' G' M' H' → Ext L G L' G' → X.mg c = some u → W u none σ H'
  | .stuck => False
section
variable {α β : Type} {X : Cx} {W : WX} {F : Hp} {σ : L2.St} {k k' : α → List MO → List Addr → Hp → Hp → Prop} {L L' : List Addr} {G G' : Hp}
theorem Aft.mono {r : R α} (h : Aft X W F σ k L G r) (e : Ext L G L' G') : Aft X W F σ k L' G' r := by
  cases r with
  | ok d M => exact fun L2 G2 H2 o x => h L2 G2 H2 o (e.trans x)
  | exc c M => exact fun L2 G2 H2 u o x q => h L2 G2 H2 u o (e.trans x) q
  | stuck => exact h.elim
theorem Aft.imp {r : R α} (h : Aft X W F σ k L G r) (f : ∀ a M' L' G' H', Ok (kx X) F L' G' M' H' → Ext L G L' G' → k a M' L' G' H' → k' a M' L' G' H') : Aft X W F σ k' L G r := by
  cases r with
  | ok d M => exact fun L2 G2 H2 o x => f d M L2 G2 H2 o x (h L2 G2 H2 o x)
  | exc c M => exact h
  | stuck => exact h.elim
theorem Aft.bind {r : R α} {f : α → List MO → R β} {kb : β → List MO → List Addr → Hp → Hp → Prop} (h : Aft X W F σ kb L G (r.bind f)) :
    Aft X W F σ (fun a M1 L1 G1 _ => Aft X W F σ kb L1 G1 (f a M1)) L G r := by
  cases r with
  | ok d M => exact fun L2 G2 H2 o x => Aft.mono h x
  | exc c M => exact h
  | stuck => exact h.elim
end
def kE (X : Cx) (Q : VK) : D → List MO → List Addr → Hp → Hp → Prop := fun d _ L' G' H' => ∀ v, Rp (kx X) L' G' v d → Q v H'
def kB (Q : Bool → Hp → Prop) : Bool → List MO → List Addr → Hp → Hp → Prop := fun b _ _ _ H' => Q b H'
def kA (X : Cx) (Q : List V → Hp → Prop) : List D → List MO → List Addr → Hp → Hp → Prop := fun ds _ L' G' H' => ∀ vs, RpL (kx X) L' G' vs ds → Q vs H'
def AftS (X : Cx) (W : WX) (F : Hp) (L : List Addr) (G : Hp) (Dn : Ends) : RS → Prop
  | .nx e M' => ∀ σ' L' G' H', Ok (kx X) F L' G' M' H' → Ext L G L' G' → RpE (kx X) L' G' σ' e → Dn.nx σ' H'
  | .ret d M' => ∀ v L' G' H', Ok (kx X) F L' G' M' H' → Ext L G L' G' → Rp (kx X) L' G' v d → Dn.rt v H'
  | .brk e M' => ∀ σ' L' G' H', Ok (kx X) F L' G' M' H' → Ext L G L' G' → RpE (kx X) L' G' σ' e → Dn.bk σ' H'
  | .cnt e M' => ∀ σ' L' G' H', Ok (kx X) F L' G' M' H' → Ext L G L' G' → RpE (kx X) L' G' σ' e → Dn.ct σ' H'
  | .exc c e M' => ∀ σ' L' G' H' u, Ok (kx X) F L' G' M' H' → Ext L G L' G' → RpE (kx X) L' G' σ' e → X.mg c = some u → W u none σ' H'
  | .stuck => False
theorem AftS.mono {X : Cx} {W : WX} {F : Hp} {L L' : List Addr} {G G' : Hp} {Dn : Ends} {r : RS} (h : AftS X W F L G Dn r) (e : Ext L G L' G') : AftS X W F L' G' Dn r := by
  cases r with
  | nx _ _ => exact fun σ2 L2 G2 H2 o x => h σ2 L2 G2 H2 o (e.trans x)
  | ret _ _ => exact fun σ2 L2 G2 H2 o x => h σ2 L2 G2 H2 o (e.trans x)
  | brk _ _ => exact fun σ2 L2 G2 H2 o x => h σ2 L2 G2 H2 o (e.trans x)
  | cnt _ _ => exact fun σ2 L2 G2 H2 o x => h σ2 L2 G2 H2 o (e.trans x)
  | exc _ _ _ => exact fun σ2 L2 G2 H2 u o x => h σ2 L2 G2 H2 u o (e.trans x)
  | stuck => exact h.elim

def HoE (X : Cx) (W : WX) (t : TE) (ev : EV) : Prop := ∀ (F : Hp) (e : EN) (M : List MO) (σ : L2.St) (L : List Addr) (G H : Hp) (Q : VK),
  Ok (kx X) F L G M H → RpE (kx X) L G σ e → Aft X W F σ (kE X Q) L G (ev e M) → t σ H Q
def HoB (X : Cx) (W : WX) (t : TT) (ev : EB) : Prop := ∀ (F : Hp) (e : EN) (M : List MO) (σ : L2.St) (L : List Addr) (G H : Hp) (Q : Bool → Hp → Prop),
  Ok (kx X) F L G M H → RpE (kx X) L G σ e → Aft X W F σ (kB Q) L G (ev e M) → t σ H Q
def HoA (X : Cx) (W : WX) (t : TA) (ev : EA) : Prop := ∀ (F : Hp) (e : EN) (M : List MO) (σ : L2.St) (L : List Addr) (G H : Hp) (Q : List V → Hp → Prop),
  Ok (kx X) F L G M H → RpE (kx X) L G σ e → Aft X W F σ (kA X Q) L G (ev e M) → t σ H Q
def HoS (X : Cx) (W : WX) (t : TS) (sv : SV) : Prop := ∀ (F : Hp) (e : EN) (M : List MO) (σ : L2.St) (L : List Addr) (G H : Hp) (Dn : Ends),
  Ok (kx X) F L G M H → RpE (kx X) L G σ e → AftS X W F L G Dn (sv e M) → t Dn σ H

/-- the expression is what the evaluator says -/
def PD (X : Cx) (W : WX) (e : Expr) (ev : EV) : Prop := ∃ t, PE X e t ∧ HoE X W t ev
def PB (X : Cx) (W : WX) (e : Expr) (ev : EB) : Prop := ∃ t, PT X e t ∧ HoB X W t ev
def PWD (X : Cx) (W : WX) (e : Expr) (ev : EB) : Prop := ∃ t, PW X e t ∧ HoB X W t ev
def PAD (X : Cx) (W : WX) (es : List Expr) (ev : EA) : Prop := ∃ t, PA X es t ∧ HoA X W t ev
def PSD (X : Cx) (W : WX) (s : Stmt) (sv : SV) : Prop := ∃ t, PS X s t ∧ HoS X W t sv
def PSsD (X : Cx) (W : WX) (s : List Stmt) (sv : SV) : Prop := ∃ t, PSs X s t ∧ HoS X W t sv
end KB
namespace KB
open PySem PySem.Spec PyProof.Rows L2

/-! ### views -/
def res (M : List MO) : D → D
  | .cell n => match M[n]? with
    | some (.lst ds) => .lst ds
    | _ => .cell n
  | d => d
@[simp] theorem res_non (M : List MO) : res M .non = .non := rfl
@[simp] theorem res_bl (M : List MO) (b : Bool) : res M (.bl b) = .bl b := rfl
@[simp] theorem res_int (M : List MO) (b : Int) : res M (.int b) = .int b := rfl
@[simp] theorem res_str (M : List MO) (b : Str) : res M (.str b) = .str b := rfl
@[simp] theorem res_tup (M : List MO) (b : List D) : res M (.tup b) = .tup b := rfl
@[simp] theorem res_lst (M : List MO) (b : List D) : res M (.lst b) = .lst b := rfl
@[simp] theorem res_scr (M : List MO) (b : List D) : res M (.scr b) = .scr b := rfl
theorem res_cell (M : List MO) (n : Nat) : res M (.cell n) = .cell n ∨ ∃ ds, res M (.cell n) = .lst ds := by
  cases h : M[n]? with
  | none => exact .inl (by simp [res, h])
  | some u => cases u with
    | lst ds => exact .inr ⟨ds, by simp [res, h]⟩
    | obj c fs => exact .inl (by simp [res, h])
section
variable {C : Kx} {F : Hp} {L L' : List Addr} {G G' H H' : Hp} {M : List MO} {v : V} {d : D}
theorem Ok.viewL (o : Ok C F L G M H) (r : Rp C L G v d) {ds : List D} (e : res M d = .lst ds) : ∃ a vs, v = .ref a ∧ H a = some (.lst vs) ∧ RpL C L G vs ds := by
  cases r with
  | lst h hl => rw [res_lst] at e; cases e; exact ⟨_, _, rfl, o.sub _ _ h, hl⟩
  | @cell a n h =>
    obtain ⟨u, hu, k⟩ := o.here h
    unfold res at e
    simp only [hu] at e
    cases u with
    | lst es => simp only at e; cases e; obtain ⟨vs, h1, h2⟩ := k; exact ⟨_, vs, rfl, h1, h2⟩
    | obj c fs => simp only at e; cases e
  | non => cases e
  | bl => cases e
  | int => cases e
  | str => cases e
  | tup => cases e
  | scr => cases e
  | exc => cases e
theorem Ok.viewT (o : Ok C F L G M H) (r : Rp C L G v d) {ds : List D} (e : res M d = .tup ds) : ∃ a vs, v = .ref a ∧ SqT C.K H a vs ∧ RpL C L G vs ds := by
  cases r with
  | tup h hl => rw [res_tup] at e; cases e; exact ⟨_, _, rfl, Same.seqT o.sub h, hl⟩
  | @cell a n h => 
    rcases res_cell M n with z | ⟨ds', z⟩ <;> rw [z] at e <;> cases e
  | non => cases e
  | bl => cases e
  | int => cases e
  | str => cases e
  | lst => cases e
  | scr => cases e
  | exc => cases e
theorem viewI (r : Rp C L G v d) {i : Int} (e : res M d = .int i) : v = .int i := by
  cases r with
  | int => cases e; rfl
  | @cell a n h => rcases res_cell M n with z | ⟨ds', z⟩ <;> rw [z] at e <;> cases e
  | _ => cases e
theorem viewS (r : Rp C L G v d) {i : Str} (e : res M d = .str i) : v = .str i := by
  cases r with
  | str => cases e; rfl
  | @cell a n h => rcases res_cell M n with z | ⟨ds', z⟩ <;> rw [z] at e <;> cases e
  | _ => cases e
theorem viewB (r : Rp C L G v d) {i : Bool} (e : res M d = .bl i) : v = .bl i := by
  cases r with
  | bl => cases e; rfl
  | @cell a n h => rcases res_cell M n with z | ⟨ds', z⟩ <;> rw [z] at e <;> cases e
  | _ => cases e
theorem viewN (r : Rp C L G v d) (e : res M d = .non) : v = .non := by
  cases r with
  | non => rfl
  | @cell a n h => rcases res_cell M n with z | ⟨ds', z⟩ <;> rw [z] at e <;> cases e
  | _ => cases e
end

/-! ### the evaluators -/
def big : Nat := 1000000
theorem big_line {n : Nat} (h : n ≤ big) : n ≤ sizeLine := Nat.le_trans h (by decide)
theorem big_lt {n : Nat} (h : n ≤ big) : n < sizeLine := Nat.lt_of_le_of_lt h (by decide)
def eVar (i : Nat) : EV := fun e M => match e[i]? with
  | some (some d) => .ok d M
  | _ => .stuck
def eC (d : D) : EV := fun _ M => .ok d M
def eBin (f : D → D → List MO → R D) (ea eb : EV) : EV := fun e M => (ea e M).bind fun x M1 => (eb e M1).bind fun y M2 => f x y M2
def eUn (f : D → List MO → R D) (ea : EV) : EV := fun e M => (ea e M).bind f
def eNil : EA := fun _ M => .ok [] M
def eCons (ea : EV) (er : EA) : EA := fun e M => (ea e M).bind fun x M1 => (er e M1).bind fun xs M2 => .ok (x :: xs) M2
def eArgs (f : List D → List MO → R D) (ea : EA) : EV := fun e M => (ea e M).bind f
def eTest (ea : EV) : EB := fun e M => (ea e M).bind fun x M1 => match x with
  | .bl b => .ok b M1
  | _ => .stuck
def eAnd (ea eb : EB) : EB := fun e M => (ea e M).bind fun b M1 => if b then eb e M1 else .ok false M1
def eOr (ea eb : EB) : EB := fun e M => (ea e M).bind fun b M1 => if b then .ok true M1 else eb e M1
def eNot (ea : EB) : EB := fun e M => (ea e M).bind fun b M1 => .ok (!b) M1
def eAndV (ea eb : EV) : EV := fun e M => (ea e M).bind fun b M1 => match b with
  | .bl true => eb e M1
  | .bl false => .ok (.bl false) M1
  | _ => .stuck
def eOrV (ea eb : EV) : EV := fun e M => (ea e M).bind fun b M1 => match b with
  | .bl false => eb e M1
  | .bl true => .ok (.bl true) M1
  | _ => .stuck
def fNot (b : D) (M1 : List MO) : R D := match b with
  | .bl c => .ok (.bl (!c)) M1
  | _ => .stuck
def eIf (c : EB) (ea eb : EV) : EV := fun e M => (c e M).bind fun b M1 => if b then ea e M1 else eb e M1
def eChain (f g : D → D → List MO → R D) (ea eb ec : EV) : EV := fun e M => (ea e M).bind fun x M1 => (eb e M1).bind fun y M2 => (f x y M2).bind fun z M3 => match z with
  | .bl true => (ec e M3).bind fun w M4 => g y w M4
  | .bl false => .ok (.bl false) M3
  | _ => .stuck

section
variable {X : Cx} {W : WX}
def OpD (X : Cx) (W : WX) (r : R2) (f : D → D → List MO → R D) : Prop := ∀ (x y : V) (dx dy : D) (M : List MO) (F : Hp) (L : List Addr) (G H : Hp) (σ : L2.St) (Q : VK),
  Ok (kx X) F L G M H → Rp (kx X) L G x dx → Rp (kx X) L G y dy → Aft X W F σ (kE X Q) L G (f dx dy M) → r x y H Q
def UnD (X : Cx) (W : WX) (r : V → Hp → VK → Prop) (f : D → List MO → R D) : Prop := ∀ (x : V) (dx : D) (M : List MO) (F : Hp) (L : List Addr) (G H : Hp) (σ : L2.St) (Q : VK),
  Ok (kx X) F L G M H → Rp (kx X) L G x dx → Aft X W F σ (kE X Q) L G (f dx M) → r x H Q
def CallD (X : Cx) (W : WX) (r : List V → Hp → VK → Prop) (f : List D → List MO → R D) : Prop := ∀ (xs : List V) (ds : List D) (M : List MO) (F : Hp) (L : List Addr) (G H : Hp) (σ : L2.St) (Q : VK),
  Ok (kx X) F L G M H → RpL (kx X) L G xs ds → Aft X W F σ (kE X Q) L G (f ds M) → r xs H Q

theorem aok {α : Type} {k : α → List MO → List Addr → Hp → Hp → Prop} {F : Hp} {L : List Addr} {G H : Hp} {σ : L2.St} {d : α} {M : List MO} (h : Aft X W F σ k L G (.ok d M)) (o : Ok (kx X) F L G M H) : k d M L G H := h L G H o (Ext.refl _ _)

theorem pd_var (i : Nat) {x : Str} {pos : Pos} (hN : X.N[i]? = some x := by rfl) (hv : Vis X.env.scope x := by first | exact Or.inl rfl | exact Or.inr (Or.inl rfl) | exact Or.inr (Or.inr rfl)) (hd : (x == ("__debug__" : Str)) = false := by decide)
    (hcd : (x == ("__classdict__" : Str)) = false := by decide) : PD X W (.Name x pos) (eVar i) := by
  refine ⟨_, pe_var hN hv hd hcd, fun F e M σ L G H Q o re h => ?_⟩
  unfold eVar at h
  split at h
  · rename_i d hd
    obtain ⟨v, h1, h2⟩ := re.at' i d hd
    exact ⟨v, h1, aok h o v h2⟩
  · exact h.elim
theorem pd_int {i j pos} : PD X W (.Constant (.int i) j pos) (eC (.int i)) := ⟨_, pe_int, fun F e M σ L G H Q o re h => aok h o _ (.int i)⟩
theorem pd_bl {i j pos} : PD X W (.Constant (.bool i) j pos) (eC (.bl i)) := ⟨_, pe_bl, fun F e M σ L G H Q o re h => aok h o _ (.bl i)⟩
theorem pd_non {j pos} : PD X W (.Constant .none j pos) (eC .non) := ⟨_, pe_non, fun F e M σ L G H Q o re h => aok h o _ .non⟩
theorem pd_str {i j pos} : PD X W (.Constant (.str i) j pos) (eC (.str i)) := ⟨_, pe_str, fun F e M σ L G H Q o re h => aok h o _ (.str i)⟩
theorem pd_globI {x : Str} {i : Int} {t : Tok} {pos : Pos} (hg : Gl X x) (hm : X.mg x = some (.int i t)) (hd : (x == ("__debug__" : Str)) = false := by decide) : PD X W (.Name x pos) (eC (.int i)) :=
  ⟨_, pe_glob (v := .int i) hg hm ⟨t, rfl⟩ hd, fun F e M σ L G H Q o re h => aok h o _ (.int i)⟩
theorem pd_globS {x : Str} {i : Str} {t : Tok} {pos : Pos} (hg : Gl X x) (hm : X.mg x = some (.str i t)) (hd : (x == ("__debug__" : Str)) = false := by decide) : PD X W (.Name x pos) (eC (.str i)) :=
  ⟨_, pe_glob (v := .str i) hg hm ⟨t, rfl⟩ hd, fun F e M σ L G H Q o re h => aok h o _ (.str i)⟩

theorem hoOp {r : R2} {f : D → D → List MO → R D} {ta tb : TE} {ea eb : EV} (hr : OpD X W r f) (ha : HoE X W ta ea) (hb : HoE X W tb eb) : HoE X W (tOp r ta tb) (eBin f ea eb) := by
  intro F e M σ L G H Q o re h
  refine ha F e M σ L G H _ o re ((Aft.bind h).imp fun x M1 L1 G1 H1 o1 x1 h1 v1 r1 => ?_)
  refine hb F e M1 σ L1 G1 H1 _ o1 (re.mono x1) ((Aft.bind h1).imp fun y M2 L2 G2 H2 o2 x2 h2 v2 r2 => ?_)
  exact hr _ _ _ _ M2 F L2 G2 H2 σ Q o2 (r1.mono x2) r2 h2
theorem pd_op {a b : Expr} {pos : Pos} {ea eb : EV} {op : Operator} {r : R2} {f : D → D → List MO → R D} (ho : OpR X (binaryOp op) r) (hr : OpD X W r f) (ha : PD X W a ea) (hb : PD X W b eb) : PD X W (.BinOp a op b pos) (eBin f ea eb) := by
  obtain ⟨ta, pa, qa⟩ := ha
  obtain ⟨tb, pb, qb⟩ := hb
  exact ⟨_, pe_op ho pa pb, hoOp hr qa qb⟩
theorem pd_cmp {a b : Expr} {pos : Pos} {ea eb : EV} {op : CmpOp} {r : R2} {f : D → D → List MO → R D} (ho : OpR X (compareOp op) r) (hr : OpD X W r f) (ha : PD X W a ea) (hb : PD X W b eb) (hm : behindInMarks op b = false) : PD X W (.Compare a [op] [b] pos) (eBin f ea eb) := by
  obtain ⟨ta, pa, qa⟩ := ha
  obtain ⟨tb, pb, qb⟩ := hb
  exact ⟨_, pe_cmpR ho pa pb hm, hoOp hr qa qb⟩
theorem hoTest {t : TE} {ev : EV} (h : HoE X W t ev) : HoB X W (tTest t) (eTest ev) := by
  intro F e M σ L G H Q o re q
  refine h F e M σ L G H _ o re ((Aft.bind q).imp fun x M1 L1 G1 H1 o1 x1 h1 v1 r1 => ?_)
  cases r1 with
  | bl b => exact ⟨b, rfl, aok h1 o1⟩
  | _ => exact h1.elim
theorem pb_cmp {a b : Expr} {pos : Pos} {ea eb : EV} {op : CmpOp} {r : R2} {f : D → D → List MO → R D} (ho : OpR X (compareOp op) r) (hr : OpD X W r f) (ha : PD X W a ea) (hb : PD X W b eb) (hm : behindInMarks op b = false) : PB X W (.Compare a [op] [b] pos) (eTest (eBin f ea eb)) := by
  obtain ⟨ta, pa, qa⟩ := ha
  obtain ⟨tb, pb, qb⟩ := hb
  exact ⟨_, pt_cmpR ho pa pb hm, hoTest (hoOp hr qa qb)⟩
theorem hoChain {r r' : R2} {f g : D → D → List MO → R D} {ta tb tc : TE} {ea eb ec : EV} (hr : OpD X W r f) (hr' : OpD X W r' g) (ha : HoE X W ta ea) (hb : HoE X W tb eb) (hc : HoE X W tc ec) : HoE X W (tChain r r' ta tb tc) (eChain f g ea eb ec) := by
  intro F e M σ L G H Q o re h
  refine ha F e M σ L G H _ o re ((Aft.bind h).imp fun x M1 L1 G1 H1 o1 x1 h1 v1 r1 => ?_)
  refine hb F e M1 σ L1 G1 H1 _ o1 (re.mono x1) ((Aft.bind h1).imp fun y M2 L2 G2 H2 o2 x2 h2 v2 r2 => ?_)
  refine hr _ _ _ _ M2 F L2 G2 H2 σ _ o2 (r1.mono x2) r2 ((Aft.bind h2).imp fun z M3 L3 G3 H3 o3 x3 h3 v3 r3 => ?_)
  cases r3 with
  | bl b =>
    refine ⟨b, rfl, ?_⟩
    cases b with
    | false => (try dsimp only [kB]); rw [if_neg Bool.false_ne_true]; exact aok h3 o3 _ (.bl false)
    | true =>
      rw [if_pos rfl]
      refine (hc F e M3 σ L3 G3 H3 _ o3 (((re.mono x1).mono x2).mono x3) ((Aft.bind h3).imp fun w M4 L4 G4 H4 o4 x4 h4 v4 r4 => ?_))
      exact hr' _ _ _ _ M4 F L4 G4 H4 σ Q o4 ((r2.mono x3).mono x4) r4 h4
  | _ => exact h3.elim
theorem pd_chain {a b c : Expr} {pos : Pos} {ea eb ec : EV} {op op' : CmpOp} {r r' : R2} {f g : D → D → List MO → R D} (ho : OpR X (compareOp op) r) (hr : OpD X W r f) (ho' : OpR X (compareOp op') r') (hr' : OpD X W r' g) (ha : PD X W a ea) (hb : PD X W b eb) (hc : PD X W c ec)
    (hm : lastMarks [op, op'] [b, c] = false := by with_unfolding_all rfl) : PD X W (.Compare a [op, op'] [b, c] pos) (eChain f g ea eb ec) := by
  obtain ⟨ta, pa, qa⟩ := ha
  obtain ⟨tb, pb, qb⟩ := hb
  obtain ⟨tc, pc, qc⟩ := hc
  exact ⟨_, pe_chain ho ho' pa pb pc hm, hoChain hr hr' qa qb qc⟩
theorem pb_chain {a b c : Expr} {pos : Pos} {ea eb ec : EV} {op op' : CmpOp} {r r' : R2} {f g : D → D → List MO → R D} (ho : OpR X (compareOp op) r) (hr : OpD X W r f) (ho' : OpR X (compareOp op') r') (hr' : OpD X W r' g) (ha : PD X W a ea) (hb : PD X W b eb) (hc : PD X W c ec)
    (hm : lastMarks [op, op'] [b, c] = false := by with_unfolding_all rfl) : PB X W (.Compare a [op, op'] [b, c] pos) (eTest (eChain f g ea eb ec)) := by
  obtain ⟨ta, pa, qa⟩ := ha
  obtain ⟨tb, pb, qb⟩ := hb
  obtain ⟨tc, pc, qc⟩ := hc
  exact ⟨_, pt_chain ho ho' pa pb pc hm, hoTest (hoChain hr hr' qa qb qc)⟩
theorem pd_un {a : Expr} {pos : Pos} {ea : EV} {op : UnaryOp} {r : V → Hp → VK → Prop} {f : D → List MO → R D} (ho : UnR X (unaryOp op) r) (hr : UnD X W r f) (ha : PD X W a ea) : PD X W (.UnaryOp op a pos) (eUn f ea) := by
  obtain ⟨ta, pa, qa⟩ := ha
  refine ⟨_, pe_un ho pa, fun F e M σ L G H Q o re h => ?_⟩
  exact qa F e M σ L G H _ o re ((Aft.bind h).imp fun x M1 L1 G1 H1 o1 x1 h1 v1 r1 => hr _ _ M1 F L1 G1 H1 σ Q o1 r1 h1)
/-! tests -/
theorem pb_val {e : Expr} {ev : EV} (h : PD X W e ev) (he : ∀ whole, isTrue e X.env whole = (do let v ← whole; standAt e.pos; holding [v] (truthy v)) := by intro _; rfl) : PB X W e (eTest ev) := by
  obtain ⟨t, p, q⟩ := h
  exact ⟨_, pt_val p he, hoTest q⟩
theorem pw_and1' {a : Expr} {pos : Pos} {ea : EB} (ha : PB X W a ea) : PWD X W (.BoolOp .And [a] pos) ea := by
  obtain ⟨t, p, q⟩ := ha
  exact ⟨_, pw_and1 p, q⟩
theorem pw_or1' {a : Expr} {pos : Pos} {ea : EB} (ha : PB X W a ea) : PWD X W (.BoolOp .Or [a] pos) ea := by
  obtain ⟨t, p, q⟩ := ha
  exact ⟨_, pw_or1 p, q⟩
theorem pw_and' {a b : Expr} {rest : List Expr} {pos : Pos} {ea eb : EB} (ha : PB X W a ea) (hb : PWD X W (.BoolOp .And (b :: rest) pos) eb) : PWD X W (.BoolOp .And (a :: b :: rest) pos) (eAnd ea eb) := by
  obtain ⟨ta, pa, qa⟩ := ha
  obtain ⟨tb, pb, qb⟩ := hb
  refine ⟨_, pw_and pa pb, fun F e M σ L G H Q o re h => ?_⟩
  refine qa F e M σ L G H _ o re ((Aft.bind h).imp fun x M1 L1 G1 H1 o1 x1 h1 => ?_)
  cases x with
  | true => (try dsimp only [kB]); rw [if_pos rfl]; exact qb F e M1 σ L1 G1 H1 _ o1 (re.mono x1) h1
  | false => (try dsimp only [kB]); rw [if_neg Bool.false_ne_true]; exact aok h1 o1
theorem pw_or' {a b : Expr} {rest : List Expr} {pos : Pos} {ea eb : EB} (ha : PB X W a ea) (hb : PWD X W (.BoolOp .Or (b :: rest) pos) eb) : PWD X W (.BoolOp .Or (a :: b :: rest) pos) (eOr ea eb) := by
  obtain ⟨ta, pa, qa⟩ := ha
  obtain ⟨tb, pb, qb⟩ := hb
  refine ⟨_, pw_or pa pb, fun F e M σ L G H Q o re h => ?_⟩
  refine qa F e M σ L G H _ o re ((Aft.bind h).imp fun x M1 L1 G1 H1 o1 x1 h1 => ?_)
  cases x with
  | false => (try dsimp only [kB]); rw [if_neg Bool.false_ne_true]; exact qb F e M1 σ L1 G1 H1 _ o1 (re.mono x1) h1
  | true => (try dsimp only [kB]); rw [if_pos rfl]; exact aok h1 o1
theorem PWD.pb {e : Expr} {ev : EB} (h : PWD X W e ev) : PB X W e ev := by
  obtain ⟨t, p, q⟩ := h
  exact ⟨t, p.pt, q⟩
theorem pb_not {a : Expr} {pos : Pos} {ea : EB} (ha : PB X W a ea) : PB X W (.UnaryOp .Not a pos) (eNot ea) := by
  obtain ⟨ta, pa, qa⟩ := ha
  refine ⟨_, pt_not pa, fun F e M σ L G H Q o re h => ?_⟩
  exact qa F e M σ L G H _ o re ((Aft.bind h).imp fun x M1 L1 G1 H1 o1 x1 (h1 : Aft X W F σ (kB Q) L1 G1 (.ok (!x) M1)) => (aok h1 o1 : kB Q (!x) M1 L1 G1 H1))
theorem pd_one {op} {a : Expr} {pos : Pos} {ea : EV} (ha : PD X W a ea) : PD X W (.BoolOp op [a] pos) ea := by
  obtain ⟨t, p, q⟩ := ha
  exact ⟨_, pe_one p, q⟩
theorem pd_and {a b : Expr} {rest : List Expr} {pos : Pos} {ea eb : EV} (ha : PD X W a ea) (hb : PD X W (.BoolOp .And (b :: rest) pos) eb) : PD X W (.BoolOp .And (a :: b :: rest) pos) (eAndV ea eb) := by
  obtain ⟨ta, pa, qa⟩ := ha
  obtain ⟨tb, pb, qb⟩ := hb
  refine ⟨_, pe_and pa pb, fun F e M σ L G H Q o re h => ?_⟩
  refine qa F e M σ L G H _ o re ((Aft.bind h).imp fun x M1 L1 G1 H1 o1 x1 h1 v1 r1 => ?_)
  cases r1 with
  | bl c =>
    refine ⟨c, rfl, ?_⟩
    cases c with
    | true => (try dsimp only [kB]); rw [if_pos rfl]; exact qb F e M1 σ L1 G1 H1 _ o1 (re.mono x1) h1
    | false => (try dsimp only [kB]); rw [if_neg Bool.false_ne_true]; exact aok h1 o1 _ (.bl false)
  | _ => exact h1.elim
theorem pd_or {a b : Expr} {rest : List Expr} {pos : Pos} {ea eb : EV} (ha : PD X W a ea) (hb : PD X W (.BoolOp .Or (b :: rest) pos) eb) : PD X W (.BoolOp .Or (a :: b :: rest) pos) (eOrV ea eb) := by
  obtain ⟨ta, pa, qa⟩ := ha
  obtain ⟨tb, pb, qb⟩ := hb
  refine ⟨_, pe_or pa pb, fun F e M σ L G H Q o re h => ?_⟩
  refine qa F e M σ L G H _ o re ((Aft.bind h).imp fun x M1 L1 G1 H1 o1 x1 h1 v1 r1 => ?_)
  cases r1 with
  | bl c =>
    refine ⟨c, rfl, ?_⟩
    cases c with
    | false => (try dsimp only [kB]); rw [if_neg Bool.false_ne_true]; exact qb F e M1 σ L1 G1 H1 _ o1 (re.mono x1) h1
    | true => (try dsimp only [kB]); rw [if_pos rfl]; exact aok h1 o1 _ (.bl true)
  | _ => exact h1.elim
theorem pd_not {a : Expr} {pos : Pos} {ea : EV} (ha : PD X W a ea) : PD X W (.UnaryOp .Not a pos) (eUn fNot ea) := by
  obtain ⟨ta, pa, qa⟩ := ha
  refine ⟨_, pe_not pa, fun F e M σ L G H Q o re h => ?_⟩
  refine qa F e M σ L G H _ o re ((Aft.bind h).imp fun x M1 L1 G1 H1 o1 x1 h1 v1 r1 => ?_)
  cases r1 with
  | bl c => exact ⟨c, rfl, aok h1 o1 _ (.bl _)⟩
  | _ => exact h1.elim
theorem pd_if {c a b : Expr} {pos : Pos} {ec : EB} {ea eb : EV} (hc : PB X W c ec) (ha : PD X W a ea) (hb : PD X W b eb) : PD X W (.IfExp c a b pos) (eIf ec ea eb) := by
  obtain ⟨tc, pc, qc⟩ := hc
  obtain ⟨ta, pa, qa⟩ := ha
  obtain ⟨tb, pb, qb⟩ := hb
  refine ⟨_, pe_ifExp pc pa pb, fun F e M σ L G H Q o re h => ?_⟩
  refine qc F e M σ L G H _ o re ((Aft.bind h).imp fun x M1 L1 G1 H1 o1 x1 h1 => ?_)
  cases x with
  | true => (try dsimp only [kB]); rw [if_pos rfl]; exact qa F e M1 σ L1 G1 H1 _ o1 (re.mono x1) h1
  | false => (try dsimp only [kB]); rw [if_neg Bool.false_ne_true]; exact qb F e M1 σ L1 G1 H1 _ o1 (re.mono x1) h1
/-! arguments, displays -/
theorem pad_nil : PAD X W [] eNil := ⟨_, pa_nil, fun F e M σ L G H Q o re h => aok h o _ .nil⟩
theorem pad_cons {a : Expr} {es : List Expr} {ea : EV} {er : EA} (ha : PD X W a ea) (hr : PAD X W es er) (hs : starEach (a :: es) X.env = (false, eval a X.env) :: starEach es X.env := by rfl) : PAD X W (a :: es) (eCons ea er) := by
  obtain ⟨ta, pa, qa⟩ := ha
  obtain ⟨tr, pr, qr⟩ := hr
  refine ⟨_, pa_cons pa pr hs, fun F e M σ L G H Q o re h => ?_⟩
  refine qa F e M σ L G H _ o re ((Aft.bind h).imp fun x M1 L1 G1 H1 o1 x1 h1 v1 r1 => ?_)
  refine qr F e M1 σ L1 G1 H1 _ o1 (re.mono x1) ((Aft.bind h1).imp fun y M2 L2 G2 H2 o2 x2 h2 v2 r2 => ?_)
  exact aok h2 o2 _ (.cons (r1.mono x2) r2)
def fTup (ds : List D) (M : List MO) : R D := if ds.length ≤ big then .ok (.tup ds) M else .stuck
def fLst (ds : List D) (M : List MO) : R D := if ds.length ≤ big then .ok (.lst ds) M else .stuck
def fCell (ds : List D) (M : List MO) : R D := if ds.length ≤ big then .ok (.cell M.length) (M ++ [.lst ds]) else .stuck
theorem newT {F : Hp} {L : List Addr} {G H : Hp} {M : List MO} {σ : L2.St} {Q : VK} {vs : List V} {ds : List D} (o : Ok (kx X) F L G M H) (r : RpL (kx X) L G vs ds) (h : Aft X W F σ (kE X Q) L G (.ok (.tup ds) M)) (p : Addr) (hp : H p = none) : Q (.ref p) (upd H p (.tup vs)) := by
  obtain ⟨o', e'⟩ := o.lay (u := .tup vs) hp
  exact h L _ _ o' e' _ (.tup (.inl (.inl upd_same)) (r.mono e'))
theorem newL {F : Hp} {L : List Addr} {G H : Hp} {M : List MO} {σ : L2.St} {Q : VK} {vs : List V} {ds : List D} (o : Ok (kx X) F L G M H) (r : RpL (kx X) L G vs ds) (h : Aft X W F σ (kE X Q) L G (.ok (.lst ds) M)) (p : Addr) (hp : H p = none) : Q (.ref p) (upd H p (.lst vs)) := by
  obtain ⟨o', e'⟩ := o.lay (u := .lst vs) hp
  exact h L _ _ o' e' _ (.lst upd_same (r.mono e'))
theorem newC {F : Hp} {L : List Addr} {G H : Hp} {M : List MO} {σ : L2.St} {Q : VK} {vs : List V} {ds : List D} (o : Ok (kx X) F L G M H) (r : RpL (kx X) L G vs ds) (h : Aft X W F σ (kE X Q) L G (.ok (.cell M.length) (M ++ [.lst ds]))) (p : Addr) (hp : H p = none) : Q (.ref p) (upd H p (.lst vs)) := by
  obtain ⟨o', e', r'⟩ := o.cellNew hp r
  exact h _ _ _ o' e' _ r'
theorem pd_tup {es : List Expr} {x1 : Nat} {pos : Pos} {ea : EA} (ha : PAD X W es ea) : PD X W (.Tuple es x1 pos) (eArgs fTup ea) := by
  obtain ⟨ta, pa, qa⟩ := ha
  refine ⟨_, pe_tup pa, fun F e M σ L G H Q o re h => ?_⟩
  refine qa F e M σ L G H _ o re ((Aft.bind h).imp fun x M1 L1 G1 H1 o1 x1 h1 vs r1 => ?_)
  unfold fTup at h1
  split at h1
  · exact ⟨by rw [r1.length]; exact big_line (by assumption), newT o1 r1 h1⟩
  · exact h1.elim
theorem pd_lst {es : List Expr} {pos : Pos} {ea : EA} (ha : PAD X W es ea) : PD X W (.List es pos) (eArgs fLst ea) := by
  obtain ⟨ta, pa, qa⟩ := ha
  refine ⟨_, pe_lst pa, fun F e M σ L G H Q o re h => ?_⟩
  refine qa F e M σ L G H _ o re ((Aft.bind h).imp fun x M1 L1 G1 H1 o1 x1 h1 vs r1 => ?_)
  unfold fLst at h1
  split at h1
  · exact ⟨by rw [r1.length]; exact big_line (by assumption), newL o1 r1 h1⟩
  · exact h1.elim
theorem pd_lstC {es : List Expr} {pos : Pos} {ea : EA} (ha : PAD X W es ea) : PD X W (.List es pos) (eArgs fCell ea) := by
  obtain ⟨ta, pa, qa⟩ := ha
  refine ⟨_, pe_lst pa, fun F e M σ L G H Q o re h => ?_⟩
  refine qa F e M σ L G H _ o re ((Aft.bind h).imp fun x M1 L1 G1 H1 o1 x1 h1 vs r1 => ?_)
  unfold fCell at h1
  split at h1
  · exact ⟨by rw [r1.length]; exact big_line (by assumption), newC o1 r1 h1⟩
  · exact h1.elim
/-! calls of builtins by name -/
theorem pd_callB {x : Str} {id : String} {r : List V → Hp → VK → Prop} {f : List D → List MO → R D} {a : Expr} {es : List Expr} {p pos : Pos} {ea : EA} (hc : CallR X (.builtin id) r) (hr : CallD X W r f) (hg : Gl X x) (hm : X.mg x = none) (hv : bootBuiltins x = some (.builtin id)) (ha : PAD X W (a :: es) ea)
    (hn : x ≠ "__name__" := by decide) (hdb : (x == ("__debug__" : Str)) = false := by decide) (hs : starEach (a :: es) X.env = (false, eval a X.env) :: starEach es X.env := by rfl) (hplain : (backTo pos (starEach es X.env)).any (·.1) = false := by rfl) : PD X W (.Call (.Name x p) (a :: es) [] pos) (eArgs f ea) := by
  obtain ⟨ta, pa, qa⟩ := ha
  refine ⟨_, pe_callB hc hg hm hv pa hn hdb hs hplain, fun F e M σ L G H Q o re h => ?_⟩
  exact qa F e M σ L G H _ o re ((Aft.bind h).imp fun x M1 L1 G1 H1 o1 x1 h1 vs r1 => hr _ _ M1 F L1 G1 H1 σ Q o1 r1 h1)
end
end KB
namespace KB
open PySem PySem.Spec PyProof.Rows L2

/-! ### statements -/
def R.toS {α : Type} (r : R α) (e : EN) (k : α → List MO → RS) : RS := match r with
  | .ok a M => k a M
  | .exc c M => .exc c e M
  | .stuck => .stuck
@[simp] theorem R.toS_ok {α : Type} (a : α) (M : List MO) (e : EN) (k : α → List MO → RS) : (R.ok a M).toS e k = k a M := rfl
@[simp] theorem R.toS_exc {α : Type} (c : Str) (M : List MO) (e : EN) (k : α → List MO → RS) : (R.exc c M : R α).toS e k = .exc c e M := rfl
@[simp] theorem R.toS_stuck {α : Type} (e : EN) (k : α → List MO → RS) : (R.stuck : R α).toS e k = .stuck := rfl
def RS.bind (r : RS) (k : EN → List MO → RS) : RS := match r with
  | .nx e M => k e M
  | .ret d M => .ret d M
  | .brk e M => .brk e M
  | .cnt e M => .cnt e M
  | .exc c e M => .exc c e M
  | .stuck => .stuck
@[simp] theorem RS.bind_nx (e : EN) (M : List MO) (k : EN → List MO → RS) : (RS.nx e M).bind k = k e M := rfl
@[simp] theorem RS.bind_ret (d : D) (M : List MO) (k : EN → List MO → RS) : (RS.ret d M).bind k = .ret d M := rfl
@[simp] theorem RS.bind_brk (e : EN) (M : List MO) (k : EN → List MO → RS) : (RS.brk e M).bind k = .brk e M := rfl
@[simp] theorem RS.bind_cnt (e : EN) (M : List MO) (k : EN → List MO → RS) : (RS.cnt e M).bind k = .cnt e M := rfl
@[simp] theorem RS.bind_exc (c : Str) (e : EN) (M : List MO) (k : EN → List MO → RS) : (RS.exc c e M).bind k = .exc c e M := rfl
@[simp] theorem RS.bind_stuck (k : EN → List MO → RS) : (RS.stuck).bind k = .stuck := rfl
/-- behind a loop's body: go on, or leave -/
def RS.turn (r : RS) (k : EN → List MO → RS) : RS := match r with
  | .nx e M => k e M
  | .ret d M => .ret d M
  | .brk e M => .nx e M
  | .cnt e M => k e M
  | .exc c e M => .exc c e M
  | .stuck => .stuck
@[simp] theorem RS.turn_nx (e : EN) (M : List MO) (k : EN → List MO → RS) : (RS.nx e M).turn k = k e M := rfl
@[simp] theorem RS.turn_ret (d : D) (M : List MO) (k : EN → List MO → RS) : (RS.ret d M).turn k = .ret d M := rfl
@[simp] theorem RS.turn_brk (e : EN) (M : List MO) (k : EN → List MO → RS) : (RS.brk e M).turn k = .nx e M := rfl
@[simp] theorem RS.turn_cnt (e : EN) (M : List MO) (k : EN → List MO → RS) : (RS.cnt e M).turn k = k e M := rfl
@[simp] theorem RS.turn_exc (c : Str) (e : EN) (M : List MO) (k : EN → List MO → RS) : (RS.exc c e M).turn k = .exc c e M := rfl
@[simp] theorem RS.turn_stuck (k : EN → List MO → RS) : (RS.stuck).turn k = .stuck := rfl

def sNil : SV := fun e M => .nx e M
def sSeq (a b : SV) : SV := fun e M => (a e M).bind b
def sExpr (ev : EV) : SV := fun e M => (ev e M).toS e fun _ M1 => .nx e M1
def sRet (ev : EV) : SV := fun e M => (ev e M).toS e fun d M1 => .ret d M1
def sRetN : SV := fun _ M => .ret .non M
def sSet (i : Nat) (ev : EV) : SV := fun e M => (ev e M).toS e fun d M1 => .nx (e.set i (some d)) M1
def sIf (c : EB) (a b : SV) : SV := fun e M => (c e M).toS e fun k M1 => if k then a e M1 else b e M1
def sBrk : SV := fun e M => .brk e M
def sCnt : SV := fun e M => .cnt e M
def sNever : SV := fun _ _ => .stuck
abbrev GV := D → EN → Option EN
def gN (i : Nat) : GV := fun d e => some (e.set i (some d))
def setAll : List Nat → List D → EN → Option EN
  | [], [], e => some e
  | i :: is, d :: ds, e => setAll is ds (e.set i (some d))
  | _, _, _ => none
def gT (is : List Nat) : GV := fun d e => match d with
  | .tup ds => setAll is ds e
  | _ => none
def sAsg (g : GV) (ev : EV) : SV := fun e M => (ev e M).toS e fun d M1 => match g d e with
  | some e1 => .nx e1 M1
  | none => .stuck
def sPar (i j : Nat) (ea : EA) : SV := fun e M => (ea e M).toS e fun ds M1 => match ds with
  | [a, b] => .nx ((e.set i (some a)).set j (some b)) M1
  | _ => .stuck
def sPar3 (i j l : Nat) (ea : EA) : SV := fun e M => (ea e M).toS e fun ds M1 => match ds with
  | [a, b, c] => .nx (((e.set i (some a)).set j (some b)).set l (some c)) M1
  | _ => .stuck
def sAug (i : Nat) (f : D → D → List MO → R D) (ev : EV) : SV := fun e M => (eVar i e M).toS e fun x M1 => (ev e M1).toS e fun y M2 => (f x y M2).toS e fun z M3 => .nx (e.set i (some z)) M3
def fuel : Nat := 2000
def whileN (c : EB) (b : SV) : Nat → EN → List MO → RS
  | 0, _, _ => .stuck
  | n + 1, e, M => (c e M).toS e fun k M1 => if k then (b e M1).turn (whileN c b n) else .nx e M1
def sWhile (c : EB) (b : SV) : SV := fun e M => whileN c b fuel e M
def forL (g : GV) (b : SV) : List D → EN → List MO → RS
  | [], e, M => .nx e M
  | d :: ds, e, M => match g d e with
    | some e1 => (b e1 M).turn (forL g b ds)
    | none => .stuck

section
variable {X : Cx} {W : WX} {F : Hp} {L : List Addr} {G H : Hp} {σ : L2.St} {e : EN} {Dn : Ends}
theorem AftS.toS {α : Type} {r : R α} {k : α → List MO → RS} (h : AftS X W F L G Dn (r.toS e k)) (re : RpE (kx X) L G σ e) : Aft X W F σ (fun a M1 L1 G1 _ => AftS X W F L1 G1 Dn (k a M1)) L G r := by
  cases r with
  | ok a M => exact fun L1 G1 H1 o x => AftS.mono h x
  | exc c M => exact fun L1 G1 H1 u o x q => h σ L1 G1 H1 u o x (re.mono x) q
  | stuck => exact h.elim
theorem AftS.bind {r : RS} {k : EN → List MO → RS} {nx : L2.St → Hp → Prop} (h : AftS X W F L G Dn (r.bind k))
    (hn : ∀ e1 M1 σ1 L1 G1 H1, Ok (kx X) F L1 G1 M1 H1 → Ext L G L1 G1 → RpE (kx X) L1 G1 σ1 e1 → AftS X W F L1 G1 Dn (k e1 M1) → nx σ1 H1) : AftS X W F L G { Dn with nx := nx } r := by
  cases r with
  | nx e M => exact fun σ1 L1 G1 H1 o x re => hn e M σ1 L1 G1 H1 o x re (AftS.mono h x)
  | ret d M => exact h
  | brk e M => exact h
  | cnt e M => exact h
  | exc c e M => exact h
  | stuck => exact h.elim
theorem psd_nil : PSsD X W [] sNil := ⟨_, pss_nil, fun F e M σ L G H Dn o re h => h σ L G H o (Ext.refl _ _) re⟩
theorem psd_cons {st : Stmt} {rest : List Stmt} {a b : SV} (ha : PSD X W st a) (hb : PSsD X W rest b) : PSsD X W (st :: rest) (sSeq a b) := by
  obtain ⟨ta, pa, qa⟩ := ha
  obtain ⟨tb, pb, qb⟩ := hb
  refine ⟨_, pss_cons pa pb, fun F e M σ L G H Dn o re h => ?_⟩
  exact qa F e M σ L G H _ o re (AftS.bind h fun e1 M1 σ1 L1 G1 H1 o1 x1 re1 h1 => qb F e1 M1 σ1 L1 G1 H1 Dn o1 re1 h1)
theorem psd_one {st : Stmt} {a : SV} (ha : PSD X W st a) : PSsD X W [st] a := by
  obtain ⟨ta, pa, qa⟩ := ha
  exact ⟨_, pss_one pa, qa⟩
theorem psd_pass {pos : Pos} : PSD X W (.Pass pos) sNil := ⟨_, ps_pass, fun F e M σ L G H Dn o re h => h σ L G H o (Ext.refl _ _) re⟩
theorem psd_brk {pos : Pos} : PSD X W (.Break pos) sBrk := ⟨_, ps_break, fun F e M σ L G H Dn o re h => h σ L G H o (Ext.refl _ _) re⟩
theorem psd_cnt {pos : Pos} : PSD X W (.Continue pos) sCnt := ⟨_, ps_continue, fun F e M σ L G H Dn o re h => h σ L G H o (Ext.refl _ _) re⟩
theorem psd_never {st : Stmt} : PSD X W st sNever := ⟨_, ps_never, fun F e M σ L G H Dn o re h => h.elim⟩
theorem pssd_never {st : List Stmt} : PSsD X W st sNever := ⟨_, pss_never, fun F e M σ L G H Dn o re h => h.elim⟩
theorem psd_expr {ex : Expr} {pos : Pos} {ev : EV} (h : PD X W ex ev) (hs : swapsWith ex none pos.line X.env = pure false := by rfl) : PSD X W (.Expr ex pos) (sExpr ev) := by
  obtain ⟨t, p, q⟩ := h
  refine ⟨_, ps_expr p hs, fun F e M σ L G H Dn o re h => ?_⟩
  exact q F e M σ L G H _ o re ((AftS.toS h re).imp fun d M1 L1 G1 H1 o1 x1 h1 v r => h1 σ L1 G1 H1 o1 (Ext.refl _ _) (re.mono x1))
theorem psd_ret {ex : Expr} {pos : Pos} {ev : EV} (h : PD X W ex ev) : PSD X W (.Return (some ex) pos) (sRet ev) := by
  obtain ⟨t, p, q⟩ := h
  refine ⟨_, ps_ret p, fun F e M σ L G H Dn o re h => ?_⟩
  exact q F e M σ L G H _ o re ((AftS.toS h re).imp fun d M1 L1 G1 H1 o1 x1 h1 v r => h1 v L1 G1 H1 o1 (Ext.refl _ _) r)
theorem psd_retN {pos : Pos} : PSD X W (.Return none pos) sRetN := ⟨_, ps_retN, fun F e M σ L G H Dn o re h => h _ L G H o (Ext.refl _ _) .non⟩
theorem psd_set {i : Nat} {x : Str} {ex : Expr} {ev : EV} {pos pos' : Pos} (h : PD X W ex ev) (hN : X.N.Nodup) (hi : X.N[i]? = some x := by rfl) (hx : Loc X.env.scope x := by first | exact Or.inl rfl | exact Or.inr rfl) (hs : swapsWith ex (some (.Name x pos')) pos.line X.env = pure false := by rfl)
    (hf : X.fn x = true ∨ X.env.scope.names.lookup x = some .local := by first | exact .inl rfl | exact .inr rfl | assumption) : PSD X W (.Assign [.Name x pos'] ex pos) (sSet i ev) := by
  obtain ⟨t, p, q⟩ := h
  refine ⟨_, ps_set hN hi hx p hs hf, fun F e M σ L G H Dn o re h => ?_⟩
  exact q F e M σ L G H _ o re ((AftS.toS h re).imp fun d M1 L1 G1 H1 o1 x1 h1 v r => h1 _ L1 G1 H1 o1 (Ext.refl _ _) ((re.mono x1).set r))
theorem psd_if {c : Expr} {a b : List Stmt} {pos : Pos} {ec : EB} {sa sb : SV} (hc : PB X W c ec) (ha : PSsD X W a sa) (hb : PSsD X W b sb) : PSD X W (.If c a b pos) (sIf ec sa sb) := by
  obtain ⟨tc, pc, qc⟩ := hc
  obtain ⟨ta, pa, qa⟩ := ha
  obtain ⟨tb, pb, qb⟩ := hb
  refine ⟨_, ps_if pc pa pb, fun F e M σ L G H Dn o re h => ?_⟩
  refine qc F e M σ L G H _ o re ((AftS.toS h re).imp fun k M1 L1 G1 H1 o1 x1 h1 => ?_)
  dsimp only [kB]
  cases k with
  | true => rw [if_pos rfl]; exact qa F e M1 σ L1 G1 H1 Dn o1 (re.mono x1) h1
  | false => rw [if_neg Bool.false_ne_true]; exact qb F e M1 σ L1 G1 H1 Dn o1 (re.mono x1) h1
/-! targets -/
structure Upd (is : List Nat) (σ σ' : L2.St) : Prop where
  len : σ'.length = σ.length
  out : ∀ (i : Nat), i ∉ is → σ'[i]? = σ[i]?
theorem Upd.refl (σ : L2.St) : Upd [] σ σ := ⟨rfl, fun _ _ => rfl⟩
theorem Upd.one (i : Nat) (v : Option V) (σ : L2.St) : Upd [i] σ (σ.set i v) := ⟨by simp, fun j hj => by rw [List.getElem?_set_ne (fun z => hj (by simp [z]))]⟩
theorem Upd.trans {is js : List Nat} {σ σ1 σ2 : L2.St} (a : Upd is σ σ1) (b : Upd js σ1 σ2) : Upd (is ++ js) σ σ2 :=
  ⟨b.len.trans a.len, fun i hi => by rw [b.out i (fun z => hi (List.mem_append_right _ z)), a.out i (fun z => hi (List.mem_append_left _ z))]⟩
def PGD (X : Cx) (tg : Expr) (is : List Nat) (g : GV) : Prop := ∃ t, PG X tg t ∧ ∀ (F : Hp) (v : V) (d : D) (e e' : EN) (M : List MO) (σ : L2.St) (L : List Addr) (G H : Hp) (Q : L2.St → Hp → Prop),
  Ok (kx X) F L G M H → RpE (kx X) L G σ e → Rp (kx X) L G v d → g d e = some e' → (∀ σ', RpE (kx X) L G σ' e' → Upd is σ σ' → Q σ' H) → t v σ H Q
def PGsD (X : Cx) (tgs : List Expr) (is : List Nat) : Prop := ∃ t, PGs X tgs t ∧ ∀ (vs : List V) (ds : List D) (e e' : EN) (σ : L2.St) (L : List Addr) (G H : Hp) (Q : L2.St → Hp → Prop),
  RpE (kx X) L G σ e → RpL (kx X) L G vs ds → setAll is ds e = some e' → (∀ σ', RpE (kx X) L G σ' e' → Upd is σ σ' → Q σ' H) → t vs σ H Q
theorem pgd_name {x : Str} {pos : Pos} (i : Nat) (hN : X.N.Nodup) (hi : X.N[i]? = some x := by rfl) (hx : Loc X.env.scope x := by first | exact Or.inl rfl | exact Or.inr rfl)
    (hf : X.fn x = true ∨ X.env.scope.names.lookup x = some .local := by first | exact .inl rfl | exact .inr rfl | assumption) : PGD X (.Name x pos) [i] (gN i) := by
  refine ⟨_, pg_name hN hi hx hf, fun F v d e e' M σ L G H Q o re r hg q => ?_⟩
  unfold gN at hg
  cases hg
  exact q _ (re.set r) (Upd.one i _ σ)
theorem pgsd_nil : PGsD X [] [] := by
  refine ⟨_, pgs_nil, fun vs ds e e' σ L G H Q re r hg q => ?_⟩
  cases ds with
  | nil => cases r; cases hg; exact ⟨rfl, q _ re (Upd.refl σ)⟩
  | cons d ds => cases hg
theorem pgsd_cons {x : Str} {pos : Pos} {es : List Expr} {is : List Nat} (i : Nat) (hN : X.N.Nodup) (hr : PGsD X es is) (hi : X.N[i]? = some x := by rfl) (hx : Loc X.env.scope x := by first | exact Or.inl rfl | exact Or.inr rfl)
    (hf : X.fn x = true ∨ X.env.scope.names.lookup x = some .local := by first | exact .inl rfl | exact .inr rfl | assumption)
    (hs : (assignEach (.Name x pos :: es) X.env).map (·.2) = assign (.Name x pos) X.env :: (assignEach es X.env).map (·.2) := by rfl) : PGsD X (.Name x pos :: es) (i :: is) := by
  obtain ⟨t, p, q⟩ := hr
  refine ⟨_, pgs_cons (pg_name hN hi hx hf) p hs, fun vs ds e e' σ L G H Q re r hg k => ?_⟩
  cases ds with
  | nil => cases hg
  | cons d ds =>
    cases r with
    | cons r1 r2 => exact ⟨_, _, rfl, q _ _ _ _ _ L G H _ (re.set r1) r2 hg fun σ' re' u => k σ' re' ((Upd.one i _ σ).trans u)⟩
theorem pgd_tup {es : List Expr} {k : Nat} {pos : Pos} {is : List Nat} (hc : X.calm = true) (h : PGsD X es is) (hn : (assignEach es X.env).length = is.length := by rfl) (hst : (assignEach es X.env).findIdx? (·.1) = none := by rfl) : PGD X (.Tuple es k pos) is (gT is) := by
  obtain ⟨t, p, q⟩ := h
  refine ⟨_, pg_tup (n := is.length) hc p hn hst, fun F v d e e' M σ L G H Q o re r hg k => ?_⟩
  unfold gT at hg
  cases r with
  | @tup a vs ds h1 h2 =>
    have hl : ∀ (is : List Nat) (ds : List D) (e : EN), setAll is ds e = some e' → ds.length = is.length := by
      intro is
      induction is with
      | nil => intro ds e h; cases ds with
        | nil => rfl
        | cons _ _ => cases h
      | cons i is ih => intro ds e h; cases ds with
        | nil => cases h
        | cons d ds => simp [ih ds _ h]
    exact ⟨a, vs, rfl, Same.seqT o.sub h1, by rw [h2.length]; exact hl _ _ _ hg, q _ _ _ _ _ L G H _ re h2 hg k⟩
  | _ => cases hg
theorem psd_asg {tg ex : Expr} {pos : Pos} {is : List Nat} {g : GV} {ev : EV} (h : PD X W ex ev) (hg : PGD X tg is g) (hs : swapsWithSole [tg] ex pos.line X.env = pure false := by rfl) (hw : swappedStores [tg] ex X.env = pure none := by rfl)
    (h1 : (assignEach [tg] X.env).map (·.2) = [assign tg X.env] := by rfl) : PSD X W (.Assign [tg] ex pos) (sAsg g ev) := by
  obtain ⟨t, p, q⟩ := h
  obtain ⟨tg', pg, qg⟩ := hg
  refine ⟨_, ps_asg p pg hs hw h1, fun F e M σ L G H Dn o re h => ?_⟩
  refine q F e M σ L G H _ o re ((AftS.toS h re).imp fun d M1 L1 G1 H1 o1 x1 h2 v r => ?_)
  split at h2
  · rename_i e1 he
    exact qg F v d e e1 M1 σ L1 G1 H1 _ o1 (re.mono x1) r he fun σ' re' _ => h2 σ' L1 G1 H1 o1 (Ext.refl _ _) re'
  · exact h2.elim
theorem psd_par {i j : Nat} {x y : Str} {a b : Expr} {px py pt pos : Pos} {kt k2 : Nat} {pt2 : Pos} {ea : EA} (hc : X.calm = true) (hN : X.N.Nodup) (ha : PAD X W [a, b] ea) (hi : X.N[i]? = some x := by rfl) (hj : X.N[j]? = some y := by rfl) (hij : i ≠ j := by decide)
    (hx : X.env.scope.names.lookup x = some .local := by rfl) (hy : X.env.scope.names.lookup y = some .local := by rfl)
    (hw : swappedStores [.Tuple [.Name x px, .Name y py] kt pt] (.Tuple [a, b] k2 pt2) X.env = pure (some [x, y]) := by rfl)
    (hs : swapsWithSole [.Tuple [.Name x px, .Name y py] kt pt] (.Tuple [a, b] k2 pt2) pos.line X.env = pure false := by rfl) :
    PSD X W (.Assign [.Tuple [.Name x px, .Name y py] kt pt] (.Tuple [a, b] k2 pt2) pos) (sPar i j ea) := by
  obtain ⟨t, p, q⟩ := ha
  refine ⟨_, ps_par hc hN hi hj hij hx hy p hw hs, fun F e M σ L G H Dn o re h => ?_⟩
  refine q F e M σ L G H _ o re ((AftS.toS h re).imp fun ds M1 L1 G1 H1 o1 x1 h2 vs r => ?_)
  match ds, h2, r with
  | [a, b], h2, .cons r1 (.cons r2 .nil) => exact ⟨_, _, rfl, h2 _ L1 G1 H1 o1 (Ext.refl _ _) (((re.mono x1).set r1).set r2)⟩
theorem psd_par3 {i j l : Nat} {x y z : Str} {a b c : Expr} {px py pz pt pos : Pos} {kt k2 : Nat} {pt2 : Pos} {ea : EA} (hc : X.calm = true) (hN : X.N.Nodup) (ha : PAD X W [a, b, c] ea) (hi : X.N[i]? = some x := by rfl) (hj : X.N[j]? = some y := by rfl) (hl : X.N[l]? = some z := by rfl) (hij : i ≠ j := by decide) (hil : i ≠ l := by decide) (hjl : j ≠ l := by decide)
    (hx : X.env.scope.names.lookup x = some .local := by rfl) (hy : X.env.scope.names.lookup y = some .local := by rfl) (hz : X.env.scope.names.lookup z = some .local := by rfl)
    (hw : swappedStores [.Tuple [.Name x px, .Name y py, .Name z pz] kt pt] (.Tuple [a, b, c] k2 pt2) X.env = pure (some [x, y, z]) := by rfl)
    (hs : swapsWithSole [.Tuple [.Name x px, .Name y py, .Name z pz] kt pt] (.Tuple [a, b, c] k2 pt2) pos.line X.env = pure false := by rfl) :
    PSD X W (.Assign [.Tuple [.Name x px, .Name y py, .Name z pz] kt pt] (.Tuple [a, b, c] k2 pt2) pos) (sPar3 i j l ea) := by
  obtain ⟨t, p, q⟩ := ha
  refine ⟨_, ps_par3 hc hN hi hj hl hij hil hjl hx hy hz p hw hs, fun F e M σ L G H Dn o re h => ?_⟩
  refine q F e M σ L G H _ o re ((AftS.toS h re).imp fun ds M1 L1 G1 H1 o1 x1 h2 vs r => ?_)
  match ds, h2, r with
  | [a, b, c], h2, .cons r1 (.cons r2 (.cons r3 .nil)) => exact ⟨_, _, _, rfl, h2 _ L1 G1 H1 o1 (Ext.refl _ _) ((((re.mono x1).set r1).set r2).set r3)⟩
theorem psd_aug {i : Nat} {x : Str} {ex : Expr} {op : Operator} {pos pos' : Pos} {ev : EV} {r : R2} {f : D → D → List MO → R D} (ho : OpR X (inplaceOp op) r) (hr : OpD X W r f) (hN : X.N.Nodup) (h : PD X W ex ev) (hi : X.N[i]? = some x := by rfl) (hx : Loc X.env.scope x := by first | exact Or.inl rfl | exact Or.inr rfl)
    (hf : X.fn x = true ∨ X.env.scope.names.lookup x = some .local := by first | exact .inl rfl | exact .inr rfl | assumption) : PSD X W (.AugAssign (.Name x pos') op ex pos) (sAug i f ev) := by
  obtain ⟨t, p, q⟩ := h
  refine ⟨_, ps_aug hN hi hx p ho hf, fun F e M σ L G H Dn o re h => ?_⟩
  unfold sAug eVar at h
  split at h
  · rename_i d hd
    obtain ⟨v, h1, h2⟩ := re.at' i d hd
    rw [R.toS_ok] at h
    refine ⟨v, h1, q F e M σ L G H _ o re ((AftS.toS h re).imp fun y M1 L1 G1 H1 o1 x1 h3 v1 r1 => ?_)⟩
    exact hr v v1 d y M1 F L1 G1 H1 σ _ o1 (h2.mono x1) r1 ((AftS.toS h3 (re.mono x1)).imp fun z M2 L2 G2 H2 o2 x2 h4 v2 r2 => h4 _ L2 G2 H2 o2 (Ext.refl _ _) (((re.mono x1).mono x2).set r2))
  · exact h.elim
/-! loops -/
theorem AftS.turn {r : RS} {k : EN → List MO → RS} {nx : L2.St → Hp → Prop} (h : AftS X W F L G Dn (r.turn k))
    (hn : ∀ e1 M1 σ1 L1 G1 H1, Ok (kx X) F L1 G1 M1 H1 → Ext L G L1 G1 → RpE (kx X) L1 G1 σ1 e1 → AftS X W F L1 G1 Dn (k e1 M1) → nx σ1 H1) : AftS X W F L G { Dn with nx := nx, ct := nx, bk := Dn.nx } r := by
  cases r with
  | nx e M => exact fun σ1 L1 G1 H1 o x re => hn e M σ1 L1 G1 H1 o x re (AftS.mono h x)
  | ret d M => exact h
  | brk e M => exact h
  | cnt e M => exact fun σ1 L1 G1 H1 o x re => hn e M σ1 L1 G1 H1 o x re (AftS.mono h x)
  | exc c e M => exact h
  | stuck => exact h.elim
theorem psd_while {c : Expr} {body : List Stmt} {pos : Pos} {ec : EB} {sb : SV} (hp : PassesOwn (model X.prog X.w) X.A X.env X.xe) (hc : PB X W c ec) (hb : PSsD X W body sb) : PSD X W (.While c body [] pos) (sWhile ec sb) := by
  obtain ⟨tc, pc, qc⟩ := hc
  obtain ⟨tb, pb, qb⟩ := hb
  refine ⟨_, ps_while hp pc pb, fun F e M σ L G H Dn o re h => ?_⟩
  refine ⟨fun m σ1 H1 => ∃ e1 M1 L1 G1, Ok (kx X) F L1 G1 M1 H1 ∧ RpE (kx X) L1 G1 σ1 e1 ∧ AftS X W F L1 G1 Dn (whileN ec sb m e1 M1), ⟨fuel, e, M, L, G, o, re, h⟩, ?_⟩
  rintro m σ1 H1 ⟨e1, M1, L1, G1, o1, re1, h1⟩
  cases m with
  | zero => exact h1.elim
  | succ m =>
    unfold whileN at h1
    refine qc F e1 M1 σ1 L1 G1 H1 _ o1 re1 ((AftS.toS h1 re1).imp fun k M2 L2 G2 H2 o2 x2 h2 => ?_)
    dsimp only [kB]
    cases k with
    | true =>
      rw [if_pos rfl]
      refine ⟨_, fun σ' H' n => ⟨m, Nat.lt_succ_self m, n⟩, ?_⟩
      refine qb F e1 M2 σ1 L2 G2 H2 _ o2 (re1.mono x2) (AftS.turn h2 fun e3 M3 σ3 L3 G3 H3 o3 x3 re3 h3 => ?_)
      exact ⟨e3, M3, L3, G3, o3, re3, h3⟩
    | false => rw [if_neg Bool.false_ne_true]; exact h2 σ1 L2 G2 H2 o2 (Ext.refl _ _) (re1.mono x2)

/-- what is walked: the data that come, one a turn -/
def WkOk (X : Cx) (L : List Addr) (G : Hp) (J : It) (ds : List D) : Prop := ∃ (Gd : Hp → Prop) (Y : Nat → Hp → V → Hp → Prop), Walk J ds.length Gd Y ∧ (∀ F' L' G' M' H', Ok (kx X) F' L' G' M' H' → Ext L G L' G' → Gd H') ∧
  ∀ (i : Nat) (d : D) (x : V) (F' : Hp) (L' : List Addr) (G' : Hp) (M' : List MO) (H' H2 : Hp), ds[i]? = some d → Ok (kx X) F' L' G' M' H' → Ext L G L' G' → Y i H' x H2 → ∃ G2, Ok (kx X) F' L' G2 M' H2 ∧ Ext L' G' L' G2 ∧ Rp (kx X) L' G2 x d
inductive Src where
  | snap (ds : List D)
  | cel (n : Nat)
abbrev EI := EN → List MO → R Src
def SrcOk (X : Cx) (L : List Addr) (G : Hp) (J : It) : Src → Prop
  | .snap ds => WkOk X L G J ds
  | .cel n => ∃ a, L[n]? = some a ∧ J = Itl X.K a
def forC (g : GV) (b : SV) (n : Nat) : Nat → Nat → EN → List MO → RS
  | 0, _, _, _ => .stuck
  | m + 1, i, e, M => match M[n]? with
    | some (.lst ds) => match ds[i]? with
      | some d => match g d e with
        | some e1 => (b e1 M).turn (forC g b n m (i + 1))
        | none => .stuck
      | none => .nx e M
    | _ => .stuck
def sFor (src : EI) (g : GV) (b : SV) : SV := fun e M => (src e M).toS e fun s M1 => match s with
  | .snap ds => forL g b ds e M1
  | .cel n => forC g b n fuel 0 e M1
def HoI (X : Cx) (W : WX) (wi : TI) (ev : EI) : Prop := ∀ (F : Hp) (e : EN) (M : List MO) (σ : L2.St) (L : List Addr) (G H : Hp) (Rq : It → Hp → Prop), Ok (kx X) F L G M H → RpE (kx X) L G σ e →
  Aft X W F σ (fun s M1 L1 G1 H1 => ∀ J G2 H2, Ok (kx X) F L1 G2 M1 H2 → Ext L1 G1 L1 G2 → SrcOk X L1 G2 J s → Rq J H2) L G (ev e M) → wi σ H Rq
def PID (X : Cx) (W : WX) (tg iter : Expr) (ev : EI) : Prop := ∃ wi, PI X tg iter wi ∧ HoI X W wi ev
theorem psd_for {tg iter : Expr} {body : List Stmt} {pos : Pos} {src : EI} {is : List Nat} {g : GV} {sb : SV} (hp : PassesOwn (model X.prog X.w) X.A X.env X.xe) (hc : X.calm = true) (hi : PID X W tg iter src) (hg : PGD X tg is g) (hb : PSsD X W body sb) 
    (hs : ∀ x, foldedSetIterable iter X.env x = pure x := by intro _; rfl) : PSD X W (.For tg iter body [] pos) (sFor src g sb) := by
  obtain ⟨wi, pi, qi⟩ := hi
  obtain ⟨tg', pg, qg⟩ := hg
  obtain ⟨tb, pb, qb⟩ := hb
  refine ⟨_, ps_for hp hc pi pg pb hs, fun F e M σ L G H Dn o re h => ?_⟩
  refine qi F e M σ L G H _ o re ((AftS.toS h re).imp fun s M1 L1 G1 H1 o1 x1 h1 J G2 H2 o2 x2 wk => ?_)
  have re2 := (re.mono x1).mono x2
  have h2 := AftS.mono h1 x2
  cases s with
  | snap ds =>
    obtain ⟨Gd, Y, wk, hG, hY⟩ := wk
    refine for_it wk (fun i σ' H' => ∃ e' M' L' G', Ok (kx X) F L' G' M' H' ∧ Ext L1 G2 L' G' ∧ RpE (kx X) L' G' σ' e' ∧ AftS X W F L' G' Dn (forL g sb (ds.drop i) e' M')) ⟨e, M1, L1, G2, o2, Ext.refl _ _, re2, h2⟩ ?_ ?_ ?_
    · rintro i σ' H' _ ⟨e', M', L', G', o', x', _, _⟩
      exact hG F L' G' M' H' o' x'
    · rintro i x σ' H' H3 hlt ⟨e', M', L', G', o', x', re', h'⟩ y
      have hd : ds[i]? = some ds[i] := List.getElem?_eq_getElem hlt
      obtain ⟨G3, o3, x3, r3⟩ := hY i _ x F L' G' M' H' H3 hd o' x' y
      rw [List.drop_eq_getElem_cons hlt] at h'
      unfold forL at h'
      split at h'
      · rename_i e1 he
        refine qg F x _ e' e1 M' σ' L' G3 H3 _ o3 (re'.mono x3) r3 he fun σ4 re4 _ => ?_
        refine qb F e1 M' σ4 L' G3 H3 _ o3 re4 (AftS.turn (AftS.mono h' x3) fun e5 M5 σ5 L5 G5 H5 o5 x5 re5 h5 => ?_)
        exact ⟨e5, M5, L5, G5, o5, (x'.trans x3).trans x5, re5, h5⟩
      · exact h'.elim
    · rintro σ' H' ⟨e', M', L', G', o', x', re', h'⟩
      rw [List.drop_length] at h'
      exact h' σ' L' G' H' o' (Ext.refl _ _) re'
  | cel n =>
    obtain ⟨a, ha, rfl⟩ := wk
    refine ⟨fun i m σ' H' => ∃ e' M' L' G', Ok (kx X) F L' G' M' H' ∧ Ext L1 G2 L' G' ∧ RpE (kx X) L' G' σ' e' ∧ AftS X W F L' G' Dn (forC g sb n m i e' M'), ⟨fuel, e, M1, L1, G2, o2, Ext.refl _ _, re2, h2⟩, ?_⟩
    rintro i m σ' H' ⟨e', M', L', G', o', x', re', h'⟩
    cases m with
    | zero => exact h'.elim
    | succ m =>
      obtain ⟨u, hu, ku⟩ := o'.here (x'.at ha)
      unfold forC at h'
      rw [hu] at h'
      cases u with
      | obj c fs => exact h'.elim
      | lst ds =>
        obtain ⟨vs, hv, rv⟩ := ku
        dsimp only at h'
        cases hd : ds[i]? with
        | none =>
          rw [hd] at h'
          refine .inl ⟨⟨vs, .inl (.inl hv), ?_⟩, h' σ' L' G' H' o' (Ext.refl _ _) re'⟩
          rw [rv.length]; exact List.getElem?_eq_none_iff.mp hd
        | some d =>
          rw [hd] at h'
          dsimp only at h'
          obtain ⟨v, hv1, rv1⟩ := rv.get hd
          refine .inr ⟨⟨vs, v, .inl (.inl hv), hv1⟩, _, fun σ5 H5 n5 => ⟨m, Nat.lt_succ_self m, n5⟩, fun x H3 y => ?_⟩
          obtain ⟨rfl, y⟩ := y
          have ex : x = v := Option.some.inj ((y vs (.inl (.inl hv))).symm.trans hv1)
          subst ex
          split at h'
          · rename_i e1 he
            refine qg F x _ e' e1 M' σ' L' G' H3 _ o' re' rv1 he fun σ4 re4 _ => ?_
            refine qb F e1 M' σ4 L' G' H3 _ o' re4 (AftS.turn h' fun e5 M5 σ5 L5 G5 H5 o5 x5 re5 h5 => ?_)
            exact ⟨e5, M5, L5, G5, o5, x'.trans x5, re5, h5⟩
          · exact h'.elim
end
end KB
namespace KB
open PySem PySem.Spec PyProof.Rows L2

/-! ### sources -/
def eSeq (ev : EV) : EI := fun e M => (ev e M).bind fun d M1 => match d with
  | .lst ds => .ok (.snap ds) M1
  | .tup ds => .ok (.snap ds) M1
  | .cell n => match M1[n]? with
    | some (.lst _) => .ok (.cel n) M1
    | _ => .stuck
  | _ => .stuck
def rangeD (lo : Int) (n : Nat) : List D := (List.range n).map fun i => .int (lo + (i : Nat))
def rgOk (i : Int) : Bool := decide (-1000000000 ≤ i ∧ i ≤ 1000000000)
def eRange1 (ea : EA) : EI := fun e M => (ea e M).bind fun ds M1 => match ds with
  | [.int j] => if rgOk j then .ok (.snap (rangeD 0 j.toNat)) M1 else .stuck
  | _ => .stuck
def eRange2 (ea : EA) : EI := fun e M => (ea e M).bind fun ds M1 => match ds with
  | [.int i, .int j] => if rgOk i && rgOk j then .ok (.snap (rangeD i (j - i).toNat)) M1 else .stuck
  | _ => .stuck
theorem PI.or {X : Cx} {tg iter : Expr} {wi wi' : TI} (h : PI X tg iter wi) (h' : PI X tg iter wi') : PI X tg iter (fun σ H R => wi σ H R ∨ wi' σ H R) :=
  ⟨fun pins s σ H R I q => q.elim (h.run pins s σ H R I) (h'.run pins s σ H R I)⟩
section
variable {X : Cx} {W : WX}
theorem wk_lst {L : List Addr} {G : Hp} {a : Addr} {vs : List V} {ds : List D} (h : G a = some (.lst vs)) (r : RpL (kx X) L G vs ds) : WkOk X L G (Itl X.K a) ds := by
  refine ⟨_, _, r.length ▸ walk_list (K := X.K) (a := a) (xs := vs), fun F' L' G' M' H' o x => .inl (.inl (o.sub _ _ (x.g _ _ h))), ?_⟩
  rintro i d x F' L' G' M' H' H2 hd o e ⟨rfl, hv⟩
  obtain ⟨v, h1, h2⟩ := r.get hd
  rw [h1] at hv; cases hv
  exact ⟨G', o, Ext.refl _ _, h2.mono e⟩
theorem wk_tup {L : List Addr} {G : Hp} {a : Addr} {vs : List V} {ds : List D} (h : SqT X.K G a vs) (r : RpL (kx X) L G vs ds) : WkOk X L G (Itt X.K a) ds := by
  refine ⟨_, _, r.length ▸ walk_tup (K := X.K) (a := a) (xs := vs), fun F' L' G' M' H' o x => Same.seqT o.sub (Same.seqT x.g h), ?_⟩
  rintro i d x F' L' G' M' H' H2 hd o e ⟨rfl, hv⟩
  obtain ⟨v, h1, h2⟩ := r.get hd
  rw [h1] at hv; cases hv
  exact ⟨G', o, Ext.refl _ _, h2.mono e⟩
theorem rangeD_length (lo : Int) (n : Nat) : (rangeD lo n).length = n := by simp [rangeD]
theorem wk_range {L : List Addr} {G : Hp} (lo : Int) (n : Nat) : WkOk X L G (Itr lo n) (rangeD lo n) := by
  refine ⟨_, _, by rw [rangeD_length]; exact walk_range (lo := lo) (n := n), fun F' L' G' M' H' o x => trivial, ?_⟩
  rintro i d x F' L' G' M' H' H2 hd o e ⟨rfl, rfl⟩
  unfold rangeD at hd
  rw [List.getElem?_map] at hd
  have hi : i < n := by
    cases q : (List.range n)[i]? with
    | none => rw [q] at hd; cases hd
    | some z => have := (List.getElem?_eq_some_iff.mp q).1; simpa using this
  rw [List.getElem?_range hi] at hd
  cases hd
  exact ⟨G', o, Ext.refl _ _, .int _⟩
theorem pid_seq {tg l : Expr} {ev : EV} (h : PD X W l ev) : PID X W tg l (eSeq ev) := by
  obtain ⟨t, p, q⟩ := h
  refine ⟨_, PI.or (pi_list p) (pi_tup p), fun F e M σ L G H Rq o re h => ?_⟩
  unfold eSeq at h
  cases hr : ev e M with
  | stuck => rw [hr] at h; exact h.elim
  | exc c M1 =>
    rw [hr] at h
    refine .inl (q F e M σ L G H _ o re ?_)
    rw [hr]; exact h
  | ok d M1 =>
    rw [hr] at h
    cases d with
    | lst ds =>
      refine .inl (q F e M σ L G H _ o re ?_)
      rw [hr]
      intro L1 G1 H1 o1 x1 v r
      cases r with
      | lst hl rl => exact ⟨_, rfl, ⟨_, .inl (.inl (o1.sub _ _ hl))⟩, h L1 G1 H1 o1 x1 _ G1 H1 o1 (Ext.refl _ _) (wk_lst hl rl)⟩
    | tup ds =>
      refine .inr (q F e M σ L G H _ o re ?_)
      rw [hr]
      intro L1 G1 H1 o1 x1 v r
      cases r with
      | tup hl rl => exact ⟨_, rfl, ⟨_, Same.seqT o1.sub hl⟩, h L1 G1 H1 o1 x1 _ G1 H1 o1 (Ext.refl _ _) (wk_tup hl rl)⟩
    | cell n =>
      refine .inl (q F e M σ L G H _ o re ?_)
      rw [hr]
      intro L1 G1 H1 o1 x1 v r
      cases r with
      | @cell a n hl =>
        obtain ⟨u, hu, ku⟩ := o1.here hl
        simp only [R.bind_ok, hu] at h
        cases u with
        | lst ds =>
          have hk := h L1 G1 H1 o1 x1
          obtain ⟨vs, hv, rv⟩ := ku
          exact ⟨a, rfl, ⟨vs, .inl (.inl hv)⟩, hk _ G1 H1 o1 (Ext.refl _ _) ⟨a, hl, rfl⟩⟩
        | obj c fs => exact h.elim
    | _ => exact h.elim
theorem rgOk_b {i : Int} (h : rgOk i = true) : -(2 ^ 62) ≤ i ∧ i < 2 ^ 62 := by
  have := of_decide_eq_true h
  constructor <;> omega
theorem pid_range1 {tg a : Expr} {ea : EA} {p pos : Pos} (hm : X.mg "range" = none) (ha : PAD X W [a] ea) (hg : Gl X "range" := by rfl) (hs : starEach [a] X.env = [(false, eval a X.env)] := by rfl) : PID X W tg (.Call (.Name "range" p) [a] [] pos) (eRange1 ea) := by
  obtain ⟨t, pa, q⟩ := ha
  refine ⟨_, pi_range1 hg hm pa hs, fun F e M σ L G H Rq o re h => ?_⟩
  refine q F e M σ L G H _ o re ((Aft.bind h).imp fun ds M1 L1 G1 H1 o1 x1 h1 vs r => ?_)
  split at h1
  · rename_i j
    cases r with
    | cons r1 r2 =>
      cases r1; cases r2
      split at h1
      · rename_i hj
        exact ⟨j, rfl, (rgOk_b hj).1, (rgOk_b hj).2, h1 L1 G1 H1 o1 (Ext.refl _ _) _ G1 H1 o1 (Ext.refl _ _) (wk_range 0 _)⟩
      · exact h1.elim
  · exact h1.elim
theorem pid_range2 {tg a b : Expr} {ea : EA} {p pos : Pos} (hm : X.mg "range" = none) (ha : PAD X W [a, b] ea) (hg : Gl X "range" := by rfl) (hs : starEach [a, b] X.env = [(false, eval a X.env), (false, eval b X.env)] := by rfl) (hs2 : starEach [b] X.env = [(false, eval b X.env)] := by rfl) : PID X W tg (.Call (.Name "range" p) [a, b] [] pos) (eRange2 ea) := by
  obtain ⟨t, pa, q⟩ := ha
  refine ⟨_, pi_range2 hg hm pa hs hs2, fun F e M σ L G H Rq o re h => ?_⟩
  refine q F e M σ L G H _ o re ((Aft.bind h).imp fun ds M1 L1 G1 H1 o1 x1 h1 vs r => ?_)
  split at h1
  · rename_i i j
    cases r with
    | cons r1 r2 =>
      cases r2 with
      | cons r3 r4 =>
        cases r1; cases r3; cases r4
        split at h1
        · rename_i hj
          rw [Bool.and_eq_true] at hj
          exact ⟨i, j, rfl, ⟨(rgOk_b hj.1).1, (rgOk_b hj.1).2, (rgOk_b hj.2).1, (rgOk_b hj.2).2⟩, h1 L1 G1 H1 o1 (Ext.refl _ _) _ G1 H1 o1 (Ext.refl _ _) (wk_range i _)⟩
        · exact h1.elim
  · exact h1.elim

/-! ### canonical readings, for blocks -/
def teOf (X : Cx) (W : WX) (ev : EV) : TE := fun σ H Q => ∃ F e M L G, Ok (kx X) F L G M H ∧ RpE (kx X) L G σ e ∧ Aft X W F σ (kE X Q) L G (ev e M)
def tbOf (X : Cx) (W : WX) (ev : EB) : TT := fun σ H Q => ∃ F e M L G, Ok (kx X) F L G M H ∧ RpE (kx X) L G σ e ∧ Aft X W F σ (kB Q) L G (ev e M)
def tgOf (X : Cx) (is : List Nat) (g : GV) : TG := fun v σ H Q => ∃ F d e e' M L G, Ok (kx X) F L G M H ∧ RpE (kx X) L G σ e ∧ Rp (kx X) L G v d ∧ g d e = some e' ∧ ∀ σ', RpE (kx X) L G σ' e' → Upd is σ σ' → Q σ' H
theorem PD.pe {e : Expr} {ev : EV} (h : PD X W e ev) : PE X e (teOf X W ev) := by
  obtain ⟨t, p, q⟩ := h
  refine ⟨fun pins s σ H Q I z => ?_⟩
  obtain ⟨F, e, M, L, G, o, re, a⟩ := z
  exact p.run pins s σ H Q I (q F e M σ L G H Q o re a)
theorem PB.pt {e : Expr} {ev : EB} (h : PB X W e ev) : PT X e (tbOf X W ev) := by
  obtain ⟨t, p, q⟩ := h
  refine ⟨fun pins s σ H Q I z => ?_⟩
  obtain ⟨F, e, M, L, G, o, re, a⟩ := z
  exact p.run pins s σ H Q I (q F e M σ L G H Q o re a)
theorem PGD.pg {e : Expr} {is : List Nat} {g : GV} (h : PGD X e is g) : PG X e (tgOf X is g) := by
  obtain ⟨t, p, q⟩ := h
  refine ⟨fun pins s σ H v u Q I r z => ?_⟩
  obtain ⟨F, d, e, e', M, L, G, o, re, rp, hg, k⟩ := z
  exact p.run pins s σ H v u Q I r (q F v d e e' M σ L G H Q o re rp hg k)

/-! ### comprehensions -/
def wipeE (e : EN) : List Nat → EN
  | [] => e
  | v :: vs => (wipeE e vs).set v none
theorem RpE.wipe {C : Kx} {L : List Addr} {G : Hp} {σ : L2.St} {e : EN} (h : RpE C L G σ e) : ∀ vs : List Nat, RpE C L G (wipe σ vs) (wipeE e vs)
  | [] => h
  | v :: vs => by
    have ih := h.wipe vs
    refine ⟨by simp [L2.wipe, wipeE, ih.len], fun i d q => ?_⟩
    unfold wipeE at q
    unfold L2.wipe
    by_cases hi : v = i
    · subst hi
      by_cases hl : v < (wipeE e vs).length
      · rw [List.getElem?_set_self hl] at q; cases q
      · rw [List.getElem?_eq_none (by simp; omega)] at q; cases q
    · rw [List.getElem?_set_ne hi] at q ⊢
      exact ih.at' i d q
theorem wipe_in {σ : L2.St} {i : Nat} : ∀ {vs : List Nat}, i ∈ vs → (wipe σ vs)[i]? = if i < σ.length then some none else none
  | v :: vs, h => by
    unfold L2.wipe
    by_cases hi : v = i
    · subst hi
      split
      · rename_i hl
        rw [List.getElem?_set_self (by rw [wipe_length]; exact hl)]
      · rename_i hl
        rw [List.getElem?_eq_none (by simp [wipe_length]; omega)]
    · rw [List.getElem?_set_ne hi]
      exact wipe_in (by rcases List.mem_cons.mp h with z | z; exact absurd z.symm hi; exact z)
theorem wipe_upd {σ σ2 : L2.St} {is vs : List Nat} (u : Upd is (wipe σ vs) σ2) (h : ∀ i ∈ is, i ∈ vs) : wipe σ2 vs = wipe σ vs := by
  apply List.ext_getElem?
  intro i
  have hl : σ2.length = σ.length := u.len.trans (wipe_length σ vs)
  by_cases hi : i ∈ vs
  · rw [wipe_in hi, wipe_in hi, hl]
  · rw [wipe_out hi, wipe_out hi, u.out i (fun z => hi (h i z)), wipe_out hi]
def R.nox {α β : Type} (r : R α) (f : α → List MO → R β) : R β := match r with
  | .ok a M => f a M
  | _ => .stuck
@[simp] theorem R.nox_ok {α β : Type} (a : α) (M : List MO) (f : α → List MO → R β) : (R.ok a M).nox f = f a M := rfl
@[simp] theorem R.nox_exc {α β : Type} (c : Str) (M : List MO) (f : α → List MO → R β) : (R.exc c M : R α).nox f = .stuck := rfl
@[simp] theorem R.nox_stuck {α β : Type} (f : α → List MO → R β) : (R.stuck : R α).nox f = .stuck := rfl
def eYes : EB := fun _ M => .ok true M
def compL (g : GV) (t : EB) (el : EV) (e : EN) : List D → List D → List MO → R (List D)
  | [], acc, M => .ok acc M
  | d :: ds, acc, M => match g d e with
    | some e1 => (t e1 M).nox fun b M1 => if b then (el e1 M1).nox fun y M2 => if acc.length < big then compL g t el e ds (acc ++ [y]) M2 else .stuck else compL g t el e ds acc M1
    | none => .stuck
def compC (g : GV) (t : EB) (el : EV) (e : EN) (n : Nat) : Nat → Nat → List D → List MO → R (List D)
  | 0, _, _, _ => .stuck
  | m + 1, i, acc, M => match M[n]? with
    | some (.lst ds) => match ds[i]? with
      | some d => match g d e with
        | some e1 => (t e1 M).nox fun b M1 => if b then (el e1 M1).nox fun y M2 => if acc.length < big then compC g t el e n m (i + 1) (acc ++ [y]) M2 else .stuck else compC g t el e n m (i + 1) acc M1
        | none => .stuck
      | none => .ok acc M
    | _ => .stuck
def eLcA (src : EI) (g : GV) (vs : List Nat) (t : EB) (el : EV) : EA := fun e M => (src e M).bind fun s M1 => match s with
  | .snap ds => compL g t el (wipeE e vs) ds [] M1
  | .cel n => compC g t el (wipeE e vs) n fuel 0 [] M1
abbrev W0 : WX := fun _ _ _ _ => False
def fLst' (ds : List D) (M : List MO) : R D := .ok (.lst ds) M
def fCell' (ds : List D) (M : List MO) : R D := .ok (.cell M.length) (M ++ [.lst ds])
theorem Aft.nox {α β : Type} {F : Hp} {L : List Addr} {G : Hp} {σ σ' : L2.St} {r : R α} {f : α → List MO → R β} {kb : β → List MO → List Addr → Hp → Hp → Prop} (h : Aft X W F σ kb L G (r.nox f)) :
    Aft X W0 F σ' (fun a M1 L1 G1 _ => Aft X W F σ kb L1 G1 (f a M1)) L G r := by
  cases r with
  | ok d M => exact fun L2 G2 H2 o x => Aft.mono h x
  | exc c M => exact h.elim
  | stuck => exact h.elim
/-- what never changes may be widened by what a comprehension has made -/
theorem Ok.close {C : Kx} {F : Hp} {L : List Addr} {G H : Hp} {M : List MO} {p : Addr} {vs : List V} (o : Ok C (upd F p (.lst vs)) L G M H) (hF : F p = none) : Ok C F L (upd G p (.lst vs)) M H ∧ Ext L G L (upd G p (.lst vs)) ∧ H p = some (.lst vs) ∧ G p = none ∧ p ∉ L := by
  have hp := o.fs p _ upd_same
  obtain ⟨hg, hl⟩ := o.fo p _ upd_same
  have e : Ext L G L (upd G p (.lst vs)) := ⟨⟨[], by simp⟩, fun b x q => by rw [upd_ne (ne_of_none q hg)]; exact q⟩
  refine ⟨⟨fun b x q => ?_, fun b x q => ?_, fun b x q => ?_, o.len, o.nd, fun b hb => ?_, fun n b x h1 h2 => (o.cells n b x h1 h2).mono e rfl⟩, e, hp, hg, hl⟩
  · exact o.fs b x (by rw [upd_ne (ne_of_none q hF)]; exact q)
  · have nb := ne_of_none q hF
    have := o.fo b x (by rw [upd_ne nb]; exact q)
    exact ⟨by rw [upd_ne nb]; exact this.1, this.2⟩
  · by_cases hb : b = p
    · subst hb; rw [upd_same] at q; cases q; exact hp
    · rw [upd_ne hb] at q; exact o.sub b x q
  · rw [upd_ne (fun z : b = p => hl (z ▸ hb))]; exact o.out b hb
theorem Ok.openF {C : Kx} {F : Hp} {L : List Addr} {G H : Hp} {M : List MO} {p : Addr} {u : HO} (o : Ok C F L G M H) (h : H p = none) : Ok C (upd F p u) L G M (upd H p u) := by
  obtain ⟨g, nl⟩ := o.fresh h
  refine ⟨fun b x q => ?_, fun b x q => ?_, fun b x q => ?_, o.len, o.nd, o.out, fun n b x h1 h2 => ?_⟩
  · by_cases hb : b = p
    · subst hb; rw [upd_same] at q ⊢; exact q
    · rw [upd_ne hb] at q ⊢; exact o.fs b x q
  · by_cases hb : b = p
    · subst hb; exact ⟨g, nl⟩
    · rw [upd_ne hb] at q; exact o.fo b x q
  · rw [upd_ne (ne_of_none q g)]; exact o.sub b x q
  · have hb : b ∈ L := List.mem_of_getElem? h1
    exact (o.cells n b x h1 h2).mono (Ext.refl _ _) (upd_ne (fun z : b = p => nl (z ▸ hb)))
theorem Ok.turnF {C : Kx} {F : Hp} {L : List Addr} {G H : Hp} {M : List MO} {p : Addr} {u u' : HO} (o : Ok C (upd F p u) L G M H) : Ok C (upd F p u') L G M (upd H p u') := by
  obtain ⟨hg, hl⟩ := o.fo p _ upd_same
  refine ⟨fun b x q => ?_, fun b x q => ?_, fun b x q => ?_, o.len, o.nd, o.out, fun n b x h1 h2 => ?_⟩
  · by_cases hb : b = p
    · subst hb; rw [upd_same] at q ⊢; exact q
    · rw [upd_ne hb] at q ⊢; exact o.fs b x (by rw [upd_ne hb]; exact q)
  · by_cases hb : b = p
    · subst hb; exact ⟨hg, hl⟩
    · rw [upd_ne hb] at q; exact o.fo b x (by rw [upd_ne hb]; exact q)
  · rw [upd_ne (ne_of_none q hg)]; exact o.sub b x q
  · have hb : b ∈ L := List.mem_of_getElem? h1
    exact (o.cells n b x h1 h2).mono (Ext.refl _ _) (upd_ne (fun z : b = p => hl (z ▸ hb)))

theorem Ok.dropF {C : Kx} {F : Hp} {L : List Addr} {G H : Hp} {M : List MO} {p : Addr} {u : HO} (hF : F p = none) (o : Ok C (upd F p u) L G M H) : Ok C F L G M H :=
  ⟨fun b x q => o.fs b x (by rw [upd_ne (ne_of_none q hF)]; exact q), fun b x q => o.fo b x (by rw [upd_ne (ne_of_none q hF)]; exact q), o.sub, o.len, o.nd, o.out, o.cells⟩
theorem Aft.reF {α : Type} {F F1 : Hp} {L : List Addr} {G : Hp} {σ : L2.St} {r : R α} {k : α → List MO → List Addr → Hp → Hp → Prop} (h : Aft X W F σ k L G r) (w : ∀ L G M H, Ok (kx X) F1 L G M H → Ok (kx X) F L G M H) : Aft X W F1 σ k L G r := by
  cases r with
  | ok d M => exact fun L2 G2 H2 o x => h L2 G2 H2 (w _ _ _ _ o) x
  | exc c M => exact fun L2 G2 H2 u o x q => h L2 G2 H2 u (w _ _ _ _ o) x q
  | stuck => exact h.elim
/-- what a comprehension is to give: its items at a new address -/
def kL (X : Cx) (F : Hp) (Q : VK) : List D → List MO → List Addr → Hp → Hp → Prop := fun ds M1 L1 G1 _ => ∀ p us H2, F p = none → Ok (kx X) (upd F p (.lst us)) L1 G1 M1 H2 → RpL (kx X) L1 G1 us ds → Q (.ref p) H2
theorem hoLc {wi : TI} {src : EI} {is vs : List Nat} {g : GV} {et : EB} {el : EV} (hi : HoI X W wi src) (hv : ∀ i ∈ is, i ∈ vs) :
    ∀ (F : Hp) (e : EN) (M : List MO) (σ : L2.St) (L : List Addr) (G H : Hp) (Q : VK), Ok (kx X) F L G M H → RpE (kx X) L G σ e →
    Aft X W F σ (kL X F Q) L G (eLcA src g vs et el e M) →
    tLc wi (tgOf X is g) (tbOf X W0 et) (teOf X W0 el) vs σ H Q := by
  intro F e M σ L G H Q o re h
  refine hi F e M σ L G H _ o re ((Aft.bind h).imp fun s M1 L1 G1 H1 o1 x1 h1 J G2 H2 o2 x2 wk => ?_)
  intro Da hD
  have re2 := (re.mono x1).mono x2
  have h2 := Aft.mono h1 x2
  have hFD : F Da = none := o2.freshF hD
  have o3 := o2.openF (u := .lst []) hD
  have rw2 : RpE (kx X) L1 G2 (wipe σ vs) (wipeE e vs) := re2.wipe vs
  cases s with
  | snap ds =>
    obtain ⟨Gd, Y, wk, hG, hY⟩ := wk
    refine lc_it wk (fun i H' => ∃ acc us M' L' G', Ok (kx X) (upd F Da (.lst us)) L' G' M' H' ∧ Ext L1 G2 L' G' ∧ RpL (kx X) L' G' us acc ∧
        Aft X W F σ (kL X F Q) L' G' (compL g et el (wipeE e vs) (ds.drop i) acc M'))
      ⟨[], [], M1, L1, G2, o3, Ext.refl _ _, .nil, h2⟩ ?_ ?_ ?_
    · rintro i H' _ ⟨acc, us, M', L', G', o', x', _, _⟩
      exact hG _ L' G' M' H' o' x'
    · rintro i x H' H3 hlt ⟨acc, us, M', L', G', o', x', ra, h'⟩ y
      have hd : ds[i]? = some ds[i] := List.getElem?_eq_getElem hlt
      obtain ⟨G3, o4, x3, r3⟩ := hY i _ x _ L' G' M' H' H3 hd o' x' y
      rw [List.drop_eq_getElem_cons hlt] at h'
      unfold compL at h'
      split at h'
      · rename_i e1 he
        refine ⟨_, _, _, e1, M', L', G3, o4, (rw2.mono x').mono x3, r3, he, fun σ4 re4 u4 => ⟨wipe_upd u4 hv, ?_⟩⟩
        refine ⟨_, e1, M', L', G3, o4, re4, ?_⟩
        refine ((Aft.nox (σ' := σ4) (Aft.mono h' x3)).reF fun _ _ _ _ => Ok.dropF hFD).imp fun b M5 L5 G5 H5 o5 x5 h6 => ?_
        dsimp only [kB]
        cases b with
        | true =>
          rw [if_pos rfl]
          refine ⟨_, e1, M5, L5, G5, o5, re4.mono x5, ?_⟩
          refine ((Aft.nox (σ' := σ4) h6).reF fun _ _ _ _ => Ok.dropF hFD).imp fun y M6 L6 G6 H6 o6 x6 h7 v r => ?_
          split at h7
          · rename_i hb
            exact ⟨us, o6.fs Da _ upd_same, by rw [ra.length]; exact big_lt (Nat.le_of_lt hb), acc ++ [y], us ++ [v], M6, L6, G6, o6.turnF, ((x'.trans x3).trans x5).trans x6, (((ra.mono x3).mono x5).mono x6).append (.cons r .nil), h7⟩
          · exact h7.elim
        | false =>
          rw [if_neg Bool.false_ne_true]
          exact ⟨acc, us, M5, L5, G5, o5, (x'.trans x3).trans x5, (ra.mono x3).mono x5, h6⟩
      · exact h'.elim
    · rintro H' ⟨acc, us, M', L', G', o', x', ra, h'⟩
      rw [List.drop_length] at h'
      exact h' L' G' H' (o'.dropF hFD) (Ext.refl _ _) Da us H' hFD o' ra
  | cel n =>
    obtain ⟨a, ha, rfl⟩ := wk
    refine ⟨fun i m H' => ∃ acc us M' L' G', Ok (kx X) (upd F Da (.lst us)) L' G' M' H' ∧ Ext L1 G2 L' G' ∧ RpL (kx X) L' G' us acc ∧
        Aft X W F σ (kL X F Q) L' G' (compC g et el (wipeE e vs) n m i acc M'), ⟨fuel, [], [], M1, L1, G2, o3, Ext.refl _ _, .nil, h2⟩, ?_⟩
    rintro i m H' ⟨acc, us, M', L', G', o', x', ra, h'⟩
    cases m with
    | zero => exact h'.elim
    | succ m =>
      obtain ⟨u, hu, ku⟩ := o'.here (x'.at ha)
      unfold compC at h'
      rw [hu] at h'
      cases u with
      | obj c fs => exact h'.elim
      | lst ds =>
        obtain ⟨ws, hv', rv⟩ := ku
        dsimp only at h'
        cases hd : ds[i]? with
        | none =>
          rw [hd] at h'
          refine .inl ⟨⟨ws, .inl (.inl hv'), ?_⟩, h' L' G' H' (o'.dropF hFD) (Ext.refl _ _) Da us H' hFD o' ra⟩
          rw [rv.length]; exact List.getElem?_eq_none_iff.mp hd
        | some d =>
          rw [hd] at h'
          dsimp only at h'
          obtain ⟨v, hv1, rv1⟩ := rv.get hd
          refine .inr ⟨⟨ws, v, .inl (.inl hv'), hv1⟩, _, fun H5 n5 => ⟨m, Nat.lt_succ_self m, n5⟩, fun x H3 y => ?_⟩
          obtain ⟨rfl, y⟩ := y
          have ex : x = v := Option.some.inj ((y ws (.inl (.inl hv'))).symm.trans hv1)
          subst ex
          split at h'
          · rename_i e1 he
            refine ⟨_, _, _, e1, M', L', G', o', rw2.mono x', rv1, he, fun σ4 re4 u4 => ⟨wipe_upd u4 hv, ?_⟩⟩
            refine ⟨_, e1, M', L', G', o', re4, ?_⟩
            refine ((Aft.nox (σ' := σ4) h').reF fun _ _ _ _ => Ok.dropF hFD).imp fun b M5 L5 G5 H5 o5 x5 h6 => ?_
            dsimp only [kB]
            cases b with
            | true =>
              rw [if_pos rfl]
              refine ⟨_, e1, M5, L5, G5, o5, re4.mono x5, ?_⟩
              refine ((Aft.nox (σ' := σ4) h6).reF fun _ _ _ _ => Ok.dropF hFD).imp fun y M6 L6 G6 H6 o6 x6 h7 v r => ?_
              split at h7
              · rename_i hb
                exact ⟨us, o6.fs Da _ upd_same, by rw [ra.length]; exact big_lt (Nat.le_of_lt hb), acc ++ [y], us ++ [v], M6, L6, G6, o6.turnF, (x'.trans x5).trans x6, ((ra.mono x5).mono x6).append (.cons r .nil), h7⟩
              · exact h7.elim
            | false =>
              rw [if_neg Bool.false_ne_true]
              exact ⟨acc, us, M5, L5, G5, o5, x'.trans x5, ra.mono x5, h6⟩
          · exact h'.elim
theorem kL_lst {F : Hp} {L : List Addr} {G : Hp} {σ : L2.St} {Q : VK} {r : R (List D)} (h : Aft X W F σ (kE X Q) L G (r.bind fLst')) : Aft X W F σ (kL X F Q) L G r := by
  refine (Aft.bind h).imp fun ds M1 L1 G1 H1 o1 x1 h1 p us H2 hF o2 ra => ?_
  obtain ⟨o3, x3, _⟩ := o2.close hF
  exact h1 L1 _ H2 o3 x3 _ (.lst upd_same (ra.mono x3))
theorem kL_cell {F : Hp} {L : List Addr} {G : Hp} {σ : L2.St} {Q : VK} {r : R (List D)} (h : Aft X W F σ (kE X Q) L G (r.bind fCell')) : Aft X W F σ (kL X F Q) L G r := by
  refine (Aft.bind h).imp fun ds M1 L1 G1 H1 o1 x1 h1 p us H2 hF o2 ra => ?_
  have hp := o2.fs p _ upd_same
  obtain ⟨hg, hl⟩ := o2.fo p _ upd_same
  have e : Ext L1 G1 (L1 ++ [p]) G1 := ⟨⟨[p], rfl⟩, Same.refl G1⟩
  have o := o2.dropF hF
  refine h1 (L1 ++ [p]) G1 H2 ⟨o.fs, fun b x q => ⟨(o.fo b x q).1, fun z => ?_⟩, o.sub, by simp [o.len], ?_, fun b hb => ?_, fun n b x h1 h2 => ?_⟩ e _ (.cell (by rw [← o.len]; simp))
  · rcases List.mem_append.mp z with z | z
    · exact (o.fo b x q).2 z
    · simp at z; subst z; rw [hF] at q; cases q
  · exact List.nodup_append.mpr ⟨o.nd, by simp, fun b hb c hc => by simp at hc; subst hc; exact fun z => hl (z ▸ hb)⟩
  · rcases List.mem_append.mp hb with hb | hb
    · exact o.out b hb
    · simp at hb; subst hb; exact hg
  · by_cases hn : n < L1.length
    · rw [List.getElem?_append_left hn] at h1
      rw [List.getElem?_append_left (by rw [← o.len]; exact hn)] at h2
      exact (o.cells n b x h1 h2).mono e rfl
    · have hn1 : n = L1.length := by
        have := (List.getElem?_eq_some_iff.mp h1).1
        simp at this; omega
      subst hn1
      rw [List.getElem?_append_right (Nat.le_refl _)] at h1
      rw [List.getElem?_append_right (by rw [o.len]; exact Nat.le_refl _)] at h2
      simp at h1
      simp [o.len] at h2
      subst h1 h2
      exact ⟨us, hp, ra.mono e⟩
/-- the block's parts, in the block's context -/
structure Blk (X : Cx) (W : WX) (N : List Str) (scope : Scope) (tg : Expr) (ifs : List Expr) (elt : Expr) (is : List Nat) (g : GV) (et : EB) (el : EV) : Prop where
  g : ∀ (s : Shared) (H : Hp) (C : Addr) (cl : List (Str × Addr)) (fp : List Addr), PGD (X.blk s H scope (compEnvC scope cl C X.env) fp) tg is g
  t : ∀ (s : Shared) (H : Hp) (C : Addr) (cl : List (Str × Addr)) (fp : List Addr), PTs (X.blk s H scope (compEnvC scope cl C X.env) fp) ifs (tbOf X W0 et)
  e : ∀ (s : Shared) (H : Hp) (C : Addr) (cl : List (Str × Addr)) (fp : List Addr), PD (X.blk s H scope (compEnvC scope cl C X.env) fp) W0 elt el
theorem ptsd_nil : PTs X [] (tbOf X W0 eYes) := by
  refine ⟨fun pins s σ H Q I h => pts_nil.run pins s σ H Q I ?_⟩
  obtain ⟨F, e, M, L, G, o, re, a⟩ := h
  exact aok a o
theorem ptsd_one {c : Expr} {ev : EB} (h : PB X W0 c ev) : PTs X [c] (tbOf X W0 ev) := pts_one h.pt
/-- [elt for tg in iter if ..] -/
theorem pd_lc {elt tg iter : Expr} {ifs : List Expr} {scope : Scope} {own : List (Str × Nat)} {pos : Pos} {src : EI} {is : List Nat} {g : GV} {et : EB} {el : EV} (own : List (Str × Nat)) (hc : X.calm = true) (hN : X.N.Nodup) (hi : PID X W tg iter src)
    (ok : BlkOk X.N X.env.scope scope own) (hv : ∀ i ∈ is, i ∈ own.map (·.2))
    (hg : ∀ (s : Shared) (H : Hp) (C : Addr) (cl : List (Str × Addr)) (fp : List Addr), PGD (X.blk s H scope (compEnvC scope cl C X.env) fp) tg is g)
    (ht : ∀ (s : Shared) (H : Hp) (C : Addr) (cl : List (Str × Addr)) (fp : List Addr), PTs (X.blk s H scope (compEnvC scope cl C X.env) fp) ifs (tbOf X W0 et))
    (he : ∀ (s : Shared) (H : Hp) (C : Addr) (cl : List (Str × Addr)) (fp : List Addr), PD (X.blk s H scope (compEnvC scope cl C X.env) fp) W0 elt el) (hs : ∀ x, foldedSetIterable iter X.env x = pure x := by intro _; rfl) :
    PD X W (.ListComp elt [⟨tg, iter, ifs, 0⟩] scope pos) (eArgs fLst' (eLcA src g (own.map (·.2)) et el)) := by
  obtain ⟨wi, pi, qi⟩ := hi
  refine ⟨_, pe_lc (g := tgOf X is g) (tt := tbOf X W0 et) (te := teOf X W0 el) hc hN pi ok (fun s H C cl fp => (hg s H C cl fp).pg) ht (fun s H C cl fp => (he s H C cl fp).pe) hs, fun F e M σ L G H Q o re h => ?_⟩
  exact hoLc qi hv F e M σ L G H Q o re (kL_lst h)
theorem pd_lcC {elt tg iter : Expr} {ifs : List Expr} {scope : Scope} {own : List (Str × Nat)} {pos : Pos} {src : EI} {is : List Nat} {g : GV} {et : EB} {el : EV} (own : List (Str × Nat)) (hc : X.calm = true) (hN : X.N.Nodup) (hi : PID X W tg iter src)
    (ok : BlkOk X.N X.env.scope scope own) (hv : ∀ i ∈ is, i ∈ own.map (·.2))
    (hg : ∀ (s : Shared) (H : Hp) (C : Addr) (cl : List (Str × Addr)) (fp : List Addr), PGD (X.blk s H scope (compEnvC scope cl C X.env) fp) tg is g)
    (ht : ∀ (s : Shared) (H : Hp) (C : Addr) (cl : List (Str × Addr)) (fp : List Addr), PTs (X.blk s H scope (compEnvC scope cl C X.env) fp) ifs (tbOf X W0 et))
    (he : ∀ (s : Shared) (H : Hp) (C : Addr) (cl : List (Str × Addr)) (fp : List Addr), PD (X.blk s H scope (compEnvC scope cl C X.env) fp) W0 elt el) (hs : ∀ x, foldedSetIterable iter X.env x = pure x := by intro _; rfl) :
    PD X W (.ListComp elt [⟨tg, iter, ifs, 0⟩] scope pos) (eArgs fCell' (eLcA src g (own.map (·.2)) et el)) := by
  obtain ⟨wi, pi, qi⟩ := hi
  refine ⟨_, pe_lc (g := tgOf X is g) (tt := tbOf X W0 et) (te := teOf X W0 el) hc hN pi ok (fun s H C cl fp => (hg s H C cl fp).pg) ht (fun s H C cl fp => (he s H C cl fp).pe) hs, fun F e M σ L G H Q o re h => ?_⟩
  exact hoLc qi hv F e M σ L G H Q o re (kL_cell h)
/-- y = [elt for tg in iter if ..] -/
theorem psd_setLc {i : Nat} {y : Str} {py spos : Pos} {elt tg iter : Expr} {ifs : List Expr} {scope : Scope} {pos : Pos} {src : EI} {is : List Nat} {g : GV} {et : EB} {el : EV} (own : List (Str × Nat)) (fin : List D → List MO → R D) (hfin : fin = fLst' ∨ fin = fCell') (hc : X.calm = true) (hN : X.N.Nodup) (hi : PID X W tg iter src)
    (ok : BlkOk X.N X.env.scope scope own) (hv : ∀ i ∈ is, i ∈ own.map (·.2))
    (hsw : swapsWith (.ListComp elt [⟨tg, iter, ifs, 0⟩] scope pos) (some (.Name y py)) spos.line X.env = pure true)
    (hg : ∀ (s : Shared) (H : Hp) (C : Addr) (cl : List (Str × Addr)) (fp : List Addr), PGD (X.blk s H scope (compEnvC scope cl C X.env) fp) tg is g)
    (ht : ∀ (s : Shared) (H : Hp) (C : Addr) (cl : List (Str × Addr)) (fp : List Addr), PTs (X.blk s H scope (compEnvC scope cl C X.env) fp) ifs (tbOf X W0 et))
    (he : ∀ (s : Shared) (H : Hp) (C : Addr) (cl : List (Str × Addr)) (fp : List Addr), PD (X.blk s H scope (compEnvC scope cl C X.env) fp) W0 elt el) (hy : X.N[i]? = some y := by rfl) (hyl : X.env.scope.names.lookup y = some .local := by rfl) (hs : ∀ x, foldedSetIterable iter X.env x = pure x := by intro _; rfl) :
    PSD X W (.Assign [.Name y py] (.ListComp elt [⟨tg, iter, ifs, 0⟩] scope pos) spos) (sSet i (eArgs fin (eLcA src g (own.map (·.2)) et el))) := by
  obtain ⟨wi, pi, qi⟩ := hi
  refine ⟨_, ps_setLc (g := tgOf X is g) (tt := tbOf X W0 et) (te := teOf X W0 el) hc hN hy hyl hsw pi ok (fun s H C cl fp => (hg s H C cl fp).pg) ht (fun s H C cl fp => (he s H C cl fp).pe) hs, fun F e M σ L G H Dn o re h => ?_⟩
  have h2 : Aft X W F σ (kE X fun v H' => Dn.nx (σ.set i (some v)) H') L G (eArgs fin (eLcA src g (own.map (·.2)) et el) e M) :=
    (AftS.toS h re).imp fun d M1 L1 G1 H1 o1 x1 h1 v r => h1 _ L1 G1 H1 o1 (Ext.refl _ _) ((re.mono x1).set r)
  rcases hfin with rfl | rfl
  · exact hoLc qi hv F e M σ L G H _ o re (kL_lst h2)
  · exact hoLc qi hv F e M σ L G H _ o re (kL_cell h2)

/-! ### defs -/
def startE (n : Nat) (ds : List D) : EN := ds.map some ++ List.replicate (n - ds.length) none
def RS.toR : RS → R D
  | .nx _ M' => .ok .non M'
  | .ret d M' => .ok d M'
  | .exc c _ M' => .exc c M'
  | _ => .stuck
@[simp] theorem RS.toR_nx (e : EN) (M : List MO) : (RS.nx e M).toR = .ok .non M := rfl
@[simp] theorem RS.toR_ret (d : D) (M : List MO) : (RS.ret d M).toR = .ok d M := rfl
@[simp] theorem RS.toR_exc (c : Str) (e : EN) (M : List MO) : (RS.exc c e M).toR = .exc c M := rfl
@[simp] theorem RS.toR_stuck : (RS.stuck).toR = .stuck := rfl
/-- a def of np parameters and n slots -/
def mOf (np n : Nat) (sv : SV) : List D → List MO → R D := fun ds M => if ds.length = np then (sv (startE n ds) M).toR else .stuck
def spOf (C : Kx) (m : List D → List MO → R D) : Sp := fun vs H Q E => ∃ F L G M ds, Ok C F L G M H ∧ RpL C L G vs ds ∧ (match m ds M with
  | .ok d M' => ∀ v L' G' H', Ok C F L' G' M' H' → Ext L G L' G' → Rp C L' G' v d → Q v H'
  | .exc c M' => ∀ L' G' H' u, Ok C F L' G' M' H' → Ext L G L' G' → C.mg c = some u → E u none H'
  | .stuck => False)
structure Has (P : Program) (w : World) (C : Kx) (base : Heap) (x : Str) (k : Nat) (m : List D → List MO → R D) : Prop where
  ex : ∃ (f : Addr) (fd : FuncData) (ps : List Str), FnOk P w C.K C.mg base (L2.CX P w) k f fd ps (spOf C m) ∧ C.mg x = some (.ref f) ∧ PySem.W.keepIn C.K (.ref f) = true ∧ Binds C.K fd ps []
theorem Has.mono {P : Program} {w : World} {C : Kx} {base : Heap} {x : Str} {k k' : Nat} {m : List D → List MO → R D} (h : Has P w C base x k m) (e : k ≤ k') : Has P w C base x k' m := by
  obtain ⟨f, fd, ps, F, r⟩ := h.ex
  exact ⟨f, fd, ps, F.mono e, r⟩
/-- a plainer function that agrees where it is not stuck -/
theorem Has.imp {P : Program} {w : World} {C : Kx} {base : Heap} {x : Str} {k : Nat} {m m' : List D → List MO → R D} (h : Has P w C base x k m) (e : ∀ ds M, m' ds M = .stuck ∨ m ds M = m' ds M) : Has P w C base x k m' := by
  obtain ⟨f, fd, ps, F, r⟩ := h.ex
  refine ⟨f, fd, ps, F.imp ?_, r⟩
  rintro vs H Q E ⟨F, L, G, M, ds, o, r, h⟩
  rcases e ds M with z | z
  · rw [z] at h; exact h.elim
  · exact ⟨F, L, G, M, ds, o, r, by rw [z]; exact h⟩
theorem hoCall {m : List D → List MO → R D} {t : TA} {ea : EA} (q : HoA X W t ea) : HoE X W (tCallS (spOf (kx X) m) (WE W) t) (eArgs m ea) := by
  intro F e M σ L G H Q o re h
  refine q F e M σ L G H _ o re ((Aft.bind h).imp fun ds M1 L1 G1 H1 o1 x1 h1 vs r => ⟨F, L1, G1, M1, ds, o1, r, ?_⟩)
  cases hm : m ds M1 with
  | ok d M' => rw [hm] at h1; exact fun v L' G' H' o' x' r' => h1 L' G' H' o' x' v r'
  | exc c M' => rw [hm] at h1; exact fun L' G' H' u o' x' q' => h1 L' G' H' u o' x' q'
  | stuck => rw [hm] at h1; exact h1.elim
theorem pd_call {x : Str} {k k' : Nat} {m : List D → List MO → R D} {a : Expr} {es : List Expr} {ea : EA} {p pos : Pos} (h : Has X.prog X.w (kx X) X.base x k m) (hr : Room k' X.A) (tk : Takes X W) (ha : PAD X W (a :: es) ea) (hk' : k ≤ k' := by decide) (hg : Gl X x := by rfl)
    (hdb : (x == ("__debug__" : Str)) = false := by decide) (hs : starEach (a :: es) X.env = (false, eval a X.env) :: starEach es X.env := by rfl) (hpl : (backTo pos (starEach es X.env)).any (·.1) = false := by rfl) : PD X W (.Call (.Name x p) (a :: es) [] pos) (eArgs m ea) := by
  obtain ⟨f, fd, ps, F, hm, hk, hb⟩ := h.ex
  obtain ⟨t, pa, q⟩ := ha
  exact ⟨_, pe_callS F (hr.mono hk') hg hm hk hb (fun σ => passAt tk σ) pa hdb hs hpl, hoCall q⟩
theorem RpE.start {C : Kx} {L : List Addr} {G : Hp} {N : List Str} {vs : List V} {ds : List D} (r : RpL C L G vs ds) : RpE C L G (start N vs) (startE N.length ds) := by
  refine ⟨by simp [L2.start, startE, r.length], fun i d q => ?_⟩
  unfold startE at q
  by_cases hi : i < ds.length
  · rw [List.getElem?_append_left (by simpa using hi), List.getElem?_map, List.getElem?_eq_getElem hi] at q
    cases q
    obtain ⟨v, h1, h2⟩ := r.get (List.getElem?_eq_getElem hi)
    refine ⟨v, ?_, h2⟩
    unfold L2.start
    rw [List.getElem?_append_left (by simpa [r.length] using hi), List.getElem?_map, h1]
    rfl
  · rw [List.getElem?_append_right (by simpa using hi), List.getElem?_replicate] at q
    split at q <;> cases q
/-- THE RULE for a def -/
theorem fn_has {P : Program} {w : World} {C : Kx} {base : Heap} {x qual : Str} {st : Stmt} {f : Addr} {fd : FuncData} {N ps : List Str} {k : Nat} {sv : SV} (F : Fun C.K x qual st f fd) (S : FnScope N ps (defScope st)) (gf : C.mg x = some (.ref f)) (b : Binds C.K fd ps [])
    (hb : ∀ (cdv : Value) (A : Around) (outer : List Env) (s : Shared) (H : Hp) (E : XK), Room k (A.deeper (envOfC qual (defScope st) s.heap.objs.size f cdv)) →
      PSsD (cxOf (L2.CX P w) P w C.K C.mg base N qual (defScope st) f cdv A outer s H E) (fun cls d _ H => E cls d H) (defBody st) sv) : Has P w C base x (k + 1) (mOf ps.length N.length sv) := by
  refine ⟨f, fd, ps, F.okX S (fun vs H Q E h => ?_) (fun cdv A outer s H vs Q E hr h => ?_), gf, F.kp, b⟩
  · obtain ⟨F, L, G, M, ds, o, r, h⟩ := h
    unfold mOf at h
    by_cases hl : ds.length = ps.length
    · rw [r.length]; exact hl
    · rw [if_neg hl] at h; exact h.elim
  · obtain ⟨t, p, q⟩ := hb cdv A outer s H E hr
    obtain ⟨F, L, G, M, ds, o, r, h⟩ := h
    refine ⟨t, p, q F (startE N.length ds) M (start N vs) L G H _ o (RpE.start r) ?_⟩
    unfold mOf at h
    by_cases hl : ds.length = ps.length
    · rw [if_pos hl] at h
      cases hs : sv (startE N.length ds) M with
      | nx e M' => rw [hs] at h; exact fun σ' L' G' H' o' x' _ => h .non L' G' H' o' x' .non
      | ret d M' => rw [hs] at h; exact fun v L' G' H' o' x' r' => h v L' G' H' o' x' r'
      | brk e M' => rw [hs] at h; exact h.elim
      | cnt e M' => rw [hs] at h; exact h.elim
      | exc c e M' => rw [hs] at h; exact fun σ' L' G' H' u o' x' _ q' => h L' G' H' u o' x' q'
      | stuck => rw [hs] at h; exact h.elim
    · rw [if_neg hl] at h; exact h.elim
end
end KB
namespace KB
open PySem PySem.Spec PyProof.Rows L2
/-! ### model's rules that the layer lacks -/
section
variable {prog : Program} {w : World} {A : Around} {E : Value → Shared → Prop} {s : Shared}
theorem noI_tuple_add : typeLookup (.type "tuple") (dunderI "add") = pure none := by rw [typeLookup_type, builtinLookup_eq_fast]; kernel_rfl
theorem icat_tup0 {t b : Addr} {ws : List Value} {Q : Value → Shared → Prop} (ht : IsTup s.heap t ([] : List Value).toArray) (hb : IsTup s.heap b ws.toArray) (h : Q (.ref b) s) : wpAny (model prog w) A (inplaceOp .Add (.ref t) (.ref b)) Q E s := by
  obtain ⟨⟨cls, dd, data, sl⟩, ho, hc, n, hd⟩ := id ht
  obtain ⟨⟨cls2, dd2, data2, sl2⟩, ho2, hc2, n2, hd2⟩ := id hb
  simp only at hc hd hc2 hd2
  subst hc hd hc2 hd2
  exact wpAny_inplaceOp_concat ⟨_, ho, rfl⟩ ⟨_, ho2, rfl⟩ noI_tuple_add noFill_tuple_add seq_tuple_add (call_meets PySem.F.slot_tuple_add ⟨_, ho, rfl⟩ PySem.F.entry_tuple_add (PySem.F.args_tuple_add_2 _ _)
    (tuple_addW0 t b ([] : List Value).toArray ws.toArray n n2 dd dd2 sl sl2 (by simp)) ⟨ho, ho2, h⟩)
theorem icat_tup {t b : Addr} {vs ws : List Value} {Q : Value → Shared → Prop} (ht : IsTup s.heap t vs.toArray) (hb : IsTup s.heap b ws.toArray) (hv : vs ≠ [])
    (h1 : ws = [] → Q (.ref t) s) (h2 : ws ≠ [] → Q (.ref s.heap.objs.size) { s with heap := s.heap.push { cls := .type "tuple", data := .seq (vs ++ ws).toArray } })
    (hsz : vs.length + ws.length ≤ sizeLine) : wpAny (model prog w) A (inplaceOp .Add (.ref t) (.ref b)) Q E s := by
  obtain ⟨⟨cls, dd, data, sl⟩, ho, hc, n, hd⟩ := id ht
  obtain ⟨⟨cls2, dd2, data2, sl2⟩, ho2, hc2, n2, hd2⟩ := id hb
  simp only at hc hd hc2 hd2
  subst hc hd hc2 hd2
  have e : vs.toArray ++ ws.toArray = (vs ++ ws).toArray := by simp
  by_cases hw : ws = []
  · exact wpAny_inplaceOp_concat ⟨_, ho, rfl⟩ ⟨_, ho2, rfl⟩ noI_tuple_add noFill_tuple_add seq_tuple_add (call_meets PySem.F.slot_tuple_add ⟨_, ho, rfl⟩ PySem.F.entry_tuple_add (PySem.F.args_tuple_add_2 _ _)
      (tuple_addW1 t b vs.toArray ws.toArray n n2 dd dd2 sl sl2 (by simpa using hv) (by simp [hw])) ⟨ho, ho2, h1 hw⟩)
  · refine wpAny_inplaceOp_concat ⟨_, ho, rfl⟩ ⟨_, ho2, rfl⟩ noI_tuple_add noFill_tuple_add seq_tuple_add (call_meets PySem.F.slot_tuple_add ⟨_, ho, rfl⟩ PySem.F.entry_tuple_add (PySem.F.args_tuple_add_2 _ _)
      (tuple_addW2 t b vs.toArray ws.toArray n n2 dd dd2 sl sl2 (by simpa using hv) (by simpa using hw) (by rw [List.size_toArray, List.size_toArray]; exact hsz)) ⟨ho, ho2, ?_⟩)
    rw [e]
    exact h2 hw
end
section
variable {X : Cx} {W : WX}
theorem iop_catA : OpR X (inplaceOp .Add) (rCatA X.K) := by
  intro pins s σ H x y v u Q I rx ry h
  obtain ⟨a, b, xs, ys, rfl, rfl, ha, hb, hz, q0, q1, q2⟩ := h
  cases rx
  cases ry
  obtain ⟨its, r1, p1, _⟩ := I.tuple ha
  obtain ⟨its2, r2, p2, _⟩ := I.tuple hb
  by_cases hx : xs = []
  · subst hx
    cases r1
    exact icat_tup0 p1 p2 ⟨.ref b, H, I, rfl, q0 rfl⟩
  · refine icat_tup p1 p2 (fun z => hx (r1.nil_iff.mp z)) (fun z => ⟨.ref a, H, I, rfl, q1 hx (r2.nil_iff.mp z)⟩) (fun z => ?_) (by rw [← r1.length, ← r2.length]; exact hz)
    have hf : H s.heap.objs.size = none := I.hok.fresh (Nat.le_refl _)
    refine ⟨.ref s.heap.objs.size, upd H s.heap.objs.size (.tup (xs ++ ys)), I.laid (t' := s.toks) (fun b u e => Heap.get?_push_of_some _ e) (Nat.le_refl _) ?_, rfl, q2 hx (fun e => z (r2.nil_iff.mpr e)) _ hf⟩
    exact ⟨by simpa using hz, its ++ its2, r1.append r2, ⟨_, Heap.get?_push_size _ rfl, rfl, _, rfl⟩⟩

/-! ### + -/
def fAdd (x y : D) (M : List MO) : R D := match res M x, res M y with
  | .int i, .int j => .ok (.int (i + j)) M
  | .tup a, .tup b => if a.length + b.length ≤ big then .ok (.tup (a ++ b)) M else .stuck
  | .lst a, .lst b => if a.length + b.length ≤ big then .ok (.lst (a ++ b)) M else .stuck
  | .str a, .str b => if a.length + b.length ≤ big then .ok (.str (a ++ b)) M else .stuck
  | _, _ => .stuck
def fAddC (x y : D) (M : List MO) : R D := match res M x, res M y with
  | .lst a, .lst b => if a.length + b.length ≤ big then .ok (.cell M.length) (M ++ [.lst (a ++ b)]) else .stuck
  | _, _ => .stuck
theorem catA_D {x y : V} {dx dy : D} {M : List MO} {F : Hp} {L : List Addr} {G H : Hp} {σ : L2.St} {Q : VK} {a b : List D} (o : Ok (kx X) F L G M H) (rx : Rp (kx X) L G x dx) (ry : Rp (kx X) L G y dy) (ex : res M dx = .tup a) (ey : res M dy = .tup b)
    (h : Aft X W F σ (kE X Q) L G (if a.length + b.length ≤ big then .ok (.tup (a ++ b)) M else .stuck)) : rCatA X.K x y H Q := by
  split at h
  · rename_i hz
    obtain ⟨p, vs, rfl, sx, lx⟩ := o.viewT rx ex
    obtain ⟨q, ws, rfl, sy, ly⟩ := o.viewT ry ey
    refine ⟨p, q, vs, ws, rfl, rfl, sx, sy, by rw [lx.length, ly.length]; exact big_line hz, fun z => ?_, fun _ z => ?_, fun _ _ => newT o (lx.append ly) h⟩
    · subst z
      cases a with
      | cons _ _ => cases lx
      | nil =>
        cases ry with
        | tup k1 k2 => cases ey; exact aok h o _ (by rw [List.nil_append]; exact .tup k1 k2)
        | cell => rename_i n _; rcases res_cell M n with z | ⟨_, z⟩ <;> rw [z] at ey <;> cases ey
        | _ => cases ey
    · subst z
      cases b with
      | cons _ _ => cases ly
      | nil =>
        cases rx with
        | tup k1 k2 => cases ex; exact aok h o _ (by rw [List.append_nil]; exact .tup k1 k2)
        | cell => rename_i n _; rcases res_cell M n with z | ⟨_, z⟩ <;> rw [z] at ex <;> cases ex
        | _ => cases ex
  · exact h.elim
def rAddU (K : PySem.W.Frag) : R2 := fun x y H Q => rI0 (fun i j => .int (i + j)) x y H Q ∨ rCatA K x y H Q ∨ rCat x y H Q ∨ (∃ i j, x = .str i ∧ y = .str j ∧ i.length + j.length ≤ sizeLine ∧ Q (.str (i ++ j)) H)
theorem opAdd : OpR X (binaryOp .Add) (rAddU X.K) := op_add.or (op_catA.or (op_cat.or op_add_str))
theorem dAdd : OpD X W (rAddU X.K) fAdd := by
  intro x y dx dy M F L G H σ Q o rx ry h
  unfold fAdd at h
  split at h
  · rename_i i j ex ey
    exact .inl ⟨i, j, viewI rx ex, viewI ry ey, aok h o _ (.int _)⟩
  · rename_i a b ex ey
    exact .inr (.inl (catA_D o rx ry ex ey h))
  · rename_i a b ex ey
    split at h
    · rename_i hz
      obtain ⟨p, vs, rfl, sx, lx⟩ := o.viewL rx ex
      obtain ⟨q, ws, rfl, sy, ly⟩ := o.viewL ry ey
      exact .inr (.inr (.inl ⟨p, q, vs, ws, rfl, rfl, sx, sy, by rw [lx.length, ly.length]; exact big_line hz, newL o (lx.append ly) h⟩))
    · exact h.elim
  · rename_i a b ex ey
    split at h
    · rename_i hz
      exact .inr (.inr (.inr ⟨a, b, viewS rx ex, viewS ry ey, big_line hz, aok h o _ (.str _)⟩))
    · exact h.elim
  · exact h.elim
theorem dAddC : OpD X W (rAddU X.K) fAddC := by
  intro x y dx dy M F L G H σ Q o rx ry h
  unfold fAddC at h
  split at h
  · rename_i a b ex ey
    split at h
    · rename_i hz
      obtain ⟨p, vs, rfl, sx, lx⟩ := o.viewL rx ex
      obtain ⟨q, ws, rfl, sy, ly⟩ := o.viewL ry ey
      exact .inr (.inr (.inl ⟨p, q, vs, ws, rfl, rfl, sx, sy, by rw [lx.length, ly.length]; exact big_line hz, newC o (lx.append ly) h⟩))
    · exact h.elim
  · exact h.elim
def rIAddU (K : PySem.W.Frag) : R2 := fun x y H Q => rI0 (fun i j => .int (i + j)) x y H Q ∨ rCatA K x y H Q
theorem iopAdd : OpR X (inplaceOp .Add) (rIAddU X.K) := iop_add.or iop_catA
def fIAdd (x y : D) (M : List MO) : R D := match res M x, res M y with
  | .int i, .int j => .ok (.int (i + j)) M
  | .tup a, .tup b => if a.length + b.length ≤ big then .ok (.tup (a ++ b)) M else .stuck
  | _, _ => .stuck
theorem dIAdd : OpD X W (rIAddU X.K) fIAdd := by
  intro x y dx dy M F L G H σ Q o rx ry h
  unfold fIAdd at h
  split at h
  · rename_i i j ex ey
    exact .inl ⟨i, j, viewI rx ex, viewI ry ey, aok h o _ (.int _)⟩
  · rename_i a b ex ey
    exact .inr (catA_D o rx ry ex ey h)
  · exact h.elim
/-! ### ints -/
def fI (c : Int → Int → Bool) (g : Int → Int → Int) (x y : D) (M : List MO) : R D := match res M x, res M y with
  | .int i, .int j => if c i j then .ok (.int (g i j)) M else .stuck
  | _, _ => .stuck
theorem dI {C : Int → Int → Prop} {c : Int → Int → Bool} {g : Int → Int → Int} (hc : ∀ i j, c i j = true → C i j) : OpD X W (rI C fun i j => .int (g i j)) (fI c g) := by
  intro x y dx dy M F L G H σ Q o rx ry h
  unfold fI at h
  split at h
  · rename_i i j ex ey
    split at h
    · rename_i hz
      exact ⟨i, j, viewI rx ex, viewI ry ey, hc i j hz, aok h o _ (.int _)⟩
    · exact h.elim
  · exact h.elim
theorem dI0 {g : Int → Int → Int} : OpD X W (rI0 fun i j => .int (g i j)) (fI (fun _ _ => true) g) := by
  intro x y dx dy M F L G H σ Q o rx ry h
  unfold fI at h
  split at h
  · rename_i i j ex ey
    exact ⟨i, j, viewI rx ex, viewI ry ey, aok h o _ (.int _)⟩
  · exact h.elim
def fSub : D → D → List MO → R D := fI (fun _ _ => true) (fun i j => i - j)
theorem dSub : OpD X W (rI0 fun i j => .int (i - j)) fSub := dI0
def w64 (i : Int) : Bool := decide (-(2 ^ 64) < i ∧ i < 2 ^ 64)
def cMul (i j : Int) : Bool := w64 i || w64 j
theorem cMul_ok (i j : Int) (h : cMul i j = true) : CMul i j := by
  unfold cMul w64 at h
  rw [Bool.or_eq_true, decide_eq_true_eq, decide_eq_true_eq] at h
  exact h
def cDiv (i j : Int) : Bool := decide (0 < j ∧ j ≤ 2 ^ 80)
theorem cDiv_ok (i j : Int) (h : cDiv i j = true) : CDivW i j := by
  obtain ⟨h1, h2⟩ := of_decide_eq_true h
  refine wide_div (b := 81) h1 ?_ (by decide) (by decide)
  have : j.natAbs ≤ 2 ^ 80 := by omega
  omega
def fFdiv : D → D → List MO → R D := fI cDiv (fun i j => i / j)
theorem dFdiv : OpD X W (rI CDivW fun i j => .int (i / j)) fFdiv := dI cDiv_ok
theorem iop_fdivW : OpR X (inplaceOp .FloorDiv) (rI CDiv fun i j => .int (i / j)) := iop_fdiv
def cDivS (i j : Int) : Bool := decide (0 < j ∧ j < 1073741824)
def fIFdiv : D → D → List MO → R D := fI cDivS (fun i j => i / j)
theorem dIFdiv : OpD X W (rI CDiv fun i j => .int (i / j)) fIFdiv := dI fun i j h => by
  have q : 0 < j ∧ j < 1073741824 := of_decide_eq_true h
  exact ⟨q.1, q.2⟩
def fMod : D → D → List MO → R D := fI (fun _ j => decide (0 < j)) (fun i j => i % j)
theorem dMod : OpD X W (rI (fun _ j => 0 < j) fun i j => .int (i % j)) fMod := dI fun i j h => of_decide_eq_true h
def cPow (i j : Int) : Bool := decide (0 ≤ j ∧ j ≤ 1000 ∧ i.natAbs < 2 ^ 64)
def fPow : D → D → List MO → R D := fI cPow (fun i j => i ^ j.toNat)
theorem dPow : OpD X W (rI CPow fun i j => .int (i ^ j.toNat)) fPow := dI fun i j h => by
  obtain ⟨h1, h2, h3⟩ := of_decide_eq_true h
  exact ⟨h1, by omega, h3⟩
def fIMul : D → D → List MO → R D := fI cMul (fun i j => i * j)
theorem dIMul : OpD X W (rI CMul fun i j => .int (i * j)) fIMul := dI cMul_ok
def fISub : D → D → List MO → R D := fI (fun _ _ => true) (fun i j => i - j)
theorem dISub : OpD X W (rI0 fun i j => .int (i - j)) fISub := dI0
def fNeg (x : D) (M : List MO) : R D := match x with
  | .int i => .ok (.int (-i)) M
  | _ => .stuck
theorem dNeg : UnD X W (rU fun i => .int (-i)) fNeg := by
  intro x dx M F L G H σ Q o rx h
  unfold fNeg at h
  split at h
  · rename_i i; cases rx; exact ⟨i, rfl, aok h o _ (.int _)⟩
  · exact h.elim
/-! ### order -/
def ints? : List D → Option (List Int)
  | [] => some []
  | .int i :: ds => (ints? ds).map (i :: ·)
  | _ => none
theorem ints_V {C : Kx} {L : List Addr} {G : Hp} : ∀ {ds : List D} {vs : List V} {ns : List Int}, RpL C L G vs ds → ints? ds = some ns → vs = ns.map V.int
  | [], _, _, h, e => by cases h; cases e; rfl
  | d :: ds, _, ns, h, e => by
    cases h with
    | cons h1 h2 =>
      cases h1 with
      | int i =>
        unfold ints? at e
        cases q : ints? ds with
        | none => rw [q] at e; cases e
        | some ms => rw [q] at e; cases e; rw [ints_V h2 q]; rfl
      | _ => cases e
@[simp] theorem ints_map (ns : List Int) : ints? (ns.map D.int) = some ns := by
  induction ns with
  | nil => rfl
  | cons n ns ih => simp [ints?, ih]
theorem lexAt_shift (e r : Nat → Bool) (z : Bool) : ∀ (k i : Nat), Ob.lexAt e r z (i + 1) k = Ob.lexAt (fun j => e (j + 1)) (fun j => r (j + 1)) z i k
  | 0, _ => rfl
  | k + 1, i => by rw [Ob.lexAt_succ, Ob.lexAt_succ, lexAt_shift e r z k (i + 1)]
theorem lexAt_congr {e e' r r' : Nat → Bool} {z z' : Bool} (he : ∀ j, e j = e' j) (hr : ∀ j, r j = r' j) (hz : z = z') : ∀ (k i : Nat), Ob.lexAt e r z i k = Ob.lexAt e' r' z' i k := by
  have h1 : e = e' := funext he
  have h2 : r = r' := funext hr
  subst h1 h2 hz
  intros; rfl
theorem lex_le : ∀ (ns ms : List Int), Ob.lexAt (fun j => decide (ns.getD j 0 = ms.getD j 0)) (fun j => decide (ns.getD j 0 ≤ ms.getD j 0)) (decide (ns.length ≤ ms.length)) 0 (min ns.length ms.length) = !HT.lexLt ms ns
  | [], [] => rfl
  | [], m :: ms => by simp [HT.lexLt, Ob.lexAt]
  | n :: ns, [] => by simp [HT.lexLt, Ob.lexAt]
  | n :: ns, m :: ms => by
    have ih := lex_le ns ms
    have em : min (n :: ns).length (m :: ms).length = min ns.length ms.length + 1 := by simp only [List.length_cons]; omega
    rw [em, Ob.lexAt_succ, lexAt_shift]
    rw [HT.lexLt_cons]
    by_cases h : n = m
    · subst h
      simp only [List.getD_cons_zero, List.getD_cons_succ, decide_true, if_true]
      rw [← ih]
      exact lexAt_congr (fun _ => rfl) (fun _ => rfl) (by simp) _ _
    · simp only [List.getD_cons_zero]
      rw [if_neg (by simpa using h), if_neg (fun z => h z.symm)]
      by_cases h2 : m < n
      · rw [decide_eq_true h2, decide_eq_false (by omega)]; rfl
      · rw [decide_eq_false h2, decide_eq_true (by omega)]; rfl
theorem lex_gt : ∀ (ns ms : List Int), Ob.lexAt (fun j => decide (ns.getD j 0 = ms.getD j 0)) (fun j => decide (ms.getD j 0 < ns.getD j 0)) (decide (ns.length > ms.length)) 0 (min ns.length ms.length) = HT.lexLt ms ns
  | [], [] => rfl
  | [], m :: ms => by simp [HT.lexLt, Ob.lexAt]
  | n :: ns, [] => by simp [HT.lexLt, Ob.lexAt]
  | n :: ns, m :: ms => by
    have ih := lex_gt ns ms
    have em : min (n :: ns).length (m :: ms).length = min ns.length ms.length + 1 := by simp only [List.length_cons]; omega
    rw [em, Ob.lexAt_succ, lexAt_shift]
    rw [HT.lexLt_cons]
    by_cases h : n = m
    · subst h
      simp only [List.getD_cons_zero, List.getD_cons_succ, decide_true, if_true]
      rw [← ih]
      exact lexAt_congr (fun _ => rfl) (fun _ => rfl) (by simp) _ _
    · simp only [List.getD_cons_zero]
      rw [if_neg (by simpa using h), if_neg (fun z => h z.symm)]
theorem lex_ge : ∀ (ns ms : List Int), Ob.lexAt (fun j => decide (ns.getD j 0 = ms.getD j 0)) (fun j => decide (ms.getD j 0 ≤ ns.getD j 0)) (decide (ns.length ≥ ms.length)) 0 (min ns.length ms.length) = !HT.lexLt ns ms
  | [], [] => rfl
  | [], m :: ms => by simp [HT.lexLt, Ob.lexAt]
  | n :: ns, [] => by simp [HT.lexLt, Ob.lexAt]
  | n :: ns, m :: ms => by
    have ih := lex_ge ns ms
    have em : min (n :: ns).length (m :: ms).length = min ns.length ms.length + 1 := by simp only [List.length_cons]; omega
    rw [em, Ob.lexAt_succ, lexAt_shift]
    rw [HT.lexLt_cons]
    by_cases h : n = m
    · subst h
      simp only [List.getD_cons_zero, List.getD_cons_succ, decide_true, if_true]
      rw [← ih]
      exact lexAt_congr (fun _ => rfl) (fun _ => rfl) (by simp) _ _
    · simp only [List.getD_cons_zero]
      rw [if_neg (by simpa using h), if_neg h]
      by_cases h2 : n < m
      · rw [decide_eq_true h2, decide_eq_false (by omega)]; rfl
      · rw [decide_eq_false h2, decide_eq_true (by omega)]; rfl
def rOrdT (K : PySem.W.Frag) (f : List Int → List Int → Bool) : R2 := fun x y H Q => ∃ (a b : Addr) (ns ms : List Int), x = .ref a ∧ y = .ref b ∧ SqT K H a (ns.map V.int) ∧ SqT K H b (ms.map V.int) ∧ Q (.bl (f ns ms)) H
theorem op_leT' (hu : X.A.units < cLine) : OpR X (compareOp .LtE) (rOrdT X.K fun a b => !HT.lexLt b a) := by
  intro pins s σ H x y v u Q I rx ry h
  obtain ⟨a, b, ns, ms, rfl, rfl, ha, hb, q⟩ := h
  exact op_leT hu pins s σ H _ _ v u Q I rx ry ⟨a, b, ns, ms, rfl, rfl, ha, hb, by rw [lex_le]; exact q⟩
theorem at_ints {its : List Value} {ns : List Int} (i1 : IntsAre its ns) : ∀ j (h1 : j < its.toArray.size), ∃ t, its.toArray[j] = .int (ns.getD j 0) t := fun j h1 => PyProof.Rows.IntsAre.int_at i1 _ _ (by simp at h1; simp [h1])
theorem beq_dec (a b : Int) : (a == b) = decide (a = b) := by
  by_cases q : a = b
  · rw [decide_eq_true q]; exact beq_iff_eq.mpr q
  · rw [decide_eq_false q]; exact beq_eq_false_iff_ne.mpr q
theorem op_gtT' (hu : X.A.units < cLine) : OpR X (compareOp .Gt) (rOrdT X.K fun a b => HT.lexLt b a) := by
  intro pins s σ H x y v u Q I rx ry h
  obtain ⟨a, b, ns, ms, rfl, rfl, ha, hb, q⟩ := h
  cases rx
  cases ry
  obtain ⟨its, r1, p1, _⟩ := I.tuple ha
  obtain ⟨its2, r2, p2, _⟩ := I.tuple hb
  have i1 : IntsAre its ns := Vals.ints r1
  have i2 : IntsAre its2 ms := Vals.ints r2
  have e1 : its.toArray.size = ns.length := by rw [List.size_toArray]; exact i1.length
  have e2 : its2.toArray.size = ms.length := by rw [List.size_toArray]; exact i2.length
  have R := Ob.RcOp.tuples_gt (A := X.A) (s := s) (e := fun j => decide (ns.getD j 0 = ms.getD j 0)) (r := fun j => decide (ms.getD j 0 < ns.getD j 0)) p1 p2 hu (fun j h1 h2 => by
    obtain ⟨t, et⟩ := at_ints i1 j h1
    obtain ⟨t', et'⟩ := at_ints i2 j h2
    rw [et, et', ← beq_dec]
    exact SeqAt.EqAt.int_int _ _ _ _) (fun j h1 h2 _ => by
    obtain ⟨t, et⟩ := at_ints i1 j h1
    obtain ⟨t', et'⟩ := at_ints i2 j h2
    rw [et, et']
    exact Ob.RcOp.gt_int _ _ _ _)
  rw [e1, e2, lex_gt] at R
  exact R X.prog X.w X.xe (EP X pins σ Q) ⟨.bl _, H, I, rfl, q⟩
theorem op_geT' (hu : X.A.units < cLine) : OpR X (compareOp .GtE) (rOrdT X.K fun a b => !HT.lexLt a b) := by
  intro pins s σ H x y v u Q I rx ry h
  obtain ⟨a, b, ns, ms, rfl, rfl, ha, hb, q⟩ := h
  cases rx
  cases ry
  obtain ⟨its, r1, p1, _⟩ := I.tuple ha
  obtain ⟨its2, r2, p2, _⟩ := I.tuple hb
  have i1 : IntsAre its ns := Vals.ints r1
  have i2 : IntsAre its2 ms := Vals.ints r2
  have e1 : its.toArray.size = ns.length := by rw [List.size_toArray]; exact i1.length
  have e2 : its2.toArray.size = ms.length := by rw [List.size_toArray]; exact i2.length
  have R := Ob.RcOp.tuples_ge (A := X.A) (s := s) (e := fun j => decide (ns.getD j 0 = ms.getD j 0)) (r := fun j => decide (ms.getD j 0 ≤ ns.getD j 0)) p1 p2 hu (fun j h1 h2 => by
    obtain ⟨t, et⟩ := at_ints i1 j h1
    obtain ⟨t', et'⟩ := at_ints i2 j h2
    rw [et, et', ← beq_dec]
    exact SeqAt.EqAt.int_int _ _ _ _) (fun j h1 h2 _ => by
    obtain ⟨t, et⟩ := at_ints i1 j h1
    obtain ⟨t', et'⟩ := at_ints i2 j h2
    rw [et, et']
    exact Ob.RcOp.ge_int _ _ _ _)
  rw [e1, e2, lex_ge] at R
  exact R X.prog X.w X.xe (EP X pins σ Q) ⟨.bl _, H, I, rfl, q⟩
/-- < of ints, of byte strings -/
def fOrd (g : Int → Int → Bool) (f : List Int → List Int → Bool) (x y : D) (M : List MO) : R D := match res M x, res M y with
  | .int i, .int j => .ok (.bl (g i j)) M
  | .tup a, .tup b => match ints? a, ints? b with
    | some ns, some ms => .ok (.bl (f ns ms)) M
    | _, _ => .stuck
  | _, _ => .stuck
theorem dOrd {g : Int → Int → Bool} {f : List Int → List Int → Bool} : OpD X W (fun x y H Q => rI0 (fun i j => .bl (g i j)) x y H Q ∨ rOrdT X.K f x y H Q) (fOrd g f) := by
  intro x y dx dy M F L G H σ Q o rx ry h
  unfold fOrd at h
  split at h
  · rename_i i j ex ey
    exact .inl ⟨i, j, viewI rx ex, viewI ry ey, aok h o _ (.bl _)⟩
  · rename_i a b ex ey
    split at h
    · rename_i ns ms en em
      obtain ⟨p, vs, rfl, sx, lx⟩ := o.viewT rx ex
      obtain ⟨q, ws, rfl, sy, ly⟩ := o.viewT ry ey
      rw [ints_V lx en] at sx
      rw [ints_V ly em] at sy
      exact .inr ⟨p, q, ns, ms, rfl, rfl, sx, sy, aok h o _ (.bl _)⟩
    · exact h.elim
  · exact h.elim
def fLt : D → D → List MO → R D := fOrd (fun i j => decide (i < j)) HT.lexLt
def fLe : D → D → List MO → R D := fOrd (fun i j => decide (i ≤ j)) (fun a b => !HT.lexLt b a)
def fGt : D → D → List MO → R D := fOrd (fun i j => decide (j < i)) (fun a b => HT.lexLt b a)
def fGe : D → D → List MO → R D := fOrd (fun i j => decide (j ≤ i)) (fun a b => !HT.lexLt a b)
theorem opLt (hu : X.A.units < cLine) : OpR X (compareOp .Lt) (fun x y H Q => rI0 (fun i j => .bl (decide (i < j))) x y H Q ∨ rOrdT X.K HT.lexLt x y H Q) := op_lt.or (op_ltT hu)
theorem opLe (hu : X.A.units < cLine) : OpR X (compareOp .LtE) (fun x y H Q => rI0 (fun i j => .bl (decide (i ≤ j))) x y H Q ∨ rOrdT X.K (fun a b => !HT.lexLt b a) x y H Q) := op_le.or (op_leT' hu)
theorem opGt (hu : X.A.units < cLine) : OpR X (compareOp .Gt) (fun x y H Q => rI0 (fun i j => .bl (decide (j < i))) x y H Q ∨ rOrdT X.K (fun a b => HT.lexLt b a) x y H Q) := op_gt.or (op_gtT' hu)
theorem opGe (hu : X.A.units < cLine) : OpR X (compareOp .GtE) (fun x y H Q => rI0 (fun i j => .bl (decide (j ≤ i))) x y H Q ∨ rOrdT X.K (fun a b => !HT.lexLt a b) x y H Q) := op_ge.or (op_geT' hu)
/-! ### == -/
mutual
def toP : D → PyData
  | .non => .none
  | .bl b => .bool b
  | .int i => .int i
  | .str s => .str s
  | .tup ds => .tuple (toPs ds)
  | .lst ds => .list (toPs ds)
  | .scr ds => .list (toPs ds)
  | .cell _ => .dict []
  | .exc _ => .dict []
def toPs : List D → List PyData
  | [] => []
  | d :: ds => toP d :: toPs ds
end
def shp (d : D) : Bool := SeqAt.shaped (toP d)
mutual
theorem dp_of {C : Kx} {L : List Addr} {G H : Hp} (s : Same G H) : ∀ (d : D) (v : V), Rp C L G v d → (toP d).canLay0 = true → Dp C.K H v (toP d)
  | .non, _, h, _ => by cases h; exact .non
  | .bl _, _, h, _ => by cases h; exact .bl _
  | .int _, _, h, _ => by cases h; exact .int _
  | .str _, _, h, _ => by cases h; exact .str _
  | .tup ds, _, h, z => by cases h with | tup h1 h2 => rw [toP] at z ⊢; exact .tup (Same.seqT s h1) (dp_all s ds _ h2 (by simpa [PyData.canLay0] using z))
  | .lst ds, _, h, z => by cases h with | lst h1 h2 => rw [toP] at z ⊢; exact .lst (.inl (.inl (s _ _ h1))) (dp_all s ds _ h2 (by simpa [PyData.canLay0] using z))
  | .scr ds, _, h, z => by cases h with | scr h1 h2 => rw [toP] at z ⊢; exact .lst (s.seq h1) (dp_all s ds _ h2 (by simpa [PyData.canLay0] using z))
  | .cell _, _, _, z => by simp [toP, PyData.canLay0] at z
  | .exc _, _, _, z => by simp [toP, PyData.canLay0] at z
theorem dp_all {C : Kx} {L : List Addr} {G H : Hp} (s : Same G H) : ∀ (ds : List D) (vs : List V), RpL C L G vs ds → PyData.canLayAll0 (toPs ds) = true → DpAll C.K H vs (toPs ds)
  | [], _, h, _ => by cases h; rw [toPs]; exact .nil
  | d :: ds, _, h, z => by
    cases h with
    | cons h1 h2 =>
      rw [toPs] at z ⊢
      have z' : (toP d).canLay0 = true ∧ PyData.canLayAll0 (toPs ds) = true := by simpa [PyData.canLayAll0] using z
      exact .cons (dp_of s d _ h1 z'.1) (dp_all s ds _ h2 z'.2)
end
theorem dp_res {C : Kx} {F : Hp} {L : List Addr} {G H : Hp} {M : List MO} {v : V} {d : D} (o : Ok C F L G M H) (r : Rp C L G v d) (z : shp (res M d) = true) : Dp C.K H v (toP (res M d)) := by
  have zc := SeqAt.canLay_of_shaped z
  cases r with
  | @cell a n h =>
    rcases res_cell M n with e | ⟨ds, e⟩
    · rw [e] at zc; simp [toP, PyData.canLay0] at zc
    · obtain ⟨a', vs, e', h1, h2⟩ := o.viewL (Rp.cell h) e
      cases e'
      rw [e] at zc ⊢
      rw [toP] at zc ⊢
      exact .lst (.inl (.inl h1)) (dp_all o.sub ds _ h2 (by simpa [PyData.canLay0] using zc))
  | non => exact dp_of (L := L) o.sub _ _ .non zc
  | bl => exact dp_of (L := L) o.sub _ _ (.bl _) zc
  | int => exact dp_of (L := L) o.sub _ _ (.int _) zc
  | str => exact dp_of (L := L) o.sub _ _ (.str _) zc
  | tup h1 h2 => exact dp_of o.sub _ _ (.tup h1 h2) zc
  | lst h1 h2 => exact dp_of o.sub _ _ (.lst h1 h2) zc
  | scr h1 h2 => exact dp_of o.sub _ _ (.scr h1 h2) zc
  | exc h1 h2 => exact absurd (show PyData.canLay0 (toP (.exc _)) = true from zc) (by simp [toP, PyData.canLay0])
def dEqv (x y : D) : Bool := PyData.eqv (toP x) (toP y)
def fEq (x y : D) (M : List MO) : R D := if shp (res M x) && shp (res M y) then .ok (.bl (dEqv (res M x) (res M y))) M else .stuck
def fNe (x y : D) (M : List MO) : R D := if shp (res M x) && shp (res M y) then .ok (.bl (!dEqv (res M x) (res M y))) M else .stuck
theorem dEq : OpD X W (rEqD X.K) fEq := by
  intro x y dx dy M F L G H σ Q o rx ry h
  unfold fEq at h
  split at h
  · rename_i hz
    rw [Bool.and_eq_true] at hz
    exact ⟨_, _, dp_res o rx hz.1, dp_res o ry hz.2, hz.1, hz.2, aok h o _ (.bl _)⟩
  · exact h.elim
theorem dNe : OpD X W (rNeD X.K) fNe := by
  intro x y dx dy M F L G H σ Q o rx ry h
  unfold fNe at h
  split at h
  · rename_i hz
    rw [Bool.and_eq_true] at hz
    exact ⟨_, _, dp_res o rx hz.1, dp_res o ry hz.2, hz.1, hz.2, aok h o _ (.bl _)⟩
  · exact h.elim
/-! ### is -/
def isNon : D → Bool
  | .non => true
  | _ => false
theorem isNon_V {C : Kx} {L : List Addr} {G : Hp} {v : V} {d : D} (r : Rp C L G v d) : decide (v = .non) = isNon d := by
  cases r <;> rfl
/-- x is None; x is True -/
def fIs (x y : D) (M : List MO) : R D := match x, y with
  | x, .non => .ok (.bl (isNon x)) M
  | .bl a, .bl b => .ok (.bl (decide (a = b))) M
  | _, _ => .stuck
def fIsNot (x y : D) (M : List MO) : R D := match x, y with
  | x, .non => .ok (.bl (!isNon x)) M
  | .bl a, .bl b => .ok (.bl (!decide (a = b))) M
  | _, _ => .stuck
theorem opIs : OpR X (compareOp .Is) (fun x y H Q => (y = .non ∧ Q (.bl (decide (x = .non))) H) ∨ rIsB x y H Q) := op_isN.or op_isBl
theorem opIsNot : OpR X (compareOp .IsNot) (fun x y H Q => (y = .non ∧ Q (.bl (!decide (x = .non))) H) ∨ rNotB x y H Q) := op_notN.or op_notBl
theorem dIs : OpD X W (fun x y H Q => (y = .non ∧ Q (.bl (decide (x = .non))) H) ∨ rIsB x y H Q) fIs := by
  intro x y dx dy M F L G H σ Q o rx ry h
  unfold fIs at h
  split at h
  · cases ry
    exact .inl ⟨rfl, by rw [isNon_V rx]; exact aok h o _ (.bl _)⟩
  · cases rx; cases ry
    exact .inr ⟨_, _, rfl, rfl, aok h o _ (.bl _)⟩
  · exact h.elim
theorem dIsNot : OpD X W (fun x y H Q => (y = .non ∧ Q (.bl (!decide (x = .non))) H) ∨ rNotB x y H Q) fIsNot := by
  intro x y dx dy M F L G H σ Q o rx ry h
  unfold fIsNot at h
  split at h
  · cases ry
    exact .inl ⟨rfl, by rw [isNon_V rx]; exact aok h o _ (.bl _)⟩
  · cases rx; cases ry
    exact .inr ⟨_, _, rfl, rfl, aok h o _ (.bl _)⟩
  · exact h.elim
end
end KB
namespace KB
open PySem PySem.Spec PyProof.Rows L2
section
variable {X : Cx} {W : WX}
/-! ### len -/
def fLen (ds : List D) (M : List MO) : R D := match ds with
  | [d] => match res M d with
    | .tup xs => .ok (.int xs.length) M
    | .lst xs => .ok (.int xs.length) M
    | .str z => if z.length ≤ big then .ok (.int z.length) M else .stuck
    | _ => .stuck
  | _ => .stuck
theorem one {C : Kx} {L : List Addr} {G : Hp} {vs : List V} {d : D} (h : RpL C L G vs [d]) : ∃ v, vs = [v] ∧ Rp C L G v d := by
  cases h with
  | cons h1 h2 => cases h2; exact ⟨_, rfl, h1⟩
theorem two {C : Kx} {L : List Addr} {G : Hp} {vs : List V} {d e : D} (h : RpL C L G vs [d, e]) : ∃ v w, vs = [v, w] ∧ Rp C L G v d ∧ Rp C L G w e := by
  cases h with
  | cons h1 h2 => cases h2 with
    | cons h3 h4 => cases h4; exact ⟨_, _, rfl, h1, h3⟩
theorem dLen : CallD X W (fun xs H Q => ∃ x n, xs = [x] ∧ LenV X.K x H n ∧ Q (.int n) H) fLen := by
  intro xs ds M F L G H σ Q o r h
  unfold fLen at h
  split at h
  · obtain ⟨v, rfl, rv⟩ := one r
    split at h
    · rename_i ys e
      obtain ⟨a, vs, rfl, s, l⟩ := o.viewT rv e
      exact ⟨_, vs.length, rfl, .inr ⟨vs, s, rfl⟩, by rw [l.length]; exact aok h o _ (.int _)⟩
    · rename_i ys e
      obtain ⟨a, vs, rfl, s, l⟩ := o.viewL rv e
      exact ⟨_, vs.length, rfl, .inl ⟨vs, .inl (.inl s), rfl⟩, by rw [l.length]; exact aok h o _ (.int _)⟩
    · rename_i z e
      split at h
      · rename_i hz
        rw [viewS rv e]
        exact ⟨_, z.length, rfl, ⟨big_line hz, rfl⟩, aok h o _ (.int _)⟩
      · exact h.elim
    · exact h.elim
  · exact h.elim
theorem pd_len {a : Expr} {p pos : Pos} {ea : EA} (hm : X.mg "len" = none) (ha : PAD X W [a] ea) (hg : Gl X "len" := by rfl) (hs : starEach [a] X.env = (false, eval a X.env) :: starEach [] X.env := by rfl) : PD X W (.Call (.Name "len" p) [a] [] pos) (eArgs fLen ea) :=
  pd_callB call_len dLen hg hm PySem.boot_len ha (by decide) (by decide) hs rfl
/-! ### isinstance -/
def isi (T : String) : D → Option Bool
  | .non => kitB "NoneType" T
  | .bl _ => kitB "bool" T
  | .int _ => kitB "int" T
  | .str _ => kitB "str" T
  | .tup _ => kitB "tuple" T
  | .lst _ => kitB "list" T
  | _ => none
def fIsi (T : String) (x : D) (M : List MO) : R D := match isi T (res M x) with
  | some b => .ok (.bl b) M
  | none => .stuck
theorem tyT {K : PySem.W.Frag} {H : Hp} {a : Addr} {vs : List V} (h : SqT K H a vs) : TyX K H (.ref a) (.type "tuple") := by
  rcases h with (h | ⟨o, h⟩) | ⟨o, its, n, h, c, _⟩
  · exact .base (.tup h)
  · exact .fTuple h
  · exact .kTuple h c
theorem isi_ty {F : Hp} {L : List Addr} {G H : Hp} {M : List MO} {v : V} {d : D} {T : String} {b : Bool} (o : Ok (kx X) F L G M H) (r : Rp (kx X) L G v d) (e : isi T (res M d) = some b) : ∃ t, TyX X.K H v t ∧ PySem.W.kitOne X.K t (.type T) = some b := by
  cases hd : res M d with
  | non => rw [hd] at e; rw [viewN r hd]; exact ⟨_, .base .non, kit_ty e⟩
  | bl x => rw [hd] at e; rw [viewB r hd]; exact ⟨_, .base (.bl x), kit_ty e⟩
  | int x => rw [hd] at e; rw [viewI r hd]; exact ⟨_, .base (.int x), kit_ty e⟩
  | str x => rw [hd] at e; rw [viewS r hd]; exact ⟨_, .base (.str x), kit_ty e⟩
  | tup x => rw [hd] at e; obtain ⟨a, vs, rfl, s, l⟩ := o.viewT r hd; exact ⟨_, tyT s, kit_ty e⟩
  | lst x => rw [hd] at e; obtain ⟨a, vs, rfl, s, l⟩ := o.viewL r hd; exact ⟨_, .base (.lst s), kit_ty e⟩
  | scr x => rw [hd] at e; cases e
  | cell x => rw [hd] at e; cases e
  | exc x => rw [hd] at e; cases e
theorem pd_isi {a : Expr} {T : Str} {TS : String} {p p2 pos : Pos} {ea : EV} (hm : X.mg "isinstance" = none) (hT : X.mg T = none) (hb : bootBuiltins T = some (.type TS)) (ha : PD X W a ea) (hg : Gl X "isinstance" := by rfl) (hg2 : Gl X T := by rfl) (hn : T ≠ "__name__" := by decide) (hdb : (T == ("__debug__" : Str)) = false := by decide)
    (hs : starEach [a, .Name T p2] X.env = (false, eval a X.env) :: starEach [.Name T p2] X.env := by rfl) (hs2 : starEach [.Name T p2] X.env = (false, eval (.Name T p2) X.env) :: starEach [] X.env := by rfl) (hpl : (backTo pos (starEach [.Name T p2] X.env)).any (·.1) = false := by rfl) :
    PD X W (.Call (.Name "isinstance" p) [a, .Name T p2] [] pos) (eUn (fIsi TS) ea) := by
  obtain ⟨t, pa, q⟩ := ha
  refine ⟨_, pe_callB call_isi hg hm (by decide +kernel) (pa_cons pa (pa_cons (pe_bltn (v := .ty TS) hg2 hT hb rfl hn hdb) pa_nil hs2) hs) (by decide) (by decide) hs hpl, fun F e M σ L G H Q o re h => ?_⟩
  refine q F e M σ L G H _ o re ((Aft.bind h).imp fun d M1 L1 G1 H1 o1 x1 h1 v r => ?_)
  unfold fIsi at h1
  split at h1
  · rename_i b hb
    obtain ⟨t, ty, k⟩ := isi_ty o1 r hb
    exact ⟨v, .ty TS, t, .type TS, b, rfl, .ty TS, ty, k, aok h1 o1 _ (.bl b)⟩
  · exact h1.elim
/-! ### all, abs, min, max, sum -/
def bls? : List D → Option (List Bool)
  | [] => some []
  | .bl i :: ds => (bls? ds).map (i :: ·)
  | _ => none
theorem bls_V {C : Kx} {L : List Addr} {G : Hp} : ∀ {ds : List D} {vs : List V} {ns : List Bool}, RpL C L G vs ds → bls? ds = some ns → vs = ns.map V.bl
  | [], _, _, h, e => by cases h; cases e; rfl
  | d :: ds, _, ns, h, e => by
    cases h with
    | cons h1 h2 =>
      cases h1 with
      | bl i =>
        unfold bls? at e
        cases q : bls? ds with
        | none => rw [q] at e; cases e
        | some ms => rw [q] at e; cases e; rw [bls_V h2 q]; rfl
      | _ => cases e
@[simp] theorem bls_map (ns : List Bool) : bls? (ns.map D.bl) = some ns := by
  induction ns with
  | nil => rfl
  | cons n ns ih => simp [bls?, ih]
def fAll (ds : List D) (M : List MO) : R D := match ds with
  | [d] => match res M d with
    | .lst xs => match bls? xs with
      | some bs => .ok (.bl (bs.all id)) M
      | none => .stuck
    | _ => .stuck
  | _ => .stuck
theorem dAll : CallD X W (rAll X.K) fAll := by
  intro xs ds M F L G H σ Q o r h
  unfold fAll at h
  split at h
  · obtain ⟨v, rfl, rv⟩ := one r
    split at h
    · rename_i ys e
      obtain ⟨a, vs, rfl, s, l⟩ := o.viewL rv e
      split at h
      · rename_i bs eb
        rw [bls_V l eb] at s
        exact ⟨a, bs, rfl, .inl (.inl s), aok h o _ (.bl _)⟩
      · exact h.elim
    · exact h.elim
  · exact h.elim
theorem pd_all {a : Expr} {p pos : Pos} {ea : EA} (hc : X.calm = true) (hm : X.mg "all" = none) (ha : PAD X W [a] ea) (hg : Gl X "all" := by rfl) (hs : starEach [a] X.env = (false, eval a X.env) :: starEach [] X.env := by rfl) : PD X W (.Call (.Name "all" p) [a] [] pos) (eArgs fAll ea) :=
  pd_callB (cr_all hc) dAll hg hm (by decide +kernel) ha (by decide) (by decide) hs rfl
def fSum (ds : List D) (M : List MO) : R D := match ds with
  | [d] => match res M d with
    | .lst xs => match ints? xs with
      | some bs => .ok (.int bs.sum) M
      | none => .stuck
    | _ => .stuck
  | _ => .stuck
theorem dSum : CallD X W (rSum X.K) fSum := by
  intro xs ds M F L G H σ Q o r h
  unfold fSum at h
  split at h
  · obtain ⟨v, rfl, rv⟩ := one r
    split at h
    · rename_i ys e
      obtain ⟨a, vs, rfl, s, l⟩ := o.viewL rv e
      split at h
      · rename_i bs eb
        rw [ints_V l eb] at s
        exact ⟨a, bs, rfl, .inl (.inl s), aok h o _ (.int _)⟩
      · exact h.elim
    · exact h.elim
  · exact h.elim
theorem pd_sum {a : Expr} {p pos : Pos} {ea : EA} (hc : X.calm = true) (hm : X.mg "sum" = none) (ha : PAD X W [a] ea) (hg : Gl X "sum" := by rfl) (hs : starEach [a] X.env = (false, eval a X.env) :: starEach [] X.env := by rfl) : PD X W (.Call (.Name "sum" p) [a] [] pos) (eArgs fSum ea) :=
  pd_callB (cr_sum hc) dSum hg hm (by decide +kernel) ha (by decide) (by decide) hs rfl
def fAbs (ds : List D) (M : List MO) : R D := match ds with
  | [.int i] => .ok (.int (if i < 0 then -i else i)) M
  | _ => .stuck
theorem dAbs : CallD X W (fun xs H Q => ∃ i, xs = [.int i] ∧ Q (.int (if i < 0 then -i else i)) H) fAbs := by
  intro xs ds M F L G H σ Q o r h
  unfold fAbs at h
  split at h
  · obtain ⟨v, rfl, rv⟩ := one r
    cases rv
    exact ⟨_, rfl, aok h o _ (.int _)⟩
  · exact h.elim
theorem pd_abs {a : Expr} {p pos : Pos} {ea : EA} (hm : X.mg "abs" = none) (ha : PAD X W [a] ea) (hg : Gl X "abs" := by rfl) (hs : starEach [a] X.env = (false, eval a X.env) :: starEach [] X.env := by rfl) : PD X W (.Call (.Name "abs" p) [a] [] pos) (eArgs fAbs ea) :=
  pd_callB call_abs dAbs hg hm (by decide +kernel) ha (by decide) (by decide) hs rfl
/-! ### tuple(..), list(..) -/
theorem pd_callTy {x : Str} {id : String} {r : List V → Hp → VK → Prop} {f : List D → List MO → R D} {a : Expr} {es : List Expr} {p pos : Pos} {ea : EA} (hc : CallR X (.type id) r) (hr : CallD X W r f) (hg : Gl X x) (hm : X.mg x = none) (hv : bootBuiltins x = some (.type id)) (ha : PAD X W (a :: es) ea)
    (hn : x ≠ "__name__" := by decide) (hdb : (x == ("__debug__" : Str)) = false := by decide) (hs : starEach (a :: es) X.env = (false, eval a X.env) :: starEach es X.env := by rfl) (hplain : (backTo pos (starEach es X.env)).any (·.1) = false := by rfl) : PD X W (.Call (.Name x p) (a :: es) [] pos) (eArgs f ea) := by
  obtain ⟨ta, pa, qa⟩ := ha
  refine ⟨_, pe_callTy hc hg hm hv pa hn hdb hs hplain, fun F e M σ L G H Q o re h => ?_⟩
  exact qa F e M σ L G H _ o re ((Aft.bind h).imp fun x M1 L1 G1 H1 o1 x1 h1 vs r => hr _ _ M1 F L1 G1 H1 σ Q o1 r h1)
def fTuple (ds : List D) (M : List MO) : R D := match ds with
  | [d] => match res M d with
    | .lst xs => .ok (.tup xs) M
    | .tup xs => .ok (.tup xs) M
    | _ => .stuck
  | _ => .stuck
theorem dTuple : CallD X W (fun xs H Q => ∃ p ys, xs = [.ref p] ∧ ((SqL X.K H p ys ∧ ∀ l, H l = none → Q (.ref l) (upd H l (.tup ys))) ∨ (SqT X.K H p ys ∧ Q (.ref p) H))) fTuple := by
  intro xs ds M F L G H σ Q o r h
  unfold fTuple at h
  split at h
  · obtain ⟨v, rfl, rv⟩ := one r
    split at h
    · rename_i ys e
      obtain ⟨a, vs, rfl, s, l⟩ := o.viewL rv e
      exact ⟨a, vs, rfl, .inl ⟨.inl (.inl s), newT o l h⟩⟩
    · rename_i d ys e
      have e' := e
      obtain ⟨a, vs, rfl, s, l⟩ := o.viewT rv e
      refine ⟨a, vs, rfl, .inr ⟨s, ?_⟩⟩
      cases rv with
      | tup k1 k2 => cases e; exact aok h o _ (.tup k1 k2)
      | @cell _ n _ => rcases res_cell M n with z | ⟨_, z⟩ <;> rw [z] at e <;> cases e
      | _ => cases e
    · exact h.elim
  · exact h.elim
theorem pd_tuple {a : Expr} {p pos : Pos} {ea : EA} (hm : X.mg "tuple" = none) (ha : PAD X W [a] ea) (hg : Gl X "tuple" := by rfl) (hs : starEach [a] X.env = (false, eval a X.env) :: starEach [] X.env := by rfl) : PD X W (.Call (.Name "tuple" p) [a] [] pos) (eArgs fTuple ea) :=
  pd_callTy call_tuple_of dTuple hg hm (by decide +kernel) ha (by decide) (by decide) hs rfl
def fList (ds : List D) (M : List MO) : R D := match ds with
  | [d] => match res M d with
    | .lst xs => .ok (.lst xs) M
    | .tup xs => .ok (.lst xs) M
    | .scr xs => .ok (.lst xs) M
    | _ => .stuck
  | _ => .stuck
def fListC (ds : List D) (M : List MO) : R D := match ds with
  | [d] => match res M d with
    | .lst xs => .ok (.cell M.length) (M ++ [.lst xs])
    | .tup xs => .ok (.cell M.length) (M ++ [.lst xs])
    | .scr xs => .ok (.cell M.length) (M ++ [.lst xs])
    | _ => .stuck
  | _ => .stuck
theorem viewC {C : Kx} {F : Hp} {L : List Addr} {G H : Hp} {M : List MO} {v : V} {d : D} (o : Ok C F L G M H) (r : Rp C L G v d) {ds : List D} (e : res M d = .scr ds) : ∃ a vs, v = .ref a ∧ SqL C.K H a vs ∧ RpL C L G vs ds := by
  cases r with
  | scr h hl => rw [res_scr] at e; cases e; exact ⟨_, _, rfl, o.sub.seq h, hl⟩
  | @cell a n h => rcases res_cell M n with z | ⟨ds', z⟩ <;> rw [z] at e <;> cases e
  | _ => cases e
theorem dList : CallD X W (fun xs H Q => ∃ p ys, xs = [.ref p] ∧ (SqL X.K H p ys ∨ SqT X.K H p ys) ∧ ∀ l, H l = none → Q (.ref l) (upd H l (.lst ys))) fList := by
  intro xs ds M F L G H σ Q o r h
  unfold fList at h
  split at h
  · obtain ⟨v, rfl, rv⟩ := one r
    split at h
    · rename_i ys e
      obtain ⟨a, vs, rfl, s, l⟩ := o.viewL rv e
      exact ⟨a, vs, rfl, .inl (.inl (.inl s)), newL o l h⟩
    · rename_i ys e
      obtain ⟨a, vs, rfl, s, l⟩ := o.viewT rv e
      exact ⟨a, vs, rfl, .inr s, newL o l h⟩
    · rename_i ys e
      obtain ⟨a, vs, rfl, s, l⟩ := viewC o rv e
      exact ⟨a, vs, rfl, .inl s, newL o l h⟩
    · exact h.elim
  · exact h.elim
theorem dListC : CallD X W (fun xs H Q => ∃ p ys, xs = [.ref p] ∧ (SqL X.K H p ys ∨ SqT X.K H p ys) ∧ ∀ l, H l = none → Q (.ref l) (upd H l (.lst ys))) fListC := by
  intro xs ds M F L G H σ Q o r h
  unfold fListC at h
  split at h
  · obtain ⟨v, rfl, rv⟩ := one r
    split at h
    · rename_i ys e
      obtain ⟨a, vs, rfl, s, l⟩ := o.viewL rv e
      exact ⟨a, vs, rfl, .inl (.inl (.inl s)), newC o l h⟩
    · rename_i ys e
      obtain ⟨a, vs, rfl, s, l⟩ := o.viewT rv e
      exact ⟨a, vs, rfl, .inr s, newC o l h⟩
    · rename_i ys e
      obtain ⟨a, vs, rfl, s, l⟩ := viewC o rv e
      exact ⟨a, vs, rfl, .inl s, newC o l h⟩
    · exact h.elim
  · exact h.elim
theorem pd_list {a : Expr} {p pos : Pos} {ea : EA} (hm : X.mg "list" = none) (ha : PAD X W [a] ea) (hg : Gl X "list" := by rfl) (hs : starEach [a] X.env = (false, eval a X.env) :: starEach [] X.env := by rfl) : PD X W (.Call (.Name "list" p) [a] [] pos) (eArgs fList ea) :=
  pd_callTy call_list_of dList hg hm (by decide +kernel) ha (by decide) (by decide) hs rfl
theorem pd_listC {a : Expr} {p pos : Pos} {ea : EA} (hm : X.mg "list" = none) (ha : PAD X W [a] ea) (hg : Gl X "list" := by rfl) (hs : starEach [a] X.env = (false, eval a X.env) :: starEach [] X.env := by rfl) : PD X W (.Call (.Name "list" p) [a] [] pos) (eArgs fListC ea) :=
  pd_callTy call_list_of dListC hg hm (by decide +kernel) ha (by decide) (by decide) hs rfl
/-! ### places and slices -/
def fIx (x y : D) (M : List MO) : R D := match res M x, y with
  | .tup xs, .int i => match atI xs i with
    | some d => .ok d M
    | none => .stuck
  | .lst xs, .int i => match atI xs i with
    | some d => .ok d M
    | none => .stuck
  | .str z, .int i => if z.length ≤ big then match atI z.cps.toList i with
    | some c => .ok (.str ⟨#[c]⟩) M
    | none => .stuck
    else .stuck
  | _, _ => .stuck
theorem atI_rp {C : Kx} {L : List Addr} {G : Hp} {ds : List D} {vs : List V} {i : Int} {d : D} (r : RpL C L G vs ds) (h : atI ds i = some d) : ∃ v, atI vs i = some v ∧ Rp C L G v d := by
  unfold atI at h ⊢
  rw [r.length]
  cases q : ixN ds.length i with
  | none => rw [q] at h; cases h
  | some j => rw [q] at h; exact r.get h
theorem dIx : OpD X W (rIx X.K) fIx := by
  intro x y dx dy M F L G H σ Q o rx ry h
  unfold fIx at h
  split at h
  · rename_i xs i e
    obtain ⟨a, vs, rfl, s, l⟩ := o.viewT rx e
    cases ry
    split at h
    · rename_i d hd
      obtain ⟨v, h1, h2⟩ := atI_rp l hd
      exact .inr (.inl ⟨a, vs, i, v, rfl, rfl, s, h1, aok h o _ h2⟩)
    · exact h.elim
  · rename_i xs i e
    obtain ⟨a, vs, rfl, s, l⟩ := o.viewL rx e
    cases ry
    split at h
    · rename_i d hd
      obtain ⟨v, h1, h2⟩ := atI_rp l hd
      exact .inl ⟨a, vs, i, v, rfl, rfl, .inl (.inl s), h1, aok h o _ h2⟩
    · exact h.elim
  · rename_i z i e
    cases ry
    rw [viewS rx e]
    split at h
    · rename_i hz
      split at h
      · rename_i c hc
        exact .inr (.inr ⟨z, i, c, rfl, rfl, big_line hz, hc, aok h o _ (.str _)⟩)
      · exact h.elim
    · exact h.elim
  · exact h.elim
theorem pd_ix {a b : Expr} {pos : Pos} {ea eb : EV} (ha : PD X W a ea) (hb : PD X W b eb) (hs : PlainIx b := by exact fun _ _ => rfl) : PD X W (.Subscript a b pos) (eBin fIx ea eb) := by
  obtain ⟨ta, pa, qa⟩ := ha
  obtain ⟨tb, pb, qb⟩ := hb
  exact ⟨_, pe_ix ix_seq pa pb hs, hoOp dIx qa qb⟩
/-- an end of a slice -/
def eNoE : EN → List MO → R (Option Int) := fun _ M => .ok none M
def eSomeE (ev : EV) : EN → List MO → R (Option Int) := fun e M => (ev e M).bind fun d M1 => match d with
  | .int i => .ok (some i) M1
  | _ => .stuck
def POD (X : Cx) (W : WX) (a : Option Expr) (ev : EN → List MO → R (Option Int)) : Prop := ∃ t, PO X a t ∧ ∀ (F : Hp) (e : EN) (M : List MO) (σ : L2.St) (L : List Addr) (G H : Hp) (Q : Option Int → Hp → Prop),
  Ok (kx X) F L G M H → RpE (kx X) L G σ e → Aft X W F σ (fun i _ _ _ H' => Q i H') L G (ev e M) → t σ H Q
theorem pod_none : POD X W none eNoE := ⟨_, po_none, fun F e M σ L G H Q o re h => aok h o⟩
theorem pod_some {a : Expr} {ev : EV} (h : PD X W a ev) : POD X W (some a) (eSomeE ev) := by
  obtain ⟨t, p, q⟩ := h
  refine ⟨_, po_some p, fun F e M σ L G H Q o re h => ?_⟩
  refine q F e M σ L G H _ o re ((Aft.bind h).imp fun d M1 L1 G1 H1 o1 x1 h1 v r => ?_)
  split at h1
  · cases r; exact ⟨_, rfl, aok h1 o1⟩
  · exact h1.elim
def cutD {α : Type} (xs : List α) (lo hi : Option Int) : List α := (xs.drop (HT.sIx xs.length 0 lo)).take (HT.sIx xs.length xs.length hi - HT.sIx xs.length 0 lo)
theorem cutD_rp {C : Kx} {L : List Addr} {G : Hp} {ds : List D} {vs : List V} (r : RpL C L G vs ds) (lo hi : Option Int) : RpL C L G (cutV vs lo hi) (cutD ds lo hi) := by
  unfold cutV cutD
  rw [r.length]
  exact (r.drop _).take _
def fSl (x : D) (lo hi : Option Int) (M : List MO) : R D := match res M x with
  | .tup xs => .ok (.tup (cutD xs lo hi)) M
  | .lst xs => .ok (.lst (cutD xs lo hi)) M
  | .str z => if z.length ≤ big then .ok (.str ⟨(cutD z.cps.toList lo hi).toArray⟩) M else .stuck
  | _ => .stuck
def eSl (ea : EV) (el eh : EN → List MO → R (Option Int)) : EV := fun e M => (ea e M).bind fun x M1 => (el e M1).bind fun l M2 => (eh e M2).bind fun h M3 => fSl x l h M3
theorem cutS_eq (z : Str) (lo hi : Option Int) : cutS z lo hi = ⟨(cutD z.cps.toList lo hi).toArray⟩ := by
  unfold cutS cutD
  rfl
def rSlU (K : PySem.W.Frag) : V → Option Int → Option Int → Hp → VK → Prop := fun x lo hi H Q => rSlA K x lo hi H Q ∨ (rSlL K x lo hi H Q ∨ rSlS x lo hi H Q)
theorem slU : SlR X (rSlU X.K) := sl_tupA.or (sl_list.or sl_str)
theorem cut_whole {α : Type} {xs : List α} {lo hi : Option Int} (h : HT.sIx xs.length 0 lo = 0 ∧ HT.sIx xs.length xs.length hi = xs.length) : cutD xs lo hi = xs := by
  unfold cutD
  rw [h.1, h.2]
  simp
theorem dSl {x : V} {dx : D} {lo hi : Option Int} {M : List MO} {F : Hp} {L : List Addr} {G H : Hp} {σ : L2.St} {Q : VK} (o : Ok (kx X) F L G M H) (rx : Rp (kx X) L G x dx) (h : Aft X W F σ (kE X Q) L G (fSl dx lo hi M)) : rSlU X.K x lo hi H Q := by
  unfold fSl at h
  split at h
  · rename_i xs e
    obtain ⟨a, vs, rfl, s, l⟩ := o.viewT rx e
    refine .inl ⟨a, vs, rfl, s, fun hw => ?_, fun hw => newT o (cutD_rp l lo hi) h⟩
    have hw' : cutD xs lo hi = xs := cut_whole (by rw [← l.length]; exact hw)
    rw [hw'] at h
    cases rx with
    | tup k1 k2 => cases e; exact aok h o _ (.tup k1 k2)
    | @cell _ n _ => rcases res_cell M n with z | ⟨_, z⟩ <;> rw [z] at e <;> cases e
    | _ => cases e
  · rename_i xs e
    obtain ⟨a, vs, rfl, s, l⟩ := o.viewL rx e
    exact .inr (.inl ⟨a, vs, rfl, .inl (.inl s), newL o (cutD_rp l lo hi) h⟩)
  · rename_i z e
    rw [viewS rx e]
    split at h
    · rename_i hz
      exact .inr (.inr ⟨z, rfl, big_line hz, by rw [cutS_eq]; exact aok h o _ (.str _)⟩)
    · exact h.elim
  · exact h.elim
theorem pd_slice {a : Expr} {lo hi : Option Expr} {p2 pos : Pos} {ea : EV} {el eh : EN → List MO → R (Option Int)} (ha : PD X W a ea) (hl : POD X W lo el) (hh : POD X W hi eh) : PD X W (.Subscript a (.Slice lo hi none p2) pos) (eSl ea el eh) := by
  obtain ⟨ta, pa, qa⟩ := ha
  obtain ⟨tl, pl, ql⟩ := hl
  obtain ⟨th, ph, qh⟩ := hh
  refine ⟨_, pe_slice slU pa pl ph, fun F e M σ L G H Q o re h => ?_⟩
  refine qa F e M σ L G H _ o re ((Aft.bind h).imp fun x M1 L1 G1 H1 o1 x1 h1 v1 r1 => ?_)
  refine ql F e M1 σ L1 G1 H1 _ o1 (re.mono x1) ((Aft.bind h1).imp fun l M2 L2 G2 H2 o2 x2 h2 => ?_)
  refine qh F e M2 σ L2 G2 H2 _ o2 ((re.mono x1).mono x2) ((Aft.bind h2).imp fun u M3 L3 G3 H3 o3 x3 h3 => ?_)
  exact dSl o3 ((r1.mono x2).mono x3) h3
/-! ### min, max of two ints -/
def f2I (g : Int → Int → Int) (ds : List D) (M : List MO) : R D := match ds with
  | [.int i, .int j] => .ok (.int (g i j)) M
  | _ => .stuck
theorem d2I {g : Int → Int → Int} : CallD X W (fun xs H Q => ∃ i j, xs = [.int i, .int j] ∧ Q (.int (g i j)) H) (f2I g) := by
  intro xs ds M F L G H σ Q o r h
  unfold f2I at h
  split at h
  · obtain ⟨v, w, rfl, r1, r2⟩ := two r
    cases r1; cases r2
    exact ⟨_, _, rfl, aok h o _ (.int _)⟩
  · exact h.elim
def maxI (i j : Int) : Int := if j > i then j else i
def minI (i j : Int) : Int := if j < i then j else i
theorem pd_max2 {a b : Expr} {p pos : Pos} {ea : EA} (hc : X.calm = true) (hm : X.mg "max" = none) (ha : PAD X W [a, b] ea) (hg : Gl X "max" := by rfl) (hs : starEach [a, b] X.env = (false, eval a X.env) :: starEach [b] X.env := by rfl) (hpl : (backTo pos (starEach [b] X.env)).any (·.1) = false := by rfl) : PD X W (.Call (.Name "max" p) [a, b] [] pos) (eArgs (f2I maxI) ea) :=
  pd_callB (call_max2 hc) d2I hg hm (by decide +kernel) ha (by decide) (by decide) hs hpl
theorem pd_min2 {a b : Expr} {p pos : Pos} {ea : EA} (hc : X.calm = true) (hm : X.mg "min" = none) (ha : PAD X W [a, b] ea) (hg : Gl X "min" := by rfl) (hs : starEach [a, b] X.env = (false, eval a X.env) :: starEach [b] X.env := by rfl) (hpl : (backTo pos (starEach [b] X.env)).any (·.1) = false := by rfl) : PD X W (.Call (.Name "min" p) [a, b] [] pos) (eArgs (f2I minI) ea) :=
  pd_callB (call_min2 hc) d2I hg hm (by decide +kernel) ha (by decide) (by decide) hs hpl
/-! ### o[i] = v, o.append(v) -/
def sSub (eo ei ev : EV) : SV := fun e M => (ev e M).toS e fun v M1 => (eo e M1).toS e fun o M2 => (ei e M2).toS e fun i M3 => match o, i with
  | .cell n, .int k => match M3[n]? with
    | some (.lst ds) => match ixN ds.length k with
      | some j => .nx e (M3.set n (.lst (ds.set j v)))
      | none => .stuck
    | _ => .stuck
  | _, _ => .stuck
theorem psd_sub {o i ex : Expr} {pos pos' : Pos} {eo ei ev : EV} (ho : PD X W o eo) (hi : PD X W i ei) (hx : PD X W ex ev)
    (ha : ∀ v, assign (.Subscript o i pos') X.env v = (do
      let ov ← holding [v] (eval o X.env)
      let iv ← holding [v, ov] (eval i X.env)
      standAt pos'
      holding [v, ov, iv] (setItem ov iv v)
      release [v, ov, iv] []) := by intro _; rfl)
    (hs : swapsWithSole [.Subscript o i pos'] ex pos.line X.env = pure false := by rfl) (hw : swappedStores [.Subscript o i pos'] ex X.env = pure none := by rfl)
    (h1 : (assignEach [.Subscript o i pos'] X.env).map (·.2) = [assign (.Subscript o i pos') X.env] := by rfl) : PSD X W (.Assign [.Subscript o i pos'] ex pos) (sSub eo ei ev) := by
  obtain ⟨to, po, qo⟩ := ho
  obtain ⟨ti, pi, qi⟩ := hi
  obtain ⟨tx, px, qx⟩ := hx
  refine ⟨_, ps_asg px (pg_sub po pi set_list ha) hs hw h1, fun F e M σ L G H Dn o re h => ?_⟩
  refine qx F e M σ L G H _ o re ((AftS.toS h re).imp fun v M1 L1 G1 H1 o1 x1 h1 vv rv => ?_)
  refine qo F e M1 σ L1 G1 H1 _ o1 (re.mono x1) ((AftS.toS h1 (re.mono x1)).imp fun od M2 L2 G2 H2 o2 x2 h2 vo ro => ?_)
  refine qi F e M2 σ L2 G2 H2 _ o2 ((re.mono x1).mono x2) ((AftS.toS h2 ((re.mono x1).mono x2)).imp fun id M3 L3 G3 H3 o3 x3 h3 vi ri => ?_)
  split at h3
  · rename_i n k
    cases ri
    cases ro with
    | @cell a _ hl =>
      obtain ⟨u, hu, ku⟩ := o3.here (x3.at hl)
      rw [hu] at h3
      cases u with
      | obj c fs => exact h3.elim
      | lst ds =>
        dsimp only at h3
        obtain ⟨vs, hv, rl⟩ := ku
        split at h3
        · rename_i j hj
          refine ⟨a, vs, k, j, rfl, rfl, hv, by rw [rl.length]; exact hj, ?_⟩
          exact h3 σ L3 G3 _ (o3.cellSet (x3.at hl) (rl.set j ((rv.mono x2).mono x3))) (Ext.refl _ _) (((re.mono x1).mono x2).mono x3)
        · exact h3.elim
  · exact h3.elim
/-! ### methods of built-in types -/
def ckL (o : D) (M : List MO) : Bool := match res M o with
  | .lst _ => true
  | _ => false
def ckS (o : D) (_ : List MO) : Bool := match o with
  | .str _ => true
  | _ => false
def eMeth (ck : D → List MO → Bool) (f : D → List D → List MO → R D) (eo : EV) (ea : EA) : EV := fun e M => (eo e M).bind fun o M1 => if ck o M1 then (ea e M1).bind fun xs M2 => f o xs M2 else .stuck
def CkOk (X : Cx) (T : String) (ck : D → List MO → Bool) : Prop := ∀ (F : Hp) (L : List Addr) (G H : Hp) (M : List MO) (v : V) (d : D), Ok (kx X) F L G M H → Rp (kx X) L G v d → ck d M = true → tyV X.K T v H
theorem ckL_ok : CkOk X "list" ckL := by
  intro F L G H M v d o r h
  unfold ckL at h
  split at h
  · rename_i ds e
    obtain ⟨a, vs, rfl, s, l⟩ := o.viewL r e
    exact .inl ⟨rfl, vs, .inl (.inl s)⟩
  · cases h
theorem ckS_ok : CkOk X "str" ckS := by
  intro F L G H M v d o r h
  unfold ckS at h
  split at h
  · cases r; rfl
  · cases h
def MtD (X : Cx) (W : WX) (r : V → List V → Hp → VK → Prop) (f : D → List D → List MO → R D) : Prop := ∀ (x : V) (vs : List V) (dx : D) (ds : List D) (M : List MO) (F : Hp) (L : List Addr) (G H : Hp) (σ : L2.St) (Q : VK),
  Ok (kx X) F L G M H → Rp (kx X) L G x dx → RpL (kx X) L G vs ds → Aft X W F σ (kE X Q) L G (f dx ds M) → r x vs H Q
theorem MtM.mtr {id : String} {r : V → List V → Hp → VK → Prop} (h : MtM X id r) : MtR X id r := h
theorem pd_meth {o a : Expr} {es : List Expr} {name : Str} {apos cpos : Pos} {T id : String} {r : V → List V → Hp → VK → Prop} {eo : EV} {ea : EA} {ck : D → List MO → Bool} {f : D → List D → List MO → R D} (pa : PlainAttrs T) (slot : Slot T name id) (hty : typeOf (.builtin id) = pure (.type "method_descriptor")) (hm : MtR X id r) (hk : CkOk X T ck) (hd : MtD X W r f)
    (ho : PD X W o eo) (ha : PAD X W (a :: es) ea)
    (hbase : attributeBase o name X.env (eval o X.env) = eval o X.env := by rfl)
    (hfew : ((backTo cpos (starEach (a :: es) X.env)).all (fun x => !x.1) && (backToKw cpos (keywordEach [] X.env)).all (fun x => x.1.isSome)
      && decide ((a :: es).length + ([] : List Keyword).length + (if ([] : List Keyword).isEmpty then 0 else 1) < 30)) = true := by rfl)
    (hline : (apos.endLine == cpos.line) = true := by rfl) (hs : starEach (a :: es) X.env = (false, eval a X.env) :: starEach es X.env := by rfl) (hplain : (backTo cpos (starEach es X.env)).any (·.1) = false := by rfl) :
    PD X W (.Call (.Attribute o name apos) (a :: es) [] cpos) (eMeth ck f eo ea) := by
  obtain ⟨to, po, qo⟩ := ho
  obtain ⟨ta, pa', qa⟩ := ha
  refine ⟨_, pe_bm pa slot hty hm po pa' hbase hfew hline hs hplain, fun F e M σ L G H Q o re h => ?_⟩
  refine qo F e M σ L G H _ o re ((Aft.bind h).imp fun d M1 L1 G1 H1 o1 x1 h1 v r => ?_)
  split at h1
  · rename_i hc
    refine ⟨hk F L1 G1 H1 M1 v d o1 r hc, ?_⟩
    refine qa F e M1 σ L1 G1 H1 _ o1 (re.mono x1) ((Aft.bind h1).imp fun ds M2 L2 G2 H2 o2 x2 h2 vs rs => ?_)
    exact hd v vs d ds M2 F L2 G2 H2 σ Q o2 (r.mono x2) rs h2
  · exact h1.elim
theorem pd_meth0 {o : Expr} {name : Str} {apos cpos : Pos} {T id : String} {r : V → List V → Hp → VK → Prop} {eo : EV} {ck : D → List MO → Bool} {f : D → List D → List MO → R D} (pa : PlainAttrs T) (slot : Slot T name id) (hty : typeOf (.builtin id) = pure (.type "method_descriptor")) (hm : MtR X id r) (hk : CkOk X T ck) (hd : MtD X W r f)
    (ho : PD X W o eo) (hbase : attributeBase o name X.env (eval o X.env) = eval o X.env := by rfl) (hline : (apos.endLine == cpos.line) = true := by rfl) :
    PD X W (.Call (.Attribute o name apos) [] [] cpos) (eMeth ck f eo eNil) := by
  obtain ⟨to, po, qo⟩ := ho
  refine ⟨_, pe_bm0 pa slot hty hm po hbase hline, fun F e M σ L G H Q o re h => ?_⟩
  refine qo F e M σ L G H _ o re ((Aft.bind h).imp fun d M1 L1 G1 H1 o1 x1 h1 v r => ?_)
  split at h1
  · rename_i hc
    exact ⟨hk F L1 G1 H1 M1 v d o1 r hc, hd v [] d [] M1 F L1 G1 H1 σ Q o1 r .nil h1⟩
  · exact h1.elim
def fAppend (o : D) (xs : List D) (M : List MO) : R D := match o, xs with
  | .cell n, [v] => match M[n]? with
    | some (.lst ds) => if ds.length < big then .ok .non (M.set n (.lst (ds ++ [v]))) else .stuck
    | _ => .stuck
  | _, _ => .stuck
theorem dAppend : MtD X W rAppend fAppend := by
  intro x vs dx ds M F L G H σ Q o rx r h
  unfold fAppend at h
  split at h
  · obtain ⟨w, rfl, rw'⟩ := one r
    cases rx with
    | @cell a n hl =>
      obtain ⟨u, hu, ku⟩ := o.here hl
      rw [hu] at h
      cases u with
      | obj c fs => exact h.elim
      | lst es =>
        dsimp only at h
        obtain ⟨us, hv, rl⟩ := ku
        split at h
        · rename_i hz
          exact ⟨a, us, w, rfl, rfl, hv, by rw [rl.length]; exact big_lt (Nat.le_of_lt hz), h L G _ (o.cellSet hl (rl.append (.cons rw' .nil))) (Ext.refl _ _) _ .non⟩
        · exact h.elim
  · exact h.elim
theorem pd_append {o a : Expr} {apos cpos : Pos} {eo : EV} {ea : EA} (ho : PD X W o eo) (ha : PAD X W [a] ea)
    (hbase : attributeBase o "append" X.env (eval o X.env) = eval o X.env := by rfl)
    (hfew : ((backTo cpos (starEach [a] X.env)).all (fun x => !x.1) && (backToKw cpos (keywordEach [] X.env)).all (fun x => x.1.isSome)
      && decide ([a].length + ([] : List Keyword).length + (if ([] : List Keyword).isEmpty then 0 else 1) < 30)) = true := by rfl)
    (hline : (apos.endLine == cpos.line) = true := by rfl) (hs : starEach [a] X.env = (false, eval a X.env) :: starEach [] X.env := by rfl) : PD X W (.Call (.Attribute o "append" apos) [a] [] cpos) (eMeth ckL fAppend eo ea) :=
  pd_meth PySem.F.plainAttrs_list PySem.F.slot_list_append PySem.F.type_list_append (MtM.mtr mt_append) ckL_ok dAppend ho ha hbase hfew hline hs rfl
/-! ### tuple * int, list * int -/
end
section
variable {prog : Program} {w : World} {A : Around} {E : Value → Shared → Prop} {s : Shared}
theorem tuple_mulW1 (l : Addr) (items : Array Value) (n : Nat) (dd : Option Addr) (sl : Array (Option Value)) (x : Int) (u : Tok) (c0 : (decide (x < -(2 ^ 63)) || decide (x ≥ 2 ^ 63)) = false) (c1 : (items.isEmpty || x == 1) = true) :
    Meets (Builtin.«tuple.__mul__» ⟨[.ref l, .int x u], []⟩) (fun _ R s => s.heap.get? l = some { cls := .type "tuple", dict := dd, data := .seq items n, slots := sl } ∧
      R (.ok (.ret (Value.ref l))) s) :=
  .of_wp fun prog w A R s h => by
    obtain ⟨hp, g, d, tk, os⟩ := s
    obtain ⟨hl, h⟩ := h
    have f1 := AutoSeq1.idx_int
    wp_walk using wpAny_loadPart' hl
    repeat (first
      | (refine wpAny_ite_false (decide_eq_false (by rw [c0]; exact Bool.false_ne_true)) ?_; wp_walk using wpAny_loadPart' hl)
      | (refine wpAny_ite_true (decide_eq_true (by rw [c1])) ?_; wp_walk using wpAny_loadPart' hl))
    exact ⟨_, rfl, h⟩
theorem tuple_mulW0 (l : Addr) (items : Array Value) (n : Nat) (dd : Option Addr) (sl : Array (Option Value)) (x : Int) (u : Tok) (c0 : (decide (x < -(2 ^ 63)) || decide (x ≥ 2 ^ 63)) = false) (c1 : (items.isEmpty || x == 1) = false) (c2 : (decide (x ≤ 0) || items.isEmpty) = true) :
    Meets (Builtin.«tuple.__mul__» ⟨[.ref l, .int x u], []⟩) (fun _ R s => s.heap.get? l = some { cls := .type "tuple", dict := dd, data := .seq items n, slots := sl } ∧
      R (.ok (.ret (Value.ref s.heap.objs.size))) { s with heap := s.heap.push { cls := Value.type "tuple", data := Data.seq #[] }, toks := s.toks }) :=
  .of_wp fun prog w A R s h => by
    obtain ⟨hp, g, d, tk, os⟩ := s
    obtain ⟨hl, h⟩ := h
    have f1 := AutoSeq1.idx_int
    wp_walk using wpAny_loadPart' hl
    repeat (first
      | (refine wpAny_ite_false (decide_eq_false (by rw [c0]; exact Bool.false_ne_true)) ?_; wp_walk using wpAny_loadPart' hl)
      | (refine wpAny_ite_false (decide_eq_false (by rw [c1]; exact Bool.false_ne_true)) ?_; wp_walk using wpAny_loadPart' hl)
      | (refine wpAny_ite_true (decide_eq_true (by rw [c2])) ?_; wp_walk using wpAny_loadPart' hl))
    exact ⟨_, rfl, h⟩
end
section
variable {X : Cx} {W : WX}
/-- tuple * int for few turns -/
def rRepS (K : PySem.W.Frag) : R2 := fun x y H Q => ∃ l k xs, x = .ref l ∧ y = .int k ∧ SqT K H l xs ∧ xs ≠ [] ∧ -1000 ≤ k ∧ ((k = 1 ∧ Q (.ref l) H) ∨ (k ≤ 0 ∧ ∀ p, H p = none → Q (.ref p) (upd H p (.tup []))))
theorem op_repS : OpR X (binaryOp .Mult) (rRepS X.K) := by
  intro pins s σ H x y v u Q I rx ry h
  obtain ⟨l, k, xs, rfl, rfl, hT, hne, hk, h⟩ := h
  cases rx
  obtain ⟨t, rfl⟩ := ry
  obtain ⟨its, r, ⟨⟨cls, dd, data, sl⟩, ho, hc, n, hd⟩, hs⟩ := I.tuple hT
  simp only at hc hd
  subst hc hd
  have hle : its.length = xs.length := r.length.symm
  have hi : its.toArray.isEmpty = false := by
    cases its with
    | nil => exact absurd (List.eq_nil_of_length_eq_zero hle.symm) hne
    | cons a b => rfl
  have c0 : (decide (k < -(2 ^ 63)) || decide (k ≥ 2 ^ 63)) = false := by
    rcases h with ⟨rfl, _⟩ | ⟨h, _⟩
    · decide
    · rw [decide_eq_false (by omega), decide_eq_false (by omega)] <;> rfl
  refine wpAny_binaryOp_repeat_ref (T := "tuple") (U := "int") (by decide) ⟨_, ho, rfl⟩ (fun s' => typeIs_int s' k t) noFill_tuple_mul PySem.F.fills_int_mul PySem.F.slot_int_rmul repeat_tuple PySem.F.slot_int_index.lookup
    (call_meets PySem.F.slot_int_rmul (typeIs_int s k t) PySem.F.entry_int_rmul (PySem.F.args_int_rmul_2 _ _) (int_rmul_tuple k t l its.toArray n dd sl) ⟨ho, rfl, ⟨_, ho, rfl⟩, ?_⟩)
  rcases h with ⟨rfl, q⟩ | ⟨h, q⟩
  · exact call_meets PySem.F.slot_tuple_mul ⟨_, ho, rfl⟩ PySem.F.entry_tuple_mul (PySem.F.args_tuple_mul_2 _ _) (tuple_mulW1 l its.toArray n dd sl 1 t c0 (by rw [hi]; rfl)) ⟨ho, ⟨.ref l, H, I, rfl, q⟩⟩
  · refine call_meets PySem.F.slot_tuple_mul ⟨_, ho, rfl⟩ PySem.F.entry_tuple_mul (PySem.F.args_tuple_mul_2 _ _) (tuple_mulW0 l its.toArray n dd sl k t c0 (by rw [hi, Bool.false_or]; exact beq_eq_false_iff_ne.mpr (by omega)) (by rw [decide_eq_true h]; rfl)) ⟨ho, ?_⟩
    have hf : H s.heap.objs.size = none := I.hok.fresh (Nat.le_refl _)
    refine ⟨.ref s.heap.objs.size, upd H s.heap.objs.size (.tup []), I.laid (t' := s.toks) (fun b u e => Heap.get?_push_of_some _ e) (Nat.le_refl _) ?_, rfl, q _ hf⟩
    exact ⟨Nat.zero_le _, [], .nil, ⟨_, Heap.get?_push_size _ rfl, rfl, _, rfl⟩⟩
def repD (k : Nat) (xs : List D) : List D := (List.replicate k xs).flatten
def fMul (x y : D) (M : List MO) : R D := match res M x, y with
  | .int i, .int j => if cMul i j then .ok (.int (i * j)) M else .stuck
  | .tup xs, .int k => if xs.length ≠ 0 ∧ xs.length ≤ 1000 ∧ -1000 ≤ k ∧ k ≤ 1000 then .ok (.tup (repD k.toNat xs)) M else .stuck
  | .lst xs, .int k => if xs.length ≤ 1000 ∧ -1000 ≤ k ∧ k ≤ 1000 then .ok (.lst (repD k.toNat xs)) M else .stuck
  | _, _ => .stuck
theorem RpL.rep {C : Kx} {L : List Addr} {G : Hp} {ds : List D} {vs : List V} (r : RpL C L G vs ds) : ∀ k : Nat, RpL C L G (List.replicate k vs).flatten (repD k ds)
  | 0 => .nil
  | k + 1 => by
    unfold repD
    rw [List.replicate_succ, List.replicate_succ, List.flatten_cons, List.flatten_cons]
    exact r.append (RpL.rep r k)
def rMulU (K : PySem.W.Frag) : R2 := fun x y H Q => rI CMul (fun i j => .int (i * j)) x y H Q ∨ (rRepS K x y H Q ∨ (rRepT K x y H Q ∨ rRep x y H Q))
theorem opMul : OpR X (binaryOp .Mult) (rMulU X.K) := op_mul.or (op_repS.or (op_repT.or op_rep))
theorem dMul : OpD X W (rMulU X.K) fMul := by
  intro x y dx dy M F L G H σ Q o rx ry h
  unfold fMul at h
  split at h
  · rename_i i j ex
    cases ry
    split at h
    · rename_i hz
      exact .inl ⟨i, j, viewI rx ex, rfl, cMul_ok i j hz, aok h o _ (.int _)⟩
    · exact h.elim
  · rename_i xs k ex
    cases ry
    split at h
    · rename_i hz
      obtain ⟨h1, h2, h3, h4⟩ := hz
      obtain ⟨p, vs, rfl, sx, lx⟩ := o.viewT rx ex
      have hne : vs ≠ [] := fun z => by
        subst z
        have := lx.length
        simp at this
        exact h1 this.symm
      by_cases hk : 2 ≤ k
      · exact .inr (.inr (.inl ⟨p, k, vs, rfl, rfl, sx, hne, hk, h4, by rw [lx.length]; exact h2, newT o (lx.rep _) h⟩))
      · refine .inr (.inl ⟨p, k, vs, rfl, rfl, sx, hne, h3, ?_⟩)
        by_cases h1 : k = 1
        · subst h1
          refine .inl ⟨rfl, ?_⟩
          have e1 : repD (1 : Int).toNat xs = xs := by simp [repD]
          rw [e1] at h
          cases rx with
          | tup k1 k2 => cases ex; exact aok h o _ (.tup k1 k2)
          | @cell _ n _ => rcases res_cell M n with z | ⟨_, z⟩ <;> rw [z] at ex <;> cases ex
          | _ => cases ex
        · have hk0 : k ≤ 0 := by omega
          have e1 : repD k.toNat xs = [] := by rw [show k.toNat = 0 by omega]; rfl
          rw [e1] at h
          exact .inr ⟨hk0, newT o (ds := []) .nil h⟩
    · exact h.elim
  · rename_i xs k ex
    cases ry
    split at h
    · rename_i hz
      obtain ⟨h2, h3, h4⟩ := hz
      obtain ⟨p, vs, rfl, sx, lx⟩ := o.viewL rx ex
      refine .inr (.inr (.inr ⟨p, k, vs, rfl, rfl, sx, by omega, by omega, ?_, newL o (lx.rep _) h⟩))
      rw [lx.length, sizeLine_eq]
      have a1 : xs.length * k.toNat ≤ 1000 * 1000 := Nat.mul_le_mul h2 (by omega)
      omega
    · exact h.elim
  · exact h.elim
end
end KB
namespace KB
open PySem PySem.Spec PyProof.Rows L2
/-- the built-in names that the text leaves as they are -/
structure BI (mg : Str → Option Value) : Prop where
  len : mg "len" = none
  range : mg "range" = none
  isinstance : mg "isinstance" = none
  int' : mg "int" = none
  bool' : mg "bool" = none
  tuple' : mg "tuple" = none
  str' : mg "str" = none
  list' : mg "list" = none
  all : mg "all" = none
  min : mg "min" = none
  max : mg "max" = none
  sum : mg "sum" = none
  abs : mg "abs" = none
  sorted : mg "sorted" = none
  set : mg "set" = none
  enumerate : mg "enumerate" = none
  zip : mg "zip" = none
theorem hu65_of {A : Around} {k : Nat} (hr : Room k A) : A.units + 65 < cLine := by have := hr.un; omega
section
variable {X : Cx} {W : WX}
theorem dLt : OpD X W (fun x y H Q => rI0 (fun i j => .bl (decide (i < j))) x y H Q ∨ rOrdT X.K HT.lexLt x y H Q) fLt := dOrd
theorem dLe : OpD X W (fun x y H Q => rI0 (fun i j => .bl (decide (i ≤ j))) x y H Q ∨ rOrdT X.K (fun a b => !HT.lexLt b a) x y H Q) fLe := dOrd
theorem dGt : OpD X W (fun x y H Q => rI0 (fun i j => .bl (decide (j < i))) x y H Q ∨ rOrdT X.K (fun a b => HT.lexLt b a) x y H Q) fGt := dOrd
theorem dGe : OpD X W (fun x y H Q => rI0 (fun i j => .bl (decide (j ≤ i))) x y H Q ∨ rOrdT X.K (fun a b => !HT.lexLt a b) x y H Q) fGe := dOrd
/-! ### raise -/
def sRaise (c : Str) : SV := fun e M => .exc c e M
/-- an own exception class over ValueError, without a body -/
structure ExcC' (C : Kx) (x : Str) : Prop where
  ex : ∃ A : Addr, C.mg x = some (.ref A) ∧ PySem.W.excIn C.K A [.type "ValueError", .type "Exception", .type "BaseException", .type "object"] "ValueError.__new__" = true ∧ PySem.W.keepIn C.K (.ref A) = true ∧ PySem.W.subIn C.K (.ref A) (.type "BaseException") = some true ∧ PySem.W.typeIn C.K (.ref A) = some (.type "type")
theorem psd_raise {x m : Str} {j : Nat} {p p2 pos pos' : Pos} (hc : X.calm = true) (tk : Takes X W) (h : ExcC' (kx X) x) (hg : Gl X x := by rfl) (hdb : (x == ("__debug__" : Str)) = false := by decide) :
    PSD X W (.Raise (some (.Call (.Name x p) [.Constant (.str m) j p2] [] pos)) none pos') (sRaise x) := by
  obtain ⟨A, hm, he, hk, hs, ht⟩ := h.ex
  refine ⟨_, ps_raise hc tk (pmk_own PySem.F.excBase_ValueError he hm hk (raises_own hs ht) hg hdb), fun F e M σ L G H Dn o re h => ?_⟩
  exact h σ L G H _ o (Ext.refl _ _) re hm
end
end KB
namespace KB
open PySem PySem.Spec PyProof.Rows L2
/-! ### tables of the module: a dict with text keys and ints -/
def TabEs (P : Params) : List DictEntry → List (Str × Int) → Prop
  | [], [] => True
  | e :: r, p :: q => (∃ t t', e.key = .str p.1 t ∧ e.hash = PyData.keyHash P p.1 ∧ e.val = .int p.2 t') ∧ TabEs P r q
  | _, _ => False
theorem TabEs.tnil {P : Params} : TabEs P [] [] := trivial
theorem TabEs.tcons {P : Params} {e : DictEntry} {r : List DictEntry} {p : Str × Int} {q : List (Str × Int)} (h : ∃ t t', e.key = .str p.1 t ∧ e.hash = PyData.keyHash P p.1 ∧ e.val = .int p.2 t') (h2 : TabEs P r q) : TabEs P (e :: r) (p :: q) := ⟨h, h2⟩
theorem TabEs.lit {P : Params} : ∀ {es : List DictEntry} {tab : List (Str × Int)}, TabEs P es tab → PySem.W.KeysLit P es
  | [], _, _ => trivial
  | e :: r, [], h => h.elim
  | e :: r, p :: q, h => by
    obtain ⟨⟨t, t', h1, h2, h3⟩, h4⟩ := h
    exact ⟨⟨p.1, t, h1, h2⟩, TabEs.lit h4⟩
theorem isStr_str (x y : Str) (t : Tok) : (Value.str x t).isStr y = (x == y) := rfl
theorem TabEs.find {P : Params} (z : Str) : ∀ {es : List DictEntry} {tab : List (Str × Int)}, TabEs P es tab → (∃ i, tab.lookup z = some i ∧ ∃ e t, es.find? (·.key.isStr z) = some e ∧ e.val = .int i t) ∨ (tab.lookup z = none ∧ es.find? (·.key.isStr z) = none)
  | [], [], _ => .inr ⟨rfl, rfl⟩
  | [], p :: q, h => h.elim
  | e :: r, [], h => h.elim
  | e :: r, (k, v) :: q, h => by
    obtain ⟨⟨t, t', h1, h2, h3⟩, h4⟩ := h
    have hk : e.key.isStr z = (k == z) := by rw [h1]; rfl
    by_cases hz : k = z
    · subst hz
      refine .inl ⟨v, by simp [List.lookup], e, t', ?_, h3⟩
      rw [List.find?_cons_of_pos (by rw [hk]; simp)]
    · have hne : (k == z) = false := by simpa using hz
      have hne' : (z == k) = false := by simpa using fun e => hz e.symm
      rw [List.find?_cons_of_neg (by rw [hk, hne]; simp)]
      rw [List.lookup_cons, hne']
      exact TabEs.find z h4
theorem TabEs.noref {P : Params} : ∀ {es : List DictEntry} {tab : List (Str × Int)}, TabEs P es tab → es.any (·.refKey) = false
  | [], _, _ => rfl
  | e :: r, [], h => h.elim
  | e :: r, p :: q, h => by
    obtain ⟨⟨t, t', h1, h2, h3⟩, h4⟩ := h
    rw [List.any_cons, TabEs.noref h4]
    unfold DictEntry.refKey
    rw [h1]
    rfl
structure TabAt (w : World) (C : Kx) (x : Str) (tab : List (Str × Int)) : Prop where
  ex : ∃ (d : Addr) (es : Array DictEntry) (n : Nat), C.mg x = some (.ref d) ∧ C.K.lookup d = some ⟨.type "dict", none, .dict es n, #[]⟩ ∧ TabEs w.params es.toList tab ∧ (d == sysModules) = false
theorem tab_ns {w : World} {K : PySem.W.Frag} {d : Addr} {es : Array DictEntry} {n : Nat} {tab : List (Str × Int)} (hl : K.lookup d = some ⟨.type "dict", none, .dict es n, #[]⟩) (ht : TabEs w.params es.toList tab) (z : Str) :
    (∃ i t, tab.lookup z = some i ∧ PySem.W.nsIn K d z = some (some (.int i t))) ∨ (tab.lookup z = none ∧ PySem.W.nsIn K d z = some none) := by
  unfold PySem.W.nsIn
  rw [hl]
  dsimp only
  rcases ht.find z with ⟨i, h1, e, t, h2, h3⟩ | ⟨h1, h2⟩
  · rw [h2]; exact .inl ⟨i, t, h1, by dsimp only; rw [h3]⟩
  · rw [h2, ht.noref]; exact .inr ⟨h1, rfl⟩
def fInTab (tab : List (Str × Int)) (x : D) (M : List MO) : R D := match x with
  | .str z => .ok (.bl (tab.lookup z).isSome) M
  | _ => .stuck
def fInNotTab (tab : List (Str × Int)) (x : D) (M : List MO) : R D := match x with
  | .str z => .ok (.bl (!(tab.lookup z).isSome)) M
  | _ => .stuck
def fTab (tab : List (Str × Int)) (x : D) (M : List MO) : R D := match x with
  | .str z => match tab.lookup z with
    | some i => .ok (.int i) M
    | none => .stuck
  | _ => .stuck
section
variable {X : Cx} {W : WX}
theorem hoInTab {x : Str} {tab : List (Str × Int)} {t : TE} {ev : EV} {d : Addr} {es : Array DictEntry} {n : Nat} (hl : X.K.lookup d = some ⟨.type "dict", none, .dict es n, #[]⟩) (ht : TabEs X.w.params es.toList tab) (h : HoE X W t ev) :
    HoE X W (tOp (fun x y H Q => ∃ (z : Str) (r : Option Value), x = .str z ∧ y = .ref d ∧ PySem.W.nsIn X.K d z = some r ∧ Q (.bl r.isSome) H) t (tC (.ref d))) (eUn (fInTab tab) ev) := by
  intro F e M σ L G H Q o re q
  refine h F e M σ L G H _ o re ((Aft.bind q).imp fun dd M1 L1 G1 H1 o1 x1 h1 v r => ?_)
  unfold fInTab at h1
  split at h1
  · rename_i z
    cases r
    rcases tab_ns hl ht z with ⟨i, tk, e1, e2⟩ | ⟨e1, e2⟩
    · rw [e1] at h1; exact ⟨z, _, rfl, rfl, e2, aok h1 o1 _ (.bl _)⟩
    · rw [e1] at h1; exact ⟨z, _, rfl, rfl, e2, aok h1 o1 _ (.bl _)⟩
  · exact h1.elim
theorem hoInNotTab {x : Str} {tab : List (Str × Int)} {t : TE} {ev : EV} {d : Addr} {es : Array DictEntry} {n : Nat} (hl : X.K.lookup d = some ⟨.type "dict", none, .dict es n, #[]⟩) (ht : TabEs X.w.params es.toList tab) (h : HoE X W t ev) :
    HoE X W (tOp (fun x y H Q => ∃ (z : Str) (r : Option Value), x = .str z ∧ y = .ref d ∧ PySem.W.nsIn X.K d z = some r ∧ Q (.bl (!r.isSome)) H) t (tC (.ref d))) (eUn (fInNotTab tab) ev) := by
  intro F e M σ L G H Q o re q
  refine h F e M σ L G H _ o re ((Aft.bind q).imp fun dd M1 L1 G1 H1 o1 x1 h1 v r => ?_)
  unfold fInNotTab at h1
  split at h1
  · rename_i z
    cases r
    rcases tab_ns hl ht z with ⟨i, tk, e1, e2⟩ | ⟨e1, e2⟩
    · rw [e1] at h1; exact ⟨z, _, rfl, rfl, e2, aok h1 o1 _ (.bl _)⟩
    · rw [e1] at h1; exact ⟨z, _, rfl, rfl, e2, aok h1 o1 _ (.bl _)⟩
  · exact h1.elim
theorem pd_inTab {x : Str} {tab : List (Str × Int)} {a : Expr} {ev : EV} {p pos : Pos} (h : TabAt X.w (kx X) x tab) (ha : PD X W a ev) (hg : Gl X x := by rfl) (hd : (x == ("__debug__" : Str)) = false := by decide) (hm : behindInMarks .In (.Name x p) = false := by rfl) : PD X W (.Compare a [.In] [.Name x p] pos) (eUn (fInTab tab) ev) := by
  obtain ⟨d, es, n, h1, h2, h3, h4⟩ := h.ex
  obtain ⟨t, pa, q⟩ := ha
  exact ⟨_, pe_cmpR (op_in_kd ⟨h2, h3.lit, h4⟩) pa (pe_glob (v := .ref d) hg h1 rfl hd) hm, hoInTab (x := x) h2 h3 q⟩
theorem pb_inTab {x : Str} {tab : List (Str × Int)} {a : Expr} {ev : EV} {p pos : Pos} (h : TabAt X.w (kx X) x tab) (ha : PD X W a ev) (hg : Gl X x := by rfl) (hd : (x == ("__debug__" : Str)) = false := by decide) (hm : behindInMarks .In (.Name x p) = false := by rfl) : PB X W (.Compare a [.In] [.Name x p] pos) (eTest (eUn (fInTab tab) ev)) := by
  obtain ⟨d, es, n, h1, h2, h3, h4⟩ := h.ex
  obtain ⟨t, pa, q⟩ := ha
  exact ⟨_, pt_cmpR (op_in_kd ⟨h2, h3.lit, h4⟩) pa (pe_glob (v := .ref d) hg h1 rfl hd) hm, hoTest (hoInTab (x := x) h2 h3 q)⟩
theorem pd_inNotTab {x : Str} {tab : List (Str × Int)} {a : Expr} {ev : EV} {p pos : Pos} (h : TabAt X.w (kx X) x tab) (ha : PD X W a ev) (hg : Gl X x := by rfl) (hd : (x == ("__debug__" : Str)) = false := by decide) (hm : behindInMarks .NotIn (.Name x p) = false := by rfl) : PD X W (.Compare a [.NotIn] [.Name x p] pos) (eUn (fInNotTab tab) ev) := by
  obtain ⟨d, es, n, h1, h2, h3, h4⟩ := h.ex
  obtain ⟨t, pa, q⟩ := ha
  exact ⟨_, pe_cmpR (op_notIn_kd ⟨h2, h3.lit, h4⟩) pa (pe_glob (v := .ref d) hg h1 rfl hd) hm, hoInNotTab (x := x) h2 h3 q⟩
theorem pb_inNotTab {x : Str} {tab : List (Str × Int)} {a : Expr} {ev : EV} {p pos : Pos} (h : TabAt X.w (kx X) x tab) (ha : PD X W a ev) (hg : Gl X x := by rfl) (hd : (x == ("__debug__" : Str)) = false := by decide) (hm : behindInMarks .NotIn (.Name x p) = false := by rfl) : PB X W (.Compare a [.NotIn] [.Name x p] pos) (eTest (eUn (fInNotTab tab) ev)) := by
  obtain ⟨d, es, n, h1, h2, h3, h4⟩ := h.ex
  obtain ⟨t, pa, q⟩ := ha
  exact ⟨_, pt_cmpR (op_notIn_kd ⟨h2, h3.lit, h4⟩) pa (pe_glob (v := .ref d) hg h1 rfl hd) hm, hoTest (hoInNotTab (x := x) h2 h3 q)⟩
theorem pd_tab {x : Str} {tab : List (Str × Int)} {a : Expr} {ev : EV} {p pos : Pos} (h : TabAt X.w (kx X) x tab) (ha : PD X W a ev) (hg : Gl X x := by rfl) (hd : (x == ("__debug__" : Str)) = false := by decide) (hs : PlainIx a := by exact fun _ _ => rfl) : PD X W (.Subscript (.Name x p) a pos) (eUn (fTab tab) ev) := by
  obtain ⟨d, es, n, h1, h2, h3, h4⟩ := h.ex
  obtain ⟨t, pa, q⟩ := ha
  refine ⟨_, pe_ix ix_kdict (pe_glob (v := .ref d) hg h1 rfl hd) pa hs, fun F e M σ L G H Q o re h => ?_⟩
  refine q F e M σ L G H _ o re ((Aft.bind h).imp fun dd M1 L1 G1 H1 o1 x1 h5 v r => ?_)
  unfold fTab at h5
  split at h5
  · rename_i z
    cases r
    rcases tab_ns h2 h3 z with ⟨i, tk, e1, e2⟩ | ⟨e1, e2⟩
    · rw [e1] at h5
      exact ⟨d, z, .int i, rfl, rfl, ⟨es, n, _, h2, h3.lit, e2, ⟨tk, rfl⟩⟩, aok h5 o1 _ (.int i)⟩
    · rw [e1] at h5; exact h5.elim
  · exact h5.elim
/-! ### x in y -/
def dV : D → V
  | .bl b => .bl b
  | .int i => .int i
  | .str s => .str s
  | _ => .non
def flatD : D → Bool
  | .non => true
  | .bl _ => true
  | .int _ => true
  | .str _ => true
  | _ => false
theorem flat_V {C : Kx} {L : List Addr} {G : Hp} {v : V} {d : D} (r : Rp C L G v d) (h : flatD d = true) : v = dV d ∧ flatV v = true := by
  cases r <;> first | exact ⟨rfl, rfl⟩ | cases h
theorem flats_V {C : Kx} {L : List Addr} {G : Hp} : ∀ {ds : List D} {vs : List V}, RpL C L G vs ds → ds.all flatD = true → vs = ds.map dV ∧ vs.all flatV = true
  | [], _, h, _ => by cases h; exact ⟨rfl, rfl⟩
  | d :: ds, _, h, e => by
    cases h with
    | cons h1 h2 =>
      rw [List.all_cons, Bool.and_eq_true] at e
      obtain ⟨rfl, f1⟩ := flat_V h1 e.1
      obtain ⟨rfl, f2⟩ := flats_V h2 e.2
      exact ⟨rfl, by rw [List.all_cons, f1, f2]; rfl⟩
def memD (x : D) (ys : List D) : Bool := ys.any fun z => dEqv z x
def fInB (x y : D) (M : List MO) : Option Bool := match res M y with
  | .tup ys => if flatD x && ys.all flatD then some (inV (dV x) (ys.map dV)) else none
  | .lst ys => if shp (res M x) && shp (.lst ys) then some (memD (res M x) ys) else none
  | .str z => match x with
    | .str a => some (!(Builtin.Str.occurrences z a 0 z.length 1).isEmpty)
    | _ => none
  | _ => none
def fIn (x y : D) (M : List MO) : R D := match fInB x y M with
  | some b => .ok (.bl b) M
  | none => .stuck
def fNotIn (x y : D) (M : List MO) : R D := match fInB x y M with
  | some b => .ok (.bl (!b)) M
  | none => .stuck
theorem any_toPs (x : D) : ∀ ys : List D, ((toPs ys).any fun z => PyData.eqv z (toP x)) = memD x ys
  | [] => rfl
  | y :: ys => by
    have ih := any_toPs x ys
    unfold memD at ih ⊢
    rw [toPs, List.any_cons, List.any_cons, ih]
    rfl
def rInU (K : PySem.W.Frag) : R2 := fun x y H Q => rIn K false x y H Q ∨ (rInD K x y H Q ∨ (∃ i j, x = .str i ∧ y = .str j ∧ Q (.bl (!(Builtin.Str.occurrences j i 0 j.length 1).isEmpty)) H))
def rNotInU (K : PySem.W.Frag) : R2 := fun x y H Q => rIn K true x y H Q ∨ (rNotInD K x y H Q ∨ (∃ i j, x = .str i ∧ y = .str j ∧ Q (.bl (!(!(Builtin.Str.occurrences j i 0 j.length 1).isEmpty))) H))
theorem opIn (hu : X.A.units + 65 < cLine) : OpR X (compareOp .In) (rInU X.K) := op_in_seq.or ((op_inD hu).or op_in_str)
theorem opNotIn (hu : X.A.units + 65 < cLine) : OpR X (compareOp .NotIn) (rNotInU X.K) := op_notIn_seq.or ((op_notInD hu).or op_notin_str)
theorem dIn : OpD X W (rInU X.K) fIn := by
  intro x y dx dy M F L G H σ Q o rx ry h
  unfold fIn at h
  cases hb : fInB dx dy M with
  | none => rw [hb] at h; exact h.elim
  | some b =>
    rw [hb] at h
    unfold fInB at hb
    split at hb
    · rename_i ys e
      split at hb
      · rename_i hf
        cases hb
        rw [Bool.and_eq_true] at hf
        obtain ⟨a, vs, rfl, s, l⟩ := o.viewT ry e
        obtain ⟨rfl, f1⟩ := flat_V rx hf.1
        obtain ⟨rfl, f2⟩ := flats_V l hf.2
        exact .inl ⟨a, _, rfl, .inr s, f1, f2, aok h o _ (.bl _)⟩
      · cases hb
    · rename_i ys e
      split at hb
      · rename_i hf
        cases hb
        rw [Bool.and_eq_true] at hf
        have d1 := dp_res o rx hf.1
        have d2 := dp_res o ry (by rw [e]; exact hf.2)
        rw [e] at d2
        rw [toP] at d2
        refine .inr (.inl ⟨_, _, d1, d2, hf.1, ?_, ?_⟩)
        · have := hf.2; unfold shp at this; rw [toP] at this; exact this
        · rw [any_toPs]; exact aok h o _ (.bl _)
      · cases hb
    · rename_i z e
      split at hb
      · cases hb
        cases rx
        exact .inr (.inr ⟨_, z, rfl, viewS ry e, aok h o _ (.bl _)⟩)
      · cases hb
    · cases hb
theorem dNotIn : OpD X W (rNotInU X.K) fNotIn := by
  intro x y dx dy M F L G H σ Q o rx ry h
  unfold fNotIn at h
  cases hb : fInB dx dy M with
  | none => rw [hb] at h; exact h.elim
  | some b =>
    rw [hb] at h
    unfold fInB at hb
    split at hb
    · rename_i ys e
      split at hb
      · rename_i hf
        cases hb
        rw [Bool.and_eq_true] at hf
        obtain ⟨a, vs, rfl, s, l⟩ := o.viewT ry e
        obtain ⟨rfl, f1⟩ := flat_V rx hf.1
        obtain ⟨rfl, f2⟩ := flats_V l hf.2
        exact .inl ⟨a, _, rfl, .inr s, f1, f2, aok h o _ (.bl _)⟩
      · cases hb
    · rename_i ys e
      split at hb
      · rename_i hf
        cases hb
        rw [Bool.and_eq_true] at hf
        have d1 := dp_res o rx hf.1
        have d2 := dp_res o ry (by rw [e]; exact hf.2)
        rw [e] at d2
        rw [toP] at d2
        refine .inr (.inl ⟨_, _, d1, d2, hf.1, ?_, ?_⟩)
        · have := hf.2; unfold shp at this; rw [toP] at this; exact this
        · rw [any_toPs]; exact aok h o _ (.bl _)
      · cases hb
    · rename_i z e
      split at hb
      · cases hb
        cases rx
        exact .inr (.inr ⟨_, z, rfl, viewS ry e, aok h o _ (.bl _)⟩)
      · cases hb
    · cases hb
/-! ### str(i), int(s), s.startswith(t) -/
def fStrI (ds : List D) (M : List MO) : R D := match ds with
  | [.int i] => if 0 ≤ i ∧ i ≤ 1000000 then .ok (.str (toString i)) M else .stuck
  | _ => .stuck
theorem dStrI : CallD X W (fun xs H Q => ∃ i, xs = [.int i] ∧ i.natAbs.log2 < 1920 ∧ Q (.str (toString i)) H) fStrI := by
  intro xs ds M F L G H σ Q o r h
  unfold fStrI at h
  split at h
  · rename_i i
    obtain ⟨v, rfl, rv⟩ := one r
    cases rv
    split at h
    · rename_i hi
      refine ⟨i, rfl, ?_, aok h o _ (.str _)⟩
      have h1 : i.natAbs < 2 ^ 20 := by omega
      exact Nat.lt_of_lt_of_le (PySem.Flt.log2_lt_of (by decide) h1) (by decide)
    · exact h.elim
  · exact h.elim
theorem pd_strI {a : Expr} {p pos : Pos} {ea : EA} (hm : X.mg "str" = none) (ha : PAD X W [a] ea) (hg : Gl X "str" := by rfl) (hs : starEach [a] X.env = (false, eval a X.env) :: starEach [] X.env := by rfl) : PD X W (.Call (.Name "str" p) [a] [] pos) (eArgs fStrI ea) :=
  pd_callTy call_str_int dStrI hg hm (by decide +kernel) ha (by decide) (by decide) hs rfl
def fIntS (ds : List D) (M : List MO) : R D := match ds with
  | [.str z] => if z.length ≤ 640 then match PySem.intText? z with
    | some n => .ok (.int n) M
    | none => .stuck
    else .stuck
  | _ => .stuck
theorem dIntS : CallD X W (fun xs H Q => ∃ a n, xs = [.str a] ∧ PySem.intText? a = some n ∧ a.length ≤ 640 ∧ Q (.int n) H) fIntS := by
  intro xs ds M F L G H σ Q o r h
  unfold fIntS at h
  split at h
  · rename_i z
    obtain ⟨v, rfl, rv⟩ := one r
    cases rv
    split at h
    · rename_i hz
      split at h
      · rename_i n hn
        exact ⟨z, n, rfl, hn, hz, aok h o _ (.int _)⟩
      · exact h.elim
    · exact h.elim
  · exact h.elim
theorem pd_intS {a : Expr} {p pos : Pos} {ea : EA} (hm : X.mg "int" = none) (ha : PAD X W [a] ea) (hg : Gl X "int" := by rfl) (hs : starEach [a] X.env = (false, eval a X.env) :: starEach [] X.env := by rfl) : PD X W (.Call (.Name "int" p) [a] [] pos) (eArgs fIntS ea) :=
  pd_callTy call_int_str dIntS hg hm (by decide +kernel) ha (by decide) (by decide) hs rfl
def fStarts (o : D) (xs : List D) (M : List MO) : R D := match o, xs with
  | .str a, [.str b] => .ok (.bl (Txt.startswith a b)) M
  | _, _ => .stuck
theorem dStarts : MtD X W (fun x xs H Q => ∃ a b, x = .str a ∧ xs = [.str b] ∧ Q (.bl (Txt.startswith a b)) H) fStarts := by
  intro x vs dx ds M F L G H σ Q o rx r h
  unfold fStarts at h
  split at h
  · obtain ⟨w, rfl, rw'⟩ := one r
    cases rx; cases rw'
    exact ⟨_, _, rfl, rfl, aok h o _ (.bl _)⟩
  · exact h.elim
theorem pd_startswith {o a : Expr} {apos cpos : Pos} {eo : EV} {ea : EA} (ho : PD X W o eo) (ha : PAD X W [a] ea)
    (hbase : attributeBase o "startswith" X.env (eval o X.env) = eval o X.env := by rfl)
    (hfew : ((backTo cpos (starEach [a] X.env)).all (fun x => !x.1) && (backToKw cpos (keywordEach [] X.env)).all (fun x => x.1.isSome)
      && decide ([a].length + ([] : List Keyword).length + (if ([] : List Keyword).isEmpty then 0 else 1) < 30)) = true := by rfl)
    (hline : (apos.endLine == cpos.line) = true := by rfl) (hs : starEach [a] X.env = (false, eval a X.env) :: starEach [] X.env := by rfl) : PD X W (.Call (.Attribute o "startswith" apos) [a] [] cpos) (eMeth ckS fStarts eo ea) :=
  pd_meth PySem.F.plainAttrs_str PySem.F.slot_str_startswith PySem.F.type_str_startswith mt_startswith ckS_ok dStarts ho ha hbase hfew hline hs rfl
/-! ### zip of two -/
def zipD : List D → List D → List D
  | a :: as, b :: bs => .tup [a, b] :: zipD as bs
  | _, _ => []
theorem zipD_get : ∀ (as bs : List D) (i : Nat) (d : D), (zipD as bs)[i]? = some d → ∃ a b, as[i]? = some a ∧ bs[i]? = some b ∧ d = .tup [a, b]
  | [], _, i, d, h => by simp [zipD] at h
  | _ :: _, [], i, d, h => by simp [zipD] at h
  | a :: as, b :: bs, 0, d, h => by simp [zipD] at h; exact ⟨a, b, rfl, rfl, h.symm⟩
  | a :: as, b :: bs, i + 1, d, h => by
    simp only [zipD, List.getElem?_cons_succ] at h ⊢
    exact zipD_get as bs i d h
theorem zipD_length : ∀ (as bs : List D), (zipD as bs).length = min as.length bs.length
  | [], _ => by simp [zipD]
  | _ :: _, [] => by simp [zipD]
  | a :: as, b :: bs => by simp only [zipD, List.length_cons, zipD_length as bs]; omega
def eZip2 (ea : EA) : EI := fun e M => (ea e M).bind fun ds M1 => match ds with
  | [.lst a, .lst b] => .ok (.snap (zipD a b)) M1
  | [.tup a, .tup b] => .ok (.snap (zipD a b)) M1
  | _ => .stuck
theorem walk_zipT {K : PySem.W.Frag} {a b : Addr} {xs ys : List V} {n : Nat} (hn : n = min xs.length ys.length) : Walk (RZ.ItzT K a b) n (fun H => SqT K H a xs ∧ SqT K H b ys) (YPair (fun i => xs[i]?) (fun i => ys[i]?)) := by
  subst hn
  refine ⟨fun i H hi h => ?_, fun H h => ?_, fun i H x H' hi h y => ?_⟩
  · have h1 : i < xs.length := by omega
    have h2 : i < ys.length := by omega
    exact ⟨xs, ys, xs[i], ys[i], h.1, h.2, List.getElem?_eq_getElem h1, List.getElem?_eq_getElem h2⟩
  · exact ⟨xs, ys, h.1, h.2, by omega⟩
  · obtain ⟨T, x1, x2, rfl, nT, rfl, f1, f2⟩ := y
    exact ⟨T, x1, x2, rfl, nT, rfl, f1 xs h.1, f2 ys h.2⟩
theorem wk_pair {L : List Addr} {G : Hp} {J : It} {as bs : List D} {vs ws : List V} {Gd : Hp → Prop} (lx : RpL (kx X) L G vs as) (ly : RpL (kx X) L G ws bs) (w : Walk J (min vs.length ws.length) Gd (YPair (fun i => vs[i]?) (fun i => ws[i]?)))
    (hG : ∀ F' L' G' M' H', Ok (kx X) F' L' G' M' H' → Ext L G L' G' → Gd H') : WkOk X L G J (zipD as bs) := by
  refine ⟨Gd, _, by rw [zipD_length, ← lx.length, ← ly.length]; exact w, hG, ?_⟩
  rintro i d x F' L' G' M' H' H2 hd o e ⟨T, x1, x2, rfl, nT, rfl, f1, f2⟩
  obtain ⟨a, b, ha, hb, rfl⟩ := zipD_get as bs i d hd
  obtain ⟨v, hv, rv⟩ := lx.get ha
  obtain ⟨v', hv', rv'⟩ := ly.get hb
  dsimp only at f1 f2
  rw [hv] at f1; cases f1
  rw [hv'] at f2; cases f2
  obtain ⟨o2, e2⟩ := o.lay (u := .tup [x1, x2]) nT
  exact ⟨_, o2, e2, .tup (.inl (.inl upd_same)) (.cons ((rv.mono e).mono e2) (.cons ((rv'.mono e).mono e2) .nil))⟩
theorem pid_zip2 {a b : Expr} {ea : EA} {p pos tpos : Pos} {elts : List Expr} {kk : Nat} (hc : X.calm = true) (hm : X.mg "zip" = none) (ha : PAD X W [a, b] ea) (hg : Gl X "zip" := by rfl) (hs : starEach [a, b] X.env = (false, eval a X.env) :: starEach [b] X.env := by rfl) (hpl : (backTo pos (starEach [b] X.env)).any (·.1) = false := by rfl) :
    PID X W (.Tuple elts kk tpos) (.Call (.Name "zip" p) [a, b] [] pos) (eZip2 ea) := by
  obtain ⟨t, pa, q⟩ := ha
  refine ⟨_, RZ.pi_zipA hg hm pa hs hpl, fun F e M σ L G H Rq o re h => ?_⟩
  refine q F e M σ L G H _ o re ((Aft.bind h).imp fun ds M1 L1 G1 H1 o1 x1 h1 vs r => ?_)
  split at h1
  · rename_i as bs
    obtain ⟨v, w, rfl, r1, r2⟩ := two r
    cases r1 with
    | lst s1 l1 => cases r2 with
      | lst s2 l2 =>
        refine ⟨_, _, _, _, rfl, .inl ⟨.inl (.inl (o1.sub _ _ s1)), .inl (.inl (o1.sub _ _ s2)), ?_⟩⟩
        exact h1 L1 G1 H1 o1 (Ext.refl _ _) _ G1 H1 o1 (Ext.refl _ _) (wk_pair l1 l2 (walk_zip rfl) fun F' L' G' M' H' o x => ⟨.inl (.inl (o.sub _ _ (x.g _ _ s1))), .inl (.inl (o.sub _ _ (x.g _ _ s2)))⟩)
  · rename_i as bs
    obtain ⟨v, w, rfl, r1, r2⟩ := two r
    cases r1 with
    | tup s1 l1 => cases r2 with
      | tup s2 l2 =>
        refine ⟨_, _, _, _, rfl, .inr ⟨Same.seqT o1.sub s1, Same.seqT o1.sub s2, ?_⟩⟩
        exact h1 L1 G1 H1 o1 (Ext.refl _ _) _ G1 H1 o1 (Ext.refl _ _) (wk_pair l1 l2 (walk_zipT rfl) fun F' L' G' M' H' o x => ⟨Same.seqT o.sub (Same.seqT x.g s1), Same.seqT o.sub (Same.seqT x.g s2)⟩)
  · exact h1.elim
end
end KB
namespace KB
open PySem PySem.Spec PyProof.Rows L2
/-! ### sorted(set(xs)), ints -/
section
variable {P : Program} {w : World} {A : Around} {E : Value → Shared → Prop} {s : Shared}
set_option maxHeartbeats 3200000 in
theorem call_set_lisI {l : Addr} {items : Array Value} (ns : List Int) {Q : Value → Shared → Prop} (hh : A.handled = none) (hl : s.heap.IsList l items) (hit : IntsAre items.toList ns) (hb : ns.length + 1 < scanBound)
    (h : ∀ (h' : Heap) (tk c : Nat), SetR w h' s.heap.objs.size (fun j => decide (j ∈ ns)) c → c ≤ ns.length → (∀ b o, s.heap.get? b = some o → h'.get? b = some o) → Q (.ref s.heap.objs.size) { s with heap := h', toks := tk }) :
    wpAny (model P w) A (call (.type "set") [.ref l]) Q E s := by
  have hisz : items.size = ns.length := by
    have q := IntsAre.length hit
    rw [Array.length_toList] at q
    exact q
  obtain ⟨c, tl, hmro⟩ := F.called_set.mro
  have hmade := F.called_set.made
  have hsub := F.called_set.sub
  refine wpAny_call (codeAny_of_tree ?_)
  show wpAny _ _ (callAny (.type "set") _) _ _ _
  refine wpAny_pure ⟨Code.quiet_builtin _ (by decide +kernel), codeAny_builtin F.entry_type_call ?_⟩
  rw [Around.under_plain (weight_type_call_type "set" [.ref l] []) rfl]
  have h1 := F.called_set.notType
  have h2 := F.called_set.canCreate
  have hct := F.typeCall_set_1 (.ref l)
  repeat (any_goals (first | assumption | wp_step))

  refine codeAny_mono (code_set_led1 (.ref l) (E := E) (Q₁ := fun obj s₁ => obj = .ref s.heap.objs.size ∧ s₁ = { s with heap := s.heap.push { cls := .type "set", dict := none, data := .set #[] 0 (.fresh 0 0 (!w.params.followText "set-order")) } }) ⟨rfl, rfl⟩) fun r s₁ hr => ?_
  cases r with
  | error e => exact hr
  | ok fl =>
    cases fl with
    | ret obj =>
      obtain ⟨rfl, rfl⟩ := hr
      have hS : (s.heap.push { cls := .type "set", dict := none, data := .set #[] 0 (.fresh 0 0 (!w.params.followText "set-order")) }).get? s.heap.objs.size = some { cls := .type "set", dict := none, data := .set #[] 0 (.fresh 0 0 (!w.params.followText "set-order")) } := Heap.get?_push_size _ rfl
      have hT : Shared.TypeIs { s with heap := s.heap.push { cls := .type "set", dict := none, data := .set #[] 0 (.fresh 0 0 (!w.params.followText "set-order")) } } (.ref s.heap.objs.size) "set" := ⟨_, hS, rfl⟩
      have hli := F.called_set.init.lookup
      have hbi := F.called_set.init.bind (.ref s.heap.objs.size)
      repeat (any_goals (first | assumption | wp_step))

      refine codeAny_mono (codeAny_call_builtin (R := wants (fun r s₂ => r = .none ∧ ∃ h' tk c, s₂ = { s with heap := h', toks := tk } ∧ SetR w h' s.heap.objs.size (fun j => decide (j ∈ ns)) c ∧ c ≤ ns.length ∧
          (∀ b o, s.heap.get? b = some o → h'.get? b = some o)) E) F.called_set.init.plain F.entry_set_init (check_set_init_1 hT ?_)) fun r₂ s₂ hr₂ => ?_
      · obtain ⟨ol, hol, hcl, nl, hdl⟩ := hl
        obtain ⟨ocls, odict, odata, oslots⟩ := ol
        simp only at hcl hdl
        subst hcl; subst hdl
        have hol' : (s.heap.push { cls := .type "set", dict := none, data := .set #[] 0 (.fresh 0 0 (!w.params.followText "set-order")) }).get? l = some { cls := .type "list", dict := odict, data := .seq items nl, slots := oslots } := Heap.get?_push_of_some _ hol
        have hsls := F.sub_list_set
        have hslf := F.sub_list_frozenset
        have hne : (Value.type "list" == Value.type "dict") = false := by decide
        have hl1 : (s.heap.push { cls := .type "set", dict := none, data := .set #[] 0 (.fresh 0 0 (!w.params.followText "set-order")) }).IsList l items := ⟨_, hol', rfl, nl, rfl⟩
        unfold Builtin.«set.__init__» noKeywords Builtin.Frozenset.updateFrom
        generalize hPI : pyIter = PI
        wp_walk
        subst hPI

        refine wpAny_pyIter_list hl1 ?_
        refine wpAny_bind (wpAny_runValue ?_)
        have hlS : l < s.heap.objs.size := Heap.lt_size hol
        have hh3 : A.in1.in1.in1.handled = none := by simp [hh]
        have hz1 : (s.heap.push { cls := .type "set", dict := none, data := .set #[] 0 (.fresh 0 0 (!w.params.followText "set-order")) }).objs.size = s.heap.objs.size + 1 := Heap.size_push ..
        have hneI : l ≠ (s.heap.push { cls := .type "set", dict := none, data := .set #[] 0 (.fresh 0 0 (!w.params.followText "set-order")) }).objs.size := by
          rw [Heap.size_push]; exact Nat.ne_of_lt (Nat.lt_succ_of_lt hlS)
        have hSf : s.heap.objs.size ∉ [(s.heap.push { cls := .type "set", dict := none, data := .set #[] 0 (.fresh 0 0 (!w.params.followText "set-order")) }).objs.size, l] := by
          rw [Heap.size_push]; simp only [List.mem_cons, List.mem_singleton, List.not_mem_nil, or_false, not_or]
          exact ⟨Nat.ne_of_lt (Nat.lt_succ_self _), Nat.ne_of_gt hlS⟩
        have hval : ∀ (i : Nat) (v : Value), items[i]? = some v → ∃ k t, ns[i]? = some k ∧ v = .int k t := fun i v hv => by
          have hi : i < ns.length := by rw [← hisz]; exact (Array.getElem?_eq_some_iff.mp hv).1
          obtain ⟨t, e⟩ := PyProof.Rows.IntsAre.int_at hit i v (by rw [Array.getElem?_toList]; exact hv)
          refine ⟨ns[i], t, List.getElem?_eq_getElem hi, ?_⟩
          rw [e, List.getD_eq_getElem?_getD, List.getElem?_eq_getElem hi] <;> rfl
        refine set_update_ints ((Walks.list hh3 _ l hneI items).toS) s.heap.objs.size
          hSf ns hisz hb hval (items.size - 0) 0 _ (by omega) (Nat.zero_le _)
          ⟨⟨_, Heap.get?_push_size _ rfl, rfl, rfl⟩, (hl1.push _)⟩ ?hS0 ?hR
        case hS0 =>
          have hget : ((s.heap.push { cls := .type "set", dict := none, data := .set #[] 0 (.fresh 0 0 (!w.params.followText "set-order")) }).push { cls := .type "list_iterator", data := .fields #[.ref l, .int 0 0] }).get? s.heap.objs.size
              = some { cls := .type "set", dict := none, data := .set #[] 0 (.fresh 0 0 (!w.params.followText "set-order")) } := Heap.get?_push_of_some _ hS
          exact ⟨0, Nat.le_refl 0, setR_new_at hget⟩
        case hR =>
          intro s' c' hm hc' hS'
          obtain ⟨h', g2, d', tk', os'⟩ := s'
          have eg : g2 = s.gens := hm.gens
          have ed : d' = s.drawn := hm.drawn
          have eo : os' = s.os := hm.os
          subst eg; subst ed; subst eo
          show wpAny _ _ _ _ _ _
          refine wpAny_pure ?_
          show wpAny _ _ (ret Value.none) _ _ _
          rw [hisz] at hc'
          refine wpAny_pure ⟨rfl, h', tk', c', rfl, hS', hc', fun b o e => ?_⟩
          have hb0 : b < s.heap.objs.size := Heap.lt_size e
          have hb1 : b ≠ s.heap.objs.size := Nat.ne_of_lt hb0
          have hb2 : b ≠ (s.heap.push { cls := .type "set", dict := none, data := .set #[] 0 (.fresh 0 0 (!w.params.followText "set-order")) }).objs.size := by
            rw [Heap.size_push]; exact Nat.ne_of_lt (Nat.lt_succ_of_lt hb0)
          exact hm.heap b o (by simp only [List.mem_cons, List.mem_singleton, List.not_mem_nil, or_false, not_or]; exact ⟨hb1, hb2⟩) (Heap.get?_push_of_some _ (Heap.get?_push_of_some _ e))

      · cases r₂ with
        | error e => exact hr₂
        | ok fl₂ =>
          cases fl₂ with
          | ret r =>
            obtain ⟨rfl, h', tk, c', rfl, hS', hc', hk'⟩ := hr₂
            repeat (any_goals (first | assumption | wp_step))
            exact h _ _ _ hS' hc' hk'
          | _ => exact hr₂.elim
    | _ => exact hr.elim

end
end KB
namespace KB
open PySem PySem.Spec PyProof.Rows L2
section
variable {X : Cx} {W : WX}
def tSortSetI (K : PySem.W.Frag) (ta : TE) : TE := fun σ H Q => ta σ H fun x H1 => ∃ (l : Addr) (ns : List Int), x = .ref l ∧ SqL K H1 l (ns.map V.int) ∧ ns.length < 64 ∧
  ∀ (ns' : List Int) (p : Addr), ns'.Pairwise (· < ·) → (∀ k, k ∈ ns' ↔ k ∈ ns) → H1 p = none → Q (.ref p) (upd H1 p (.lst (ns'.map V.int)))
theorem pe_sortSetI {a : Expr} {ta : TE} {p p2 q pos : Pos} (hc : X.calm = true) (hg : Gl X "sorted") (hm : X.mg "sorted" = none) (hg2 : Gl X "set") (hm2 : X.mg "set" = none) (ha : PE X a ta)
    (na : starEach [a] X.env = (false, eval a X.env) :: starEach [] X.env := by rfl) : PE X (.Call (.Name "sorted" p) [.Call (.Name "set" p2) [a] [] q] [] pos) (tSortSetI X.K ta) := by
  refine ⟨fun pins s σ H Q I h => ?_⟩
  refine Call_ (ld_blt I hg hm (show bootBuiltins "sorted" = some (.builtin "sorted") by decide +kernel) ?_)
  refine PyProof.Rows.callWith_builtin1 (PyProof.Rows.args_cons ?_ rfl) rfl rfl
  refine Call_ (ld_blt I hg2 hm2 PyProof.Rows.boot_set ?_)
  refine PyProof.Rows.callWith_type1 (PyProof.Rows.args_cons (thn (ha.run pins s σ H _ I h) fun v s1 ⟨x, H1, I1, r1, q1⟩ => PyProof.Rows.args_nil ?_) na) na rfl
  obtain ⟨l, ns, rfl, hq, h1, q1⟩ := q1
  cases r1
  obtain ⟨its, r, pl, hz⟩ := I1.list hq
  have hl : its.length = ns.length := by rw [← r.length, List.length_map]
  refine call_set_lisI ns (I1.ok.hd hc) pl.isList (by simpa using r.ints) (by unfold scanBound; omega) fun h' tk c hS hcl hk => ?_
  refine PyProof.Rows.args_nil ?_
  have I2 : Inv X pins σ H1 { s1 with heap := h', toks := tk } := I1.kept fun b o e => hk b o e
  have hd2 := I1.ok.hd hc
  have hS : SetR X.w ({ s1 with heap := h', toks := tk } : Shared).heap s1.heap.objs.size (fun j => decide (j ∈ ns)) c := hS
  generalize { s1 with heap := h', toks := tk } = s2 at I2 hS ⊢
  refine sorted_set hS hd2 (by omega) fun s' p out c' ns' k g o hp hg' hout pw mem hln => ?_
  have hn : H1 p = none := I2.hok.fresh hp
  have hlen : (ns'.map V.int).length ≤ sizeLine := by rw [List.length_map, sizeLine_eq]; omega
  have J : Inv X pins σ (upd H1 p (.lst (ns'.map V.int))) { s2 with heap := s'.heap, gens := s'.gens, drawn := s'.drawn, toks := s'.toks } :=
    I2.call (ch := []) (Un.laid k hp hn) (I2.hok.laid k hp ⟨hlen, out.toList, c', vals_of_ints hout, by simpa using hg'⟩) (by rw [g]; exact I2.bare) (fun _ z => nomatch z)
  have e : s' = { s2 with heap := s'.heap, gens := s'.gens, drawn := s'.drawn, toks := s'.toks } := by
    cases s'
    cases s2
    cases o
    rfl
  rw [e]
  exact ⟨.ref p, _, J, rfl, q1 ns' p pw (fun k => by rw [mem k]; simp) hn⟩
end

/-! ### min, max of two byte strings -/
section
variable {prog : Program} {w : World} {A : Around} {E : Value → Shared → Prop} {s : Shared}

theorem call_max_two' {a b : Value} {bt : Bool} {Q : Value → Shared → Prop} (hh : A.handled = none)
    (hcmp : ∀ (s' : Shared) (Q' E' : Value → Shared → Prop), (∀ c o, s.heap.get? c = some o → s'.heap.get? c = some o) → Q' (.bool bt) s' → wpAny (model prog w) A.in1 (richCompare .Gt b a) Q' E' s')
    (hQ : ∀ h' tk, (∀ c o, s.heap.get? c = some o → h'.get? c = some o) → Q (if bt then b else a) { s with heap := h', toks := tk }) :
    wpAny (model prog w) A (call (.builtin "max") [a, b]) Q E s := by
  have hname : (toString "max" ++ toString ".loop" : String) = "max.loop" := by decide
  refine call_function_tree F.kind_max F.plain_max F.entry_max (F.args_max2 _ _) ?_
  show wpAny _ A.in1 (Builtin.Builtins.bindParams "max" ["key", "default"] 0 ⟨[], []⟩ >>= _) _ _ s
  refine wpAny_bind (wpAny_of_eq (show Builtin.Builtins.bindParams "max" ["key", "default"] 0 ⟨[], []⟩ = pure [none, none] from rfl) ?_)
  show wpAny _ A.in1 (newTuple [a, b] >>= _) _ _ s
  refine wpAny_bind (wpAny_newObj_type ?_)
  have hT : (s.heap.push { cls := .type "tuple", data := .seq #[a, b] }).IsTuple s.heap.objs.size #[a, b] := ⟨_, Heap.get?_push_size _ rfl, rfl, 0, rfl⟩
  have k1 : ∀ c o, s.heap.get? c = some o → (s.heap.push { cls := .type "tuple", data := .seq #[a, b] }).get? c = some o := fun c o e => Heap.get?_push_of_some _ e
  have z1 : (s.heap.push { cls := .type "tuple", data := .seq #[a, b] }).objs.size = s.heap.objs.size + 1 := Heap.size_push ..
  show wpAny _ A.in1 (pyIter (.ref s.heap.objs.size) >>= _) _ _ { s with heap := s.heap.push { cls := .type "tuple", data := .seq #[a, b] } }
  generalize (s.heap.push { cls := .type "tuple", data := .seq #[a, b] }) = h1 at hT k1 z1 ⊢
  refine wpAny_bind (wpAny_pyIter_tuple (s := { s with heap := h1 }) hT ?_)
  have hI : (h1.push { cls := .type "tuple_iterator", data := .fields #[.ref s.heap.objs.size, .int 0 0] }).IsTupleIter h1.objs.size s.heap.objs.size 0 := ⟨_, Heap.get?_push_size _ rfl, rfl, rfl⟩
  have hT2 := hT.push { cls := .type "tuple_iterator", data := .fields #[.ref s.heap.objs.size, .int 0 0] }
  have k2 : ∀ c o, s.heap.get? c = some o → (h1.push { cls := .type "tuple_iterator", data := .fields #[.ref s.heap.objs.size, .int 0 0] }).get? c = some o := fun c o e => Heap.get?_push_of_some _ (k1 c o e)
  have z2 : (h1.push { cls := .type "tuple_iterator", data := .fields #[.ref s.heap.objs.size, .int 0 0] }).objs.size = s.heap.objs.size + 2 := by rw [Heap.size_push, z1]
  dsimp only
  generalize (h1.push { cls := .type "tuple_iterator", data := .fields #[.ref s.heap.objs.size, .int 0 0] }) = h2 at hI hT2 k2 z2 ⊢
  refine wpAny_bind (wpAny_newObj_type ?_)
  rw [z1] at hI ⊢
  rw [hname]
  have W := Walks.tuple (prog := prog) (w := w) (A := A.in1) hh (s.heap.objs.size + 1) s.heap.objs.size (Nat.ne_of_lt (Nat.lt_succ_self _)) #[a, b]
  have hS : (h2.push { cls := .type "list", data := .seq #[] }).get? h2.objs.size = some { cls := .type "list", dict := none, data := .seq #[] 0, slots := #[] } := Heap.get?_push_size _ rfl
  have st0 : (h2.push { cls := .type "list", data := .seq #[] }).IsTupleIter (s.heap.objs.size + 1) s.heap.objs.size 0 ∧ (h2.push { cls := .type "list", data := .seq #[] }).IsTuple s.heap.objs.size #[a, b] := W.frame 0 h2 _ ⟨hI, hT2⟩ fun b _ o e => Heap.get?_push_of_some _ e
  have k3 : ∀ c o, s.heap.get? c = some o → (h2.push { cls := .type "list", data := .seq #[] }).get? c = some o := fun c o e => Heap.get?_push_of_some _ (k2 c o e)
  rw [z2] at hS
  refine wpAny_pure ⟨plainId_quiet F.plain_max_loop _, ?_⟩
  show codeAny (model prog w) A (.builtin "max.loop" ⟨[.ref (s.heap.objs.size + 1), .none, .ref h2.objs.size], []⟩) _ { s with heap := h2.push { cls := .type "list", data := .seq #[] } }
  rw [z2]
  generalize (h2.push { cls := .type "list", data := .seq #[] }) = h3 at hS st0 k3 ⊢
  have nI : ∀ {c : Addr} {o : Obj}, s.heap.get? c = some o → c ∉ [s.heap.objs.size + 1] := fun e hm => absurd (Heap.lt_size e) (by rw [List.mem_singleton.mp hm]; exact Nat.not_lt.mpr (Nat.le_succ _))
  have nS : ∀ {c : Addr} {o : Obj}, s.heap.get? c = some o → s.heap.objs.size + 2 ≠ c := fun e z => absurd (Heap.lt_size e) (by rw [← z]; exact Nat.not_lt.mpr (Nat.le_add_right _ _))
  have SI : s.heap.objs.size + 2 ∉ [s.heap.objs.size + 1] := fun hm => absurd (List.mem_singleton.mp hm) (Nat.ne_of_gt (Nat.lt_succ_self _))
  have Sf : ∀ c ∈ [s.heap.objs.size + 1, s.heap.objs.size], s.heap.objs.size + 2 ≠ c := fun c hc z => by
    subst z
    rcases List.mem_cons.mp hc with e | e
    · exact absurd e (Nat.ne_of_gt (Nat.lt_succ_self _))
    · exact absurd (List.mem_singleton.mp e) (Nat.ne_of_gt (Nat.lt_add_of_pos_right (by decide)))
  -- the first
  refine codeAny_builtin F.entry_max_loop ?_
  rw [Around.under_plainId F.plain_max_loop _]
  show wpAny _ A.in1 (seqItems? (.ref (s.heap.objs.size + 2)) >>= _) _ _ _
  refine wpAny_bind (wpAny_seqItems hS rfl ?_)
  show wpAny _ A.in1 (tryCatch (pyNext (.ref (s.heap.objs.size + 1))) _ >>= _) _ _ _
  refine wpAny_bind (wpAny_tryCatch (W.item 0 _ _ _ (by simp) st0 fun v h4 tk4 hP st4 hk4 => ?_))
  obtain rfl : a = v := Option.some.inj hP
  have hS4 := hk4 _ _ SI hS
  have k4 : ∀ c o, s.heap.get? c = some o → h4.get? c = some o := fun c o e => hk4 c o (nI e) (k3 c o e)
  show wpAny _ A.in1 (updateSeq (s.heap.objs.size + 2) (fun _ => #[a, a]) >>= _) _ _ _
  refine wpAny_bind ?_
  refine wpAny_updateSeq hS4 rfl ?_
  rw [hname]
  refine wpAny_pure ⟨plainId_quiet F.plain_max_loop _, ?_⟩
  -- the second
  have hS5 := Heap.get?_update_self (Obj.mapSeq fun _ => #[a, a]) hS4 rfl
  have st5 := W.frame 1 h4 (h4.update (s.heap.objs.size + 2) (Obj.mapSeq fun _ => #[a, a])) st4 fun b hb o e => (Heap.get?_update_other _ _ (Sf b hb)).trans e
  have k5 : ∀ c o, s.heap.get? c = some o → (h4.update (s.heap.objs.size + 2) (Obj.mapSeq fun _ => #[a, a])).get? c = some o := fun c o e => (Heap.get?_update_other _ _ (nS e)).trans (k4 c o e)
  show codeAny (model prog w) A (.builtin "max.loop" ⟨[.ref (s.heap.objs.size + 1), .none, .ref (s.heap.objs.size + 2)], []⟩) _ { s with heap := h4.update (s.heap.objs.size + 2) (Obj.mapSeq fun _ => #[a, a]), toks := tk4 }
  generalize (h4.update (s.heap.objs.size + 2) (Obj.mapSeq fun _ => #[a, a])) = h5 at hS5 st5 k5 ⊢
  refine codeAny_builtin F.entry_max_loop ?_
  rw [Around.under_plainId F.plain_max_loop _]
  show wpAny _ A.in1 (seqItems? (.ref (s.heap.objs.size + 2)) >>= _) _ _ _
  refine wpAny_bind (wpAny_seqItems hS5 rfl ?_)
  show wpAny _ A.in1 (tryCatch (pyNext (.ref (s.heap.objs.size + 1))) _ >>= _) _ _ _
  refine wpAny_bind (wpAny_tryCatch (W.item 1 _ _ _ (by simp) st5 fun v h6 tk6 hP st6 hk6 => ?_))
  obtain rfl : b = v := Option.some.inj hP
  have hS6 := hk6 _ _ SI hS5
  have k6 : ∀ c o, s.heap.get? c = some o → h6.get? c = some o := fun c o e => hk6 c o (nI e) (k5 c o e)
  show wpAny _ A.in1 (tryCatch (holding [b, b] (richCompare .Gt b a >>= _)) _ >>= _) _ _ _
  refine wpAny_bind (wpAny_tryCatch (wpAny_holding (wpAny_bind (hcmp _ _ _ k6 ?_))))
  refine wpAny_bind (wpAny_holding (wpAny_truthy_bool ?_))
  refine wpAny_bind (wpAny_letGo (wpAny_pure ?_))
  -- the end
  have fin : ∀ (vb : Value) (h7 : Heap) (tk7 c7 : Nat), Q vb = Q (if bt then b else a) → h7.get? (s.heap.objs.size + 2) = some { cls := .type "list", dict := none, data := .seq #[vb, vb] c7, slots := #[] } →
      (h7.IsTupleIter (s.heap.objs.size + 1) s.heap.objs.size 2 ∧ h7.IsTuple s.heap.objs.size #[a, b]) → (∀ c o, s.heap.get? c = some o → h7.get? c = some o) →
      codeAny (model prog w) A (.builtin "max.loop" ⟨[.ref (s.heap.objs.size + 1), .none, .ref (s.heap.objs.size + 2)], []⟩) (fun r s' => match r with | .ok (.ret v) => Q v s' | .ok _ => False | .error e => E e s') { s with heap := h7, toks := tk7 } := by
    intro vb h7 tk7 c7 hv hS7 st7 k7
    refine codeAny_builtin F.entry_max_loop ?_
    rw [Around.under_plainId F.plain_max_loop _]
    show wpAny _ A.in1 (seqItems? (.ref (s.heap.objs.size + 2)) >>= _) _ _ _
    refine wpAny_bind (wpAny_seqItems hS7 rfl ?_)
    show wpAny _ A.in1 (tryCatch (pyNext (.ref (s.heap.objs.size + 1))) _ >>= _) _ _ _
    refine wpAny_bind (wpAny_tryCatch (W.done _ _ _ st7 fun h8 tk8 hk8 => ?_))
    have hS8 := hk8 _ _ SI hS7
    show wpAny _ A.in1 (updateSeq (s.heap.objs.size + 2) (fun _ => #[]) >>= _) _ _ _
    refine wpAny_bind ?_
    refine wpAny_updateSeq hS8 rfl (wpAny_bind (wpAny_letGo (wpAny_pure ?_)))
    show Q vb _
    rw [hv]
    exact hQ _ _ fun c o e => (Heap.get?_update_other _ _ (nS e)).trans (hk8 c o (nI e) (k7 c o e))
  cases bt with
  | true =>
    simp only [if_true]
    refine wpAny_bind ?_
    refine wpAny_updateSeq hS6 rfl (wpAny_bind (wpAny_letGo ?_))
    rw [hname]
    refine wpAny_pure ⟨plainId_quiet F.plain_max_loop _, fin b _ _ _ rfl (Heap.get?_update_self _ hS6 rfl) (W.frame 2 h6 _ st6 fun b hb o e => (Heap.get?_update_other _ _ (Sf b hb)).trans e) fun c o e => (Heap.get?_update_other _ _ (nS e)).trans (k6 c o e)⟩
  | false =>
    simp only [Bool.false_eq_true, if_false]
    refine wpAny_bind (wpAny_letGo ?_)
    rw [hname]
    exact wpAny_pure ⟨plainId_quiet F.plain_max_loop _, fin a _ _ _ rfl hS6 st6 k6⟩

theorem call_min_two' {a b : Value} {bt : Bool} {Q : Value → Shared → Prop} (hh : A.handled = none)
    (hcmp : ∀ (s' : Shared) (Q' E' : Value → Shared → Prop), (∀ c o, s.heap.get? c = some o → s'.heap.get? c = some o) → Q' (.bool bt) s' → wpAny (model prog w) A.in1 (richCompare .Lt b a) Q' E' s')
    (hQ : ∀ h' tk, (∀ c o, s.heap.get? c = some o → h'.get? c = some o) → Q (if bt then b else a) { s with heap := h', toks := tk }) :
    wpAny (model prog w) A (call (.builtin "min") [a, b]) Q E s := by
  have hname : (toString "min" ++ toString ".loop" : String) = "min.loop" := by decide
  refine call_function_tree F.kind_min F.plain_min F.entry_min (F.args_min2 _ _) ?_
  show wpAny _ A.in1 (Builtin.Builtins.bindParams "min" ["key", "default"] 0 ⟨[], []⟩ >>= _) _ _ s
  refine wpAny_bind (wpAny_of_eq (show Builtin.Builtins.bindParams "min" ["key", "default"] 0 ⟨[], []⟩ = pure [none, none] from rfl) ?_)
  show wpAny _ A.in1 (newTuple [a, b] >>= _) _ _ s
  refine wpAny_bind (wpAny_newObj_type ?_)
  have hT : (s.heap.push { cls := .type "tuple", data := .seq #[a, b] }).IsTuple s.heap.objs.size #[a, b] := ⟨_, Heap.get?_push_size _ rfl, rfl, 0, rfl⟩
  have k1 : ∀ c o, s.heap.get? c = some o → (s.heap.push { cls := .type "tuple", data := .seq #[a, b] }).get? c = some o := fun c o e => Heap.get?_push_of_some _ e
  have z1 : (s.heap.push { cls := .type "tuple", data := .seq #[a, b] }).objs.size = s.heap.objs.size + 1 := Heap.size_push ..
  show wpAny _ A.in1 (pyIter (.ref s.heap.objs.size) >>= _) _ _ { s with heap := s.heap.push { cls := .type "tuple", data := .seq #[a, b] } }
  generalize (s.heap.push { cls := .type "tuple", data := .seq #[a, b] }) = h1 at hT k1 z1 ⊢
  refine wpAny_bind (wpAny_pyIter_tuple (s := { s with heap := h1 }) hT ?_)
  have hI : (h1.push { cls := .type "tuple_iterator", data := .fields #[.ref s.heap.objs.size, .int 0 0] }).IsTupleIter h1.objs.size s.heap.objs.size 0 := ⟨_, Heap.get?_push_size _ rfl, rfl, rfl⟩
  have hT2 := hT.push { cls := .type "tuple_iterator", data := .fields #[.ref s.heap.objs.size, .int 0 0] }
  have k2 : ∀ c o, s.heap.get? c = some o → (h1.push { cls := .type "tuple_iterator", data := .fields #[.ref s.heap.objs.size, .int 0 0] }).get? c = some o := fun c o e => Heap.get?_push_of_some _ (k1 c o e)
  have z2 : (h1.push { cls := .type "tuple_iterator", data := .fields #[.ref s.heap.objs.size, .int 0 0] }).objs.size = s.heap.objs.size + 2 := by rw [Heap.size_push, z1]
  dsimp only
  generalize (h1.push { cls := .type "tuple_iterator", data := .fields #[.ref s.heap.objs.size, .int 0 0] }) = h2 at hI hT2 k2 z2 ⊢
  refine wpAny_bind (wpAny_newObj_type ?_)
  rw [z1] at hI ⊢
  rw [hname]
  have W := Walks.tuple (prog := prog) (w := w) (A := A.in1) hh (s.heap.objs.size + 1) s.heap.objs.size (Nat.ne_of_lt (Nat.lt_succ_self _)) #[a, b]
  have hS : (h2.push { cls := .type "list", data := .seq #[] }).get? h2.objs.size = some { cls := .type "list", dict := none, data := .seq #[] 0, slots := #[] } := Heap.get?_push_size _ rfl
  have st0 : (h2.push { cls := .type "list", data := .seq #[] }).IsTupleIter (s.heap.objs.size + 1) s.heap.objs.size 0 ∧ (h2.push { cls := .type "list", data := .seq #[] }).IsTuple s.heap.objs.size #[a, b] := W.frame 0 h2 _ ⟨hI, hT2⟩ fun b _ o e => Heap.get?_push_of_some _ e
  have k3 : ∀ c o, s.heap.get? c = some o → (h2.push { cls := .type "list", data := .seq #[] }).get? c = some o := fun c o e => Heap.get?_push_of_some _ (k2 c o e)
  rw [z2] at hS
  refine wpAny_pure ⟨plainId_quiet F.plain_min_loop _, ?_⟩
  show codeAny (model prog w) A (.builtin "min.loop" ⟨[.ref (s.heap.objs.size + 1), .none, .ref h2.objs.size], []⟩) _ { s with heap := h2.push { cls := .type "list", data := .seq #[] } }
  rw [z2]
  generalize (h2.push { cls := .type "list", data := .seq #[] }) = h3 at hS st0 k3 ⊢
  have nI : ∀ {c : Addr} {o : Obj}, s.heap.get? c = some o → c ∉ [s.heap.objs.size + 1] := fun e hm => absurd (Heap.lt_size e) (by rw [List.mem_singleton.mp hm]; exact Nat.not_lt.mpr (Nat.le_succ _))
  have nS : ∀ {c : Addr} {o : Obj}, s.heap.get? c = some o → s.heap.objs.size + 2 ≠ c := fun e z => absurd (Heap.lt_size e) (by rw [← z]; exact Nat.not_lt.mpr (Nat.le_add_right _ _))
  have SI : s.heap.objs.size + 2 ∉ [s.heap.objs.size + 1] := fun hm => absurd (List.mem_singleton.mp hm) (Nat.ne_of_gt (Nat.lt_succ_self _))
  have Sf : ∀ c ∈ [s.heap.objs.size + 1, s.heap.objs.size], s.heap.objs.size + 2 ≠ c := fun c hc z => by
    subst z
    rcases List.mem_cons.mp hc with e | e
    · exact absurd e (Nat.ne_of_gt (Nat.lt_succ_self _))
    · exact absurd (List.mem_singleton.mp e) (Nat.ne_of_gt (Nat.lt_add_of_pos_right (by decide)))
  -- the first
  refine codeAny_builtin F.entry_min_loop ?_
  rw [Around.under_plainId F.plain_min_loop _]
  show wpAny _ A.in1 (seqItems? (.ref (s.heap.objs.size + 2)) >>= _) _ _ _
  refine wpAny_bind (wpAny_seqItems hS rfl ?_)
  show wpAny _ A.in1 (tryCatch (pyNext (.ref (s.heap.objs.size + 1))) _ >>= _) _ _ _
  refine wpAny_bind (wpAny_tryCatch (W.item 0 _ _ _ (by simp) st0 fun v h4 tk4 hP st4 hk4 => ?_))
  obtain rfl : a = v := Option.some.inj hP
  have hS4 := hk4 _ _ SI hS
  have k4 : ∀ c o, s.heap.get? c = some o → h4.get? c = some o := fun c o e => hk4 c o (nI e) (k3 c o e)
  show wpAny _ A.in1 (updateSeq (s.heap.objs.size + 2) (fun _ => #[a, a]) >>= _) _ _ _
  refine wpAny_bind ?_
  refine wpAny_updateSeq hS4 rfl ?_
  rw [hname]
  refine wpAny_pure ⟨plainId_quiet F.plain_min_loop _, ?_⟩
  -- the second
  have hS5 := Heap.get?_update_self (Obj.mapSeq fun _ => #[a, a]) hS4 rfl
  have st5 := W.frame 1 h4 (h4.update (s.heap.objs.size + 2) (Obj.mapSeq fun _ => #[a, a])) st4 fun b hb o e => (Heap.get?_update_other _ _ (Sf b hb)).trans e
  have k5 : ∀ c o, s.heap.get? c = some o → (h4.update (s.heap.objs.size + 2) (Obj.mapSeq fun _ => #[a, a])).get? c = some o := fun c o e => (Heap.get?_update_other _ _ (nS e)).trans (k4 c o e)
  show codeAny (model prog w) A (.builtin "min.loop" ⟨[.ref (s.heap.objs.size + 1), .none, .ref (s.heap.objs.size + 2)], []⟩) _ { s with heap := h4.update (s.heap.objs.size + 2) (Obj.mapSeq fun _ => #[a, a]), toks := tk4 }
  generalize (h4.update (s.heap.objs.size + 2) (Obj.mapSeq fun _ => #[a, a])) = h5 at hS5 st5 k5 ⊢
  refine codeAny_builtin F.entry_min_loop ?_
  rw [Around.under_plainId F.plain_min_loop _]
  show wpAny _ A.in1 (seqItems? (.ref (s.heap.objs.size + 2)) >>= _) _ _ _
  refine wpAny_bind (wpAny_seqItems hS5 rfl ?_)
  show wpAny _ A.in1 (tryCatch (pyNext (.ref (s.heap.objs.size + 1))) _ >>= _) _ _ _
  refine wpAny_bind (wpAny_tryCatch (W.item 1 _ _ _ (by simp) st5 fun v h6 tk6 hP st6 hk6 => ?_))
  obtain rfl : b = v := Option.some.inj hP
  have hS6 := hk6 _ _ SI hS5
  have k6 : ∀ c o, s.heap.get? c = some o → h6.get? c = some o := fun c o e => hk6 c o (nI e) (k5 c o e)
  show wpAny _ A.in1 (tryCatch (holding [b, b] (richCompare .Lt b a >>= _)) _ >>= _) _ _ _
  refine wpAny_bind (wpAny_tryCatch (wpAny_holding (wpAny_bind (hcmp _ _ _ k6 ?_))))
  refine wpAny_bind (wpAny_holding (wpAny_truthy_bool ?_))
  refine wpAny_bind (wpAny_letGo (wpAny_pure ?_))
  -- the end
  have fin : ∀ (vb : Value) (h7 : Heap) (tk7 c7 : Nat), Q vb = Q (if bt then b else a) → h7.get? (s.heap.objs.size + 2) = some { cls := .type "list", dict := none, data := .seq #[vb, vb] c7, slots := #[] } →
      (h7.IsTupleIter (s.heap.objs.size + 1) s.heap.objs.size 2 ∧ h7.IsTuple s.heap.objs.size #[a, b]) → (∀ c o, s.heap.get? c = some o → h7.get? c = some o) →
      codeAny (model prog w) A (.builtin "min.loop" ⟨[.ref (s.heap.objs.size + 1), .none, .ref (s.heap.objs.size + 2)], []⟩) (fun r s' => match r with | .ok (.ret v) => Q v s' | .ok _ => False | .error e => E e s') { s with heap := h7, toks := tk7 } := by
    intro vb h7 tk7 c7 hv hS7 st7 k7
    refine codeAny_builtin F.entry_min_loop ?_
    rw [Around.under_plainId F.plain_min_loop _]
    show wpAny _ A.in1 (seqItems? (.ref (s.heap.objs.size + 2)) >>= _) _ _ _
    refine wpAny_bind (wpAny_seqItems hS7 rfl ?_)
    show wpAny _ A.in1 (tryCatch (pyNext (.ref (s.heap.objs.size + 1))) _ >>= _) _ _ _
    refine wpAny_bind (wpAny_tryCatch (W.done _ _ _ st7 fun h8 tk8 hk8 => ?_))
    have hS8 := hk8 _ _ SI hS7
    show wpAny _ A.in1 (updateSeq (s.heap.objs.size + 2) (fun _ => #[]) >>= _) _ _ _
    refine wpAny_bind ?_
    refine wpAny_updateSeq hS8 rfl (wpAny_bind (wpAny_letGo (wpAny_pure ?_)))
    show Q vb _
    rw [hv]
    exact hQ _ _ fun c o e => (Heap.get?_update_other _ _ (nS e)).trans (hk8 c o (nI e) (k7 c o e))
  cases bt with
  | true =>
    simp only [if_true]
    refine wpAny_bind ?_
    refine wpAny_updateSeq hS6 rfl (wpAny_bind (wpAny_letGo ?_))
    rw [hname]
    refine wpAny_pure ⟨plainId_quiet F.plain_min_loop _, fin b _ _ _ rfl (Heap.get?_update_self _ hS6 rfl) (W.frame 2 h6 _ st6 fun b hb o e => (Heap.get?_update_other _ _ (Sf b hb)).trans e) fun c o e => (Heap.get?_update_other _ _ (nS e)).trans (k6 c o e)⟩
  | false =>
    simp only [Bool.false_eq_true, if_false]
    refine wpAny_bind (wpAny_letGo ?_)
    rw [hname]
    exact wpAny_pure ⟨plainId_quiet F.plain_min_loop _, fin a _ _ _ rfl hS6 st6 k6⟩
end
end KB
namespace KB
open PySem PySem.Spec PyProof.Rows L2
section
variable {X : Cx} {W : WX}
theorem tup_keep {h h' : Heap} {a : Addr} {its : Array Value} (p : IsTup h a its) (k : ∀ c o, h.get? c = some o → h'.get? c = some o) : IsTup h' a its := by
  obtain ⟨o, ho, r⟩ := p
  exact ⟨o, k _ _ ho, r⟩
def rMM (K : PySem.W.Frag) (f : List Int → List Int → Bool) : List V → Hp → VK → Prop := fun xs H Q => ∃ (a b : Addr) (ns ms : List Int), xs = [.ref a, .ref b] ∧ SqT K H a (ns.map V.int) ∧ SqT K H b (ms.map V.int) ∧ Q (if f ns ms then .ref b else .ref a) H
theorem call_max2T (hc : X.calm = true) (hu : X.A.units + 65 < cLine) : CallR X (.builtin "max") (rMM X.K HT.lexLt) := by
  intro pins s σ H xs us Q I r h
  obtain ⟨a, b, ns, ms, rfl, ha, hb, q⟩ := h
  obtain ⟨u, w', rfl, r1, r2⟩ := vals2 r
  cases r1
  cases r2
  obtain ⟨its, r1, p1, _⟩ := I.tuple ha
  obtain ⟨its2, r2, p2, _⟩ := I.tuple hb
  have i1 : IntsAre its ns := Vals.ints r1
  have i2 : IntsAre its2 ms := Vals.ints r2
  have e1 : its.toArray.size = ns.length := by rw [List.size_toArray]; exact i1.length
  have e2 : its2.toArray.size = ms.length := by rw [List.size_toArray]; exact i2.length
  refine call_max_two' (bt := HT.lexLt ns ms) (I.ok.hd hc) (fun s' Q' E' k q' => ?_) fun h' tk k => ⟨_, H, I.kept k, ?_, q⟩
  · have R := Ob.RcOp.tuples_gt (A := X.A.in1) (s := s') (e := fun j => decide (ms.getD j 0 = ns.getD j 0)) (r := fun j => decide (ns.getD j 0 < ms.getD j 0)) (tup_keep p2 k) (tup_keep p1 k) (by show X.A.units + 1 < cLine; omega) (fun j h1 h2 => by
      obtain ⟨t, et⟩ := at_ints i2 j h1
      obtain ⟨t', et'⟩ := at_ints i1 j h2
      rw [et, et', ← beq_dec]
      exact SeqAt.EqAt.int_int _ _ _ _) (fun j h1 h2 _ => by
      obtain ⟨t, et⟩ := at_ints i2 j h1
      obtain ⟨t', et'⟩ := at_ints i1 j h2
      rw [et, et']
      exact Ob.RcOp.gt_int _ _ _ _)
    rw [e1, e2, lex_gt] at R
    exact R X.prog X.w E' Q' q'
  · cases HT.lexLt ns ms <;> rfl
theorem call_min2T (hc : X.calm = true) (hu : X.A.units + 65 < cLine) : CallR X (.builtin "min") (rMM X.K fun a b => HT.lexLt b a) := by
  intro pins s σ H xs us Q I r h
  obtain ⟨a, b, ns, ms, rfl, ha, hb, q⟩ := h
  obtain ⟨u, w', rfl, r1, r2⟩ := vals2 r
  cases r1
  cases r2
  obtain ⟨its, r1, p1, _⟩ := I.tuple ha
  obtain ⟨its2, r2, p2, _⟩ := I.tuple hb
  have i1 : IntsAre its ns := Vals.ints r1
  have i2 : IntsAre its2 ms := Vals.ints r2
  refine call_min_two' (bt := HT.lexLt ms ns) (I.ok.hd hc) (fun s' Q' E' k q' => ?_) fun h' tk k => ⟨_, H, I.kept k, ?_, q⟩
  · exact HT.lt_tupInts (tup_keep p2 k) (tup_keep p1 k) (by simpa using i2) (by simpa using i1) (by show X.A.units + 1 < cLine; omega) q'
  · show RelV (if HT.lexLt ms ns = true then V.ref b else V.ref a) _
    cases HT.lexLt ms ns <;> rfl
def f2M (g : Int → Int → Int) (f : List Int → List Int → Bool) (ds : List D) (M : List MO) : R D := match ds with
  | [.int i, .int j] => .ok (.int (g i j)) M
  | [x, y] => match res M x, res M y with
    | .tup a, .tup b => match ints? a, ints? b with
      | some ns, some ms => .ok (if f ns ms then y else x) M
      | _, _ => .stuck
    | _, _ => .stuck
  | _ => .stuck
theorem d2M {g : Int → Int → Int} {f : List Int → List Int → Bool} : CallD X W (fun xs H Q => (∃ i j, xs = [.int i, .int j] ∧ Q (.int (g i j)) H) ∨ rMM X.K f xs H Q) (f2M g f) := by
  intro xs ds M F L G H σ Q o r h
  unfold f2M at h
  split at h
  · obtain ⟨v, w, rfl, r1, r2⟩ := two r
    cases r1; cases r2
    exact .inl ⟨_, _, rfl, aok h o _ (.int _)⟩
  · obtain ⟨v, w, rfl, rx, ry⟩ := two r
    split at h
    · rename_i a b ex ey
      split at h
      · rename_i ns ms en em
        obtain ⟨p, vs, rfl, sx, lx⟩ := o.viewT rx ex
        obtain ⟨q, ws, rfl, sy, ly⟩ := o.viewT ry ey
        rw [ints_V lx en] at sx
        rw [ints_V ly em] at sy
        refine .inr ⟨p, q, ns, ms, rfl, sx, sy, ?_⟩
        cases hf : f ns ms
        · rw [hf] at h; exact aok h o _ rx
        · rw [hf] at h; exact aok h o _ ry
      · exact h.elim
    · exact h.elim
  · exact h.elim
def fMax : List D → List MO → R D := f2M maxI HT.lexLt
def fMin : List D → List MO → R D := f2M minI (fun a b => HT.lexLt b a)
theorem CallR.or {c : Value} {r1 r2 : List V → Hp → VK → Prop} (h1 : CallR X c r1) (h2 : CallR X c r2) : CallR X c (fun xs H Q => r1 xs H Q ∨ r2 xs H Q) := by
  intro pins s σ H xs us Q I r h
  rcases h with h | h
  · exact h1 pins s σ H xs us Q I r h
  · exact h2 pins s σ H xs us Q I r h
theorem pd_max {a b : Expr} {p pos : Pos} {ea : EA} (hc : X.calm = true) (hm : X.mg "max" = none) (hu : X.A.units + 65 < cLine) (ha : PAD X W [a, b] ea) (hg : Gl X "max" := by rfl) (hs : starEach [a, b] X.env = (false, eval a X.env) :: starEach [b] X.env := by rfl) (hpl : (backTo pos (starEach [b] X.env)).any (·.1) = false := by rfl) : PD X W (.Call (.Name "max" p) [a, b] [] pos) (eArgs fMax ea) :=
  pd_callB (CallR.or (call_max2 hc) (call_max2T hc hu)) d2M hg hm (by decide +kernel) ha (by decide) (by decide) hs hpl
theorem pd_min {a b : Expr} {p pos : Pos} {ea : EA} (hc : X.calm = true) (hm : X.mg "min" = none) (hu : X.A.units + 65 < cLine) (ha : PAD X W [a, b] ea) (hg : Gl X "min" := by rfl) (hs : starEach [a, b] X.env = (false, eval a X.env) :: starEach [b] X.env := by rfl) (hpl : (backTo pos (starEach [b] X.env)).any (·.1) = false := by rfl) : PD X W (.Call (.Name "min" p) [a, b] [] pos) (eArgs fMin ea) :=
  pd_callB (CallR.or (call_min2 hc) (call_min2T hc hu)) d2M hg hm (by decide +kernel) ha (by decide) (by decide) hs hpl

/-! ### sorted(set(xs)) -/
def insU (x : Int) : List Int → List Int
  | [] => [x]
  | y :: l => if x < y then x :: y :: l else if x = y then y :: l else y :: insU x l
def sortU : List Int → List Int
  | [] => []
  | x :: l => insU x (sortU l)
theorem mem_insU {x z : Int} : ∀ {l : List Int}, z ∈ insU x l ↔ z = x ∨ z ∈ l
  | [] => by simp [insU]
  | y :: l => by
    unfold insU
    split
    · simp
    · split
      · rename_i h; subst h; simp
      · rw [List.mem_cons, mem_insU, List.mem_cons]; constructor
        · rintro (h | h | h)
          · exact .inr (.inl h)
          · exact .inl h
          · exact .inr (.inr h)
        · rintro (h | h | h)
          · exact .inr (.inl h)
          · exact .inl h
          · exact .inr (.inr h)
theorem mem_sortU {z : Int} : ∀ {l : List Int}, z ∈ sortU l ↔ z ∈ l
  | [] => by simp [sortU]
  | x :: l => by rw [sortU, mem_insU, mem_sortU, List.mem_cons]
theorem pw_insU {x : Int} : ∀ {l : List Int}, l.Pairwise (· < ·) → (insU x l).Pairwise (· < ·)
  | [], _ => by simp [insU]
  | y :: l, h => by
    obtain ⟨h1, h2⟩ := List.pairwise_cons.mp h
    unfold insU
    split
    · rename_i c
      refine List.pairwise_cons.mpr ⟨fun z hz => ?_, h⟩
      rcases List.mem_cons.mp hz with e | e
      · omega
      · have := h1 z e; omega
    · split
      · exact h
      · refine List.pairwise_cons.mpr ⟨fun z hz => ?_, pw_insU h2⟩
        rcases mem_insU.mp hz with e | e
        · omega
        · exact h1 z e
theorem pw_sortU : ∀ {l : List Int}, (sortU l).Pairwise (· < ·)
  | [] => .nil
  | _ :: _ => pw_insU pw_sortU
theorem pw_uniq {α : Type} {lt : α → α → Prop} (asy : ∀ x y, lt x y → ¬ lt y x) : ∀ {l m : List α}, l.Pairwise lt → m.Pairwise lt → (∀ k, k ∈ l ↔ k ∈ m) → l = m
  | [], [], _, _, _ => rfl
  | [], y :: m, _, _, h => by have := (h y).mpr List.mem_cons_self; simp at this
  | x :: l, [], _, _, h => by have := (h x).mp List.mem_cons_self; simp at this
  | x :: l, y :: m, hl, hm, h => by
    obtain ⟨l1, l2⟩ := List.pairwise_cons.mp hl
    obtain ⟨m1, m2⟩ := List.pairwise_cons.mp hm
    have e : x = y := by
      rcases List.mem_cons.mp ((h x).mp List.mem_cons_self) with e | e
      · exact e
      rcases List.mem_cons.mp ((h y).mpr List.mem_cons_self) with e' | e'
      · exact e'.symm
      exact absurd (m1 x e) (asy _ _ (l1 y e'))
    subst e
    congr 1
    refine pw_uniq asy l2 m2 fun k => ?_
    have hk := h k
    constructor
    · intro hm'
      rcases List.mem_cons.mp (hk.mp (List.mem_cons_of_mem _ hm')) with e | e
      · subst e; exact absurd (l1 k hm') (fun z => asy _ _ z z)
      · exact e
    · intro hm'
      rcases List.mem_cons.mp (hk.mpr (List.mem_cons_of_mem _ hm')) with e | e
      · subst e; exact absurd (m1 k hm') (fun z => asy _ _ z z)
      · exact e
def fSortSet (x : D) (M : List MO) : R D := match res M x with
  | .lst ds => match ints? ds with
    | some ns => if ns.length < 64 then .ok (.lst ((sortU ns).map .int)) M else .stuck
    | _ => .stuck
  | _ => .stuck
theorem rpL_ints {C : Kx} {L : List Addr} {G : Hp} : ∀ (ns : List Int), RpL C L G (ns.map V.int) (ns.map D.int)
  | [] => .nil
  | n :: ns => .cons (.int n) (rpL_ints ns)
theorem pd_sortSet {a : Expr} {p p2 q pos : Pos} {ea : EV} (hc : X.calm = true) (hm : X.mg "sorted" = none) (hm2 : X.mg "set" = none) (ha : PD X W a ea) (hg : Gl X "sorted" := by rfl) (hg2 : Gl X "set" := by rfl)
    (na : starEach [a] X.env = (false, eval a X.env) :: starEach [] X.env := by rfl) : PD X W (.Call (.Name "sorted" p) [.Call (.Name "set" p2) [a] [] q] [] pos) (eUn fSortSet ea) := by
  obtain ⟨ta, pa, qa⟩ := ha
  refine ⟨_, pe_sortSetI hc hg hm hg2 hm2 pa na, fun F e M σ L G H Q o re h => ?_⟩
  refine qa F e M σ L G H _ o re ((Aft.bind h).imp fun x M1 L1 G1 H1 o1 x1 h1 v1 r1 => ?_)
  unfold fSortSet at h1
  split at h1
  · rename_i ds ex
    split at h1
    · rename_i ns en
      split at h1
      · rename_i hl
        obtain ⟨l, vs, rfl, sx, lx⟩ := o1.viewL r1 ex
        rw [ints_V lx en] at sx
        refine ⟨l, ns, rfl, .inl (.inl sx), hl, fun ns' p pw mem hp => ?_⟩
        have e2 : ns' = sortU ns := pw_uniq (lt := (· < ·)) (fun x y a b => by omega) pw pw_sortU fun k => by rw [mem k, mem_sortU]
        subst e2
        exact newL o1 (rpL_ints _) h1 p hp
      · exact h1.elim
    · exact h1.elim
  · exact h1.elim
end
end KB
namespace KB
open PySem PySem.Spec PyProof.Rows L2 HT
/-! ### xs[::-1] -/
section
variable {prog : Program} {w : World} {A : Around} {E : Value → Shared → Prop} {s : Shared}
theorem adjust_rev (n : Nat) : Builtin.Slice.sliceAdjust none none (-1) (n : Int) = ((n : Int) - 1, -1) := rfl
theorem places_rev (n : Nat) : Builtin.Slice.slicePlaces ((n : Int) - 1) (-1) (-1) = n := by
  unfold Builtin.Slice.slicePlaces
  have h1 : ¬ ((-1 : Int) > 0) := by omega
  simp only [h1, if_false]
  split
  · rw [show (- -1 : Int) = 1 by decide, Int.ediv_one]; omega
  · omega
theorem sliceApplied_rev {sl : Addr} {vl vu vk : Value} {n : Nat} {Q : Int × Int × Nat → Shared → Prop} (hs : s.heap.IsSliceOf sl vl vu vk) (pl : IsPart vl none) (pu : IsPart vu none) (pk : IsPart vk (some (-1)))
    (h : Q ((n : Int) - 1, -1, n) s) : wpAny (model prog w) A (Builtin.Slice.sliceApplied (.ref sl) (pure (n : Int))) Q E s := by
  obtain ⟨os, hos, hcs, hds⟩ := id hs
  unfold Builtin.Slice.sliceApplied Builtin.Slice.sliceFields
  refine wpAny_bind (wpAny_bind (wpAny_field hos hds (x := vl) rfl (wpAny_bind (wpAny_field hos hds (x := vu) rfl (wpAny_bind (wpAny_field hos hds (x := vk) rfl (wpAny_pure ?_)))))))
  refine wpAny_bind (slicePart_ pk ?_)
  show wpAny _ _ (if ((-1 : Int) == 0) = true then _ else _) _ _ s
  rw [if_neg (by decide)]
  refine wpAny_bind (slicePart_ pl (wpAny_bind (slicePart_ pu (wpAny_bind (wpAny_pure ?_)))))
  show wpAny _ _ (match Builtin.Slice.sliceAdjust none none (-1) (n : Int) with | (lo, hi) => pure (lo, (-1 : Int), Builtin.Slice.slicePlaces lo hi (-1))) _ _ s
  rw [adjust_rev n]
  show wpAny _ _ (pure ((n : Int) - 1, (-1 : Int), Builtin.Slice.slicePlaces ((n : Int) - 1) (-1) (-1))) _ _ s
  rw [places_rev]
  exact wpAny_pure h
theorem pick_rev (xs : Array Value) : ((List.range xs.size).filterMap fun (k : Nat) => xs[((xs.size : Int) - 1 + (k : Int) * -1).toNat]?).toArray = xs.toList.reverse.toArray := by
  have e : (fun (k : Nat) => xs[((xs.size : Int) - 1 + (k : Int) * -1).toNat]?) = fun k => xs[xs.size - 1 - k]? := by
    funext m
    have : ((xs.size : Int) - 1 + (m : Int) * -1).toNat = xs.size - 1 - m := by omega
    rw [this]
  rw [e]
  have h := PySem.W.krv_pick xs
  unfold slicePick at h
  rw [PySem.W.krv_bounds] at h
  have h2 : ((sliceRange ((xs.size : Int) - 1) (-1) (-1)).filterMap (xs[·]?)).toArray = xs.toList.reverse.toArray := h
  rw [PySem.W.krv_sliceRange, List.filterMap_map] at h2
  exact h2
theorem getItem_tuple_rev {t sl : Addr} {items : Array Value} {vl vu vk : Value} {Q : Value → Shared → Prop} (ht : IsTup s.heap t items) (hs : s.heap.IsSliceOf sl vl vu vk) (pl : IsPart vl none) (pu : IsPart vu none) (pk : IsPart vk (some (-1)))
    (h : Q (.ref s.heap.objs.size) { s with heap := s.heap.push { cls := .type "tuple", data := .seq items.toList.reverse.toArray } })
    (hsz : items.size ≤ sizeLine) : wpAny (model prog w) A (getItem (.ref t) (.ref sl)) Q E s := by
  have htake : sizeOk (.seq items.toList.reverse.toArray) := by
    show items.toList.reverse.toArray.size ≤ sizeLine
    rw [List.size_toArray, List.length_reverse, Array.length_toList]
    exact hsz
  obtain ⟨os, hos, hcs, hds⟩ := id hs
  have hTs : s.TypeIs (.ref sl) "slice" := ⟨os, hos, hcs⟩
  unfold getItem
  try with_reducible refine wpAny_holding ?_
  first | refine wpAny_bind (wpAny_pure ?_) | skip
  refine wpAny_bind (wpAny_sequenceKey ht.typeIs (by decide) ?_)
  refine wpAny_bind (wpAny_callSpecial?_slot (name := Str.ofString "__getitem__") ht.typeIs PyProof.Rows.slot_tuple_getitem
    (wpAny_call_entry PyProof.Rows.slot_tuple_getitem ht.typeIs entry_tuple_getitem ?_ (args_tuple_getitem _ _)))
  show wpAny _ _ (Builtin.Tuple.tupleItemsOf (.ref t) >>= _) _ _ s
  refine wpAny_bind (tupleItemsOf_ ht ?_)
  refine wpAny_bind (wpAny_typeOf hTs ?_)
  rw [if_pos (by decide)]
  refine wpAny_bind (sliceApplied_rev hs pl pu pk ?_)
  have hno : ¬ ((((items.size : Int) - 1) == 0 && (-1 : Int) == 1 && items.size == items.size) = true) := by
    intro q
    rw [Bool.and_eq_true, Bool.and_eq_true] at q
    exact absurd q.1.2 (by decide)
  show wpAny _ _ (if ((((items.size : Int) - 1) == 0 && (-1 : Int) == 1 && items.size == items.size) = true) then _ else _) _ _ s
  rw [if_neg hno, pick_rev]
  first
    | exact wpAny_bind (m := Builtin.Tuple.tupleExact _) (wpAny_newObj_type (wpAny_pure ⟨_, rfl, wpAny_pure h⟩) htake)
    | exact wpAny_bind (m := Builtin.Tuple.tupleExact _) (wpAny_newObj_type (wpAny_bind (wpAny_pure (wpAny_pure ⟨_, rfl, wpAny_pure h⟩))) htake)
    | exact wpAny_bind (wpAny_bind (m := Builtin.Tuple.tupleExact _) (wpAny_newObj_type (wpAny_pure (wpAny_pure ⟨_, rfl, wpAny_pure h⟩)) htake))
    | exact wpAny_bind (wpAny_bind (m := Builtin.Tuple.tupleExact _) (wpAny_newObj_type (wpAny_pure ⟨_, rfl, wpAny_pure h⟩) htake))
end
section
variable {X : Cx} {W : WX}
def tRevA (K : PySem.W.Frag) (te : TE) : TE := fun σ H Q => te σ H fun x H1 => (∃ a xs, x = .ref a ∧ SqL K H1 a xs ∧ ∀ p, H1 p = none → Q (.ref p) (upd H1 p (.lst xs.reverse))) ∨
  (∃ a xs, x = .ref a ∧ SqT K H1 a xs ∧ ∀ p, H1 p = none → Q (.ref p) (upd H1 p (.tup xs.reverse)))
theorem pe_revA {e : Expr} {te : TE} {k : Nat} {p1 p2 p3 pos : Pos} (he : PE X e te) : PE X (.Subscript e (.Slice none none (some (.UnaryOp .USub (.Constant (.int 1) k p1) p2)) p3) pos) (tRevA X.K te) := by
  refine ⟨fun pins s σ H Q I h => ?_⟩
  refine Subscript_ (thn (he.run pins s σ H _ I h) fun v s1 ⟨x, H1, I1, r1, q1⟩ => ?_)
  have hst : PO X (some (.UnaryOp .USub (.Constant (.int 1) k p1) p2)) (tPart (tUn (rU fun i => .int (-i)) (tC (.int 1)))) := po_some (pe_un un_neg pe_int)
  refine wpAny_Slice (thn (po_none.run pins s1 σ H1 (fun o H2 => o = none ∧ H2 = H1) I1 ⟨rfl, rfl⟩) fun vl s2 ⟨l, H2, I2, pl, el, e2⟩ => ?_)
  subst el e2
  refine thn (po_none.run pins s2 σ H2 (fun o H3 => o = none ∧ H3 = H2) I2 ⟨rfl, rfl⟩) fun vu s3 ⟨u, H3, I3, pu, eu, e3⟩ => ?_
  subst eu e3
  refine thn (hst.run pins s3 σ H3 (fun o H4 => o = some (-1) ∧ H4 = H3) I3 ⟨1, rfl, -1, rfl, rfl, rfl⟩) fun vs s4 ⟨o, H4, I4, ps, eo, e4⟩ => ?_
  subst eo e4
  have I5 : Inv X pins σ H4 { s4 with heap := s4.heap.push { cls := .type "slice", data := .fields #[vl, vu, vs] } } := I4.kept (t' := s4.toks) fun b ob q => Heap.get?_push_of_some _ q
  rcases q1 with ⟨a, xs, ex, hx, q⟩ | ⟨a, xs, ex, hx, q⟩
  · subst ex
    cases r1
    obtain ⟨its, r, ht, hz⟩ := I5.list hx
    have hlen := r.length
    show wpAny (model X.prog X.w) X.A (subscriptTail e (.Slice none none (some (.UnaryOp .USub (.Constant (.int 1) k p1) p2)) p3) (.ref a) (.ref s4.heap.objs.size)) (EP X pins σ Q) X.xe { s4 with heap := s4.heap.push { cls := .type "slice", data := .fields #[vl, vu, vs] } }
    refine tail_any (ops := [.ref a, .ref s4.heap.objs.size]) ht.isList.typeIs (PySem.slot_list_getitem.lookup) ?_ (by with_unfolding_all rfl)
    refine wpAny_getItem_list_slice ht.isList (Heap.IsSliceOf.new _ vl vu vs) pl pu ps (by decide) ?_ (by rw [List.size_toArray]; omega)
    rw [PySem.W.krv_pick]
    refine ⟨.ref _, _, I5.laid (t' := s4.toks) (o := .lst xs.reverse) (fun b ob q => Heap.get?_push_of_some _ q) (Nat.le_refl _) ?_, rfl, q _ (I5.hok.fresh (Nat.le_refl _))⟩
    exact ⟨by rw [List.length_reverse]; exact hz, _, 0, r.reverse, Heap.get?_push_size _ rfl⟩
  · subst ex
    cases r1
    obtain ⟨its, r, ht, hz⟩ := I5.tuple hx
    have hlen := r.length
    show wpAny (model X.prog X.w) X.A (subscriptTail e (.Slice none none (some (.UnaryOp .USub (.Constant (.int 1) k p1) p2)) p3) (.ref a) (.ref s4.heap.objs.size)) (EP X pins σ Q) X.xe { s4 with heap := s4.heap.push { cls := .type "slice", data := .fields #[vl, vu, vs] } }
    refine tail_any (ops := [.ref a, .ref s4.heap.objs.size]) ht.typeIs (PyProof.Rows.slot_tuple_getitem.lookup) ?_ (by with_unfolding_all rfl)
    refine getItem_tuple_rev ht (Heap.IsSliceOf.new _ vl vu vs) pl pu ps ?_ (by rw [List.size_toArray]; omega)
    refine ⟨.ref _, _, I5.laid (t' := s4.toks) (o := .tup xs.reverse) (fun b ob q => Heap.get?_push_of_some _ q) (Nat.le_refl _) ?_, rfl, q _ (I5.hok.fresh (Nat.le_refl _))⟩
    exact ⟨by rw [List.length_reverse]; exact hz, _, r.reverse, _, Heap.get?_push_size _ rfl, rfl, 0, rfl⟩
def fRev (x : D) (M : List MO) : R D := match res M x with
  | .tup ds => .ok (.tup ds.reverse) M
  | .lst ds => .ok (.lst ds.reverse) M
  | _ => .stuck
theorem pd_rev {e : Expr} {k : Nat} {p1 p2 p3 pos : Pos} {ev : EV} (h : PD X W e ev) : PD X W (.Subscript e (.Slice none none (some (.UnaryOp .USub (.Constant (.int 1) k p1) p2)) p3) pos) (eUn fRev ev) := by
  obtain ⟨t, p, q⟩ := h
  refine ⟨_, pe_revA p, fun F e M σ L G H Q o re h => ?_⟩
  refine q F e M σ L G H _ o re ((Aft.bind h).imp fun x M1 L1 G1 H1 o1 x1 h1 v1 r1 => ?_)
  unfold fRev at h1
  split at h1
  · rename_i ds ex
    obtain ⟨a, vs, rfl, sx, lx⟩ := o1.viewT r1 ex
    exact .inr ⟨a, vs, rfl, sx, newT o1 lx.reverse h1⟩
  · rename_i ds ex
    obtain ⟨a, vs, rfl, sx, lx⟩ := o1.viewL r1 ex
    exact .inl ⟨a, vs, rfl, .inl (.inl sx), newL o1 lx.reverse h1⟩
  · exact h1.elim
end
end KB
namespace KB
open PySem PySem.Spec PyProof.Rows L2
open AutoSeq1 (wpAny_loadPart')
/-! ### enumerate of a tuple -/
theorem draws_tuple {prog : Program} {w : World} {A : Around} (hh : A.handled = none) (it l : Addr) (hne : l ≠ it) (items : Array Value) :
    Draws prog w A it [it, l] items.size (fun i v => items[i]? = some v) (fun i h => h.IsTupleIter it l i ∧ h.IsTuple l items) where
  live := fun i h st => by obtain ⟨⟨o, ho, _⟩, _⟩ := st; exact ⟨o, ho⟩
  frame := fun i h h' st k => ⟨st.1.at fun o e => k it (by simp) o e, st.2.at fun o e => k l (by simp) o e⟩
  item := fun i s Q E hi st hQ => RZ.nextOf_tuple_item st.1 st.2 (x := items[i]) (by simp [hi]) fun h' hit' hs' => hQ _ h' s.toks (by simp [hi]) ⟨hit', st.2.extBut hs'.extBut hne⟩ hs'
  done := fun s Q E st hE => RZ.nextOf_tuple_end hh st.1 st.2 (by simp) hE
theorem meets_enumerate_newT (l : Addr) (items : Array Value) (n : Nat) (dct : Option Addr) (sl : Array (Option Value)) :
    Meets (Builtin.«enumerate.__new__» ⟨[.type "enumerate", .ref l], []⟩) (fun _ R s => s.heap.get? l = some { cls := .type "tuple", dict := dct, data := .seq items n, slots := sl } ∧
      R (.ok (.ret (.ref (s.heap.push { cls := .type "tuple_iterator", data := .fields #[.ref l, .int 0 0] }).objs.size)))
        { s with heap := (s.heap.push { cls := .type "tuple_iterator", data := .fields #[.ref l, .int 0 0] }).push { cls := .type "enumerate", data := .fields #[.none, .bool false, .ref s.heap.objs.size, rawInt 0, .none, .none] } }) :=
  .of_wp fun prog w A R s h => by
    obtain ⟨hp, g, d, tk, os⟩ := s; obtain ⟨hl, h⟩ := h
    have hsub := sub_enumerate
    have hL : Heap.IsTuple (Shared.heap ⟨hp, g, d, tk, os⟩) l items := ⟨_, hl, rfl, n, rfl⟩
    wp_walk using wpAny_loadPart' hl
    refine wpAny_stack_any fun st => wpAny_pure ?_
    split
    · rename_i c _ _ _ _ _
      cases (c == Value.type "enumerate")
      · wp_walk using wpAny_loadPart' hl, wpAny_pyIter_tuple hL
        exact ⟨_, rfl, h⟩
      · wp_walk using wpAny_loadPart' hl, wpAny_pyIter_tuple hL
        exact ⟨_, rfl, h⟩
    · wp_walk using wpAny_loadPart' hl, wpAny_pyIter_tuple hL
      exact ⟨_, rfl, h⟩
section
variable {prog : Program} {w : World} {A : Around} {E : Value → Shared → Prop} {s : Shared}
theorem call_enumerate_tup {l : Addr} {items : Array Value} {Q : Value → Shared → Prop} (hL : IsTup s.heap l items)
    (h : ∀ h', IsEnum h' (s.heap.objs.size + 1) s.heap.objs.size 0 .none → h'.IsTupleIter s.heap.objs.size l 0 → h'.objs.size = s.heap.objs.size + 2 →
      (∀ b o, s.heap.get? b = some o → h'.get? b = some o) → Q (.ref (s.heap.objs.size + 1)) { s with heap := h' }) :
    wpAny (model prog w) A (call (.type "enumerate") [.ref l]) Q E s := by
  obtain ⟨⟨c, dct, dt, sl⟩, hl, hc, n, hd⟩ := hL
  replace hc : c = .type "tuple" := hc
  replace hd : dt = .seq items n := hd
  subst hc hd
  refine callType_new F.called_enumerate (by decide) (F.typeCall_enumerate_1 _) (F.newCall_enumerate_1 _) (fun obj => F.args_object_init_2 obj _) F.entry_enumerate_new
    (meets_enumerate_newT l items n dct sl) ⟨hl, ?_⟩
  have hz : (s.heap.push { cls := .type "tuple_iterator", data := .fields #[.ref l, .int 0 0] }).objs.size = s.heap.objs.size + 1 := Heap.size_push ..
  show _ ∧ _
  rw [hz]
  have he : IsEnum ((s.heap.push { cls := .type "tuple_iterator", data := .fields #[.ref l, .int 0 0] }).push
      { cls := .type "enumerate", data := .fields #[.none, .bool false, .ref s.heap.objs.size, rawInt 0, .none, .none] }) (s.heap.objs.size + 1) s.heap.objs.size 0 .none := by
    have := Heap.get?_push_size (s.heap.push { cls := .type "tuple_iterator", data := .fields #[.ref l, .int 0 0] })
      (o := { cls := .type "enumerate", data := .fields #[.none, .bool false, .ref s.heap.objs.size, rawInt 0, .none, .none] }) rfl
    rw [hz] at this; exact this
  refine ⟨⟨_, he, rfl⟩, h _ he ⟨_, Heap.get?_push_of_some _ (Heap.get?_push_size _ rfl), rfl, rfl⟩ (by rw [Heap.size_push, hz]) fun b o x => Heap.get?_push_of_some _ (Heap.get?_push_of_some _ x)⟩
end
/-- the tuple at a, each item in a new pair with its place -/
def IteT (K : PySem.W.Frag) (a : Addr) : It :=
  ⟨fun i H => ∃ (xs : List V) (x : V), SqT K H a xs ∧ xs[i]? = some x, fun i H v H' => ∃ T x, v = .ref T ∧ H T = none ∧ H' = upd H T (.tup [.int (i : Nat), x]) ∧ ∀ xs, SqT K H a xs → xs[i]? = some x, fun i H => ∃ xs : List V, SqT K H a xs ∧ xs.length = i⟩
theorem turn_enumT {P : Program} {w : World} {K : PySem.W.Frag} {elts : List Expr} {kk : Nat} {tpos : Pos} (a e it : Addr) :
    Turn P w K (.Tuple elts kk tpos) (IteT K a) [e, it] e (fun i h => (∃ old, IsEnum h e it ((i : Nat) : Int) old) ∧ h.IsTupleIter it a i ∧ e ≠ it) where
  mem := by simp
  obj := fun i h st b hb => by
    obtain ⟨⟨old, he⟩, ⟨o, ho, hc, hd⟩, _⟩ := st
    have e' : b = e ∨ b = it := by simpa using hb
    rcases e' with z | z
    · rw [z]; exact ⟨_, he, fun v q => nomatch q⟩
    · rw [z]; exact ⟨o, ho, fun v q => by rw [hd] at q; cases q⟩
  keep := fun i h h' st k => let ⟨⟨old, he⟩, hi, hne⟩ := st; ⟨⟨old, k e (by simp) _ he⟩, hi.at fun o q => k it (by simp) o q, hne⟩
  item := by
    intro X hP hw hK hc i pins s σ H E I hf st hg
    subst hP hw hK
    obtain ⟨⟨old, he⟩, hit, hne⟩ := st
    obtain ⟨xs, x, hq, hx⟩ := hg
    obtain ⟨its, rv, p, hz⟩ := I.tuple hq
    obtain ⟨u, hu, ru⟩ := rv.get hx
    have hel : e < s.heap.objs.size := Heap.lt_size he
    have hil : it < s.heap.objs.size := by obtain ⟨_, q, _⟩ := hit; exact Heap.lt_size q
    have hia : a ≠ it := fun z => by
      obtain ⟨o1, q1, c1, _⟩ := p
      obtain ⟨o2, q2, c2, _⟩ := hit
      rw [z, q2] at q1; cases q1; rw [c2] at c1; injection c1 with c1; revert c1; decide
    have hea : e ≠ a := fun z => by
      obtain ⟨o1, q1, c1, _⟩ := p
      rw [← z, he] at q1; cases q1; injection c1 with c1; revert c1; decide
    have hlt : i < its.toArray.size := by rw [List.size_toArray]; exact (List.getElem?_eq_some_iff.mp hu).1
    refine wpAny_pyNext_enum_itemD (draws_tuple (A := X.A.in1) (I.ok.hd hc) it a hia its.toArray) he ⟨hit, p⟩ hlt hne (by simp [hne, hea]) fun x' h' tk hPx ho hit' hT hsz hk => ?_
    obtain rfl : u = x' := by
      have : its.toArray[i]? = some x' := hPx
      rw [List.getElem?_toArray, hu] at this
      exact Option.some.inj this
    refine ⟨_, rfl, wpAny_letOwnedTupleGo_enum (s := { s with heap := h', toks := tk + 1 }) ho fun h'' he' sb => ?_⟩
    have hT2 : h''.get? s.heap.objs.size = some { cls := .type "tuple", data := .seq #[.int i tk, u] } := (sb.2 _ (Nat.ne_of_gt hel)).trans hT
    have new : ObjOk X.prog X.w (upd H s.heap.objs.size (.tup [.int (i : Nat), x])) h'' s.heap.objs.size (.tup [.int (i : Nat), x]) :=
      ⟨by show 2 ≤ sizeLine; decide, [.int i tk, u], .cons ⟨_, rfl⟩ (.cons ru .nil), ⟨_, hT2, rfl, _, rfl⟩⟩
    have I1 : Inv X pins σ (upd H s.heap.objs.size (.tup [.int (i : Nat), x])) { s with heap := h'', toks := tk + 1 } :=
      I.turnedNew (ch := [e, it]) (fun b ob hb q => (sb.2 b (fun z => hb (by simp [z]))).trans (hk b ob (fun z => hb (by simp [z])) (fun z => hb (by simp [z])) q)) hf (Nat.le_refl _) new
    refine ⟨.ref s.heap.objs.size, _, I1, rfl, ⟨_, x, rfl, I.hok.fresh (Nat.le_refl _), rfl, fun ys hy => by rw [I.tuple_inj hy hq]; exact hx⟩, ⟨⟨u, ?_⟩, hit'.1.at fun o q => (sb.2 it (Ne.symm hne)).trans q, hne⟩, fun b hb => ?_⟩
    · have e1 : ((i + 1 : Nat) : Int) = (i : Int) + 1 := by omega
      rw [e1]; exact he'
    · have hb' : b < s.heap.objs.size := by
        have e' : b = e ∨ b = it := by simpa using hb
        rcases e' with z | z
        · rw [z]; exact hel
        · rw [z]; exact hil
      rw [upd_ne (Nat.ne_of_lt hb')]
      exact (hf b hb).1
  done := by
    intro X hP hw hK hc i pins s σ H E I hf st hg
    subst hP hw hK
    obtain ⟨⟨old, he⟩, hit, hne⟩ := st
    obtain ⟨xs, hq, hx⟩ := hg
    obtain ⟨its, rv, p, hz⟩ := I.tuple hq
    obtain ⟨f0, f1, f2, f3, f4, f5⟩ := hf it (by simp)
    have hl := rv.length
    have hia : a ≠ it := fun z => by
      obtain ⟨o1, q1, c1, _⟩ := p
      obtain ⟨o2, q2, c2, _⟩ := hit
      rw [z, q2] at q1; cases q1; rw [c2] at c1; injection c1 with c1; revert c1; decide
    have hi : i = its.toArray.size := by rw [List.size_toArray]; omega
    rw [hi] at he hit
    exact wpAny_pyNext_enum_endD (draws_tuple (A := X.A.in1) (I.ok.hd hc) it a hia its.toArray) he ⟨hit, p⟩ fun h' eb => ⟨rfl, I.turned (t' := s.toks) (fun b o hb q => eb b o hb q) f0 f1 f3 f4 f5⟩
  self := fun A i s Q E st h => let ⟨⟨_, he⟩, _⟩ := st; wpAny_pyIter_enum he h
def iEnumT (K : PySem.W.Frag) (ta : TA) : TI := fun σ H R => ta σ H fun vs H1 => ∃ a xs, vs = [.ref a] ∧ SqT K H1 a xs ∧ R (IteT K a) H1
theorem pi_enumT {X : Cx} {e : Expr} {ta : TA} {p pos tpos : Pos} {elts : List Expr} {kk : Nat} (hg : Gl X "enumerate") (hm : X.mg "enumerate" = none) (ha : PA X [e] ta) (hs : starEach [e] X.env = [(false, eval e X.env)] := by rfl) :
    PI X (.Tuple elts kk tpos) (.Call (.Name "enumerate" p) [e] [] pos) (iEnumT X.K ta) := by
  refine ⟨fun pins s σ H R I h => ?_⟩
  refine Call_ (ld_blt I hg hm boot_enumerate (PyProof.Rows.callWith_type1 (thn (ha.run pos pins s σ H _ I h) fun us s1 ⟨vs, H1, I1, r1, q1⟩ => ?_) hs rfl))
  obtain ⟨a, xs, ex, hq, q⟩ := q1
  subst ex
  cases r1 with
  | cons r rr =>
    cases rr
    cases r
    obtain ⟨its, rv, p', hz⟩ := I1.tuple hq
    refine call_enumerate_tup p' fun h' he hit hsz hk => wpAny_pyIter_enum he ?_
    have I2 : Inv X pins σ H1 { s1 with heap := h' } := I1.kept (t' := s1.toks) hk
    refine ⟨s1.heap.objs.size + 1, [s1.heap.objs.size + 1, s1.heap.objs.size], _, _, H1, rfl, I2, turn_enumT a (s1.heap.objs.size + 1) s1.heap.objs.size, ⟨⟨.none, he⟩, hit, Nat.succ_ne_self _⟩, fun b hb => ?_, q⟩
    have e' : b = s1.heap.objs.size + 1 ∨ b = s1.heap.objs.size := by simpa using hb
    have hle : s1.heap.objs.size ≤ b := by
      rcases e' with z | z
      · rw [z]; exact Nat.le_add_right _ _
      · rw [z]; exact Nat.le_refl _
    exact I1.fpOk hle (I1.hok.fresh hle)
section
variable {X : Cx} {W : WX}
def enumD : Nat → List D → List D
  | _, [] => []
  | i, d :: ds => .tup [.int (i : Nat), d] :: enumD (i + 1) ds
theorem enumD_length : ∀ (i : Nat) (ds : List D), (enumD i ds).length = ds.length
  | _, [] => rfl
  | i, d :: ds => by simp [enumD, enumD_length (i + 1) ds]
theorem enumD_get : ∀ (k : Nat) (ds : List D) (i : Nat) (d : D), (enumD k ds)[i]? = some d → ∃ a, ds[i]? = some a ∧ d = .tup [.int ((k + i : Nat) : Int), a]
  | _, [], i, d, h => by simp [enumD] at h
  | k, a :: ds, 0, d, h => by simp [enumD] at h; exact ⟨a, rfl, h.symm⟩
  | k, a :: ds, i + 1, d, h => by
    have h' : (enumD (k + 1) ds)[i]? = some d := by simpa [enumD] using h
    obtain ⟨b, h1, h2⟩ := enumD_get (k + 1) ds i d h'
    exact ⟨b, by simpa using h1, by rw [h2, show k + 1 + i = k + (i + 1) from by omega]⟩
def eEnum (ea : EA) : EI := fun e M => (ea e M).bind fun ds M1 => match ds with
  | [.tup a] => .ok (.snap (enumD 0 a)) M1
  | _ => .stuck
theorem walk_enumT {K : PySem.W.Frag} {a : Addr} {xs : List V} {n : Nat} (hn : n = xs.length) : Walk (IteT K a) n (fun H => SqT K H a xs) (YPair (fun i => some (V.int (i : Nat))) (fun i => xs[i]?)) := by
  subst hn
  refine ⟨fun i H hi h => ?_, fun H h => ?_, fun i H x H' hi h y => ?_⟩
  · exact ⟨xs, xs[i], h, List.getElem?_eq_getElem hi⟩
  · exact ⟨xs, h, rfl⟩
  · obtain ⟨T, x1, rfl, nT, rfl, f1⟩ := y
    exact ⟨T, _, x1, rfl, nT, rfl, rfl, f1 xs h⟩
theorem wk_enum {L : List Addr} {G : Hp} {J : It} {as : List D} {vs : List V} {Gd : Hp → Prop} (lx : RpL (kx X) L G vs as) (w : Walk J vs.length Gd (YPair (fun i => some (V.int (i : Nat))) (fun i => vs[i]?)))
    (hG : ∀ F' L' G' M' H', Ok (kx X) F' L' G' M' H' → Ext L G L' G' → Gd H') : WkOk X L G J (enumD 0 as) := by
  refine ⟨Gd, _, by rw [enumD_length, ← lx.length]; exact w, hG, ?_⟩
  rintro i d x F' L' G' M' H' H2 hd o e ⟨T, x1, x2, rfl, nT, rfl, f1, f2⟩
  obtain ⟨a, ha, rfl⟩ := enumD_get 0 as i d hd
  obtain ⟨v, hv, rv⟩ := lx.get ha
  dsimp only at f1 f2
  cases f1
  rw [hv] at f2; cases f2
  obtain ⟨o2, e2⟩ := o.lay (u := .tup [.int (i : Nat), x2]) nT
  refine ⟨_, o2, e2, .tup (.inl (.inl upd_same)) (.cons ?_ (.cons ((rv.mono e).mono e2) .nil))⟩
  rw [Nat.zero_add]; exact .int _
theorem pid_enum {a : Expr} {ea : EA} {p pos tpos : Pos} {elts : List Expr} {kk : Nat} (hc : X.calm = true) (hm : X.mg "enumerate" = none) (ha : PAD X W [a] ea) (hg : Gl X "enumerate" := by rfl) (hs : starEach [a] X.env = [(false, eval a X.env)] := by rfl) :
    PID X W (.Tuple elts kk tpos) (.Call (.Name "enumerate" p) [a] [] pos) (eEnum ea) := by
  obtain ⟨t, pa, q⟩ := ha
  refine ⟨_, pi_enumT hg hm pa hs, fun F e M σ L G H Rq o re h => ?_⟩
  refine q F e M σ L G H _ o re ((Aft.bind h).imp fun ds M1 L1 G1 H1 o1 x1 h1 vs r => ?_)
  split at h1
  · rename_i as
    cases r with
    | cons r1 rr =>
      cases rr
      cases r1 with
      | tup s1 l1 =>
        exact ⟨_, _, rfl, Same.seqT o1.sub s1, h1 L1 G1 H1 o1 (Ext.refl _ _) _ G1 H1 o1 (Ext.refl _ _) (wk_enum l1 (walk_enumT rfl) fun F' L' G' M' H' o x => Same.seqT o.sub (Same.seqT x.g s1))⟩
  · exact h1.elim
end
end KB
namespace KB
open PySem PySem.Spec PyProof.Rows L2
/-! ### zip of three tuples -/
def ItzT3 (K : PySem.W.Frag) (a b c : Addr) : It :=
  ⟨fun i H => ∃ (xs ys zs : List V) (x y z : V), SqT K H a xs ∧ SqT K H b ys ∧ SqT K H c zs ∧ xs[i]? = some x ∧ ys[i]? = some y ∧ zs[i]? = some z,
    fun i H v H' => ∃ T x y z, v = .ref T ∧ H T = none ∧ H' = upd H T (.tup [x, y, z]) ∧ (∀ xs, SqT K H a xs → xs[i]? = some x) ∧ (∀ ys, SqT K H b ys → ys[i]? = some y) ∧ ∀ zs, SqT K H c zs → zs[i]? = some z,
    fun i H => ∃ xs ys zs : List V, SqT K H a xs ∧ SqT K H b ys ∧ SqT K H c zs ∧ xs.length = i ∧ ys.length = i ∧ zs.length = i⟩
theorem ne_of {a b : Nat} (h : a < b ∨ b < a) : (a : Addr) ≠ (b : Addr) := by
  show ¬ (a = b)
  omega
theorem nin2 {a x y : Addr} (h1 : a ≠ x) (h2 : a ≠ y) : a ∉ [x, y] := by simp [h1, h2]
theorem sep3 (n a b c : Nat) (ha : a < n) (hb : b < n) (hc : c < n) : ZipSep3 (n + 5) (n + 3) (n + 4) n (n + 1) (n + 2) [n, a] [n + 1, b] [n + 2, c] := by
  constructor
  all_goals first
    | exact ne_of (by omega)
    | exact List.mem_cons_self ..
    | exact nin2 (ne_of (by omega)) (ne_of (by omega))
theorem turn_zipT3 {P : Program} {w : World} {K : PySem.W.Frag} {elts : List Expr} {kk : Nat} {tpos : Pos} {a b c z TI TO i1 i2 i3 : Addr} (D : ZipSep3 z TI TO i1 i2 i3 [i1, a] [i2, b] [i3, c]) :
    Turn P w K (.Tuple elts kk tpos) (ItzT3 K a b c) [z, TI, TO, i1, i2, i3] z (fun i h => IsZip h z TI TO .none ∧ IsTupOf3 h TI (.ref i1) (.ref i2) (.ref i3) ∧ (∃ x y u, IsTupOf3 h TO x y u) ∧ h.IsTupleIter i1 a i ∧ h.IsTupleIter i2 b i ∧ h.IsTupleIter i3 c i) where
  mem := by simp
  obj := fun i h st c hc => by
    obtain ⟨hz, hTI, ⟨x, y, u, hTO⟩, ⟨o1, e1, _, d1⟩, ⟨o2, e2, _, d2⟩, ⟨o3, e3, _, d3⟩⟩ := st
    have e' : c = z ∨ c = TI ∨ c = TO ∨ c = i1 ∨ c = i2 ∨ c = i3 := by simpa using hc
    rcases e' with q | q | q | q | q | q
    · rw [q]; exact ⟨_, hz, fun v q => nomatch q⟩
    · rw [q]; exact ⟨_, hTI, fun v q => nomatch q⟩
    · rw [q]; exact ⟨_, hTO, fun v q => nomatch q⟩
    · rw [q]; exact ⟨o1, e1, fun v q => by rw [d1] at q; cases q⟩
    · rw [q]; exact ⟨o2, e2, fun v q => by rw [d2] at q; cases q⟩
    · rw [q]; exact ⟨o3, e3, fun v q => by rw [d3] at q; cases q⟩
  keep := fun i h h' st k => by
    obtain ⟨hz, hTI, ⟨x, y, u, hTO⟩, h1, h2, h3⟩ := st
    exact ⟨k z (by simp) _ hz, k TI (by simp) _ hTI, ⟨x, y, u, k TO (by simp) _ hTO⟩, h1.at fun o q => k i1 (by simp) o q, h2.at fun o q => k i2 (by simp) o q, h3.at fun o q => k i3 (by simp) o q⟩
  item := by
    intro X hP hw hK hc i pins s σ H E I hf st hg
    subst hP hw hK
    obtain ⟨hz, hTI, ⟨x0, y0, u0, hTO⟩, h1, h2, h3⟩ := st
    obtain ⟨xs, ys, zs, x, y, t, hqx, hqy, hqz, hx, hy, ht⟩ := hg
    obtain ⟨its, rv, p, _⟩ := I.tuple hqx
    obtain ⟨its2, rv2, p2, _⟩ := I.tuple hqy
    obtain ⟨its3, rv3, p3, _⟩ := I.tuple hqz
    obtain ⟨u, hu, ru⟩ := rv.get hx
    obtain ⟨u2, hu2, ru2⟩ := rv2.get hy
    obtain ⟨u3, hu3, ru3⟩ := rv3.get ht
    have hzl : z < s.heap.objs.size := Heap.lt_size hz
    have hh := I.ok.hd hc
    have na : a ≠ i1 := fun q => by
      obtain ⟨o1, q1, c1, _⟩ := p
      obtain ⟨o2, q2, c2, _⟩ := h1
      rw [q, q2] at q1; cases q1; rw [c2] at c1; injection c1 with c1; revert c1; decide
    have nb : b ≠ i2 := fun q => by
      obtain ⟨o1, q1, c1, _⟩ := p2
      obtain ⟨o2, q2, c2, _⟩ := h2
      rw [q, q2] at q1; cases q1; rw [c2] at c1; injection c1 with c1; revert c1; decide
    have nc : c ≠ i3 := fun q => by
      obtain ⟨o1, q1, c1, _⟩ := p3
      obtain ⟨o2, q2, c2, _⟩ := h3
      rw [q, q2] at q1; cases q1; rw [c2] at c1; injection c1 with c1; revert c1; decide
    have l1 : i < its.toArray.size := by rw [List.size_toArray]; exact (List.getElem?_eq_some_iff.mp hu).1
    have l2 : i < its2.toArray.size := by rw [List.size_toArray]; exact (List.getElem?_eq_some_iff.mp hu2).1
    have l3 : i < its3.toArray.size := by rw [List.size_toArray]; exact (List.getElem?_eq_some_iff.mp hu3).1
    refine wpAny_pyNext_zipD3_item D (Draws.tuple (A := X.A.in1) hh i1 a na its.toArray) (Draws.tuple (A := X.A.in1) hh i2 b nb its2.toArray) (Draws.tuple (A := X.A.in1) hh i3 c nc its3.toArray) hz hTI hTO ⟨h1, p⟩ ⟨h2, p2⟩ ⟨h3, p3⟩ l1 l2 l3 fun v1 v2 v3 h' tk e1 e2 e3 z' TO' h1' h2' h3' hT hsz hk => ?_
    obtain rfl : u = v1 := by
      have : its.toArray[i]? = some v1 := e1
      rw [List.getElem?_toArray, hu] at this
      exact Option.some.inj this
    obtain rfl : u2 = v2 := by
      have : its2.toArray[i]? = some v2 := e2
      rw [List.getElem?_toArray, hu2] at this
      exact Option.some.inj this
    obtain rfl : u3 = v3 := by
      have : its3.toArray[i]? = some v3 := e3
      rw [List.getElem?_toArray, hu3] at this
      exact Option.some.inj this
    refine ⟨_, rfl, wpAny_letOwnedTupleGo_zip (s := { s with heap := h', toks := tk }) z' fun h'' z'' sb => ?_⟩
    have hT2 : h''.get? s.heap.objs.size = some { cls := .type "tuple", data := .seq #[u, u2, u3] } := (sb.2 _ (Nat.ne_of_gt hzl)).trans hT
    have new : ObjOk X.prog X.w (upd H s.heap.objs.size (.tup [x, y, t])) h'' s.heap.objs.size (.tup [x, y, t]) :=
      ⟨by show 3 ≤ sizeLine; decide, [u, u2, u3], .cons ru (.cons ru2 (.cons ru3 .nil)), ⟨_, hT2, rfl, _, rfl⟩⟩
    have I1 : Inv X pins σ (upd H s.heap.objs.size (.tup [x, y, t])) { s with heap := h'', toks := tk } :=
      I.turnedNew (t' := tk) (ch := [z, TI, TO, i1, i2, i3]) (fun c o hb q => (sb.2 c (fun q' => hb (by simp [q']))).trans (hk c o (fun q' => hb (by simp [q'])) (fun q' => hb (by simp [q'])) (fun q' => hb (by simp [q'])) (fun q' => hb (by simp [q'])) (fun q' => hb (by simp [q'])) q)) hf (Nat.le_refl _) new
    refine ⟨.ref s.heap.objs.size, _, I1, rfl, ⟨_, x, y, t, rfl, I.hok.fresh (Nat.le_refl _), rfl, fun l hl => by rw [I.tuple_inj hl hqx]; exact hx, fun l hl => by rw [I.tuple_inj hl hqy]; exact hy, fun l hl => by rw [I.tuple_inj hl hqz]; exact ht⟩, ⟨z'', ?_, ⟨u, u2, u3, ?_⟩, ?_, ?_, ?_⟩, fun c hcm => ?_⟩
    · exact (sb.2 _ D.TIz).trans (hk _ _ D.TIz D.TITO D.TIi1 D.TIi2 D.TIi3 hTI)
    · exact (sb.2 _ D.TOz).trans TO'
    · exact h1'.1.at fun o q => (sb.2 _ D.zi1.symm).trans q
    · exact h2'.1.at fun o q => (sb.2 _ D.zi2.symm).trans q
    · exact h3'.1.at fun o q => (sb.2 _ D.zi3.symm).trans q
    · have hlt : c < s.heap.objs.size := by
        have e' : c = z ∨ c = TI ∨ c = TO ∨ c = i1 ∨ c = i2 ∨ c = i3 := by simpa using hcm
        rcases e' with q | q | q | q | q | q
        · rw [q]; exact hzl
        · rw [q]; exact Heap.lt_size hTI
        · rw [q]; exact Heap.lt_size hTO
        · rw [q]; obtain ⟨_, e1, _⟩ := h1; exact Heap.lt_size e1
        · rw [q]; obtain ⟨_, e2, _⟩ := h2; exact Heap.lt_size e2
        · rw [q]; obtain ⟨_, e3, _⟩ := h3; exact Heap.lt_size e3
      rw [upd_ne (Nat.ne_of_lt hlt)]
      exact (hf c hcm).1
  done := by
    intro X hP hw hK hc i pins s σ H E I hf st hg
    subst hP hw hK
    obtain ⟨hz, hTI, ⟨x0, y0, u0, hTO⟩, h1, h2, h3⟩ := st
    obtain ⟨xs, ys, zs, hqx, hqy, hqz, k1, k2, k3⟩ := hg
    obtain ⟨its, rv, p, _⟩ := I.tuple hqx
    obtain ⟨its2, rv2, p2, _⟩ := I.tuple hqy
    obtain ⟨its3, rv3, p3, _⟩ := I.tuple hqz
    have l1 := rv.length
    have l2 := rv2.length
    have l3 := rv3.length
    have hh := I.ok.hd hc
    have na : a ≠ i1 := fun q => by
      obtain ⟨o1, q1, c1, _⟩ := p
      obtain ⟨o2, q2, c2, _⟩ := h1
      rw [q, q2] at q1; cases q1; rw [c2] at c1; injection c1 with c1; revert c1; decide
    have nb : b ≠ i2 := fun q => by
      obtain ⟨o1, q1, c1, _⟩ := p2
      obtain ⟨o2, q2, c2, _⟩ := h2
      rw [q, q2] at q1; cases q1; rw [c2] at c1; injection c1 with c1; revert c1; decide
    have nc : c ≠ i3 := fun q => by
      obtain ⟨o1, q1, c1, _⟩ := p3
      obtain ⟨o2, q2, c2, _⟩ := h3
      rw [q, q2] at q1; cases q1; rw [c2] at c1; injection c1 with c1; revert c1; decide
    exact wpAny_pyNext_zipD3_end D (Draws.tuple (A := X.A.in1) hh i1 a na its.toArray) (Draws.tuple (A := X.A.in1) hh i2 b nb its2.toArray) (Draws.tuple (A := X.A.in1) hh i3 c nc its3.toArray) hz hTI hTO ⟨h1, p⟩ ⟨h2, p2⟩ ⟨h3, p3⟩
      (by rw [List.size_toArray]; omega) (by rw [List.size_toArray]; omega) (by rw [List.size_toArray]; omega) (.inl (by rw [List.size_toArray]; omega)) fun h' tk hk => ⟨rfl, I.turnedL (t' := tk) (ch := [z, TI, TO, i1, i2, i3]) (fun c o hb q =>
      hk c o (fun q' => hb (by simp [q'])) (fun q' => hb (by simp [q'])) (fun q' => hb (by simp [q'])) (fun q' => hb (by simp [q'])) (fun q' => hb (by simp [q'])) q) hf⟩
  self := fun A i s Q E st h => wpAny_pyIter_zip st.1 h
def iZip3 (K : PySem.W.Frag) (ta : TA) : TI := fun σ H R => ta σ H fun vs H1 => ∃ a b c xs ys zs, vs = [.ref a, .ref b, .ref c] ∧ SqT K H1 a xs ∧ SqT K H1 b ys ∧ SqT K H1 c zs ∧ R (ItzT3 K a b c) H1
theorem pi_zip3 {X : Cx} {e e2 e3 : Expr} {ta : TA} {p pos tpos : Pos} {elts : List Expr} {kk : Nat} (hg : Gl X "zip") (hm : X.mg "zip" = none) (ha : PA X [e, e2, e3] ta)
    (hs : starEach [e, e2, e3] X.env = (false, eval e X.env) :: starEach [e2, e3] X.env := by rfl) (hpl : (backTo pos (starEach [e2, e3] X.env)).any (·.1) = false := by rfl) :
    PI X (.Tuple elts kk tpos) (.Call (.Name "zip" p) [e, e2, e3] [] pos) (iZip3 X.K ta) := by
  refine ⟨fun pins s σ H R I h => ?_⟩
  refine Call_ (ld_blt I hg hm PyProof.Rows.boot_zip (PyProof.Rows.callWith_type1 (thn (ha.run pos pins s σ H _ I h) fun us s1 ⟨vs, H1, I1, r1, q1⟩ => ?_) hs hpl))
  obtain ⟨a, b, c, xs, ys, zs, ex, hqx, hqy, hqz, q⟩ := q1
  subst ex
  cases r1 with
  | cons r rr =>
    cases rr with
    | cons r' rr =>
      cases rr with
      | cons r'' rr =>
        cases rr
        cases r
        cases r'
        cases r''
        have fresh6 : ∀ c, c ∈ [s1.heap.objs.size + 5, s1.heap.objs.size + 3, s1.heap.objs.size + 4, s1.heap.objs.size, s1.heap.objs.size + 1, s1.heap.objs.size + 2] → FpOk X pins H1 c := fun c hcm => by
          have hle : s1.heap.objs.size ≤ c := by
            simp only [List.mem_cons, List.not_mem_nil, or_false] at hcm
            rcases hcm with z | z | z | z | z | z
            · rw [z]; exact Nat.le_add_right _ _
            · rw [z]; exact Nat.le_add_right _ _
            · rw [z]; exact Nat.le_add_right _ _
            · rw [z]; exact Nat.le_refl _
            · rw [z]; exact Nat.le_add_right _ _
            · rw [z]; exact Nat.le_add_right _ _
          exact I1.fpOk hle (I1.hok.fresh hle)
        obtain ⟨its, rv, p1, _⟩ := I1.tuple hqx
        obtain ⟨its2, rv2, p2, _⟩ := I1.tuple hqy
        obtain ⟨its3, rv3, p3, _⟩ := I1.tuple hqz
        obtain ⟨o1, ho1, _⟩ := id p1
        obtain ⟨o2, ho2, _⟩ := id p2
        obtain ⟨o3, ho3, _⟩ := id p3
        refine zip_begins3 (begins_tuple a its.toArray) (begins_tuple b its2.toArray) (begins_tuple c its3.toArray) p1 p2 p3 fun h' hz hTI hTO h1 h2 h3 hsz hk => wpAny_pyIter_zip hz ?_
        have I2 : Inv X pins σ H1 { s1 with heap := h' } := I1.kept (t' := s1.toks) hk
        exact ⟨s1.heap.objs.size + 5, [s1.heap.objs.size + 5, s1.heap.objs.size + 3, s1.heap.objs.size + 4, s1.heap.objs.size, s1.heap.objs.size + 1, s1.heap.objs.size + 2], _, _, H1, rfl, I2, turn_zipT3 (sep3 s1.heap.objs.size a b c (Heap.lt_size ho1) (Heap.lt_size ho2) (Heap.lt_size ho3)), ⟨hz, hTI, ⟨_, _, _, hTO⟩, ⟨_, h1, rfl, rfl⟩, ⟨_, h2, rfl, rfl⟩, ⟨_, h3, rfl, rfl⟩⟩, fresh6, q⟩
section
variable {X : Cx} {W : WX}
def zipD3 : List D → List D → List D → List D
  | a :: as, b :: bs, c :: cs => .tup [a, b, c] :: zipD3 as bs cs
  | _, _, _ => []
theorem zipD3_get : ∀ (as bs cs : List D) (i : Nat) (d : D), (zipD3 as bs cs)[i]? = some d → ∃ a b c, as[i]? = some a ∧ bs[i]? = some b ∧ cs[i]? = some c ∧ d = .tup [a, b, c]
  | [], _, _, i, d, h => by simp [zipD3] at h
  | _ :: _, [], _, i, d, h => by simp [zipD3] at h
  | _ :: _, _ :: _, [], i, d, h => by simp [zipD3] at h
  | a :: as, b :: bs, c :: cs, 0, d, h => by simp [zipD3] at h; exact ⟨a, b, c, rfl, rfl, rfl, h.symm⟩
  | a :: as, b :: bs, c :: cs, i + 1, d, h => by
    have h' : (zipD3 as bs cs)[i]? = some d := by simpa [zipD3] using h
    simpa using zipD3_get as bs cs i d h'
theorem zipD3_length : ∀ (as bs cs : List D), as.length = bs.length → as.length = cs.length → (zipD3 as bs cs).length = as.length
  | [], _, _, _, _ => by simp [zipD3]
  | _ :: _, [], _, h, _ => by simp at h
  | _ :: _, _ :: _, [], _, h => by simp at h
  | a :: as, b :: bs, c :: cs, h1, h2 => by simp [zipD3, zipD3_length as bs cs (by simpa using h1) (by simpa using h2)]
def eZip3 (ea : EA) : EI := fun e M => (ea e M).bind fun ds M1 => match ds with
  | [.tup a, .tup b, .tup c] => if a.length = b.length ∧ a.length = c.length then .ok (.snap (zipD3 a b c)) M1 else .stuck
  | _ => .stuck
def YTrip (f g h : Nat → Option V) : Nat → Hp → V → Hp → Prop := fun i H v H' => ∃ T x y z, v = .ref T ∧ H T = none ∧ H' = upd H T (.tup [x, y, z]) ∧ f i = some x ∧ g i = some y ∧ h i = some z
theorem walk_zipT3 {K : PySem.W.Frag} {a b c : Addr} {xs ys zs : List V} {n : Nat} (h1 : n = xs.length) (h2 : n = ys.length) (h3 : n = zs.length) : Walk (ItzT3 K a b c) n (fun H => SqT K H a xs ∧ SqT K H b ys ∧ SqT K H c zs) (YTrip (fun i => xs[i]?) (fun i => ys[i]?) (fun i => zs[i]?)) := by
  refine ⟨fun i H hi h => ?_, fun H h => ?_, fun i H x H' hi h y => ?_⟩
  · have g1 : i < xs.length := by omega
    have g2 : i < ys.length := by omega
    have g3 : i < zs.length := by omega
    exact ⟨xs, ys, zs, xs[i], ys[i], zs[i], h.1, h.2.1, h.2.2, List.getElem?_eq_getElem g1, List.getElem?_eq_getElem g2, List.getElem?_eq_getElem g3⟩
  · exact ⟨xs, ys, zs, h.1, h.2.1, h.2.2, h1.symm, h2.symm, h3.symm⟩
  · obtain ⟨T, x1, x2, x3, rfl, nT, rfl, f1, f2, f3⟩ := y
    exact ⟨T, x1, x2, x3, rfl, nT, rfl, f1 xs h.1, f2 ys h.2.1, f3 zs h.2.2⟩
theorem pid_zip3 {a b c : Expr} {ea : EA} {p pos tpos : Pos} {elts : List Expr} {kk : Nat} (hc : X.calm = true) (hm : X.mg "zip" = none) (ha : PAD X W [a, b, c] ea) (hg : Gl X "zip" := by rfl) (hs : starEach [a, b, c] X.env = (false, eval a X.env) :: starEach [b, c] X.env := by rfl) (hpl : (backTo pos (starEach [b, c] X.env)).any (·.1) = false := by rfl) :
    PID X W (.Tuple elts kk tpos) (.Call (.Name "zip" p) [a, b, c] [] pos) (eZip3 ea) := by
  obtain ⟨t, pa, q⟩ := ha
  refine ⟨_, pi_zip3 hg hm pa hs hpl, fun F e M σ L G H Rq o re h => ?_⟩
  refine q F e M σ L G H _ o re ((Aft.bind h).imp fun ds M1 L1 G1 H1 o1 x1 h1 vs r => ?_)
  split at h1
  · rename_i as bs cs
    split at h1
    · rename_i hl
      cases r with
      | cons r1 rr => cases rr with
        | cons r2 rr => cases rr with
          | cons r3 rr =>
            cases rr
            cases r1 with
            | tup s1 l1 => cases r2 with
              | tup s2 l2 => cases r3 with
                | tup s3 l3 =>
                  refine ⟨_, _, _, _, _, _, rfl, Same.seqT o1.sub s1, Same.seqT o1.sub s2, Same.seqT o1.sub s3, ?_⟩
                  refine h1 L1 G1 H1 o1 (Ext.refl _ _) _ G1 H1 o1 (Ext.refl _ _) ⟨_, _, walk_zipT3 ?_ ?_ ?_, fun F' L' G' M' H' o x => ⟨Same.seqT o.sub (Same.seqT x.g s1), Same.seqT o.sub (Same.seqT x.g s2), Same.seqT o.sub (Same.seqT x.g s3)⟩, ?_⟩
                  · rw [zipD3_length as bs cs hl.1 hl.2, l1.length]
                  · rw [zipD3_length as bs cs hl.1 hl.2, l2.length]; exact hl.1
                  · rw [zipD3_length as bs cs hl.1 hl.2, l3.length]; exact hl.2
                  · rintro i d x F' L' G' M' H' H2 hd o e ⟨T, x1, x2, x3, rfl, nT, rfl, f1, f2, f3⟩
                    obtain ⟨a, b, c, ha, hb, hc, rfl⟩ := zipD3_get as bs cs i d hd
                    obtain ⟨v, hv, rv⟩ := l1.get ha
                    obtain ⟨v', hv', rv'⟩ := l2.get hb
                    obtain ⟨v'', hv'', rv''⟩ := l3.get hc
                    dsimp only at f1 f2 f3
                    rw [hv] at f1; cases f1
                    rw [hv'] at f2; cases f2
                    rw [hv''] at f3; cases f3
                    obtain ⟨o2, e2⟩ := o.lay (u := .tup [x1, x2, x3]) nT
                    exact ⟨_, o2, e2, .tup (.inl (.inl upd_same)) (.cons ((rv.mono e).mono e2) (.cons ((rv'.mono e).mono e2) (.cons ((rv''.mono e).mono e2) .nil)))⟩
    · exact h1.elim
  · exact h1.elim
end
end KB
namespace KB
open PySem PySem.Spec PyProof.Rows L2
/-! ### plain laws of the evaluators -/
theorem kb1 : kitB "int" "int" = some true := by decide +kernel
theorem kb2 : kitB "bool" "int" = some true := by decide +kernel
theorem kb3 : kitB "NoneType" "int" = some false := by decide +kernel
theorem kb4 : kitB "str" "int" = some false := by decide +kernel
theorem kb5 : kitB "tuple" "int" = some false := by decide +kernel
theorem kb6 : kitB "list" "int" = some false := by decide +kernel
theorem kb7 : kitB "int" "bool" = some false := by decide +kernel
theorem kb8 : kitB "bool" "bool" = some true := by decide +kernel
theorem kb9 : kitB "NoneType" "bool" = some false := by decide +kernel
theorem kb10 : kitB "str" "bool" = some false := by decide +kernel
theorem kb11 : kitB "tuple" "bool" = some false := by decide +kernel
theorem kb12 : kitB "list" "bool" = some false := by decide +kernel
theorem kb13 : kitB "int" "tuple" = some false := by decide +kernel
theorem kb14 : kitB "bool" "tuple" = some false := by decide +kernel
theorem kb15 : kitB "NoneType" "tuple" = some false := by decide +kernel
theorem kb16 : kitB "str" "tuple" = some false := by decide +kernel
theorem kb17 : kitB "tuple" "tuple" = some true := by decide +kernel
theorem kb18 : kitB "list" "tuple" = some false := by decide +kernel
theorem kb19 : kitB "int" "str" = some false := by decide +kernel
theorem kb20 : kitB "bool" "str" = some false := by decide +kernel
theorem kb21 : kitB "NoneType" "str" = some false := by decide +kernel
theorem kb22 : kitB "str" "str" = some true := by decide +kernel
theorem kb23 : kitB "tuple" "str" = some false := by decide +kernel
theorem kb24 : kitB "list" "str" = some false := by decide +kernel
theorem kb25 : kitB "int" "list" = some false := by decide +kernel
theorem kb26 : kitB "bool" "list" = some false := by decide +kernel
theorem kb27 : kitB "NoneType" "list" = some false := by decide +kernel
theorem kb28 : kitB "str" "list" = some false := by decide +kernel
theorem kb29 : kitB "tuple" "list" = some false := by decide +kernel
theorem kb30 : kitB "list" "list" = some true := by decide +kernel
def isiB (T : String) : D → Bool
  | .non => false
  | .bl _ => T == "int" || T == "bool"
  | .int _ => T == "int"
  | .str _ => T == "str"
  | .tup _ => T == "tuple"
  | .lst _ => T == "list"
  | _ => false
/-- a byte string as data -/
def bs (ns : List Int) : D := .tup (ns.map .int)
@[simp] theorem ev_var (i : Nat) (e : EN) (M : List MO) : eVar i e M = match e[i]? with
  | some (some d) => .ok d M
  | _ => .stuck := rfl
/-! ### the end of a law -/
theorem rp_ints {C : Kx} {L : List Addr} {G : Hp} : ∀ ns : List Int, RpL C L G (ns.map V.int) (ns.map D.int)
  | [] => .nil
  | n :: ns => .cons (.int n) (rp_ints ns)
theorem sp_law {C : Kx} {m : List D → List MO → R D} {n : Nat} (hm : ∀ ns : List Int, ns.length ≤ n → ∃ M', m [.scr (ns.map .int)] [] = .ok (.bl true) M') (H : Hp) (a : Addr) (ns : List Int) (hl : ns.length ≤ n) (hS : SqL C.K H a (ns.map V.int)) :
    spOf C m [.ref a] H (fun v _ => v = .bl true) (fun _ _ _ => False) := by
  obtain ⟨M', e⟩ := hm ns hl
  refine ⟨fun _ => none, [], H, [], [.scr (ns.map .int)], ⟨(fun _ _ q => by cases q), (fun _ _ q => by cases q), fun _ _ q => q, rfl, List.nodup_nil, (fun _ h => nomatch h), fun n a o h => by simp at h⟩, .cons (.scr hS (rp_ints ns)) .nil, ?_⟩
  rw [e]
  intro v L' G' H' _ _ r
  cases r
  rfl
def spLaw (K : PySem.W.Frag) (n : Nat) : Sp := fun vs H Q _ => ∃ (a : Addr) (ns : List Int), vs = [.ref a] ∧ ns.length ≤ n ∧ SqL K H a (ns.map V.int) ∧ ∀ H', Q (.bl true) H'
theorem law_imp {C : Kx} {m : List D → List MO → R D} {n : Nat} (hm : ∀ ns : List Int, ns.length ≤ n → ∃ M', m [.scr (ns.map .int)] [] = .ok (.bl true) M') (vs : List V) (H : Hp) (Q : VK) (E : XK) (h : spLaw C.K n vs H Q E) : spOf C m vs H Q E := by
  obtain ⟨a, ns, rfl, hl, hS, q⟩ := h
  obtain ⟨M', e⟩ := hm ns hl
  refine ⟨fun _ => none, [], H, [], [.scr (ns.map .int)], ⟨(fun _ _ q => by cases q), (fun _ _ q => by cases q), fun _ _ q => q, rfl, List.nodup_nil, (fun _ h => nomatch h), fun n a o h => by simp at h⟩, .cons (.scr hS (rp_ints ns)) .nil, ?_⟩
  rw [e]
  intro v L' G' H' _ _ r
  cases r
  exact q H'
theorem cx_no {P : Program} {w : World} {H : Hp} {s : Shared} {e : Value} {s' : Shared} (h : L2.CX P w [] H s (fun _ _ _ => False) e s') : False := by
  obtain ⟨_, _, _, _, _, _, _, _, _, _, _, _, z⟩ := h
  exact z.elim
/-- as fn_has, the def's own FnOk -/
theorem fn_ok {P : Program} {w : World} {C : Kx} {base : Heap} {x qual : Str} {st : Stmt} {f : Addr} {fd : FuncData} {N ps : List Str} {k : Nat} {sv : SV} (F : Fun C.K x qual st f fd) (S : FnScope N ps (defScope st)) (gf : C.mg x = some (.ref f)) (b : Binds C.K fd ps [])
    (hb : ∀ (cdv : Value) (A : Around) (outer : List Env) (s : Shared) (H : Hp) (E : XK), Room k (A.deeper (envOfC qual (defScope st) s.heap.objs.size f cdv)) →
      PSsD (cxOf (L2.CX P w) P w C.K C.mg base N qual (defScope st) f cdv A outer s H E) (fun cls d _ H => E cls d H) (defBody st) sv) : FnOk P w C.K C.mg base (L2.CX P w) (k + 1) f fd ps (spOf C (mOf ps.length N.length sv)) := by
  refine F.okX S (fun vs H Q E h => ?_) (fun cdv A outer s H vs Q E hr h => ?_)
  · obtain ⟨F, L, G, M, ds, o, r, h⟩ := h
    unfold mOf at h
    by_cases hl : ds.length = ps.length
    · rw [r.length]; exact hl
    · rw [if_neg hl] at h; exact h.elim
  · obtain ⟨t, p, q⟩ := hb cdv A outer s H E hr
    obtain ⟨F, L, G, M, ds, o, r, h⟩ := h
    refine ⟨t, p, q F (startE N.length ds) M (start N vs) L G H _ o (RpE.start r) ?_⟩
    unfold mOf at h
    by_cases hl : ds.length = ps.length
    · rw [if_pos hl] at h
      cases hs : sv (startE N.length ds) M with
      | nx e M' => rw [hs] at h; exact fun σ' L' G' H' o' x' _ => h .non L' G' H' o' x' .non
      | ret d M' => rw [hs] at h; exact fun v L' G' H' o' x' r' => h v L' G' H' o' x' r'
      | brk e M' => rw [hs] at h; exact h.elim
      | cnt e M' => rw [hs] at h; exact h.elim
      | exc c e M' => rw [hs] at h; exact fun σ' L' G' H' u o' x' _ q' => h L' G' H' u o' x' q'
      | stuck => rw [hs] at h; exact h.elim
    · rw [if_neg hl] at h; exact h.elim
end KB
namespace KB
open PySem PySem.Spec PyProof.Rows L2
/-! ### equations of the evaluators, for simp -/
section
variable (e : EN) (M : List MO)
@[simp] theorem ev_c (d : D) : eC d e M = .ok d M := rfl
@[simp] theorem ev_bin (f : D → D → List MO → R D) (ea eb : EV) : eBin f ea eb e M = (ea e M).bind fun x M1 => (eb e M1).bind fun y M2 => f x y M2 := rfl
@[simp] theorem ev_un (f : D → List MO → R D) (ea : EV) : eUn f ea e M = (ea e M).bind f := rfl
@[simp] theorem ev_nil : eNil e M = .ok [] M := rfl
@[simp] theorem ev_cons (ea : EV) (er : EA) : eCons ea er e M = (ea e M).bind fun x M1 => (er e M1).bind fun xs M2 => .ok (x :: xs) M2 := rfl
@[simp] theorem ev_args (f : List D → List MO → R D) (ea : EA) : eArgs f ea e M = (ea e M).bind f := rfl
@[simp] theorem ev_test (ea : EV) : eTest ea e M = (ea e M).bind fun x M1 => match x with
  | .bl b => .ok b M1
  | _ => .stuck := rfl
@[simp] theorem ev_and (ea eb : EB) : eAnd ea eb e M = (ea e M).bind fun b M1 => if b then eb e M1 else .ok false M1 := rfl
@[simp] theorem ev_or (ea eb : EB) : eOr ea eb e M = (ea e M).bind fun b M1 => if b then .ok true M1 else eb e M1 := rfl
@[simp] theorem ev_not (ea : EB) : eNot ea e M = (ea e M).bind fun b M1 => .ok (!b) M1 := rfl
@[simp] theorem ev_andV (ea eb : EV) : eAndV ea eb e M = (ea e M).bind fun b M1 => match b with
  | .bl true => eb e M1
  | .bl false => .ok (.bl false) M1
  | _ => .stuck := rfl
@[simp] theorem ev_orV (ea eb : EV) : eOrV ea eb e M = (ea e M).bind fun b M1 => match b with
  | .bl false => eb e M1
  | .bl true => .ok (.bl true) M1
  | _ => .stuck := rfl
@[simp] theorem ev_if (c : EB) (ea eb : EV) : eIf c ea eb e M = (c e M).bind fun b M1 => if b then ea e M1 else eb e M1 := rfl
@[simp] theorem ev_chain (f g : D → D → List MO → R D) (ea eb ec : EV) : eChain f g ea eb ec e M = (ea e M).bind fun x M1 => (eb e M1).bind fun y M2 => (f x y M2).bind fun z M3 => match z with
  | .bl true => (ec e M3).bind fun w M4 => g y w M4
  | .bl false => .ok (.bl false) M3
  | _ => .stuck := rfl
@[simp] theorem ev_yes : eYes e M = .ok true M := rfl
@[simp] theorem ev_noE : eNoE e M = .ok none M := rfl
@[simp] theorem ev_someE (ev : EV) : eSomeE ev e M = (ev e M).bind fun d M1 => match d with
  | .int i => .ok (some i) M1
  | _ => .stuck := rfl
@[simp] theorem ev_sl (ea : EV) (el eh : EN → List MO → R (Option Int)) : eSl ea el eh e M = (ea e M).bind fun x M1 => (el e M1).bind fun l M2 => (eh e M2).bind fun h M3 => fSl x l h M3 := rfl
@[simp] theorem ev_meth (ck : D → List MO → Bool) (f : D → List D → List MO → R D) (eo : EV) (ea : EA) : eMeth ck f eo ea e M = (eo e M).bind fun o M1 => if ck o M1 then (ea e M1).bind fun xs M2 => f o xs M2 else .stuck := rfl
def srcOf (d : D) (M1 : List MO) : R Src := match d with
  | .lst ds => .ok (.snap ds) M1
  | .tup ds => .ok (.snap ds) M1
  | .cell n => match M1[n]? with
    | some (.lst _) => .ok (.cel n) M1
    | _ => .stuck
  | _ => .stuck
@[simp] theorem ev_seq (ev : EV) : eSeq ev e M = (ev e M).bind srcOf := rfl
@[simp] theorem srcOf_lst (ds : List D) : srcOf (.lst ds) M = .ok (.snap ds) M := rfl
@[simp] theorem srcOf_tup (ds : List D) : srcOf (.tup ds) M = .ok (.snap ds) M := rfl
@[simp] theorem srcOf_bs (ns : List Int) : srcOf (bs ns) M = .ok (.snap (ns.map .int)) M := rfl
theorem srcOf_cell {n : Nat} {ds : List D} (h : M[n]? = some (.lst ds)) : srcOf (.cell n) M = .ok (.cel n) M := by simp [srcOf, h]
@[simp] theorem ev_range1 (ea : EA) : eRange1 ea e M = (ea e M).bind fun ds M1 => match ds with
  | [.int j] => if rgOk j then .ok (.snap (rangeD 0 j.toNat)) M1 else .stuck
  | _ => .stuck := Eq.trans rfl rfl
@[simp] theorem ev_range2 (ea : EA) : eRange2 ea e M = (ea e M).bind fun ds M1 => match ds with
  | [.int i, .int j] => if rgOk i && rgOk j then .ok (.snap (rangeD i (j - i).toNat)) M1 else .stuck
  | _ => .stuck := Eq.trans rfl rfl
@[simp] theorem ev_lcA (src : EI) (g : GV) (vs : List Nat) (t : EB) (el : EV) : eLcA src g vs t el e M = (src e M).bind fun s M1 => match s with
  | .snap ds => compL g t el (wipeE e vs) ds [] M1
  | .cel n => compC g t el (wipeE e vs) n fuel 0 [] M1 := rfl
@[simp] theorem sv_nil : sNil e M = .nx e M := rfl
@[simp] theorem sv_never : sNever e M = .stuck := rfl
@[simp] theorem sv_brk : sBrk e M = .brk e M := rfl
@[simp] theorem sv_cnt : sCnt e M = .cnt e M := rfl
@[simp] theorem sv_retN : sRetN e M = .ret .non M := rfl
@[simp] theorem sv_raise (c : Str) : sRaise c e M = .exc c e M := rfl
@[simp] theorem sv_seq (a b : SV) : sSeq a b e M = (a e M).bind b := rfl
@[simp] theorem sv_expr (ev : EV) : sExpr ev e M = (ev e M).toS e fun _ M1 => .nx e M1 := rfl
@[simp] theorem sv_ret (ev : EV) : sRet ev e M = (ev e M).toS e fun d M1 => .ret d M1 := rfl
@[simp] theorem sv_set (i : Nat) (ev : EV) : sSet i ev e M = (ev e M).toS e fun d M1 => .nx (e.set i (some d)) M1 := rfl
@[simp] theorem sv_if (c : EB) (a b : SV) : sIf c a b e M = (c e M).toS e fun k M1 => if k then a e M1 else b e M1 := rfl
@[simp] theorem sv_asg (g : GV) (ev : EV) : sAsg g ev e M = (ev e M).toS e fun d M1 => match g d e with
  | some e1 => .nx e1 M1
  | none => .stuck := rfl
@[simp] theorem sv_par (i j : Nat) (ea : EA) : sPar i j ea e M = (ea e M).toS e fun ds M1 => match ds with
  | [a, b] => .nx ((e.set i (some a)).set j (some b)) M1
  | _ => .stuck := rfl
@[simp] theorem sv_par3 (i j l : Nat) (ea : EA) : sPar3 i j l ea e M = (ea e M).toS e fun ds M1 => match ds with
  | [a, b, c] => .nx (((e.set i (some a)).set j (some b)).set l (some c)) M1
  | _ => .stuck := rfl
@[simp] theorem sv_aug (i : Nat) (f : D → D → List MO → R D) (ev : EV) : sAug i f ev e M = (eVar i e M).toS e fun x M1 => (ev e M1).toS e fun y M2 => (f x y M2).toS e fun z M3 => .nx (e.set i (some z)) M3 := rfl
@[simp] theorem sv_while (c : EB) (b : SV) : sWhile c b e M = whileN c b fuel e M := rfl
@[simp] theorem sv_for (src : EI) (g : GV) (b : SV) : sFor src g b e M = (src e M).toS e fun s M1 => match s with
  | .snap ds => forL g b ds e M1
  | .cel n => forC g b n fuel 0 e M1 := rfl
@[simp] theorem sv_sub (eo ei ev : EV) : sSub eo ei ev e M = (ev e M).toS e fun v M1 => (eo e M1).toS e fun o M2 => (ei e M2).toS e fun i M3 => match o, i with
  | .cell n, .int k => match M3[n]? with
    | some (.lst ds) => match ixN ds.length k with
      | some j => .nx e (M3.set n (.lst (ds.set j v)))
      | none => .stuck
    | _ => .stuck
  | _, _ => .stuck := rfl
end
@[simp] theorem gN_eq (i : Nat) (d : D) (e : EN) : gN i d e = some (e.set i (some d)) := rfl
@[simp] theorem gT_tup (is : List Nat) (ds : List D) (e : EN) : gT is (.tup ds) e = setAll is ds e := rfl
@[simp] theorem setAll_nil (e : EN) : setAll [] [] e = some e := rfl
@[simp] theorem setAll_cons (i : Nat) (is : List Nat) (d : D) (ds : List D) (e : EN) : setAll (i :: is) (d :: ds) e = setAll is ds (e.set i (some d)) := rfl
/-! primitives -/
section
variable (M : List MO)
@[simp] theorem fAdd_int (i j : Int) : fAdd (.int i) (.int j) M = .ok (.int (i + j)) M := rfl
@[simp] theorem fAdd_tup (a b : List D) : fAdd (.tup a) (.tup b) M = if a.length + b.length ≤ big then .ok (.tup (a ++ b)) M else .stuck := Eq.trans rfl rfl
@[simp] theorem fAdd_lst (a b : List D) : fAdd (.lst a) (.lst b) M = if a.length + b.length ≤ big then .ok (.lst (a ++ b)) M else .stuck := Eq.trans rfl rfl
@[simp] theorem fAdd_str (a b : Str) : fAdd (.str a) (.str b) M = if a.length + b.length ≤ big then .ok (.str (a ++ b)) M else .stuck := Eq.trans rfl rfl
@[simp] theorem fIAdd_int (i j : Int) : fIAdd (.int i) (.int j) M = .ok (.int (i + j)) M := rfl
@[simp] theorem fIAdd_tup (a b : List D) : fIAdd (.tup a) (.tup b) M = if a.length + b.length ≤ big then .ok (.tup (a ++ b)) M else .stuck := Eq.trans rfl rfl
@[simp] theorem fSub_int (i j : Int) : fSub (.int i) (.int j) M = .ok (.int (i - j)) M := rfl
@[simp] theorem fISub_int (i j : Int) : fISub (.int i) (.int j) M = .ok (.int (i - j)) M := rfl
@[simp] theorem fMul_int (i j : Int) : fMul (.int i) (.int j) M = if cMul i j then .ok (.int (i * j)) M else .stuck := Eq.trans rfl rfl
@[simp] theorem fMul_tup (xs : List D) (k : Int) : fMul (.tup xs) (.int k) M = if xs.length ≠ 0 ∧ xs.length ≤ 1000 ∧ -1000 ≤ k ∧ k ≤ 1000 then .ok (.tup (repD k.toNat xs)) M else .stuck := Eq.trans rfl rfl
@[simp] theorem fMul_lst (xs : List D) (k : Int) : fMul (.lst xs) (.int k) M = if xs.length ≤ 1000 ∧ -1000 ≤ k ∧ k ≤ 1000 then .ok (.lst (repD k.toNat xs)) M else .stuck := Eq.trans rfl rfl
@[simp] theorem fIMul_int (i j : Int) : fIMul (.int i) (.int j) M = if cMul i j then .ok (.int (i * j)) M else .stuck := Eq.trans rfl rfl
@[simp] theorem fFdiv_int (i j : Int) : fFdiv (.int i) (.int j) M = if cDiv i j then .ok (.int (i / j)) M else .stuck := Eq.trans rfl rfl
@[simp] theorem fIFdiv_int (i j : Int) : fIFdiv (.int i) (.int j) M = if cDivS i j then .ok (.int (i / j)) M else .stuck := Eq.trans rfl rfl
@[simp] theorem fMod_int (i j : Int) : fMod (.int i) (.int j) M = if 0 < j then .ok (.int (i % j)) M else .stuck := by
  show (if decide (0 < j) = true then _ else _) = _
  by_cases h : 0 < j <;> simp [h]
@[simp] theorem fPow_int (i j : Int) : fPow (.int i) (.int j) M = if cPow i j then .ok (.int (i ^ j.toNat)) M else .stuck := Eq.trans rfl rfl
@[simp] theorem fNeg_int (i : Int) : fNeg (.int i) M = .ok (.int (-i)) M := rfl
@[simp] theorem fNot_bl (b : Bool) : fNot (.bl b) M = .ok (.bl (!b)) M := rfl
@[simp] theorem fLt_int (i j : Int) : fLt (.int i) (.int j) M = .ok (.bl (decide (i < j))) M := rfl
@[simp] theorem fLe_int (i j : Int) : fLe (.int i) (.int j) M = .ok (.bl (decide (i ≤ j))) M := rfl
@[simp] theorem fGt_int (i j : Int) : fGt (.int i) (.int j) M = .ok (.bl (decide (j < i))) M := rfl
@[simp] theorem fGe_int (i j : Int) : fGe (.int i) (.int j) M = .ok (.bl (decide (j ≤ i))) M := rfl
@[simp] theorem fLt_bs (a b : List Int) : fLt (bs a) (bs b) M = .ok (.bl (HT.lexLt a b)) M := by simp [fLt, fOrd, bs]
@[simp] theorem fLe_bs (a b : List Int) : fLe (bs a) (bs b) M = .ok (.bl (!HT.lexLt b a)) M := by simp [fLe, fOrd, bs]
@[simp] theorem fGt_bs (a b : List Int) : fGt (bs a) (bs b) M = .ok (.bl (HT.lexLt b a)) M := by simp [fGt, fOrd, bs]
@[simp] theorem fGe_bs (a b : List Int) : fGe (bs a) (bs b) M = .ok (.bl (!HT.lexLt a b)) M := by simp [fGe, fOrd, bs]
@[simp] theorem fIs_non (x : D) : fIs x .non M = .ok (.bl (isNon x)) M := by cases x <;> rfl
@[simp] theorem fIsNot_non (x : D) : fIsNot x .non M = .ok (.bl (!isNon x)) M := by cases x <;> rfl
@[simp] theorem fIs_bl (a b : Bool) : fIs (.bl a) (.bl b) M = .ok (.bl (decide (a = b))) M := rfl
@[simp] theorem fIsNot_bl (a b : Bool) : fIsNot (.bl a) (.bl b) M = .ok (.bl (!decide (a = b))) M := rfl
@[simp] theorem fIsi_int_int (i : Int) : fIsi "int" (.int i) M = .ok (.bl true) M := by simp [fIsi, isi, kb1]
@[simp] theorem fIsi_int_bl (i : Bool) : fIsi "int" (.bl i) M = .ok (.bl true) M := by simp [fIsi, isi, kb2]
@[simp] theorem fIsi_int_non : fIsi "int" .non M = .ok (.bl false) M := by simp [fIsi, isi, kb3]
@[simp] theorem fIsi_int_str (i : Str) : fIsi "int" (.str i) M = .ok (.bl false) M := by simp [fIsi, isi, kb4]
@[simp] theorem fIsi_int_tup (i : List D) : fIsi "int" (.tup i) M = .ok (.bl false) M := by simp [fIsi, isi, kb5]
@[simp] theorem fIsi_int_lst (i : List D) : fIsi "int" (.lst i) M = .ok (.bl false) M := by simp [fIsi, isi, kb6]
@[simp] theorem fIsi_bool_int (i : Int) : fIsi "bool" (.int i) M = .ok (.bl false) M := by simp [fIsi, isi, kb7]
@[simp] theorem fIsi_bool_bl (i : Bool) : fIsi "bool" (.bl i) M = .ok (.bl true) M := by simp [fIsi, isi, kb8]
@[simp] theorem fIsi_bool_non : fIsi "bool" .non M = .ok (.bl false) M := by simp [fIsi, isi, kb9]
@[simp] theorem fIsi_bool_str (i : Str) : fIsi "bool" (.str i) M = .ok (.bl false) M := by simp [fIsi, isi, kb10]
@[simp] theorem fIsi_bool_tup (i : List D) : fIsi "bool" (.tup i) M = .ok (.bl false) M := by simp [fIsi, isi, kb11]
@[simp] theorem fIsi_bool_lst (i : List D) : fIsi "bool" (.lst i) M = .ok (.bl false) M := by simp [fIsi, isi, kb12]
@[simp] theorem fIsi_tup_int (i : Int) : fIsi "tuple" (.int i) M = .ok (.bl false) M := by simp [fIsi, isi, kb13]
@[simp] theorem fIsi_tup_bl (i : Bool) : fIsi "tuple" (.bl i) M = .ok (.bl false) M := by simp [fIsi, isi, kb14]
@[simp] theorem fIsi_tup_non : fIsi "tuple" .non M = .ok (.bl false) M := by simp [fIsi, isi, kb15]
@[simp] theorem fIsi_tup_str (i : Str) : fIsi "tuple" (.str i) M = .ok (.bl false) M := by simp [fIsi, isi, kb16]
@[simp] theorem fIsi_tup_tup (i : List D) : fIsi "tuple" (.tup i) M = .ok (.bl true) M := by simp [fIsi, isi, kb17]
@[simp] theorem fIsi_tup_lst (i : List D) : fIsi "tuple" (.lst i) M = .ok (.bl false) M := by simp [fIsi, isi, kb18]
@[simp] theorem fIsi_str_int (i : Int) : fIsi "str" (.int i) M = .ok (.bl false) M := by simp [fIsi, isi, kb19]
@[simp] theorem fIsi_str_bl (i : Bool) : fIsi "str" (.bl i) M = .ok (.bl false) M := by simp [fIsi, isi, kb20]
@[simp] theorem fIsi_str_non : fIsi "str" .non M = .ok (.bl false) M := by simp [fIsi, isi, kb21]
@[simp] theorem fIsi_str_str (i : Str) : fIsi "str" (.str i) M = .ok (.bl true) M := by simp [fIsi, isi, kb22]
@[simp] theorem fIsi_str_tup (i : List D) : fIsi "str" (.tup i) M = .ok (.bl false) M := by simp [fIsi, isi, kb23]
@[simp] theorem fIsi_str_lst (i : List D) : fIsi "str" (.lst i) M = .ok (.bl false) M := by simp [fIsi, isi, kb24]
@[simp] theorem fIsi_lst_int (i : Int) : fIsi "list" (.int i) M = .ok (.bl false) M := by simp [fIsi, isi, kb25]
@[simp] theorem fIsi_lst_bl (i : Bool) : fIsi "list" (.bl i) M = .ok (.bl false) M := by simp [fIsi, isi, kb26]
@[simp] theorem fIsi_lst_non : fIsi "list" .non M = .ok (.bl false) M := by simp [fIsi, isi, kb27]
@[simp] theorem fIsi_lst_str (i : Str) : fIsi "list" (.str i) M = .ok (.bl false) M := by simp [fIsi, isi, kb28]
@[simp] theorem fIsi_lst_tup (i : List D) : fIsi "list" (.tup i) M = .ok (.bl false) M := by simp [fIsi, isi, kb29]
@[simp] theorem fIsi_lst_lst (i : List D) : fIsi "list" (.lst i) M = .ok (.bl true) M := by simp [fIsi, isi, kb30]
@[simp] theorem fLen_tup (xs : List D) : fLen [.tup xs] M = .ok (.int xs.length) M := rfl
@[simp] theorem fLen_lst (xs : List D) : fLen [.lst xs] M = .ok (.int xs.length) M := rfl
@[simp] theorem fIx_tup (xs : List D) (i : Int) : fIx (.tup xs) (.int i) M = match atI xs i with
  | some d => .ok d M
  | none => .stuck := rfl
@[simp] theorem fIx_lst (xs : List D) (i : Int) : fIx (.lst xs) (.int i) M = match atI xs i with
  | some d => .ok d M
  | none => .stuck := rfl
@[simp] theorem fSl_tup (xs : List D) (lo hi : Option Int) : fSl (.tup xs) lo hi M = .ok (.tup (cutD xs lo hi)) M := rfl
@[simp] theorem fSl_lst (xs : List D) (lo hi : Option Int) : fSl (.lst xs) lo hi M = .ok (.lst (cutD xs lo hi)) M := rfl
@[simp] theorem fTuple_lst (xs : List D) : fTuple [.lst xs] M = .ok (.tup xs) M := rfl
@[simp] theorem fTuple_tup (xs : List D) : fTuple [.tup xs] M = .ok (.tup xs) M := rfl
@[simp] theorem fList_lst (xs : List D) : fList [.lst xs] M = .ok (.lst xs) M := rfl
@[simp] theorem fList_tup (xs : List D) : fList [.tup xs] M = .ok (.lst xs) M := rfl
@[simp] theorem fAll_bls (xs : List Bool) : fAll [.lst (xs.map .bl)] M = .ok (.bl (xs.all id)) M := by simp [fAll]
@[simp] theorem fSum_ints (xs : List Int) : fSum [.lst (xs.map .int)] M = .ok (.int xs.sum) M := by simp [fSum]
@[simp] theorem fAbs_int (i : Int) : fAbs [.int i] M = .ok (.int (if i < 0 then -i else i)) M := rfl
@[simp] theorem fLst'_eq (xs : List D) : fLst' xs M = .ok (.lst xs) M := rfl
@[simp] theorem fTup_eq (xs : List D) : fTup xs M = if xs.length ≤ big then .ok (.tup xs) M else .stuck := Eq.trans rfl rfl
@[simp] theorem fLst_eq (xs : List D) : fLst xs M = if xs.length ≤ big then .ok (.lst xs) M else .stuck := Eq.trans rfl rfl
@[simp] theorem fMax_int (i j : Int) : fMax [.int i, .int j] M = .ok (.int (maxI i j)) M := rfl
@[simp] theorem fMin_int (i j : Int) : fMin [.int i, .int j] M = .ok (.int (minI i j)) M := rfl
end
@[simp] theorem one_le_big : 1 ≤ big := by decide
@[simp] theorem two_le_big : 2 ≤ big := by decide
@[simp] theorem three_le_big : 3 ≤ big := by decide
@[simp] theorem zero_le_big : 0 ≤ big := by decide
@[simp] theorem isNon_non : isNon .non = true := rfl
@[simp] theorem isNon_int (i : Int) : isNon (.int i) = false := rfl
@[simp] theorem isNon_bs (i : List Int) : isNon (bs i) = false := rfl
@[simp] theorem isNon_tup (i : List D) : isNon (.tup i) = false := rfl
end KB
namespace KB
open PySem PySem.Spec PyProof.Rows L2
/-! ### calls without arguments -/
section
variable {X : Cx} {W : WX}
theorem pe_callS0 {CX : CXT} {k : Nat} {f : Addr} {fd : FuncData} {ps : List Str} {sp : Sp} {E : L2.St → XK} {x : Str} {p pos : Pos} (F : FnOk X.prog X.w X.K X.mg X.base CX k f fd ps sp) (hr : Room k X.A) (hg : Gl X x) (hm : X.mg x = some (.ref f)) (hk : PySem.W.keepIn X.K (.ref f) = true) (hb : Binds X.K fd ps []) (hx : ∀ σ, PassesAt CX X σ (E σ))
    (hdb : (x == ("__debug__" : Str)) = false := by decide) : PE X (.Call (.Name x p) [] [] pos) (tCallS sp E tNil) := by
  refine ⟨fun pins s σ H Q I h => ?_⟩
  refine wpAny_Call_Name_kw (ld_glob I hg hm ?_ hdb)
  exact PySem.W.callWith_K0 I.kIn hk (run_fnS (us := []) F hr hb (hx σ) I .nil h)
theorem ho_nil : HoA X W tNil eNil := fun F e M σ L G H Q o re h => aok h o _ .nil
theorem pd_call0 {x : Str} {k k' : Nat} {m : List D → List MO → R D} {p pos : Pos} (h : Has X.prog X.w (kx X) X.base x k m) (hr : Room k' X.A) (tk : Takes X W) (hk' : k ≤ k' := by decide) (hg : Gl X x := by rfl)
    (hdb : (x == ("__debug__" : Str)) = false := by decide) : PD X W (.Call (.Name x p) [] [] pos) (eArgs m eNil) := by
  obtain ⟨f, fd, ps, F, hm, hk, hb⟩ := h.ex
  exact ⟨_, pe_callS0 F (hr.mono hk') hg hm hk hb (fun σ => passAt tk σ) hdb, hoCall ho_nil⟩
end
end KB
namespace KB
open PySem PySem.Spec PyProof.Rows L2
/-! ### try: body, except x as n: m = n -/
section
variable {X : Cx} {pins : List (Addr × Obj)} {σ : L2.St} {H : Hp} {sI : Shared}
/-- the exception that has landed is tracked from now on -/
theorem track {B : Heap} {a : Addr} {cls : Value} {t : Shared} (I : Inv X pins σ H sI) (ground : ∀ b o, sI.heap.get? b = some o → b ∉ frs X.stack → B.get? b = some o)
    (fl : HandSPX.FlyingZ B X.stack a (Zc cls none) t.heap) (up : sI.heap.UpToSlots t.heap) (na : H a = none) (nf : a ∉ frs X.stack) (ho : t.os = sI.os) (hg : AllBare t.gens) : Inv X pins σ (upd H a (CxO cls a)) t := by
  have away : sI.heap.get? a = none := by
    cases q : sI.heap.get? a with
    | none => rfl
    | some o => have z := ground a o q nf; rw [fl.2.1] at z; cases z
  have ne : ∀ {b : Addr} {o : Obj}, sI.heap.get? b = some o → b ≠ a := fun {b o} q z => by rw [z, away] at q; cases q
  have flat := I.landed ground fl.1 up ho hg
  obtain ⟨ob, fv, g1, g2, g3⟩ := fl.there
  have fr : ∀ b ∈ frs X.stack, ∀ o, sI.heap.get? b = some o → ∃ sl, t.heap.get? b = some { o with slots := sl } := fun b hb o q => by
    obtain ⟨_, o', q', hd⟩ := I.stack.mem hb
    rw [q] at q'
    cases q'
    exact up b o q hd
  have hne : ∀ {b : Addr} {o : HO}, H b = some o → b ≠ a := fun {b o} q z => by rw [z, na] at q; cases q
  refine I.call' (ch := []) ho ⟨fun b o q _ hb _ => fl.1 b o (ground b o q hb), fun b o q _ hb _ => fr b hb o q, fun b o q n _ => by rw [upd_ne (ne q)]; exact n, fun b o q _ => ?_, fun b xs q => by rw [upd_ne (hne q)]; exact q, fun b o u q => by rw [upd_ne (hne q)]; exact q, fun b ps q => ⟨#[], by rw [upd_ne (hne q), q]; simp⟩⟩
    (flat.hok.laidN (fun _ _ z => z) na ⟨⟨ob, fv, g1, g3, g2⟩, ⟨ob, g1⟩, fun h1 h2 ⟨o, v, q, r⟩ k => ⟨o, v, k o q, r⟩⟩) hg (fun _ z => nomatch z)
  by_cases hb : b ∈ frs X.stack
  · obtain ⟨sl, z⟩ := fr b hb o q
    exact ⟨_, z⟩
  · exact ⟨o, fl.1 b o (ground b o q hb)⟩
theorem toSuite (I : Inv X pins σ H sI) (a : Addr) : Inv (X.suite a (X.pn ++ pins)) [] σ H sI :=
  ⟨I.ok.suite a _, I.os, I.bare, I.base, I.loc, I.cell, I.free, I.freeC, fun p hp => I.pin p ((List.append_nil _).subst (motive := fun z => p ∈ z) hp), I.hok, I.len⟩
theorem ofSuite {a : Addr} {pn' : List (Addr × Obj)} (I : Inv (X.suite a (X.pn ++ pins)) pn' σ H sI) (ok : X.Ok) : Inv X pins σ H sI :=
  ⟨ok, I.os, I.bare, I.base, I.loc, I.cell, I.free, I.freeC, fun p hp => I.pin p (List.mem_append_left pn' hp), I.hok, I.len⟩
end
/-- what the clause wishes: the exception is of the named class, has no dict, and is held by slot j behind -/
def wKeep (K : PySem.W.Frag) (c : Value) (i j : Nat) (Dn : Ends) : WX := fun cls d σ H =>
  PySem.W.exmOne K cls c = some true ∧ d = none ∧ ∀ a, H a = none → Dn.nx (((σ.set i (some (.ref a))).set j (some (.ref a))).set i none) (upd H a (CxO cls a))
section
variable {X : Cx} {x n m : Str} {c : Value} {i j : Nat} {body : List Stmt} {np mp vp ap pos pos' : Pos} {tb : WX → TS}
theorem ps_keep (hs : X.stack = X.env :: X.outer) (hf : X.env.frame = some X.env.locals) (hN : X.N.Nodup) (hi : X.N[i]? = some n) (hj : X.N[j]? = some m) (hln : X.env.kindOf n = some .local) (hlm : X.env.kindOf m = some .local) (hc : Names X x c)
    (hdn : (n == ("__debug__" : Str)) = false) (hcn : (n == ("__classdict__" : Str)) = false) (hsw : ∀ (A : Around), swapsWith (.Name n vp) (some (.Name m mp)) ap.line X.env = pure false) (hfm : X.env.scope.names.lookup m = some .local)
    (hb : ∀ (W : WX) (pn : List (Addr × Obj)) (xe : Value → Shared → Prop), Takes (X.tr pn xe) W → PassesOwn (model X.prog X.w) X.A X.env xe → PSs (X.tr pn xe) body (tb W)) :
    PS X (.Try body [.ExceptHandler (some (.Name x np)) (some n) [.Assign [.Name m mp] (.Name n vp) ap] pos'] [] [] pos) (fun Dn σ H => tb (wKeep X.K c i j Dn) Dn σ H) := by
  refine ⟨fun pins s σ H Dn I h => ?_⟩
  have good := I.ok
  have frm : X.A.frames = some (X.env :: X.outer) := by rw [good.frames, hs]
  refine wpAny_Try_except ?_
  refine wpAny_mono ((hb (wKeep X.K c i j Dn) (X.pn ++ pins) (fun u t1 => wpAny (model X.prog X.w) X.A (noteFrame u X.env) (fun _ t2 => wpAny (model X.prog X.w) X.A (setFlight u none)
    (fun _ t3 => wpAny (model X.prog X.w) X.A (handleBy u X.env [.ExceptHandler (some (.Name x np)) (some n) [.Assign [.Name m mp] (.Name n vp) ap] pos']) (SP X pins Dn) X.xe t3) X.xe t2) X.xe t1) (fun u t air => ?_) PassesOwn.looking).run [] s σ H Dn (I.toTry _) h) (fun fl t1 out => ?_) (fun _ _ z => z)
  · obtain ⟨a, B, sG, pins', σG, HG, cls, d, rfl, JG, ground, up, sky, na, os, bare, yes, rfl, wish⟩ := air
    have J : Inv X pins σG HG sG := JG.ofTry good
    have sky2 : Sky B (X.env :: X.outer) a (Zc cls none) X.env.locals t.heap := by rw [← hs]; exact sky
    show wpAny (model X.prog X.w) X.A (noteFrame (.ref a) X.env) _ _ _
    refine Sky.land Zc.steady frm hf sky2 fun hA flA upA => ?_
    obtain ⟨obA, fvA, gA, zA, dA⟩ := flA.there
    have nfA : a ∉ frs (X.env :: X.outer) := fun hm => by
      obtain ⟨_, o', q', hnf⟩ := flA.2.2.1.mem hm
      rw [gA] at q'
      cases q'
      exact hnf _ dA
    have nf : a ∉ frs X.stack := by rw [hs]; exact nfA
    have KA : Inv X pins σG (upd HG a (CxO cls a)) { t with heap := hA } := track J ground (by rw [hs]; exact flA) (up.trans upA) na nf os bare
    have SA := toSuite KA a
    refine wpAny_handleBy_cons (codeAny_handlers_test ?_) (by intro q; cases q)
    have type : PySem.W.Looks (model X.prog X.w) hA (typeOf (.ref a)) cls := fun A Q E s k q => wpAny_typeOf_ref (k _ _ gA) (by rw [zA.1]; exact q)
    have match' := PySem.W.exm_one (M := model X.prog X.w) (KA.kIn) type yes
    have named : ∀ {Q : Value → Shared → Prop} {E : Value → Shared → Prop}, Q c { t with heap := hA } → wpAny (model X.prog X.w) (X.A.mark (some (.ref a))) (eval (.Name x np) X.env) Q E { t with heap := hA } := fun {Q E} q => by
      obtain ⟨hg, hdbg, hm | ⟨hm, hv, hnn⟩⟩ := hc
      · exact ld_glob (X := X.suite a (X.pn ++ pins)) SA hg hm q hdbg
      · exact ld_blt (X := X.suite a (X.pn ++ pins)) SA hg hm hv q hnn hdbg
    refine named (match'.here ?_)
    refine codeAny_handlers_suite_as ?_
    refine HandSPX.lands_againZ flA fun hB flB upB => ?_
    have KB' : Inv X pins σG (upd HG a (CxO cls a)) { t with heap := hB } := track J ground (by rw [hs]; exact flB) ((up.trans upA).trans upB) na nf os bare
    have SB := toSuite KB' a
    refine store_ok (X := X.suite a (X.pn ++ pins)) (v := .ref a) SB hN hi (.inl hln) rfl (fun t5 S5 => ?_) (.inr hln)
    have asg : PS (X.suite a (X.pn ++ pins)) (.Assign [.Name m mp] (.Name n vp) ap) (tAsg (tVar i) (gName j)) := ps_set (X := X.suite a (X.pn ++ pins)) hN hj (.inl hlm) (pe_var (X := X.suite a (X.pn ++ pins)) hi (.inl hln) hdn hcn) (hsw X.A) (.inr hfm)
    have one := pss_one (X := X.suite a (X.pn ++ pins)) asg
    have hlen : i < σG.length := by rw [J.len]; exact (List.getElem?_eq_some_iff.mp hi).1
    refine wpAny_mono (one.run [] t5 _ _ { nx := fun σ' H' => σ' = (σG.set i (some (.ref a))).set j (some (.ref a)) ∧ H' = upd HG a (CxO cls a), rt := fun _ _ => False, bk := fun _ _ => False, ct := fun _ _ => False } S5 ?_) (fun f t6 out => ?_) (fun _ _ z => False.elim z)
    · exact ⟨.ref a, List.getElem?_set_self hlen, rfl, rfl⟩
    · cases f with
      | next =>
        obtain ⟨σ6, H6, S6, e6, e6'⟩ := out
        subst e6 e6'
        exact gone_ok (ofSuite S6 good) hN hi hln fun t7 J7 => ⟨_, _, J7, wish a na⟩
      | brk => obtain ⟨_, _, _, z⟩ := out; exact z.elim
      | cont => obtain ⟨_, _, _, z⟩ := out; exact z.elim
      | ret u => obtain ⟨_, _, _, _, _, z⟩ := out; exact z.elim
  · cases fl with
    | next => obtain ⟨σ', H', J', q⟩ := out; exact wpAny_execs_nil ⟨σ', H', J'.ofTry good, q⟩
    | brk => obtain ⟨σ', H', J', q⟩ := out; exact ⟨σ', H', J'.ofTry good, q⟩
    | cont => obtain ⟨σ', H', J', q⟩ := out; exact ⟨σ', H', J'.ofTry good, q⟩
    | ret u => obtain ⟨v, σ', H', J', r, q⟩ := out; exact ⟨v, σ', H', J'.ofTry good, r, q⟩
end
/-- the classes cs are all caught by except x -/
structure Exm (C : Kx) (x : Str) (cs : List Str) : Prop where
  ex : ∃ cv, C.mg x = some cv ∧ ∀ c u, c ∈ cs → C.mg c = some u → PySem.W.exmOne C.K u cv = some true
def sTry (cs : List Str) (i j : Nat) (sv : SV) : SV := fun e M => match sv e M with
  | .exc c e' M' => if c ∈ cs then .nx (((e'.set i (some (.exc c))).set j (some (.exc c))).set i none) M' else .stuck
  | r => r
theorem RpE.setNone {C : Kx} {L : List Addr} {G : Hp} {σ : L2.St} {e : EN} (h : RpE C L G σ e) (i : Nat) : RpE C L G (σ.set i none) (e.set i none) := by
  refine ⟨by simp [h.len], fun k d q => ?_⟩
  by_cases hk : i = k
  · subst hk
    by_cases hi : i < e.length
    · rw [List.getElem?_set_self hi] at q; cases q
    · rw [List.getElem?_eq_none (by simp; omega)] at q; cases q
  · rw [List.getElem?_set_ne hk] at q ⊢
    exact h.at' k d q
section
variable {X : Cx} {W : WX} {x n m : Str} {i j : Nat} {body : List Stmt} {np mp vp ap pos pos' : Pos} {sv : SV} {cs : List Str}
def tsOf (X : Cx) (sv : SV) (W' : WX) : TS := fun Dn σ H => ∃ F e M L G, Ok (kx X) F L G M H ∧ RpE (kx X) L G σ e ∧ AftS X W' F L G Dn (sv e M)
theorem psd_try (hN : X.N.Nodup) (hx : Exm (kx X) x cs) (hb : ∀ (W' : WX) (pn : List (Addr × Obj)) (xe : Value → Shared → Prop), Takes (X.tr pn xe) W' → PSsD (X.tr pn xe) W' body sv)
    (hs : X.stack = X.env :: X.outer := by rfl) (hf : X.env.frame = some X.env.locals := by rfl) (hi : X.N[i]? = some n := by rfl) (hj : X.N[j]? = some m := by rfl) (hln : X.env.kindOf n = some .local := by rfl) (hlm : X.env.kindOf m = some .local := by rfl)
    (hg : Gl X x := by rfl) (hdx : (x == ("__debug__" : Str)) = false := by decide) (hdn : (n == ("__debug__" : Str)) = false := by decide) (hcn : (n == ("__classdict__" : Str)) = false := by decide) (hsw : swapsWith (.Name n vp) (some (.Name m mp)) ap.line X.env = pure false := by rfl) (hfm : X.env.scope.names.lookup m = some .local := by rfl) :
    PSD X W (.Try body [.ExceptHandler (some (.Name x np)) (some n) [.Assign [.Name m mp] (.Name n vp) ap] pos'] [] [] pos) (sTry cs i j sv) := by
  obtain ⟨cv, hm, hex⟩ := hx.ex
  refine ⟨_, ps_keep (tb := tsOf X sv) hs hf hN hi hj hln hlm ⟨hg, hdx, .inl hm⟩ hdn hcn (fun _ => hsw) hfm (fun W' pn xe tk _ => ⟨fun pins s σ H Dn I h => ?_⟩), fun F e M σ L G H Dn o re h => ?_⟩
  · obtain ⟨F, e, M, L, G, o, re, af⟩ := h
    obtain ⟨t, p, q⟩ := hb W' pn xe tk
    exact p.run pins s σ H Dn I (q F e M σ L G H Dn o re af)
  · refine ⟨F, e, M, L, G, o, re, ?_⟩
    unfold sTry at h
    cases hr : sv e M with
    | nx e' M' => rw [hr] at h; exact h
    | ret d M' => rw [hr] at h; exact h
    | brk e' M' => rw [hr] at h; exact h
    | cnt e' M' => rw [hr] at h; exact h
    | stuck => rw [hr] at h; exact h.elim
    | exc c e' M' =>
      rw [hr] at h
      simp only at h
      split at h
      · rename_i hc
        intro σ' L' G' H' u o' x' re' hu
        refine ⟨hex c u hc hu, rfl, fun a na => ?_⟩
        obtain ⟨o2, x2⟩ := o'.lay (u := CxO u a) na
        have r : Rp (kx X) L' (upd G' a (CxO u a)) (.ref a) (.exc c) := .exc hu upd_same
        exact h _ L' _ _ o2 (x'.trans x2) ((((re'.mono x2).set r).set r).setNone i)
      · exact h.elim
end
/-! ### isinstance of a caught exception -/
def xcls : List Str := ["BadBytes", "BadScheme", "BadRow", "BadIndex", "BadText", "NotFound"]
def fIsX (T : Str) (x : D) (M : List MO) : R D := match x with
  | .exc c => if c ∈ xcls then (if T = "KeyBytesError" ∨ T = "ValueError" then .ok (.bl true) M else if T ∈ xcls then .ok (.bl (decide (c = T))) M else .stuck) else .stuck
  | _ => .stuck
/-- what the classes say of their instances -/
structure XIs (C : Kx) (T : Str) (tv : V) : Prop where
  is : ∀ c ∈ xcls, ∃ A, C.mg c = some (.ref A) ∧ ExcC C.K A ∧ ∃ cv b, (∀ u, RelV tv u → u = cv) ∧ PySem.W.kitOne C.K (.ref A) cv = some b ∧ (T = "KeyBytesError" ∨ T = "ValueError" → b = true) ∧ (T ∈ xcls → b = decide (c = T))
def rIsX (K : PySem.W.Frag) : List V → Hp → VK → Prop := fun xs H Q => ∃ (a A : Addr) (tv : V) (cv : Value) (b : Bool), xs = [.ref a, tv] ∧ H a = some (CxO (.ref A) a) ∧ ExcC K A ∧ (∀ u, RelV tv u → u = cv) ∧ PySem.W.kitOne K (.ref A) cv = some b ∧ Q (.bl b) H
theorem call_isX {X : Cx} : CallR X (.builtin "isinstance") (rIsX X.K) := by
  intro pins s σ H xs us Q I r h
  obtain ⟨a, A, tv, cv, b, rfl, hH, Ec, hcv, hk, q⟩ := h
  cases r with
  | cons rx rr =>
    cases rr with
    | cons rt rn =>
      cases rn
      cases rx
      have same := hcv _ rt
      subst same
      obtain ⟨⟨ob, fv, g1, g2, g3⟩, _, _⟩ := I.hok a _ hH
      have at' : PySem.W.InstAt s.heap a ob A none := by
        obtain ⟨oc, od, oda, osl⟩ := ob
        obtain ⟨k1, k2⟩ := g3
        dsimp only at k1 k2 g2
        subst k1 k2 g2
        exact ⟨g1, rfl, rfl, trivial⟩
      exact PySem.W.kia_one (PySem.W.handS_kitx_exc Ec.hg Ec.hk Ec.hs Ec.hd Ec.ha Ec.hn Ec.ht Ec.hm) I.kIn at' hk (fun z => nomatch z) fun tk => ⟨.bl b, H, I.kept (t' := tk) fun _ _ z => z, rfl, q⟩
section
variable {X : Cx} {W : WX}
theorem hoIsX {T : Str} {tv : V} {t : TE} {ea : EV} (hx : XIs (kx X) T tv) (q : HoE X W t ea) : HoE X W (fun σ H Q => tCons t (tCons (tC tv) tNil) σ H fun vs H1 => rIsX X.K vs H1 Q) (eUn (fIsX T) ea) := by
  intro F e M σ L G H Q o re h
  refine q F e M σ L G H _ o re ((Aft.bind h).imp fun d M1 L1 G1 H1 o1 x1 h1 v r => ?_)
  unfold fIsX at h1
  split at h1
  · rename_i c
    split at h1
    · rename_i hc
      obtain ⟨A, hm, Ec, cv, b, hcv, hk, b1, b2⟩ := hx.is c hc
      cases r with
      | exc hu hG =>
        rw [show (kx X).mg c = some (Value.ref A) from hm] at hu
        cases hu
        refine ⟨_, A, tv, cv, b, rfl, o1.sub _ _ hG, Ec, hcv, hk, ?_⟩
        split at h1
        · rename_i hT
          rw [b1 hT]
          exact aok h1 o1 _ (.bl true)
        · split at h1
          · rename_i hT
            rw [b2 hT]
            exact aok h1 o1 _ (.bl _)
          · exact h1.elim
    · exact h1.elim
  · exact h1.elim
theorem pd_isX {a : Expr} {T : Str} {CT : Addr} {p p2 pos : Pos} {ea : EV} (hm : X.mg "isinstance" = none) (hT : X.mg T = some (.ref CT)) (hx : XIs (kx X) T (.ref CT)) (ha : PD X W a ea) (hg : Gl X "isinstance" := by rfl) (hg2 : Gl X T := by rfl) (hdb : (T == ("__debug__" : Str)) = false := by decide)
    (hs : starEach [a, .Name T p2] X.env = (false, eval a X.env) :: starEach [.Name T p2] X.env := by rfl) (hs2 : starEach [.Name T p2] X.env = (false, eval (.Name T p2) X.env) :: starEach [] X.env := by rfl) (hpl : (backTo pos (starEach [.Name T p2] X.env)).any (·.1) = false := by rfl) :
    PD X W (.Call (.Name "isinstance" p) [a, .Name T p2] [] pos) (eUn (fIsX T) ea) := by
  obtain ⟨t, pa, q⟩ := ha
  exact ⟨_, pe_callB call_isX hg hm (by decide +kernel) (pa_cons pa (pa_cons (pe_glob (v := .ref CT) hg2 hT rfl hdb) pa_nil hs2) hs) (by decide) (by decide) hs hpl, hoIsX hx q⟩
theorem pd_isXb {a : Expr} {T : Str} {TN : String} {p p2 pos : Pos} {ea : EV} (hm : X.mg "isinstance" = none) (hT : X.mg T = none) (hb : bootBuiltins T = some (.type TN)) (hx : XIs (kx X) T (.ty TN)) (ha : PD X W a ea) (hg : Gl X "isinstance" := by rfl) (hg2 : Gl X T := by rfl) (hn : T ≠ "__name__" := by decide) (hdb : (T == ("__debug__" : Str)) = false := by decide)
    (hs : starEach [a, .Name T p2] X.env = (false, eval a X.env) :: starEach [.Name T p2] X.env := by rfl) (hs2 : starEach [.Name T p2] X.env = (false, eval (.Name T p2) X.env) :: starEach [] X.env := by rfl) (hpl : (backTo pos (starEach [.Name T p2] X.env)).any (·.1) = false := by rfl) :
    PD X W (.Call (.Name "isinstance" p) [a, .Name T p2] [] pos) (eUn (fIsX T) ea) := by
  obtain ⟨t, pa, q⟩ := ha
  exact ⟨_, pe_callB call_isX hg hm (by decide +kernel) (pa_cons pa (pa_cons (pe_bltn (v := .ty TN) hg2 hT hb rfl hn hdb) pa_nil hs2) hs) (by decide) (by decide) hs hpl, hoIsX hx q⟩
/-! ### list.count, list.index of booleans -/
def rCntF (K : PySem.W.Frag) : V → List V → Hp → VK → Prop := fun x xs H Q => ∃ (a : Addr) (ys : List V) (y : V), x = .ref a ∧ xs = [y] ∧ SqL K H a ys ∧ flatV y = true ∧ ys.all flatV = true ∧ Q (.int (ys.countP fun z => eqV z y : Nat)) H
theorem count_eq {y : V} : ∀ {ys : List V} {us : List Value}, Vals ys us → ys.all flatV = true → us.countP (eqU y) = ys.countP fun z => eqV z y
  | _, _, .nil, _ => rfl
  | _, _, .cons r t, f => by
    rw [List.all_cons, Bool.and_eq_true] at f
    rw [List.countP_cons, List.countP_cons, count_eq t f.2, eqU_of r f.1]
theorem mt_countF : MtR X "list.count" (rCntF X.K) := by
  intro pins s σ H x xs v us Q I rx rxs h
  obtain ⟨a, ys, y, rfl, rfl, hsq, fy, fys, q⟩ := h
  cases rx
  cases rxs with
  | cons ry rt =>
    rename_i uy ut
    cases rt
    obtain ⟨its, rv, ⟨⟨cls, dd, data, sl⟩, n, ho, hc, hdn, hd⟩, hlen⟩ := I.list hsq
    simp only at hc hd
    subst hc hd
    refine call_meets PySem.F.slot_list_count ⟨_, ho, rfl⟩ PySem.F.entry_list_count (PySem.F.args_list_count_2 _ _) (SeqAt.list_countAt a its.toArray n dd sl uy (eqU y)) ⟨ho, fun w hw => mem_eqAt ry fy rv fys w (by simpa using hw), ?_⟩
    have ec : its.toArray.toList.countP (eqU y) = ys.countP fun z => eqV z y := by simpa using count_eq rv fys
    rw [ec]
    exact ⟨.int (ys.countP fun z => eqV z y : Nat), H, I.tok _, ⟨s.toks, rfl⟩, q⟩
def fCount (o : D) (xs : List D) (M : List MO) : R D := match res M o, xs with
  | .lst ds, [.bl b] => match bls? ds with
    | some ns => .ok (.int (ns.count b : Nat)) M
    | none => .stuck
  | _, _ => .stuck
theorem bl_flat (ns : List Bool) : (ns.map V.bl).all flatV = true := by
  rw [List.all_map, List.all_eq_true]; intro _ _; rfl
theorem bl_eq (x y : Bool) : eqV (.bl x) (.bl y) = (x == y) := by cases x <;> cases y <;> decide
theorem dCount : MtD X W (rCntF X.K) fCount := by
  intro x vs dx ds M F L G H σ Q o rx r h
  unfold fCount at h
  split at h
  · rename_i es b e1
    obtain ⟨a, ws, rfl, hq, hl⟩ := o.viewL rx e1
    split at h
    · rename_i ns hns
      have ew := bls_V hl hns
      subst ew
      obtain ⟨v, rfl, rv⟩ := one r
      cases rv
      refine ⟨a, ns.map V.bl, .bl b, rfl, rfl, .inl (.inl hq), rfl, bl_flat ns, ?_⟩
      have : ((ns.map V.bl).countP fun z => eqV z (.bl b)) = ns.count b := by
        rw [List.countP_map]
        simp [List.count, Function.comp_def, bl_eq]
      rw [this]
      exact aok h o _ (.int _)
    · exact h.elim
  · exact h.elim
def fIndex (o : D) (xs : List D) (M : List MO) : R D := match res M o, xs with
  | .lst ds, [.bl b] => match bls? ds with
    | some ns => if b ∈ ns then .ok (.int (ns.idxOf b : Nat)) M else .stuck
    | none => .stuck
  | _, _ => .stuck
theorem dIndex : MtD X W (rIndex X.K) fIndex := by
  intro x vs dx ds M F L G H σ Q o rx r h
  unfold fIndex at h
  split at h
  · rename_i es b e1
    obtain ⟨a, ws, rfl, hq, hl⟩ := o.viewL rx e1
    split at h
    · rename_i ns hns
      have ew := bls_V hl hns
      subst ew
      obtain ⟨v, rfl, rv⟩ := one r
      cases rv
      split at h
      · rename_i hb
        have hlt : ns.idxOf b < ns.length := List.idxOf_lt_length_iff.mpr hb
        refine ⟨a, ns.map V.bl, .bl b, ns.idxOf b, .bl b, rfl, rfl, .inl (.inl hq), rfl, bl_flat ns, ?_, by rw [bl_eq]; simp, ?_, aok h o _ (.int _)⟩
        · rw [List.getElem?_map, List.getElem?_eq_getElem hlt, List.getElem_idxOf hlt]; rfl
        · intro k z hk hz
          rw [List.getElem?_map] at hz
          obtain ⟨y, hy, rfl⟩ := Option.map_eq_some_iff.mp hz
          rw [bl_eq]
          have hkl : k < ns.length := by omega
          rw [List.getElem?_eq_getElem hkl] at hy
          cases hy
          have := List.not_of_lt_findIdx (show k < ns.findIdx (· == b) from hk)
          simpa using this
      · exact h.elim
    · exact h.elim
  · exact h.elim
theorem pd_count {o a : Expr} {apos cpos : Pos} {eo : EV} {ea : EA} (ho : PD X W o eo) (ha : PAD X W [a] ea)
    (hbase : attributeBase o "count" X.env (eval o X.env) = eval o X.env := by rfl)
    (hfew : ((backTo cpos (starEach [a] X.env)).all (fun x => !x.1) && (backToKw cpos (keywordEach [] X.env)).all (fun x => x.1.isSome)
      && decide ([a].length + ([] : List Keyword).length + (if ([] : List Keyword).isEmpty then 0 else 1) < 30)) = true := by rfl)
    (hline : (apos.endLine == cpos.line) = true := by rfl) (hs : starEach [a] X.env = (false, eval a X.env) :: starEach [] X.env := by rfl) : PD X W (.Call (.Attribute o "count" apos) [a] [] cpos) (eMeth ckL fCount eo ea) :=
  pd_meth PySem.F.plainAttrs_list PySem.F.slot_list_count PySem.F.type_list_count mt_countF ckL_ok dCount ho ha hbase hfew hline hs rfl
theorem pd_index {o a : Expr} {apos cpos : Pos} {eo : EV} {ea : EA} (ho : PD X W o eo) (ha : PAD X W [a] ea)
    (hbase : attributeBase o "index" X.env (eval o X.env) = eval o X.env := by rfl)
    (hfew : ((backTo cpos (starEach [a] X.env)).all (fun x => !x.1) && (backToKw cpos (keywordEach [] X.env)).all (fun x => x.1.isSome)
      && decide ([a].length + ([] : List Keyword).length + (if ([] : List Keyword).isEmpty then 0 else 1) < 30)) = true := by rfl)
    (hline : (apos.endLine == cpos.line) = true := by rfl) (hs : starEach [a] X.env = (false, eval a X.env) :: starEach [] X.env := by rfl) : PD X W (.Call (.Attribute o "index" apos) [a] [] cpos) (eMeth ckL fIndex eo ea) :=
  pd_meth PySem.F.plainAttrs_list PySem.F.slot_list_index PySem.F.type_list_index mt_index ckL_ok dIndex ho ha hbase hfew hline hs rfl
end
end KB
namespace KB
open PySem PySem.Spec PyProof.Rows L2
/-! ### what the classes say, out of what the top has left -/
theorem kit_ne {K : PySem.W.Frag} {A B : Addr} {b : Bool} (ne : A ≠ B) (hd : PySem.W.hasDictIn K B = true) (ht : PySem.W.typeIn K (.ref B) = some (.type "type")) (hb : PySem.W.subIn K (.ref A) (.ref B) = some b) : PySem.W.kitOne K (.ref A) (.ref B) = some b := by
  unfold PySem.W.kitOne
  rw [if_neg (by simpa using ne)]
  unfold PySem.W.kitCls
  obtain ⟨cd, hc, _⟩ := PySem.W.any_some hd
  have z : ((PySem.W.clsIn K B).isSome && PySem.W.typeIn K (.ref B) == some (.type "type")) = true := by rw [hc, ht]; rfl
  simp only [z, if_true]
  exact hb
theorem kit_eq {K : PySem.W.Frag} {A : Addr} : PySem.W.kitOne K (.ref A) (.ref A) = some true := by
  unfold PySem.W.kitOne
  rw [if_pos (by simp)]
theorem kit_ve {K : PySem.W.Frag} {A : Addr} (hb : PySem.W.subIn K (.ref A) (.type "ValueError") = some true) : PySem.W.kitOne K (.ref A) (.type "ValueError") = some true := by
  unfold PySem.W.kitOne
  rw [if_neg (by simp)]
  unfold PySem.W.kitCls
  have z : PySem.W.kitMeta "ValueError" = true := by decide +kernel
  simp only [z, if_true]
  exact hb
/-- the six classes and where they stand -/
structure XAll (C : Kx) (Kb : Addr) (as : List (Str × Addr)) : Prop where
  nm : as.map (·.1) = xcls
  mg : ∀ p ∈ as, C.mg p.1 = some (.ref p.2)
  ex : ∀ p ∈ as, ExcC C.K p.2
  ty : ∀ p ∈ as, PySem.W.typeIn C.K (.ref p.2) = some (.type "type")
  kb : C.mg "KeyBytesError" = some (.ref Kb)
  kd : PySem.W.hasDictIn C.K Kb = true
  kt : PySem.W.typeIn C.K (.ref Kb) = some (.type "type")
  ks : PySem.W.subIn C.K (.ref Kb) (.type "BaseException") = some true
  kn : ∀ p ∈ as, p.2 ≠ Kb
  sk : ∀ p ∈ as, PySem.W.subIn C.K (.ref p.2) (.ref Kb) = some true
  sv : ∀ p ∈ as, PySem.W.subIn C.K (.ref p.2) (.type "ValueError") = some true
  sn : ∀ p ∈ as, ∀ q ∈ as, p.1 ≠ q.1 → p.2 ≠ q.2 ∧ PySem.W.subIn C.K (.ref p.2) (.ref q.2) = some false
theorem XAll.find {C : Kx} {Kb : Addr} {as : List (Str × Addr)} (h : XAll C Kb as) {c : Str} (hc : c ∈ xcls) : ∃ A, (c, A) ∈ as := by
  rw [← h.nm] at hc
  obtain ⟨p, hp, rfl⟩ := List.mem_map.mp hc
  exact ⟨p.2, hp⟩
theorem XAll.exm {C : Kx} {Kb : Addr} {as : List (Str × Addr)} (h : XAll C Kb as) : Exm C "KeyBytesError" xcls := by
  refine ⟨.ref Kb, h.kb, fun c u hc hu => ?_⟩
  obtain ⟨A, hA⟩ := h.find hc
  have := h.mg _ hA
  rw [hu] at this
  cases this
  exact PySem.W.exm_ref h.ks h.kd h.kt (h.sk _ hA)
theorem XAll.base {C : Kx} {Kb : Addr} {as : List (Str × Addr)} (h : XAll C Kb as) : XIs C "KeyBytesError" (.ref Kb) := by
  refine ⟨fun c hc => ?_⟩
  obtain ⟨A, hA⟩ := h.find hc
  exact ⟨A, h.mg _ hA, h.ex _ hA, .ref Kb, true, fun u r => r, kit_ne (h.kn _ hA) h.kd h.kt (h.sk _ hA), fun _ => rfl, fun z => absurd z (by decide +kernel)⟩
theorem XAll.val {C : Kx} {Kb : Addr} {as : List (Str × Addr)} (h : XAll C Kb as) : XIs C "ValueError" (.ty "ValueError") := by
  refine ⟨fun c hc => ?_⟩
  obtain ⟨A, hA⟩ := h.find hc
  exact ⟨A, h.mg _ hA, h.ex _ hA, .type "ValueError", true, fun u r => r, kit_ve (h.sv _ hA), fun _ => rfl, fun z => absurd z (by decide +kernel)⟩
theorem XAll.own {C : Kx} {Kb : Addr} {as : List (Str × Addr)} (h : XAll C Kb as) {T : Str} {B : Addr} (hT : (T, B) ∈ as) (hx : T ∈ xcls) : XIs C T (.ref B) := by
  have h1 : T ≠ "KeyBytesError" := fun z => absurd (z ▸ hx) (by decide +kernel)
  have h2 : T ≠ "ValueError" := fun z => absurd (z ▸ hx) (by decide +kernel)
  refine ⟨fun c hc => ?_⟩
  obtain ⟨A, hA⟩ := h.find hc
  refine ⟨A, h.mg _ hA, h.ex _ hA, .ref B, decide (c = T), fun u r => r, ?_, fun z => (z.elim (fun z => absurd z h1) fun z => absurd z h2), fun _ => rfl⟩
  by_cases q : c = T
  · subst q
    have e1 := h.mg _ hA
    have e2 := h.mg _ hT
    simp only at e1 e2
    rw [e1] at e2
    cases e2
    rw [decide_eq_true rfl]
    exact kit_eq
  · obtain ⟨n1, n2⟩ := h.sn _ hA _ hT q
    rw [decide_eq_false q]
    exact kit_ne n1 (h.ex _ hT).hd (h.ty _ hT) n2
/-- code that is never reached: the evaluator is stuck there -/
def eStk : EV := fun _ _ => .stuck
theorem pd_stk {X : Cx} {W : WX} {e : Expr} : PD X W e eStk := ⟨fun _ _ _ => False, ⟨fun _ _ _ _ _ _ h => h.elim⟩, fun _ _ _ _ _ _ _ _ _ _ h => h⟩
@[simp] theorem ev_stk (e : EN) (M : List MO) : eStk e M = .stuck := rfl
end KB
namespace KB
open PySem PySem.Spec PyProof.Rows L2
/-! ### objects that may change -/
section
variable {C : Kx} {F : Hp} {L : List Addr} {G H : Hp} {M : List MO} {a : Addr}
theorem Ok.setMO (o : Ok C F L G M H) {n : Nat} {u : HO} {mo : MO} (h : L[n]? = some a) (hm : MoOk C L G (upd H a u) a mo) : Ok C F L G (M.set n mo) (upd H a u) := by
  have ha : a ∈ L := List.mem_of_getElem? h
  refine ⟨fun b x q => by rw [upd_ne (fun z : b = a => (o.fo b x q).2 (z ▸ ha))]; exact o.fs b x q, o.fo, fun b x q => ?_, by simp [o.len], o.nd, o.out, fun m b x h1 h2 => ?_⟩
  · rw [upd_ne (ne_of_none q (o.out a ha))]; exact o.sub b x q
  · by_cases hmn : m = n
    · subst hmn
      rw [h] at h1
      cases h1
      rw [List.getElem?_set_self (by rw [← o.len]; exact (List.getElem?_eq_some_iff.mp h).1)] at h2
      cases h2
      exact hm
    · rw [List.getElem?_set_ne (fun z => hmn z.symm)] at h2
      refine (o.cells m b x h1 h2).mono (Ext.refl _ _) (upd_ne fun z => hmn ?_)
      subst z
      obtain ⟨i1, e1⟩ := List.getElem?_eq_some_iff.mp h1
      obtain ⟨i2, e2⟩ := List.getElem?_eq_some_iff.mp h
      exact (List.getElem_inj o.nd).mp (e1.trans e2.symm)
theorem Ok.newMO (o : Ok C F L G M H) {p : Addr} {u : HO} {mo : MO} (h : H p = none) (hm : MoOk C (L ++ [p]) G (upd H p u) p mo) :
    Ok C F (L ++ [p]) G (M ++ [mo]) (upd H p u) ∧ Ext L G (L ++ [p]) G ∧ Rp C (L ++ [p]) G (.ref p) (.cell M.length) := by
  obtain ⟨g, nl⟩ := o.fresh h
  have e : Ext L G (L ++ [p]) G := ⟨⟨[p], rfl⟩, Same.refl G⟩
  have nf := o.freshF h
  refine ⟨⟨fun b x q => by rw [upd_ne (ne_of_none q nf)]; exact o.fs b x q, fun b x q => ⟨(o.fo b x q).1, fun z => ?_⟩, fun b x q => ?_, by simp [o.len], ?_, fun b hb => ?_, fun n b x h1 h2 => ?_⟩, e, .cell ?_⟩
  · rcases List.mem_append.mp z with z | z
    · exact (o.fo b x q).2 z
    · simp at z; subst z; rw [nf] at q; cases q
  · rw [upd_ne (ne_of_none q g)]; exact o.sub b x q
  · exact List.nodup_append.mpr ⟨o.nd, by simp, fun b hb c hc => by simp at hc; subst hc; exact fun z => nl (z ▸ hb)⟩
  · rcases List.mem_append.mp hb with hb | hb
    · exact o.out b hb
    · simp at hb; subst hb; exact g
  · by_cases hn : n < L.length
    · rw [List.getElem?_append_left hn] at h1
      rw [List.getElem?_append_left (by rw [← o.len]; exact hn)] at h2
      have hb : b ∈ L := List.mem_of_getElem? h1
      exact (o.cells n b x h1 h2).mono e (upd_ne (fun z : b = p => nl (z ▸ hb)))
    · have hn1 : n = L.length := by
        have := (List.getElem?_eq_some_iff.mp h1).1
        simp at this; omega
      subst hn1
      rw [List.getElem?_append_right (Nat.le_refl _)] at h1
      rw [List.getElem?_append_right (by rw [o.len]; exact Nat.le_refl _)] at h2
      simp at h1
      simp [o.len] at h2
      subst h1 h2
      exact hm
  · rw [← o.len]; simp
theorem lookup_rp : ∀ {fs : List (Str × D)} {fv : List (Str × V)}, fv.map (·.1) = fs.map (·.1) → RpL C L G (fv.map (·.2)) (fs.map (·.2)) → ∀ f, (∀ d, fs.lookup f = some d → ∃ v, fv.lookup f = some v ∧ Rp C L G v d) ∧ (fs.lookup f = none → fv.lookup f = none)
  | [], [], _, _, f => ⟨(fun d h => by cases h), fun _ => rfl⟩
  | [], _ :: _, e, _, _ => by simp at e
  | _ :: _, [], e, _, _ => by simp at e
  | (k, d) :: fs, (k', v) :: fv, e, r, f => by
    simp only [List.map_cons, List.cons.injEq] at e
    obtain ⟨rfl, e⟩ := e
    cases r with
    | cons r1 r2 =>
      have ih := lookup_rp e r2 f
      rw [List.lookup_cons, List.lookup_cons]
      cases f == k' with
      | true => exact ⟨fun d' h => by cases h; exact ⟨v, rfl, r1⟩, fun h => by cases h⟩
      | false => exact ih
def putD (f : Str) (d : D) : List (Str × D) → List (Str × D)
  | [] => [(f, d)]
  | (g, x) :: r => if g = f then (g, d) :: r else (g, x) :: putD f d r
theorem put_rp {f : Str} {v : V} {d : D} (r : Rp C L G v d) : ∀ {fs : List (Str × D)} {fv : List (Str × V)}, fv.map (·.1) = fs.map (·.1) → RpL C L G (fv.map (·.2)) (fs.map (·.2)) → (putF f v fv).map (·.1) = (putD f d fs).map (·.1) ∧ RpL C L G ((putF f v fv).map (·.2)) ((putD f d fs).map (·.2))
  | [], [], _, _ => ⟨rfl, .cons r .nil⟩
  | [], _ :: _, e, _ => by simp at e
  | _ :: _, [], e, _ => by simp at e
  | (k, d') :: fs, (k', v') :: fv, e, rr => by
    simp only [List.map_cons, List.cons.injEq] at e
    obtain ⟨rfl, e⟩ := e
    cases rr with
    | cons r1 r2 =>
      obtain ⟨i1, i2⟩ := put_rp r e r2
      unfold putF putD
      by_cases h : k' = f
      · rw [if_pos h, if_pos h]; exact ⟨by simp [e], .cons r r2⟩
      · rw [if_neg h, if_neg h]; exact ⟨by simp [i1], .cons r1 i2⟩
end
/-- the class of that name; its instances' fields fs are no attributes of the class -/
structure ClsC (C : Kx) (c : Str) (fs : List Str) : Prop where
  ex : ∃ A, C.mg c = some (.ref A) ∧ Cls C.K A ∧ ∀ f ∈ fs, NoAttr C.K A f
def objAt (c : Str) (x : D) (M : List MO) : Option (Nat × List (Str × D)) := match x with
  | .cell n => match M[n]? with
    | some (.obj c' fs) => if c' = c then some (n, fs) else none
    | _ => none
  | _ => none
def fFldO (c f : Str) (x : D) (M : List MO) : R D := match objAt c x M with
  | some (_, fs) => match fs.lookup f with
    | some d => .ok d M
    | none => .stuck
  | none => .stuck
def sFldO (c f : Str) (eo ev : EV) : SV := fun e M => (ev e M).toS e fun v M1 => (eo e M1).toS e fun o M2 => match objAt c o M2 with
  | some (n, fs) => if fs.length < 1000 then .nx e (M2.set n (.obj c (putD f v fs))) else .stuck
  | none => .stuck
section
variable {X : Cx} {W : WX}
theorem Ok.viewO {C : Kx} {F : Hp} {L : List Addr} {G H : Hp} {M : List MO} {v : V} {d : D} {c : Str} {n : Nat} {fs : List (Str × D)} (o : Ok C F L G M H) (r : Rp C L G v d) (e : objAt c d M = some (n, fs)) :
    ∃ a A dx fv, v = .ref a ∧ L[n]? = some a ∧ C.mg c = some (.ref A) ∧ H a = some (.ins A dx fv) ∧ fv.map (·.1) = fs.map (·.1) ∧ RpL C L G (fv.map (·.2)) (fs.map (·.2)) := by
  unfold objAt at e
  split at e
  · rename_i k
    split at e
    · rename_i c' fs' hM
      split at e
      · rename_i hc
        subst hc
        cases e
        cases r with
        | @cell a _ hl =>
          obtain ⟨A, dx, fv, h1, h2, h3, h4⟩ := o.cells _ a _ hl hM
          exact ⟨a, A, dx, fv, rfl, hl, h1, h2, h3, h4⟩
      · cases e
    · cases e
  · cases e
theorem pd_fldO {c f : Str} {fs : List Str} {e : Expr} {pos : Pos} {ev : EV} (hc : ClsC (kx X) c fs) (h : PD X W e ev) (hf : f ∈ fs := by decide +kernel) (hb : attributeBase e f X.env (eval e X.env) = eval e X.env := by rfl) : PD X W (.Attribute e f pos) (eUn (fFldO c f) ev) := by
  obtain ⟨A, hm, cl, na⟩ := hc.ex
  obtain ⟨t, p, q⟩ := h
  refine ⟨_, pe_fld p hb, fun F e M σ L G H Q o re h => ?_⟩
  refine q F e M σ L G H _ o re ((Aft.bind h).imp fun d M1 L1 G1 H1 o1 x1 h1 v r => ?_)
  unfold fFldO at h1
  split at h1
  · rename_i n fs' hO
    obtain ⟨a, A', dx, fv, rfl, hl, hm', hH, e1, e2⟩ := o1.viewO r hO
    rw [show (kx X).mg c = some (.ref A) from hm] at hm'
    cases hm'
    split at h1
    · rename_i d' hd
      obtain ⟨v', h2, h3⟩ := (lookup_rp e1 e2 f).1 d' hd
      exact ⟨a, A, dx, fv, v', rfl, hH, cl, na f hf, h2, aok h1 o1 _ h3⟩
    · exact h1.elim
  · exact h1.elim
theorem psd_fldO {c f : Str} {fs : List Str} {ob ex : Expr} {pos pos' : Pos} {eo ev : EV} (hc : ClsC (kx X) c fs) (ho : PD X W ob eo) (hx : PD X W ex ev) (hf : f ∈ fs := by decide +kernel) (hs : swapsWith ex (some (.Attribute ob f pos')) pos.line X.env = pure false := by rfl) :
    PSD X W (.Assign [.Attribute ob f pos'] ex pos) (sFldO c f eo ev) := by
  obtain ⟨A, hm, cl, na⟩ := hc.ex
  obtain ⟨t, p, q⟩ := ho
  obtain ⟨tx, px, qx⟩ := hx
  refine ⟨_, ps_fld p px hs, fun F e M σ L G H Dn o re h => ?_⟩
  refine qx F e M σ L G H _ o re ((AftS.toS h re).imp fun d M1 L1 G1 H1 o1 x1 h1 v r => ?_)
  refine q F e M1 σ L1 G1 H1 _ o1 (re.mono x1) ((AftS.toS h1 (re.mono x1)).imp fun y M2 L2 G2 H2 o2 x2 h2 u r2 => ?_)
  split at h2
  · rename_i n fs' hO
    obtain ⟨a, A', dx, fv, rfl, hl, hm', hH, e1, e2⟩ := o2.viewO r2 hO
    rw [show (kx X).mg c = some (.ref A) from hm] at hm'
    cases hm'
    split at h2
    · rename_i hlen
      obtain ⟨k1, k2⟩ := put_rp (f := f) (r.mono x2) e1 e2
      have el : fv.length = fs'.length := by have := congrArg List.length e1; simpa using this
      refine ⟨a, A, dx, fv, rfl, hH, cl, na f hf, by rw [el]; exact hlen, ?_⟩
      exact h2 σ L2 G2 _ (o2.setMO hl ⟨A, dx, putF f v fv, hm, upd_same, k1, k2⟩) (Ext.refl _ _) ((re.mono x1).mono x2)
    · exact h2.elim
  · exact h2.elim
end
/-! ### methods and the making of objects -/
structure HasM (P : Program) (w : World) (C : Kx) (base : Heap) (c nm : Str) (k : Nat) (m : List D → List MO → R D) : Prop where
  ex : ∃ (A f : Addr) (fd : FuncData) (ps : List Str), FnOk P w C.K C.mg base (L2.CX P w) k f fd ps (spOf C m) ∧ C.mg c = some (.ref A) ∧ Cls C.K A ∧ Meth C.K A nm f ∧ Binds C.K fd ps []
structure HasI (P : Program) (w : World) (C : Kx) (base : Heap) (c : Str) (k : Nat) (m : List D → List MO → R D) : Prop where
  ex : ∃ (A f : Addr) (fd : FuncData) (ps : List Str), FnOk P w C.K C.mg base (L2.CX P w) k f fd ps (spOf C m) ∧ C.mg c = some (.ref A) ∧ Mk C.K A f ∧ Binds C.K fd ps []
def tMethX (A : Addr) (m : Str) (sp : Sp) (E : L2.St → XK) (ta : TE) (t : TA) : TE := fun σ H Q => ta σ H fun x H1 => ∃ a dx fs, x = .ref a ∧ H1 a = some (.ins A dx fs) ∧ fs.lookup m = none ∧ t σ H1 fun vs H2 => sp (x :: vs) H2 Q (E σ)
def tMakeX (A : Addr) (sp : Sp) (E : L2.St → XK) (t : TA) : TE := fun σ H Q => t σ H fun vs H1 => ∀ x dx, H1 x = none → H1 dx = none → dx ≠ x → sp (.ref x :: vs) (upd (upd H1 dx (.own x)) x (.ins A dx [])) (fun v H2 => v = .non ∧ Q (.ref x) H2) (E σ)
section
variable {X : Cx} {CX : CXT} {k : Nat} {f A : Addr} {fd : FuncData} {ps : List Str} {sp : Sp} {E : L2.St → XK} {x m : Str} {p pos apos : Pos} {e o : Expr} {es : List Expr} {ta : TE} {t : TA}
theorem pe_methX {pl : Sem Bool} (he : PE X o ta) (c : Cls X.K A) (hm : Meth X.K A m f) (F : FnOk X.prog X.w X.K X.mg X.base CX k f fd ps sp) (hr : Room k X.A) (hb : Binds X.K fd ps []) (hx : ∀ σ, PassesAt CX X σ (E σ)) (ha : PA X (e :: es) t)
    (hst : starEach (e :: es) X.env = (false, eval e X.env) :: starEach es X.env := by rfl) (hpl : (backTo pos (starEach es X.env)).any (·.1) = false := by rfl)
    (ht : eval (.Call (.Attribute o m apos) (e :: es) [] pos) X.env = (do
      let ov ← eval o X.env
      standAt apos.atName
      let (f, first) ← holding [ov] (getMethod ov m pl)
      callWith pos f first (backTo pos (starEach (e :: es) X.env)) (backToKw pos (keywordEach [] X.env))) := by rfl) :
    PE X (.Call (.Attribute o m apos) (e :: es) [] pos) (tMethX A m sp E ta t) := by
  refine ⟨fun pins s σ H Q I h => ?_⟩
  refine PySem.W.methodCall_KW (pl := pl) (thn (he.run pins s σ H _ I h) fun u s1 ⟨x, H1, I1, rx, a, dx, fs, ex, ea, l, q⟩ => ?_) ht
  subst ex
  obtain rfl : u = Value.ref a := rx
  refine getmeth_ok I1 ea c hm l ?_
  refine PySem.W.callWith_K (first := [.ref a]) (h₀ := X.base) I.ok.mod.kin hm.kp (thn (ha.run pos pins s1 σ H1 _ I1 q) fun us s2 ⟨vs, H2, I2, r, q2⟩ => ⟨I2.kIn, ?_⟩) hst hpl
  exact run_fnS (us := .ref a :: us) (vs := .ref a :: vs) F hr hb (hx σ) I2 (.cons rfl r) q2
theorem pe_methX0 {pl : Sem Bool} (he : PE X o ta) (c : Cls X.K A) (hm : Meth X.K A m f) (F : FnOk X.prog X.w X.K X.mg X.base CX k f fd ps sp) (hr : Room k X.A) (hb : Binds X.K fd ps []) (hx : ∀ σ, PassesAt CX X σ (E σ))
    (ht : eval (.Call (.Attribute o m apos) [] [] pos) X.env = (do
      let ov ← eval o X.env
      standAt apos.atName
      let (f, first) ← holding [ov] (getMethod ov m pl)
      callWith pos f first (backTo pos (starEach [] X.env)) (backToKw pos (keywordEach [] X.env))) := by rfl) :
    PE X (.Call (.Attribute o m apos) [] [] pos) (tMethX A m sp E ta tNil) := by
  refine ⟨fun pins s σ H Q I h => ?_⟩
  refine PySem.W.methodCall_KW (pl := pl) (thn (he.run pins s σ H _ I h) fun u s1 ⟨x, H1, I1, rx, a, dx, fs, ex, ea, l, q⟩ => ?_) ht
  subst ex
  obtain rfl : u = Value.ref a := rx
  refine getmeth_ok I1 ea c hm l ?_
  exact PySem.W.callWith_K0 (first := [.ref a]) I1.kIn hm.kp (run_fnS (us := [.ref a]) (vs := [.ref a]) F hr hb (hx σ) I1 (.cons rfl .nil) q)
theorem run_makeX {pins : List (Addr × Obj)} {σ : L2.St} {H : Hp} {s : Shared} {Q : VK} {us : List Value} {vs : List V} (M : Mk X.K A f) (F : FnOk X.prog X.w X.K X.mg X.base CX k f fd ps sp) (hr : Room (k + 1) X.A) (hb : Binds X.K fd ps [])
    (hx : PassesAt CX X σ (E σ)) (I : Inv X pins σ H s) (r : Vals vs us)
    (h : ∀ x dx, H x = none → H dx = none → dx ≠ x → sp (.ref x :: vs) (upd (upd H dx (.own x)) x (.ins A dx [])) (fun v H2 => v = .non ∧ Q (.ref x) H2) (E σ)) :
    wpAny (model X.prog X.w) X.A (call (.ref A) us) (EP X pins σ Q) X.xe s := by
  have hq := h (s.heap.objs.size + 1) s.heap.objs.size (I.hok.fresh (Nat.le_succ _)) (I.hok.fresh (Nat.le_refl _)) (Nat.ne_of_lt (Nat.lt_succ_self _))
  have I2 := Inv.made (C := A) I
  have r2 : Vals (V.ref (s.heap.objs.size + 1) :: vs) (Value.ref (s.heap.objs.size + 1) :: us) := .cons rfl r
  have hl : (Value.ref (s.heap.objs.size + 1) :: us).length = ps.length := by
    have e := r2.length
    rw [F.len _ _ _ _ hq] at e
    exact e.symm
  have b := hb _ (Value.ref (s.heap.objs.size + 1) :: us) I2.kIn (by rw [List.append_nil]; exact hl)
  rw [List.append_nil] at b
  refine wpAny_call (make_map (f := f) I.kIn M.makes M.init (beq_iff_eq.mp M.fn) (codeAny_mono (F.run _ X.stack _ _ ⟨Value.ref (s.heap.objs.size + 1) :: us, []⟩ (Value.ref (s.heap.objs.size + 1) :: us) _ _ (E σ) (hr.make A us [])
    (I2.env0.make A us []) b r2 hq) fun r s' hq' => ?_))
  cases r with
  | error e => exact hx pins _ _ e s' I2 hq'
  | ok fl =>
    cases fl with
    | ret u =>
      obtain ⟨v, H', I3, rv, ev, q3⟩ := I2.after hq'
      subst ev
      exact ⟨rv, ⟨V.ref (s.heap.objs.size + 1), H', I3, rfl, q3⟩⟩
    | next => exact False.elim hq'
    | brk => exact False.elim hq'
    | cont => exact False.elim hq'
theorem pe_makeX (M : Mk X.K A f) (F : FnOk X.prog X.w X.K X.mg X.base CX k f fd ps sp) (hr : Room (k + 1) X.A) (hg : Gl X x) (hm : X.mg x = some (.ref A)) (hb : Binds X.K fd ps []) (hx : ∀ σ, PassesAt CX X σ (E σ))
    (ha : PA X (e :: es) t) (hdb : (x == ("__debug__" : Str)) = false := by decide) (he : starEach (e :: es) X.env = (false, eval e X.env) :: starEach es X.env := by rfl) (hpl : (backTo pos (starEach es X.env)).any (·.1) = false := by rfl) :
    PE X (.Call (.Name x p) (e :: es) [] pos) (tMakeX A sp E t) := by
  refine ⟨fun pins s σ H Q I h => ?_⟩
  refine wpAny_Call_Name_kw (ld_glob I hg hm ?_ hdb)
  refine PySem.W.callWith_K (h₀ := X.base) I.ok.mod.kin M.kp (thn (ha.run pos pins s σ H _ I h) fun us s1 ⟨vs, H1, I1, r, q⟩ => ⟨I1.kIn, ?_⟩) he hpl
  exact run_makeX M F hr hb (hx σ) I1 r q
end
def eMethO (c nm : Str) (m : List D → List MO → R D) (eo : EV) (ea : EA) : EV := fun e M => (eo e M).bind fun o M1 => match objAt c o M1 with
  | some (_, fs) => match fs.lookup nm with
    | none => (ea e M1).bind fun xs M2 => m (o :: xs) M2
    | some _ => .stuck
  | none => .stuck
def eMakeO (c : Str) (m : List D → List MO → R D) (ea : EA) : EV := fun e M => (ea e M).bind fun xs M1 => (m (.cell M1.length :: xs) (M1 ++ [.obj c []])).bind fun d M2 => match d with
  | .non => .ok (.cell M1.length) M2
  | _ => .stuck
section
variable {X : Cx} {W : WX}
theorem hoMethO {c nm : Str} {A : Addr} {m : List D → List MO → R D} {ta : TE} {t : TA} {eo : EV} {ea : EA} (hA : X.mg c = some (.ref A)) (qo : HoE X W ta eo) (q : HoA X W t ea) : HoE X W (tMethX A nm (spOf (kx X) m) (WE W) ta t) (eMethO c nm m eo ea) := by
  intro F e M σ L G H Q o re h
  refine qo F e M σ L G H _ o re ((Aft.bind h).imp fun d M1 L1 G1 H1 o1 x1 h1 v r => ?_)
  split at h1
  · rename_i n fs hO
    obtain ⟨a, A', dx, fv, rfl, hl, hm', hH, e1, e2⟩ := o1.viewO r hO
    rw [show (kx X).mg c = some (.ref A) from hA] at hm'
    cases hm'
    split at h1
    · rename_i hn
      refine ⟨a, dx, fv, rfl, hH, (lookup_rp e1 e2 nm).2 hn, ?_⟩
      refine q F e M1 σ L1 G1 H1 _ o1 (re.mono x1) ((Aft.bind h1).imp fun ds M2 L2 G2 H2 o2 x2 h2 vs r2 => ⟨F, L2, G2, M2, d :: ds, o2, .cons (r.mono x2) r2, ?_⟩)
      cases hm : m (d :: ds) M2 with
      | ok d M' => rw [hm] at h2; exact fun v L' G' H' o' x' r' => h2 L' G' H' o' x' v r'
      | exc c M' => rw [hm] at h2; exact fun L' G' H' u o' x' q' => h2 L' G' H' u o' x' q'
      | stuck => rw [hm] at h2; exact h2.elim
    · exact h1.elim
  · exact h1.elim
theorem pd_methO {c nm : Str} {k k' : Nat} {m : List D → List MO → R D} {ob a : Expr} {es : List Expr} {eo : EV} {ea : EA} {apos pos : Pos} {pl : Sem Bool} (h : HasM X.prog X.w (kx X) X.base c nm k m) (hr : Room k' X.A) (tk : Takes X W) (ho : PD X W ob eo) (ha : PAD X W (a :: es) ea) (hk' : k ≤ k' := by decide)
    (hst : starEach (a :: es) X.env = (false, eval a X.env) :: starEach es X.env := by rfl) (hpl : (backTo pos (starEach es X.env)).any (·.1) = false := by rfl)
    (ht : eval (.Call (.Attribute ob nm apos) (a :: es) [] pos) X.env = (do
      let ov ← eval ob X.env
      standAt apos.atName
      let (f, first) ← holding [ov] (getMethod ov nm pl)
      callWith pos f first (backTo pos (starEach (a :: es) X.env)) (backToKw pos (keywordEach [] X.env))) := by rfl) : PD X W (.Call (.Attribute ob nm apos) (a :: es) [] pos) (eMethO c nm m eo ea) := by
  obtain ⟨A, f, fd, ps, F, hA, cl, hm, hb⟩ := h.ex
  obtain ⟨ta, pa, qa⟩ := ho
  obtain ⟨t, pt, q⟩ := ha
  exact ⟨_, pe_methX (pl := pl) pa cl hm F (hr.mono hk') hb (fun σ => passAt tk σ) pt hst hpl ht, hoMethO hA qa q⟩
theorem pd_methO0 {c nm : Str} {k k' : Nat} {m : List D → List MO → R D} {ob : Expr} {eo : EV} {apos pos : Pos} {pl : Sem Bool} (h : HasM X.prog X.w (kx X) X.base c nm k m) (hr : Room k' X.A) (tk : Takes X W) (ho : PD X W ob eo) (hk' : k ≤ k' := by decide)
    (ht : eval (.Call (.Attribute ob nm apos) [] [] pos) X.env = (do
      let ov ← eval ob X.env
      standAt apos.atName
      let (f, first) ← holding [ov] (getMethod ov nm pl)
      callWith pos f first (backTo pos (starEach [] X.env)) (backToKw pos (keywordEach [] X.env))) := by rfl) : PD X W (.Call (.Attribute ob nm apos) [] [] pos) (eMethO c nm m eo eNil) := by
  obtain ⟨A, f, fd, ps, F, hA, cl, hm, hb⟩ := h.ex
  obtain ⟨ta, pa, qa⟩ := ho
  exact ⟨_, pe_methX0 (pl := pl) pa cl hm F (hr.mono hk') hb (fun σ => passAt tk σ) ht, hoMethO hA qa ho_nil⟩
theorem hoMakeO {c : Str} {A : Addr} {m : List D → List MO → R D} {t : TA} {ea : EA} (hA : X.mg c = some (.ref A)) (q : HoA X W t ea) : HoE X W (tMakeX A (spOf (kx X) m) (WE W) t) (eMakeO c m ea) := by
  intro F e M σ L G H Q o re h
  refine q F e M σ L G H _ o re ((Aft.bind h).imp fun ds M1 L1 G1 H1 o1 x1 h1 vs r => ?_)
  intro x dx nx ndx ne
  have o2 := o1.lose (u := .own x) ndx
  have nx2 : upd H1 dx (.own x) x = none := by rw [upd_ne ne.symm]; exact nx
  obtain ⟨o3, x3, r3⟩ := o2.newMO (u := .ins A dx []) (mo := .obj c []) nx2 ⟨A, dx, [], hA, upd_same, rfl, .nil⟩
  refine ⟨F, _, G1, _, .cell M1.length :: ds, o3, .cons r3 (r.mono x3), ?_⟩
  have h2 := Aft.mono h1 x3
  cases hm : m (.cell M1.length :: ds) (M1 ++ [.obj c []]) with
  | ok d M' =>
    rw [hm] at h2
    intro v L' G' H' o' x' r'
    cases d with
    | non => cases r'; exact ⟨rfl, h2 L' G' H' o' x' _ (r3.mono x')⟩
    | _ => exact h2.elim
  | exc c M' => rw [hm] at h2; exact fun L' G' H' u o' x' q' => h2 L' G' H' u o' x' q'
  | stuck => rw [hm] at h2; exact h2.elim
theorem pd_makeO {c : Str} {k k' : Nat} {m : List D → List MO → R D} {a : Expr} {es : List Expr} {ea : EA} {p pos : Pos} (h : HasI X.prog X.w (kx X) X.base c k m) (hr : Room k' X.A) (tk : Takes X W) (ha : PAD X W (a :: es) ea) (hk' : k + 1 ≤ k' := by decide) (hg : Gl X c := by rfl)
    (hdb : (c == ("__debug__" : Str)) = false := by decide) (hs : starEach (a :: es) X.env = (false, eval a X.env) :: starEach es X.env := by rfl) (hpl : (backTo pos (starEach es X.env)).any (·.1) = false := by rfl) : PD X W (.Call (.Name c p) (a :: es) [] pos) (eMakeO c m ea) := by
  obtain ⟨A, f, fd, ps, F, hA, hm, hb⟩ := h.ex
  obtain ⟨t, pt, q⟩ := ha
  exact ⟨_, pe_makeX hm F (hr.mono hk') hg hA hb (fun σ => passAt tk σ) pt hdb hs hpl, hoMakeO hA q⟩
end
/-- THE RULE for a method: its FnOk -/
theorem fn_okM {P : Program} {w : World} {C : Kx} {base : Heap} {x qual : Str} {st : Stmt} {f : Addr} {fd : FuncData} {N ps : List Str} {k : Nat} {sv : SV} (F : Fun C.K x qual st f fd) (S : FnScope N ps (defScope st))
    (hb : ∀ (cdv : Value) (A : Around) (outer : List Env) (s : Shared) (H : Hp) (E : XK), Room k (A.deeper (envOfC qual (defScope st) s.heap.objs.size f cdv)) →
      PSsD (cxOf (L2.CX P w) P w C.K C.mg base N qual (defScope st) f cdv A outer s H E) (fun cls d _ H => E cls d H) (defBody st) sv) : FnOk P w C.K C.mg base (L2.CX P w) (k + 1) f fd ps (spOf C (mOf ps.length N.length sv)) := by
  refine F.okX S (fun vs H Q E h => ?_) (fun cdv A outer s H vs Q E hr h => ?_)
  · obtain ⟨F, L, G, M, ds, o, r, h⟩ := h
    unfold mOf at h
    by_cases hl : ds.length = ps.length
    · rw [r.length]; exact hl
    · rw [if_neg hl] at h; exact h.elim
  · obtain ⟨t, p, q⟩ := hb cdv A outer s H E hr
    obtain ⟨F, L, G, M, ds, o, r, h⟩ := h
    refine ⟨t, p, q F (startE N.length ds) M (start N vs) L G H _ o (RpE.start r) ?_⟩
    unfold mOf at h
    by_cases hl : ds.length = ps.length
    · rw [if_pos hl] at h
      cases hs : sv (startE N.length ds) M with
      | nx e M' => rw [hs] at h; exact fun σ' L' G' H' o' x' _ => h .non L' G' H' o' x' .non
      | ret d M' => rw [hs] at h; exact fun v L' G' H' o' x' r' => h v L' G' H' o' x' r'
      | brk e M' => rw [hs] at h; exact h.elim
      | cnt e M' => rw [hs] at h; exact h.elim
      | exc c e M' => rw [hs] at h; exact fun σ' L' G' H' u o' x' _ q' => h L' G' H' u o' x' q'
      | stuck => rw [hs] at h; exact h.elim
    · rw [if_neg hl] at h; exact h.elim
end KB
/-! ### sorted: tuples of ints of any lengths -/
namespace TuS
open PySem PySem.W PySem.Calls PyProof.Rows Builtin
def IsTI (h : Heap) (v : Value) (ns : List Int) : Prop := ∃ (a : Addr) (its : Array Value), v = .ref a ∧ IsTup h a its ∧ IntsAre its.toList ns
theorem IsTI.keeps {h h' : Heap} {v : Value} {ns : List Int} (x : IsTI h v ns) (k : ∀ b o, v = .ref b → h.get? b = some o → h'.get? b = some o) : IsTI h' v ns := by
  obtain ⟨a, its, e, ⟨o, ho, r⟩, i⟩ := x
  exact ⟨a, its, e, ⟨o, k _ _ e ho, r⟩, i⟩
theorem IsTI.typeIs {s : Shared} {v : Value} {ns : List Int} (x : IsTI s.heap v ns) : s.TypeIs v "tuple" := by
  obtain ⟨a, its, rfl, ⟨o, ho, hc, _⟩, i⟩ := x
  exact ⟨o, ho, hc⟩
theorem IsTI.type {M : Model} {h : Heap} {v : Value} {ns : List Int} (x : IsTI h v ns) : Looks M h (typeOf v) (.type "tuple") := by
  obtain ⟨a, its, rfl, ⟨o, ho, hc, _⟩, i⟩ := x
  have z : Looks M h (typeOf (.ref a)) o.cls := (Looks.ld ho).andThen .now
  rw [hc] at z
  exact z
section
variable {prog : Program} {w : World} {A : Around} {E : Value → Shared → Prop} {s : Shared}
theorem lexI {b fin : Bool} {Q : Bool → Shared → Prop} {xs : List Value} {ns : List Int} (hx : IntsAre xs ns) : ∀ (i : Nat) {ys : List Value} {ms : List Int}, IntsAre ys ms → fin = decide (ns.length < ms.length) → Q (HT.lexLt ns ms) s → KatLex prog w A b fin Q (xs.zip ys) i s := by
  induction hx with
  | nil =>
    intro i ys ms hy hf h
    rw [List.zip_nil_left]
    refine kat_nil ?_
    rw [hf]
    cases hy with
    | nil => rw [HT.lexLt_nil_nil] at h; simpa using h
    | cons c u hw => rw [HT.lexLt_nil_cons] at h; simpa using h
  | @cons a t xs ns hx ih =>
    intro i ys ms hy hf h
    cases hy with
    | nil =>
      rw [List.zip_nil_right]
      refine kat_nil ?_
      rw [hf]
      rw [HT.lexLt_cons_nil] at h
      simpa using h
    | cons c u hw =>
      rw [List.zip_cons_cons]
      rw [HT.lexLt_cons] at h
      refine kat_cons (SeqAt.EqAt.int_int _ _ _ _ prog w _ _ ?_)
      refine kat_go (fun e1 => ?_) (fun e1 => ?_)
      · rw [if_pos (by simpa using e1)] at h
        exact kat_yes (ih _ hw (by simpa using hf) h)
      · rw [if_neg (by simpa using e1)] at h
        exact kat_no (TS.oneLt_ints _ h)
theorem lt_tuples {b : Bool} {v u : Value} {ns ms : List Int} {Q : Bool → Shared → Prop} (hv : IsTI s.heap v ns) (hw : IsTI s.heap u ms) (h : Q (HT.lexLt ns ms) s) : wpAny (model prog w) A (keyLt' (tuples' b) v u) Q E s := by
  obtain ⟨a, its, rfl, ⟨o, ho, hc, n, hd⟩, i⟩ := hv
  obtain ⟨a2, its2, rfl, ⟨o2, ho2, hc2, n2, hd2⟩, i2⟩ := hw
  have z1 : its.size = ns.length := by rw [← i.length]; simp
  have z2 : its2.size = ms.length := by rw [← i2.length]; simp
  exact kat_lt ho hd ho2 hd2 (lexI i 0 i2 (by rw [z1, z2]) h)
theorem lt_one {v u : Value} {ns ms : List Int} {Q : Bool → Shared → Prop} (hu : A.units < cLine) (hv : IsTI s.heap v ns) (hw : IsTI s.heap u ms) (h : Q (HT.lexLt ns ms) s) : wpAny (model prog w) A (keyLt' oneType' v u) Q E s := by
  have ty := hv.typeIs
  obtain ⟨a, its, rfl, ⟨⟨cls, dd, data, sl⟩, ho, hc, n, hd⟩, i⟩ := hv
  obtain ⟨a2, its2, rfl, ⟨⟨cls2, dd2, data2, sl2⟩, ho2, hc2, n2, hd2⟩, i2⟩ := hw
  simp only at hc hd hc2 hd2
  subst hc hd hc2 hd2
  rw [keyLt'_oneType, oneLt'_eq]
  simp only [if_true]
  refine wpAny_bind (wpAny_cRoomFor hu ?_)
  refine wpAny_bind (wpAny_callSpecialIfBound?_slot ty PySem.F.slot_tuple_lt (call_meets PySem.F.slot_tuple_lt ty PySem.F.entry_tuple_lt (PySem.F.args_tuple_lt_2 _ _) (HT.tuple_lt_ints a a2 its its2 n n2 dd dd2 sl sl2 ns ms i i2) ⟨ho, ho2, ?_⟩))
  exact wpAny_truthy_bool h
theorem lt_gen {v u : Value} {ns ms : List Int} {Q : Bool → Shared → Prop} (hu : A.units < cLine) (hv : IsTI s.heap v ns) (hw : IsTI s.heap u ms) (h : Q (HT.lexLt ns ms) s) : wpAny (model prog w) A (keyLt' general' v u) Q E s := by
  obtain ⟨a, its, rfl, p, i⟩ := hv
  obtain ⟨a2, its2, rfl, p2, i2⟩ := hw
  have e : keyLt' general' (.ref a) (.ref a2) = oneLt' false (.ref a) (.ref a2) := rfl
  rw [e]
  exact kat_one _ _ (HT.lt_tupInts p p2 i i2 hu h)
theorem firstsI : ∀ (vs : List Value) (k : Value → List Int), (∀ v ∈ vs, IsTI s.heap v (k v)) → ∃ fs : List (Option Value), fs.length = vs.length ∧ (∀ f ∈ fs, ∀ x, f = some x → ∃ i t, x = Value.int i t) ∧
    ∀ (M : Model) (A : Around) (E : Value → Shared → Prop) (Q : List (Option Value) → Shared → Prop), Q fs s → wpAny M A (vs.mapM firstOfTuple') Q E s
  | [], _, _ => ⟨[], rfl, fun _ z => by simp at z, fun M A E Q h => by rw [List.mapM_nil]; exact wpAny_pure h⟩
  | v :: vs, k, t => by
    obtain ⟨fs, hl, hf, run⟩ := firstsI vs k fun u hu => t u (List.mem_cons_of_mem _ hu)
    obtain ⟨a, its, rfl, ⟨o, ho, hc, n, hd⟩, i⟩ := t v (List.mem_cons_self ..)
    refine ⟨its[0]? :: fs, by simp [hl], fun f hm x e => ?_, fun M A E Q h => ?_⟩
    · rcases List.mem_cons.mp hm with rfl | hm
      · cases i' : its.toList with
        | nil => rw [show its[0]? = its.toList[0]? from by simp, i'] at e; simp at e
        | cons y r =>
          rw [show its[0]? = its.toList[0]? from by simp, i'] at e
          simp at e
          subst e
          rw [i'] at i
          generalize k (.ref a) = ks at i
          cases i with
          | cons c u _ => exact ⟨_, _, rfl⟩
      · exact hf f hm x e
    · rw [List.mapM_cons]
      refine wpAny_bind ?_
      rw [kas_first_eq]
      refine wpAny_bind (Looks.here (show Looks M s.heap (typeOf (.ref a)) o.cls from (Looks.ld ho).andThen .now) ?_)
      rw [hc, if_neg (by first | decide | simp)]
      refine wpAny_bind (listItems_at ho hd (wpAny_pure ?_))
      exact wpAny_bind (run M A E _ (wpAny_pure h))
theorem kindI {vs : List Value} {k : Value → List Int} (h2 : 2 ≤ vs.length) (hv : ∀ v ∈ vs, IsTI s.heap v (k v)) : ∃ κ, (κ = tuples' true ∨ κ = oneType' ∨ κ = general') ∧
    ∀ (M : Model) (A : Around) (E : Value → Shared → Prop) (Q : SortKind → Shared → Prop), Q κ s → wpAny M A (keyKind' vs.toArray) Q E s := by
  obtain ⟨fs, hl, hf, run⟩ := firstsI vs k hv
  by_cases ha : (fs.toArray.all fun x => x.isSome) = true
  · refine ⟨tuples' true, .inl rfl, fun M A E Q h1 => ?_⟩
    rw [keyKind'_eq, List.mapM_toArray, map_eq_pure_bind]
    refine wpAny_bind (wpAny_bind (run M A E _ (wpAny_pure ?_)))
    rw [if_pos ha]
    refine wpAny_bind (wpAny_rule ?_)
    obtain ⟨gs, rfl⟩ : ∃ gs : List Value, fs = gs.map some := by
      refine ⟨fs.filterMap _root_.id, ?_⟩
      have : ∀ l : List (Option Value), (∀ x ∈ l, x.isSome = true) → l = (l.filterMap _root_.id).map some := by
        intro l
        induction l with
        | nil => intro _; rfl
        | cons y l ih =>
          intro hh
          have hy := hh y (List.mem_cons_self ..)
          cases y with
          | none => cases hy
          | some z =>
            show some z :: l = some z :: (l.filterMap _root_.id).map some
            rw [← ih fun x hx => hh x (List.mem_cons_of_mem _ hx)]
      exact this fs (by simpa using ha)
    have hfm : ((gs.map some).toArray.filterMap _root_.id) = gs.toArray := by simp
    rw [hfm, oneTypeOnly'_eq, List.mapM_toArray, map_eq_pure_bind]
    have hg : ∀ v ∈ gs, Looks M s.heap (typeOf v) (.type "int") := fun v hm => by
      obtain ⟨i, t, rfl⟩ := hf (some v) (List.mem_map.mpr ⟨v, hm, rfl⟩) v rfl
      exact Looks.now
    refine wpAny_bind (wpAny_bind (wpAny_bind (kas_mapM (r := Value.type "int") _ (fun v hv Q' hq => (hg v hv).here hq) (wpAny_pure ?_))))
    have hgl : gs.length = vs.length := by simpa using hl
    obtain ⟨f1, fr, rfl⟩ : ∃ f1 fr, gs = f1 :: fr := by
      match gs, hgl with
      | [], e => simp at e; omega
      | f1 :: fr, _ => exact ⟨f1, fr, rfl⟩
    have hall2 : ((List.map (fun _ => Value.type "int") (f1 :: fr)).toArray.all fun x => x == Value.type "int") = true := by
      simp only [List.all_toArray, List.all_map, List.all_eq_true]
      intro _ _
      rfl
    have h0 : (List.map (fun _ => Value.type "int") (f1 :: fr)).toArray[0]? = some (Value.type "int") := by simp
    rw [h0]
    simp only [hall2, if_true]
    refine wpAny_pure (wpAny_pure ?_)
    have e : ((some (Value.type "int")).any fun x => x != Value.type "tuple") = true := by first | decide +kernel | rfl
    rw [e]
    exact h1
  · by_cases hb : ((fs.toArray[0]?.bind _root_.id).isSome) = true
    · refine ⟨general', .inr (.inr rfl), fun M A E Q h4 => ?_⟩
      rw [keyKind'_eq, List.mapM_toArray, map_eq_pure_bind]
      refine wpAny_bind (wpAny_bind (run M A E _ (wpAny_pure ?_)))
      rw [if_neg ha, if_pos hb]; exact wpAny_pure h4
    · refine ⟨oneType', .inr (.inl rfl), fun M A E Q h3 => ?_⟩
      rw [keyKind'_eq, List.mapM_toArray, map_eq_pure_bind]
      refine wpAny_bind (wpAny_bind (run M A E _ (wpAny_pure ?_)))
      rw [if_neg ha, if_neg hb, oneTypeOnly'_eq, List.mapM_toArray, map_eq_pure_bind]
      refine wpAny_bind (wpAny_bind (wpAny_bind (kas_mapM (r := Value.type "tuple") _ (fun v hm Q' hq => ((hv v hm).type).here hq) (wpAny_pure ?_))))
      obtain ⟨f1, fr, rfl⟩ : ∃ f1 fr, vs = f1 :: fr := by
        match vs, h2 with
        | f1 :: fr, _ => exact ⟨f1, fr, rfl⟩
      have hall2 : ((List.map (fun _ => Value.type "tuple") (f1 :: fr)).toArray.all fun x => x == Value.type "tuple") = true := by
        simp only [List.all_toArray, List.all_map, List.all_eq_true]
        intro _ _
        rfl
      have h0 : (List.map (fun _ => Value.type "tuple") (f1 :: fr)).toArray[0]? = some (Value.type "tuple") := by simp
      rw [h0]
      simp only [hall2, if_true]
      exact wpAny_pure (wpAny_pure h3)
theorem sortableI {a : Addr} {vs : List Value} {k : Value → List Int} (h2 : 2 ≤ vs.length) (hu : A.units < cLine) (hv : ∀ v ∈ vs, IsTI s.heap v (k v)) (ha : ∀ o, s.heap.get? a = some o → o.cls ≠ .type "tuple") :
    SrtO.SortableO prog w A s a vs fun v u => HT.lexLt (k v) (k u) := by
  intro h' keep
  have hv' : ∀ v ∈ vs, IsTI h' v (k v) := fun v hm => by
    obtain ⟨b, its, rfl, ⟨o, ho, hc, r⟩, i⟩ := hv v hm
    exact ⟨b, its, rfl, ⟨o, keep b o (fun z => by subst z; exact ha o ho hc) ho, hc, r⟩, i⟩
  obtain ⟨κ, hk, run⟩ := kindI (s := { s with heap := h' }) h2 hv'
  refine ⟨κ, fun Q E hq => run _ _ E Q hq, fun p q hp hq => ?_⟩
  have g : ∀ {R : Bool → Shared → Prop}, R (HT.lexLt (k p.1) (k q.1)) { s with heap := h' } → wpAny (model prog w) A (keyLt' κ p.1 q.1) R (fun _ _ => False) { s with heap := h' } := fun {R} r => by
    rcases hk with rfl | rfl | rfl
    · exact lt_tuples (s := { s with heap := h' }) (hv' _ hp) (hv' _ hq) r
    · exact lt_one (s := { s with heap := h' }) hu (hv' _ hp) (hv' _ hq) r
    · exact lt_gen (s := { s with heap := h' }) hu (hv' _ hp) (hv' _ hq) r
  exact g (R := fun r s' => s' = { s with heap := h' } ∧ r = HT.lexLt (k p.1) (k q.1)) ⟨rfl, rfl⟩
theorem sortedI {l : Addr} {vs : List Value} {k : Value → List Int} {Q : Value → Shared → Prop} (hu : A.units + 2 < cLine) (hl : s.heap.IsList l vs.toArray) (hz : vs.length ≤ sizeLine) (hp : ∀ v ∈ vs, IsTI s.heap v (k v))
    (h : ∀ (h' : Heap) (d : Addr) (out : List Value), SrtO.Srtd (fun v u => HT.lexLt (k v) (k u)) out → out.Perm vs → (∀ b o, s.heap.get? b = some o → h'.get? b = some o) → s.heap.objs.size ≤ d → (∃ n, h'.get? d = some (seqObj "list" out.toArray n)) → Q (.ref d) { s with heap := h' }) :
    wpAny (model prog w) A (call (.builtin "sorted") [.ref l]) Q E s := by
  refine SrtO.sorted_ord (NtL.swo_lexL k) hl hz (fun h2 h₁ a ha kk => ?_) fun out hs hb => ?_
  · refine sortableI (s := { s with heap := h₁ }) h2 (by show A.units + 1 + 1 < cLine; omega) (fun v hm => (hp v hm).keeps fun b o _ e => (kk b o e).2) fun o e => ?_
    have e' : some o = some (seqObj "list" vs.toArray 0) := e.symm.trans ha
    cases e'
    intro c
    exact absurd (Value.type.inj c) (by decide)
  · exact h _ _ out hs hb.perm (fun b o e => sortedAll_old e) (Nat.le_succ _) (sortedAll_at s.heap vs out.toArray)
end
end TuS
theorem TuS.IsTI.inj {h : PySem.Heap} {v : PySem.Value} {ns ms : List Int} (x : TuS.IsTI h v ns) (y : TuS.IsTI h v ms) : ns = ms := by
  obtain ⟨a, its, rfl, ⟨o, ho, hc, n, hd⟩, i⟩ := x
  obtain ⟨a2, its2, e, ⟨o2, ho2, hc2, n2, hd2⟩, i2⟩ := y
  cases e
  rw [ho] at ho2
  cases ho2
  rw [hd] at hd2
  cases hd2
  generalize its.toList = l at i i2
  induction i generalizing ms with
  | nil => cases i2; rfl
  | cons a t _ ih => cases i2 with | cons _ _ h => rw [ih h]
namespace KB
open PySem PySem.Spec PyProof.Rows L2
def insK (x : List Int) : List (List Int) → List (List Int)
  | [] => [x]
  | y :: ys => if HT.lexLt y x then y :: insK x ys else x :: y :: ys
def sortK : List (List Int) → List (List Int)
  | [] => []
  | x :: xs => insK x (sortK xs)
theorem insK_perm (x : List Int) : ∀ l : List (List Int), (insK x l).Perm (x :: l)
  | [] => List.Perm.refl _
  | y :: ys => by
    unfold insK
    split
    · exact ((insK_perm x ys).cons y).trans (List.Perm.swap x y ys)
    · exact List.Perm.refl _
theorem sortK_perm : ∀ l : List (List Int), (sortK l).Perm l
  | [] => List.Perm.refl _
  | x :: xs => (insK_perm x _).trans ((sortK_perm xs).cons x)
theorem insK_pw (x : List Int) : ∀ {l : List (List Int)}, l.Pairwise (fun a b => HT.lexLt b a = false) → (insK x l).Pairwise (fun a b => HT.lexLt b a = false)
  | [], _ => List.pairwise_singleton _ _
  | y :: ys, h => by
    obtain ⟨h1, h2⟩ := List.pairwise_cons.mp h
    unfold insK
    split
    · rename_i hl
      refine List.pairwise_cons.mpr ⟨fun z hz => ?_, insK_pw x h2⟩
      rcases List.mem_cons.mp ((insK_perm x ys).mem_iff.mp hz) with rfl | hz
      · exact NtL.lex_asym _ _ hl
      · exact h1 z hz
    · rename_i hl
      have hl : HT.lexLt y x = false := by simpa using hl
      refine List.pairwise_cons.mpr ⟨fun z hz => ?_, h⟩
      rcases List.mem_cons.mp hz with rfl | hz
      · exact hl
      · exact NtL.lex_tr _ _ _ hl (h1 z hz)
theorem sortK_pw : ∀ l : List (List Int), (sortK l).Pairwise (fun a b => HT.lexLt b a = false)
  | [] => List.Pairwise.nil
  | x :: xs => insK_pw x (sortK_pw xs)
theorem lex_anti : ∀ (a b : List Int), HT.lexLt a b = false → HT.lexLt b a = false → a = b
  | [], [], _, _ => rfl
  | [], y :: b, h, _ => by rw [HT.lexLt_nil_cons] at h; cases h
  | x :: a, [], _, h => by rw [HT.lexLt_nil_cons] at h; cases h
  | x :: a, y :: b, h1, h2 => by
    rw [HT.lexLt_cons] at h1 h2
    by_cases e : x = y
    · subst e
      rw [if_pos rfl] at h1 h2
      rw [lex_anti a b h1 h2]
    · rw [if_neg e] at h1
      rw [if_neg (Ne.symm e)] at h2
      have := of_decide_eq_false h1
      have := of_decide_eq_false h2
      omega
theorem sortK_uniq : ∀ {l m : List (List Int)}, l.Perm m → l.Pairwise (fun a b => HT.lexLt b a = false) → m.Pairwise (fun a b => HT.lexLt b a = false) → l = m
  | [], m, p, _, _ => (List.Perm.nil_eq p)
  | x :: l, [], p, _, _ => absurd p.length_eq (by simp)
  | x :: l, y :: m, p, h1, h2 => by
    obtain ⟨a1, a2⟩ := List.pairwise_cons.mp h1
    obtain ⟨b1, b2⟩ := List.pairwise_cons.mp h2
    have e : x = y := by
      rcases List.mem_cons.mp (p.mem_iff.mp (List.mem_cons_self ..)) with e | hx
      · exact e
      · rcases List.mem_cons.mp (p.mem_iff.mpr (List.mem_cons_self (a := y) (l := m))) with e | hy
        · exact e.symm
        · exact lex_anti _ _ (b1 x hx |> fun z => z) (a1 y hy) |> fun z => z
    subst e
    rw [sortK_uniq p.cons_inv a2 b2]
theorem sortK_eq {l m : List (List Int)} (p : l.Perm m) (h : l.Pairwise (fun a b => HT.lexLt b a = false)) : l = sortK m := sortK_uniq (p.trans (sortK_perm m).symm) h (sortK_pw m)
/-- the keys of a list of tuples of ints -/
def tks? : List D → Option (List (List Int))
  | [] => some []
  | .tup ds :: r => match ints? ds, tks? r with
    | some ns, some ks => some (ns :: ks)
    | _, _ => none
  | _ :: _ => none
theorem ints_eq : ∀ {ds : List D} {ns : List Int}, ints? ds = some ns → ds = ns.map .int
  | [], ns, h => by simp [ints?] at h; subst h; rfl
  | d :: ds, ns, h => by
    cases d <;> simp [ints?] at h
    rename_i i
    cases hr : ints? ds with
    | none => rw [hr] at h; simp at h
    | some ms => rw [hr] at h; simp at h; subst h; rw [ints_eq hr]; rfl
theorem tks_eq : ∀ {ds : List D} {ks : List (List Int)}, tks? ds = some ks → ds = ks.map bs
  | [], ks, h => by simp [tks?] at h; subst h; rfl
  | d :: ds, ks, h => by
    unfold tks? at h
    split at h
    · rename_i heq; cases heq
    · rename_i es r heq
      cases heq
      split at h
      · rename_i ns ks' h1 h2
        cases h
        rw [ints_eq h1, tks_eq h2]
        rfl
      · cases h
    · cases h
noncomputable def kOf (h : Heap) (u : Value) : List Int := by
  classical
  exact if e : ∃ ns, TuS.IsTI h u ns then Classical.choose e else []
theorem kOf_eq {h : Heap} {u : Value} {ns : List Int} (x : TuS.IsTI h u ns) : kOf h u = ns := by
  have e : ∃ ns, TuS.IsTI h u ns := ⟨ns, x⟩
  unfold kOf
  rw [dif_pos e]
  exact TuS.IsTI.inj (Classical.choose_spec e) x
def rSortK (X : Cx) : List V → Hp → VK → Prop := fun vs H Q => ∃ F L G M a xs ks, Ok (kx X) F L G M H ∧ vs = [.ref a] ∧ SqL X.K H a xs ∧ RpL (kx X) L G xs (ks.map bs) ∧ ∀ ys p, RpL (kx X) L G ys ((sortK ks).map bs) → H p = none → Q (.ref p) (upd H p (.lst ys))
section
variable {X : Cx} {W : WX}
theorem keys_of {F L G M} {pins : List (Addr × Obj)} {s : Shared} {σ : L2.St} {H : Hp} (I : Inv X pins σ H s) (o : Ok (kx X) F L G M H) : ∀ {ks : List (List Int)} {xs : List V} {us : List Value}, Vals xs us → RpL (kx X) L G xs (ks.map bs) →
    us.map (kOf s.heap) = ks ∧ xs = us.map backV ∧ ∀ u ∈ us, (∃ t, u = Value.ref t) ∧ TuS.IsTI s.heap u (kOf s.heap u) ∧ Rp (kx X) L G (backV u) (bs (kOf s.heap u))
  | [], _, _, v, r => by cases r; cases v; exact ⟨rfl, rfl, fun _ h => by simp at h⟩
  | k :: ks, _, _, v, r => by
    cases r with
    | cons r1 r2 =>
      cases v with
      | @cons x u xs us rv v =>
        obtain ⟨h1, h2, h3⟩ := keys_of I o v r2
        have r1' := r1
        cases r1 with
        | @tup t vs ds hq hl =>
          have ev := ints_V hl (show ints? (k.map D.int) = some k by induction k with
            | nil => rfl
            | cons a k ih => simp [ints?, ih])
          subst ev
          obtain rfl : u = Value.ref t := rv
          obtain ⟨its, rr, p, _⟩ := I.tuple (Same.seqT o.sub hq)
          have ti : TuS.IsTI s.heap (.ref t) k := ⟨t, _, rfl, p, by simpa using intsAre_of rr⟩
          have ek := kOf_eq ti
          refine ⟨by rw [List.map_cons, ek, h1], by rw [List.map_cons, ← h2]; rfl, fun u hu => ?_⟩
          rcases List.mem_cons.mp hu with rfl | hu
          · rw [ek]; exact ⟨⟨t, rfl⟩, ti, r1'⟩
          · exact h3 u hu
theorem rpl_back {L : List Addr} {G : Hp} {h : Heap} : ∀ {us : List Value}, (∀ u ∈ us, Rp (kx X) L G (backV u) (bs (kOf h u))) → RpL (kx X) L G (us.map backV) ((us.map (kOf h)).map bs)
  | [], _ => .nil
  | u :: us, h => .cons (h u (List.mem_cons_self ..)) (rpl_back fun v hv => h v (List.mem_cons_of_mem _ hv))
theorem cr_sortK (hu : X.A.units + 65 < cLine) : CallR X (.builtin "sorted") (rSortK X) := by
  intro pins s σ H vs us Q I r h
  obtain ⟨F, L, G, M, a, xs, ks, o, rfl, hs, hx, q⟩ := h
  obtain ⟨its, rv, hl, hz⟩ := I.list hs
  obtain ⟨u, rfl, ru⟩ := vals1 r
  obtain rfl : u = Value.ref a := ru
  obtain ⟨h1, h2, h3⟩ := keys_of I o rv hx
  refine TuS.sortedI (k := kOf s.heap) (by omega) hl.isList (by rw [← rv.length]; exact hz) (fun v hv => (h3 v hv).2.1) fun h' d out g1 g2 kp hd hn => ?_
  obtain ⟨n, hn⟩ := hn
  have h4 : ∀ u ∈ out, ∃ a, u = Value.ref a := fun u hu => (h3 u (g2.mem_iff.mp hu)).1
  have e : out.map (kOf s.heap) = sortK ks := by
    refine sortK_eq ?_ (List.pairwise_map.mpr (g1.imp fun {x y} z => z))
    rw [← h1]
    exact g2.map _
  refine ⟨.ref d, upd H d (.lst (out.map backV)), I.laid (t' := s.toks) kp hd ⟨?_, out, n, vals_back h4, hn⟩, rfl, q _ d ?_ (I.hok.fresh hd)⟩
  · have := g2.length_eq
    have := rv.length
    rw [List.length_map]; omega
  · rw [← e]
    exact rpl_back fun u hu => (h3 u (g2.mem_iff.mp hu)).2.2
def fSorted (ds : List D) (M : List MO) : R D := match ds with
  | [x] => match res M x with
    | .lst es => match tks? es with
      | some ks => .ok (.lst ((sortK ks).map bs)) M
      | none => .stuck
    | _ => .stuck
  | _ => .stuck
theorem dSorted : CallD X W (rSortK X) fSorted := by
  intro xs ds M F L G H σ Q o r h
  unfold fSorted at h
  split at h
  · rename_i x
    split at h
    · rename_i es e1
      split at h
      · rename_i ks hk
        obtain ⟨v, rfl, rv⟩ := one r
        obtain ⟨a, ws, rfl, hq, hl⟩ := o.viewL rv e1
        rw [tks_eq hk] at hl
        refine ⟨F, L, G, M, a, ws, ks, o, rfl, .inl (.inl hq), hl, fun ys p ry hp => ?_⟩
        exact newL o ry h p hp
      · exact h.elim
    · exact h.elim
  · exact h.elim
theorem pd_sorted {a : Expr} {p pos : Pos} {ea : EA} (hm : X.mg "sorted" = none) (hu : X.A.units + 65 < cLine) (ha : PAD X W [a] ea) (hg : Gl X "sorted" := by rfl) (hs : starEach [a] X.env = (false, eval a X.env) :: starEach [] X.env := by rfl) (hpl : (backTo pos (starEach [] X.env)).any (·.1) = false := by rfl) : PD X W (.Call (.Name "sorted" p) [a] [] pos) (eArgs fSorted ea) :=
  pd_callB (cr_sortK hu) dSorted hg hm (by decide +kernel) ha (by decide) (by decide) hs hpl
end
end KB
namespace KB
open PySem PySem.Spec PyProof.Rows L2
/-! ### sorted(set(xs)), xs byte strings -/
section
variable {P : Program} {w : World} {A : Around} {E : Value → Shared → Prop} {s : Shared}
theorem ti_of {h : Heap} {k : List Int} {b : Addr} (x : IsT P w h k b) : TuS.IsTI h (.ref b) k := by
  obtain ⟨o, items, n, ho, hc, hd, hi⟩ := x
  exact ⟨b, items, rfl, ⟨o, ho, hc, n, hd⟩, ints_of_items hi⟩
theorem sorted_setL {a : Addr} {L : List (Addr × List Int)} {es : Array (Int × Value)} {ep : Nat} {t : SetTable} {Q : Value → Shared → Prop} (R : SetTR P w s.heap a L es ep t) (hh : A.handled = none) (hu : A.units + 2 < cLine)
    (hQ : ∀ s' p (out : List Value) (c : Nat), (∀ b o, s.heap.get? b = some o → s'.heap.get? b = some o) → s'.gens = s.gens → s'.os = s.os → s.heap.objs.size ≤ p →
      s'.heap.get? p = some (seqObj "list" out.toArray c) → out.Perm (L.map fun q => Value.ref q.1) → SrtO.Srtd (fun v u => HT.lexLt (kOf s.heap v) (kOf s.heap u)) out → Q (.ref p) s') :
    wpAny (model P w) A (call (.builtin "sorted") [.ref a]) Q E s := by
  obtain ⟨o, ho, hex, hd⟩ := R.ob
  have hsz := R.size
  have hfew := R.few
  refine Calls.call_function_entry kind_sorted plain_sorted entry_sorted (args_sorted1 _) ?_
  unfold Builtin.«sorted»
  refine wpAny_bind (m := checkCount "sorted" 1 1 _) (wpAny_pure ?_)
  refine wpAny_bind (collect_set (A := A.in1) hh ⟨o, ho, hex.1, hd⟩ R.fits (by unfold scanBound; omega) R.tab.ris R.led fun s1 vs k1 hz g1 o1 pm => ?_)
  have hes : es.toList.map (·.2) = L.map fun q => Value.ref q.1 := by
    rw [R.rows]
    unfold rowsOf
    rw [List.map_map] <;> rfl
  rw [hes] at pm
  have hvl : vs.length < 64 := by rw [pm.length_eq, List.length_map]; exact hfew
  have hvz : vs.length ≤ sizeLine := by rw [sizeLine_eq]; omega
  refine wpAny_bind (wpAny_newList ?_ hvz)
  have hoL : (s1.heap.push (seqObj "list" vs.toArray 0)).get? s1.heap.objs.size = some (seqObj "list" vs.toArray 0) := Heap.get?_push_size _ rfl
  have hv : ∀ v ∈ vs, TuS.IsTI (s1.heap.push (seqObj "list" vs.toArray 0)) v (kOf s.heap v) := fun v hv => by
    obtain ⟨q, hq, e⟩ := List.mem_map.mp (pm.mem_iff.mp hv)
    have t1 : TuS.IsTI s.heap (.ref q.1) q.2 := ti_of (P := P) (w := w) (R.tup q hq)
    rw [← e, kOf_eq t1]
    exact t1.keeps fun b u _ e => Heap.get?_push_of_some _ (k1 b u e)
  refine wpAny_bind (wpAny_holding (wpAny_call_entry slot_list_sort ⟨_, hoL, rfl⟩ entry_list_sort
    (SrtO.list_sort_ord (s := { s1 with heap := s1.heap.push (seqObj "list" vs.toArray 0) }) (NtL.swo_lexL (kOf s.heap)) hoL hvz
      (fun h2 => TuS.sortableI (s := { s1 with heap := s1.heap.push (seqObj "list" vs.toArray 0) }) h2 (by show A.units + 1 + 1 < cLine; omega) hv fun o e => ?_) fun out hs hb => ⟨_, rfl, ?_⟩) (args_list_sort _)))
  · have e' : some o = some (seqObj "list" vs.toArray 0) := e.symm.trans hoL
    cases e'
    intro c
    exact absurd (Value.type.inj c) (by decide)
  · obtain ⟨c, hc⟩ := sortedHeap_at (vs := vs) (out := out.toArray) hoL
    refine wpAny_pure ⟨_, rfl, hQ _ s1.heap.objs.size out c (fun b u e => ?_) g1 o1 hz hc (hb.perm.trans pm) hs⟩
    have q := k1 b u e
    have hlt := Heap.lt_size q
    show (sortedHeap (s1.heap.push (seqObj "list" vs.toArray 0)) s1.heap.objs.size vs out.toArray).get? b = some u
    rw [sortedHeap_old (Nat.ne_of_lt hlt) (by rw [size_push']; exact Nat.lt_succ_of_lt hlt)]
    exact Heap.get?_push_of_some _ q
end
def rSortSL (X : Cx) : List V → Hp → VK → Prop := fun vs H Q => ∃ F Ls G M a L, Ok (kx X) F Ls G M H ∧ vs = [.ref a] ∧ H a = some (SetTO X.prog X.w a L) ∧ (∀ p ∈ L, Rp (kx X) Ls G (.ref p.1) (bs p.2)) ∧
  ∀ (ys : List V) (ks : List (List Int)) (p : Addr), RpL (kx X) Ls G ys (ks.map bs) → ks.Pairwise (fun a b => HT.lexLt a b = true) → (∀ k, k ∈ ks ↔ k ∈ L.map (·.2)) → H p = none → Q (.ref p) (upd H p (.lst ys))
theorem bs_sq {C : Kx} {L : List Addr} {G : Hp} {v : V} {k : List Int} (r : Rp C L G v (bs k)) : ∃ t, v = .ref t ∧ SqT C.K G t (k.map V.int) := by
  cases r with
  | @tup t vs ds hq hl =>
    have ev := ints_V hl (show ints? (k.map D.int) = some k by induction k with
      | nil => rfl
      | cons a k ih => simp [ints?, ih])
    subst ev
    exact ⟨t, rfl, hq⟩
section
variable {X : Cx} {W : WX}
theorem cr_sortSL (hc : X.calm = true) (hu : X.A.units + 65 < cLine) : CallR X (.builtin "sorted") (rSortSL X) := by
  intro pins s σ H vs us Q I r h
  obtain ⟨F, Ls, G, M, a, L, ok, rfl, ha, hk, q⟩ := h
  have R0 : SetT0 X.prog X.w s.heap a L := (I.hok a _ ha).1
  have hsq : ∀ p ∈ L, SqT X.K H p.1 (p.2.map V.int) := fun p hp => by
    obtain ⟨t, e, hq⟩ := bs_sq (hk p hp)
    cases e
    exact Same.seqT ok.sub hq
  obtain ⟨es, ep, t, R⟩ := R0.full fun p hp => I.isT (hsq p hp)
  rw [Vals.ref1 r]
  refine sorted_setL R (I.ok.hd hc) (by omega) fun s' p out c k g o hp hg pm pw => ?_
  have hn : H p = none := I.hok.fresh hp
  have mem : ∀ u ∈ out, ∃ z ∈ L, u = Value.ref z.1 ∧ kOf s.heap u = z.2 := fun u hu => by
    obtain ⟨z, hz, e⟩ := List.mem_map.mp (pm.mem_iff.mp hu)
    subst e
    exact ⟨z, hz, rfl, kOf_eq (ti_of (P := X.prog) (w := X.w) (R.tup z hz))⟩
  have eL : (L.map fun q => Value.ref q.1).map (kOf s.heap) = L.map (·.2) := by
    rw [List.map_map]
    exact List.map_congr_left fun z hz => kOf_eq (ti_of (P := X.prog) (w := X.w) (R.tup z hz))
  have pk : (out.map (kOf s.heap)).Perm (L.map (·.2)) := by rw [← eL]; exact pm.map _
  have hlen : (out.map backV).length ≤ sizeLine := by
    have := R.few
    have := pm.length_eq
    rw [List.length_map] at this
    rw [List.length_map, sizeLine_eq]; omega
  have hv : Vals (out.map backV) out := vals_back fun u hu => by obtain ⟨z, _, e, _⟩ := mem u hu; exact ⟨_, e⟩
  have J : Inv X pins σ (upd H p (.lst (out.map backV))) { s with heap := s'.heap, gens := s'.gens, drawn := s'.drawn, toks := s'.toks } :=
    I.call (ch := []) (Un.laid k hp hn) (I.hok.laid k hp ⟨hlen, out, c, hv, hg⟩) (by rw [g]; exact I.bare) (fun _ z => nomatch z)
  have e : s' = { s with heap := s'.heap, gens := s'.gens, drawn := s'.drawn, toks := s'.toks } := by
    cases s'
    cases s
    cases o
    rfl
  rw [e]
  refine ⟨.ref p, _, J, rfl, q _ (out.map (kOf s.heap)) p (rpl_back fun u hu => ?_) ?_ (fun z => pk.mem_iff) hn⟩
  · obtain ⟨z, hz, e1, e2⟩ := mem u hu
    rw [e2, e1]
    exact hk z hz
  · have nd := pk.nodup_iff.mpr R.nd
    have pw' : (out.map (kOf s.heap)).Pairwise (fun a b => HT.lexLt b a = false) := List.pairwise_map.mpr (pw.imp fun {x y} z => z)
    refine List.Pairwise.imp (fun {a b} z => ?_) (List.pairwise_and_iff.mpr ⟨nd, pw'⟩)
    cases hq : HT.lexLt a b with
    | true => rfl
    | false => exact absurd (lex_anti _ _ hq z.2) z.1
end
def insKU (x : List Int) : List (List Int) → List (List Int)
  | [] => [x]
  | y :: ys => if HT.lexLt x y then x :: y :: ys else if HT.lexLt y x then y :: insKU x ys else y :: ys
def sortKU : List (List Int) → List (List Int)
  | [] => []
  | x :: xs => insKU x (sortKU xs)
theorem mem_insKU {x z : List Int} : ∀ {l : List (List Int)}, z ∈ insKU x l ↔ z = x ∨ z ∈ l
  | [] => by simp [insKU]
  | y :: ys => by
    unfold insKU
    split
    · simp
    · split
      · rw [List.mem_cons, mem_insKU, List.mem_cons]
        constructor
        · rintro (h | h | h)
          · exact .inr (.inl h)
          · exact .inl h
          · exact .inr (.inr h)
        · rintro (h | h | h)
          · exact .inr (.inl h)
          · exact .inl h
          · exact .inr (.inr h)
      · rename_i h1 h2
        have e := lex_anti x y (by simpa using h1) (by simpa using h2)
        subst e
        simp
theorem mem_sortKU {z : List Int} : ∀ {l : List (List Int)}, z ∈ sortKU l ↔ z ∈ l
  | [] => by simp [sortKU]
  | x :: xs => by rw [sortKU, mem_insKU, mem_sortKU, List.mem_cons]
theorem lex_lt_trans {a b c : List Int} (h1 : HT.lexLt a b = true) (h2 : HT.lexLt b c = true) : HT.lexLt a c = true := by
  cases h : HT.lexLt a c with
  | true => rfl
  | false =>
    have h3 := NtL.lex_tr b c a (NtL.lex_asym _ _ h2) h
    rw [h1] at h3
    cases h3
theorem pw_insKU {x : List Int} : ∀ {l : List (List Int)}, l.Pairwise (fun a b => HT.lexLt a b = true) → (insKU x l).Pairwise (fun a b => HT.lexLt a b = true)
  | [], _ => List.pairwise_singleton _ _
  | y :: ys, h => by
    obtain ⟨h1, h2⟩ := List.pairwise_cons.mp h
    unfold insKU
    split
    · rename_i hl
      refine List.pairwise_cons.mpr ⟨fun z hz => ?_, h⟩
      rcases List.mem_cons.mp hz with rfl | hz
      · exact hl
      · exact lex_lt_trans hl (h1 z hz)
    · split
      · rename_i hl
        refine List.pairwise_cons.mpr ⟨fun z hz => ?_, pw_insKU h2⟩
        rcases mem_insKU.mp hz with rfl | hz
        · exact hl
        · exact h1 z hz
      · exact h
theorem pw_sortKU : ∀ {l : List (List Int)}, (sortKU l).Pairwise (fun a b => HT.lexLt a b = true)
  | [] => List.Pairwise.nil
  | x :: xs => pw_insKU pw_sortKU
def fSortSetT (x : D) (M : List MO) : R D := match res M x with
  | .lst ds => match tks? ds with
    | some ks => if ks.length < 64 then .ok (.lst ((sortKU ks).map bs)) M else .stuck
    | none => .stuck
  | _ => .stuck
def fSortSetA (ds : List D) (M : List MO) : R D := match ds with
  | [x] => fSortSetT x M
  | _ => .stuck
section
variable {X : Cx} {W : WX}
theorem addrs_of {L : List Addr} {G : Hp} : ∀ {ks : List (List Int)} {vs : List V}, RpL (kx X) L G vs (ks.map bs) → ∃ ps : List (Addr × List Int), vs = ps.map (fun p => V.ref p.1) ∧ ps.map (·.2) = ks ∧ ∀ p ∈ ps, Rp (kx X) L G (.ref p.1) (bs p.2)
  | [], _, r => by cases r; exact ⟨[], rfl, rfl, fun _ h => by simp at h⟩
  | k :: ks, _, r => by
    cases r with
    | cons r1 r2 =>
      obtain ⟨ps, e1, e2, h⟩ := addrs_of r2
      obtain ⟨t, rfl, _⟩ := bs_sq r1
      refine ⟨(t, k) :: ps, by rw [e1]; rfl, by rw [List.map_cons, e2], fun p hp => ?_⟩
      rcases List.mem_cons.mp hp with rfl | hp
      · exact r1
      · exact h p hp
theorem pd_sortSetT {a : Expr} {p p2 q pos : Pos} {ea : EA} (hc : X.calm = true) (hm : X.mg "sorted" = none) (hm2 : X.mg "set" = none) (hu : X.A.units + 65 < cLine) (ha : PAD X W [a] ea) (hg : Gl X "sorted" := by rfl) (hg2 : Gl X "set" := by rfl)
    (na : starEach [a] X.env = (false, eval a X.env) :: starEach [] X.env := by rfl) (hpl : (backTo q (starEach [] X.env)).any (·.1) = false := by rfl)
    (na2 : starEach [.Call (.Name "set" p2) [a] [] q] X.env = (false, eval (.Call (.Name "set" p2) [a] [] q) X.env) :: starEach [] X.env := by rfl) (hpl2 : (backTo pos (starEach [] X.env)).any (·.1) = false := by rfl) :
    PD X W (.Call (.Name "sorted" p) [.Call (.Name "set" p2) [a] [] q] [] pos) (eArgs fSortSetA ea) := by
  obtain ⟨ta, pa, qa⟩ := ha
  refine ⟨_, pe_callB (cr_sortSL hc hu) hg hm (by decide +kernel) (pa_cons (pe_callTy (cr_setOfT hc (by omega)) hg2 hm2 (by decide +kernel) pa (by decide) (by decide) na hpl) pa_nil na2) (by decide) (by decide) na2 hpl2, fun F e M σ L G H Q o re h => ?_⟩
  refine qa F e M σ L G H _ o re ((Aft.bind h).imp fun ds M1 L1 G1 H1 o1 x1 h1 vs r => ?_)
  unfold fSortSetA at h1
  split at h1
  · rename_i x
    obtain ⟨v, rfl, rv⟩ := one r
    unfold fSortSetT at h1
    split at h1
    · rename_i es e1
      split at h1
      · rename_i ks hk
        split at h1
        · rename_i hl
          obtain ⟨l, ws, rfl, hq, rl⟩ := o1.viewL rv e1
          rw [tks_eq hk] at rl
          obtain ⟨ps, rfl, e2, hp⟩ := addrs_of rl
          refine ⟨l, ps, rfl, .inl (.inl hq), fun p hp' => ?_, by rw [← e2, List.length_map] at hl; exact hl, fun b S hb s1 s2 => ?_⟩
          · obtain ⟨t, e, hs⟩ := bs_sq (hp p hp')
            cases e
            exact Same.seqT o1.sub hs
          · refine ⟨F, L1, G1, M1, b, S, o1.lose hb, rfl, upd_same, fun p hp' => hp p (s1 p hp'), fun ys ks' p2 ry pw mem hp2 => ?_⟩
            have e3 : ks' = sortKU ks := pw_uniq (lt := fun a b => HT.lexLt a b = true) (fun x y a b => by rw [NtL.lex_asym _ _ a] at b; cases b) pw pw_sortKU fun k => by
              rw [mem k, mem_sortKU, ← e2]
              constructor
              · intro hk'
                obtain ⟨z, hz, ez⟩ := List.mem_map.mp hk'
                exact List.mem_map.mpr ⟨z, s1 z hz, ez⟩
              · intro hk'
                obtain ⟨z, hz, ez⟩ := List.mem_map.mp hk'
                have := s2 z hz
                rw [ez] at this
                exact this
            subst e3
            exact newL (o1.lose hb) ry h1 p2 hp2
        · exact h1.elim
      · exact h1.elim
    · exact h1.elim
  · exact h1.elim
end
end KB
namespace KB
open PySem PySem.Spec PyProof.Rows L2
/-! ### list.insert, list.pop(i) -/
def fInsert (o : D) (xs : List D) (M : List MO) : R D := match o, xs with
  | .cell n, [.int i, v] => match M[n]? with
    | some (.lst ds) => if ds.length < big ∧ 0 ≤ i ∧ i < 1000000 then .ok .non (M.set n (.lst (ds.take i.toNat ++ [v] ++ ds.drop i.toNat))) else .stuck
    | _ => .stuck
  | _, _ => .stuck
def fPop (o : D) (xs : List D) (M : List MO) : R D := match o, xs with
  | .cell n, [.int i] => match M[n]? with
    | some (.lst ds) => if 0 ≤ i ∧ i < 1000000 then match ds[i.toNat]? with
        | some d => .ok d (M.set n (.lst (ds.eraseIdx i.toNat)))
        | none => .stuck
      else .stuck
    | _ => .stuck
  | _, _ => .stuck
theorem RpL.eraseIdx {C : Kx} {L : List Addr} {G : Hp} {ds : List D} {vs : List V} (h : RpL C L G vs ds) (k : Nat) : RpL C L G (vs.eraseIdx k) (ds.eraseIdx k) := by
  rw [List.eraseIdx_eq_take_drop_succ, List.eraseIdx_eq_take_drop_succ]
  exact (h.take k).append (h.drop (k + 1))
section
variable {X : Cx} {W : WX}
theorem dInsert : MtD X W (fun x vs H Q => ∃ (l : Addr) (xs : List V) (i : Int) (y : V), x = .ref l ∧ vs = [.int i, y] ∧ H l = some (.lst xs) ∧ xs.length < sizeLine ∧ 0 ≤ i ∧ i < 2 ^ 63 ∧ Q .non (upd H l (.lst (xs.take i.toNat ++ [y] ++ xs.drop i.toNat)))) fInsert := by
  intro x vs dx ds M F L G H σ Q o rx r h
  unfold fInsert at h
  split at h
  · rename_i n i v
    obtain ⟨u1, u2, rfl, r1, r2⟩ := two r
    cases r1
    cases rx with
    | @cell a n hl =>
      obtain ⟨u, hu, ku⟩ := o.here hl
      rw [hu] at h
      cases u with
      | obj c fs => exact h.elim
      | lst es =>
        dsimp only at h
        obtain ⟨us, hv, rl⟩ := ku
        split at h
        · rename_i hz
          refine ⟨a, us, i, u2, rfl, rfl, hv, by rw [rl.length]; exact big_lt (Nat.le_of_lt hz.1), hz.2.1, by have := hz.2.2; omega, ?_⟩
          exact h L G _ (o.cellSet hl (((rl.take _).append (.cons r2 .nil)).append (rl.drop _))) (Ext.refl _ _) _ .non
        · exact h.elim
  · exact h.elim
theorem dPop : MtD X W rPopAt fPop := by
  intro x vs dx ds M F L G H σ Q o rx r h
  unfold fPop at h
  split at h
  · rename_i n i
    obtain ⟨u1, rfl, r1⟩ := one r
    cases r1
    cases rx with
    | @cell a n hl =>
      obtain ⟨u, hu, ku⟩ := o.here hl
      rw [hu] at h
      cases u with
      | obj c fs => exact h.elim
      | lst es =>
        dsimp only at h
        obtain ⟨us, hv, rl⟩ := ku
        split at h
        · rename_i hz
          cases hd : es[i.toNat]? with
          | none => rw [hd] at h; exact h.elim
          | some d =>
            rw [hd] at h
            dsimp only at h
            obtain ⟨y, hy, ry⟩ := rl.get hd
            have hlt : i.toNat < us.length := (List.getElem?_eq_some_iff.mp hy).1
            refine ⟨a, us, i, i.toNat, y, rfl, rfl, hv, by omega, by omega, ?_, hy, ?_⟩
            · unfold seqIndex?
              simp only []
              first
                | (rw [if_neg (by omega)]; simp; omega)
                | (simp; omega)
            · exact h L G _ (o.cellSet hl (rl.eraseIdx _)) (Ext.refl _ _) _ ry
        · exact h.elim
  · exact h.elim
theorem pd_insert {o a b : Expr} {apos cpos : Pos} {eo : EV} {ea : EA} (ho : PD X W o eo) (ha : PAD X W [a, b] ea)
    (hbase : attributeBase o "insert" X.env (eval o X.env) = eval o X.env := by rfl)
    (hfew : ((backTo cpos (starEach [a, b] X.env)).all (fun x => !x.1) && (backToKw cpos (keywordEach [] X.env)).all (fun x => x.1.isSome)
      && decide ([a, b].length + ([] : List Keyword).length + (if ([] : List Keyword).isEmpty then 0 else 1) < 30)) = true := by rfl)
    (hline : (apos.endLine == cpos.line) = true := by rfl) (hs : starEach [a, b] X.env = (false, eval a X.env) :: starEach [b] X.env := by rfl) (hpl : (backTo cpos (starEach [b] X.env)).any (·.1) = false := by rfl) : PD X W (.Call (.Attribute o "insert" apos) [a, b] [] cpos) (eMeth ckL fInsert eo ea) :=
  pd_meth PySem.F.plainAttrs_list PySem.F.slot_list_insert PySem.F.type_list_insert mt_insert ckL_ok dInsert ho ha hbase hfew hline hs hpl
theorem pd_pop {o a : Expr} {apos cpos : Pos} {eo : EV} {ea : EA} (ho : PD X W o eo) (ha : PAD X W [a] ea)
    (hbase : attributeBase o "pop" X.env (eval o X.env) = eval o X.env := by rfl)
    (hfew : ((backTo cpos (starEach [a] X.env)).all (fun x => !x.1) && (backToKw cpos (keywordEach [] X.env)).all (fun x => x.1.isSome)
      && decide ([a].length + ([] : List Keyword).length + (if ([] : List Keyword).isEmpty then 0 else 1) < 30)) = true := by rfl)
    (hline : (apos.endLine == cpos.line) = true := by rfl) (hs : starEach [a] X.env = (false, eval a X.env) :: starEach [] X.env := by rfl) : PD X W (.Call (.Attribute o "pop" apos) [a] [] cpos) (eMeth ckL fPop eo ea) :=
  pd_meth PySem.F.plainAttrs_list PySem.F.slot_list_pop PySem.F.type_list_pop (MtM.mtr mt_popAt) ckL_ok dPop ho ha hbase hfew hline hs rfl
end
/-! ### two clauses: [el for x in cell for y in list if ..] -/
def tiOf (X : Cx) (W : WX) (ev : EI) : TI := fun σ H Rq => ∃ F e M L G, Ok (kx X) F L G M H ∧ RpE (kx X) L G σ e ∧
  Aft X W F σ (fun s M1 L1 G1 H1 => ∀ J G2 H2, Ok (kx X) F L1 G2 M1 H2 → Ext L1 G1 L1 G2 → SrcOk X L1 G2 J s → Rq J H2) L G (ev e M)
theorem PID.pi {X : Cx} {W : WX} {tg iter : Expr} {ev : EI} (h : PID X W tg iter ev) : PI X tg iter (tiOf X W ev) := by
  obtain ⟨t, p, q⟩ := h
  refine ⟨fun pins s σ H Q I z => ?_⟩
  obtain ⟨F, e, M, L, G, o, re, a⟩ := z
  exact p.run pins s σ H Q I (q F e M σ L G H Q o re a)
def compC2 (g : GV) (src1 : EI) (vs1 : List Nat) (g1 : GV) (t1 : EB) (el : EV) (e : EN) (n : Nat) : Nat → Nat → List D → List MO → R (List D)
  | 0, _, _, _ => .stuck
  | m + 1, i, acc, M => match M[n]? with
    | some (.lst ds) => match ds[i]? with
      | some d => match g d e with
        | some e1 => (src1 e1 M).nox fun s M1 => match s with
          | .snap ds1 => (compL g1 t1 el (wipeE e1 vs1) ds1 acc M1).bind (compC2 g src1 vs1 g1 t1 el e n m (i + 1))
          | _ => .stuck
        | none => .stuck
      | none => .ok acc M
    | _ => .stuck
def eLc2A (src : EI) (g : GV) (vs : List Nat) (src1 : EI) (vs1 : List Nat) (g1 : GV) (t1 : EB) (el : EV) : EA := fun e M => (src e M).bind fun s M1 => match s with
  | .cel n => compC2 g src1 vs1 g1 t1 el (wipeE e vs) n fuel 0 [] M1
  | _ => .stuck
theorem R.nox_bind {α β γ : Type} (r : R α) (f : α → List MO → R β) (k : β → List MO → R γ) : (r.nox f).bind k = r.nox fun a M => (f a M).bind k := by
  cases r <;> rfl
section
variable {X : Cx} {W : WX}
theorem inner_it {J : It} {n : Nat} {Gd : Hp → Prop} {Y : Nat → Hp → V → Hp → Prop} (w : Walk J n Gd Y) {g : TG} {tt : TT} {te : TE} {vs : List Nat} {σ : L2.St} {H1 : Hp} {Da : Addr} {Qd : Hp → Prop} (Pv : Nat → Hp → Prop) (h0 : Pv 0 H1) (hG : ∀ i H, i ≤ n → Pv i H → Gd H)
    (hs : ∀ i x H H', i < n → Pv i H → Y i H x H' → g x (wipe σ vs) H' fun σ2 H2 => wipe σ2 vs = wipe σ vs ∧ tt σ2 H2 fun b H3 =>
      if b = true then te σ2 H3 fun y H4 => ∃ acc, H4 Da = some (.lst acc) ∧ acc.length < sizeLine ∧ Pv (i + 1) (upd H4 Da (.lst (acc ++ [y]))) else Pv (i + 1) H3) (hd : ∀ H, Pv n H → Qd H) :
    ∃ W : Nat → Nat → Hp → Prop, (∃ m, W 0 m H1) ∧ ∀ i m H, W i m H →
      (J.stop i H ∧ Qd H) ∨ (J.go i H ∧ ∃ Nx : Hp → Prop, (∀ H', Nx H' → ∃ m', m' < m ∧ W (i + 1) m' H') ∧ ∀ x H', J.yld i H x H' → g x (wipe σ vs) H' fun σ2 H2 => wipe σ2 vs = wipe σ vs ∧ tt σ2 H2 fun b H3 =>
        if b = true then te σ2 H3 fun y H4 => ∃ acc, H4 Da = some (.lst acc) ∧ acc.length < sizeLine ∧ Nx (upd H4 Da (.lst (acc ++ [y]))) else Nx H3) := by
  refine ⟨fun i m H => m = n - i ∧ i ≤ n ∧ Pv i H, ⟨n, by simp, Nat.zero_le _, h0⟩, ?_⟩
  rintro i m H ⟨rfl, hi, p⟩
  have q := hG i H hi p
  by_cases hlt : i < n
  · refine .inr ⟨w.goes i H hlt q, Pv (i + 1), fun H' p' => ⟨n - (i + 1), by omega, rfl, hlt, p'⟩, fun x H' y => hs i x H H' hlt p (w.yields i H x H' hlt q y)⟩
  · have e : i = n := by omega
    subst e
    exact .inl ⟨w.stops H q, hd H p⟩
theorem hoLc2 {wi : TI} {src src1 : EI} {is is1 vs vs1 : List Nat} {g g1 : GV} {et : EB} {el : EV} (hi : HoI X W wi src) (hv : ∀ i ∈ is, i ∈ vs) (hv1 : ∀ i ∈ is1, i ∈ vs1) :
    ∀ (F : Hp) (e : EN) (M : List MO) (σ : L2.St) (L : List Addr) (G H : Hp) (Q : VK), Ok (kx X) F L G M H → RpE (kx X) L G σ e →
    Aft X W F σ (kL X F Q) L G (eLc2A src g vs src1 vs1 g1 et el e M) →
    tLc2 wi (tgOf X is g) (tbOf X W0 eYes) (tiOf X W0 src1) (tgOf X is1 g1) (tbOf X W0 et) (teOf X W0 el) vs vs1 σ H Q := by
  intro F e M σ L G H Q o re h
  refine hi F e M σ L G H _ o re ((Aft.bind h).imp fun s M1 L1 G1 H1 o1 x1 h1 J G2 H2 o2 x2 wk => ?_)
  intro Da hD
  have re2 := (re.mono x1).mono x2
  have h2 := Aft.mono h1 x2
  have hFD : F Da = none := o2.freshF hD
  have o3 := o2.openF (u := .lst []) hD
  have rw2 : RpE (kx X) L1 G2 (wipe σ vs) (wipeE e vs) := re2.wipe vs
  cases s with
  | snap ds => exact h2.elim
  | cel n =>
    obtain ⟨a, ha, rfl⟩ := wk
    refine ⟨fun i m H' => ∃ acc us M' L' G', Ok (kx X) (upd F Da (.lst us)) L' G' M' H' ∧ Ext L1 G2 L' G' ∧ RpL (kx X) L' G' us acc ∧
        Aft X W F σ (kL X F Q) L' G' (compC2 g src1 vs1 g1 et el (wipeE e vs) n m i acc M'), ⟨fuel, [], [], M1, L1, G2, o3, Ext.refl _ _, .nil, h2⟩, ?_⟩
    rintro i m H' ⟨acc, us, M', L', G', o', x', ra, h'⟩
    cases m with
    | zero => exact h'.elim
    | succ m =>
      obtain ⟨u, hu, ku⟩ := o'.here (x'.at ha)
      unfold compC2 at h'
      rw [hu] at h'
      cases u with
      | obj c fs => exact h'.elim
      | lst ds =>
        obtain ⟨ws, hv', rv⟩ := ku
        dsimp only at h'
        cases hd : ds[i]? with
        | none =>
          rw [hd] at h'
          refine .inl ⟨⟨ws, .inl (.inl hv'), ?_⟩, h' L' G' H' (o'.dropF hFD) (Ext.refl _ _) Da us H' hFD o' ra⟩
          rw [rv.length]; exact List.getElem?_eq_none_iff.mp hd
        | some d =>
          rw [hd] at h'
          dsimp only at h'
          obtain ⟨v, hv1', rv1⟩ := rv.get hd
          refine .inr ⟨⟨ws, v, .inl (.inl hv'), hv1'⟩, _, fun H5 n5 => ⟨m, Nat.lt_succ_self m, n5⟩, fun x H3 y => ?_⟩
          obtain ⟨rfl, y⟩ := y
          have ex : x = v := Option.some.inj ((y ws (.inl (.inl hv'))).symm.trans hv1')
          subst ex
          split at h'
          · rename_i e1 he
            refine ⟨_, _, _, e1, M', L', G', o', rw2.mono x', rv1, he, fun σ4 re4 u4 => ⟨wipe_upd u4 hv, ?_⟩⟩
            refine ⟨_, e1, M', L', G', o', re4, fun L5 G5 H5 o5 x5 => ?_⟩
            dsimp only [kB]
            rw [if_pos rfl]
            refine ⟨_, e1, M', L5, G5, o5, re4.mono x5, ?_⟩
            refine ((Aft.nox (σ' := σ4) (Aft.mono h' x5)).reF fun _ _ _ _ => Ok.dropF hFD).imp fun s M6 L6 G6 H6 o6 x6 h7 J1 G7 H7 o7 x7 wk1 => ?_
            cases s with
            | cel k => exact h7.elim
            | snap ds1 =>
              obtain ⟨Gd, Y, wk1, hG, hY⟩ := wk1
              have h8 := Aft.mono h7 x7
              have rw3 : RpE (kx X) L6 G7 (wipe σ4 vs1) (wipeE e1 vs1) := ((re4.mono x5).mono (x6.trans x7)).wipe vs1
              refine inner_it wk1 (fun j H' => ∃ acc' us' M'' L'' G'', Ok (kx X) (upd F Da (.lst us')) L'' G'' M'' H' ∧ Ext L6 G7 L'' G'' ∧ RpL (kx X) L'' G'' us' acc' ∧
                Aft X W F σ (kL X F Q) L'' G'' ((compL g1 et el (wipeE e1 vs1) (ds1.drop j) acc' M'').bind (compC2 g src1 vs1 g1 et el (wipeE e vs) n m (i + 1))))
                ⟨acc, us, M6, L6, G7, o7, Ext.refl _ _, (ra.mono x5).mono (x6.trans x7), h8⟩ ?_ ?_ ?_
              · rintro j H' _ ⟨acc', us', M'', L'', G'', o'', x'', _, _⟩
                exact hG _ L'' G'' M'' H' o'' x''
              · rintro j x H' H8 hlt ⟨acc', us', M'', L'', G'', o'', x'', ra', h''⟩ y
                have hd1 : ds1[j]? = some ds1[j] := List.getElem?_eq_getElem hlt
                obtain ⟨G9, o9, x9, r9⟩ := hY j _ x _ L'' G'' M'' H' H8 hd1 o'' x'' y
                rw [List.drop_eq_getElem_cons hlt] at h''
                unfold compL at h''
                split at h''
                · rename_i e3 he3
                  rw [R.nox_bind] at h''
                  refine ⟨_, _, _, e3, M'', L'', G9, o9, (rw3.mono x'').mono x9, r9, he3, fun σ5 re5 u5 => ⟨wipe_upd u5 hv1, ?_⟩⟩
                  refine ⟨_, e3, M'', L'', G9, o9, re5, ?_⟩
                  refine ((Aft.nox (σ' := σ5) (Aft.mono h'' x9)).reF fun _ _ _ _ => Ok.dropF hFD).imp fun b MA LA GA HA oA xA hA => ?_
                  dsimp only [kB]
                  cases b with
                  | true =>
                    rw [if_pos rfl]
                    simp only [if_true] at hA
                    rw [R.nox_bind] at hA
                    refine ⟨_, e3, MA, LA, GA, oA, re5.mono xA, ?_⟩
                    refine ((Aft.nox (σ' := σ5) hA).reF fun _ _ _ _ => Ok.dropF hFD).imp fun y MB LB GB HB oB xB hB v r => ?_
                    split at hB
                    · rename_i hbig
                      exact ⟨us', oB.fs Da _ upd_same, by rw [ra'.length]; exact big_lt (Nat.le_of_lt hbig), acc' ++ [y], us' ++ [v], MB, LB, GB, oB.turnF, ((x''.trans x9).trans xA).trans xB, (((ra'.mono x9).mono xA).mono xB).append (.cons r .nil), hB⟩
                    · exact hB.elim
                  | false =>
                    rw [if_neg Bool.false_ne_true]
                    simp only [Bool.false_eq_true, if_false] at hA
                    exact ⟨acc', us', MA, LA, GA, oA, (x''.trans x9).trans xA, (ra'.mono x9).mono xA, hA⟩
                · exact h''.elim
              · rintro H' ⟨acc', us', M'', L'', G'', o'', x'', ra', h''⟩
                rw [List.drop_length] at h''
                exact ⟨acc', us', M'', L'', G'', o'', (((x'.trans x5).trans x6).trans x7).trans x'', ra', h''⟩
          · exact h'.elim
theorem pd_lc2 {elt tg iter tg1 iter1 : Expr} {ifs1 : List Expr} {scope : Scope} {pos : Pos} {src src1 : EI} {is is1 : List Nat} {g g1 : GV} {et : EB} {el : EV} (own : List (Str × Nat)) (vs1 : List Nat) (hc : X.calm = true) (hN : X.N.Nodup) (hi : PID X W tg iter src)
    (ok : BlkOk X.N X.env.scope scope own) (hv : ∀ i ∈ is, i ∈ own.map (·.2)) (hv1 : ∀ i ∈ is1, i ∈ vs1) (hvo : ∀ i ∈ vs1, i ∈ own.map (·.2))
    (hg : ∀ (s : Shared) (H : Hp) (C : Addr) (cl : List (Str × Addr)) (fp : List Addr), PGD (X.blk s H scope (compEnvC scope cl C X.env) fp) tg is g)
    (hi1 : ∀ (s : Shared) (H : Hp) (C : Addr) (cl : List (Str × Addr)) (fp : List Addr), PID (X.blk s H scope (compEnvC scope cl C X.env) fp) W0 tg1 iter1 src1)
    (hg1 : ∀ (s : Shared) (H : Hp) (C : Addr) (cl : List (Str × Addr)) (fp : List Addr), PGD (X.blk s H scope (compEnvC scope cl C X.env) fp) tg1 is1 g1)
    (ht1 : ∀ (s : Shared) (H : Hp) (C : Addr) (cl : List (Str × Addr)) (fp : List Addr), PTs (X.blk s H scope (compEnvC scope cl C X.env) fp) ifs1 (tbOf X W0 et))
    (he : ∀ (s : Shared) (H : Hp) (C : Addr) (cl : List (Str × Addr)) (fp : List Addr), PD (X.blk s H scope (compEnvC scope cl C X.env) fp) W0 elt el)
    (hs : ∀ x, foldedSetIterable iter X.env x = pure x := by intro _; rfl) (hs1 : ∀ env x, foldedSetIterable iter1 env x = pure x := by intro _ _; rfl) :
    PD X W (.ListComp elt [⟨tg, iter, [], 0⟩, ⟨tg1, iter1, ifs1, 0⟩] scope pos) (eArgs fLst' (eLc2A src g (own.map (·.2)) src1 vs1 g1 et el)) := by
  obtain ⟨wi, pi, qi⟩ := hi
  refine ⟨_, pe_lc2 (g := tgOf X is g) (tt := tbOf X W0 eYes) (wi1 := tiOf X W0 src1) (g1 := tgOf X is1 g1) (tt1 := tbOf X W0 et) (te := teOf X W0 el) hc hN pi ok hvo (fun s H C cl fp => (hg s H C cl fp).pg) (fun s H C cl fp => ptsd_nil) (fun s H C cl fp => (hi1 s H C cl fp).pi) (fun s H C cl fp => (hg1 s H C cl fp).pg) ht1 (fun s H C cl fp => (he s H C cl fp).pe) hs hs1, fun F e M σ L G H Q o re h => ?_⟩
  exact hoLc2 qi hv hv1 F e M σ L G H Q o re (kL_lst h)
end
end KB
namespace KB
open PySem PySem.Spec PyProof.Rows L2
/-! ### len(o) by an own __len__ -/
def rLenO (A : Addr) (sp : Sp) : List V → Hp → VK → Prop := fun xs H Q => ∃ a dx fs, xs = [.ref a] ∧ H a = some (.ins A dx fs) ∧ sp [.ref a] H (fun v H2 => ∃ n : Int, v = .int n ∧ 0 ≤ n ∧ n < 2 ^ 63 ∧ Q (.int n) H2) (fun _ _ _ => False)
theorem cx_no' {P : Program} {w : World} {st : List Env} {H : Hp} {s : Shared} {e : Value} {s' : Shared} (h : L2.CX P w st H s (fun _ _ _ => False) e s') : False := by
  obtain ⟨_, _, _, _, _, _, _, _, _, _, _, _, z⟩ := h
  exact z.elim
section
variable {X : Cx} {W : WX}
theorem call_lenO {k : Nat} {f A : Addr} {fd : FuncData} {ps : List Str} {sp : Sp} (hm : Meth X.K A "__len__" f) (F : FnOk X.prog X.w X.K X.mg X.base (L2.CX X.prog X.w) k f fd ps sp) (hr : Room (k + 1) X.A) (hb : Binds X.K fd ps []) : CallR X (.builtin "len") (rLenO A sp) := by
  intro pins s σ H xs us Q I r h
  obtain ⟨a, dx, fs, rfl, hH, q⟩ := h
  rw [Vals.ref1 r]
  obtain ⟨mA, O, _, _, _, _⟩ := ins_get I.hok hH
  obtain ⟨od, J, hl⟩ := O.look
  refine Calls.call_function_entry kind_len plain_len entry_len (args_len1 _) ?_
  unfold Builtin.«len»
  refine wpAny_bind (m := oneArg "len" _) (wpAny_pure ?_)
  have lenEq : ([V.ref a] : List V).length = ps.length := F.len _ _ _ _ q
  have b := hb s [.ref a] I.kIn (by rw [List.append_nil]; exact lenEq)
  rw [List.append_nil] at b
  have hcall : wpAny (model X.prog X.w) X.A.in1 (call (.ref f) [.ref a]) (EP X pins σ fun v H2 => ∃ n : Int, v = .int n ∧ 0 ≤ n ∧ n < 2 ^ 63 ∧ Q (.int n) H2) X.xe s := by
    refine wpAny_call (codeAny_mono (F.run X.A.in1 X.stack s H ⟨[.ref a], []⟩ [.ref a] [.ref a] _ (fun _ _ _ => False) hr.in1 I.env0.in1 b (.cons rfl .nil) q) fun r s' hq => ?_)
    cases r with
    | error e => exact (cx_no' hq).elim
    | ok fl =>
      cases fl with
      | ret u => exact I.after hq
      | next => exact False.elim hq
      | brk => exact False.elim hq
      | cont => exact False.elim hq
  refine wpAny_bind (m := callSpecial? (.ref a) (Str.ofString "__len__")) (PySem.W.special_fn I.kIn J hm.at_ (beq_iff_eq.mp hm.fn) (wpAny_mono hcall (fun r s' hr => ?_) fun _ _ y => y))
  obtain ⟨v, H', I', rv, n, rfl, h0, h1, hq⟩ := hr
  obtain ⟨t, rfl⟩ := rv
  refine wpAny_bind (wpAny_holding (wpAny_pure ?_))
  refine wpAny_bind (wpAny_letGo ?_)
  show wpAny _ _ (if n < 0 then _ else _) _ _ _
  rw [if_neg (by omega)]
  show wpAny _ _ (if n ≥ 2 ^ 63 then _ else _) _ _ _
  rw [if_neg (by omega)]
  exact wpAny_bind (wpAny_mkInt (wpAny_pure ⟨_, rfl, .int n, H', I'.tok _, ⟨_, rfl⟩, hq⟩))
end
def eLenO (c : Str) (m : List D → List MO → R D) (ea : EA) : EV := fun e M => (ea e M).bind fun ds M1 => match ds with
  | [o] => match objAt c o M1 with
    | some _ => (m [o] M1).nox fun d M2 => match d with
      | .int i => if 0 ≤ i ∧ i ≤ 1000000000 then .ok (.int i) M2 else .stuck
      | _ => .stuck
    | none => .stuck
  | _ => .stuck
section
variable {X : Cx} {W : WX}
theorem pd_lenO {c : Str} {k k' : Nat} {m : List D → List MO → R D} {a : Expr} {ea : EA} {p pos : Pos} (h : HasM X.prog X.w (kx X) X.base c "__len__" k m) (hr : Room k' X.A) (hmg : X.mg "len" = none) (ha : PAD X W [a] ea) (hk' : k + 1 ≤ k' := by decide) (hg : Gl X "len" := by rfl)
    (hs : starEach [a] X.env = (false, eval a X.env) :: starEach [] X.env := by rfl) (hpl : (backTo pos (starEach [] X.env)).any (·.1) = false := by rfl) : PD X W (.Call (.Name "len" p) [a] [] pos) (eLenO c m ea) := by
  obtain ⟨A, f, fd, ps, F, hA, cl, hm, hb⟩ := h.ex
  obtain ⟨t, pt, q⟩ := ha
  refine ⟨_, pe_callB (call_lenO hm F (hr.mono hk') hb) hg hmg (by decide +kernel) pt (by decide) (by decide) hs hpl, fun F e M σ L G H Q o re h => ?_⟩
  refine q F e M σ L G H _ o re ((Aft.bind h).imp fun ds M1 L1 G1 H1 o1 x1 h1 vs r => ?_)
  split at h1
  · rename_i d
    obtain ⟨v, rfl, rv⟩ := one r
    split at h1
    · rename_i nf hO
      obtain ⟨n, fs⟩ := nf
      obtain ⟨b, A', dx, fv, rfl, hl, hm', hH, e1, e2⟩ := o1.viewO rv hO
      rw [show (kx X).mg c = some (.ref A) from hA] at hm'
      cases hm'
      refine ⟨b, dx, fv, rfl, hH, F, L1, G1, M1, [d], o1, .cons rv .nil, ?_⟩
      cases hmm : m [d] M1 with
      | ok d' M' =>
        rw [hmm] at h1
        simp only [R.nox_ok] at h1
        intro v' L' G' H' o' x' r'
        cases d' with
        | int i =>
          cases r'
          dsimp only at h1
          split at h1
          · rename_i hi
            exact ⟨i, rfl, hi.1, by have := hi.2; omega, h1 L' G' H' o' x' _ (.int i)⟩
          · exact h1.elim
        | _ => exact h1.elim
      | exc c' M' => rw [hmm] at h1; exact h1.elim
      | stuck => rw [hmm] at h1; exact h1.elim
    · exact h1.elim
  · exact h1.elim
end
/-! ### texts -/
def strs? : List D → Option (List Str)
  | [] => some []
  | .str s :: r => (strs? r).map (s :: ·)
  | _ :: _ => none
theorem strs_V {C : Kx} {L : List Addr} {G : Hp} : ∀ {ds : List D} {vs : List V} {ss : List Str}, RpL C L G vs ds → strs? ds = some ss → vs = ss.map V.str
  | [], _, ss, h, e => by cases h; simp [strs?] at e; subst e; rfl
  | d :: ds, _, ss, h, e => by
    cases h with
    | cons h1 h2 =>
      cases d <;> simp [strs?] at e
      rename_i s
      obtain ⟨ts, e1, rfl⟩ := e
      cases h1
      rw [strs_V h2 e1]; rfl
theorem rp_strs {C : Kx} {L : List Addr} {G : Hp} : ∀ ss : List Str, RpL C L G (ss.map V.str) (ss.map D.str)
  | [] => .nil
  | s :: ss => .cons (.str s) (rp_strs ss)
def fJoin (o : D) (xs : List D) (M : List MO) : R D := match o, xs with
  | .str a, [x] => match res M x with
    | .lst ds => match strs? ds with
      | some ys => if (ys.map (·.length)).sum + ys.length * a.length ≤ big then .ok (.str (Txt.join a ys)) M else .stuck
      | none => .stuck
    | .tup ds => match strs? ds with
      | some ys => if (ys.map (·.length)).sum + ys.length * a.length ≤ big then .ok (.str (Txt.join a ys)) M else .stuck
      | none => .stuck
    | _ => .stuck
  | _, _ => .stuck
def fSplit (o : D) (xs : List D) (M : List MO) : R D := match o, xs with
  | .str a, [.str b] => if (b.length == 0) = false ∧ a.length ≤ big then .ok (.lst ((Txt.split a b).map .str)) M else .stuck
  | _, _ => .stuck
def fIndexS (o : D) (xs : List D) (M : List MO) : R D := match o, xs with
  | .str a, [.str b] => match Txt.index0 a b with
    | some k => .ok (.int (k : Nat)) M
    | none => .stuck
  | _, _ => .stuck
theorem sq_of {K : PySem.W.Frag} {H : Hp} {a : Addr} {xs : List V} (h : H a = some (.lst xs)) : SqL K H a xs := .inl (.inl h)
section
variable {X : Cx} {W : WX}
theorem dJoin : MtD X W (fun x xs H Q => ∃ a p, ∃ ys : List Str, x = .str a ∧ xs = [.ref p] ∧ (SqL X.K H p (ys.map V.str) ∨ SqT X.K H p (ys.map V.str)) ∧ (ys.map (·.length)).sum + ys.length * a.length ≤ 16777216 ∧ Q (.str (Txt.join a ys)) H) fJoin := by
  intro x vs dx ds M F L G H σ Q o rx r h
  unfold fJoin at h
  split at h
  · rename_i a y
    obtain ⟨v, rfl, rv⟩ := one r
    cases rx
    split at h
    · rename_i es e1
      split at h
      · rename_i ys hy
        split at h
        · rename_i hz
          obtain ⟨p, ws, rfl, hq, hl⟩ := o.viewL rv e1
          rw [strs_V hl hy] at hq
          exact ⟨a, p, ys, rfl, rfl, .inl (sq_of hq), by unfold big at hz; omega, aok h o _ (.str _)⟩
        · exact h.elim
      · exact h.elim
    · rename_i es e1
      split at h
      · rename_i ys hy
        split at h
        · rename_i hz
          obtain ⟨p, ws, rfl, hq, hl⟩ := o.viewT rv e1
          rw [strs_V hl hy] at hq
          exact ⟨a, p, ys, rfl, rfl, .inr hq, by unfold big at hz; omega, aok h o _ (.str _)⟩
        · exact h.elim
      · exact h.elim
    · exact h.elim
  · exact h.elim
theorem dSplit : MtD X W (fun x xs H Q => ∃ a b, x = .str a ∧ xs = [.str b] ∧ (b.length == 0) = false ∧ a.length + 2 ≤ sizeLine ∧ rNewStrs (Txt.split a b) H Q) fSplit := by
  intro x vs dx ds M F L G H σ Q o rx r h
  unfold fSplit at h
  split at h
  · rename_i a b
    obtain ⟨v, rfl, rv⟩ := one r
    cases rx
    cases rv
    split at h
    · rename_i hz
      refine ⟨a, b, rfl, rfl, hz.1, ?_, fun p hp => newL o (rp_strs _) h p hp⟩
      have := hz.2
      unfold big at this
      rw [sizeLine_eq]
      omega
    · exact h.elim
  · exact h.elim
theorem pd_join {o a : Expr} {apos cpos : Pos} {eo : EV} {ea : EA} (ho : PD X W o eo) (ha : PAD X W [a] ea)
    (hbase : attributeBase o "join" X.env (eval o X.env) = eval o X.env := by rfl)
    (hfew : ((backTo cpos (starEach [a] X.env)).all (fun x => !x.1) && (backToKw cpos (keywordEach [] X.env)).all (fun x => x.1.isSome)
      && decide ([a].length + ([] : List Keyword).length + (if ([] : List Keyword).isEmpty then 0 else 1) < 30)) = true := by rfl)
    (hline : (apos.endLine == cpos.line) = true := by rfl) (hs : starEach [a] X.env = (false, eval a X.env) :: starEach [] X.env := by rfl) : PD X W (.Call (.Attribute o "join" apos) [a] [] cpos) (eMeth ckS fJoin eo ea) :=
  pd_meth PySem.F.plainAttrs_str PySem.F.slot_str_join PySem.F.type_str_join mt_join ckS_ok dJoin ho ha hbase hfew hline hs rfl
theorem pd_split {o a : Expr} {apos cpos : Pos} {eo : EV} {ea : EA} (ho : PD X W o eo) (ha : PAD X W [a] ea)
    (hbase : attributeBase o "split" X.env (eval o X.env) = eval o X.env := by rfl)
    (hfew : ((backTo cpos (starEach [a] X.env)).all (fun x => !x.1) && (backToKw cpos (keywordEach [] X.env)).all (fun x => x.1.isSome)
      && decide ([a].length + ([] : List Keyword).length + (if ([] : List Keyword).isEmpty then 0 else 1) < 30)) = true := by rfl)
    (hline : (apos.endLine == cpos.line) = true := by rfl) (hs : starEach [a] X.env = (false, eval a X.env) :: starEach [] X.env := by rfl) : PD X W (.Call (.Attribute o "split" apos) [a] [] cpos) (eMeth ckS fSplit eo ea) :=
  pd_meth PySem.F.plainAttrs_str PySem.F.slot_str_split PySem.F.type_str_split mt_split ckS_ok dSplit ho ha hbase hfew hline hs rfl
theorem pd_indexS {o a : Expr} {apos cpos : Pos} {eo : EV} {ea : EA} (hc : X.calm = true) (tk : Takes X W) (ho : PD X W o eo) (ha : PAD X W [a] ea)
    (hbase : attributeBase o "index" X.env (eval o X.env) = eval o X.env := by rfl)
    (hfew : ((backTo cpos (starEach [a] X.env)).all (fun x => !x.1) && (backToKw cpos (keywordEach [] X.env)).all (fun x => x.1.isSome)
      && decide ([a].length + ([] : List Keyword).length + (if ([] : List Keyword).isEmpty then 0 else 1) < 30)) = true := by rfl)
    (hline : (apos.endLine == cpos.line) = true := by rfl) (hs : starEach [a] X.env = (false, eval a X.env) :: starEach [] X.env := by rfl) (hpl : (backTo cpos (starEach [] X.env)).any (·.1) = false := by rfl) : PD X W (.Call (.Attribute o "index" apos) [a] [] cpos) (eMeth ckS fIndexS eo ea) := by
  obtain ⟨to, po, qo⟩ := ho
  obtain ⟨ta, pa', qa⟩ := ha
  refine ⟨_, pe_bmS PySem.F.plainAttrs_str PySem.F.slot_str_index PySem.F.type_str_index (mt_indexX hc tk) po pa' hbase hfew hline hs hpl, fun F e M σ L G H Q o re h => ?_⟩
  refine qo F e M σ L G H _ o re ((Aft.bind h).imp fun d M1 L1 G1 H1 o1 x1 h1 v r => ?_)
  split at h1
  · rename_i hck
    refine ⟨ckS_ok F L1 G1 H1 M1 v d o1 r hck, ?_⟩
    refine qa F e M1 σ L1 G1 H1 _ o1 (re.mono x1) ((Aft.bind h1).imp fun ds M2 L2 G2 H2 o2 x2 h2 vs rs => ?_)
    unfold fIndexS at h2
    split at h2
    · rename_i a b
      obtain ⟨w, rfl, rw'⟩ := one rs
      cases r
      cases rw'
      refine ⟨a, b, rfl, rfl, fun k hk => ?_, fun hn => ?_⟩
      · rw [hk] at h2
        exact aok h2 o2 _ (.int _)
      · rw [hn] at h2; exact h2.elim
    · exact h2.elim
  · exact h1.elim
end
/-! ### for sign in text; range(a, b, c) -/
def signs (z : Str) : List D := z.cps.toList.map fun c => .str ⟨#[c]⟩
def eStrI (ev : EV) : EI := fun e M => (ev e M).bind fun d M1 => match d with
  | .str z => .ok (.snap (signs z)) M1
  | _ => .stuck
def rangeC (lo c : Int) (n : Nat) : List D := (List.range n).map fun i => .int (lo + (i : Nat) * c)
def eRange3 (ea : EA) : EI := fun e M => (ea e M).bind fun ds M1 => match ds with
  | [.int i, .int j, .int c] => if c ≠ 0 ∧ c.natAbs < 1073741824 ∧ Builtin.Range.small i j c = true ∧ 0 ≤ Builtin.Range.rangeSize i j c then .ok (.snap (rangeC i c (Builtin.Range.rangeSize i j c).toNat)) M1 else .stuck
  | _ => .stuck
section
variable {X : Cx} {W : WX}
theorem wk_str {L : List Addr} {G : Hp} (z : Str) : WkOk X L G (Its z) (signs z) := by
  have hl : (signs z).length = z.cps.size := by simp [signs]
  refine ⟨_, _, by rw [hl]; exact walk_str (z := z), fun F' L' G' M' H' o x => trivial, ?_⟩
  rintro i d x F' L' G' M' H' H2 hd o e ⟨rfl, c, hc, rfl⟩
  unfold signs at hd
  rw [List.getElem?_map, show z.cps.toList[i]? = z.cps[i]? from by simp, hc] at hd
  cases hd
  exact ⟨G', o, Ext.refl _ _, .str _⟩
theorem pid_str {tg l : Expr} {ev : EV} (h : PD X W l ev) : PID X W tg l (eStrI ev) := by
  obtain ⟨t, p, q⟩ := h
  refine ⟨_, pi_str p, fun F e M σ L G H Rq o re h => ?_⟩
  refine q F e M σ L G H _ o re ((Aft.bind h).imp fun d M1 L1 G1 H1 o1 x1 h1 v r => ?_)
  split at h1
  · rename_i z
    cases r
    exact ⟨z, rfl, h1 L1 G1 H1 o1 (Ext.refl _ _) _ G1 H1 o1 (Ext.refl _ _) (wk_str z)⟩
  · exact h1.elim
theorem wk_rangeC {L : List Addr} {G : Hp} (lo c : Int) (n : Nat) : WkOk X L G (Itc lo c n) (rangeC lo c n) := by
  have hl : (rangeC lo c n).length = n := by simp [rangeC]
  refine ⟨_, _, by rw [hl]; exact walk_rangeC (lo := lo) (c := c) (n := n), fun F' L' G' M' H' o x => trivial, ?_⟩
  rintro i d x F' L' G' M' H' H2 hd o e ⟨rfl, rfl⟩
  unfold rangeC at hd
  rw [List.getElem?_map] at hd
  have hi : i < n := by
    cases q : (List.range n)[i]? with
    | none => rw [q] at hd; cases hd
    | some z => have := (List.getElem?_eq_some_iff.mp q).1; simpa using this
  rw [List.getElem?_range hi] at hd
  cases hd
  exact ⟨G', o, Ext.refl _ _, .int _⟩
theorem pid_range3 {tg a b c : Expr} {ea : EA} {p pos : Pos} (hm : X.mg "range" = none) (ha : PAD X W [a, b, c] ea) (hg : Gl X "range" := by rfl)
    (hs : starEach [a, b, c] X.env = (false, eval a X.env) :: starEach [b, c] X.env := by rfl) (hpl : (backTo pos (starEach [b, c] X.env)).any (·.1) = false := by rfl) : PID X W tg (.Call (.Name "range" p) [a, b, c] [] pos) (eRange3 ea) := by
  obtain ⟨t, pa, q⟩ := ha
  refine ⟨_, pi_range3 hg hm pa hs hpl, fun F e M σ L G H Rq o re h => ?_⟩
  refine q F e M σ L G H _ o re ((Aft.bind h).imp fun ds M1 L1 G1 H1 o1 x1 h1 vs r => ?_)
  split at h1
  · rename_i i j c
    split at h1
    · rename_i hz
      cases r with
      | cons r1 r2 =>
        cases r2 with
        | cons r3 r4 =>
          cases r4 with
          | cons r5 r6 =>
            cases r1; cases r3; cases r5; cases r6
            exact ⟨i, j, c, _, rfl, ⟨hz.1, hz.2.1, hz.2.2.1, by rw [Int.toNat_of_nonneg hz.2.2.2]⟩, h1 L1 G1 H1 o1 (Ext.refl _ _) _ G1 H1 o1 (Ext.refl _ _) (wk_rangeC i c _)⟩
    · exact h1.elim
  · exact h1.elim
end
/-! ### text * int -/
def repS (n : Nat) (z : Str) : Str := ⟨(List.replicate n z.cps).foldl (· ++ ·) #[]⟩
def fMulS (x y : D) (M : List MO) : R D := match x, y with
  | .str z, .int k => if 2 ≤ k ∧ k ≤ 1000 ∧ 0 < z.length ∧ z.length ≤ 1000 then .ok (.str (repS k.toNat z)) M else .stuck
  | _, _ => .stuck
def rMulS : R2 := fun x y H Q => ∃ z k, x = .str z ∧ y = .int k ∧ 2 ≤ k ∧ k ≤ 1000 ∧ 0 < z.length ∧ z.length ≤ 1000 ∧ Q (.str (repS k.toNat z)) H
theorem repS_len (z : Str) : ∀ n : Nat, (repS n z).length = n * z.length := by
  have g : ∀ (n : Nat) (acc : Array Nat), ((List.replicate n z.cps).foldl (· ++ ·) acc).size = acc.size + n * z.cps.size := by
    intro n
    induction n with
    | zero => intro acc; simp
    | succ n ih => intro acc; rw [List.replicate_succ, List.foldl_cons, ih, Array.size_append, Nat.succ_mul]; omega
  intro n
  have := g n #[]
  show ((List.replicate n z.cps).foldl (· ++ ·) #[]).size = n * z.cps.size
  rw [this]; simp
section
variable {X : Cx} {W : WX}
theorem opMulS : OpR X (binaryOp .Mult) rMulS := by
  intro pins s σ H x y v u Q I rx ry h
  obtain ⟨z, k, rfl, rfl, h1, h2, h3, h4, q⟩ := h
  obtain ⟨t, rfl⟩ := rx
  obtain ⟨t', rfl⟩ := ry
  have hlen : z.length * k.toNat ≤ 1000000 := by
    have : k.toNat ≤ 1000 := by omega
    calc z.length * k.toNat ≤ 1000 * 1000 := Nat.mul_le_mul h4 this
      _ = 1000000 := rfl
  have e1 : (k == 1 || z.length == 0) = false := by
    have : (k == 1) = false := by simp; omega
    have : (z.length == 0) = false := by simp; omega
    simp [*]
  have tl : ∀ n : Nat, n ≤ 1000000 → Builtin.Str.tooLong n = false := fun n hn => by
    unfold Builtin.Str.tooLong
    have := sizeLine_eq
    simp
    omega
  refine P.mul_str (by simp; omega) (fun _ _ => ?_) (fun _ _ => tl _ hlen) ?_
  · have h5 : (2 ^ 63 - 1 : Int) / k ≥ 1000 := by
      apply Int.le_ediv_of_mul_le (by omega)
      calc (1000 : Int) * k ≤ 1000 * 1000 := by omega
        _ ≤ 2 ^ 63 - 1 := by decide
    omega
  · rw [if_neg (by omega), if_neg (by simp [e1])]
    refine ⟨?_, .str (repS k.toNat z), H, I.tok _, ⟨_, rfl⟩, q⟩
    have e := repS_len z k.toNat
    unfold repS at e
    rw [e, Nat.mul_comm, sizeLine_eq]
    omega
theorem dMulS : OpD X W rMulS fMulS := by
  intro x y dx dy M F L G H σ Q o rx ry h
  unfold fMulS at h
  split at h
  · rename_i z k
    cases rx
    cases ry
    split at h
    · rename_i hz
      exact ⟨z, k, rfl, rfl, hz.1, hz.2.1, hz.2.2.1, hz.2.2.2, aok h o _ (.str _)⟩
    · exact h.elim
  · exact h.elim
end
end KB
namespace KB
open PySem PySem.Spec PyProof.Rows L2
/-! ### == of a list of lists that may change -/
def res2 (M : List MO) : D → D
  | .lst ds => .lst (ds.map (res M))
  | d => d
def fEqD (x y : D) (M : List MO) : R D := if shp (res2 M x) && shp (res M y) then .ok (.bl (dEqv (res2 M x) (res M y))) M else .stuck
theorem dp_resC {C : Kx} {F : Hp} {L : List Addr} {G H : Hp} {M : List MO} {v : V} {d : D} (o : Ok C F L G M H) (r : Rp C L G v d) (zc : (toP (res M d)).canLay0 = true) : Dp C.K H v (toP (res M d)) := by
  cases r with
  | @cell a n h =>
    rcases res_cell M n with e | ⟨ds, e⟩
    · rw [e] at zc; simp [toP, PyData.canLay0] at zc
    · obtain ⟨a', vs, e', h1, h2⟩ := o.viewL (Rp.cell h) e
      cases e'
      rw [e] at zc ⊢
      rw [toP] at zc ⊢
      exact .lst (.inl (.inl h1)) (dp_all o.sub ds _ h2 (by simpa [PyData.canLay0] using zc))
  | non => exact dp_of (L := L) o.sub _ _ .non zc
  | bl => exact dp_of (L := L) o.sub _ _ (.bl _) zc
  | int => exact dp_of (L := L) o.sub _ _ (.int _) zc
  | str => exact dp_of (L := L) o.sub _ _ (.str _) zc
  | tup h1 h2 => exact dp_of o.sub _ _ (.tup h1 h2) zc
  | lst h1 h2 => exact dp_of o.sub _ _ (.lst h1 h2) zc
  | scr h1 h2 => exact dp_of o.sub _ _ (.scr h1 h2) zc
  | exc h1 h2 => exact absurd (show PyData.canLay0 (toP (.exc _)) = true from zc) (by simp [toP, PyData.canLay0])
theorem dp_resL {C : Kx} {F : Hp} {L : List Addr} {G H : Hp} {M : List MO} (o : Ok C F L G M H) : ∀ (ds : List D) (vs : List V), RpL C L G vs ds → PyData.canLayAll0 (toPs (ds.map (res M))) = true → DpAll C.K H vs (toPs (ds.map (res M)))
  | [], _, h, _ => by cases h; exact .nil
  | d :: ds, _, h, z => by
    cases h with
    | cons h1 h2 =>
      rw [List.map_cons, toPs] at z ⊢
      have z' : (toP (res M d)).canLay0 = true ∧ PyData.canLayAll0 (toPs (ds.map (res M))) = true := by simpa [PyData.canLayAll0] using z
      exact .cons (dp_resC o h1 z'.1) (dp_resL o ds _ h2 z'.2)
theorem dp_res2 {C : Kx} {F : Hp} {L : List Addr} {G H : Hp} {M : List MO} {v : V} {d : D} (o : Ok C F L G M H) (r : Rp C L G v d) (z : shp (res2 M d) = true) : Dp C.K H v (toP (res2 M d)) := by
  have zc := SeqAt.canLay_of_shaped z
  cases r with
  | lst h1 h2 =>
    rw [res2, toP] at zc ⊢
    exact .lst (.inl (.inl (o.sub _ _ h1))) (dp_resL o _ _ h2 (by simpa [PyData.canLay0] using zc))
  | @cell a n h => exact absurd (show PyData.canLay0 (toP (.cell n)) = true from zc) (by simp [toP, PyData.canLay0])
  | non => exact dp_of (L := L) o.sub _ _ .non zc
  | bl => exact dp_of (L := L) o.sub _ _ (.bl _) zc
  | int => exact dp_of (L := L) o.sub _ _ (.int _) zc
  | str => exact dp_of (L := L) o.sub _ _ (.str _) zc
  | tup h1 h2 => exact dp_of o.sub _ _ (.tup h1 h2) zc
  | scr h1 h2 => exact dp_of o.sub _ _ (.scr h1 h2) zc
  | exc h1 h2 => exact absurd (show PyData.canLay0 (toP (.exc _)) = true from zc) (by simp [toP, PyData.canLay0])
theorem dEqDeep {X : Cx} {W : WX} : OpD X W (rEqD X.K) fEqD := by
  intro x y dx dy M F L G H σ Q o rx ry h
  unfold fEqD at h
  split at h
  · rename_i hz
    rw [Bool.and_eq_true] at hz
    exact ⟨_, _, dp_res2 o rx hz.1, dp_res o ry hz.2, hz.1, hz.2, aok h o _ (.bl _)⟩
  · exact h.elim
end KB
namespace KB
open PySem PySem.Spec PyProof.Rows L2
/-! ### [el for a, b in zip(list, list that may change)] -/
def compZ (g : GV) (t : EB) (el : EV) (e : EN) (as : List D) (n : Nat) : Nat → Nat → List D → List MO → R (List D)
  | 0, _, _, _ => .stuck
  | m + 1, i, acc, M => match M[n]? with
    | some (.lst ds) => match as[i]?, ds[i]? with
      | some a, some b => match g (.tup [a, b]) e with
        | some e1 => (t e1 M).nox fun b M1 => if b then (el e1 M1).nox fun y M2 => if acc.length < big then compZ g t el e as n m (i + 1) (acc ++ [y]) M2 else .stuck else compZ g t el e as n m (i + 1) acc M1
        | none => .stuck
      | _, _ => .ok acc M
    | _ => .stuck
def eLcZA (ea : EA) (g : GV) (vs : List Nat) (t : EB) (el : EV) : EA := fun e M => (ea e M).bind fun ds M1 => match ds with
  | [.lst a, .lst b] => compL g t el (wipeE e vs) (zipD a b) [] M1
  | [.lst a, .cell n] => compZ g t el (wipeE e vs) a n fuel 0 [] M1
  | _ => .stuck
section
variable {X : Cx} {W : WX}
theorem hoZip2 {t : TA} {ea : EA} (q : HoA X W t ea) : HoI X W (RZ.iZipA X.K t) (eZip2 ea) := by
  intro F e M σ L G H Rq o re h
  refine q F e M σ L G H _ o re ((Aft.bind h).imp fun ds M1 L1 G1 H1 o1 x1 h1 vs r => ?_)
  split at h1
  · rename_i as bs
    obtain ⟨v, w, rfl, r1, r2⟩ := two r
    cases r1 with
    | lst s1 l1 => cases r2 with
      | lst s2 l2 =>
        refine ⟨_, _, _, _, rfl, .inl ⟨.inl (.inl (o1.sub _ _ s1)), .inl (.inl (o1.sub _ _ s2)), ?_⟩⟩
        exact h1 L1 G1 H1 o1 (Ext.refl _ _) _ G1 H1 o1 (Ext.refl _ _) (wk_pair l1 l2 (walk_zip rfl) fun F' L' G' M' H' o x => ⟨.inl (.inl (o.sub _ _ (x.g _ _ s1))), .inl (.inl (o.sub _ _ (x.g _ _ s2)))⟩)
  · rename_i as bs
    obtain ⟨v, w, rfl, r1, r2⟩ := two r
    cases r1 with
    | tup s1 l1 => cases r2 with
      | tup s2 l2 =>
        refine ⟨_, _, _, _, rfl, .inr ⟨Same.seqT o1.sub s1, Same.seqT o1.sub s2, ?_⟩⟩
        exact h1 L1 G1 H1 o1 (Ext.refl _ _) _ G1 H1 o1 (Ext.refl _ _) (wk_pair l1 l2 (walk_zipT rfl) fun F' L' G' M' H' o x => ⟨Same.seqT o.sub (Same.seqT x.g s1), Same.seqT o.sub (Same.seqT x.g s2)⟩)
  · exact h1.elim
theorem hoLcZ {t : TA} {ea : EA} {is vs : List Nat} {g : GV} {et : EB} {el : EV} (q : HoA X W t ea) (hv : ∀ i ∈ is, i ∈ vs) :
    ∀ (F : Hp) (e : EN) (M : List MO) (σ : L2.St) (L : List Addr) (G H : Hp) (Q : VK), Ok (kx X) F L G M H → RpE (kx X) L G σ e →
    Aft X W F σ (kL X F Q) L G (eLcZA ea g vs et el e M) →
    tLc (RZ.iZipA X.K t) (tgOf X is g) (tbOf X W0 et) (teOf X W0 el) vs σ H Q := by
  intro F e M σ L G H Q o re h
  have old : eLcZA ea g vs et el e M = eLcA (eZip2 ea) g vs et el e M → tLc (RZ.iZipA X.K t) (tgOf X is g) (tbOf X W0 et) (teOf X W0 el) vs σ H Q := fun z => by
    rw [z] at h
    exact hoLc (hoZip2 q) hv F e M σ L G H Q o re h
  cases hr : ea e M with
  | stuck => unfold eLcZA at h; rw [hr] at h; exact h.elim
  | exc c M1 => exact old (by unfold eLcZA eLcA eZip2; rw [hr]; rfl)
  | ok ds M1 =>
    unfold eLcZA at h
    rw [hr] at h
    simp only [R.bind_ok] at h
    split at h
    · rename_i a b
      exact old (by unfold eLcZA eLcA eZip2; rw [hr]; rfl)
    · rename_i as n
      refine q F e M σ L G H _ o re ?_
      rw [hr]
      intro L1 G1 H1 o1 x1 vs' r
      obtain ⟨v, w, rfl, r1, r2⟩ := two r
      cases r1 with
      | @lst a vsA _ s1 l1 => cases r2 with
        | @cell b _ hl =>
          obtain ⟨u0, hu0, ku0⟩ := o1.here hl
          cases u0 with
          | obj c fs =>
            unfold fuel compZ at h
            rw [hu0] at h
            exact h.elim
          | lst ds0 =>
            obtain ⟨ws0, hv0, rv0⟩ := ku0
            refine ⟨a, b, vsA, ws0, rfl, .inl ⟨.inl (.inl (o1.sub _ _ s1)), .inl (.inl hv0), ?_⟩⟩
            intro Da hD
            have hFD : F Da = none := o1.freshF hD
            have o3 := o1.openF (u := .lst []) hD
            have rw2 : RpE (kx X) L1 G1 (wipe σ vs) (wipeE e vs) := (re.mono x1).wipe vs
            refine ⟨fun i m H' => ∃ acc us M' L' G', Ok (kx X) (upd F Da (.lst us)) L' G' M' H' ∧ Ext L1 G1 L' G' ∧ RpL (kx X) L' G' us acc ∧
              Aft X W F σ (kL X F Q) L' G' (compZ g et el (wipeE e vs) as n m i acc M'), ⟨fuel, [], [], M1, L1, G1, o3, Ext.refl _ _, .nil, Aft.mono h x1⟩, ?_⟩
            rintro i m H' ⟨acc, us, M', L', G', o', x', ra, h'⟩
            cases m with
            | zero => exact h'.elim
            | succ m =>
              obtain ⟨u, hu, ku⟩ := o'.here (x'.at hl)
              unfold compZ at h'
              rw [hu] at h'
              cases u with
              | obj c fs => exact h'.elim
              | lst ds =>
                obtain ⟨ws, hv', rv⟩ := ku
                dsimp only at h'
                have sA : SqL X.K H' a vsA := .inl (.inl (o'.sub _ _ (x'.g _ _ s1)))
                have sB : SqL X.K H' b ws := .inl (.inl hv')
                have lA := l1.mono x'
                cases hA : as[i]? with
                | none =>
                  rw [hA] at h'
                  refine .inl ⟨⟨vsA, ws, sA, sB, .inl ?_⟩, h' L' G' H' (o'.dropF hFD) (Ext.refl _ _) Da us H' hFD o' ra⟩
                  rw [lA.length]; exact List.getElem?_eq_none_iff.mp hA
                | some a0 =>
                  cases hB : ds[i]? with
                  | none =>
                    rw [hA, hB] at h'
                    refine .inl ⟨⟨vsA, ws, sA, sB, .inr ?_⟩, h' L' G' H' (o'.dropF hFD) (Ext.refl _ _) Da us H' hFD o' ra⟩
                    rw [rv.length]; exact List.getElem?_eq_none_iff.mp hB
                  | some b0 =>
                    rw [hA, hB] at h'
                    dsimp only at h'
                    obtain ⟨va, hva, rva⟩ := lA.get hA
                    obtain ⟨vb, hvb, rvb⟩ := rv.get hB
                    refine .inr ⟨⟨vsA, ws, va, vb, sA, sB, hva, hvb⟩, _, fun H5 n5 => ⟨m, Nat.lt_succ_self m, n5⟩, fun x H3 y => ?_⟩
                    obtain ⟨T, y1, y2, rfl, hT, rfl, k1, k2⟩ := y
                    have e1 : y1 = va := Option.some.inj ((k1 vsA sA).symm.trans hva)
                    have e2 : y2 = vb := Option.some.inj ((k2 ws sB).symm.trans hvb)
                    subst e1 e2
                    obtain ⟨o4, x4⟩ := o'.lay (u := .tup [y1, y2]) hT
                    have r3 : Rp (kx X) L' (upd G' T (.tup [y1, y2])) (.ref T) (.tup [a0, b0]) := .tup (.inl (.inl upd_same)) (.cons (rva.mono x4) (.cons (rvb.mono x4) .nil))
                    split at h'
                    · rename_i e3 he
                      refine ⟨_, _, _, e3, M', L', _, o4, (rw2.mono x').mono x4, r3, he, fun σ4 re4 u4 => ⟨wipe_upd u4 hv, ?_⟩⟩
                      refine ⟨_, e3, M', L', _, o4, re4, ?_⟩
                      refine ((Aft.nox (σ' := σ4) (Aft.mono h' x4)).reF fun _ _ _ _ => Ok.dropF hFD).imp fun b M5 L5 G5 H5 o5 x5 h6 => ?_
                      dsimp only [kB]
                      cases b with
                      | true =>
                        rw [if_pos rfl]
                        refine ⟨_, e3, M5, L5, G5, o5, re4.mono x5, ?_⟩
                        refine ((Aft.nox (σ' := σ4) h6).reF fun _ _ _ _ => Ok.dropF hFD).imp fun y M6 L6 G6 H6 o6 x6 h7 v r => ?_
                        split at h7
                        · rename_i hb
                          exact ⟨us, o6.fs Da _ upd_same, by rw [ra.length]; exact big_lt (Nat.le_of_lt hb), acc ++ [y], us ++ [v], M6, L6, G6, o6.turnF, ((x'.trans x4).trans x5).trans x6, (((ra.mono x4).mono x5).mono x6).append (.cons r .nil), h7⟩
                        · exact h7.elim
                      | false =>
                        rw [if_neg Bool.false_ne_true]
                        exact ⟨acc, us, M5, L5, G5, o5, (x'.trans x4).trans x5, (ra.mono x4).mono x5, h6⟩
                    · exact h'.elim
    · exact h.elim
theorem pd_lcZ {elt a b : Expr} {elts : List Expr} {kk : Nat} {tpos p zpos : Pos} {ifs : List Expr} {scope : Scope} {pos : Pos} {ea : EA} {is : List Nat} {g : GV} {et : EB} {el : EV} (own : List (Str × Nat)) (hc : X.calm = true) (hN : X.N.Nodup) (hm : X.mg "zip" = none) (ha : PAD X W [a, b] ea)
    (ok : BlkOk X.N X.env.scope scope own) (hv : ∀ i ∈ is, i ∈ own.map (·.2))
    (hg : ∀ (s : Shared) (H : Hp) (C : Addr) (cl : List (Str × Addr)) (fp : List Addr), PGD (X.blk s H scope (compEnvC scope cl C X.env) fp) (.Tuple elts kk tpos) is g)
    (ht : ∀ (s : Shared) (H : Hp) (C : Addr) (cl : List (Str × Addr)) (fp : List Addr), PTs (X.blk s H scope (compEnvC scope cl C X.env) fp) ifs (tbOf X W0 et))
    (he : ∀ (s : Shared) (H : Hp) (C : Addr) (cl : List (Str × Addr)) (fp : List Addr), PD (X.blk s H scope (compEnvC scope cl C X.env) fp) W0 elt el) (hgl : Gl X "zip" := by rfl)
    (hst : starEach [a, b] X.env = (false, eval a X.env) :: starEach [b] X.env := by rfl) (hpl : (backTo zpos (starEach [b] X.env)).any (·.1) = false := by rfl)
    (hs : ∀ x, foldedSetIterable (.Call (.Name "zip" p) [a, b] [] zpos) X.env x = pure x := by intro _; rfl) :
    PD X W (.ListComp elt [⟨.Tuple elts kk tpos, .Call (.Name "zip" p) [a, b] [] zpos, ifs, 0⟩] scope pos) (eArgs fLst' (eLcZA ea g (own.map (·.2)) et el)) := by
  obtain ⟨t, pa, qa⟩ := ha
  refine ⟨_, pe_lc (g := tgOf X is g) (tt := tbOf X W0 et) (te := teOf X W0 el) hc hN (RZ.pi_zipA hgl hm pa hst hpl) ok (fun s H C cl fp => (hg s H C cl fp).pg) ht (fun s H C cl fp => (he s H C cl fp).pe) hs, fun F e M σ L G H Q o re h => ?_⟩
  exact hoLcZ qa hv F e M σ L G H Q o re (kL_lst h)
end
end KB
namespace KB
open PySem PySem.Spec PyProof.Rows L2
def tab_SIZES : List (Str × Int) := [("fixed1", 1), ("fixed2", 2), ("fixed3", 3), ("fixed4", 4), ("little1", 1), ("little2", 2), ("little3", 3), ("little4", 4)]
def tab_LENGTHS : List (Str × Int) := [("raw", 40), ("closed", 40), ("counted", 9)]
def tab_MARKS : List (Str × Int) := [("first", 0), ("last", 2)]
def sv__law_start : SV := (sRet (eArgs fCell (eCons (eIf (eTest (eBin fNe (eVar 0) (eArgs fLst eNil))) (eArgs fListC (eCons (eVar 0) eNil)) (eArgs fCell (eCons (eC (.int 0)) eNil))) (eCons (eC (.int 0)) eNil))))
def m__law_start : List D → List MO → R D := mOf 1 1 sv__law_start
def sv__law_draw : SV := (sSeq (sSet 2 (eBin fIx (eVar 0) (eC (.int 0))))
    (sSeq (sSub (eVar 0) (eC (.int 1)) (eBin fAdd (eBin fIx (eVar 0) (eC (.int 1))) (eC (.int 1))))
    (sSeq (sSet 3 (eBin fMod (eBin fIx (eVar 0) (eC (.int 1))) (eArgs fLen (eCons (eVar 2) eNil))))
    (sSeq (sSet 4 (eBin fIx (eVar 2) (eVar 3)))
    (sSeq (sIf (eTest (eBin fGe (eVar 4) (eC (.int 1000000000000000000)))) (sSeq (sSub (eVar 2) (eVar 3) (eBin fFdiv (eVar 4) (eVar 1)))
    (sRet (eBin fMod (eVar 4) (eVar 1)))) sNil)
    (sSeq (sSet 5 (eBin fMod (eBin fAdd (eVar 4) (eBin fMul (eC (.int 104729)) (eBin fIx (eVar 0) (eC (.int 1))))) (eC (.int 4294967291))))
    (sSeq (sSet 5 (eBin fMod (eBin fPow (eVar 5) (eC (.int 5))) (eC (.int 4294967279))))
    (sRet (eBin fMod (eBin fFdiv (eBin fMod (eBin fAdd (eBin fMul (eBin fFdiv (eVar 5) (eC (.int 64))) (eC (.int 69621))) (eVar 5)) (eC (.int 4294967231))) (eC (.int 8))) (eVar 1))))))))))
def m__law_draw : List D → List MO → R D := mOf 2 6 sv__law_draw
def sv__law_pick : SV := (sRet (eBin fIx (eVar 1) (eArgs m__law_draw (eCons (eVar 0) (eCons (eArgs fLen (eCons (eVar 1) eNil)) eNil)))))
def m__law_pick : List D → List MO → R D := mOf 2 2 sv__law_pick
def sv__law_kind : SV := (sRet (eArgs m__law_pick (eCons (eVar 0) (eCons (eArgs fLst (eCons (eC (.str "int")) (eCons (eC (.str "fixed")) (eCons (eC (.str "fixed")) (eCons (eC (.str "little")) (eCons (eC (.str "raw")) (eCons (eC (.str "closed")) (eCons (eC (.str "closed")) (eCons (eC (.str "counted")) eNil))))))))) eNil))))
def m__law_kind : List D → List MO → R D := mOf 1 1 sv__law_kind
def sv__law_field : SV := (sSeq (sSet 1 (eArgs m__law_kind (eCons (eVar 0) eNil)))
    (sSeq (sIf (eTest (eBin fIn (eVar 1) (eArgs fTup (eCons (eC (.str "fixed")) (eCons (eC (.str "little")) eNil))))) (sSet 1 (eBin fAdd (eVar 1) (eArgs fStrI (eCons (eBin fAdd (eC (.int 1)) (eArgs m__law_draw (eCons (eVar 0) (eCons (eC (.int 4)) eNil)))) eNil)))) sNil)
    (sRet (eArgs fTup (eCons (eVar 1) (eCons (eArgs m__law_pick (eCons (eVar 0) (eCons (eArgs fLst (eCons (eC (.str "asc")) (eCons (eC (.str "desc")) eNil))) eNil))) (eCons (eArgs m__law_pick (eCons (eVar 0) (eCons (eArgs fLst (eCons (eC (.str "none")) (eCons (eC (.str "none")) (eCons (eC (.str "first")) (eCons (eC (.str "last")) eNil))))) eNil))) eNil)))))))
def m__law_field : List D → List MO → R D := mOf 1 2 sv__law_field
def sv__law_scheme : SV := (sRet (eArgs fTuple (eCons (eArgs fLst' (eLcA (eRange1 (eCons (eBin fAdd (eC (.int 1)) (eArgs m__law_draw (eCons (eVar 0) (eCons (eC (.int 4)) eNil)))) eNil)) (gN 1) [1] eYes (eArgs m__law_field (eCons (eVar 0) eNil)))) eNil)))
def m__law_scheme : List D → List MO → R D := mOf 1 2 sv__law_scheme
def sv__law_power : SV := (sSeq (sSet 1 (eC (.int 1)))
    (sSeq (sFor (eRange1 (eCons (eVar 0) eNil)) (gN 2) (sSet 1 (eBin fMul (eVar 1) (eC (.int 256)))))
    (sRet (eVar 1))))
def m__law_power : List D → List MO → R D := mOf 1 3 sv__law_power
def sv__law_most : SV := (sRet (eBin fSub (eArgs m__law_power (eCons (eArgs fIntS (eCons (eBin fIx (eVar 0) (eUn fNeg (eC (.int 1)))) eNil)) eNil)) (eC (.int 1))))
def m__law_most : List D → List MO → R D := mOf 1 1 sv__law_most
def sv__law_text : SV := (sSeq (sSet 2 (eArgs fLst (eCons (eC (.int 0)) (eCons (eC (.int 0)) (eCons (eC (.int 0)) (eCons (eC (.int 1)) (eCons (eC (.int 2)) (eCons (eC (.int 97)) (eCons (eC (.int 98)) (eCons (eC (.int 253)) (eCons (eC (.int 254)) (eCons (eC (.int 255)) (eCons (eC (.int 255)) (eCons (eArgs m__law_draw (eCons (eVar 0) (eCons (eC (.int 256)) eNil))) eNil))))))))))))))
    (sRet (eArgs fTuple (eCons (eArgs fLst' (eLcA (eRange1 (eCons (eArgs m__law_draw (eCons (eVar 0) (eCons (eBin fAdd (eVar 1) (eC (.int 1))) eNil))) eNil)) (gN 3) [3] eYes (eArgs m__law_pick (eCons (eVar 0) (eCons (eVar 2) eNil))))) eNil))))
def m__law_text : List D → List MO → R D := mOf 2 4 sv__law_text
def sv__law_value_1 : SV := (sAsg (gT [2, 3, 4]) (eVar 1))
def sv__law_value_2b1 : SV := (sRet (eC .non))
def sv__law_value_2 : SV := (sIf (eAnd (eTest (eBin fNe (eVar 4) (eC (.str "none")))) (eTest (eBin fEq (eArgs m__law_draw (eCons (eVar 0) (eCons (eC (.int 4)) eNil))) (eC (.int 0))))) sv__law_value_2b1 sNil)
def sv__law_value_3b1 : SV := (sSet 5 (eArgs m__law_draw (eCons (eVar 0) (eCons (eC (.int 9)) eNil))))
def sv__law_value_3b2 : SV := (sSet 6 (eArgs m__law_pick (eCons (eVar 0) (eCons (eArgs fLst (eCons (eBin fSub (eArgs m__law_power (eCons (eVar 5) eNil)) (eC (.int 1))) (eCons (eArgs m__law_power (eCons (eArgs fMax (eCons (eBin fSub (eVar 5) (eC (.int 1))) (eCons (eC (.int 0)) eNil))) eNil)) (eCons (eArgs m__law_draw (eCons (eVar 0) (eCons (eArgs m__law_power (eCons (eVar 5) eNil)) eNil))) eNil)))) eNil))))
def sv__law_value_3b3 : SV := (sRet (eArgs m__law_pick (eCons (eVar 0) (eCons (eArgs fLst (eCons (eVar 6) (eCons (eBin fSub (eC (.int 0)) (eVar 6)) eNil))) eNil))))
def sv__law_value_3 : SV := (sIf (eTest (eBin fEq (eVar 2) (eC (.str "int")))) (sSeq sv__law_value_3b1
    (sSeq sv__law_value_3b2
    sv__law_value_3b3)) sNil)
def sv__law_value_4b1 : SV := (sRet (eArgs m__law_pick (eCons (eVar 0) (eCons (eArgs fLst (eCons (eC (.int 0)) (eCons (eC (.int 1)) (eCons (eArgs m__law_most (eCons (eVar 2) eNil)) (eCons (eArgs m__law_draw (eCons (eVar 0) (eCons (eBin fAdd (eArgs m__law_most (eCons (eVar 2) eNil)) (eC (.int 1))) eNil))) eNil))))) eNil))))
def sv__law_value_4 : SV := (sIf (eOr (eTest (eBin fEq (eSl (eVar 2) eNoE (eSomeE (eC (.int 5)))) (eC (.str "fixed")))) (eTest (eBin fEq (eSl (eVar 2) eNoE (eSomeE (eC (.int 6)))) (eC (.str "little"))))) sv__law_value_4b1 sNil)
def sv__law_value_5 : SV := (sRet (eArgs m__law_text (eCons (eVar 0) (eCons (eArgs m__law_pick (eCons (eVar 0) (eCons (eArgs fLst (eCons (eC (.int 1)) (eCons (eC (.int 3)) (eCons (eC (.int 9)) eNil)))) eNil))) eNil))))
def sv__law_value : SV := (sSeq sv__law_value_1
    (sSeq sv__law_value_2
    (sSeq sv__law_value_3
    (sSeq sv__law_value_4
    sv__law_value_5))))
def m__law_value : List D → List MO → R D := mOf 2 7 sv__law_value
def sv__law_row : SV := (sRet (eArgs fTuple (eCons (eArgs fLst' (eLcA (eSeq (eVar 1)) (gN 2) [2] eYes (eArgs m__law_value (eCons (eVar 0) (eCons (eVar 2) eNil))))) eNil)))
def m__law_row : List D → List MO → R D := mOf 2 3 sv__law_row
def sv_is_field : SV := (sSeq (sIf (eOr (eNot (eTest (eUn (fIsi "tuple") (eVar 0)))) (eOr (eTest (eBin fNe (eArgs fLen (eCons (eVar 0) eNil)) (eC (.int 3)))) (eNot (eTest (eArgs fAll (eCons (eArgs fLst' (eLcA (eSeq (eVar 0)) (gN 4) [4] eYes (eUn (fIsi "str") (eVar 4)))) eNil)))))) (sRet (eC (.bl false))) sNil)
    (sSeq (sAsg (gT [1, 2, 3]) (eVar 0))
    (sSeq (sIf (eAnd (eTest (eBin fNe (eVar 1) (eC (.str "int")))) (eAnd (eTest (eUn (fInNotTab tab_SIZES) (eVar 1))) (eTest (eUn (fInNotTab tab_LENGTHS) (eVar 1))))) (sRet (eC (.bl false))) sNil)
    (sRet (eAndV (eBin fIn (eVar 2) (eArgs fTup (eCons (eC (.str "asc")) (eCons (eC (.str "desc")) eNil)))) (eBin fIn (eVar 3) (eArgs fTup (eCons (eC (.str "none")) (eCons (eC (.str "first")) (eCons (eC (.str "last")) eNil))))))))))
def m_is_field : List D → List MO → R D := mOf 1 5 sv_is_field
def sv_is_scheme : SV := (sSeq (sIf (eOr (eNot (eTest (eUn (fIsi "tuple") (eVar 0)))) (eNot (eTest (eChain fLe fLe (eC (.int 1)) (eArgs fLen (eCons (eVar 0) eNil)) (eC (.int 4)))))) (sRet (eC (.bl false))) sNil)
    (sRet (eArgs fAll (eCons (eArgs fLst' (eLcA (eSeq (eVar 0)) (gN 1) [1] eYes (eArgs m_is_field (eCons (eVar 1) eNil)))) eNil))))
def m_is_scheme : List D → List MO → R D := mOf 1 2 sv_is_scheme
def sv_is_int : SV := (sRet (eAndV (eUn (fIsi "int") (eVar 0)) (eAndV (eUn fNot (eUn (fIsi "bool") (eVar 0))) (eChain fLe fLe (eVar 1) (eVar 0) (eVar 2)))))
def m_is_int : List D → List MO → R D := mOf 3 3 sv_is_int
def sv_power : SV := (sSeq (sSet 1 (eC (.int 1)))
    (sSeq (sFor (eRange1 (eCons (eVar 0) eNil)) (gN 2) (sAug 1 fIMul (eC (.int 256))))
    (sRet (eVar 1))))
def m_power : List D → List MO → R D := mOf 1 3 sv_power
def sv_is_bytes : SV := (sSeq (sIf (eOr (eNot (eTest (eUn (fIsi "tuple") (eVar 0)))) (eTest (eBin fGt (eArgs fLen (eCons (eVar 0) eNil)) (eC (.int 400))))) (sRet (eC (.bl false))) sNil)
    (sRet (eArgs fAll (eCons (eArgs fLst' (eLcA (eSeq (eVar 0)) (gN 1) [1] eYes (eArgs m_is_int (eCons (eVar 1) (eCons (eC (.int 0)) (eCons (eC (.int 255)) eNil)))))) eNil))))
def m_is_bytes : List D → List MO → R D := mOf 1 2 sv_is_bytes
def sv_is_value : SV := (sSeq (sAsg (gT [2, 3, 4]) (eVar 0))
    (sSeq (sIf (eTest (eBin fIs (eVar 1) (eC .non))) (sRet (eBin fNe (eVar 4) (eC (.str "none")))) sNil)
    (sSeq (sIf (eTest (eBin fEq (eVar 2) (eC (.str "int")))) (sRet (eArgs m_is_int (eCons (eVar 1) (eCons (eUn fNeg (eC (.int 18446744073709551615))) (eCons (eC (.int 18446744073709551615)) eNil))))) sNil)
    (sSeq (sIf (eTest (eUn (fInTab tab_SIZES) (eVar 2))) (sRet (eArgs m_is_int (eCons (eVar 1) (eCons (eC (.int 0)) (eCons (eBin fSub (eArgs m_power (eCons (eUn (fTab tab_SIZES) (eVar 2)) eNil)) (eC (.int 1))) eNil))))) sNil)
    (sRet (eAndV (eArgs m_is_bytes (eCons (eVar 1) eNil)) (eBin fLe (eArgs fLen (eCons (eVar 1) eNil)) (eUn (fTab tab_LENGTHS) (eVar 2)))))))))
def m_is_value : List D → List MO → R D := mOf 2 5 sv_is_value
def sv_is_row : SV := (sSeq (sIf (eOr (eNot (eTest (eUn (fIsi "tuple") (eVar 1)))) (eTest (eBin fNe (eArgs fLen (eCons (eVar 1) eNil)) (eArgs fLen (eCons (eVar 0) eNil))))) (sRet (eC (.bl false))) sNil)
    (sRet (eArgs fAll (eCons (eArgs fLst' (eLcA (eZip2 (eCons (eVar 0) (eCons (eVar 1) eNil))) (gT [2, 3]) [2, 3] eYes (eArgs m_is_value (eCons (eVar 2) (eCons (eVar 3) eNil))))) eNil))))
def m_is_row : List D → List MO → R D := mOf 2 4 sv_is_row
def sv_check_scheme : SV := (sIf (eNot (eTest (eArgs m_is_scheme (eCons (eVar 0) eNil)))) (sRaise "BadScheme") sNil)
def m_check_scheme : List D → List MO → R D := mOf 1 1 sv_check_scheme
def sv_check_row : SV := (sIf (eNot (eTest (eArgs m_is_row (eCons (eVar 0) (eCons (eVar 1) eNil))))) (sRaise "BadRow") sNil)
def m_check_row : List D → List MO → R D := mOf 2 2 sv_check_row
def sv_digits_of : SV := (sSeq (sSet 2 (eArgs fCell eNil))
    (sSeq (sFor (eRange1 (eCons (eVar 1) eNil)) (gN 3) (sSeq (sExpr (eMeth ckL fAppend (eVar 2) (eCons (eBin fMod (eVar 0) (eC (.int 256))) eNil)))
    (sAug 0 fIFdiv (eC (.int 256)))))
    (sRet (eArgs fTuple (eCons (eUn fRev (eVar 2)) eNil)))))
def m_digits_of : List D → List MO → R D := mOf 2 4 sv_digits_of
def sv_flipped : SV := (sRet (eArgs fTuple (eCons (eArgs fLst' (eLcA (eSeq (eVar 0)) (gN 1) [1] eYes (eBin fSub (eC (.int 255)) (eVar 1)))) eNil)))
def m_flipped : List D → List MO → R D := mOf 1 2 sv_flipped
def sv_encode_int : SV := (sSeq (sSet 1 (eC (.int 0)))
    (sSeq (sWhile (eTest (eBin fLe (eArgs m_power (eCons (eVar 1) eNil)) (eArgs fAbs (eCons (eVar 0) eNil)))) (sAug 1 fIAdd (eC (.int 1))))
    (sSeq (sSet 2 (eArgs m_digits_of (eCons (eArgs fAbs (eCons (eVar 0) eNil)) (eCons (eVar 1) eNil))))
    (sRet (eIf (eTest (eBin fGe (eVar 0) (eC (.int 0)))) (eBin fAdd (eArgs fTup (eCons (eBin fAdd (eC (.int 128)) (eVar 1)) eNil)) (eVar 2)) (eBin fAdd (eArgs fTup (eCons (eBin fSub (eC (.int 128)) (eVar 1)) eNil)) (eArgs m_flipped (eCons (eVar 2) eNil))))))))
def m_encode_int : List D → List MO → R D := mOf 1 3 sv_encode_int
def sv_plain : SV := (sSeq (sIf (eTest (eBin fEq (eVar 0) (eC (.str "int")))) (sRet (eArgs m_encode_int (eCons (eVar 1) eNil))) sNil)
    (sSeq (sIf (eTest (eUn (fInTab tab_SIZES) (eVar 0))) (sSeq (sSet 4 (eArgs m_digits_of (eCons (eVar 1) (eCons (eUn (fTab tab_SIZES) (eVar 0)) eNil))))
    (sRet (eIf (eTest (eMeth ckS fStarts (eVar 0) (eCons (eC (.str "fixed")) eNil))) (eVar 4) (eUn fRev (eVar 4))))) sNil)
    (sSeq (sIf (eTest (eBin fEq (eVar 0) (eC (.str "raw")))) (sRet (eVar 1)) sNil)
    (sSeq (sIf (eTest (eBin fEq (eVar 0) (eC (.str "counted")))) (sRet (eBin fAdd (eArgs fTup (eCons (eArgs fLen (eCons (eVar 1) eNil)) eNil)) (eVar 1))) sNil)
    (sSeq (sSet 2 (eArgs fTup eNil))
    (sSeq (sFor (eSeq (eVar 1)) (gN 3) (sAug 2 fIAdd (eIf (eTest (eBin fEq (eVar 3) (eC (.int 0)))) (eArgs fTup (eCons (eC (.int 0)) (eCons (eC (.int 255)) eNil))) (eArgs fTup (eCons (eVar 3) eNil)))))
    (sRet (eBin fAdd (eVar 2) (eArgs fTup (eCons (eC (.int 0)) (eCons (eC (.int 1)) eNil)))))))))))
def m_plain : List D → List MO → R D := mOf 2 5 sv_plain
def sv_encode_value : SV := (sSeq (sAsg (gT [3, 4, 5]) (eVar 0))
    (sSeq (sIf (eTest (eBin fIs (eVar 1) (eC .non))) (sRet (eArgs fTup (eCons (eUn (fTab tab_MARKS) (eVar 5)) eNil))) sNil)
    (sSeq (sSet 2 (eArgs m_plain (eCons (eVar 3) (eCons (eVar 1) eNil))))
    (sSeq (sIf (eTest (eBin fEq (eVar 4) (eC (.str "desc")))) (sSet 2 (eArgs m_flipped (eCons (eVar 2) eNil))) sNil)
    (sRet (eIf (eTest (eBin fEq (eVar 5) (eC (.str "none")))) (eVar 2) (eBin fAdd (eArgs fTup (eCons (eC (.int 1)) eNil)) (eVar 2))))))))
def m_encode_value : List D → List MO → R D := mOf 2 6 sv_encode_value
def sv_joined : SV := (sSeq (sSet 2 (eArgs fTup eNil))
    (sSeq (sFor (eZip2 (eCons (eVar 0) (eCons (eVar 1) eNil))) (gT [3, 4]) (sAug 2 fIAdd (eArgs m_encode_value (eCons (eVar 3) (eCons (eVar 4) eNil)))))
    (sRet (eVar 2))))
def m_joined : List D → List MO → R D := mOf 2 5 sv_joined
def sv_encode : SV := (sSeq (sExpr (eArgs m_check_scheme (eCons (eVar 0) eNil)))
    (sSeq (sExpr (eArgs m_check_row (eCons (eVar 0) (eCons (eVar 1) eNil))))
    (sRet (eArgs m_joined (eCons (eVar 0) (eCons (eVar 1) eNil))))))
def m_encode : List D → List MO → R D := mOf 2 2 sv_encode
def sv__law_plain : SV := (sSeq (sIf (eTest (eBin fEq (eVar 0) (eC (.str "int")))) (sSeq (sSet 4 (eArgs fAbs (eCons (eVar 1) eNil)))
    (sSeq (sSet 2 (eArgs fLst eNil))
    (sSeq (sWhile (eTest (eBin fGt (eVar 4) (eC (.int 0)))) (sSeq (sSet 2 (eBin fAdd (eArgs fLst (eCons (eBin fMod (eVar 4) (eC (.int 256))) eNil)) (eVar 2)))
    (sSet 4 (eBin fFdiv (eVar 4) (eC (.int 256))))))
    (sSeq (sIf (eTest (eBin fLt (eVar 1) (eC (.int 0)))) (sRet (eBin fAdd (eArgs fLst (eCons (eBin fSub (eC (.int 128)) (eArgs fLen (eCons (eVar 2) eNil))) eNil)) (eArgs fLst' (eLcA (eSeq (eVar 2)) (gN 3) [3] eYes (eBin fSub (eC (.int 255)) (eVar 3)))))) sNil)
    (sRet (eBin fAdd (eArgs fLst (eCons (eBin fAdd (eC (.int 128)) (eArgs fLen (eCons (eVar 2) eNil))) eNil)) (eVar 2))))))) sNil)
    (sSeq (sIf (eOr (eTest (eBin fEq (eSl (eVar 0) eNoE (eSomeE (eC (.int 5)))) (eC (.str "fixed")))) (eTest (eBin fEq (eSl (eVar 0) eNoE (eSomeE (eC (.int 6)))) (eC (.str "little"))))) (sSeq (sSet 2 (eArgs fLst' (eLcA (eRange1 (eCons (eArgs fIntS (eCons (eBin fIx (eVar 0) (eUn fNeg (eC (.int 1)))) eNil)) eNil)) (gN 5) [5] eYes (eBin fMod (eBin fFdiv (eVar 1) (eArgs m__law_power (eCons (eVar 5) eNil))) (eC (.int 256))))))
    (sRet (eIf (eTest (eBin fEq (eSl (eVar 0) eNoE (eSomeE (eC (.int 5)))) (eC (.str "fixed")))) (eUn fRev (eVar 2)) (eVar 2)))) sNil)
    (sSeq (sIf (eTest (eBin fEq (eVar 0) (eC (.str "raw")))) (sRet (eArgs fList (eCons (eVar 1) eNil))) sNil)
    (sSeq (sIf (eTest (eBin fEq (eVar 0) (eC (.str "counted")))) (sRet (eBin fAdd (eArgs fLst (eCons (eArgs fLen (eCons (eVar 1) eNil)) eNil)) (eArgs fList (eCons (eVar 1) eNil)))) sNil)
    (sSeq (sSet 2 (eArgs fLst eNil))
    (sSeq (sFor (eSeq (eVar 1)) (gN 3) (sSet 2 (eBin fAdd (eVar 2) (eIf (eTest (eBin fEq (eVar 3) (eC (.int 0)))) (eArgs fLst (eCons (eC (.int 0)) (eCons (eC (.int 255)) eNil))) (eArgs fLst (eCons (eVar 3) eNil))))))
    (sRet (eBin fAdd (eVar 2) (eArgs fLst (eCons (eC (.int 0)) (eCons (eC (.int 1)) eNil)))))))))))
def m__law_plain : List D → List MO → R D := mOf 2 6 sv__law_plain
def sv__law_bytes : SV := (sSeq (sSet 2 (eArgs fLst eNil))
    (sSeq (sFor (eRange1 (eCons (eArgs fLen (eCons (eVar 0) eNil)) eNil)) (gN 3) (sSeq (sAsg (gT [4, 5, 6]) (eBin fIx (eVar 0) (eVar 3)))
    (sIf (eTest (eBin fIs (eBin fIx (eVar 1) (eVar 3)) (eC .non))) (sSet 2 (eBin fAdd (eVar 2) (eArgs fLst (eCons (eIf (eTest (eBin fEq (eVar 6) (eC (.str "first")))) (eC (.int 0)) (eC (.int 2))) eNil)))) (sSeq (sSet 7 (eArgs m__law_plain (eCons (eVar 4) (eCons (eBin fIx (eVar 1) (eVar 3)) eNil))))
    (sSet 2 (eBin fAdd (eBin fAdd (eVar 2) (eIf (eTest (eBin fEq (eVar 6) (eC (.str "none")))) (eArgs fLst eNil) (eArgs fLst (eCons (eC (.int 1)) eNil)))) (eIf (eTest (eBin fEq (eVar 5) (eC (.str "desc")))) (eArgs fLst' (eLcA (eSeq (eVar 7)) (gN 8) [8] eYes (eBin fSub (eC (.int 255)) (eVar 8)))) (eVar 7))))))))
    (sRet (eArgs fTuple (eCons (eVar 2) eNil)))))
def m__law_bytes : List D → List MO → R D := mOf 2 9 sv__law_bytes
def sv_law_k01_1 : SV := (sSet 1 (eArgs m__law_start (eCons (eVar 0) eNil)))
def sv_law_k01_2 : SV := (sSet 2 (eArgs m__law_scheme (eCons (eVar 1) eNil)))
def sv_law_k01_3 : SV := (sSet 3 (eArgs m__law_row (eCons (eVar 1) (eCons (eVar 2) eNil))))
def sv_law_k01_4b1 : SV := (sRet (eC (.bl false)))
def sv_law_k01_4 : SV := (sIf (eOr (eTest (eBin fIsNot (eArgs m_is_scheme (eCons (eVar 2) eNil)) (eC (.bl true)))) (eTest (eBin fIsNot (eArgs m_is_row (eCons (eVar 2) (eCons (eVar 3) eNil))) (eC (.bl true))))) sv_law_k01_4b1 sNil)
def sv_law_k01_5 : SV := (sSet 4 (eArgs m_encode (eCons (eVar 2) (eCons (eVar 3) eNil))))
def sv_law_k01_6b1 : SV := (sRet (eC (.bl false)))
def sv_law_k01_6 : SV := (sIf (eOr (eTest (eBin fNe (eVar 4) (eArgs m__law_bytes (eCons (eVar 2) (eCons (eVar 3) eNil))))) (eTest (eBin fIsNot (eArgs m_is_bytes (eCons (eVar 4) eNil)) (eC (.bl true))))) sv_law_k01_6b1 sNil)
def sv_law_k01_7 : SV := (sSet 5 (eArgs fTup eNil))
def sv_law_k01_8b1b1 : SV := (sRet (eC (.bl false)))
def sv_law_k01_8b1 : SV := (sIf (eOr (eTest (eBin fIsNot (eArgs m_is_field (eCons (eBin fIx (eVar 2) (eVar 6)) eNil)) (eC (.bl true)))) (eTest (eBin fIsNot (eArgs m_is_value (eCons (eBin fIx (eVar 2) (eVar 6)) (eCons (eBin fIx (eVar 3) (eVar 6)) eNil))) (eC (.bl true))))) sv_law_k01_8b1b1 sNil)
def sv_law_k01_8b2 : SV := (sSet 10 (eArgs m_encode_value (eCons (eBin fIx (eVar 2) (eVar 6)) (eCons (eBin fIx (eVar 3) (eVar 6)) eNil))))
def sv_law_k01_8b3b1 : SV := (sRet (eC (.bl false)))
def sv_law_k01_8b3 : SV := (sIf (eOr (eTest (eBin fNe (eVar 10) (eArgs m__law_bytes (eCons (eArgs fTup (eCons (eBin fIx (eVar 2) (eVar 6)) eNil)) (eCons (eArgs fTup (eCons (eBin fIx (eVar 3) (eVar 6)) eNil)) eNil))))) (eTest (eBin fNe (eVar 10) (eArgs m_encode (eCons (eArgs fTup (eCons (eBin fIx (eVar 2) (eVar 6)) eNil)) (eCons (eArgs fTup (eCons (eBin fIx (eVar 3) (eVar 6)) eNil)) eNil)))))) sv_law_k01_8b3b1 sNil)
def sv_law_k01_8b4 : SV := (sSet 5 (eBin fAdd (eVar 5) (eVar 10)))
def sv_law_k01_8 : SV := (sFor (eRange1 (eCons (eArgs fLen (eCons (eVar 2) eNil)) eNil)) (gN 6) (sSeq sv_law_k01_8b1
    (sSeq sv_law_k01_8b2
    (sSeq sv_law_k01_8b3
    sv_law_k01_8b4))))
def sv_law_k01_9 : SV := (sSet 7 (eArgs m__law_value (eCons (eVar 1) (eCons (eArgs fTup (eCons (eC (.str "int")) (eCons (eC (.str "asc")) (eCons (eC (.str "none")) eNil)))) eNil))))
def sv_law_k01_10 : SV := (sSet 8 (eArgs m_encode_value (eCons (eArgs fTup (eCons (eC (.str "int")) (eCons (eC (.str "asc")) (eCons (eC (.str "none")) eNil)))) (eCons (eVar 7) eNil))))
def sv_law_k01_11b1 : SV := (sRet (eC (.bl false)))
def sv_law_k01_11 : SV := (sIf (eOr (eTest (eBin fNe (eArgs fAbs (eCons (eBin fSub (eBin fIx (eVar 8) (eC (.int 0))) (eC (.int 128))) eNil)) (eBin fSub (eArgs fLen (eCons (eVar 8) eNil)) (eC (.int 1))))) (eTest (eBin fNe (eBin fLt (eVar 7) (eC (.int 0))) (eBin fLt (eBin fIx (eVar 8) (eC (.int 0))) (eC (.int 128)))))) sv_law_k01_11b1 sNil)
def sv_law_k01_12 : SV := (sSet 9 (eArgs m_encode_value (eCons (eArgs fTup (eCons (eC (.str "int")) (eCons (eC (.str "desc")) (eCons (eC (.str "none")) eNil)))) (eCons (eVar 7) eNil))))
def sv_law_k01_13 : SV := (sRet (eAndV (eBin fEq (eVar 5) (eVar 4)) (eBin fEq (eVar 9) (eArgs fTuple (eCons (eArgs fLst' (eLcA (eSeq (eVar 8)) (gN 11) [11] eYes (eBin fSub (eC (.int 255)) (eVar 11)))) eNil)))))
def sv_law_k01 : SV := (sSeq sv_law_k01_1
    (sSeq sv_law_k01_2
    (sSeq sv_law_k01_3
    (sSeq sv_law_k01_4
    (sSeq sv_law_k01_5
    (sSeq sv_law_k01_6
    (sSeq sv_law_k01_7
    (sSeq sv_law_k01_8
    (sSeq sv_law_k01_9
    (sSeq sv_law_k01_10
    (sSeq sv_law_k01_11
    (sSeq sv_law_k01_12
    sv_law_k01_13))))))))))))
def m_law_k01 : List D → List MO → R D := mOf 1 12 sv_law_k01
def sv__law_other : SV := (sRet (eArgs fTuple (eCons (eArgs fLst' (eLcA (eRange1 (eCons (eArgs fLen (eCons (eVar 1) eNil)) eNil)) (gN 3) [3] eYes (eIf (eTest (eBin fEq (eArgs m__law_draw (eCons (eVar 0) (eCons (eC (.int 2)) eNil))) (eC (.int 0)))) (eBin fIx (eVar 2) (eVar 3)) (eArgs m__law_value (eCons (eVar 0) (eCons (eBin fIx (eVar 1) (eVar 3)) eNil)))))) eNil)))
def m__law_other : List D → List MO → R D := mOf 3 4 sv__law_other
def sv__law_sign : SV := (sSeq (sIf (eTest (eBin fEq (eVar 1) (eVar 2))) (sRet (eC (.int 0))) sNil)
    (sSeq (sIf (eOr (eTest (eBin fIs (eVar 1) (eC .non))) (eTest (eBin fIs (eVar 2) (eC .non)))) (sRet (eIf (eTest (eBin fEq (eBin fIs (eVar 1) (eC .non)) (eBin fEq (eBin fIx (eVar 0) (eC (.int 2))) (eC (.str "first"))))) (eBin fSub (eC (.int 0)) (eC (.int 1))) (eC (.int 1)))) sNil)
    (sRet (eIf (eTest (eBin fEq (eBin fLt (eVar 1) (eVar 2)) (eBin fEq (eBin fIx (eVar 0) (eC (.int 1))) (eC (.str "asc"))))) (eBin fSub (eC (.int 0)) (eC (.int 1))) (eC (.int 1))))))
def m__law_sign : List D → List MO → R D := mOf 3 3 sv__law_sign
def sv__law_compare : SV := (sSeq (sFor (eRange1 (eCons (eArgs fLen (eCons (eVar 0) eNil)) eNil)) (gN 3) (sSeq (sSet 4 (eArgs m__law_sign (eCons (eBin fIx (eVar 0) (eVar 3)) (eCons (eBin fIx (eVar 1) (eVar 3)) (eCons (eBin fIx (eVar 2) (eVar 3)) eNil)))))
    (sIf (eTest (eBin fNe (eVar 4) (eC (.int 0)))) (sRet (eVar 4)) sNil)))
    (sRet (eC (.int 0))))
def m__law_compare : List D → List MO → R D := mOf 3 5 sv__law_compare
def sv_rank : SV := (sSeq (sIf (eTest (eBin fIsNot (eVar 1) (eC .non))) (sRet (eC (.int 0))) sNil)
    (sRet (eIf (eTest (eBin fEq (eBin fIx (eVar 0) (eC (.int 2))) (eC (.str "first")))) (eUn fNeg (eC (.int 1))) (eC (.int 1)))))
def m_rank : List D → List MO → R D := mOf 2 2 sv_rank
def sv_compare_values : SV := (sSeq (sIf (eOr (eTest (eBin fIs (eVar 1) (eC .non))) (eTest (eBin fIs (eVar 2) (eC .non)))) (sSeq (sPar 1 2 (eCons (eArgs m_rank (eCons (eVar 0) (eCons (eVar 1) eNil))) (eCons (eArgs m_rank (eCons (eVar 0) (eCons (eVar 2) eNil))) eNil)))
    (sRet (eIf (eTest (eBin fLt (eVar 1) (eVar 2))) (eUn fNeg (eC (.int 1))) (eIf (eTest (eBin fGt (eVar 1) (eVar 2))) (eC (.int 1)) (eC (.int 0)))))) sNil)
    (sSeq (sIf (eTest (eBin fEq (eVar 1) (eVar 2))) (sRet (eC (.int 0))) sNil)
    (sRet (eIf (eTest (eBin fEq (eBin fLt (eVar 1) (eVar 2)) (eBin fEq (eBin fIx (eVar 0) (eC (.int 1))) (eC (.str "asc"))))) (eUn fNeg (eC (.int 1))) (eC (.int 1))))))
def m_compare_values : List D → List MO → R D := mOf 3 3 sv_compare_values
def sv_compare_rows : SV := (sSeq (sExpr (eArgs m_check_scheme (eCons (eVar 0) eNil)))
    (sSeq (sExpr (eArgs m_check_row (eCons (eVar 0) (eCons (eVar 1) eNil))))
    (sSeq (sExpr (eArgs m_check_row (eCons (eVar 0) (eCons (eVar 2) eNil))))
    (sSeq (sFor (eZip3 (eCons (eVar 0) (eCons (eVar 1) (eCons (eVar 2) eNil)))) (gT [3, 4, 5]) (sSeq (sSet 6 (eArgs m_compare_values (eCons (eVar 3) (eCons (eVar 4) (eCons (eVar 5) eNil)))))
    (sIf (eTest (eBin fNe (eVar 6) (eC (.int 0)))) (sRet (eVar 6)) sNil)))
    (sRet (eC (.int 0)))))))
def m_compare_rows : List D → List MO → R D := mOf 3 7 sv_compare_rows
def sv_law_k02_1 : SV := (sSet 1 (eArgs m__law_start (eCons (eVar 0) eNil)))
def sv_law_k02_2 : SV := (sSet 2 (eArgs m__law_scheme (eCons (eVar 1) eNil)))
def sv_law_k02_3 : SV := (sSet 3 (eArgs fCell (eCons (eArgs m__law_row (eCons (eVar 1) (eCons (eVar 2) eNil))) eNil)))
def sv_law_k02_4b1 : SV := (sExpr (eMeth ckL fAppend (eVar 3) (eCons (eArgs m__law_other (eCons (eVar 1) (eCons (eVar 2) (eCons (eArgs m__law_pick (eCons (eVar 1) (eCons (eVar 3) eNil))) eNil)))) eNil)))
def sv_law_k02_4 : SV := (sFor (eRange1 (eCons (eC (.int 3)) eNil)) (gN 4) sv_law_k02_4b1)
def sv_law_k02_5b1b1 : SV := (sSet 11 (eArgs m__law_compare (eCons (eVar 2) (eCons (eVar 5) (eCons (eVar 8) eNil)))))
def sv_law_k02_5b1b2b1 : SV := (sRet (eC (.bl false)))
def sv_law_k02_5b1b2 : SV := (sIf (eOr (eTest (eBin fNe (eArgs m_compare_rows (eCons (eVar 2) (eCons (eVar 5) (eCons (eVar 8) eNil)))) (eVar 11))) (eTest (eBin fNe (eArgs m_compare_rows (eCons (eVar 2) (eCons (eVar 8) (eCons (eVar 5) eNil)))) (eBin fSub (eC (.int 0)) (eVar 11))))) sv_law_k02_5b1b2b1 sNil)
def sv_law_k02_5b1b3b1 : SV := (sRet (eC (.bl false)))
def sv_law_k02_5b1b3 : SV := (sIf (eTest (eBin fNe (eBin fEq (eVar 11) (eC (.int 0))) (eBin fEq (eVar 5) (eVar 8)))) sv_law_k02_5b1b3b1 sNil)
def sv_law_k02_5b1 : SV := (sFor (eSeq (eVar 3)) (gN 8) (sSeq sv_law_k02_5b1b1
    (sSeq sv_law_k02_5b1b2
    sv_law_k02_5b1b3)))
def sv_law_k02_5 : SV := (sFor (eSeq (eVar 3)) (gN 5) sv_law_k02_5b1)
def sv_law_k02_6 : SV := (sPar3 5 9 10 (eCons (eBin fIx (eVar 3) (eC (.int 0))) (eCons (eBin fIx (eVar 3) (eC (.int 1))) (eCons (eBin fIx (eVar 3) (eC (.int 2))) eNil))))
def sv_law_k02_7b1 : SV := (sRet (eC (.bl false)))
def sv_law_k02_7 : SV := (sIf (eAnd (eTest (eBin fLe (eArgs m_compare_rows (eCons (eVar 2) (eCons (eVar 5) (eCons (eVar 9) eNil)))) (eC (.int 0)))) (eAnd (eTest (eBin fLe (eArgs m_compare_rows (eCons (eVar 2) (eCons (eVar 9) (eCons (eVar 10) eNil)))) (eC (.int 0)))) (eTest (eBin fGt (eArgs m_compare_rows (eCons (eVar 2) (eCons (eVar 5) (eCons (eVar 10) eNil)))) (eC (.int 0)))))) sv_law_k02_7b1 sNil)
def sv_law_k02_8 : SV := (sSet 6 (eArgs m__law_field (eCons (eVar 1) eNil)))
def sv_law_k02_9 : SV := (sSet 7 (eArgs fLst' (eLcA (eRange1 (eCons (eC (.int 2)) eNil)) (gN 4) [4] eYes (eArgs m__law_value (eCons (eVar 1) (eCons (eVar 6) eNil))))))
def sv_law_k02_10 : SV := (sRet (eBin fEq (eArgs m_compare_rows (eCons (eArgs fTup (eCons (eVar 6) eNil)) (eCons (eArgs fTup (eCons (eBin fIx (eVar 7) (eC (.int 0))) eNil)) (eCons (eArgs fTup (eCons (eBin fIx (eVar 7) (eC (.int 1))) eNil)) eNil)))) (eArgs m__law_sign (eCons (eVar 6) (eCons (eBin fIx (eVar 7) (eC (.int 0))) (eCons (eBin fIx (eVar 7) (eC (.int 1))) eNil))))))
def sv_law_k02 : SV := (sSeq sv_law_k02_1
    (sSeq sv_law_k02_2
    (sSeq sv_law_k02_3
    (sSeq sv_law_k02_4
    (sSeq sv_law_k02_5
    (sSeq sv_law_k02_6
    (sSeq sv_law_k02_7
    (sSeq sv_law_k02_8
    (sSeq sv_law_k02_9
    sv_law_k02_10)))))))))
def m_law_k02 : List D → List MO → R D := mOf 1 12 sv_law_k02
def sv__law_good_field : SV := (sSeq (sSet 1 (eArgs m__law_pick (eCons (eVar 0) (eCons (eArgs fLst (eCons (eC (.str "int")) (eCons (eC (.str "fixed1")) (eCons (eC (.str "fixed2")) (eCons (eC (.str "fixed4")) (eCons (eC (.str "little1")) (eCons (eC (.str "closed")) (eCons (eC (.str "closed")) eNil)))))))) eNil))))
    (sRet (eArgs fTup (eCons (eVar 1) (eCons (eArgs m__law_pick (eCons (eVar 0) (eCons (eArgs fLst (eCons (eC (.str "asc")) (eCons (eC (.str "desc")) eNil))) eNil))) (eCons (eArgs m__law_pick (eCons (eVar 0) (eCons (eArgs fLst (eCons (eC (.str "none")) (eCons (eC (.str "none")) (eCons (eC (.str "first")) (eCons (eC (.str "last")) eNil))))) eNil))) eNil))))))
def m__law_good_field : List D → List MO → R D := mOf 1 2 sv__law_good_field
def sv__law_good : SV := (sSeq (sSet 1 (eArgs fTuple (eCons (eArgs fLst' (eLcA (eRange1 (eCons (eBin fAdd (eC (.int 1)) (eArgs m__law_draw (eCons (eVar 0) (eCons (eC (.int 4)) eNil)))) eNil)) (gN 2) [2] eYes (eArgs m__law_good_field (eCons (eVar 0) eNil)))) eNil)))
    (sSeq (sIf (eTest (eBin fEq (eArgs m__law_draw (eCons (eVar 0) (eCons (eC (.int 3)) eNil))) (eC (.int 0)))) (sSet 1 (eBin fAdd (eSl (eVar 1) eNoE (eSomeE (eUn fNeg (eC (.int 1))))) (eArgs fTup (eCons (eArgs fTup (eCons (eC (.str "raw")) (eCons (eC (.str "asc")) (eCons (eArgs m__law_pick (eCons (eVar 0) (eCons (eArgs fLst (eCons (eC (.str "none")) (eCons (eC (.str "first")) (eCons (eC (.str "last")) eNil)))) eNil))) eNil)))) eNil)))) sNil)
    (sRet (eVar 1))))
def m__law_good : List D → List MO → R D := mOf 1 3 sv__law_good
def sv_default_value : SV := (sRet (eIf (eTest (eBin fIn (eBin fIx (eVar 0) (eC (.int 0))) (eArgs fTup (eCons (eC (.str "raw")) (eCons (eC (.str "closed")) (eCons (eC (.str "counted")) eNil)))))) (eArgs fTup eNil) (eC (.int 0))))
def m_default_value : List D → List MO → R D := mOf 1 1 sv_default_value
def sv_default_row : SV := (sRet (eArgs fTuple (eCons (eArgs fLst' (eLcA (eSeq (eVar 0)) (gN 1) [1] eYes (eArgs m_default_value (eCons (eVar 1) eNil)))) eNil)))
def m_default_row : List D → List MO → R D := mOf 1 2 sv_default_row
def sv_field_pair : SV := (sSeq (sAsg (gT [2, 3, 4]) (eVar 0))
    (sSeq (sSet 1 (eC .non))
    (sSeq (sIf (eAnd (eTest (eUn (fInTab tab_SIZES) (eVar 2))) (eAnd (eTest (eMeth ckS fStarts (eVar 2) (eCons (eC (.str "little")) eNil))) (eTest (eBin fGt (eUn (fTab tab_SIZES) (eVar 2)) (eC (.int 1)))))) (sSet 1 (eArgs fTup (eCons (eC (.int 1)) (eCons (eC (.int 256)) eNil)))) sNil)
    (sSeq (sIf (eTest (eBin fEq (eVar 2) (eC (.str "counted")))) (sSet 1 (eArgs fTup (eCons (eArgs fTup (eCons (eC (.int 1)) (eCons (eC (.int 1)) eNil))) (eCons (eArgs fTup (eCons (eC (.int 2)) eNil)) eNil)))) sNil)
    (sSeq (sIf (eAnd (eTest (eBin fEq (eVar 2) (eC (.str "raw")))) (eTest (eBin fEq (eVar 3) (eC (.str "desc"))))) (sRet (eArgs fTup (eCons (eArgs fTup (eCons (eC (.int 0)) eNil)) (eCons (eArgs fTup eNil) eNil)))) sNil)
    (sSeq (sIf (eAnd (eTest (eBin fIsNot (eVar 1) (eC .non))) (eTest (eBin fEq (eVar 3) (eC (.str "desc"))))) (sSet 1 (eUn fRev (eVar 1))) sNil)
    (sRet (eVar 1))))))))
def m_field_pair : List D → List MO → R D := mOf 1 5 sv_field_pair
def sv_with_value : SV := (sRet (eBin fAdd (eBin fAdd (eSl (eVar 0) eNoE (eSomeE (eVar 1))) (eArgs fTup (eCons (eVar 2) eNil))) (eSl (eVar 0) (eSomeE (eBin fAdd (eVar 1) (eC (.int 1)))) eNoE)))
def m_with_value : List D → List MO → R D := mOf 3 3 sv_with_value
def sv_great_value : SV := (sSeq (sAsg (gT [1, 2, 3]) (eVar 0))
    (sSeq (sIf (eOr (eTest (eBin fEq (eVar 2) (eC (.str "desc")))) (eTest (eBin fEq (eVar 1) (eC (.str "int"))))) (sRet (eIf (eTest (eBin fEq (eVar 1) (eC (.str "raw")))) (eArgs fTup (eCons (eC (.int 0)) eNil)) (eIf (eTest (eBin fIn (eVar 1) (eArgs fTup (eCons (eC (.str "closed")) (eCons (eC (.str "counted")) eNil))))) (eArgs fTup eNil) (eC (.int 0))))) sNil)
    (sRet (eIf (eTest (eUn (fInTab tab_SIZES) (eVar 1))) (eBin fSub (eArgs m_power (eCons (eUn (fTab tab_SIZES) (eVar 1)) eNil)) (eC (.int 1))) (eArgs fTup (eCons (eC (.int 1)) eNil))))))
def m_great_value : List D → List MO → R D := mOf 1 4 sv_great_value
def sv_order_witness : SV := (sSeq (sExpr (eArgs m_check_scheme (eCons (eVar 0) eNil)))
    (sSeq (sSet 1 (eArgs m_default_row (eCons (eVar 0) eNil)))
    (sSeq (sFor (eEnum (eCons (eVar 0) eNil)) (gT [2, 3]) (sSeq (sSet 4 (eArgs m_field_pair (eCons (eVar 3) eNil)))
    (sSeq (sIf (eTest (eBin fIsNot (eVar 4) (eC .non))) (sRet (eArgs fTup (eCons (eArgs m_with_value (eCons (eVar 1) (eCons (eVar 2) (eCons (eBin fIx (eVar 4) (eC (.int 0))) eNil)))) (eCons (eArgs m_with_value (eCons (eVar 1) (eCons (eVar 2) (eCons (eBin fIx (eVar 4) (eC (.int 1))) eNil)))) eNil)))) sNil)
    (sIf (eAnd (eTest (eBin fEq (eBin fIx (eVar 3) (eC (.int 0))) (eC (.str "raw")))) (eTest (eBin fLt (eVar 2) (eBin fSub (eArgs fLen (eCons (eVar 0) eNil)) (eC (.int 1)))))) (sSeq (sSet 5 (eArgs m_with_value (eCons (eVar 1) (eCons (eBin fAdd (eVar 2) (eC (.int 1))) (eCons (eArgs m_great_value (eCons (eBin fIx (eVar 0) (eBin fAdd (eVar 2) (eC (.int 1)))) eNil)) eNil)))))
    (sRet (eArgs fTup (eCons (eVar 5) (eCons (eArgs m_with_value (eCons (eVar 1) (eCons (eVar 2) (eCons (eArgs fTup (eCons (eC (.int 0)) eNil)) eNil)))) eNil))))) sNil))))
    (sRet (eC .non)))))
def m_order_witness : List D → List MO → R D := mOf 1 6 sv_order_witness
def sv_keeps_order : SV := (sRet (eBin fIs (eArgs m_order_witness (eCons (eVar 0) eNil)) (eC .non)))
def m_keeps_order : List D → List MO → R D := mOf 1 1 sv_keeps_order
def sv_first_raw : SV := (sSeq (sFor (eEnum (eCons (eVar 0) eNil)) (gT [1, 2]) (sIf (eTest (eBin fEq (eBin fIx (eVar 2) (eC (.int 0))) (eC (.str "raw")))) (sRet (eVar 1)) sNil))
    (sRet (eC .non)))
def m_first_raw : List D → List MO → R D := mOf 1 3 sv_first_raw
def sv_is_constant : SV := (sRet (eAndV (eUn (fInTab tab_SIZES) (eBin fIx (eVar 0) (eC (.int 0)))) (eBin fEq (eBin fIx (eVar 0) (eC (.int 2))) (eC (.str "none")))))
def m_is_constant : List D → List MO → R D := mOf 1 1 sv_is_constant
def sv_blur_of : SV := (sSeq (sSet 1 (eArgs m_first_raw (eCons (eVar 0) eNil)))
    (sSeq (sIf (eTest (eBin fIsNot (eVar 1) (eC .non))) (sFor (eRange2 (eCons (eBin fAdd (eVar 1) (eC (.int 1))) (eCons (eArgs fLen (eCons (eVar 0) eNil)) eNil))) (gN 2) (sIf (eNot (eTest (eArgs m_is_constant (eCons (eBin fIx (eVar 0) (eVar 2)) eNil)))) (sRet (eArgs fTup (eCons (eVar 1) (eCons (eVar 2) eNil)))) sNil)) sNil)
    (sRet (eC .non))))
def m_blur_of : List D → List MO → R D := mOf 1 3 sv_blur_of
def sv_is_decodable : SV := (sSeq (sExpr (eArgs m_check_scheme (eCons (eVar 0) eNil)))
    (sRet (eBin fIs (eArgs m_blur_of (eCons (eVar 0) eNil)) (eC .non))))
def m_is_decodable : List D → List MO → R D := mOf 1 1 sv_is_decodable
def sv_law_k03_1 : SV := (sSet 1 (eArgs m__law_start (eCons (eVar 0) eNil)))
def sv_law_k03_2 : SV := (sSet 2 (eArgs m__law_good (eCons (eVar 1) eNil)))
def sv_law_k03_3b1 : SV := (sRet (eC (.bl false)))
def sv_law_k03_3 : SV := (sIf (eOr (eTest (eBin fIsNot (eArgs m_keeps_order (eCons (eVar 2) eNil)) (eC (.bl true)))) (eOr (eTest (eBin fIsNot (eArgs m_order_witness (eCons (eVar 2) eNil)) (eC .non))) (eTest (eBin fIsNot (eArgs m_is_decodable (eCons (eVar 2) eNil)) (eC (.bl true)))))) sv_law_k03_3b1 sNil)
def sv_law_k03_4 : SV := (sSet 3 (eArgs m__law_row (eCons (eVar 1) (eCons (eVar 2) eNil))))
def sv_law_k03_5b1 : SV := (sSet 5 (eArgs m__law_other (eCons (eVar 1) (eCons (eVar 2) (eCons (eVar 3) eNil)))))
def sv_law_k03_5b2b1 : SV := (sSet 7 (eArgs m__law_draw (eCons (eVar 1) (eCons (eArgs fLen (eCons (eVar 2) eNil)) eNil))))
def sv_law_k03_5b2b2b1 : SV := (sSet 10 (eSl (eBin fAdd (eBin fIx (eVar 5) (eVar 7)) (eArgs m__law_text (eCons (eVar 1) (eCons (eC (.int 3)) eNil)))) eNoE (eSomeE (eC (.int 9)))))
def sv_law_k03_5b2b2b2 : SV := (sSet 5 (eBin fAdd (eBin fAdd (eSl (eVar 5) eNoE (eSomeE (eVar 7))) (eArgs fTup (eCons (eVar 10) eNil))) (eSl (eVar 5) (eSomeE (eBin fAdd (eVar 7) (eC (.int 1)))) eNoE)))
def sv_law_k03_5b2b2 : SV := (sIf (eTest (eUn (fIsi "tuple") (eBin fIx (eVar 5) (eVar 7)))) (sSeq sv_law_k03_5b2b2b1
    sv_law_k03_5b2b2b2) sNil)
def sv_law_k03_5b2 : SV := (sIf (eTest (eBin fEq (eArgs m__law_draw (eCons (eVar 1) (eCons (eC (.int 2)) eNil))) (eC (.int 0)))) (sSeq sv_law_k03_5b2b1
    sv_law_k03_5b2b2) sNil)
def sv_law_k03_5b3 : SV := (sPar 8 9 (eCons (eArgs m_encode (eCons (eVar 2) (eCons (eVar 3) eNil))) (eCons (eArgs m_encode (eCons (eVar 2) (eCons (eVar 5) eNil))) eNil)))
def sv_law_k03_5b4 : SV := (sSet 6 (eIf (eTest (eBin fLt (eVar 8) (eVar 9))) (eBin fSub (eC (.int 0)) (eC (.int 1))) (eIf (eTest (eBin fGt (eVar 8) (eVar 9))) (eC (.int 1)) (eC (.int 0)))))
def sv_law_k03_5b5b1 : SV := (sRet (eC (.bl false)))
def sv_law_k03_5b5 : SV := (sIf (eOr (eTest (eBin fNe (eArgs m_compare_rows (eCons (eVar 2) (eCons (eVar 3) (eCons (eVar 5) eNil)))) (eVar 6))) (eTest (eBin fNe (eBin fEq (eVar 6) (eC (.int 0))) (eBin fEq (eVar 3) (eVar 5))))) sv_law_k03_5b5b1 sNil)
def sv_law_k03_5b6 : SV := (sSet 3 (eVar 5))
def sv_law_k03_5 : SV := (sFor (eRange1 (eCons (eC (.int 4)) eNil)) (gN 4) (sSeq sv_law_k03_5b1
    (sSeq sv_law_k03_5b2
    (sSeq sv_law_k03_5b3
    (sSeq sv_law_k03_5b4
    (sSeq sv_law_k03_5b5
    sv_law_k03_5b6))))))
def sv_law_k03_6 : SV := (sRet (eBin fEq (eArgs m_compare_rows (eCons (eVar 2) (eCons (eVar 3) (eCons (eVar 3) eNil)))) (eC (.int 0))))
def sv_law_k03 : SV := (sSeq sv_law_k03_1
    (sSeq sv_law_k03_2
    (sSeq sv_law_k03_3
    (sSeq sv_law_k03_4
    (sSeq sv_law_k03_5
    sv_law_k03_6)))))
def m_law_k03 : List D → List MO → R D := mOf 1 11 sv_law_k03
def sv__law_true : SV := (sRet (eAndV (eUn (fIsi "bool") (eVar 0)) (eBin fEq (eVar 0) (eVar 1))))
def m__law_true : List D → List MO → R D := mOf 2 2 sv__law_true
def sv_law_k04_1 : SV := (sSet 1 (eArgs m__law_start (eCons (eVar 0) eNil)))
def sv_law_k04_2 : SV := (sSet 2 (eArgs m__law_scheme (eCons (eVar 1) eNil)))
def sv_law_k04_3 : SV := (sSet 3 (eC (.bl true)))
def sv_law_k04_4b1 : SV := (sAsg (gT [11, 12, 13]) (eBin fIx (eVar 2) (eVar 4)))
def sv_law_k04_4b2b1 : SV := (sSet 3 (eC (.bl false)))
def sv_law_k04_4b2 : SV := (sIf (eOr (eTest (eBin fEq (eVar 11) (eC (.str "counted")))) (eAnd (eTest (eBin fEq (eSl (eVar 11) eNoE (eSomeE (eC (.int 6)))) (eC (.str "little")))) (eTest (eBin fNe (eVar 11) (eC (.str "little1")))))) sv_law_k04_4b2b1 sNil)
def sv_law_k04_4b3b1 : SV := (sSet 3 (eC (.bl false)))
def sv_law_k04_4b3 : SV := (sIf (eAnd (eTest (eBin fEq (eVar 11) (eC (.str "raw")))) (eOr (eTest (eBin fEq (eVar 12) (eC (.str "desc")))) (eTest (eBin fLt (eVar 4) (eBin fSub (eArgs fLen (eCons (eVar 2) eNil)) (eC (.int 1))))))) sv_law_k04_4b3b1 sNil)
def sv_law_k04_4 : SV := (sFor (eRange1 (eCons (eArgs fLen (eCons (eVar 2) eNil)) eNil)) (gN 4) (sSeq sv_law_k04_4b1
    (sSeq sv_law_k04_4b2
    sv_law_k04_4b3)))
def sv_law_k04_5b1 : SV := (sRet (eC (.bl false)))
def sv_law_k04_5 : SV := (sIf (eNot (eTest (eArgs m__law_true (eCons (eArgs m_keeps_order (eCons (eVar 2) eNil)) (eCons (eVar 3) eNil))))) sv_law_k04_5b1 sNil)
def sv_law_k04_6 : SV := (sSet 5 (eArgs m_order_witness (eCons (eVar 2) eNil)))
def sv_law_k04_7b1 : SV := (sRet (eC (.bl false)))
def sv_law_k04_7 : SV := (sIf (eTest (eBin fNe (eBin fIs (eVar 5) (eC .non)) (eVar 3))) sv_law_k04_7b1 sNil)
def sv_law_k04_8b1 : SV := (sAsg (gT [9, 10]) (eVar 5))
def sv_law_k04_8b2b1 : SV := (sRet (eC (.bl false)))
def sv_law_k04_8b2 : SV := (sIf (eOr (eTest (eBin fIsNot (eArgs m_is_row (eCons (eVar 2) (eCons (eVar 9) eNil))) (eC (.bl true)))) (eTest (eBin fIsNot (eArgs m_is_row (eCons (eVar 2) (eCons (eVar 10) eNil))) (eC (.bl true))))) sv_law_k04_8b2b1 sNil)
def sv_law_k04_8b3 : SV := (sRet (eAndV (eBin fEq (eArgs m__law_compare (eCons (eVar 2) (eCons (eVar 9) (eCons (eVar 10) eNil)))) (eBin fSub (eC (.int 0)) (eC (.int 1)))) (eBin fGe (eArgs m__law_bytes (eCons (eVar 2) (eCons (eVar 9) eNil))) (eArgs m__law_bytes (eCons (eVar 2) (eCons (eVar 10) eNil))))))
def sv_law_k04_8 : SV := (sIf (eTest (eBin fIsNot (eVar 5) (eC .non))) (sSeq sv_law_k04_8b1
    (sSeq sv_law_k04_8b2
    sv_law_k04_8b3)) sNil)
def sv_law_k04_9 : SV := (sSet 6 (eArgs m__law_row (eCons (eVar 1) (eCons (eVar 2) eNil))))
def sv_law_k04_10 : SV := (sSet 7 (eArgs m__law_other (eCons (eVar 1) (eCons (eVar 2) (eCons (eVar 6) eNil)))))
def sv_law_k04_11 : SV := (sSet 8 (eArgs m__law_compare (eCons (eVar 2) (eCons (eVar 6) (eCons (eVar 7) eNil)))))
def sv_law_k04_12 : SV := (sPar 9 10 (eCons (eArgs m__law_bytes (eCons (eVar 2) (eCons (eVar 6) eNil))) (eCons (eArgs m__law_bytes (eCons (eVar 2) (eCons (eVar 7) eNil))) eNil)))
def sv_law_k04_13 : SV := (sRet (eAndV (eBin fEq (eBin fLt (eVar 8) (eC (.int 0))) (eBin fLt (eVar 9) (eVar 10))) (eAndV (eBin fEq (eBin fGt (eVar 8) (eC (.int 0))) (eBin fGt (eVar 9) (eVar 10))) (eBin fEq (eArgs m_encode (eCons (eVar 2) (eCons (eVar 6) eNil))) (eVar 9)))))
def sv_law_k04 : SV := (sSeq sv_law_k04_1
    (sSeq sv_law_k04_2
    (sSeq sv_law_k04_3
    (sSeq sv_law_k04_4
    (sSeq sv_law_k04_5
    (sSeq sv_law_k04_6
    (sSeq sv_law_k04_7
    (sSeq sv_law_k04_8
    (sSeq sv_law_k04_9
    (sSeq sv_law_k04_10
    (sSeq sv_law_k04_11
    (sSeq sv_law_k04_12
    sv_law_k04_13))))))))))))
def m_law_k04 : List D → List MO → R D := mOf 1 14 sv_law_k04
def sv_ending_value : SV := (sSeq (sAsg (gT [3, 4, 5]) (eVar 0))
    (sSeq (sSet 2 (eIf (eTest (eBin fEq (eVar 4) (eC (.str "desc")))) (eBin fSub (eC (.int 255)) (eVar 1)) (eVar 1)))
    (sSeq (sIf (eTest (eUn (fInTab tab_SIZES) (eVar 3))) (sRet (eIf (eTest (eMeth ckS fStarts (eVar 3) (eCons (eC (.str "fixed")) eNil))) (eVar 2) (eBin fMul (eVar 2) (eArgs m_power (eCons (eBin fSub (eUn (fTab tab_SIZES) (eVar 3)) (eC (.int 1))) eNil))))) sNil)
    (sSeq (sIf (eTest (eBin fEq (eVar 3) (eC (.str "int")))) (sRet (eIf (eTest (eBin fGt (eVar 2) (eC (.int 0)))) (eVar 2) (eC (.int 256)))) sNil)
    (sRet (eArgs fTup (eCons (eVar 2) eNil)))))))
def m_ending_value : List D → List MO → R D := mOf 2 6 sv_ending_value
def sv_shifting_values : SV := (sSeq (sAsg (gT [1, 2, 3]) (eVar 0))
    (sSeq (sIf (eAnd (eTest (eBin fEq (eVar 1) (eC (.str "closed")))) (eTest (eBin fNe (eVar 3) (eC (.str "none"))))) (sRet (eArgs fTup (eCons (eIf (eTest (eBin fEq (eVar 2) (eC (.str "desc")))) (eArgs fTup (eCons (eC (.int 254)) eNil)) (eArgs fTup (eCons (eC (.int 1)) eNil))) (eCons (eArgs fTup eNil) eNil)))) sNil)
    (sSeq (sIf (eTest (eBin fNe (eVar 3) (eC (.str "none")))) (sRet (eArgs fTup (eCons (eArgs m_ending_value (eCons (eVar 0) (eCons (eUn (fTab tab_MARKS) (eVar 3)) eNil))) (eCons (eC .non) eNil)))) sNil)
    (sSeq (sIf (eTest (eBin fEq (eVar 1) (eC (.str "int")))) (sRet (eArgs fTup (eCons (eC (.int 128)) (eCons (eC (.int 0)) eNil)))) sNil)
    (sRet (eArgs fTup (eCons (eIf (eTest (eBin fEq (eVar 1) (eC (.str "counted")))) (eArgs fTup (eCons (eC (.int 0)) eNil)) (eArgs fTup (eCons (eC (.int 1)) eNil))) (eCons (eArgs fTup eNil) eNil))))))))
def m_shifting_values : List D → List MO → R D := mOf 1 4 sv_shifting_values
def sv_fail : SV := (sRaise "BadBytes")
def m_fail : List D → List MO → R D := mOf 0 0 sv_fail
def sv_take : SV := (sSeq (sIf (eTest (eBin fLt (eArgs fLen (eCons (eVar 0) eNil)) (eVar 1))) (sExpr (eArgs m_fail eNil)) sNil)
    (sRet (eArgs fTup (eCons (eSl (eVar 0) eNoE (eSomeE (eVar 1))) (eCons (eSl (eVar 0) (eSomeE (eVar 1)) eNoE) eNil)))))
def m_take : List D → List MO → R D := mOf 2 2 sv_take
def sv_number_of : SV := (sSeq (sSet 1 (eC (.int 0)))
    (sSeq (sFor (eSeq (eVar 0)) (gN 2) (sSet 1 (eBin fAdd (eBin fMul (eVar 1) (eC (.int 256))) (eVar 2))))
    (sRet (eVar 1))))
def m_number_of : List D → List MO → R D := mOf 1 3 sv_number_of
def sv_take_int : SV := (sSeq (sAsg (gT [3, 4]) (eArgs m_take (eCons (eVar 0) (eCons (eC (.int 1)) eNil))))
    (sSeq (sSet 1 (eArgs fAbs (eCons (eBin fSub (eBin fIx (eVar 3) (eC (.int 0))) (eC (.int 128))) eNil)))
    (sSeq (sIf (eTest (eBin fGt (eVar 1) (eC (.int 8)))) (sExpr (eArgs m_fail eNil)) sNil)
    (sSeq (sAsg (gT [5, 4]) (eArgs m_take (eCons (eVar 4) (eCons (eVar 1) eNil))))
    (sSeq (sSet 2 (eArgs m_number_of (eCons (eIf (eTest (eBin fGe (eBin fIx (eVar 3) (eC (.int 0))) (eC (.int 128)))) (eVar 5) (eArgs m_flipped (eCons (eVar 5) eNil))) eNil)))
    (sSeq (sIf (eAnd (eTest (eBin fGt (eVar 1) (eC (.int 0)))) (eTest (eBin fLt (eVar 2) (eArgs m_power (eCons (eBin fSub (eVar 1) (eC (.int 1))) eNil))))) (sExpr (eArgs m_fail eNil)) sNil)
    (sRet (eArgs fTup (eCons (eIf (eTest (eBin fGe (eBin fIx (eVar 3) (eC (.int 0))) (eC (.int 128)))) (eVar 2) (eUn fNeg (eVar 2))) (eCons (eVar 4) eNil))))))))))
def m_take_int : List D → List MO → R D := mOf 1 6 sv_take_int
def sv_take_closed : SV := (sSeq (sSet 1 (eArgs fTup eNil))
    (sSeq (sWhile (eTest (eBin fNe (eSl (eVar 0) eNoE (eSomeE (eC (.int 2)))) (eArgs fTup (eCons (eC (.int 0)) (eCons (eC (.int 1)) eNil))))) (sIf (eTest (eBin fEq (eSl (eVar 0) eNoE (eSomeE (eC (.int 2)))) (eArgs fTup (eCons (eC (.int 0)) (eCons (eC (.int 255)) eNil))))) (sSeq (sAug 1 fIAdd (eArgs fTup (eCons (eC (.int 0)) eNil)))
    (sSet 0 (eSl (eVar 0) (eSomeE (eC (.int 2))) eNoE))) (sIf (eOr (eTest (eBin fEq (eVar 0) (eArgs fTup eNil))) (eTest (eBin fEq (eBin fIx (eVar 0) (eC (.int 0))) (eC (.int 0))))) (sExpr (eArgs m_fail eNil)) (sSeq (sAug 1 fIAdd (eArgs fTup (eCons (eBin fIx (eVar 0) (eC (.int 0))) eNil)))
    (sSet 0 (eSl (eVar 0) (eSomeE (eC (.int 1))) eNoE))))))
    (sRet (eArgs fTup (eCons (eVar 1) (eCons (eSl (eVar 0) (eSomeE (eC (.int 2))) eNoE) eNil))))))
def m_take_closed : List D → List MO → R D := mOf 1 2 sv_take_closed
def sv_take_plain : SV := (sSeq (sIf (eTest (eBin fEq (eVar 0) (eC (.str "int")))) (sRet (eArgs m_take_int (eCons (eVar 1) eNil))) sNil)
    (sSeq (sIf (eTest (eUn (fInTab tab_SIZES) (eVar 0))) (sSeq (sAsg (gT [3, 4]) (eArgs m_take (eCons (eVar 1) (eCons (eUn (fTab tab_SIZES) (eVar 0)) eNil))))
    (sRet (eArgs fTup (eCons (eArgs m_number_of (eCons (eIf (eTest (eMeth ckS fStarts (eVar 0) (eCons (eC (.str "fixed")) eNil))) (eVar 3) (eUn fRev (eVar 3))) eNil)) (eCons (eVar 4) eNil))))) sNil)
    (sSeq (sIf (eTest (eBin fEq (eVar 0) (eC (.str "closed")))) (sRet (eArgs m_take_closed (eCons (eVar 1) eNil))) sNil)
    (sSeq (sIf (eTest (eBin fEq (eVar 0) (eC (.str "counted")))) (sSeq (sAsg (gT [5, 1]) (eArgs m_take (eCons (eVar 1) (eCons (eC (.int 1)) eNil))))
    (sSet 2 (eBin fIx (eVar 5) (eC (.int 0))))) sNil)
    (sRet (eArgs m_take (eCons (eVar 1) (eCons (eVar 2) eNil))))))))
def m_take_plain : List D → List MO → R D := mOf 3 6 sv_take_plain
def sv_take_value : SV := (sSeq (sAsg (gT [3, 4, 5]) (eVar 0))
    (sSeq (sIf (eTest (eBin fNe (eVar 5) (eC (.str "none")))) (sSeq (sAsg (gT [8, 1]) (eArgs m_take (eCons (eVar 1) (eCons (eC (.int 1)) eNil))))
    (sSeq (sIf (eTest (eBin fEq (eBin fIx (eVar 8) (eC (.int 0))) (eUn (fTab tab_MARKS) (eVar 5)))) (sRet (eArgs fTup (eCons (eC .non) (eCons (eVar 1) eNil)))) sNil)
    (sIf (eTest (eBin fNe (eBin fIx (eVar 8) (eC (.int 0))) (eC (.int 1)))) (sExpr (eArgs m_fail eNil)) sNil))) sNil)
    (sSeq (sIf (eTest (eBin fEq (eVar 4) (eC (.str "desc")))) (sSet 1 (eArgs m_flipped (eCons (eVar 1) eNil))) sNil)
    (sSeq (sIf (eTest (eBin fLt (eArgs fLen (eCons (eVar 1) eNil)) (eVar 2))) (sExpr (eArgs m_fail eNil)) sNil)
    (sSeq (sAsg (gT [6, 7]) (eArgs m_take_plain (eCons (eVar 3) (eCons (eVar 1) (eCons (eBin fSub (eArgs fLen (eCons (eVar 1) eNil)) (eVar 2)) eNil)))))
    (sSeq (sIf (eNot (eTest (eArgs m_is_value (eCons (eVar 0) (eCons (eVar 6) eNil))))) (sExpr (eArgs m_fail eNil)) sNil)
    (sRet (eArgs fTup (eCons (eVar 6) (eCons (eIf (eTest (eBin fEq (eVar 4) (eC (.str "desc")))) (eArgs m_flipped (eCons (eVar 7) eNil)) (eVar 7)) eNil))))))))))
def m_take_value : List D → List MO → R D := mOf 3 9 sv_take_value
def sv_constant_values : SV := (sSeq (sSet 2 (eArgs fCell eNil))
    (sSeq (sFor (eSeq (eVar 0)) (gN 3) (sSeq (sAsg (gT [4, 1]) (eArgs m_take_value (eCons (eVar 3) (eCons (eVar 1) (eCons (eC (.int 0)) eNil)))))
    (sExpr (eMeth ckL fAppend (eVar 2) (eCons (eVar 4) eNil)))))
    (sRet (eArgs fTuple (eCons (eVar 2) eNil)))))
def m_constant_values : List D → List MO → R D := mOf 2 5 sv_constant_values
def sv_decode_witness_1 : SV := (sExpr (eArgs m_check_scheme (eCons (eVar 0) eNil)))
def sv_decode_witness_2 : SV := (sSet 1 (eArgs m_blur_of (eCons (eVar 0) eNil)))
def sv_decode_witness_3b1 : SV := (sRet (eC .non))
def sv_decode_witness_3 : SV := (sIf (eTest (eBin fIs (eVar 1) (eC .non))) sv_decode_witness_3b1 sNil)
def sv_decode_witness_4 : SV := (sAsg (gT [11, 12]) (eVar 1))
def sv_decode_witness_5 : SV := (sSet 2 (eArgs m_default_row (eCons (eVar 0) eNil)))
def sv_decode_witness_6 : SV := (sAsg (gT [13, 14]) (eArgs m_shifting_values (eCons (eBin fIx (eVar 0) (eVar 12)) eNil)))
def sv_decode_witness_7 : SV := (sSet 3 (eSl (eVar 0) (eSomeE (eBin fAdd (eVar 11) (eC (.int 1)))) (eSomeE (eVar 12))))
def sv_decode_witness_8 : SV := (sSet 4 (eArgs m_joined (eCons (eVar 3) (eCons (eSl (eVar 2) (eSomeE (eBin fAdd (eVar 11) (eC (.int 1)))) (eSomeE (eVar 12))) eNil))))
def sv_decode_witness_9 : SV := (sSet 5 (eBin fAdd (eVar 4) (eArgs m_encode_value (eCons (eBin fIx (eVar 0) (eVar 12)) (eCons (eVar 13) eNil)))))
def sv_decode_witness_10 : SV := (sSet 6 (eBin fSub (eBin fSub (eArgs fLen (eCons (eVar 5) eNil)) (eArgs fLen (eCons (eVar 4) eNil))) (eArgs fLen (eCons (eArgs m_encode_value (eCons (eBin fIx (eVar 0) (eVar 12)) (eCons (eVar 14) eNil))) eNil))))
def sv_decode_witness_11 : SV := (sSet 7 (eIf (eTest (eBin fEq (eBin fIx (eBin fIx (eVar 0) (eVar 11)) (eC (.int 1))) (eC (.str "desc")))) (eArgs m_flipped (eCons (eSl (eVar 5) eNoE (eSomeE (eVar 6))) eNil)) (eSl (eVar 5) eNoE (eSomeE (eVar 6)))))
def sv_decode_witness_12 : SV := (sSet 8 (eArgs m_constant_values (eCons (eVar 3) (eCons (eSl (eVar 5) (eSomeE (eVar 6)) (eSomeE (eBin fAdd (eVar 6) (eArgs fLen (eCons (eVar 4) eNil))))) eNil))))
def sv_decode_witness_13 : SV := (sSet 9 (eBin fAdd (eBin fAdd (eSl (eVar 2) eNoE (eSomeE (eVar 12))) (eArgs fTup (eCons (eVar 13) eNil))) (eSl (eVar 2) (eSomeE (eBin fAdd (eVar 12) (eC (.int 1)))) eNoE)))
def sv_decode_witness_14 : SV := (sSet 10 (eBin fAdd (eBin fAdd (eBin fAdd (eBin fAdd (eSl (eVar 2) eNoE (eSomeE (eVar 11))) (eArgs fTup (eCons (eVar 7) eNil))) (eVar 8)) (eArgs fTup (eCons (eVar 14) eNil))) (eSl (eVar 2) (eSomeE (eBin fAdd (eVar 12) (eC (.int 1)))) eNoE)))
def sv_decode_witness_15 : SV := (sRet (eArgs fTup (eCons (eVar 9) (eCons (eVar 10) eNil))))
def sv_decode_witness : SV := (sSeq sv_decode_witness_1
    (sSeq sv_decode_witness_2
    (sSeq sv_decode_witness_3
    (sSeq sv_decode_witness_4
    (sSeq sv_decode_witness_5
    (sSeq sv_decode_witness_6
    (sSeq sv_decode_witness_7
    (sSeq sv_decode_witness_8
    (sSeq sv_decode_witness_9
    (sSeq sv_decode_witness_10
    (sSeq sv_decode_witness_11
    (sSeq sv_decode_witness_12
    (sSeq sv_decode_witness_13
    (sSeq sv_decode_witness_14
    sv_decode_witness_15))))))))))))))
def m_decode_witness : List D → List MO → R D := mOf 1 15 sv_decode_witness
def sv_check_bytes : SV := (sIf (eNot (eTest (eArgs m_is_bytes (eCons (eVar 0) eNil)))) (sRaise "BadBytes") sNil)
def m_check_bytes : List D → List MO → R D := mOf 1 1 sv_check_bytes
def sv_tail_length : SV := (sRet (eArgs fSum (eCons (eArgs fLst' (eLcA (eSeq (eSl (eVar 0) (eSomeE (eBin fAdd (eVar 1) (eC (.int 1)))) eNoE)) (gN 2) [2] eYes (eUn (fTab tab_SIZES) (eBin fIx (eVar 2) (eC (.int 0)))))) eNil)))
def m_tail_length : List D → List MO → R D := mOf 2 3 sv_tail_length
def sv_decode : SV := (sSeq (sExpr (eArgs m_check_scheme (eCons (eVar 0) eNil)))
    (sSeq (sIf (eTest (eBin fIsNot (eArgs m_blur_of (eCons (eVar 0) eNil)) (eC .non))) (sRaise "BadScheme") sNil)
    (sSeq (sExpr (eArgs m_check_bytes (eCons (eVar 1) eNil)))
    (sSeq (sSet 2 (eArgs fTup eNil))
    (sSeq (sFor (eEnum (eCons (eVar 0) eNil)) (gT [3, 4]) (sSeq (sSet 5 (eIf (eTest (eBin fEq (eBin fIx (eVar 4) (eC (.int 0))) (eC (.str "raw")))) (eArgs m_tail_length (eCons (eVar 0) (eCons (eVar 3) eNil))) (eC (.int 0))))
    (sSeq (sAsg (gT [6, 1]) (eArgs m_take_value (eCons (eVar 4) (eCons (eVar 1) (eCons (eVar 5) eNil)))))
    (sAug 2 fIAdd (eArgs fTup (eCons (eVar 6) eNil))))))
    (sSeq (sIf (eTest (eBin fNe (eVar 1) (eArgs fTup eNil))) (sRaise "BadBytes") sNil)
    (sRet (eVar 2))))))))
def m_decode : List D → List MO → R D := mOf 2 7 sv_decode
def sv_law_k05_1 : SV := (sSet 1 (eArgs m__law_start (eCons (eVar 0) eNil)))
def sv_law_k05_2 : SV := (sSet 2 (eArgs m__law_scheme (eCons (eVar 1) eNil)))
def sv_law_k05_3b1 : SV := (sSet 6 (eArgs fTup (eCons (eC (.str "raw")) (eCons (eArgs m__law_pick (eCons (eVar 1) (eCons (eArgs fLst (eCons (eC (.str "asc")) (eCons (eC (.str "desc")) eNil))) eNil))) (eCons (eArgs m__law_pick (eCons (eVar 1) (eCons (eArgs fLst (eCons (eC (.str "none")) (eCons (eC (.str "first")) (eCons (eC (.str "last")) eNil)))) eNil))) eNil)))))
def sv_law_k05_3b2 : SV := (sSet 2 (eBin fAdd (eArgs fTup (eCons (eVar 6) eNil)) (eArgs fTuple (eCons (eArgs fLst' (eLcA (eRange1 (eCons (eArgs m__law_draw (eCons (eVar 1) (eCons (eC (.int 4)) eNil))) eNil)) (gN 11) [11] eYes (eArgs m__law_field (eCons (eVar 1) eNil)))) eNil))))
def sv_law_k05_3b3b1 : SV := (sSet 10 (eArgs fTuple (eCons (eArgs fLst' (eLcA (eRange1 (eCons (eArgs m__law_draw (eCons (eVar 1) (eCons (eC (.int 3)) eNil))) eNil)) (gN 11) [11] eYes (eArgs fTup (eCons (eBin fAdd (eC (.str "fixed")) (eArgs fStrI (eCons (eBin fAdd (eC (.int 1)) (eArgs m__law_draw (eCons (eVar 1) (eCons (eC (.int 4)) eNil)))) eNil))) (eCons (eBin fIx (eVar 6) (eC (.int 1))) (eCons (eC (.str "none")) eNil)))))) eNil)))
def sv_law_k05_3b3b2 : SV := (sSet 2 (eBin fAdd (eBin fAdd (eArgs fTup (eCons (eVar 6) eNil)) (eVar 10)) (eArgs fTup (eCons (eArgs m__law_field (eCons (eVar 1) eNil)) eNil))))
def sv_law_k05_3b3 : SV := (sIf (eTest (eBin fEq (eArgs m__law_draw (eCons (eVar 1) (eCons (eC (.int 2)) eNil))) (eC (.int 0)))) (sSeq sv_law_k05_3b3b1
    sv_law_k05_3b3b2) sNil)
def sv_law_k05_3 : SV := (sIf (eTest (eBin fEq (eArgs m__law_draw (eCons (eVar 1) (eCons (eC (.int 2)) eNil))) (eC (.int 0)))) (sSeq sv_law_k05_3b1
    (sSeq sv_law_k05_3b2
    sv_law_k05_3b3)) sNil)
def sv_law_k05_4 : SV := (sSet 3 (eArgs fLst' (eLcA (eRange1 (eCons (eArgs fLen (eCons (eVar 2) eNil)) eNil)) (gN 11) [11] (eTest (eBin fEq (eBin fIx (eBin fIx (eVar 2) (eVar 11)) (eC (.int 0))) (eC (.str "raw")))) (eVar 11))))
def sv_law_k05_5 : SV := (sSet 4 (eC (.bl true)))
def sv_law_k05_6b1b1b1 : SV := (sSet 4 (eC (.bl false)))
def sv_law_k05_6b1b1 : SV := (sIf (eOr (eTest (eBin fIn (eVar 12) (eArgs fTup (eCons (eC (.str "int")) (eCons (eC (.str "raw")) (eCons (eC (.str "closed")) (eCons (eC (.str "counted")) eNil))))))) (eTest (eBin fNe (eVar 14) (eC (.str "none"))))) sv_law_k05_6b1b1b1 sNil)
def sv_law_k05_6b1 : SV := (sFor (eSeq (eSl (eVar 2) (eSomeE (eBin fAdd (eBin fIx (eVar 3) (eC (.int 0))) (eC (.int 1)))) eNoE)) (gT [12, 13, 14]) sv_law_k05_6b1b1)
def sv_law_k05_6 : SV := (sIf (eTest (eBin fNe (eVar 3) (eArgs fLst eNil))) sv_law_k05_6b1 sNil)
def sv_law_k05_7b1 : SV := (sRet (eC (.bl false)))
def sv_law_k05_7 : SV := (sIf (eNot (eTest (eArgs m__law_true (eCons (eArgs m_is_decodable (eCons (eVar 2) eNil)) (eCons (eVar 4) eNil))))) sv_law_k05_7b1 sNil)
def sv_law_k05_8 : SV := (sSet 5 (eArgs m_decode_witness (eCons (eVar 2) eNil)))
def sv_law_k05_9b1 : SV := (sSet 7 (eArgs m__law_row (eCons (eVar 1) (eCons (eVar 2) eNil))))
def sv_law_k05_9b2 : SV := (sRet (eAndV (eBin fIs (eVar 5) (eC .non)) (eBin fEq (eArgs m_decode (eCons (eVar 2) (eCons (eArgs m__law_bytes (eCons (eVar 2) (eCons (eVar 7) eNil))) eNil))) (eVar 7))))
def sv_law_k05_9 : SV := (sIf (eTest (eVar 4)) (sSeq sv_law_k05_9b1
    sv_law_k05_9b2) sNil)
def sv_law_k05_10 : SV := (sAsg (gT [8, 9]) (eVar 5))
def sv_law_k05_11b1 : SV := (sRet (eC (.bl false)))
def sv_law_k05_11 : SV := (sIf (eOr (eTest (eBin fIsNot (eArgs m_is_row (eCons (eVar 2) (eCons (eVar 8) eNil))) (eC (.bl true)))) (eOr (eTest (eBin fIsNot (eArgs m_is_row (eCons (eVar 2) (eCons (eVar 9) eNil))) (eC (.bl true)))) (eTest (eBin fEq (eVar 8) (eVar 9))))) sv_law_k05_11b1 sNil)
def sv_law_k05_12 : SV := (sRet (eAndV (eBin fEq (eArgs m__law_bytes (eCons (eVar 2) (eCons (eVar 8) eNil))) (eArgs m__law_bytes (eCons (eVar 2) (eCons (eVar 9) eNil)))) (eBin fEq (eArgs m_encode (eCons (eVar 2) (eCons (eVar 8) eNil))) (eArgs m_encode (eCons (eVar 2) (eCons (eVar 9) eNil))))))
def sv_law_k05 : SV := (sSeq sv_law_k05_1
    (sSeq sv_law_k05_2
    (sSeq sv_law_k05_3
    (sSeq sv_law_k05_4
    (sSeq sv_law_k05_5
    (sSeq sv_law_k05_6
    (sSeq sv_law_k05_7
    (sSeq sv_law_k05_8
    (sSeq sv_law_k05_9
    (sSeq sv_law_k05_10
    (sSeq sv_law_k05_11
    sv_law_k05_12)))))))))))
def m_law_k05 : List D → List MO → R D := mOf 1 15 sv_law_k05
def sv__law_error : SV := (sSeq (sSet 1 (eArgs fLst (eCons (eUn (fIsX "BadBytes") (eVar 0)) (eCons (eUn (fIsX "BadScheme") (eVar 0)) (eCons (eUn (fIsX "BadRow") (eVar 0)) eNil)))))
    (sSeq (sSet 1 (eBin fAdd (eVar 1) (eArgs fLst (eCons (eUn (fIsX "BadIndex") (eVar 0)) (eCons (eUn (fIsX "BadText") (eVar 0)) (eCons (eUn (fIsX "NotFound") (eVar 0)) eNil))))))
    (sSeq (sIf (eOr (eTest (eBin fNe (eMeth ckL fCount (eVar 1) (eCons (eC (.bl true)) eNil)) (eC (.int 1)))) (eOr (eNot (eTest (eUn (fIsX "KeyBytesError") (eVar 0)))) (eNot (eTest (eUn (fIsX "ValueError") (eVar 0)))))) (sRet (eC (.str "odd"))) sNil)
    (sRet (eBin fIx (eArgs fLst (eCons (eC (.str "bytes")) (eCons (eC (.str "scheme")) (eCons (eC (.str "row")) (eCons (eC (.str "index")) (eCons (eC (.str "text")) (eCons (eC (.str "none")) eNil))))))) (eMeth ckL fIndex (eVar 1) (eCons (eC (.bl true)) eNil)))))))
def m__law_error : List D → List MO → R D := mOf 1 2 sv__law_error
def sv__law_decoded : SV := (sSeq (sSet 2 (eC .non))
    (sSeq (sSet 3 (eC .non))
    (sSeq (sTry xcls 4 3 (sSet 2 (eArgs m_decode (eCons (eVar 0) (eCons (eVar 1) eNil)))))
    (sRet (eIf (eTest (eBin fIs (eVar 3) (eC .non))) (eVar 2) (eArgs m__law_error (eCons (eVar 3) eNil)))))))
def m__law_decoded : List D → List MO → R D := mOf 2 5 sv__law_decoded
def sv__law_string : SV := (sRet (eArgs fTuple (eCons (eArgs fLst' (eLcA (eRange1 (eCons (eArgs m__law_draw (eCons (eVar 0) (eCons (eBin fAdd (eVar 1) (eC (.int 1))) eNil))) eNil)) (gN 2) [2] eYes (eArgs m__law_pick (eCons (eVar 0) (eCons (eArgs fLst (eCons (eC (.int 0)) (eCons (eC (.int 0)) (eCons (eC (.int 1)) (eCons (eC (.int 2)) (eCons (eC (.int 5)) (eCons (eC (.int 6)) (eCons (eC (.int 254)) (eCons (eC (.int 255)) (eCons (eC (.int 255)) (eCons (eArgs m__law_draw (eCons (eVar 0) (eCons (eC (.int 256)) eNil))) eNil))))))))))) eNil))))) eNil)))
def m__law_string : List D → List MO → R D := mOf 2 3 sv__law_string
def sv_law_k06_1 : SV := (sSet 1 (eArgs m__law_start (eCons (eVar 0) eNil)))
def sv_law_k06_2 : SV := (sSet 2 (eArgs m__law_pick (eCons (eVar 1) (eCons (eArgs fLst (eCons (eArgs m__law_good (eCons (eVar 1) eNil)) (eCons (eArgs m__law_scheme (eCons (eVar 1) eNil)) eNil))) eNil))))
def sv_law_k06_3 : SV := (sSet 3 (eArgs m__law_row (eCons (eVar 1) (eCons (eVar 2) eNil))))
def sv_law_k06_4 : SV := (sSet 4 (eArgs m__law_bytes (eCons (eVar 2) (eCons (eVar 3) eNil))))
def sv_law_k06_5 : SV := (sSet 5 (eArgs m__law_decoded (eCons (eVar 2) (eCons (eVar 4) eNil))))
def sv_law_k06_6b1 : SV := (sRet (eBin fEq (eVar 5) (eC (.str "scheme"))))
def sv_law_k06_6 : SV := (sIf (eNot (eTest (eArgs m_is_decodable (eCons (eVar 2) eNil)))) sv_law_k06_6b1 sNil)
def sv_law_k06_7b1 : SV := (sRet (eC (.bl false)))
def sv_law_k06_7 : SV := (sIf (eTest (eBin fNe (eVar 5) (eVar 3))) sv_law_k06_7b1 sNil)
def sv_law_k06_8b1 : SV := (sSet 8 (eArgs m__law_draw (eCons (eVar 1) (eCons (eBin fAdd (eArgs fLen (eCons (eVar 4) eNil)) (eC (.int 1))) eNil))))
def sv_law_k06_8b2 : SV := (sSet 9 (eArgs m__law_pick (eCons (eVar 1) (eCons (eArgs fLst (eCons (eC (.int 0)) (eCons (eC (.int 1)) (eCons (eC (.int 2)) (eCons (eC (.int 127)) (eCons (eC (.int 128)) (eCons (eC (.int 129)) (eCons (eC (.int 254)) (eCons (eC (.int 255)) (eCons (eArgs m__law_draw (eCons (eVar 1) (eCons (eC (.int 256)) eNil))) eNil)))))))))) eNil))))
def sv_law_k06_8b3 : SV := (sSet 7 (eArgs m__law_pick (eCons (eVar 1) (eCons (eArgs fLst (eCons (eBin fAdd (eBin fAdd (eSl (eVar 4) eNoE (eSomeE (eVar 8))) (eArgs fTup (eCons (eVar 9) eNil))) (eSl (eVar 4) (eSomeE (eBin fAdd (eVar 8) (eC (.int 1)))) eNoE)) (eCons (eBin fAdd (eBin fAdd (eSl (eVar 4) eNoE (eSomeE (eVar 8))) (eArgs fTup (eCons (eVar 9) eNil))) (eSl (eVar 4) (eSomeE (eVar 8)) eNoE)) (eCons (eSl (eVar 4) eNoE (eSomeE (eVar 8))) (eCons (eBin fAdd (eSl (eVar 4) eNoE (eSomeE (eVar 8))) (eSl (eVar 4) (eSomeE (eBin fAdd (eVar 8) (eC (.int 1)))) eNoE)) eNil))))) eNil))))
def sv_law_k06_8b4 : SV := (sSet 5 (eArgs m__law_decoded (eCons (eVar 2) (eCons (eVar 7) eNil))))
def sv_law_k06_8b5b1b1 : SV := (sRet (eC (.bl false)))
def sv_law_k06_8b5b1 : SV := (sIf (eOr (eTest (eBin fIsNot (eArgs m_is_row (eCons (eVar 2) (eCons (eVar 5) eNil))) (eC (.bl true)))) (eTest (eBin fNe (eArgs m__law_bytes (eCons (eVar 2) (eCons (eVar 5) eNil))) (eVar 7)))) sv_law_k06_8b5b1b1 sNil)
def sv_law_k06_8b5eb1b1 : SV := (sRet (eC (.bl false)))
def sv_law_k06_8b5eb1 : SV := (sIf (eTest (eBin fEq (eVar 7) (eVar 4))) sv_law_k06_8b5eb1b1 sNil)
def sv_law_k06_8b5 : SV := (sIf (eTest (eBin fNe (eVar 5) (eC (.str "bytes")))) sv_law_k06_8b5b1 sv_law_k06_8b5eb1)
def sv_law_k06_8 : SV := (sFor (eRange1 (eCons (eC (.int 10)) eNil)) (gN 6) (sSeq sv_law_k06_8b1
    (sSeq sv_law_k06_8b2
    (sSeq sv_law_k06_8b3
    (sSeq sv_law_k06_8b4
    sv_law_k06_8b5)))))
def sv_law_k06_9b1b1 : SV := (sRet (eC (.bl false)))
def sv_law_k06_9b1 : SV := (sIf (eTest (eBin fNe (eArgs m__law_decoded (eCons (eArgs fTup (eCons (eArgs fTup (eCons (eC (.str "int")) (eCons (eC (.str "asc")) (eCons (eC (.str "none")) eNil)))) eNil)) (eCons (eVar 7) eNil))) (eC (.str "bytes")))) sv_law_k06_9b1b1 sNil)
def sv_law_k06_9 : SV := (sFor (eSeq (eArgs fLst (eCons (eArgs fTup (eCons (eC (.int 129)) (eCons (eC (.int 0)) eNil))) (eCons (eArgs fTup (eCons (eC (.int 130)) (eCons (eC (.int 0)) (eCons (eC (.int 5)) eNil)))) (eCons (eArgs fTup (eCons (eC (.int 127)) (eCons (eC (.int 255)) eNil))) (eCons (eArgs fTup (eCons (eC (.int 126)) (eCons (eC (.int 255)) (eCons (eC (.int 3)) eNil)))) (eCons (eArgs fTup (eCons (eC (.int 119)) (eCons (eC (.int 1)) (eCons (eC (.int 1)) eNil)))) (eCons (eBin fAdd (eArgs fTup (eCons (eC (.int 137)) eNil)) (eBin fMul (eArgs fTup (eCons (eC (.int 1)) eNil)) (eC (.int 9)))) (eCons (eArgs fTup (eCons (eC (.int 128)) (eCons (eC (.int 128)) eNil))) (eCons (eArgs fTup (eCons (eC (.int 129)) eNil)) eNil)))))))))) (gN 7) sv_law_k06_9b1)
def sv_law_k06_10 : SV := (sSet 7 (eArgs m__law_string (eCons (eVar 1) (eCons (eC (.int 9)) eNil))))
def sv_law_k06_11 : SV := (sSet 5 (eArgs m__law_decoded (eCons (eVar 2) (eCons (eVar 7) eNil))))
def sv_law_k06_12 : SV := (sRet (eOrV (eBin fEq (eVar 5) (eC (.str "bytes"))) (eAndV (eBin fIs (eArgs m_is_row (eCons (eVar 2) (eCons (eVar 5) eNil))) (eC (.bl true))) (eBin fEq (eArgs m__law_bytes (eCons (eVar 2) (eCons (eVar 5) eNil))) (eVar 7)))))
def sv_law_k06 : SV := (sSeq sv_law_k06_1
    (sSeq sv_law_k06_2
    (sSeq sv_law_k06_3
    (sSeq sv_law_k06_4
    (sSeq sv_law_k06_5
    (sSeq sv_law_k06_6
    (sSeq sv_law_k06_7
    (sSeq sv_law_k06_8
    (sSeq sv_law_k06_9
    (sSeq sv_law_k06_10
    (sSeq sv_law_k06_11
    sv_law_k06_12)))))))))))
def m_law_k06 : List D → List MO → R D := mOf 1 10 sv_law_k06
def sv_law_k07_1 : SV := (sSet 1 (eArgs m__law_start (eCons (eVar 0) eNil)))
def sv_law_k07_2 : SV := (sSet 2 (eArgs fTup (eCons (eC (.str "int")) (eCons (eC (.str "asc")) (eCons (eC (.str "none")) eNil)))))
def sv_law_k07_3 : SV := (sSet 3 (eArgs m__law_value (eCons (eVar 1) (eCons (eVar 2) eNil))))
def sv_law_k07_4b1 : SV := (sPar 11 12 (eCons (eArgs m_encode_value (eCons (eVar 2) (eCons (eVar 3) eNil))) (eCons (eArgs m_encode_value (eCons (eVar 2) (eCons (eBin fAdd (eVar 3) (eC (.int 1))) eNil))) eNil)))
def sv_law_k07_4b2b1 : SV := (sRet (eC (.bl false)))
def sv_law_k07_4b2 : SV := (sIf (eOr (eNot (eTest (eBin fLt (eVar 11) (eVar 12)))) (eTest (eBin fIsNot (eArgs m_is_value (eCons (eVar 2) (eCons (eBin fAdd (eVar 3) (eC (.int 1))) eNil))) (eC (.bl true))))) sv_law_k07_4b2b1 sNil)
def sv_law_k07_4 : SV := (sIf (eTest (eBin fLt (eArgs fAbs (eCons (eVar 3) eNil)) (eBin fSub (eBin fPow (eC (.int 2)) (eC (.int 64))) (eC (.int 1))))) (sSeq sv_law_k07_4b1
    sv_law_k07_4b2) sNil)
def sv_law_k07_5b1 : SV := (sRet (eC (.bl false)))
def sv_law_k07_5 : SV := (sIf (eAnd (eTest (eBin fGt (eArgs fLen (eCons (eArgs m_encode_value (eCons (eVar 2) (eCons (eVar 3) eNil))) eNil)) (eC (.int 1)))) (eTest (eBin fGt (eArgs m__law_power (eCons (eBin fSub (eArgs fLen (eCons (eArgs m_encode_value (eCons (eVar 2) (eCons (eVar 3) eNil))) eNil)) (eC (.int 2))) eNil)) (eArgs fAbs (eCons (eVar 3) eNil))))) sv_law_k07_5b1 sNil)
def sv_law_k07_6b1 : SV := (sSet 7 (eArgs fTup (eCons (eVar 4) (eCons (eArgs m__law_pick (eCons (eVar 1) (eCons (eArgs fLst (eCons (eC (.str "asc")) (eCons (eC (.str "desc")) eNil))) eNil))) (eCons (eArgs m__law_pick (eCons (eVar 1) (eCons (eArgs fLst (eCons (eC (.str "none")) (eCons (eC (.str "first")) (eCons (eC (.str "last")) eNil)))) eNil))) eNil)))))
def sv_law_k07_6b2 : SV := (sSet 8 (eArgs fCell (eCons (eArgs m__law_value (eCons (eVar 1) (eCons (eVar 7) eNil))) (eCons (eArgs m__law_value (eCons (eVar 1) (eCons (eVar 7) eNil))) eNil))))
def sv_law_k07_6b3b1 : SV := (sSub (eVar 8) (eC (.int 1)) (eSl (eBin fAdd (eBin fIx (eVar 8) (eC (.int 0))) (eArgs m__law_text (eCons (eVar 1) (eCons (eC (.int 2)) eNil)))) eNoE (eSomeE (eC (.int 9)))))
def sv_law_k07_6b3 : SV := (sIf (eAnd (eTest (eUn (fIsi "tuple") (eBin fIx (eVar 8) (eC (.int 0))))) (eTest (eBin fEq (eArgs m__law_draw (eCons (eVar 1) (eCons (eC (.int 2)) eNil))) (eC (.int 0))))) sv_law_k07_6b3b1 sNil)
def sv_law_k07_6b4 : SV := (sPar 11 12 (eCons (eArgs m_encode_value (eCons (eVar 7) (eCons (eBin fIx (eVar 8) (eC (.int 0))) eNil))) (eCons (eArgs m_encode_value (eCons (eVar 7) (eCons (eBin fIx (eVar 8) (eC (.int 1))) eNil))) eNil)))
def sv_law_k07_6b5b1 : SV := (sRet (eC (.bl false)))
def sv_law_k07_6b5 : SV := (sIf (eAnd (eTest (eBin fNe (eBin fIx (eVar 8) (eC (.int 0))) (eBin fIx (eVar 8) (eC (.int 1))))) (eTest (eBin fEq (eSl (eVar 12) eNoE (eSomeE (eArgs fLen (eCons (eVar 11) eNil)))) (eVar 11)))) sv_law_k07_6b5b1 sNil)
def sv_law_k07_6b6b1 : SV := (sRet (eC (.bl false)))
def sv_law_k07_6b6 : SV := (sIf (eTest (eBin fNe (eBin fEq (eVar 11) (eVar 12)) (eBin fEq (eBin fIx (eVar 8) (eC (.int 0))) (eBin fIx (eVar 8) (eC (.int 1)))))) sv_law_k07_6b6b1 sNil)
def sv_law_k07_6 : SV := (sFor (eSeq (eArgs fLst (eCons (eC (.str "int")) (eCons (eC (.str "closed")) (eCons (eC (.str "counted")) (eCons (eC (.str "fixed2")) (eCons (eC (.str "little3")) eNil))))))) (gN 4) (sSeq sv_law_k07_6b1
    (sSeq sv_law_k07_6b2
    (sSeq sv_law_k07_6b3
    (sSeq sv_law_k07_6b4
    (sSeq sv_law_k07_6b5
    sv_law_k07_6b6))))))
def sv_law_k07_7 : SV := (sPar 9 10 (eCons (eArgs m__law_text (eCons (eVar 1) (eCons (eC (.int 9)) eNil))) (eCons (eArgs m__law_text (eCons (eVar 1) (eCons (eC (.int 9)) eNil))) eNil)))
def sv_law_k07_8 : SV := (sSet 5 (eArgs fTup (eCons (eC (.str "raw")) (eCons (eArgs m__law_pick (eCons (eVar 1) (eCons (eArgs fLst (eCons (eC (.str "asc")) (eCons (eC (.str "desc")) eNil))) eNil))) (eCons (eC (.str "none")) eNil)))))
def sv_law_k07_9b1 : SV := (sRet (eC (.bl false)))
def sv_law_k07_9 : SV := (sIf (eTest (eBin fNe (eArgs m_encode_value (eCons (eVar 5) (eCons (eBin fAdd (eVar 9) (eVar 10)) eNil))) (eBin fAdd (eArgs m_encode_value (eCons (eVar 5) (eCons (eVar 9) eNil))) (eArgs m_encode_value (eCons (eVar 5) (eCons (eVar 10) eNil)))))) sv_law_k07_9b1 sNil)
def sv_law_k07_10 : SV := (sSet 6 (eArgs fTup (eCons (eC (.str "closed")) (eCons (eC (.str "asc")) (eCons (eC (.str "none")) eNil)))))
def sv_law_k07_11 : SV := (sPar 11 12 (eCons (eArgs m_encode_value (eCons (eVar 6) (eCons (eVar 9) eNil))) (eCons (eArgs m_encode_value (eCons (eVar 6) (eCons (eVar 10) eNil))) eNil)))
def sv_law_k07_12 : SV := (sRet (eAndV (eBin fEq (eBin fLt (eVar 11) (eVar 12)) (eBin fLt (eVar 9) (eVar 10))) (eBin fEq (eArgs fLen (eCons (eVar 11) eNil)) (eBin fAdd (eBin fAdd (eArgs fLen (eCons (eVar 9) eNil)) (eMeth ckL fCount (eVar 9) (eCons (eC (.int 0)) eNil))) (eC (.int 2))))))
def sv_law_k07 : SV := (sSeq sv_law_k07_1
    (sSeq sv_law_k07_2
    (sSeq sv_law_k07_3
    (sSeq sv_law_k07_4
    (sSeq sv_law_k07_5
    (sSeq sv_law_k07_6
    (sSeq sv_law_k07_7
    (sSeq sv_law_k07_8
    (sSeq sv_law_k07_9
    (sSeq sv_law_k07_10
    (sSeq sv_law_k07_11
    sv_law_k07_12)))))))))))
def m_law_k07 : List D → List MO → R D := mOf 1 13 sv_law_k07
def sv__law_pair : SV := (sSeq (sSet 1 (eArgs m__law_string (eCons (eVar 0) (eCons (eC (.int 3)) eNil))))
    (sSeq (sPar 2 3 (eCons (eBin fAdd (eVar 1) (eArgs m__law_string (eCons (eVar 0) (eCons (eC (.int 3)) eNil)))) (eCons (eBin fAdd (eVar 1) (eArgs m__law_string (eCons (eVar 0) (eCons (eC (.int 3)) eNil)))) eNil)))
    (sSeq (sIf (eTest (eBin fEq (eArgs m__law_draw (eCons (eVar 0) (eCons (eC (.int 4)) eNil))) (eC (.int 0)))) (sSet 3 (eBin fAdd (eVar 2) (eArgs m__law_string (eCons (eVar 0) (eCons (eC (.int 2)) eNil))))) sNil)
    (sSeq (sIf (eTest (eBin fEq (eVar 2) (eVar 3))) (sSet 3 (eBin fAdd (eVar 2) (eArgs fTup (eCons (eArgs m__law_draw (eCons (eVar 0) (eCons (eC (.int 3)) eNil))) eNil)))) sNil)
    (sRet (eArgs fTup (eCons (eArgs fMin (eCons (eVar 2) (eCons (eVar 3) eNil))) (eCons (eArgs fMax (eCons (eVar 2) (eCons (eVar 3) eNil))) eNil))))))))
def m__law_pair : List D → List MO → R D := mOf 1 4 sv__law_pair
def sv_check_pair : SV := (sSeq (sExpr (eArgs m_check_bytes (eCons (eVar 0) eNil)))
    (sSeq (sExpr (eArgs m_check_bytes (eCons (eVar 1) eNil)))
    (sIf (eNot (eTest (eBin fLt (eVar 0) (eVar 1)))) (sRaise "BadBytes") sNil)))
def m_check_pair : List D → List MO → R D := mOf 2 2 sv_check_pair
def sv_common_length : SV := (sSeq (sSet 2 (eC (.int 0)))
    (sSeq (sWhile (eAnd (eTest (eBin fLt (eVar 2) (eArgs fLen (eCons (eVar 0) eNil)))) (eAnd (eTest (eBin fLt (eVar 2) (eArgs fLen (eCons (eVar 1) eNil)))) (eTest (eBin fEq (eBin fIx (eVar 0) (eVar 2)) (eBin fIx (eVar 1) (eVar 2)))))) (sAug 2 fIAdd (eC (.int 1))))
    (sRet (eVar 2))))
def m_common_length : List D → List MO → R D := mOf 2 3 sv_common_length
def sv_separator : SV := (sSeq (sExpr (eArgs m_check_pair (eCons (eVar 0) (eCons (eVar 1) eNil))))
    (sRet (eSl (eVar 1) eNoE (eSomeE (eBin fAdd (eArgs m_common_length (eCons (eVar 0) (eCons (eVar 1) eNil))) (eC (.int 1)))))))
def m_separator : List D → List MO → R D := mOf 2 2 sv_separator
def sv__law_shorter_1 : SV := (sSet 3 (eArgs fCell eNil))
def sv__law_shorter_2b1b1 : SV := (sSet 6 (eSl (eVar 4) eNoE (eSomeE (eVar 5))))
def sv__law_shorter_2b1b2 : SV := (sSet 7 (eBin fSub (eVar 2) (eVar 5)))
def sv__law_shorter_2b1b3b1 : SV := (sExpr (eMeth ckL fAppend (eVar 3) (eCons (eVar 6) eNil)))
def sv__law_shorter_2b1b3eb1 : SV := (sSet 8 (eIf (eTest (eBin fLt (eVar 5) (eArgs fLen (eCons (eVar 4) eNil)))) (eBin fIx (eVar 4) (eVar 5)) (eC (.int 0))))
def sv__law_shorter_2b1b3eb2b1 : SV := (sExpr (eMeth ckL fAppend (eVar 3) (eCons (eBin fAdd (eBin fAdd (eVar 6) (eArgs fTup (eCons (eVar 9) eNil))) (eBin fMul (eArgs fTup (eCons (eC (.int 0)) eNil)) (eBin fSub (eVar 7) (eC (.int 1))))) eNil)))
def sv__law_shorter_2b1b3eb2b2 : SV := (sExpr (eMeth ckL fAppend (eVar 3) (eCons (eBin fAdd (eBin fAdd (eVar 6) (eArgs fTup (eCons (eVar 9) eNil))) (eBin fMul (eArgs fTup (eCons (eC (.int 255)) eNil)) (eBin fSub (eVar 7) (eC (.int 1))))) eNil)))
def sv__law_shorter_2b1b3eb2 : SV := (sFor (eSeq (eUn fSortSet (eArgs fLst (eCons (eC (.int 0)) (eCons (eC (.int 255)) (eCons (eArgs fMax (eCons (eC (.int 0)) (eCons (eBin fSub (eVar 8) (eC (.int 1))) eNil))) (eCons (eArgs fMin (eCons (eC (.int 255)) (eCons (eBin fAdd (eVar 8) (eC (.int 1))) eNil))) eNil))))))) (gN 9) (sSeq sv__law_shorter_2b1b3eb2b1
    sv__law_shorter_2b1b3eb2b2))
def sv__law_shorter_2b1b3 : SV := (sIf (eTest (eBin fEq (eVar 7) (eC (.int 0)))) sv__law_shorter_2b1b3b1 (sSeq sv__law_shorter_2b1b3eb1
    sv__law_shorter_2b1b3eb2))
def sv__law_shorter_2b1 : SV := (sFor (eRange1 (eCons (eBin fAdd (eArgs fMin (eCons (eArgs fLen (eCons (eVar 4) eNil)) (eCons (eVar 2) eNil))) (eC (.int 1))) eNil)) (gN 5) (sSeq sv__law_shorter_2b1b1
    (sSeq sv__law_shorter_2b1b2
    sv__law_shorter_2b1b3)))
def sv__law_shorter_2 : SV := (sFor (eSeq (eArgs fLst (eCons (eVar 0) (eCons (eVar 1) eNil)))) (gN 4) sv__law_shorter_2b1)
def sv__law_shorter_3 : SV := (sRet (eVar 3))
def sv__law_shorter : SV := (sSeq sv__law_shorter_1
    (sSeq sv__law_shorter_2
    sv__law_shorter_3))
def m__law_shorter : List D → List MO → R D := mOf 3 10 sv__law_shorter
def sv_successor : SV := (sSeq (sExpr (eArgs m_check_bytes (eCons (eVar 0) eNil)))
    (sRet (eBin fAdd (eVar 0) (eArgs fTup (eCons (eC (.int 0)) eNil)))))
def m_successor : List D → List MO → R D := mOf 1 1 sv_successor
def sv_law_k08_1 : SV := (sSet 1 (eArgs m__law_start (eCons (eVar 0) eNil)))
def sv_law_k08_2 : SV := (sAsg (gT [6, 7]) (eArgs m__law_pair (eCons (eVar 1) eNil)))
def sv_law_k08_3 : SV := (sSet 2 (eArgs m_separator (eCons (eVar 6) (eCons (eVar 7) eNil))))
def sv_law_k08_4b1 : SV := (sRet (eC (.bl false)))
def sv_law_k08_4 : SV := (sIf (eOr (eNot (eTest (eChain fLt fLe (eVar 6) (eVar 2) (eVar 7)))) (eTest (eBin fNe (eVar 2) (eSl (eVar 7) eNoE (eSomeE (eArgs fLen (eCons (eVar 2) eNil))))))) sv_law_k08_4b1 sNil)
def sv_law_k08_5 : SV := (sSet 3 (eArgs fLen (eCons (eArgs fLst' (eLcA (eRange1 (eCons (eArgs fMin (eCons (eArgs fLen (eCons (eVar 6) eNil)) (eCons (eArgs fLen (eCons (eVar 7) eNil)) eNil))) eNil)) (gN 8) [8] (eTest (eBin fEq (eSl (eVar 6) eNoE (eSomeE (eBin fAdd (eVar 8) (eC (.int 1))))) (eSl (eVar 7) eNoE (eSomeE (eBin fAdd (eVar 8) (eC (.int 1))))))) (eVar 8))) eNil)))
def sv_law_k08_6b1 : SV := (sRet (eC (.bl false)))
def sv_law_k08_6 : SV := (sIf (eTest (eBin fNe (eArgs fLen (eCons (eVar 2) eNil)) (eBin fAdd (eVar 3) (eC (.int 1))))) sv_law_k08_6b1 sNil)
def sv_law_k08_7b1b1 : SV := (sRet (eC (.bl false)))
def sv_law_k08_7b1 : SV := (sIf (eTest (eBin fNe (eArgs fLst' (eLcA (eSeq (eArgs m__law_shorter (eCons (eVar 6) (eCons (eVar 7) (eCons (eVar 4) eNil))))) (gN 9) [9] (eTest (eChain fLt fLe (eVar 6) (eVar 9) (eVar 7))) (eVar 9))) (eArgs fLst eNil))) sv_law_k08_7b1b1 sNil)
def sv_law_k08_7 : SV := (sFor (eRange1 (eCons (eArgs fLen (eCons (eVar 2) eNil)) eNil)) (gN 4) sv_law_k08_7b1)
def sv_law_k08_8b1 : SV := (sRet (eC (.bl false)))
def sv_law_k08_8 : SV := (sIf (eOr (eTest (eBin fNe (eArgs m_successor (eCons (eVar 6) eNil)) (eBin fAdd (eVar 6) (eArgs fTup (eCons (eC (.int 0)) eNil))))) (eNot (eTest (eChain fLt fLe (eVar 6) (eArgs m_successor (eCons (eVar 6) eNil)) (eVar 7))))) sv_law_k08_8b1 sNil)
def sv_law_k08_9 : SV := (sSet 5 (eArgs m__law_string (eCons (eVar 1) (eCons (eC (.int 6)) eNil))))
def sv_law_k08_10 : SV := (sRet (eUn fNot (eChain fLt fLt (eVar 6) (eVar 5) (eArgs m_successor (eCons (eVar 6) eNil)))))
def sv_law_k08 : SV := (sSeq sv_law_k08_1
    (sSeq sv_law_k08_2
    (sSeq sv_law_k08_3
    (sSeq sv_law_k08_4
    (sSeq sv_law_k08_5
    (sSeq sv_law_k08_6
    (sSeq sv_law_k08_7
    (sSeq sv_law_k08_8
    (sSeq sv_law_k08_9
    sv_law_k08_10)))))))))
def m_law_k08 : List D → List MO → R D := mOf 1 10 sv_law_k08
def sv_above : SV := (sSeq (sFor (eEnum (eCons (eVar 0) eNil)) (gT [1, 2]) (sIf (eTest (eBin fLt (eVar 2) (eC (.int 255)))) (sRet (eBin fAdd (eSl (eVar 0) eNoE (eSomeE (eVar 1))) (eArgs fTup (eCons (eBin fAdd (eVar 2) (eC (.int 1))) eNil)))) sNil))
    (sRet (eBin fAdd (eVar 0) (eArgs fTup (eCons (eC (.int 0)) eNil)))))
def m_above : List D → List MO → R D := mOf 1 3 sv_above
def sv_between : SV := (sSeq (sExpr (eArgs m_check_pair (eCons (eVar 0) (eCons (eVar 1) eNil))))
    (sSeq (sIf (eTest (eBin fEq (eVar 1) (eBin fAdd (eVar 0) (eArgs fTup (eCons (eC (.int 0)) eNil))))) (sRaise "NotFound") sNil)
    (sSeq (sSet 2 (eArgs m_common_length (eCons (eVar 0) (eCons (eVar 1) eNil))))
    (sSeq (sPar 3 4 (eCons (eSl (eVar 0) eNoE (eSomeE (eVar 2))) (eCons (eBin fIx (eVar 1) (eVar 2)) eNil)))
    (sSeq (sIf (eTest (eBin fEq (eVar 2) (eArgs fLen (eCons (eVar 0) eNil)))) (sRet (eBin fAdd (eVar 3) (eArgs fTup (eCons (eIf (eTest (eBin fGt (eArgs fLen (eCons (eVar 1) eNil)) (eBin fAdd (eVar 2) (eC (.int 1))))) (eVar 4) (eBin fSub (eVar 4) (eC (.int 1)))) eNil)))) sNil)
    (sSeq (sIf (eOr (eTest (eBin fGt (eBin fSub (eVar 4) (eBin fIx (eVar 0) (eVar 2))) (eC (.int 1)))) (eTest (eBin fGt (eArgs fLen (eCons (eVar 1) eNil)) (eBin fAdd (eVar 2) (eC (.int 1)))))) (sRet (eBin fAdd (eVar 3) (eArgs fTup (eCons (eBin fAdd (eBin fIx (eVar 0) (eVar 2)) (eC (.int 1))) eNil)))) sNil)
    (sRet (eBin fAdd (eBin fAdd (eVar 3) (eArgs fTup (eCons (eBin fIx (eVar 0) (eVar 2)) eNil))) (eArgs m_above (eCons (eSl (eVar 0) (eSomeE (eBin fAdd (eVar 2) (eC (.int 1)))) eNoE) eNil))))))))))
def m_between : List D → List MO → R D := mOf 2 5 sv_between
def sv__law_told : SV := (sSeq (sSet 2 (eC .non))
    (sSeq (sSet 3 (eC .non))
    (sSeq (sTry xcls 4 3 (sSet 2 (eArgs m_between (eCons (eVar 0) (eCons (eVar 1) eNil)))))
    (sRet (eIf (eTest (eBin fIs (eVar 3) (eC .non))) (eVar 2) (eArgs m__law_error (eCons (eVar 3) eNil)))))))
def m__law_told : List D → List MO → R D := mOf 2 5 sv__law_told
def sv__law_least : SV := (sSeq (sSet 2 (eArgs fLen (eCons (eArgs fLst' (eLcA (eRange1 (eCons (eArgs fMin (eCons (eArgs fLen (eCons (eVar 0) eNil)) (eCons (eArgs fLen (eCons (eVar 1) eNil)) eNil))) eNil)) (gN 6) [6] (eTest (eBin fEq (eSl (eVar 0) eNoE (eSomeE (eBin fAdd (eVar 6) (eC (.int 1))))) (eSl (eVar 1) eNoE (eSomeE (eBin fAdd (eVar 6) (eC (.int 1))))))) (eVar 6))) eNil)))
    (sSeq (sFor (eRange2 (eCons (eBin fAdd (eVar 2) (eC (.int 1))) (eCons (eBin fAdd (eBin fAdd (eArgs fLen (eCons (eVar 0) eNil)) (eArgs fLen (eCons (eVar 1) eNil))) (eC (.int 2))) eNil))) (gN 3) (sSeq (sSet 4 (eBin fAdd (eArgs fLst' (eLcA (eRange2 (eCons (eVar 2) (eCons (eBin fAdd (eArgs fMin (eCons (eArgs fLen (eCons (eVar 0) eNil)) (eCons (eVar 3) eNil))) (eC (.int 1))) eNil))) (gN 8) [8] eYes (eSl (eVar 0) eNoE (eSomeE (eVar 8))))) (eArgs fLst' (eLcA (eRange2 (eCons (eVar 2) (eCons (eBin fAdd (eArgs fMin (eCons (eArgs fLen (eCons (eVar 1) eNil)) (eCons (eVar 3) eNil))) (eC (.int 1))) eNil))) (gN 8) [8] eYes (eSl (eVar 1) eNoE (eSomeE (eVar 8)))))))
    (sFor (eSeq (eVar 4)) (gN 5) (sIf (eTest (eBin fEq (eArgs fLen (eCons (eVar 5) eNil)) (eVar 3))) (sIf (eTest (eChain fLt fLt (eVar 0) (eVar 5) (eVar 1))) (sRet (eVar 3)) sNil) (sFor (eRange1 (eCons (eC (.int 256)) eNil)) (gN 7) (sFor (eSeq (eArgs fTup (eCons (eC (.int 0)) (eCons (eC (.int 255)) eNil)))) (gN 9) (sIf (eTest (eChain fLt fLt (eVar 0) (eBin fAdd (eBin fAdd (eVar 5) (eArgs fTup (eCons (eVar 7) eNil))) (eBin fMul (eArgs fTup (eCons (eVar 9) eNil)) (eBin fSub (eBin fSub (eVar 3) (eArgs fLen (eCons (eVar 5) eNil))) (eC (.int 1))))) (eVar 1))) (sRet (eVar 3)) sNil)))))))
    (sRet (eC .non))))
def m__law_least : List D → List MO → R D := mOf 2 10 sv__law_least
def sv_law_k09_1 : SV := (sSet 1 (eArgs m__law_start (eCons (eVar 0) eNil)))
def sv_law_k09_2 : SV := (sAsg (gT [5, 6]) (eArgs m__law_pair (eCons (eVar 1) eNil)))
def sv_law_k09_3 : SV := (sSet 2 (eArgs m__law_draw (eCons (eVar 1) (eCons (eC (.int 5)) eNil))))
def sv_law_k09_4b1 : SV := (sSet 6 (eBin fAdd (eSl (eVar 5) eNoE (eSomeE (eUn fNeg (eC (.int 1))))) (eArgs fTup (eCons (eBin fAdd (eBin fIx (eVar 5) (eUn fNeg (eC (.int 1)))) (eC (.int 1))) eNil))))
def sv_law_k09_4 : SV := (sIf (eAnd (eTest (eBin fEq (eVar 2) (eC (.int 0)))) (eAnd (eTest (eBin fNe (eVar 5) (eArgs fTup eNil))) (eTest (eBin fLt (eBin fIx (eVar 5) (eUn fNeg (eC (.int 1)))) (eC (.int 255)))))) sv_law_k09_4b1 sNil)
def sv_law_k09_5b1 : SV := (sSet 6 (eBin fAdd (eVar 5) (eBin fMul (eArgs fTup (eCons (eC (.int 0)) eNil)) (eBin fAdd (eC (.int 1)) (eArgs m__law_draw (eCons (eVar 1) (eCons (eC (.int 2)) eNil)))))))
def sv_law_k09_5 : SV := (sIf (eTest (eBin fEq (eVar 2) (eC (.int 1)))) sv_law_k09_5b1 sNil)
def sv_law_k09_6b1 : SV := (sSet 7 (eBin fMul (eArgs fTup (eCons (eArgs m__law_pick (eCons (eVar 1) (eCons (eArgs fLst (eCons (eC (.int 255)) (eCons (eC (.int 255)) (eCons (eArgs m__law_draw (eCons (eVar 1) (eCons (eC (.int 256)) eNil))) eNil)))) eNil))) eNil)) (eBin fAdd (eC (.int 1)) (eArgs m__law_draw (eCons (eVar 1) (eCons (eC (.int 2)) eNil))))))
def sv_law_k09_6b2 : SV := (sPar 5 6 (eCons (eBin fAdd (eBin fAdd (eVar 5) (eArgs fTup (eCons (eC (.int 5)) eNil))) (eVar 7)) (eCons (eBin fAdd (eBin fAdd (eVar 5) (eArgs fTup (eCons (eC (.int 6)) eNil))) (eArgs m__law_pick (eCons (eVar 1) (eCons (eArgs fLst (eCons (eArgs fTup eNil) (eCons (eArgs fTup eNil) (eCons (eArgs fTup (eCons (eC (.int 0)) eNil)) (eCons (eVar 7) eNil))))) eNil)))) eNil)))
def sv_law_k09_6 : SV := (sIf (eTest (eBin fEq (eVar 2) (eC (.int 2)))) (sSeq sv_law_k09_6b1
    sv_law_k09_6b2) sNil)
def sv_law_k09_7 : SV := (sSet 3 (eArgs m__law_told (eCons (eVar 5) (eCons (eVar 6) eNil))))
def sv_law_k09_8 : SV := (sSet 4 (eArgs m__law_least (eCons (eVar 5) (eCons (eVar 6) eNil))))
def sv_law_k09_9b1 : SV := (sRet (eC (.bl false)))
def sv_law_k09_9 : SV := (sIf (eTest (eBin fNe (eBin fIs (eVar 4) (eC .non)) (eBin fEq (eVar 6) (eBin fAdd (eVar 5) (eArgs fTup (eCons (eC (.int 0)) eNil)))))) sv_law_k09_9b1 sNil)
def sv_law_k09_10b1 : SV := (sRet (eBin fEq (eVar 3) (eC (.str "none"))))
def sv_law_k09_10 : SV := (sIf (eTest (eBin fIs (eVar 4) (eC .non))) sv_law_k09_10b1 sNil)
def sv_law_k09_11 : SV := (sRet (eAndV (eBin fIs (eArgs m_is_bytes (eCons (eVar 3) eNil)) (eC (.bl true))) (eAndV (eChain fLt fLt (eVar 5) (eVar 3) (eVar 6)) (eBin fEq (eArgs fLen (eCons (eVar 3) eNil)) (eVar 4)))))
def sv_law_k09 : SV := (sSeq sv_law_k09_1
    (sSeq sv_law_k09_2
    (sSeq sv_law_k09_3
    (sSeq sv_law_k09_4
    (sSeq sv_law_k09_5
    (sSeq sv_law_k09_6
    (sSeq sv_law_k09_7
    (sSeq sv_law_k09_8
    (sSeq sv_law_k09_9
    (sSeq sv_law_k09_10
    sv_law_k09_11))))))))))
def m_law_k09 : List D → List MO → R D := mOf 1 8 sv_law_k09
def sv_end_of : SV := (sSeq (sSet 1 (eBin fSub (eArgs fLen (eCons (eVar 0) eNil)) (eC (.int 1))))
    (sSeq (sWhile (eAnd (eTest (eBin fGe (eVar 1) (eC (.int 0)))) (eTest (eBin fEq (eBin fIx (eVar 0) (eVar 1)) (eC (.int 255))))) (sAug 1 fISub (eC (.int 1))))
    (sRet (eIf (eTest (eBin fLt (eVar 1) (eC (.int 0)))) (eC .non) (eBin fAdd (eSl (eVar 0) eNoE (eSomeE (eVar 1))) (eArgs fTup (eCons (eBin fAdd (eBin fIx (eVar 0) (eVar 1)) (eC (.int 1))) eNil)))))))
def m_end_of : List D → List MO → R D := mOf 1 2 sv_end_of
def sv_prefix_end : SV := (sSeq (sExpr (eArgs m_check_bytes (eCons (eVar 0) eNil)))
    (sRet (eArgs m_end_of (eCons (eVar 0) eNil))))
def m_prefix_end : List D → List MO → R D := mOf 1 1 sv_prefix_end
def sv_prefix_range : SV := (sSeq (sExpr (eArgs m_check_bytes (eCons (eVar 0) eNil)))
    (sRet (eArgs fTup (eCons (eVar 0) (eCons (eArgs m_end_of (eCons (eVar 0) eNil)) eNil)))))
def m_prefix_range : List D → List MO → R D := mOf 1 1 sv_prefix_range
def sv_law_k10_1 : SV := (sSet 1 (eArgs m__law_start (eCons (eVar 0) eNil)))
def sv_law_k10_2 : SV := (sSet 2 (eArgs m__law_string (eCons (eVar 1) (eCons (eC (.int 5)) eNil))))
def sv_law_k10_3b1 : SV := (sSet 2 (eBin fAdd (eSl (eVar 2) eNoE (eSomeE (eC (.int 1)))) (eBin fMul (eArgs fTup (eCons (eC (.int 255)) eNil)) (eArgs m__law_draw (eCons (eVar 1) (eCons (eC (.int 3)) eNil))))))
def sv_law_k10_3 : SV := (sIf (eTest (eBin fEq (eArgs m__law_draw (eCons (eVar 1) (eCons (eC (.int 4)) eNil))) (eC (.int 0)))) sv_law_k10_3b1 sNil)
def sv_law_k10_4 : SV := (sSet 3 (eArgs m_prefix_end (eCons (eVar 2) eNil)))
def sv_law_k10_5b1 : SV := (sRet (eC (.bl false)))
def sv_law_k10_5 : SV := (sIf (eOr (eTest (eBin fNe (eArgs m_prefix_range (eCons (eVar 2) eNil)) (eArgs fTup (eCons (eVar 2) (eCons (eVar 3) eNil))))) (eTest (eBin fNe (eBin fIs (eVar 3) (eC .non)) (eBin fEq (eArgs fLst' (eLcA (eSeq (eVar 2)) (gN 9) [9] (eTest (eBin fLt (eVar 9) (eC (.int 255)))) (eVar 9))) (eArgs fLst eNil))))) sv_law_k10_5b1 sNil)
def sv_law_k10_6 : SV := (sSet 4 (eBin fAddC (eArgs fLst' (eLcA (eRange1 (eCons (eC (.int 3)) eNil)) (gN 8) [8] eYes (eBin fAdd (eVar 2) (eArgs m__law_string (eCons (eVar 1) (eCons (eC (.int 4)) eNil)))))) (eArgs fLst (eCons (eBin fAdd (eVar 2) (eBin fMul (eArgs fTup (eCons (eC (.int 255)) eNil)) (eC (.int 6)))) (eCons (eVar 2) eNil)))))
def sv_law_k10_7 : SV := (sSet 4 (eBin fAddC (eVar 4) (eArgs fLst' (eLcA (eRange1 (eCons (eC (.int 6)) eNil)) (gN 8) [8] eYes (eArgs m__law_string (eCons (eVar 1) (eCons (eC (.int 6)) eNil)))))))
def sv_law_k10_8b1 : SV := (sSet 4 (eBin fAddC (eVar 4) (eArgs fLst (eCons (eSl (eVar 2) eNoE (eSomeE (eUn fNeg (eC (.int 1))))) (eCons (eBin fAdd (eBin fAdd (eSl (eVar 2) eNoE (eSomeE (eUn fNeg (eC (.int 1))))) (eArgs fTup (eCons (eArgs fMax (eCons (eC (.int 0)) (eCons (eBin fSub (eBin fIx (eVar 2) (eUn fNeg (eC (.int 1)))) (eC (.int 1))) eNil))) eNil))) (eBin fMul (eArgs fTup (eCons (eC (.int 255)) eNil)) (eC (.int 4)))) eNil)))))
def sv_law_k10_8b2 : SV := (sExpr (eMeth ckL fAppend (eVar 4) (eCons (eBin fAdd (eSl (eVar 2) eNoE (eSomeE (eUn fNeg (eC (.int 1))))) (eArgs fTup (eCons (eArgs fMin (eCons (eC (.int 255)) (eCons (eBin fAdd (eBin fIx (eVar 2) (eUn fNeg (eC (.int 1)))) (eC (.int 1))) eNil))) eNil))) eNil)))
def sv_law_k10_8 : SV := (sIf (eTest (eBin fNe (eVar 2) (eArgs fTup eNil))) (sSeq sv_law_k10_8b1
    sv_law_k10_8b2) sNil)
def sv_law_k10_9b1 : SV := (sSet 7 (eAndV (eBin fLe (eVar 2) (eVar 5)) (eOrV (eBin fIs (eVar 3) (eC .non)) (eBin fLt (eVar 5) (eVar 3)))))
def sv_law_k10_9b2b1 : SV := (sRet (eC (.bl false)))
def sv_law_k10_9b2 : SV := (sIf (eTest (eBin fNe (eVar 7) (eBin fEq (eSl (eVar 5) eNoE (eSomeE (eArgs fLen (eCons (eVar 2) eNil)))) (eVar 2)))) sv_law_k10_9b2b1 sNil)
def sv_law_k10_9 : SV := (sFor (eSeq (eVar 4)) (gN 5) (sSeq sv_law_k10_9b1
    sv_law_k10_9b2))
def sv_law_k10_10b1 : SV := (sRet (eC (.bl true)))
def sv_law_k10_10 : SV := (sIf (eTest (eBin fIs (eVar 3) (eC .non))) sv_law_k10_10b1 sNil)
def sv_law_k10_11b1 : SV := (sRet (eC (.bl false)))
def sv_law_k10_11 : SV := (sIf (eOr (eTest (eBin fEq (eSl (eVar 3) eNoE (eSomeE (eArgs fLen (eCons (eVar 2) eNil)))) (eVar 2))) (eNot (eTest (eBin fLt (eBin fAdd (eVar 2) (eBin fMul (eArgs fTup (eCons (eC (.int 255)) eNil)) (eC (.int 9)))) (eVar 3))))) sv_law_k10_11b1 sNil)
def sv_law_k10_12 : SV := (sSet 6 (eArgs fLst' (eLcA (eSeq (eVar 4)) (gN 5) [5] (eAnd (eTest (eChain fLt fLt (eVar 2) (eVar 5) (eVar 3))) (eTest (eBin fNe (eSl (eVar 5) eNoE (eSomeE (eArgs fLen (eCons (eVar 2) eNil)))) (eVar 2)))) (eVar 5))))
def sv_law_k10_13 : SV := (sRet (eAndV (eBin fEq (eVar 6) (eArgs fLst eNil)) (eAndV (eBin fGt (eBin fIx (eVar 3) (eUn fNeg (eC (.int 1)))) (eC (.int 0))) (eBin fLe (eArgs fLen (eCons (eVar 3) eNil)) (eArgs fLen (eCons (eVar 2) eNil))))))
def sv_law_k10 : SV := (sSeq sv_law_k10_1
    (sSeq sv_law_k10_2
    (sSeq sv_law_k10_3
    (sSeq sv_law_k10_4
    (sSeq sv_law_k10_5
    (sSeq sv_law_k10_6
    (sSeq sv_law_k10_7
    (sSeq sv_law_k10_8
    (sSeq sv_law_k10_9
    (sSeq sv_law_k10_10
    (sSeq sv_law_k10_11
    (sSeq sv_law_k10_12
    sv_law_k10_13))))))))))))
def m_law_k10 : List D → List MO → R D := mOf 1 10 sv_law_k10
def sv_check_ordered : SV := (sIf (eTest (eBin fIsNot (eArgs m_order_witness (eCons (eVar 0) eNil)) (eC .non))) (sRaise "BadScheme") sNil)
def m_check_ordered : List D → List MO → R D := mOf 1 1 sv_check_ordered
def sv_check_values : SV := (sSeq (sIf (eOr (eNot (eTest (eUn (fIsi "tuple") (eVar 1)))) (eTest (eBin fGe (eArgs fLen (eCons (eVar 1) eNil)) (eArgs fLen (eCons (eVar 0) eNil))))) (sRaise "BadRow") sNil)
    (sIf (eNot (eTest (eArgs fAll (eCons (eArgs fLst' (eLcA (eZip2 (eCons (eVar 0) (eCons (eVar 1) eNil))) (gT [2, 3]) [2, 3] eYes (eArgs m_is_value (eCons (eVar 2) (eCons (eVar 3) eNil))))) eNil)))) (sRaise "BadRow") sNil))
def m_check_values : List D → List MO → R D := mOf 2 4 sv_check_values
def sv_row_range : SV := (sSeq (sExpr (eArgs m_check_ordered (eCons (eVar 0) eNil)))
    (sSeq (sExpr (eArgs m_check_values (eCons (eVar 0) (eCons (eVar 1) eNil))))
    (sSeq (sSet 2 (eArgs m_joined (eCons (eSl (eVar 0) eNoE (eSomeE (eArgs fLen (eCons (eVar 1) eNil)))) (eCons (eVar 1) eNil))))
    (sRet (eArgs fTup (eCons (eVar 2) (eCons (eArgs m_end_of (eCons (eVar 2) eNil)) eNil)))))))
def m_row_range : List D → List MO → R D := mOf 2 3 sv_row_range
def sv_in_range : SV := (sSeq (sAsg (gT [2, 3]) (eVar 1))
    (sRet (eAndV (eBin fLe (eVar 2) (eVar 0)) (eOrV (eBin fIs (eVar 3) (eC .non)) (eBin fLt (eVar 0) (eVar 3))))))
def m_in_range : List D → List MO → R D := mOf 2 4 sv_in_range
def sv_starts_with : SV := (sSeq (sSet 3 (eArgs m_row_range (eCons (eVar 0) (eCons (eVar 1) eNil))))
    (sSeq (sExpr (eArgs m_check_bytes (eCons (eVar 2) eNil)))
    (sRet (eArgs m_in_range (eCons (eVar 2) (eCons (eVar 3) eNil))))))
def m_starts_with : List D → List MO → R D := mOf 3 4 sv_starts_with
def sv_law_k11_1 : SV := (sSet 1 (eArgs m__law_start (eCons (eVar 0) eNil)))
def sv_law_k11_2 : SV := (sSet 2 (eArgs m__law_good (eCons (eVar 1) eNil)))
def sv_law_k11_3 : SV := (sSet 3 (eArgs m__law_row (eCons (eVar 1) (eCons (eVar 2) eNil))))
def sv_law_k11_4 : SV := (sSet 4 (eSl (eVar 3) eNoE (eSomeE (eArgs m__law_draw (eCons (eVar 1) (eCons (eArgs fLen (eCons (eVar 2) eNil)) eNil))))))
def sv_law_k11_5 : SV := (sAsg (gT [8, 9]) (eArgs m_row_range (eCons (eVar 2) (eCons (eVar 4) eNil))))
def sv_law_k11_6b1 : SV := (sRet (eC (.bl false)))
def sv_law_k11_6 : SV := (sIf (eOr (eTest (eBin fNe (eVar 8) (eArgs m__law_bytes (eCons (eSl (eVar 2) eNoE (eSomeE (eArgs fLen (eCons (eVar 4) eNil)))) (eCons (eVar 4) eNil))))) (eTest (eBin fNe (eVar 9) (eArgs m_prefix_end (eCons (eVar 8) eNil))))) sv_law_k11_6b1 sNil)
def sv_law_k11_7b1 : SV := (sSet 10 (eArgs m__law_other (eCons (eVar 1) (eCons (eVar 2) (eCons (eVar 3) eNil)))))
def sv_law_k11_7b2b1 : SV := (sSet 10 (eBin fAdd (eVar 4) (eSl (eVar 10) (eSomeE (eArgs fLen (eCons (eVar 4) eNil))) eNoE)))
def sv_law_k11_7b2 : SV := (sIf (eTest (eBin fEq (eArgs m__law_draw (eCons (eVar 1) (eCons (eC (.int 2)) eNil))) (eC (.int 0)))) sv_law_k11_7b2b1 sNil)
def sv_law_k11_7b3 : SV := (sSet 6 (eArgs m__law_bytes (eCons (eVar 2) (eCons (eVar 10) eNil))))
def sv_law_k11_7b4 : SV := (sSet 7 (eAndV (eBin fLe (eVar 8) (eVar 6)) (eOrV (eBin fIs (eVar 9) (eC .non)) (eBin fLt (eVar 6) (eVar 9)))))
def sv_law_k11_7b5b1 : SV := (sRet (eC (.bl false)))
def sv_law_k11_7b5 : SV := (sIf (eOr (eTest (eBin fNe (eVar 7) (eBin fEq (eSl (eVar 10) eNoE (eSomeE (eArgs fLen (eCons (eVar 4) eNil)))) (eVar 4)))) (eNot (eTest (eArgs m__law_true (eCons (eArgs m_starts_with (eCons (eVar 2) (eCons (eVar 4) (eCons (eVar 6) eNil)))) (eCons (eVar 7) eNil)))))) sv_law_k11_7b5b1 sNil)
def sv_law_k11_7 : SV := (sFor (eRange1 (eCons (eC (.int 6)) eNil)) (gN 5) (sSeq sv_law_k11_7b1
    (sSeq sv_law_k11_7b2
    (sSeq sv_law_k11_7b3
    (sSeq sv_law_k11_7b4
    sv_law_k11_7b5)))))
def sv_law_k11_8 : SV := (sSet 6 (eArgs m__law_string (eCons (eVar 1) (eCons (eC (.int 8)) eNil))))
def sv_law_k11_9 : SV := (sSet 7 (eAndV (eBin fLe (eVar 8) (eVar 6)) (eOrV (eBin fIs (eVar 9) (eC .non)) (eBin fLt (eVar 6) (eVar 9)))))
def sv_law_k11_10b1 : SV := (sRet (eC (.bl false)))
def sv_law_k11_10 : SV := (sIf (eNot (eTest (eArgs m__law_true (eCons (eArgs m_starts_with (eCons (eVar 2) (eCons (eVar 4) (eCons (eVar 6) eNil)))) (eCons (eVar 7) eNil))))) sv_law_k11_10b1 sNil)
def sv_law_k11_11 : SV := (sRet (eAndV (eBin fEq (eArgs m_row_range (eCons (eVar 2) (eCons (eArgs fTup eNil) eNil))) (eArgs fTup (eCons (eArgs fTup eNil) (eCons (eC .non) eNil)))) (eBin fEq (eVar 7) (eBin fEq (eSl (eVar 6) eNoE (eSomeE (eArgs fLen (eCons (eVar 8) eNil)))) (eVar 8)))))
def sv_law_k11 : SV := (sSeq sv_law_k11_1
    (sSeq sv_law_k11_2
    (sSeq sv_law_k11_3
    (sSeq sv_law_k11_4
    (sSeq sv_law_k11_5
    (sSeq sv_law_k11_6
    (sSeq sv_law_k11_7
    (sSeq sv_law_k11_8
    (sSeq sv_law_k11_9
    (sSeq sv_law_k11_10
    sv_law_k11_11))))))))))
def m_law_k11 : List D → List MO → R D := mOf 1 11 sv_law_k11
def sv_value_bounds : SV := (sSeq (sExpr (eArgs m_check_ordered (eCons (eVar 0) eNil)))
    (sSeq (sExpr (eArgs m_check_values (eCons (eVar 0) (eCons (eVar 1) eNil))))
    (sSeq (sSet 4 (eArgs fLen (eCons (eVar 1) eNil)))
    (sSeq (sSet 5 (eBin fIx (eVar 0) (eVar 4)))
    (sSeq (sIf (eOr (eNot (eTest (eArgs m_is_value (eCons (eVar 5) (eCons (eVar 2) eNil))))) (eNot (eTest (eArgs m_is_value (eCons (eVar 5) (eCons (eVar 3) eNil)))))) (sRaise "BadRow") sNil)
    (sSeq (sSet 6 (eArgs m_joined (eCons (eSl (eVar 0) eNoE (eSomeE (eBin fAdd (eVar 4) (eC (.int 1))))) (eCons (eBin fAdd (eVar 1) (eArgs fTup (eCons (eVar 2) eNil))) eNil))))
    (sSeq (sSet 7 (eArgs m_joined (eCons (eSl (eVar 0) eNoE (eSomeE (eBin fAdd (eVar 4) (eC (.int 1))))) (eCons (eBin fAdd (eVar 1) (eArgs fTup (eCons (eVar 3) eNil))) eNil))))
    (sRet (eArgs fTup (eCons (eVar 6) (eCons (eIf (eTest (eBin fEq (eVar 4) (eBin fSub (eArgs fLen (eCons (eVar 0) eNil)) (eC (.int 1))))) (eBin fAdd (eVar 7) (eArgs fTup (eCons (eC (.int 0)) eNil))) (eArgs m_end_of (eCons (eVar 7) eNil))) eNil)))))))))))
def m_value_bounds : List D → List MO → R D := mOf 4 8 sv_value_bounds
def sv_law_k12_1 : SV := (sSet 1 (eArgs m__law_start (eCons (eVar 0) eNil)))
def sv_law_k12_2 : SV := (sSet 2 (eArgs m__law_good (eCons (eVar 1) eNil)))
def sv_law_k12_3 : SV := (sSet 3 (eArgs m__law_row (eCons (eVar 1) (eCons (eVar 2) eNil))))
def sv_law_k12_4 : SV := (sSet 4 (eArgs m__law_draw (eCons (eVar 1) (eCons (eArgs fLen (eCons (eVar 2) eNil)) eNil))))
def sv_law_k12_5 : SV := (sPar 7 8 (eCons (eBin fIx (eVar 2) (eVar 4)) (eCons (eSl (eVar 3) eNoE (eSomeE (eVar 4))) eNil)))
def sv_law_k12_6 : SV := (sPar 9 10 (eCons (eArgs m__law_value (eCons (eVar 1) (eCons (eVar 7) eNil))) (eCons (eArgs m__law_value (eCons (eVar 1) (eCons (eVar 7) eNil))) eNil)))
def sv_law_k12_7b1 : SV := (sPar 9 10 (eCons (eVar 10) (eCons (eVar 9) eNil)))
def sv_law_k12_7 : SV := (sIf (eAnd (eTest (eBin fGt (eArgs m__law_sign (eCons (eVar 7) (eCons (eVar 9) (eCons (eVar 10) eNil)))) (eC (.int 0)))) (eTest (eBin fGt (eArgs m__law_draw (eCons (eVar 1) (eCons (eC (.int 4)) eNil))) (eC (.int 0))))) sv_law_k12_7b1 sNil)
def sv_law_k12_8 : SV := (sAsg (gT [11, 12]) (eArgs m_value_bounds (eCons (eVar 2) (eCons (eVar 8) (eCons (eVar 9) (eCons (eVar 10) eNil))))))
def sv_law_k12_9b1 : SV := (sRet (eC (.bl false)))
def sv_law_k12_9 : SV := (sIf (eTest (eBin fNe (eVar 11) (eArgs m__law_bytes (eCons (eSl (eVar 2) eNoE (eSomeE (eBin fAdd (eVar 4) (eC (.int 1))))) (eCons (eBin fAdd (eVar 8) (eArgs fTup (eCons (eVar 9) eNil))) eNil))))) sv_law_k12_9b1 sNil)
def sv_law_k12_10 : SV := (sSet 5 (eArgs m__law_bytes (eCons (eSl (eVar 2) eNoE (eSomeE (eBin fAdd (eVar 4) (eC (.int 1))))) (eCons (eBin fAdd (eVar 8) (eArgs fTup (eCons (eVar 10) eNil))) eNil))))
def sv_law_k12_11b1 : SV := (sRet (eC (.bl false)))
def sv_law_k12_11 : SV := (sIf (eTest (eBin fNe (eVar 12) (eIf (eTest (eBin fEq (eVar 4) (eBin fSub (eArgs fLen (eCons (eVar 2) eNil)) (eC (.int 1))))) (eArgs m_successor (eCons (eVar 5) eNil)) (eArgs m_prefix_end (eCons (eVar 5) eNil))))) sv_law_k12_11b1 sNil)
def sv_law_k12_12b1 : SV := (sSet 13 (eArgs m__law_other (eCons (eVar 1) (eCons (eVar 2) (eCons (eVar 3) eNil)))))
def sv_law_k12_12b2b1 : SV := (sSet 16 (eArgs m__law_pick (eCons (eVar 1) (eCons (eArgs fLst (eCons (eVar 9) (eCons (eVar 10) (eCons (eArgs m__law_value (eCons (eVar 1) (eCons (eVar 7) eNil))) eNil)))) eNil))))
def sv_law_k12_12b2b2b1 : SV := (sSet 16 (eSl (eBin fAdd (eVar 16) (eArgs m__law_text (eCons (eVar 1) (eCons (eC (.int 2)) eNil)))) eNoE (eSomeE (eC (.int 9)))))
def sv_law_k12_12b2b2 : SV := (sIf (eAnd (eTest (eUn (fIsi "tuple") (eVar 16))) (eTest (eBin fEq (eArgs m__law_draw (eCons (eVar 1) (eCons (eC (.int 3)) eNil))) (eC (.int 0))))) sv_law_k12_12b2b2b1 sNil)
def sv_law_k12_12b2b3 : SV := (sSet 13 (eBin fAdd (eBin fAdd (eVar 8) (eArgs fTup (eCons (eVar 16) eNil))) (eSl (eVar 13) (eSomeE (eBin fAdd (eVar 4) (eC (.int 1)))) eNoE)))
def sv_law_k12_12b2 : SV := (sIf (eTest (eBin fGt (eArgs m__law_draw (eCons (eVar 1) (eCons (eC (.int 3)) eNil))) (eC (.int 0)))) (sSeq sv_law_k12_12b2b1
    (sSeq sv_law_k12_12b2b2
    sv_law_k12_12b2b3)) sNil)
def sv_law_k12_12b3 : SV := (sSet 14 (eArgs m__law_bytes (eCons (eVar 2) (eCons (eVar 13) eNil))))
def sv_law_k12_12b4 : SV := (sSet 15 (eAndV (eBin fEq (eSl (eVar 13) eNoE (eSomeE (eVar 4))) (eVar 8)) (eAndV (eBin fLe (eArgs m__law_sign (eCons (eVar 7) (eCons (eVar 9) (eCons (eBin fIx (eVar 13) (eVar 4)) eNil)))) (eC (.int 0))) (eBin fLe (eArgs m__law_sign (eCons (eVar 7) (eCons (eBin fIx (eVar 13) (eVar 4)) (eCons (eVar 10) eNil)))) (eC (.int 0))))))
def sv_law_k12_12b5b1 : SV := (sRet (eC (.bl false)))
def sv_law_k12_12b5 : SV := (sIf (eTest (eBin fNe (eAndV (eBin fLe (eVar 11) (eVar 14)) (eOrV (eBin fIs (eVar 12) (eC .non)) (eBin fLt (eVar 14) (eVar 12)))) (eVar 15))) sv_law_k12_12b5b1 sNil)
def sv_law_k12_12 : SV := (sFor (eRange1 (eCons (eC (.int 8)) eNil)) (gN 6) (sSeq sv_law_k12_12b1
    (sSeq sv_law_k12_12b2
    (sSeq sv_law_k12_12b3
    (sSeq sv_law_k12_12b4
    sv_law_k12_12b5)))))
def sv_law_k12_13 : SV := (sRet (eC (.bl true)))
def sv_law_k12 : SV := (sSeq sv_law_k12_1
    (sSeq sv_law_k12_2
    (sSeq sv_law_k12_3
    (sSeq sv_law_k12_4
    (sSeq sv_law_k12_5
    (sSeq sv_law_k12_6
    (sSeq sv_law_k12_7
    (sSeq sv_law_k12_8
    (sSeq sv_law_k12_9
    (sSeq sv_law_k12_10
    (sSeq sv_law_k12_11
    (sSeq sv_law_k12_12
    sv_law_k12_13))))))))))))
def m_law_k12 : List D → List MO → R D := mOf 1 17 sv_law_k12
def sv__law_keys : SV := (sSeq (sSet 1 (eArgs fCell eNil))
    (sSeq (sFor (eRange1 (eCons (eBin fAdd (eC (.int 1)) (eArgs m__law_draw (eCons (eVar 0) (eCons (eC (.int 9)) eNil)))) eNil)) (gN 2) (sSeq (sSet 3 (eArgs m__law_pick (eCons (eVar 0) (eCons (eBin fAdd (eVar 1) (eArgs fLst (eCons (eArgs fTup eNil) eNil))) eNil))))
    (sExpr (eMeth ckL fAppend (eVar 1) (eCons (eBin fAdd (eSl (eVar 3) eNoE (eSomeE (eArgs m__law_draw (eCons (eVar 0) (eCons (eC (.int 4)) eNil))))) (eArgs m__law_string (eCons (eVar 0) (eCons (eC (.int 4)) eNil)))) eNil)))))
    (sRet (eArgs fSortSetA (eCons (eVar 1) eNil)))))
def m__law_keys : List D → List MO → R D := mOf 1 4 sv__law_keys
def sv_check_keys : SV := (sSeq (sIf (eOr (eNot (eTest (eUn (fIsi "list") (eVar 0)))) (eOr (eTest (eBin fGt (eArgs fLen (eCons (eVar 0) eNil)) (eC (.int 200)))) (eNot (eTest (eArgs fAll (eCons (eArgs fLst' (eLcA (eSeq (eVar 0)) (gN 2) [2] eYes (eArgs m_is_bytes (eCons (eVar 2) eNil)))) eNil)))))) (sRaise "BadIndex") sNil)
    (sIf (eNot (eTest (eArgs fAll (eCons (eArgs fLst' (eLcA (eRange1 (eCons (eBin fSub (eArgs fLen (eCons (eVar 0) eNil)) (eC (.int 1))) eNil)) (gN 1) [1] eYes (eBin fLt (eBin fIx (eVar 0) (eVar 1)) (eBin fIx (eVar 0) (eBin fAdd (eVar 1) (eC (.int 1))))))) eNil)))) (sRaise "BadIndex") sNil))
def m_check_keys : List D → List MO → R D := mOf 1 3 sv_check_keys
def sv_separators : SV := (sSeq (sExpr (eArgs m_check_keys (eCons (eVar 0) eNil)))
    (sSeq (sIf (eOr (eNot (eTest (eUn (fIsi "list") (eVar 1)))) (eNot (eTest (eArgs fAll (eCons (eArgs fLst' (eLcA (eSeq (eVar 1)) (gN 2) [2] eYes (eAndV (eUn (fIsi "int") (eVar 2)) (eUn fNot (eUn (fIsi "bool") (eVar 2)))))) eNil))))) (sRaise "BadIndex") sNil)
    (sSeq (sIf (eNot (eTest (eArgs fAll (eCons (eArgs fLst' (eLcA (eSeq (eVar 1)) (gN 2) [2] eYes (eChain fLt fLt (eC (.int 0)) (eVar 2) (eArgs fLen (eCons (eVar 0) eNil))))) eNil)))) (sRaise "BadIndex") sNil)
    (sSeq (sIf (eNot (eTest (eArgs fAll (eCons (eArgs fLst' (eLcA (eRange1 (eCons (eBin fSub (eArgs fLen (eCons (eVar 1) eNil)) (eC (.int 1))) eNil)) (gN 3) [3] eYes (eBin fLt (eBin fIx (eVar 1) (eVar 3)) (eBin fIx (eVar 1) (eBin fAdd (eVar 3) (eC (.int 1))))))) eNil)))) (sRaise "BadIndex") sNil)
    (sRet (eArgs fLst' (eLcA (eSeq (eVar 1)) (gN 2) [2] eYes (eArgs m_separator (eCons (eBin fIx (eVar 0) (eBin fSub (eVar 2) (eC (.int 1)))) (eCons (eBin fIx (eVar 0) (eVar 2)) eNil))))))))))
def m_separators : List D → List MO → R D := mOf 2 4 sv_separators
def sv_are_separators : SV := (sSeq (sExpr (eArgs m_separators (eCons (eVar 0) (eCons (eVar 1) eNil))))
    (sSeq (sExpr (eArgs m_check_keys (eCons (eVar 2) eNil)))
    (sSeq (sIf (eTest (eBin fNe (eArgs fLen (eCons (eVar 2) eNil)) (eArgs fLen (eCons (eVar 1) eNil)))) (sRet (eC (.bl false))) sNil)
    (sRet (eArgs fAll (eCons (eArgs fLst' (eLcZA (eCons (eVar 1) (eCons (eVar 2) eNil)) (gT [3, 4]) [3, 4] eYes (eChain fLt fLe (eBin fIx (eVar 0) (eBin fSub (eVar 3) (eC (.int 1)))) (eVar 4) (eBin fIx (eVar 0) (eVar 3))))) eNil))))))
def m_are_separators : List D → List MO → R D := mOf 3 5 sv_are_separators
def sv_place_of : SV := (sSeq (sPar 2 3 (eCons (eC (.int 0)) (eCons (eArgs fLen (eCons (eVar 0) eNil)) eNil)))
    (sSeq (sWhile (eTest (eBin fLt (eVar 2) (eVar 3))) (sSeq (sSet 4 (eBin fFdiv (eBin fAdd (eVar 2) (eVar 3)) (eC (.int 2))))
    (sIf (eTest (eBin fLe (eBin fIx (eVar 0) (eVar 4)) (eVar 1))) (sSet 2 (eBin fAdd (eVar 4) (eC (.int 1)))) (sSet 3 (eVar 4)))))
    (sRet (eVar 2))))
def m_place_of : List D → List MO → R D := mOf 2 5 sv_place_of
def sv_route : SV := (sSeq (sExpr (eArgs m_check_keys (eCons (eVar 0) eNil)))
    (sSeq (sExpr (eArgs m_check_bytes (eCons (eVar 1) eNil)))
    (sRet (eArgs m_place_of (eCons (eVar 0) (eCons (eVar 1) eNil))))))
def m_route : List D → List MO → R D := mOf 2 2 sv_route
def sv_saved : SV := (sSeq (sSet 2 (eArgs m_separators (eCons (eVar 0) (eCons (eVar 1) eNil))))
    (sRet (eBin fSub (eArgs fSum (eCons (eArgs fLst' (eLcA (eSeq (eVar 1)) (gN 3) [3] eYes (eArgs fLen (eCons (eBin fIx (eVar 0) (eVar 3)) eNil)))) eNil)) (eArgs fSum (eCons (eArgs fLst' (eLcA (eSeq (eVar 2)) (gN 4) [4] eYes (eArgs fLen (eCons (eVar 4) eNil)))) eNil)))))
def m_saved : List D → List MO → R D := mOf 2 5 sv_saved
def sv_law_k13_1 : SV := (sSet 1 (eArgs m__law_start (eCons (eVar 0) eNil)))
def sv_law_k13_2 : SV := (sSet 2 (eArgs m__law_keys (eCons (eVar 1) eNil)))
def sv_law_k13_3 : SV := (sSet 3 (eArgs fLst' (eLcA (eRange2 (eCons (eC (.int 1)) (eCons (eArgs fLen (eCons (eVar 2) eNil)) eNil))) (gN 5) [5] (eTest (eBin fEq (eArgs m__law_draw (eCons (eVar 1) (eCons (eC (.int 2)) eNil))) (eC (.int 0)))) (eVar 5))))
def sv_law_k13_4 : SV := (sSet 4 (eArgs m_separators (eCons (eVar 2) (eCons (eVar 3) eNil))))
def sv_law_k13_5b1 : SV := (sRet (eC (.bl false)))
def sv_law_k13_5 : SV := (sIf (eOr (eTest (eBin fNe (eVar 4) (eArgs fLst' (eLcA (eSeq (eVar 3)) (gN 11) [11] eYes (eArgs m_separator (eCons (eBin fIx (eVar 2) (eBin fSub (eVar 11) (eC (.int 1)))) (eCons (eBin fIx (eVar 2) (eVar 11)) eNil))))))) (eTest (eBin fIsNot (eArgs m_are_separators (eCons (eVar 2) (eCons (eVar 3) (eCons (eVar 4) eNil)))) (eC (.bl true))))) sv_law_k13_5b1 sNil)
def sv_law_k13_6b1b1 : SV := (sRet (eC (.bl false)))
def sv_law_k13_6b1 : SV := (sIf (eTest (eBin fNe (eArgs m_route (eCons (eVar 4) (eCons (eBin fIx (eVar 2) (eVar 5)) eNil))) (eArgs fLen (eCons (eArgs fLst' (eLcA (eSeq (eVar 3)) (gN 11) [11] (eTest (eBin fLe (eVar 11) (eVar 5))) (eVar 11))) eNil)))) sv_law_k13_6b1b1 sNil)
def sv_law_k13_6 : SV := (sFor (eRange1 (eCons (eArgs fLen (eCons (eVar 2) eNil)) eNil)) (gN 5) sv_law_k13_6b1)
def sv_law_k13_7b1 : SV := (sRet (eC (.bl false)))
def sv_law_k13_7 : SV := (sIf (eTest (eBin fNe (eArgs m_saved (eCons (eVar 2) (eCons (eVar 3) eNil))) (eBin fSub (eArgs fSum (eCons (eArgs fLst' (eLcA (eSeq (eVar 3)) (gN 11) [11] eYes (eArgs fLen (eCons (eBin fIx (eVar 2) (eVar 11)) eNil)))) eNil)) (eArgs fSum (eCons (eArgs fLst' (eLcA (eSeq (eVar 4)) (gN 12) [12] eYes (eArgs fLen (eCons (eVar 12) eNil)))) eNil))))) sv_law_k13_7b1 sNil)
def sv_law_k13_8 : SV := (sSet 6 (eArgs m__law_string (eCons (eVar 1) (eCons (eC (.int 5)) eNil))))
def sv_law_k13_9b1 : SV := (sRet (eC (.bl false)))
def sv_law_k13_9 : SV := (sIf (eTest (eBin fNe (eArgs m_route (eCons (eVar 4) (eCons (eVar 6) eNil))) (eArgs fLen (eCons (eArgs fLst' (eLcA (eSeq (eVar 4)) (gN 12) [12] (eTest (eBin fLe (eVar 12) (eVar 6))) (eVar 12))) eNil)))) sv_law_k13_9b1 sNil)
def sv_law_k13_10b1 : SV := (sRet (eAndV (eBin fIs (eArgs m_are_separators (eCons (eVar 2) (eCons (eArgs fLst eNil) (eCons (eArgs fLst eNil) eNil)))) (eC (.bl true))) (eBin fEq (eArgs m_saved (eCons (eVar 2) (eCons (eArgs fLst eNil) eNil))) (eC (.int 0)))))
def sv_law_k13_10 : SV := (sIf (eTest (eBin fEq (eVar 3) (eArgs fLst eNil))) sv_law_k13_10b1 sNil)
def sv_law_k13_11 : SV := (sSet 7 (eArgs fCell' (eLcA (eSeq (eVar 3)) (gN 11) [11] eYes (eBin fIx (eVar 2) (eVar 11)))))
def sv_law_k13_12b1 : SV := (sRet (eC (.bl false)))
def sv_law_k13_12 : SV := (sIf (eTest (eBin fIsNot (eArgs m_are_separators (eCons (eVar 2) (eCons (eVar 3) (eCons (eVar 7) eNil)))) (eC (.bl true)))) sv_law_k13_12b1 sNil)
def sv_law_k13_13 : SV := (sSet 5 (eArgs m__law_draw (eCons (eVar 1) (eCons (eArgs fLen (eCons (eVar 7) eNil)) eNil))))
def sv_law_k13_14 : SV := (sSub (eVar 7) (eVar 5) (eArgs m__law_pick (eCons (eVar 1) (eCons (eArgs fLst (eCons (eBin fAdd (eBin fIx (eVar 7) (eVar 5)) (eArgs fTup (eCons (eC (.int 0)) eNil))) (eCons (eBin fIx (eVar 2) (eBin fSub (eBin fIx (eVar 3) (eVar 5)) (eC (.int 1)))) (eCons (eSl (eBin fIx (eVar 7) (eVar 5)) eNoE (eSomeE (eC (.int 1)))) (eCons (eArgs m__law_string (eCons (eVar 1) (eCons (eC (.int 3)) eNil))) (eCons (eBin fIx (eVar 4) (eVar 5)) eNil)))))) eNil))))
def sv_law_k13_15 : SV := (sSet 8 (eBin fEq (eArgs fLst' (eLcA (eRange1 (eCons (eBin fSub (eArgs fLen (eCons (eVar 7) eNil)) (eC (.int 1))) eNil)) (gN 10) [10] (eNot (eTest (eBin fLt (eBin fIx (eVar 7) (eVar 10)) (eBin fIx (eVar 7) (eBin fAdd (eVar 10) (eC (.int 1))))))) (eVar 10))) (eArgs fLst eNil)))
def sv_law_k13_16b1 : SV := (sRet (eC (.bl true)))
def sv_law_k13_16 : SV := (sIf (eNot (eTest (eVar 8))) sv_law_k13_16b1 sNil)
def sv_law_k13_17 : SV := (sSet 9 (eC (.bl true)))
def sv_law_k13_18b1 : SV := (sSet 9 (eAndV (eVar 9) (eChain fLt fLe (eBin fIx (eVar 2) (eBin fSub (eBin fIx (eVar 3) (eVar 10)) (eC (.int 1)))) (eBin fIx (eVar 7) (eVar 10)) (eBin fIx (eVar 2) (eBin fIx (eVar 3) (eVar 10))))))
def sv_law_k13_18 : SV := (sFor (eRange1 (eCons (eArgs fLen (eCons (eVar 7) eNil)) eNil)) (gN 10) sv_law_k13_18b1)
def sv_law_k13_19 : SV := (sRet (eAndV (eArgs m__law_true (eCons (eArgs m_are_separators (eCons (eVar 2) (eCons (eVar 3) (eCons (eVar 7) eNil)))) (eCons (eVar 9) eNil))) (eBin fIs (eArgs m_are_separators (eCons (eVar 2) (eCons (eVar 3) (eCons (eSl (eVar 7) (eSomeE (eC (.int 1))) eNoE) eNil)))) (eC (.bl false)))))
def sv_law_k13 : SV := (sSeq sv_law_k13_1
    (sSeq sv_law_k13_2
    (sSeq sv_law_k13_3
    (sSeq sv_law_k13_4
    (sSeq sv_law_k13_5
    (sSeq sv_law_k13_6
    (sSeq sv_law_k13_7
    (sSeq sv_law_k13_8
    (sSeq sv_law_k13_9
    (sSeq sv_law_k13_10
    (sSeq sv_law_k13_11
    (sSeq sv_law_k13_12
    (sSeq sv_law_k13_13
    (sSeq sv_law_k13_14
    (sSeq sv_law_k13_15
    (sSeq sv_law_k13_16
    (sSeq sv_law_k13_17
    (sSeq sv_law_k13_18
    sv_law_k13_19))))))))))))))))))
def m_law_k13 : List D → List MO → R D := mOf 1 13 sv_law_k13
def sv_Index___init__ : SV := (sSeq (sIf (eNot (eTest (eArgs m_is_int (eCons (eVar 1) (eCons (eC (.int 2)) (eCons (eC (.int 20)) eNil)))))) (sRaise "BadIndex") sNil)
    (sSeq (sFldO "Index" "size" (eVar 0) (eVar 1))
    (sSeq (sFldO "Index" "blocks" (eVar 0) (eArgs fCell (eCons (eArgs fLst eNil) eNil)))
    (sFldO "Index" "marks" (eVar 0) (eArgs fCell eNil)))))
def m_Index___init__ : List D → List MO → R D := mOf 2 2 sv_Index___init__
def sv__law_inserted : SV := (sSeq (sSet 4 (eArgs fLen (eCons (eArgs fLst' (eLcA (eSeq (eVar 1)) (gN 7) [7] (eTest (eBin fLe (eVar 7) (eVar 3))) (eVar 7))) eNil)))
    (sSeq (sSet 5 (eArgs fSorted (eCons (eBin fAdd (eBin fIx (eVar 0) (eVar 4)) (eArgs fLst (eCons (eVar 3) eNil))) eNil)))
    (sSeq (sIf (eTest (eBin fLe (eArgs fLen (eCons (eVar 5) eNil)) (eVar 2))) (sRet (eArgs fTup (eCons (eBin fAdd (eBin fAdd (eSl (eVar 0) eNoE (eSomeE (eVar 4))) (eArgs fLst (eCons (eVar 5) eNil))) (eSl (eVar 0) (eSomeE (eBin fAdd (eVar 4) (eC (.int 1)))) eNoE)) (eCons (eVar 1) eNil)))) sNil)
    (sSeq (sSet 6 (eBin fFdiv (eArgs fLen (eCons (eVar 5) eNil)) (eC (.int 2))))
    (sSeq (sSet 7 (eArgs m_separator (eCons (eBin fIx (eVar 5) (eBin fSub (eVar 6) (eC (.int 1)))) (eCons (eBin fIx (eVar 5) (eVar 6)) eNil))))
    (sRet (eArgs fTup (eCons (eBin fAdd (eBin fAdd (eSl (eVar 0) eNoE (eSomeE (eVar 4))) (eArgs fLst (eCons (eSl (eVar 5) eNoE (eSomeE (eVar 6))) (eCons (eSl (eVar 5) (eSomeE (eVar 6)) eNoE) eNil)))) (eSl (eVar 0) (eSomeE (eBin fAdd (eVar 4) (eC (.int 1)))) eNoE)) (eCons (eBin fAdd (eBin fAdd (eSl (eVar 1) eNoE (eSomeE (eVar 4))) (eArgs fLst (eCons (eVar 7) eNil))) (eSl (eVar 1) (eSomeE (eVar 4)) eNoE)) eNil)))))))))
def m__law_inserted : List D → List MO → R D := mOf 4 8 sv__law_inserted
def sv_Index_insert : SV := (sSeq (sExpr (eArgs m_check_bytes (eCons (eVar 1) eNil)))
    (sSeq (sSet 2 (eArgs m_place_of (eCons (eUn (fFldO "Index" "marks") (eVar 0)) (eCons (eVar 1) eNil))))
    (sSeq (sSet 3 (eBin fIx (eUn (fFldO "Index" "blocks") (eVar 0)) (eVar 2)))
    (sSeq (sIf (eTest (eBin fIn (eVar 1) (eVar 3))) (sRaise "BadIndex") sNil)
    (sSeq (sSet 3 (eArgs fSorted (eCons (eBin fAdd (eVar 3) (eArgs fLst (eCons (eVar 1) eNil))) eNil)))
    (sSeq (sSub (eUn (fFldO "Index" "blocks") (eVar 0)) (eVar 2) (eVar 3))
    (sSeq (sIf (eTest (eBin fGt (eArgs fLen (eCons (eVar 3) eNil)) (eUn (fFldO "Index" "size") (eVar 0)))) (sSeq (sSet 4 (eBin fFdiv (eArgs fLen (eCons (eVar 3) eNil)) (eC (.int 2))))
    (sSeq (sSub (eUn (fFldO "Index" "blocks") (eVar 0)) (eVar 2) (eSl (eVar 3) eNoE (eSomeE (eVar 4))))
    (sSeq (sExpr (eMeth ckL fInsert (eUn (fFldO "Index" "blocks") (eVar 0)) (eCons (eBin fAdd (eVar 2) (eC (.int 1))) (eCons (eSl (eVar 3) (eSomeE (eVar 4)) eNoE) eNil))))
    (sExpr (eMeth ckL fInsert (eUn (fFldO "Index" "marks") (eVar 0)) (eCons (eVar 2) (eCons (eArgs m_separator (eCons (eBin fIx (eVar 3) (eBin fSub (eVar 4) (eC (.int 1)))) (eCons (eBin fIx (eVar 3) (eVar 4)) eNil))) eNil))))))) sNil)
    (sRet (eArgs m_place_of (eCons (eUn (fFldO "Index" "marks") (eVar 0)) (eCons (eVar 1) eNil)))))))))))
def m_Index_insert : List D → List MO → R D := mOf 2 5 sv_Index_insert
def sv_Index_remove_k14 : SV := (sSeq (sExpr (eArgs m_check_bytes (eCons (eVar 1) eNil)))
    (sSeq (sSet 2 (eArgs m_place_of (eCons (eUn (fFldO "Index" "marks") (eVar 0)) (eCons (eVar 1) eNil))))
    (sSeq (sIf (eTest (eBin fNotIn (eVar 1) (eBin fIx (eUn (fFldO "Index" "blocks") (eVar 0)) (eVar 2)))) (sRaise "NotFound") sNil)
    (sSeq (sSub (eUn (fFldO "Index" "blocks") (eVar 0)) (eVar 2) (eArgs fLst' (eLcA (eSeq (eBin fIx (eUn (fFldO "Index" "blocks") (eVar 0)) (eVar 2))) (gN 3) [3] (eTest (eBin fNe (eVar 3) (eVar 1))) (eVar 3))))
    (sIf (eAnd (eTest (eBin fEq (eBin fIx (eUn (fFldO "Index" "blocks") (eVar 0)) (eVar 2)) (eArgs fLst eNil))) (eTest (eBin fGt (eArgs fLen (eCons (eUn (fFldO "Index" "blocks") (eVar 0)) eNil)) (eC (.int 1))))) (sSeq (sExpr (eMeth ckL fPop (eUn (fFldO "Index" "blocks") (eVar 0)) (eCons (eVar 2) eNil)))
    (sExpr (eMeth ckL fPop (eUn (fFldO "Index" "marks") (eVar 0)) (eCons (eArgs fMax (eCons (eBin fSub (eVar 2) (eC (.int 1))) (eCons (eC (.int 0)) eNil))) eNil)))) sNil)))))
def m_Index_remove_k14 : List D → List MO → R D := mOf 2 4 sv_Index_remove_k14
def sv__law_change_k14 : SV := (sSeq (sSet 3 (eC .non))
    (sSeq (sSet 4 (eC .non))
    (sSeq (sTry xcls 5 4 (sSet 3 (eIf (eTest (eBin fEq (eVar 1) (eC (.int 0)))) (eMethO "Index" "insert" m_Index_insert (eVar 0) (eCons (eVar 2) eNil)) (eMethO "Index" "remove" m_Index_remove_k14 (eVar 0) (eCons (eVar 2) eNil)))))
    (sRet (eIf (eTest (eBin fIs (eVar 4) (eC .non))) (eVar 3) (eArgs m__law_error (eCons (eVar 4) eNil)))))))
def m__law_change_k14 : List D → List MO → R D := mOf 3 6 sv__law_change_k14
def sv__law_removed : SV := (sSeq (sSet 3 (eArgs fLen (eCons (eArgs fLst' (eLcA (eSeq (eVar 1)) (gN 7) [7] (eTest (eBin fLe (eVar 7) (eVar 2))) (eVar 7))) eNil)))
    (sSeq (sSet 4 (eArgs fLst' (eLcA (eSeq (eBin fIx (eVar 0) (eVar 3))) (gN 6) [6] (eTest (eBin fNe (eVar 6) (eVar 2))) (eVar 6))))
    (sSeq (sIf (eAnd (eTest (eBin fEq (eVar 4) (eArgs fLst eNil))) (eTest (eBin fGt (eArgs fLen (eCons (eVar 0) eNil)) (eC (.int 1))))) (sSeq (sSet 5 (eArgs fMax (eCons (eBin fSub (eVar 3) (eC (.int 1))) (eCons (eC (.int 0)) eNil))))
    (sRet (eArgs fTup (eCons (eBin fAdd (eSl (eVar 0) eNoE (eSomeE (eVar 3))) (eSl (eVar 0) (eSomeE (eBin fAdd (eVar 3) (eC (.int 1)))) eNoE)) (eCons (eBin fAdd (eSl (eVar 1) eNoE (eSomeE (eVar 5))) (eSl (eVar 1) (eSomeE (eBin fAdd (eVar 5) (eC (.int 1)))) eNoE)) eNil))))) sNil)
    (sRet (eArgs fTup (eCons (eBin fAdd (eBin fAdd (eSl (eVar 0) eNoE (eSomeE (eVar 3))) (eArgs fLst (eCons (eVar 4) eNil))) (eSl (eVar 0) (eSomeE (eBin fAdd (eVar 3) (eC (.int 1)))) eNoE)) (eCons (eVar 1) eNil)))))))
def m__law_removed : List D → List MO → R D := mOf 3 8 sv__law_removed
def sv_Index_layout_k14 : SV := (sRet (eArgs fLst' (eLcA (eSeq (eUn (fFldO "Index" "blocks") (eVar 0))) (gN 1) [1] eYes (eArgs fList (eCons (eVar 1) eNil)))))
def m_Index_layout_k14 : List D → List MO → R D := mOf 1 2 sv_Index_layout_k14
def sv_Index_separators_k14 : SV := (sRet (eArgs fList (eCons (eUn (fFldO "Index" "marks") (eVar 0)) eNil)))
def m_Index_separators_k14 : List D → List MO → R D := mOf 1 1 sv_Index_separators_k14
def sv_Index___len__ : SV := (sRet (eArgs fLen (eCons (eArgs fLst' (eLc2A (eSeq (eUn (fFldO "Index" "blocks") (eVar 0))) (gN 1) [1, 2] (eSeq (eVar 1)) [2] (gN 2) eYes (eVar 2))) eNil)))
def m_Index___len__ : List D → List MO → R D := mOf 1 3 sv_Index___len__
def sv_Index_contains_k14 : SV := (sSeq (sExpr (eArgs m_check_bytes (eCons (eVar 1) eNil)))
    (sRet (eBin fIn (eVar 1) (eBin fIx (eUn (fFldO "Index" "blocks") (eVar 0)) (eArgs m_place_of (eCons (eUn (fFldO "Index" "marks") (eVar 0)) (eCons (eVar 1) eNil)))))))
def m_Index_contains_k14 : List D → List MO → R D := mOf 2 2 sv_Index_contains_k14
def sv_Index_find : SV := (sSeq (sIf (eOr (eNot (eTest (eUn (fIsi "tuple") (eVar 1)))) (eTest (eBin fNe (eArgs fLen (eCons (eVar 1) eNil)) (eC (.int 2))))) (sRaise "BadBytes") sNil)
    (sSeq (sExpr (eArgs m_check_bytes (eCons (eBin fIx (eVar 1) (eC (.int 0))) eNil)))
    (sSeq (sIf (eTest (eBin fIsNot (eBin fIx (eVar 1) (eC (.int 1))) (eC .non))) (sExpr (eArgs m_check_bytes (eCons (eBin fIx (eVar 1) (eC (.int 1))) eNil))) sNil)
    (sRet (eArgs fLst' (eLc2A (eSeq (eUn (fFldO "Index" "blocks") (eVar 0))) (gN 2) [2, 3] (eSeq (eVar 2)) [3] (gN 3) (eTest (eArgs m_in_range (eCons (eVar 3) (eCons (eVar 1) eNil)))) (eVar 3)))))))
def m_Index_find : List D → List MO → R D := mOf 2 4 sv_Index_find
def sv__law_emptied_1 : SV := (sSet 5 (eArgs m__law_pick (eCons (eVar 0) (eCons (eArgs fLst (eCons (eVar 4) (eCons (eArgs fSorted (eCons (eVar 4) eNil)) (eCons (eUn fRev (eArgs fSorted (eCons (eVar 4) eNil))) eNil)))) eNil))))
def sv__law_emptied_2b1 : SV := (sExpr (eMethO "Index" "remove" m_Index_remove_k14 (eVar 1) (eCons (eVar 6) eNil)))
def sv__law_emptied_2b2 : SV := (sAsg (gT [2, 3]) (eArgs m__law_removed (eCons (eVar 2) (eCons (eVar 3) (eCons (eVar 6) eNil)))))
def sv__law_emptied_2b3b1 : SV := (sRet (eC (.bl false)))
def sv__law_emptied_2b3 : SV := (sIf (eOr (eTest (eBin fNe (eMethO "Index" "layout" m_Index_layout_k14 (eVar 1) eNil) (eVar 2))) (eTest (eBin fNe (eMethO "Index" "separators" m_Index_separators_k14 (eVar 1) eNil) (eVar 3)))) sv__law_emptied_2b3b1 sNil)
def sv__law_emptied_2 : SV := (sFor (eSeq (eVar 5)) (gN 6) (sSeq sv__law_emptied_2b1
    (sSeq sv__law_emptied_2b2
    sv__law_emptied_2b3)))
def sv__law_emptied_3 : SV := (sRet (eAndV (eBin fEq (eMethO "Index" "layout" m_Index_layout_k14 (eVar 1) eNil) (eArgs fLst (eCons (eArgs fLst eNil) eNil))) (eAndV (eBin fEq (eMethO "Index" "separators" m_Index_separators_k14 (eVar 1) eNil) (eArgs fLst eNil)) (eBin fEq (eLenO "Index" m_Index___len__ (eCons (eVar 1) eNil)) (eC (.int 0))))))
def sv__law_emptied : SV := (sSeq sv__law_emptied_1
    (sSeq sv__law_emptied_2
    sv__law_emptied_3))
def m__law_emptied : List D → List MO → R D := mOf 5 7 sv__law_emptied
def sv_law_k14_1 : SV := (sSet 1 (eArgs m__law_start (eCons (eVar 0) eNil)))
def sv_law_k14_2 : SV := (sSet 2 (eBin fAdd (eC (.int 2)) (eArgs m__law_draw (eCons (eVar 1) (eCons (eC (.int 4)) eNil)))))
def sv_law_k14_3 : SV := (sSet 3 (eMakeO "Index" m_Index___init__ (eCons (eVar 2) eNil)))
def sv_law_k14_4 : SV := (sPar3 6 7 8 (eCons (eArgs fLst (eCons (eArgs fLst eNil) eNil)) (eCons (eArgs fLst eNil) (eCons (eArgs fCell eNil) eNil))))
def sv_law_k14_5b1 : SV := (sSet 5 (eArgs m__law_string (eCons (eVar 1) (eCons (eC (.int 3)) eNil))))
def sv_law_k14_5b2b1 : SV := (sSet 5 (eArgs m__law_pick (eCons (eVar 1) (eCons (eVar 8) eNil))))
def sv_law_k14_5b2 : SV := (sIf (eAnd (eTest (eBin fNe (eVar 8) (eArgs fLst eNil))) (eTest (eBin fEq (eArgs m__law_draw (eCons (eVar 1) (eCons (eC (.int 3)) eNil))) (eC (.int 0))))) sv_law_k14_5b2b1 sNil)
def sv_law_k14_5b3b1b1 : SV := (sAsg (gT [6, 7]) (eArgs m__law_inserted (eCons (eVar 6) (eCons (eVar 7) (eCons (eVar 2) (eCons (eVar 5) eNil))))))
def sv_law_k14_5b3b1b2 : SV := (sExpr (eMeth ckL fAppend (eVar 8) (eCons (eVar 5) eNil)))
def sv_law_k14_5b3b1b3 : SV := (sSet 10 (eArgs fLen (eCons (eArgs fLst' (eLcA (eSeq (eVar 7)) (gN 12) [12] (eTest (eBin fLe (eVar 12) (eVar 5))) (eVar 12))) eNil)))
def sv_law_k14_5b3b1eb1 : SV := (sSet 10 (eC (.str "index")))
def sv_law_k14_5b3b1 : SV := (sIf (eTest (eBin fNotIn (eVar 5) (eVar 8))) (sSeq sv_law_k14_5b3b1b1
    (sSeq sv_law_k14_5b3b1b2
    sv_law_k14_5b3b1b3)) sv_law_k14_5b3b1eb1)
def sv_law_k14_5b3b2b1 : SV := (sRet (eC (.bl false)))
def sv_law_k14_5b3b2 : SV := (sIf (eTest (eBin fNe (eArgs m__law_change_k14 (eCons (eVar 3) (eCons (eC (.int 0)) (eCons (eVar 5) eNil)))) (eVar 10))) sv_law_k14_5b3b2b1 sNil)
def sv_law_k14_5b3eb1b1 : SV := (sRet (eC (.bl false)))
def sv_law_k14_5b3eb1 : SV := (sIf (eTest (eBin fNe (eArgs m__law_change_k14 (eCons (eVar 3) (eCons (eC (.int 1)) (eCons (eVar 5) eNil)))) (eIf (eTest (eBin fIn (eVar 5) (eVar 8))) (eC .non) (eC (.str "none"))))) sv_law_k14_5b3eb1b1 sNil)
def sv_law_k14_5b3eb2b1 : SV := (sAsg (gT [6, 7]) (eArgs m__law_removed (eCons (eVar 6) (eCons (eVar 7) (eCons (eVar 5) eNil)))))
def sv_law_k14_5b3eb2b2 : SV := (sSet 8 (eArgs fCell' (eLcA (eSeq (eVar 8)) (gN 11) [11] (eTest (eBin fNe (eVar 11) (eVar 5))) (eVar 11))))
def sv_law_k14_5b3eb2 : SV := (sIf (eTest (eBin fIn (eVar 5) (eVar 8))) (sSeq sv_law_k14_5b3eb2b1
    sv_law_k14_5b3eb2b2) sNil)
def sv_law_k14_5b3 : SV := (sIf (eTest (eBin fGt (eArgs m__law_draw (eCons (eVar 1) (eCons (eC (.int 4)) eNil))) (eC (.int 0)))) (sSeq sv_law_k14_5b3b1
    sv_law_k14_5b3b2) (sSeq sv_law_k14_5b3eb1
    sv_law_k14_5b3eb2))
def sv_law_k14_5b4b1 : SV := (sRet (eC (.bl false)))
def sv_law_k14_5b4 : SV := (sIf (eOr (eTest (eBin fNe (eMethO "Index" "layout" m_Index_layout_k14 (eVar 3) eNil) (eVar 6))) (eOr (eTest (eBin fNe (eMethO "Index" "separators" m_Index_separators_k14 (eVar 3) eNil) (eVar 7))) (eTest (eBin fNe (eLenO "Index" m_Index___len__ (eCons (eVar 3) eNil)) (eArgs fLen (eCons (eVar 8) eNil)))))) sv_law_k14_5b4b1 sNil)
def sv_law_k14_5 : SV := (sFor (eRange1 (eCons (eC (.int 16)) eNil)) (gN 4) (sSeq sv_law_k14_5b1
    (sSeq sv_law_k14_5b2
    (sSeq sv_law_k14_5b3
    sv_law_k14_5b4))))
def sv_law_k14_6b1 : SV := (sSet 9 (eArgs m_route (eCons (eVar 7) (eCons (eVar 5) eNil))))
def sv_law_k14_6b2b1 : SV := (sRet (eC (.bl false)))
def sv_law_k14_6b2 : SV := (sIf (eOr (eNot (eTest (eArgs m__law_true (eCons (eMethO "Index" "contains" m_Index_contains_k14 (eVar 3) (eCons (eVar 5) eNil)) (eCons (eBin fIn (eVar 5) (eVar 8)) eNil))))) (eTest (eBin fNe (eBin fIn (eVar 5) (eBin fIx (eVar 6) (eVar 9))) (eBin fIn (eVar 5) (eVar 8))))) sv_law_k14_6b2b1 sNil)
def sv_law_k14_6 : SV := (sFor (eSeq (eBin fAdd (eVar 8) (eArgs fLst (eCons (eArgs m__law_string (eCons (eVar 1) (eCons (eC (.int 3)) eNil))) eNil)))) (gN 5) (sSeq sv_law_k14_6b1
    sv_law_k14_6b2))
def sv_law_k14_7b1 : SV := (sRet (eC (.bl false)))
def sv_law_k14_7 : SV := (sIf (eTest (eBin fNe (eMethO "Index" "find" m_Index_find (eVar 3) (eCons (eArgs fTup (eCons (eArgs fTup eNil) (eCons (eC .non) eNil))) eNil)) (eArgs fSorted (eCons (eVar 8) eNil)))) sv_law_k14_7b1 sNil)
def sv_law_k14_8 : SV := (sRet (eArgs m__law_emptied (eCons (eVar 1) (eCons (eVar 3) (eCons (eVar 6) (eCons (eVar 7) (eCons (eVar 8) eNil)))))))
def sv_law_k14 : SV := (sSeq sv_law_k14_1
    (sSeq sv_law_k14_2
    (sSeq sv_law_k14_3
    (sSeq sv_law_k14_4
    (sSeq sv_law_k14_5
    (sSeq sv_law_k14_6
    (sSeq sv_law_k14_7
    sv_law_k14_8)))))))
def m_law_k14 : List D → List MO → R D := mOf 1 13 sv_law_k14
def sv_law_k15_1 : SV := (sSet 1 (eArgs m__law_start (eCons (eVar 0) eNil)))
def sv_law_k15_2 : SV := (sSet 2 (eArgs m__law_good (eCons (eVar 1) eNil)))
def sv_law_k15_3 : SV := (sSet 3 (eArgs fCell (eCons (eArgs m__law_row (eCons (eVar 1) (eCons (eVar 2) eNil))) eNil)))
def sv_law_k15_4b1 : SV := (sExpr (eMeth ckL fAppend (eVar 3) (eCons (eArgs m__law_other (eCons (eVar 1) (eCons (eVar 2) (eCons (eArgs m__law_pick (eCons (eVar 1) (eCons (eVar 3) eNil))) eNil)))) eNil)))
def sv_law_k15_4 : SV := (sFor (eRange1 (eCons (eBin fAdd (eC (.int 2)) (eArgs m__law_draw (eCons (eVar 1) (eCons (eC (.int 9)) eNil)))) eNil)) (gN 4) sv_law_k15_4b1)
def sv_law_k15_5 : SV := (sSet 5 (eMakeO "Index" m_Index___init__ (eCons (eBin fAdd (eC (.int 2)) (eArgs m__law_draw (eCons (eVar 1) (eCons (eC (.int 3)) eNil)))) eNil)))
def sv_law_k15_6 : SV := (sSet 6 (eArgs fCell eNil))
def sv_law_k15_7b1b1 : SV := (sExpr (eMethO "Index" "insert" m_Index_insert (eVar 5) (eCons (eArgs m_encode (eCons (eVar 2) (eCons (eVar 7) eNil))) eNil)))
def sv_law_k15_7b1b2 : SV := (sExpr (eMeth ckL fAppend (eVar 6) (eCons (eVar 7) eNil)))
def sv_law_k15_7b1 : SV := (sIf (eTest (eBin fNotIn (eVar 7) (eVar 6))) (sSeq sv_law_k15_7b1b1
    sv_law_k15_7b1b2) sNil)
def sv_law_k15_7 : SV := (sFor (eSeq (eVar 3)) (gN 7) sv_law_k15_7b1)
def sv_law_k15_8 : SV := (sSet 8 (eArgs fLst' (eLcA (eSeq (eMethO "Index" "find" m_Index_find (eVar 5) (eCons (eArgs fTup (eCons (eArgs fTup eNil) (eCons (eC .non) eNil))) eNil))) (gN 19) [19] eYes (eArgs m_decode (eCons (eVar 2) (eCons (eVar 19) eNil))))))
def sv_law_k15_9b1 : SV := (sRet (eC (.bl false)))
def sv_law_k15_9 : SV := (sIf (eOr (eTest (eBin fNe (eArgs fLen (eCons (eVar 8) eNil)) (eArgs fLen (eCons (eVar 6) eNil)))) (eTest (eBin fNe (eArgs fLst' (eLcA (eSeq (eVar 6)) (gN 7) [7] (eTest (eBin fNotIn (eVar 7) (eVar 8))) (eVar 7))) (eArgs fLst eNil)))) sv_law_k15_9b1 sNil)
def sv_law_k15_10b1 : SV := (sRet (eC (.bl false)))
def sv_law_k15_10 : SV := (sIf (eTest (eBin fNe (eArgs fLst' (eLcA (eRange1 (eCons (eBin fSub (eArgs fLen (eCons (eVar 8) eNil)) (eC (.int 1))) eNil)) (gN 4) [4] (eTest (eBin fNe (eArgs m_compare_rows (eCons (eVar 2) (eCons (eBin fIx (eVar 8) (eVar 4)) (eCons (eBin fIx (eVar 8) (eBin fAdd (eVar 4) (eC (.int 1)))) eNil)))) (eBin fSub (eC (.int 0)) (eC (.int 1))))) (eVar 4))) (eArgs fLst eNil))) sv_law_k15_10b1 sNil)
def sv_law_k15_11 : SV := (sSet 7 (eArgs m__law_pick (eCons (eVar 1) (eCons (eVar 6) eNil))))
def sv_law_k15_12 : SV := (sSet 9 (eSl (eVar 7) eNoE (eSomeE (eArgs m__law_draw (eCons (eVar 1) (eCons (eArgs fLen (eCons (eVar 2) eNil)) eNil))))))
def sv_law_k15_13 : SV := (sSet 10 (eArgs fLst' (eLcA (eSeq (eMethO "Index" "find" m_Index_find (eVar 5) (eCons (eArgs m_row_range (eCons (eVar 2) (eCons (eVar 9) eNil))) eNil))) (gN 19) [19] eYes (eArgs m_decode (eCons (eVar 2) (eCons (eVar 19) eNil))))))
def sv_law_k15_14b1 : SV := (sRet (eC (.bl false)))
def sv_law_k15_14 : SV := (sIf (eTest (eBin fNe (eVar 10) (eArgs fLst' (eLcA (eSeq (eVar 8)) (gN 13) [13] (eTest (eBin fEq (eSl (eVar 13) eNoE (eSomeE (eArgs fLen (eCons (eVar 9) eNil)))) (eVar 9))) (eVar 13))))) sv_law_k15_14b1 sNil)
def sv_law_k15_15 : SV := (sSet 11 (eBin fIx (eVar 2) (eArgs fLen (eCons (eVar 9) eNil))))
def sv_law_k15_16 : SV := (sPar 16 17 (eCons (eBin fIx (eVar 7) (eArgs fLen (eCons (eVar 9) eNil))) (eCons (eArgs m__law_value (eCons (eVar 1) (eCons (eVar 11) eNil))) eNil)))
def sv_law_k15_17 : SV := (sSet 12 (eArgs fLst' (eLcA (eSeq (eMethO "Index" "find" m_Index_find (eVar 5) (eCons (eArgs m_value_bounds (eCons (eVar 2) (eCons (eVar 9) (eCons (eVar 16) (eCons (eVar 17) eNil))))) eNil))) (gN 19) [19] eYes (eArgs m_decode (eCons (eVar 2) (eCons (eVar 19) eNil))))))
def sv_law_k15_18b1 : SV := (sSet 18 (eAndV (eBin fEq (eSl (eVar 13) eNoE (eSomeE (eArgs fLen (eCons (eVar 9) eNil)))) (eVar 9)) (eBin fLe (eArgs m__law_sign (eCons (eVar 11) (eCons (eVar 16) (eCons (eBin fIx (eVar 13) (eArgs fLen (eCons (eVar 9) eNil))) eNil)))) (eC (.int 0)))))
def sv_law_k15_18b2b1 : SV := (sRet (eC (.bl false)))
def sv_law_k15_18b2 : SV := (sIf (eTest (eBin fNe (eBin fIn (eVar 13) (eVar 12)) (eAndV (eVar 18) (eBin fLe (eArgs m__law_sign (eCons (eVar 11) (eCons (eBin fIx (eVar 13) (eArgs fLen (eCons (eVar 9) eNil))) (eCons (eVar 17) eNil)))) (eC (.int 0)))))) sv_law_k15_18b2b1 sNil)
def sv_law_k15_18 : SV := (sFor (eSeq (eVar 8)) (gN 13) (sSeq sv_law_k15_18b1
    sv_law_k15_18b2))
def sv_law_k15_19 : SV := (sSet 14 (eArgs m__law_string (eCons (eVar 1) (eCons (eC (.int 2)) eNil))))
def sv_law_k15_20 : SV := (sSet 15 (eMethO "Index" "find" m_Index_find (eVar 5) (eCons (eArgs m_prefix_range (eCons (eVar 14) eNil)) eNil)))
def sv_law_k15_21 : SV := (sRet (eBin fEq (eVar 15) (eArgs fLst' (eLcA (eSeq (eMethO "Index" "find" m_Index_find (eVar 5) (eCons (eArgs fTup (eCons (eArgs fTup eNil) (eCons (eC .non) eNil))) eNil))) (gN 19) [19] (eTest (eBin fEq (eSl (eVar 19) eNoE (eSomeE (eArgs fLen (eCons (eVar 14) eNil)))) (eVar 14))) (eVar 19)))))
def sv_law_k15 : SV := (sSeq sv_law_k15_1
    (sSeq sv_law_k15_2
    (sSeq sv_law_k15_3
    (sSeq sv_law_k15_4
    (sSeq sv_law_k15_5
    (sSeq sv_law_k15_6
    (sSeq sv_law_k15_7
    (sSeq sv_law_k15_8
    (sSeq sv_law_k15_9
    (sSeq sv_law_k15_10
    (sSeq sv_law_k15_11
    (sSeq sv_law_k15_12
    (sSeq sv_law_k15_13
    (sSeq sv_law_k15_14
    (sSeq sv_law_k15_15
    (sSeq sv_law_k15_16
    (sSeq sv_law_k15_17
    (sSeq sv_law_k15_18
    (sSeq sv_law_k15_19
    (sSeq sv_law_k15_20
    sv_law_k15_21))))))))))))))))))))
def m_law_k15 : List D → List MO → R D := mOf 1 20 sv_law_k15
def sv_law_k16_1 : SV := (sSet 1 (eArgs m__law_start (eCons (eVar 0) eNil)))
def sv_law_k16_2 : SV := (sSet 2 (eBin fIx (eArgs m__law_field (eCons (eVar 1) eNil)) (eC (.int 0))))
def sv_law_k16_3 : SV := (sSet 3 (eArgs m__law_pick (eCons (eVar 1) (eCons (eArgs fLst (eCons (eC (.str "none")) (eCons (eC (.str "first")) (eCons (eC (.str "last")) eNil)))) eNil))))
def sv_law_k16_4 : SV := (sPar 8 9 (eCons (eArgs fTup (eCons (eVar 2) (eCons (eC (.str "asc")) (eCons (eVar 3) eNil)))) (eCons (eArgs fTup (eCons (eVar 2) (eCons (eC (.str "desc")) (eCons (eVar 3) eNil)))) eNil)))
def sv_law_k16_5 : SV := (sSet 4 (eArgs m__law_value (eCons (eVar 1) (eCons (eArgs fTup (eCons (eVar 2) (eCons (eC (.str "asc")) (eCons (eC (.str "none")) eNil)))) eNil))))
def sv_law_k16_6 : SV := (sPar 10 11 (eCons (eArgs m_encode_value (eCons (eVar 8) (eCons (eVar 4) eNil))) (eCons (eArgs m_encode_value (eCons (eVar 9) (eCons (eVar 4) eNil))) eNil)))
def sv_law_k16_7 : SV := (sSet 5 (eIf (eTest (eBin fEq (eVar 3) (eC (.str "none")))) (eC (.int 0)) (eC (.int 1))))
def sv_law_k16_8b1 : SV := (sRet (eC (.bl false)))
def sv_law_k16_8 : SV := (sIf (eOr (eTest (eBin fNe (eSl (eVar 10) eNoE (eSomeE (eVar 5))) (eSl (eVar 11) eNoE (eSomeE (eVar 5))))) (eTest (eBin fNe (eSl (eVar 11) (eSomeE (eVar 5)) eNoE) (eArgs fTuple (eCons (eArgs fLst' (eLcA (eSeq (eSl (eVar 10) (eSomeE (eVar 5)) eNoE)) (gN 13) [13] eYes (eBin fSub (eC (.int 255)) (eVar 13)))) eNil))))) sv_law_k16_8b1 sNil)
def sv_law_k16_9b1 : SV := (sRet (eC (.bl false)))
def sv_law_k16_9 : SV := (sIf (eOr (eTest (eBin fNe (eArgs fLen (eCons (eVar 10) eNil)) (eArgs fLen (eCons (eVar 11) eNil)))) (eTest (eBin fNe (eSl (eVar 10) (eSomeE (eVar 5)) eNoE) (eArgs m_encode_value (eCons (eArgs fTup (eCons (eVar 2) (eCons (eC (.str "asc")) (eCons (eC (.str "none")) eNil)))) (eCons (eVar 4) eNil)))))) sv_law_k16_9b1 sNil)
def sv_law_k16_10b1 : SV := (sRet (eC (.bl false)))
def sv_law_k16_10 : SV := (sIf (eOr (eTest (eBin fIsNot (eArgs m_is_value (eCons (eVar 8) (eCons (eVar 4) eNil))) (eC (.bl true)))) (eNot (eTest (eArgs m__law_true (eCons (eArgs m_is_value (eCons (eVar 9) (eCons (eC .non) eNil))) (eCons (eBin fNe (eVar 3) (eC (.str "none"))) eNil)))))) sv_law_k16_10b1 sNil)
def sv_law_k16_11b1 : SV := (sSet 12 (eArgs m_encode_value (eCons (eVar 8) (eCons (eC .non) eNil))))
def sv_law_k16_11b2b1 : SV := (sRet (eC (.bl false)))
def sv_law_k16_11b2 : SV := (sIf (eOr (eTest (eBin fNe (eVar 12) (eArgs m_encode_value (eCons (eVar 9) (eCons (eC .non) eNil))))) (eTest (eBin fNe (eArgs fLen (eCons (eVar 12) eNil)) (eC (.int 1))))) sv_law_k16_11b2b1 sNil)
def sv_law_k16_11b3b1 : SV := (sRet (eC (.bl false)))
def sv_law_k16_11b3 : SV := (sIf (eOr (eTest (eBin fNe (eBin fLt (eVar 12) (eVar 10)) (eBin fEq (eVar 3) (eC (.str "first"))))) (eOr (eTest (eBin fNe (eBin fLt (eVar 12) (eVar 11)) (eBin fEq (eVar 3) (eC (.str "first"))))) (eTest (eBin fNe (eSl (eVar 10) eNoE (eSomeE (eC (.int 1)))) (eArgs fTup (eCons (eC (.int 1)) eNil)))))) sv_law_k16_11b3b1 sNil)
def sv_law_k16_11b4b1 : SV := (sRet (eC (.bl false)))
def sv_law_k16_11b4 : SV := (sIf (eTest (eBin fNe (eArgs m_compare_rows (eCons (eArgs fTup (eCons (eVar 8) eNil)) (eCons (eArgs fTup (eCons (eC .non) eNil)) (eCons (eArgs fTup (eCons (eVar 4) eNil)) eNil)))) (eArgs m_compare_rows (eCons (eArgs fTup (eCons (eVar 9) eNil)) (eCons (eArgs fTup (eCons (eC .non) eNil)) (eCons (eArgs fTup (eCons (eVar 4) eNil)) eNil)))))) sv_law_k16_11b4b1 sNil)
def sv_law_k16_11 : SV := (sIf (eTest (eBin fNe (eVar 3) (eC (.str "none")))) (sSeq sv_law_k16_11b1
    (sSeq sv_law_k16_11b2
    (sSeq sv_law_k16_11b3
    sv_law_k16_11b4))) sNil)
def sv_law_k16_12 : SV := (sSet 6 (eArgs m__law_value (eCons (eVar 1) (eCons (eArgs fTup (eCons (eVar 2) (eCons (eC (.str "asc")) (eCons (eC (.str "none")) eNil)))) eNil))))
def sv_law_k16_13b1 : SV := (sRet (eC (.bl false)))
def sv_law_k16_13 : SV := (sIf (eTest (eBin fNe (eArgs m_compare_rows (eCons (eArgs fTup (eCons (eVar 8) eNil)) (eCons (eArgs fTup (eCons (eVar 4) eNil)) (eCons (eArgs fTup (eCons (eVar 6) eNil)) eNil)))) (eArgs m_compare_rows (eCons (eArgs fTup (eCons (eVar 9) eNil)) (eCons (eArgs fTup (eCons (eVar 6) eNil)) (eCons (eArgs fTup (eCons (eVar 4) eNil)) eNil)))))) sv_law_k16_13b1 sNil)
def sv_law_k16_14b1 : SV := (sSet 7 (eArgs m__law_most (eCons (eVar 2) eNil)))
def sv_law_k16_14b2 : SV := (sRet (eAndV (eBin fIs (eArgs m_is_value (eCons (eVar 8) (eCons (eVar 7) eNil))) (eC (.bl true))) (eAndV (eBin fIs (eArgs m_is_value (eCons (eVar 8) (eCons (eBin fAdd (eVar 7) (eC (.int 1))) eNil))) (eC (.bl false))) (eBin fIs (eArgs m_is_value (eCons (eVar 8) (eCons (eBin fSub (eC (.int 0)) (eC (.int 1))) eNil))) (eC (.bl false))))))
def sv_law_k16_14 : SV := (sIf (eOr (eTest (eBin fEq (eSl (eVar 2) eNoE (eSomeE (eC (.int 5)))) (eC (.str "fixed")))) (eTest (eBin fEq (eSl (eVar 2) eNoE (eSomeE (eC (.int 6)))) (eC (.str "little"))))) (sSeq sv_law_k16_14b1
    sv_law_k16_14b2) sNil)
def sv_law_k16_15b1 : SV := (sRet (eAndV (eBin fIs (eArgs m_is_value (eCons (eVar 8) (eCons (eBin fSub (eBin fPow (eC (.int 2)) (eC (.int 64))) (eC (.int 1))) eNil))) (eC (.bl true))) (eAndV (eBin fIs (eArgs m_is_value (eCons (eVar 8) (eCons (eBin fPow (eC (.int 2)) (eC (.int 64))) eNil))) (eC (.bl false))) (eBin fIs (eArgs m_is_value (eCons (eVar 8) (eCons (eBin fSub (eC (.int 0)) (eBin fPow (eC (.int 2)) (eC (.int 64)))) eNil))) (eC (.bl false))))))
def sv_law_k16_15 : SV := (sIf (eTest (eBin fEq (eVar 2) (eC (.str "int")))) sv_law_k16_15b1 sNil)
def sv_law_k16_16 : SV := (sSet 7 (eIf (eTest (eBin fEq (eVar 2) (eC (.str "counted")))) (eC (.int 9)) (eC (.int 40))))
def sv_law_k16_17 : SV := (sRet (eAndV (eBin fIs (eArgs m_is_value (eCons (eVar 8) (eCons (eBin fMul (eArgs fTup (eCons (eC (.int 7)) eNil)) (eVar 7)) eNil))) (eC (.bl true))) (eAndV (eBin fIs (eArgs m_is_value (eCons (eVar 8) (eCons (eBin fMul (eArgs fTup (eCons (eC (.int 7)) eNil)) (eBin fAdd (eVar 7) (eC (.int 1)))) eNil))) (eC (.bl false))) (eBin fIs (eArgs m_is_value (eCons (eVar 8) (eCons (eArgs fTup (eCons (eC (.int 256)) eNil)) eNil))) (eC (.bl false))))))
def sv_law_k16 : SV := (sSeq sv_law_k16_1
    (sSeq sv_law_k16_2
    (sSeq sv_law_k16_3
    (sSeq sv_law_k16_4
    (sSeq sv_law_k16_5
    (sSeq sv_law_k16_6
    (sSeq sv_law_k16_7
    (sSeq sv_law_k16_8
    (sSeq sv_law_k16_9
    (sSeq sv_law_k16_10
    (sSeq sv_law_k16_11
    (sSeq sv_law_k16_12
    (sSeq sv_law_k16_13
    (sSeq sv_law_k16_14
    (sSeq sv_law_k16_15
    (sSeq sv_law_k16_16
    sv_law_k16_17))))))))))))))))
def m_law_k16 : List D → List MO → R D := mOf 1 14 sv_law_k16
def sv_format_scheme : SV := (sSeq (sExpr (eArgs m_check_scheme (eCons (eVar 0) eNil)))
    (sRet (eMeth ckS fJoin (eC (.str ",")) (eCons (eArgs fLst' (eLcA (eSeq (eVar 0)) (gN 1) [1] eYes (eMeth ckS fJoin (eC (.str " ")) (eCons (eVar 1) eNil)))) eNil))))
def m_format_scheme : List D → List MO → R D := mOf 1 2 sv_format_scheme
def sv__law_words : SV := (sRet (eMeth ckS fJoin (eC (.str ",")) (eCons (eArgs fLst' (eLcA (eSeq (eVar 0)) (gN 1) [1] eYes (eBin fAdd (eBin fAdd (eBin fAdd (eBin fAdd (eBin fIx (eVar 1) (eC (.int 0))) (eC (.str " "))) (eBin fIx (eVar 1) (eC (.int 1)))) (eC (.str " "))) (eBin fIx (eVar 1) (eC (.int 2)))))) eNil)))
def m__law_words : List D → List MO → R D := mOf 1 2 sv__law_words
def sv_parse_scheme : SV := (sSeq (sIf (eNot (eTest (eUn (fIsi "str") (eVar 0)))) (sRaise "BadText") sNil)
    (sSeq (sSet 1 (eArgs fTuple (eCons (eArgs fLst' (eLcA (eSeq (eMeth ckS fSplit (eVar 0) (eCons (eC (.str ",")) eNil))) (gN 2) [2] eYes (eArgs fTuple (eCons (eMeth ckS fSplit (eVar 2) (eCons (eC (.str " ")) eNil)) eNil)))) eNil)))
    (sSeq (sIf (eNot (eTest (eArgs m_is_scheme (eCons (eVar 1) eNil)))) (sRaise "BadText") sNil)
    (sRet (eVar 1)))))
def m_parse_scheme : List D → List MO → R D := mOf 1 3 sv_parse_scheme
def sv_format_bytes : SV := (sSeq (sExpr (eArgs m_check_bytes (eCons (eVar 0) eNil)))
    (sRet (eMeth ckS fJoin (eC (.str "")) (eCons (eArgs fLst' (eLcA (eSeq (eVar 0)) (gN 1) [1] eYes (eBin fAdd (eBin fIx (eC (.str "0123456789abcdef")) (eBin fFdiv (eVar 1) (eC (.int 16)))) (eBin fIx (eC (.str "0123456789abcdef")) (eBin fMod (eVar 1) (eC (.int 16))))))) eNil))))
def m_format_bytes : List D → List MO → R D := mOf 1 2 sv_format_bytes
def sv__law_hex : SV := (sRet (eMeth ckS fJoin (eC (.str "")) (eCons (eArgs fLst' (eLcA (eSeq (eVar 0)) (gN 1) [1] eYes (eBin fAdd (eBin fIx (eC (.str "0123456789abcdef")) (eBin fFdiv (eVar 1) (eC (.int 16)))) (eBin fIx (eC (.str "0123456789abcdef")) (eBin fMod (eVar 1) (eC (.int 16))))))) eNil)))
def m__law_hex : List D → List MO → R D := mOf 1 2 sv__law_hex
def sv_parse_bytes : SV := (sSeq (sIf (eOr (eNot (eTest (eUn (fIsi "str") (eVar 0)))) (eOr (eTest (eBin fNe (eBin fMod (eArgs fLen (eCons (eVar 0) eNil)) (eC (.int 2))) (eC (.int 0)))) (eNot (eTest (eArgs fAll (eCons (eArgs fLst' (eLcA (eStrI (eVar 0)) (gN 3) [3] eYes (eBin fIn (eVar 3) (eC (.str "0123456789abcdef"))))) eNil)))))) (sRaise "BadText") sNil)
    (sSeq (sSet 1 (eArgs fTuple (eCons (eArgs fLst' (eLcA (eRange3 (eCons (eC (.int 0)) (eCons (eArgs fLen (eCons (eVar 0) eNil)) (eCons (eC (.int 2)) eNil)))) (gN 2) [2] eYes (eBin fAdd (eBin fMul (eMeth ckS fIndexS (eC (.str "0123456789abcdef")) (eCons (eBin fIx (eVar 0) (eVar 2)) eNil)) (eC (.int 16))) (eMeth ckS fIndexS (eC (.str "0123456789abcdef")) (eCons (eBin fIx (eVar 0) (eBin fAdd (eVar 2) (eC (.int 1)))) eNil))))) eNil)))
    (sSeq (sIf (eNot (eTest (eArgs m_is_bytes (eCons (eVar 1) eNil)))) (sRaise "BadText") sNil)
    (sRet (eVar 1)))))
def m_parse_bytes : List D → List MO → R D := mOf 1 4 sv_parse_bytes
def sv__law_parsed : SV := (sSeq (sSet 2 (eC .non))
    (sSeq (sSet 3 (eC .non))
    (sSeq (sTry xcls 4 3 (sSet 2 (eIf (eTest (eBin fEq (eVar 0) (eC (.int 0)))) (eArgs m_parse_scheme (eCons (eVar 1) eNil)) (eArgs m_parse_bytes (eCons (eVar 1) eNil)))))
    (sRet (eIf (eTest (eBin fIs (eVar 3) (eC .non))) (eVar 2) (eArgs m__law_error (eCons (eVar 3) eNil)))))))
def m__law_parsed : List D → List MO → R D := mOf 2 5 sv__law_parsed
def sv__law_rejected : SV := (sSeq (sSet 0 (eArgs fLst (eCons (eC .non) (eCons (eC (.int 5)) (eCons (eC (.str "")) (eCons (eC (.str "int")) (eCons (eC (.str "int asc")) (eCons (eC (.str "int asc none ")) (eCons (eC (.str " int asc none")) (eCons (eC (.str "int  asc none")) (eCons (eC (.str "int asc none,")) (eCons (eC (.str "int asc none, int asc none")) (eCons (eC (.str "int up none")) (eCons (eC (.str "int asc no")) eNil))))))))))))))
    (sSeq (sSet 0 (eBin fAdd (eVar 0) (eArgs fLst (eCons (eC (.str "fixed asc none")) (eCons (eC (.str "fixed5 asc none")) (eCons (eC (.str "fixed0 asc none")) (eCons (eC (.str "INT asc none")) (eCons (eC (.str "int asc none raw")) (eCons (eMeth ckS fJoin (eC (.str ",")) (eCons (eBin fMul (eArgs fLst (eCons (eC (.str "int asc none")) eNil)) (eC (.int 5))) eNil)) (eCons (eC (.str "int,asc,none")) eNil))))))))))
    (sSeq (sIf (eOr (eTest (eBin fNe (eArgs fLst' (eLcA (eSeq (eVar 0)) (gN 1) [1] eYes (eArgs m__law_parsed (eCons (eC (.int 0)) (eCons (eVar 1) eNil))))) (eBin fMul (eArgs fLst (eCons (eC (.str "text")) eNil)) (eC (.int 19))))) (eTest (eBin fNe (eArgs m_parse_scheme (eCons (eC (.str "fixed4 desc last")) eNil)) (eArgs fTup (eCons (eArgs fTup (eCons (eC (.str "fixed4")) (eCons (eC (.str "desc")) (eCons (eC (.str "last")) eNil)))) eNil))))) (sRet (eC (.bl false))) sNil)
    (sSeq (sSet 0 (eArgs fLst (eCons (eC .non) (eCons (eC (.int 5)) (eCons (eC (.str "0")) (eCons (eC (.str "000")) (eCons (eC (.str "0g")) (eCons (eC (.str "FF")) (eCons (eC (.str "0 ")) (eCons (eC (.str "00 00")) (eCons (eC (.str "0x00")) (eCons (eC (.str "-1")) (eCons (eBin fMulS (eC (.str "00")) (eC (.int 401))) eNil)))))))))))))
    (sSeq (sIf (eOr (eTest (eBin fNe (eArgs fLst' (eLcA (eSeq (eVar 0)) (gN 1) [1] eYes (eArgs m__law_parsed (eCons (eC (.int 1)) (eCons (eVar 1) eNil))))) (eBin fMul (eArgs fLst (eCons (eC (.str "text")) eNil)) (eC (.int 11))))) (eOr (eTest (eBin fNe (eArgs m_parse_bytes (eCons (eC (.str "")) eNil)) (eArgs fTup eNil))) (eTest (eBin fNe (eArgs m_format_bytes (eCons (eArgs fTup eNil) eNil)) (eC (.str "")))))) (sRet (eC (.bl false))) sNil)
    (sRet (eAndV (eBin fEq (eArgs m_parse_bytes (eCons (eBin fMulS (eC (.str "00")) (eC (.int 400))) eNil)) (eBin fMul (eArgs fTup (eCons (eC (.int 0)) eNil)) (eC (.int 400)))) (eBin fEq (eArgs m_parse_bytes (eCons (eC (.str "0aff")) eNil)) (eArgs fTup (eCons (eC (.int 10)) (eCons (eC (.int 255)) eNil)))))))))))
def m__law_rejected : List D → List MO → R D := mOf 0 2 sv__law_rejected
def sv_law_k17_1 : SV := (sSet 1 (eArgs m__law_start (eCons (eVar 0) eNil)))
def sv_law_k17_2 : SV := (sSet 2 (eArgs m__law_scheme (eCons (eVar 1) eNil)))
def sv_law_k17_3 : SV := (sSet 3 (eArgs m_format_scheme (eCons (eVar 2) eNil)))
def sv_law_k17_4b1 : SV := (sRet (eC (.bl false)))
def sv_law_k17_4 : SV := (sIf (eOr (eTest (eBin fNe (eVar 3) (eArgs m__law_words (eCons (eVar 2) eNil)))) (eTest (eBin fNe (eArgs m_parse_scheme (eCons (eVar 3) eNil)) (eVar 2)))) sv_law_k17_4b1 sNil)
def sv_law_k17_5 : SV := (sSet 4 (eArgs m__law_string (eCons (eVar 1) (eCons (eC (.int 8)) eNil))))
def sv_law_k17_6 : SV := (sSet 5 (eArgs m_format_bytes (eCons (eVar 4) eNil)))
def sv_law_k17_7b1 : SV := (sRet (eC (.bl false)))
def sv_law_k17_7 : SV := (sIf (eOr (eTest (eBin fNe (eVar 5) (eArgs m__law_hex (eCons (eVar 4) eNil)))) (eTest (eBin fNe (eArgs m_parse_bytes (eCons (eVar 5) eNil)) (eVar 4)))) sv_law_k17_7b1 sNil)
def sv_law_k17_8b1b1 : SV := (sSet 8 (eBin fIx (eArgs fLst (eCons (eVar 3) (eCons (eVar 5) eNil))) (eVar 7)))
def sv_law_k17_8b1b2 : SV := (sSet 9 (eArgs m__law_draw (eCons (eVar 1) (eCons (eBin fAdd (eArgs fLen (eCons (eVar 8) eNil)) (eC (.int 1))) eNil))))
def sv_law_k17_8b1b3 : SV := (sSet 10 (eArgs m__law_pick (eCons (eVar 1) (eCons (eArgs fLst (eCons (eC (.str "0")) (eCons (eC (.str "1")) (eCons (eC (.str "a")) (eCons (eC (.str "f")) (eCons (eC (.str "g")) (eCons (eC (.str " ")) (eCons (eC (.str ",")) (eCons (eC (.str "4")) (eCons (eC (.str "5")) (eCons (eC (.str "")) eNil))))))))))) eNil))))
def sv_law_k17_8b1b4 : SV := (sSet 11 (eArgs m__law_pick (eCons (eVar 1) (eCons (eArgs fLst (eCons (eBin fAdd (eBin fAdd (eSl (eVar 8) eNoE (eSomeE (eVar 9))) (eVar 10)) (eSl (eVar 8) (eSomeE (eBin fAdd (eVar 9) (eC (.int 1)))) eNoE)) (eCons (eBin fAdd (eBin fAdd (eSl (eVar 8) eNoE (eSomeE (eVar 9))) (eVar 10)) (eSl (eVar 8) (eSomeE (eVar 9)) eNoE)) eNil))) eNil))))
def sv_law_k17_8b1b5 : SV := (sSet 12 (eArgs m__law_parsed (eCons (eVar 7) (eCons (eVar 11) eNil))))
def sv_law_k17_8b1b6b1 : SV := (sRet (eC (.bl false)))
def sv_law_k17_8b1b6 : SV := (sIf (eAnd (eTest (eBin fNe (eVar 12) (eC (.str "text")))) (eTest (eBin fNe (eVar 11) (eIf (eTest (eBin fEq (eVar 7) (eC (.int 0)))) (eArgs m__law_words (eCons (eVar 12) eNil)) (eArgs m__law_hex (eCons (eVar 12) eNil)))))) sv_law_k17_8b1b6b1 sNil)
def sv_law_k17_8b1 : SV := (sFor (eSeq (eArgs fLst (eCons (eC (.int 0)) (eCons (eC (.int 1)) eNil)))) (gN 7) (sSeq sv_law_k17_8b1b1
    (sSeq sv_law_k17_8b1b2
    (sSeq sv_law_k17_8b1b3
    (sSeq sv_law_k17_8b1b4
    (sSeq sv_law_k17_8b1b5
    sv_law_k17_8b1b6))))))
def sv_law_k17_8 : SV := (sFor (eRange1 (eCons (eC (.int 8)) eNil)) (gN 6) sv_law_k17_8b1)
def sv_law_k17_9 : SV := (sRet (eArgs m__law_rejected eNil))
def sv_law_k17 : SV := (sSeq sv_law_k17_1
    (sSeq sv_law_k17_2
    (sSeq sv_law_k17_3
    (sSeq sv_law_k17_4
    (sSeq sv_law_k17_5
    (sSeq sv_law_k17_6
    (sSeq sv_law_k17_7
    (sSeq sv_law_k17_8
    sv_law_k17_9))))))))
def m_law_k17 : List D → List MO → R D := mOf 1 13 sv_law_k17
def sv__law_fields : SV := (sSeq (sSet 0 (eArgs fLst (eCons (eArgs fTup (eCons (eC (.str "int")) (eCons (eC (.str "asc")) (eCons (eC (.str "none")) eNil)))) (eCons (eArgs fTup (eCons (eC (.str "fixed1")) (eCons (eC (.str "desc")) (eCons (eC (.str "first")) eNil)))) (eCons (eArgs fTup (eCons (eC (.str "little4")) (eCons (eC (.str "asc")) (eCons (eC (.str "last")) eNil)))) (eCons (eArgs fTup (eCons (eC (.str "raw")) (eCons (eC (.str "asc")) (eCons (eC (.str "none")) eNil)))) (eCons (eArgs fTup (eCons (eC (.str "closed")) (eCons (eC (.str "asc")) (eCons (eC (.str "none")) eNil)))) (eCons (eArgs fTup (eCons (eC (.str "counted")) (eCons (eC (.str "desc")) (eCons (eC (.str "none")) eNil)))) eNil))))))))
    (sSeq (sSet 1 (eArgs fLst (eCons (eC .non) (eCons (eC (.int 5)) (eCons (eArgs fTup eNil) (eCons (eArgs fTup (eCons (eC (.str "int")) (eCons (eC (.str "asc")) eNil))) (eCons (eArgs fLst (eCons (eC (.str "int")) (eCons (eC (.str "asc")) (eCons (eC (.str "none")) eNil)))) (eCons (eArgs fTup (eCons (eC (.str "fixed")) (eCons (eC (.str "asc")) (eCons (eC (.str "none")) eNil)))) (eCons (eArgs fTup (eCons (eC (.str "fixed5")) (eCons (eC (.str "asc")) (eCons (eC (.str "none")) eNil)))) (eCons (eArgs fTup (eCons (eC (.str "little0")) (eCons (eC (.str "asc")) (eCons (eC (.str "none")) eNil)))) (eCons (eArgs fTup (eCons (eC (.str "text")) (eCons (eC (.str "asc")) (eCons (eC (.str "none")) eNil)))) (eCons (eArgs fTup (eCons (eC (.str "int")) (eCons (eC (.str "up")) (eCons (eC (.str "none")) eNil)))) (eCons (eArgs fTup (eCons (eC (.str "int")) (eCons (eC (.str "asc")) (eCons (eC .non) eNil)))) (eCons (eArgs fTup (eCons (eC (.str "int")) (eCons (eC (.str "asc")) (eCons (eC (.str "none")) (eCons (eC (.int 0)) eNil))))) (eCons (eArgs fTup (eCons (eC (.str "asc")) (eCons (eC (.str "int")) (eCons (eC (.str "none")) eNil)))) (eCons (eArgs fTup (eCons (eC (.int 1)) (eCons (eC (.int 2)) (eCons (eC (.int 3)) eNil)))) eNil))))))))))))))))
    (sSeq (sIf (eOr (eTest (eBin fNe (eArgs fLst' (eLcA (eSeq (eVar 0)) (gN 2) [2] eYes (eArgs m_is_field (eCons (eVar 2) eNil)))) (eBin fMul (eArgs fLst (eCons (eC (.bl true)) eNil)) (eC (.int 6))))) (eTest (eBin fNe (eArgs fLst' (eLcA (eSeq (eVar 1)) (gN 2) [2] eYes (eArgs m_is_field (eCons (eVar 2) eNil)))) (eBin fMul (eArgs fLst (eCons (eC (.bl false)) eNil)) (eC (.int 14)))))) (sRet (eC (.bl false))) sNil)
    (sSeq (sIf (eOr (eTest (eBin fIsNot (eArgs m_is_scheme (eCons (eArgs fTuple (eCons (eSl (eVar 0) eNoE (eSomeE (eC (.int 4)))) eNil)) eNil)) (eC (.bl true)))) (eOr (eTest (eBin fIsNot (eArgs m_is_scheme (eCons (eArgs fTuple (eCons (eSl (eVar 0) eNoE (eSomeE (eC (.int 5)))) eNil)) eNil)) (eC (.bl false)))) (eOr (eTest (eBin fIsNot (eArgs m_is_scheme (eCons (eArgs fTup eNil) eNil)) (eC (.bl false)))) (eTest (eBin fIsNot (eArgs m_is_scheme (eCons (eSl (eVar 0) eNoE (eSomeE (eC (.int 1)))) eNil)) (eC (.bl false))))))) (sRet (eC (.bl false))) sNil)
    (sRet (eBin fEq (eArgs fLst' (eLcA (eSeq (eVar 1)) (gN 2) [2] eYes (eArgs m_is_scheme (eCons (eArgs fTup (eCons (eVar 2) eNil)) eNil)))) (eBin fMul (eArgs fLst (eCons (eC (.bl false)) eNil)) (eC (.int 14)))))))))
def m__law_fields : List D → List MO → R D := mOf 0 3 sv__law_fields
def sv__law_values : SV := (sSeq (sSet 0 (eArgs fTup (eCons (eC (.str "int")) (eCons (eC (.str "asc")) (eCons (eC (.str "none")) eNil)))))
    (sSeq (sSet 1 (eArgs fTup (eCons (eC (.str "closed")) (eCons (eC (.str "desc")) (eCons (eC (.str "none")) eNil)))))
    (sSeq (sFor (eSeq (eArgs fLst (eCons (eC .non) (eCons (eC (.str "1")) (eCons (eC (.bl true)) (eCons (eArgs fTup (eCons (eC (.int 1)) eNil)) (eCons (eArgs fLst (eCons (eC (.int 1)) eNil)) (eCons (eBin fPow (eC (.int 2)) (eC (.int 64))) eNil)))))))) (gN 2) (sIf (eOr (eTest (eBin fIsNot (eArgs m_is_value (eCons (eVar 0) (eCons (eVar 2) eNil))) (eC (.bl false)))) (eTest (eBin fIsNot (eArgs m_is_value (eCons (eArgs fTup (eCons (eC (.str "fixed4")) (eCons (eC (.str "asc")) (eCons (eC (.str "none")) eNil)))) (eCons (eVar 2) eNil))) (eC (.bl false))))) (sRet (eC (.bl false))) sNil))
    (sSeq (sFor (eSeq (eArgs fLst (eCons (eC .non) (eCons (eC (.int 1)) (eCons (eArgs fTup (eCons (eC (.str "a")) eNil)) (eCons (eArgs fLst (eCons (eC (.int 1)) eNil)) (eCons (eBin fMul (eArgs fTup (eCons (eC (.int 7)) eNil)) (eC (.int 41))) (eCons (eArgs fTup (eCons (eC (.int 256)) eNil)) (eCons (eC (.str "a")) (eCons (eC (.bl true)) eNil)))))))))) (gN 2) (sIf (eOr (eTest (eBin fIsNot (eArgs m_is_value (eCons (eVar 1) (eCons (eVar 2) eNil))) (eC (.bl false)))) (eTest (eBin fIsNot (eArgs m_is_value (eCons (eArgs fTup (eCons (eC (.str "raw")) (eCons (eC (.str "asc")) (eCons (eC (.str "none")) eNil)))) (eCons (eVar 2) eNil))) (eC (.bl false))))) (sRet (eC (.bl false))) sNil))
    (sRet (eAndV (eBin fIs (eArgs m_is_value (eCons (eArgs fTup (eCons (eC (.str "counted")) (eCons (eC (.str "asc")) (eCons (eC (.str "first")) eNil)))) (eCons (eC .non) eNil))) (eC (.bl true))) (eBin fIs (eArgs m_is_value (eCons (eArgs fTup (eCons (eC (.str "counted")) (eCons (eC (.str "asc")) (eCons (eC (.str "first")) eNil)))) (eCons (eBin fMul (eArgs fTup (eCons (eC (.int 7)) eNil)) (eC (.int 10))) eNil))) (eC (.bl false)))))))))
def m__law_values : List D → List MO → R D := mOf 0 3 sv__law_values
def sv__law_call : SV := (sSeq (sIf (eTest (eBin fEq (eVar 0) (eC (.int 0)))) (sRet (eArgs m_successor (eCons (eVar 1) eNil))) sNil)
    (sSeq (sIf (eTest (eBin fEq (eVar 0) (eC (.int 1)))) (sRet (eArgs m_prefix_end (eCons (eVar 1) eNil))) sNil)
    (sSeq (sIf (eTest (eBin fEq (eVar 0) (eC (.int 2)))) (sRet (eArgs m_prefix_range (eCons (eVar 1) eNil))) sNil)
    (sSeq (sIf (eTest (eBin fEq (eVar 0) (eC (.int 3)))) (sRet (eArgs m_format_bytes (eCons (eVar 1) eNil))) sNil)
    (sSeq (sIf (eTest (eBin fEq (eVar 0) (eC (.int 4)))) (sRet (eArgs m_separator (eCons (eVar 1) (eCons (eVar 2) eNil)))) sNil)
    (sSeq (sIf (eTest (eBin fEq (eVar 0) (eC (.int 5)))) (sRet (eArgs m_between (eCons (eVar 1) (eCons (eVar 2) eNil)))) sNil)
    (sSeq (sIf (eTest (eBin fEq (eVar 0) (eC (.int 6)))) (sRet (eArgs m_encode (eCons (eVar 1) (eCons (eVar 2) eNil)))) sNil)
    (sSeq (sIf (eTest (eBin fEq (eVar 0) (eC (.int 7)))) (sRet (eArgs m_decode (eCons (eVar 1) (eCons (eVar 2) eNil)))) sNil)
    (sSeq (sIf (eTest (eBin fEq (eVar 0) (eC (.int 8)))) (sRet (eArgs m_keeps_order (eCons (eVar 1) eNil))) sNil)
    (sSeq (sIf (eTest (eBin fEq (eVar 0) (eC (.int 9)))) (sRet (eArgs m_order_witness (eCons (eVar 1) eNil))) sNil)
    (sSeq (sIf (eTest (eBin fEq (eVar 0) (eC (.int 10)))) (sRet (eArgs m_is_decodable (eCons (eVar 1) eNil))) sNil)
    (sSeq (sIf (eTest (eBin fEq (eVar 0) (eC (.int 11)))) (sRet (eArgs m_decode_witness (eCons (eVar 1) eNil))) sNil)
    (sRet (eIf (eTest (eBin fEq (eVar 0) (eC (.int 12)))) (eArgs m_format_scheme (eCons (eVar 1) eNil)) (eArgs m_compare_rows (eCons (eVar 1) (eCons (eVar 2) (eCons (eVar 2) eNil))))))))))))))))))
def m__law_call : List D → List MO → R D := mOf 3 3 sv__law_call
def sv__law_asked : SV := (sSeq (sSet 3 (eC .non))
    (sSeq (sTry xcls 4 3 (sExpr (eArgs m__law_call (eCons (eVar 0) (eCons (eVar 1) (eCons (eVar 2) eNil))))))
    (sRet (eIf (eTest (eBin fIs (eVar 3) (eC .non))) (eC (.str "done")) (eArgs m__law_error (eCons (eVar 3) eNil))))))
def m__law_asked : List D → List MO → R D := mOf 3 5 sv__law_asked
def sv_law_k18_1 : SV := (sSet 1 (eArgs m__law_start (eCons (eVar 0) eNil)))
def sv_law_k18_2b1 : SV := (sRet (eC (.bl false)))
def sv_law_k18_2 : SV := (sIf (eOr (eNot (eTest (eArgs m__law_fields eNil))) (eNot (eTest (eArgs m__law_values eNil)))) sv_law_k18_2b1 sNil)
def sv_law_k18_3 : SV := (sSet 2 (eArgs fLst (eCons (eC .non) (eCons (eC (.int 5)) (eCons (eArgs fLst (eCons (eC (.int 1)) eNil)) (eCons (eArgs fTup (eCons (eC (.int 256)) eNil)) (eCons (eArgs fTup (eCons (eBin fSub (eC (.int 0)) (eC (.int 1))) eNil)) (eCons (eArgs fTup (eCons (eC (.bl true)) eNil)) (eCons (eArgs fTup (eCons (eC (.str "a")) eNil)) (eCons (eArgs fTup (eCons (eC .non) eNil)) (eCons (eBin fMul (eArgs fTup (eCons (eC (.int 0)) eNil)) (eC (.int 401))) (eCons (eC (.str "00")) eNil))))))))))))
def sv_law_k18_4b1b1 : SV := (sRet (eC (.bl false)))
def sv_law_k18_4b1 : SV := (sIf (eOr (eTest (eBin fNe (eArgs fLst' (eLcA (eRange1 (eCons (eC (.int 6)) eNil)) (gN 7) [7] eYes (eArgs m__law_asked (eCons (eVar 7) (eCons (eVar 3) (eCons (eArgs fTup (eCons (eC (.int 5)) eNil)) eNil)))))) (eBin fMul (eArgs fLst (eCons (eC (.str "bytes")) eNil)) (eC (.int 6))))) (eTest (eBin fNe (eArgs fLst' (eLcA (eSeq (eArgs fTup (eCons (eC (.int 4)) (eCons (eC (.int 5)) eNil)))) (gN 7) [7] eYes (eArgs m__law_asked (eCons (eVar 7) (eCons (eArgs fTup (eCons (eC (.int 5)) eNil)) (eCons (eVar 3) eNil)))))) (eBin fMul (eArgs fLst (eCons (eC (.str "bytes")) eNil)) (eC (.int 2)))))) sv_law_k18_4b1b1 sNil)
def sv_law_k18_4b2b1 : SV := (sRet (eC (.bl false)))
def sv_law_k18_4b2 : SV := (sIf (eTest (eBin fIsNot (eArgs m_is_bytes (eCons (eVar 3) eNil)) (eC (.bl false)))) sv_law_k18_4b2b1 sNil)
def sv_law_k18_4 : SV := (sFor (eSeq (eVar 2)) (gN 3) (sSeq sv_law_k18_4b1
    sv_law_k18_4b2))
def sv_law_k18_5 : SV := (sSet 4 (eArgs m__law_draw (eCons (eVar 1) (eCons (eC (.int 256)) eNil))))
def sv_law_k18_6b1 : SV := (sRet (eC (.bl false)))
def sv_law_k18_6 : SV := (sIf (eOr (eTest (eBin fNe (eArgs fLst' (eLcA (eSeq (eArgs fTup (eCons (eC (.int 4)) (eCons (eC (.int 5)) eNil)))) (gN 7) [7] eYes (eArgs m__law_asked (eCons (eVar 7) (eCons (eArgs fTup (eCons (eVar 4) eNil)) (eCons (eArgs fTup (eCons (eVar 4) eNil)) eNil)))))) (eBin fMul (eArgs fLst (eCons (eC (.str "bytes")) eNil)) (eC (.int 2))))) (eTest (eBin fNe (eArgs fLst' (eLcA (eSeq (eArgs fTup (eCons (eC (.int 4)) (eCons (eC (.int 5)) eNil)))) (gN 7) [7] eYes (eArgs m__law_asked (eCons (eVar 7) (eCons (eArgs fTup (eCons (eVar 4) (eCons (eC (.int 1)) eNil))) (eCons (eArgs fTup (eCons (eVar 4) eNil)) eNil)))))) (eBin fMul (eArgs fLst (eCons (eC (.str "bytes")) eNil)) (eC (.int 2)))))) sv_law_k18_6b1 sNil)
def sv_law_k18_7b1 : SV := (sRet (eC (.bl false)))
def sv_law_k18_7 : SV := (sIf (eOr (eTest (eBin fNe (eArgs m__law_asked (eCons (eC (.int 5)) (eCons (eArgs fTup (eCons (eVar 4) eNil)) (eCons (eArgs fTup (eCons (eVar 4) (eCons (eC (.int 0)) eNil))) eNil)))) (eC (.str "none")))) (eOr (eTest (eBin fNe (eArgs m__law_asked (eCons (eC (.int 5)) (eCons (eArgs fTup eNil) (eCons (eArgs fTup (eCons (eC (.int 0)) eNil)) eNil)))) (eC (.str "none")))) (eTest (eBin fIsNot (eArgs m_is_bytes (eCons (eBin fMul (eArgs fTup (eCons (eC (.int 0)) eNil)) (eC (.int 400))) eNil)) (eC (.bl true)))))) sv_law_k18_7b1 sNil)
def sv_law_k18_8b1b1 : SV := (sRet (eC (.bl false)))
def sv_law_k18_8b1 : SV := (sIf (eTest (eBin fNe (eArgs fLst' (eLcA (eRange2 (eCons (eC (.int 6)) (eCons (eC (.int 14)) eNil))) (gN 7) [7] eYes (eArgs m__law_asked (eCons (eVar 7) (eCons (eVar 3) (eCons (eC .non) eNil)))))) (eBin fMul (eArgs fLst (eCons (eC (.str "scheme")) eNil)) (eC (.int 8))))) sv_law_k18_8b1b1 sNil)
def sv_law_k18_8 : SV := (sFor (eSeq (eArgs fLst (eCons (eC .non) (eCons (eC (.int 5)) (eCons (eArgs fTup eNil) (eCons (eArgs fLst (eCons (eArgs fTup (eCons (eC (.str "int")) (eCons (eC (.str "asc")) (eCons (eC (.str "none")) eNil)))) eNil)) (eCons (eArgs fTup (eCons (eArgs fTup (eCons (eC (.str "int")) (eCons (eC (.str "asc")) eNil))) eNil)) (eCons (eBin fMul (eArgs fTup (eCons (eArgs fTup (eCons (eC (.str "int")) (eCons (eC (.str "asc")) (eCons (eC (.str "none")) eNil)))) eNil)) (eC (.int 5))) eNil)))))))) (gN 3) sv_law_k18_8b1)
def sv_law_k18_9 : SV := (sSet 5 (eArgs fTup (eCons (eArgs fTup (eCons (eC (.str "int")) (eCons (eC (.str "asc")) (eCons (eC (.str "none")) eNil)))) (eCons (eArgs fTup (eCons (eC (.str "closed")) (eCons (eC (.str "desc")) (eCons (eC (.str "last")) eNil)))) eNil))))
def sv_law_k18_10b1b1 : SV := (sRet (eC (.bl false)))
def sv_law_k18_10b1 : SV := (sIf (eOr (eTest (eBin fNe (eArgs fLst' (eLcA (eSeq (eArgs fTup (eCons (eC (.int 6)) (eCons (eC (.int 13)) eNil)))) (gN 7) [7] eYes (eArgs m__law_asked (eCons (eVar 7) (eCons (eVar 5) (eCons (eVar 3) eNil)))))) (eBin fMul (eArgs fLst (eCons (eC (.str "row")) eNil)) (eC (.int 2))))) (eTest (eBin fIsNot (eArgs m_is_row (eCons (eVar 5) (eCons (eVar 3) eNil))) (eC (.bl false))))) sv_law_k18_10b1b1 sNil)
def sv_law_k18_10 : SV := (sFor (eSeq (eArgs fLst (eCons (eC .non) (eCons (eC (.int 5)) (eCons (eArgs fTup eNil) (eCons (eArgs fTup (eCons (eC (.int 1)) eNil)) (eCons (eArgs fTup (eCons (eC (.int 1)) (eCons (eArgs fTup (eCons (eC (.int 7)) eNil)) (eCons (eC (.int 2)) eNil)))) (eCons (eArgs fLst (eCons (eC (.int 1)) (eCons (eArgs fTup (eCons (eC (.int 7)) eNil)) eNil))) (eCons (eArgs fTup (eCons (eC (.int 1)) (eCons (eC (.int 2)) eNil))) (eCons (eArgs fTup (eCons (eArgs fTup (eCons (eC (.int 7)) eNil)) (eCons (eC (.int 1)) eNil))) (eCons (eArgs fTup (eCons (eC .non) (eCons (eArgs fTup (eCons (eC (.int 7)) eNil)) eNil))) (eCons (eArgs fTup (eCons (eC (.bl true)) (eCons (eArgs fTup (eCons (eC (.int 7)) eNil)) eNil))) (eCons (eArgs fTup (eCons (eC (.int 1)) (eCons (eArgs fTup (eCons (eC (.int 300)) eNil)) eNil))) (eCons (eArgs fTup (eCons (eC (.int 1)) (eCons (eC (.str "a")) eNil))) eNil)))))))))))))) (gN 3) sv_law_k18_10b1)
def sv_law_k18_11b1b1 : SV := (sRet (eC (.bl false)))
def sv_law_k18_11b1 : SV := (sIf (eTest (eBin fNe (eArgs m__law_asked (eCons (eC (.int 7)) (eCons (eVar 5) (eCons (eVar 3) eNil)))) (eC (.str "bytes")))) sv_law_k18_11b1b1 sNil)
def sv_law_k18_11 : SV := (sFor (eSeq (eArgs fLst (eCons (eC .non) (eCons (eC (.int 5)) (eCons (eArgs fTup eNil) (eCons (eArgs fTup (eCons (eC (.int 300)) eNil)) (eCons (eArgs fTup (eCons (eC (.int 128)) eNil)) (eCons (eArgs fTup (eCons (eC (.int 128)) (eCons (eC (.int 3)) eNil))) (eCons (eArgs fLst (eCons (eC (.int 128)) (eCons (eC (.int 2)) eNil))) (eCons (eArgs fTup (eCons (eC (.int 128)) (eCons (eC (.int 2)) (eCons (eC (.int 0)) eNil)))) (eCons (eArgs fTup (eCons (eC (.int 129)) (eCons (eC (.int 0)) (eCons (eC (.int 2)) eNil)))) (eCons (eArgs fTup (eCons (eC (.int 130)) (eCons (eC (.int 0)) (eCons (eC (.int 5)) (eCons (eC (.int 2)) eNil))))) (eCons (eBin fAdd (eBin fAdd (eArgs fTup (eCons (eC (.int 137)) eNil)) (eBin fMul (eArgs fTup (eCons (eC (.int 1)) eNil)) (eC (.int 9)))) (eArgs fTup (eCons (eC (.int 2)) eNil))) eNil))))))))))))) (gN 3) sv_law_k18_11b1)
def sv_law_k18_12 : SV := (sSet 6 (eArgs fTup (eCons (eArgs fTup (eCons (eC (.str "raw")) (eCons (eC (.str "asc")) (eCons (eC (.str "none")) eNil)))) (eCons (eArgs fTup (eCons (eC (.str "int")) (eCons (eC (.str "asc")) (eCons (eC (.str "none")) eNil)))) eNil))))
def sv_law_k18_13 : SV := (sRet (eAndV (eBin fEq (eArgs m__law_asked (eCons (eC (.int 7)) (eCons (eVar 6) (eCons (eC .non) eNil)))) (eC (.str "scheme"))) (eAndV (eBin fEq (eArgs m_decode (eCons (eVar 5) (eCons (eArgs fTup (eCons (eC (.int 128)) (eCons (eC (.int 2)) eNil))) eNil))) (eArgs fTup (eCons (eC (.int 0)) (eCons (eC .non) eNil)))) (eBin fEq (eArgs m_successor (eCons (eBin fMul (eArgs fTup (eCons (eC (.int 0)) eNil)) (eC (.int 399))) eNil)) (eBin fMul (eArgs fTup (eCons (eC (.int 0)) eNil)) (eC (.int 400)))))))
def sv_law_k18 : SV := (sSeq sv_law_k18_1
    (sSeq sv_law_k18_2
    (sSeq sv_law_k18_3
    (sSeq sv_law_k18_4
    (sSeq sv_law_k18_5
    (sSeq sv_law_k18_6
    (sSeq sv_law_k18_7
    (sSeq sv_law_k18_8
    (sSeq sv_law_k18_9
    (sSeq sv_law_k18_10
    (sSeq sv_law_k18_11
    (sSeq sv_law_k18_12
    sv_law_k18_13))))))))))))
def m_law_k18 : List D → List MO → R D := mOf 1 8 sv_law_k18
def sv__law_ranges : SV := (sSeq (sSet 5 (eC .non))
    (sSeq (sTry xcls 6 5 (sIf (eTest (eBin fEq (eVar 0) (eC (.int 0)))) (sExpr (eArgs m_row_range (eCons (eVar 1) (eCons (eVar 2) eNil)))) (sIf (eTest (eBin fEq (eVar 0) (eC (.int 1)))) (sExpr (eArgs m_starts_with (eCons (eVar 1) (eCons (eVar 2) (eCons (eVar 3) eNil))))) (sExpr (eArgs m_value_bounds (eCons (eVar 1) (eCons (eVar 2) (eCons (eVar 3) (eCons (eVar 4) eNil)))))))))
    (sRet (eIf (eTest (eBin fIs (eVar 5) (eC .non))) (eC (.str "done")) (eArgs m__law_error (eCons (eVar 5) eNil))))))
def m__law_ranges : List D → List MO → R D := mOf 5 7 sv__law_ranges
def sv__law_splits : SV := (sSeq (sSet 4 (eC .non))
    (sSeq (sTry xcls 5 4 (sIf (eTest (eBin fEq (eVar 0) (eC (.int 0)))) (sExpr (eArgs m_separators (eCons (eVar 1) (eCons (eVar 2) eNil)))) (sIf (eTest (eBin fEq (eVar 0) (eC (.int 1)))) (sExpr (eArgs m_saved (eCons (eVar 1) (eCons (eVar 2) eNil)))) (sIf (eTest (eBin fEq (eVar 0) (eC (.int 2)))) (sExpr (eArgs m_are_separators (eCons (eVar 1) (eCons (eVar 2) (eCons (eVar 3) eNil))))) (sExpr (eArgs m_route (eCons (eVar 1) (eCons (eVar 3) eNil))))))))
    (sRet (eIf (eTest (eBin fIs (eVar 4) (eC .non))) (eC (.str "done")) (eArgs m__law_error (eCons (eVar 4) eNil))))))
def m__law_splits : List D → List MO → R D := mOf 4 6 sv__law_splits
def sv_Index_remove_k19 : SV := (sSeq (sExpr (eArgs m_check_bytes (eCons (eVar 1) eNil)))
    (sSeq (sSet 2 (eArgs m_place_of (eCons (eUn (fFldO "Index" "marks") (eVar 0)) (eCons (eVar 1) eNil))))
    (sSeq (sIf (eTest (eBin fNotIn (eVar 1) (eBin fIx (eUn (fFldO "Index" "blocks") (eVar 0)) (eVar 2)))) (sRaise "NotFound") sNil)
    (sSeq (sSub (eUn (fFldO "Index" "blocks") (eVar 0)) (eVar 2) (eArgs fLst' (eLcA (eSeq (eBin fIx (eUn (fFldO "Index" "blocks") (eVar 0)) (eVar 2))) (gN 3) [3] (eTest (eBin fNe (eVar 3) (eVar 1))) (eVar 3))))
    (sIf (eAnd (eTest (eBin fEq (eBin fIx (eUn (fFldO "Index" "blocks") (eVar 0)) (eVar 2)) (eArgs fLst eNil))) (eTest (eBin fGt (eArgs fLen (eCons (eUn (fFldO "Index" "blocks") (eVar 0)) eNil)) (eC (.int 1))))) (sSeq (sExpr (eMeth ckL fPop (eUn (fFldO "Index" "blocks") (eVar 0)) (eCons (eVar 2) eNil)))
    (sExpr (eMeth ckL fPop (eUn (fFldO "Index" "marks") (eVar 0)) (eCons (eArgs fMax (eCons (eBin fSub (eVar 2) (eC (.int 1))) (eCons (eC (.int 0)) eNil))) eNil)))) sNil)))))
def m_Index_remove_k19 : List D → List MO → R D := mOf 2 4 sv_Index_remove_k19
def sv_Index_contains_k19 : SV := (sSeq (sExpr (eArgs m_check_bytes (eCons (eVar 1) eNil)))
    (sRet (eBin fIn (eVar 1) (eBin fIx (eUn (fFldO "Index" "blocks") (eVar 0)) (eArgs m_place_of (eCons (eUn (fFldO "Index" "marks") (eVar 0)) (eCons (eVar 1) eNil)))))))
def m_Index_contains_k19 : List D → List MO → R D := mOf 2 2 sv_Index_contains_k19
def sv__law_change_k19 : SV := (sSeq (sSet 3 (eC .non))
    (sSeq (sTry xcls 4 3 (sIf (eTest (eBin fEq (eVar 1) (eC (.int 0)))) (sExpr (eMethO "Index" "insert" m_Index_insert (eVar 0) (eCons (eVar 2) eNil))) (sIf (eTest (eBin fEq (eVar 1) (eC (.int 1)))) (sExpr (eMethO "Index" "remove" m_Index_remove_k19 (eVar 0) (eCons (eVar 2) eNil))) (sIf (eTest (eBin fEq (eVar 1) (eC (.int 2)))) (sExpr (eMethO "Index" "contains" m_Index_contains_k19 (eVar 0) (eCons (eVar 2) eNil))) (sIf (eTest (eBin fEq (eVar 1) (eC (.int 3)))) (sExpr (eMethO "Index" "find" m_Index_find (eVar 0) (eCons (eVar 2) eNil))) (sExpr (eMakeO "Index" m_Index___init__ (eCons (eVar 2) eNil))))))))
    (sRet (eIf (eTest (eBin fIs (eVar 3) (eC .non))) (eC (.str "done")) (eArgs m__law_error (eCons (eVar 3) eNil))))))
def m__law_change_k19 : List D → List MO → R D := mOf 3 5 sv__law_change_k19
def sv_Index_layout_k19 : SV := (sRet (eArgs fLst' (eLcA (eSeq (eUn (fFldO "Index" "blocks") (eVar 0))) (gN 1) [1] eYes (eArgs fListC (eCons (eVar 1) eNil)))))
def m_Index_layout_k19 : List D → List MO → R D := mOf 1 2 sv_Index_layout_k19
def sv_Index_separators_k19 : SV := (sRet (eArgs fListC (eCons (eUn (fFldO "Index" "marks") (eVar 0)) eNil)))
def m_Index_separators_k19 : List D → List MO → R D := mOf 1 1 sv_Index_separators_k19
def sv__law_index_1b1 : SV := (sRet (eC (.bl false)))
def sv__law_index_1 : SV := (sIf (eOr (eTest (eBin fNe (eArgs fLst' (eLcA (eSeq (eArgs fTup (eCons (eC .non) (eCons (eC (.int 1)) (eCons (eC (.int 21)) (eCons (eC (.bl true)) (eCons (eC (.str "2")) eNil))))))) (gN 1) [1] eYes (eArgs m__law_change_k19 (eCons (eC .non) (eCons (eC (.int 4)) (eCons (eVar 1) eNil)))))) (eBin fMul (eArgs fLst (eCons (eC (.str "index")) eNil)) (eC (.int 5))))) (eTest (eBin fNe (eArgs fLst' (eLcA (eSeq (eArgs fTup (eCons (eC (.int 2)) (eCons (eC (.int 20)) eNil)))) (gN 2) [2] eYes (eArgs m__law_change_k19 (eCons (eC .non) (eCons (eC (.int 4)) (eCons (eVar 2) eNil)))))) (eBin fMul (eArgs fLst (eCons (eC (.str "done")) eNil)) (eC (.int 2)))))) sv__law_index_1b1 sNil)
def sv__law_index_2 : SV := (sSet 0 (eMakeO "Index" m_Index___init__ (eCons (eC (.int 2)) eNil)))
def sv__law_index_3b1b1 : SV := (sRet (eC (.bl false)))
def sv__law_index_3b1 : SV := (sIf (eTest (eBin fNe (eArgs fLst' (eLcA (eRange1 (eCons (eC (.int 3)) eNil)) (gN 3) [3] eYes (eArgs m__law_change_k19 (eCons (eVar 0) (eCons (eVar 3) (eCons (eVar 1) eNil)))))) (eBin fMul (eArgs fLst (eCons (eC (.str "bytes")) eNil)) (eC (.int 3))))) sv__law_index_3b1b1 sNil)
def sv__law_index_3 : SV := (sFor (eSeq (eArgs fLst (eCons (eC .non) (eCons (eC (.int 5)) (eCons (eArgs fLst (eCons (eC (.int 1)) eNil)) (eCons (eArgs fTup (eCons (eC (.int 256)) eNil)) (eCons (eArgs fTup (eCons (eC (.bl true)) eNil)) eNil))))))) (gN 1) sv__law_index_3b1)
def sv__law_index_4b1b1 : SV := (sRet (eC (.bl false)))
def sv__law_index_4b1 : SV := (sIf (eTest (eBin fNe (eArgs m__law_change_k19 (eCons (eVar 0) (eCons (eC (.int 3)) (eCons (eVar 1) eNil)))) (eC (.str "bytes")))) sv__law_index_4b1b1 sNil)
def sv__law_index_4 : SV := (sFor (eSeq (eArgs fLst (eCons (eC .non) (eCons (eC (.int 5)) (eCons (eArgs fTup eNil) (eCons (eArgs fTup (eCons (eArgs fTup (eCons (eC (.int 1)) eNil)) eNil)) (eCons (eArgs fLst (eCons (eArgs fTup (eCons (eC (.int 1)) eNil)) (eCons (eArgs fTup (eCons (eC (.int 2)) eNil)) eNil))) (eCons (eArgs fTup (eCons (eArgs fTup (eCons (eC (.int 1)) eNil)) (eCons (eC (.int 5)) eNil))) (eCons (eArgs fTup (eCons (eC (.int 5)) (eCons (eArgs fTup (eCons (eC (.int 1)) eNil)) eNil))) (eCons (eArgs fTup (eCons (eC .non) (eCons (eArgs fTup (eCons (eC (.int 1)) eNil)) eNil))) (eCons (eArgs fTup (eCons (eArgs fTup (eCons (eC (.int 1)) eNil)) (eCons (eArgs fTup (eCons (eC (.int 2)) eNil)) (eCons (eArgs fTup (eCons (eC (.int 3)) eNil)) eNil)))) (eCons (eArgs fTup (eCons (eArgs fTup (eCons (eC (.int 256)) eNil)) (eCons (eC .non) eNil))) eNil)))))))))))) (gN 1) sv__law_index_4b1)
def sv__law_index_5b1 : SV := (sRet (eC (.bl false)))
def sv__law_index_5 : SV := (sIf (eOr (eTest (eBin fNe (eArgs m__law_change_k19 (eCons (eVar 0) (eCons (eC (.int 1)) (eCons (eArgs fTup (eCons (eC (.int 1)) eNil)) eNil)))) (eC (.str "none")))) (eOr (eTest (eBin fNe (eMethO "Index" "insert" m_Index_insert (eVar 0) (eCons (eArgs fTup (eCons (eC (.int 1)) eNil)) eNil)) (eC (.int 0)))) (eOr (eTest (eBin fNe (eArgs m__law_change_k19 (eCons (eVar 0) (eCons (eC (.int 0)) (eCons (eArgs fTup (eCons (eC (.int 1)) eNil)) eNil)))) (eC (.str "index")))) (eTest (eBin fIsNot (eMethO "Index" "contains" m_Index_contains_k19 (eVar 0) (eCons (eArgs fTup (eCons (eC (.int 2)) eNil)) eNil)) (eC (.bl false))))))) sv__law_index_5b1 sNil)
def sv__law_index_6 : SV := (sExpr (eMeth ckL fAppend (eBin fIx (eMethO "Index" "layout" m_Index_layout_k19 (eVar 0) eNil) (eC (.int 0))) (eCons (eArgs fTup (eCons (eC (.int 9)) eNil)) eNil)))
def sv__law_index_7 : SV := (sExpr (eMeth ckL fAppend (eMethO "Index" "separators" m_Index_separators_k19 (eVar 0) eNil) (eCons (eArgs fTup (eCons (eC (.int 9)) eNil)) eNil)))
def sv__law_index_8 : SV := (sRet (eAndV (eBin fEqD (eMethO "Index" "layout" m_Index_layout_k19 (eVar 0) eNil) (eArgs fLst (eCons (eArgs fLst (eCons (eArgs fTup (eCons (eC (.int 1)) eNil)) eNil)) eNil))) (eAndV (eBin fEq (eMethO "Index" "separators" m_Index_separators_k19 (eVar 0) eNil) (eArgs fLst eNil)) (eAndV (eBin fEq (eLenO "Index" m_Index___len__ (eCons (eVar 0) eNil)) (eC (.int 1))) (eBin fEq (eMethO "Index" "find" m_Index_find (eVar 0) (eCons (eArgs fTup (eCons (eArgs fTup (eCons (eC (.int 2)) eNil)) (eCons (eArgs fTup (eCons (eC (.int 1)) eNil)) eNil))) eNil)) (eArgs fLst eNil))))))
def sv__law_index : SV := (sSeq sv__law_index_1
    (sSeq sv__law_index_2
    (sSeq sv__law_index_3
    (sSeq sv__law_index_4
    (sSeq sv__law_index_5
    (sSeq sv__law_index_6
    (sSeq sv__law_index_7
    sv__law_index_8)))))))
def m__law_index : List D → List MO → R D := mOf 0 4 sv__law_index
def sv__law_lists_1 : SV := (sSet 1 (eArgs fLst (eCons (eC .non) (eCons (eC (.int 5)) (eCons (eArgs fTup (eCons (eArgs fTup (eCons (eC (.int 1)) eNil)) (eCons (eArgs fTup (eCons (eC (.int 2)) eNil)) eNil))) (eCons (eArgs fLst (eCons (eC (.int 1)) eNil)) (eCons (eArgs fLst (eCons (eArgs fTup (eCons (eC (.int 1)) eNil)) (eCons (eArgs fTup (eCons (eC (.int 1)) eNil)) eNil))) (eCons (eArgs fLst (eCons (eArgs fTup (eCons (eC (.int 2)) eNil)) (eCons (eArgs fTup (eCons (eC (.int 1)) eNil)) eNil))) (eCons (eArgs fLst (eCons (eArgs fTup (eCons (eC (.int 256)) eNil)) eNil)) (eCons (eArgs fLst' (eLcA (eRange1 (eCons (eC (.int 201)) eNil)) (gN 5) [5] eYes (eArgs fTup (eCons (eBin fFdiv (eVar 5) (eC (.int 250))) (eCons (eBin fMod (eVar 5) (eC (.int 250))) eNil))))) eNil))))))))))
def sv__law_lists_2b1b1 : SV := (sRet (eC (.bl false)))
def sv__law_lists_2b1 : SV := (sIf (eTest (eBin fNe (eArgs fLst' (eLcA (eRange1 (eCons (eC (.int 4)) eNil)) (gN 5) [5] eYes (eArgs m__law_splits (eCons (eVar 5) (eCons (eVar 2) (eCons (eC .non) (eCons (eC .non) eNil))))))) (eBin fMul (eArgs fLst (eCons (eC (.str "index")) eNil)) (eC (.int 4))))) sv__law_lists_2b1b1 sNil)
def sv__law_lists_2 : SV := (sFor (eSeq (eVar 1)) (gN 2) sv__law_lists_2b1)
def sv__law_lists_3 : SV := (sSet 3 (eArgs fLst (eCons (eArgs fTup (eCons (eC (.int 1)) eNil)) (eCons (eArgs fTup (eCons (eC (.int 3)) eNil)) (eCons (eArgs fTup (eCons (eC (.int 5)) eNil)) eNil)))))
def sv__law_lists_4b1b1 : SV := (sRet (eC (.bl false)))
def sv__law_lists_4b1 : SV := (sIf (eTest (eBin fNe (eArgs fLst' (eLcA (eRange1 (eCons (eC (.int 3)) eNil)) (gN 5) [5] eYes (eArgs m__law_splits (eCons (eVar 5) (eCons (eVar 3) (eCons (eVar 2) (eCons (eC .non) eNil))))))) (eBin fMul (eArgs fLst (eCons (eC (.str "index")) eNil)) (eC (.int 3))))) sv__law_lists_4b1b1 sNil)
def sv__law_lists_4 : SV := (sFor (eSeq (eArgs fLst (eCons (eC .non) (eCons (eC (.int 5)) (eCons (eArgs fTup (eCons (eC (.int 1)) eNil)) (eCons (eArgs fLst (eCons (eC (.int 0)) eNil)) (eCons (eArgs fLst (eCons (eC (.int 3)) eNil)) (eCons (eArgs fLst (eCons (eBin fSub (eC (.int 0)) (eC (.int 1))) eNil)) (eCons (eArgs fLst (eCons (eC (.int 1)) (eCons (eC (.int 1)) eNil))) (eCons (eArgs fLst (eCons (eC (.int 2)) (eCons (eC (.int 1)) eNil))) (eCons (eArgs fLst (eCons (eC (.bl true)) eNil)) (eCons (eArgs fLst (eCons (eC .non) eNil)) (eCons (eArgs fLst (eCons (eC (.str "1")) eNil)) eNil))))))))))))) (gN 2) sv__law_lists_4b1)
def sv__law_lists_5b1b1 : SV := (sRet (eC (.bl false)))
def sv__law_lists_5b1 : SV := (sIf (eTest (eBin fNe (eArgs m__law_splits (eCons (eC (.int 2)) (eCons (eVar 3) (eCons (eArgs fLst (eCons (eC (.int 1)) (eCons (eC (.int 2)) eNil))) (eCons (eVar 2) eNil))))) (eC (.str "index")))) sv__law_lists_5b1b1 sNil)
def sv__law_lists_5 : SV := (sFor (eSeq (eArgs fLst (eCons (eC .non) (eCons (eC (.int 5)) (eCons (eArgs fLst (eCons (eArgs fTup (eCons (eC (.int 2)) eNil)) (eCons (eArgs fTup (eCons (eC (.int 2)) eNil)) eNil))) (eCons (eArgs fLst (eCons (eC (.int 5)) eNil)) (eCons (eArgs fLst (eCons (eArgs fTup (eCons (eC (.int 4)) eNil)) (eCons (eArgs fTup (eCons (eC (.int 2)) eNil)) eNil))) eNil))))))) (gN 2) sv__law_lists_5b1)
def sv__law_lists_6b1 : SV := (sRet (eC (.bl false)))
def sv__law_lists_6 : SV := (sIf (eOr (eTest (eBin fNe (eArgs fLst' (eLcA (eSeq (eArgs fTup (eCons (eC .non) (eCons (eC (.int 5)) (eCons (eArgs fLst (eCons (eC (.int 1)) eNil)) (eCons (eArgs fTup (eCons (eC (.int 256)) eNil)) eNil)))))) (gN 2) [2] eYes (eArgs m__law_splits (eCons (eC (.int 3)) (eCons (eVar 3) (eCons (eC (.int 0)) (eCons (eVar 2) eNil))))))) (eBin fMul (eArgs fLst (eCons (eC (.str "bytes")) eNil)) (eC (.int 4))))) (eTest (eBin fNe (eArgs m_route (eCons (eArgs fLst eNil) (eCons (eArgs fTup (eCons (eArgs m__law_draw (eCons (eVar 0) (eCons (eC (.int 256)) eNil))) eNil)) eNil))) (eC (.int 0))))) sv__law_lists_6b1 sNil)
def sv__law_lists_7 : SV := (sSet 4 (eArgs fLst' (eLcA (eRange1 (eCons (eC (.int 200)) eNil)) (gN 5) [5] eYes (eArgs fTup (eCons (eBin fFdiv (eVar 5) (eC (.int 250))) (eCons (eBin fMod (eVar 5) (eC (.int 250))) eNil))))))
def sv__law_lists_8 : SV := (sRet (eAndV (eArgs m__law_index eNil) (eAndV (eBin fEq (eArgs m__law_splits (eCons (eC (.int 0)) (eCons (eVar 4) (eCons (eArgs fLst (eCons (eC (.int 1)) (eCons (eC (.int 199)) eNil))) (eCons (eC .non) eNil))))) (eC (.str "done"))) (eAndV (eBin fEq (eArgs m_separators (eCons (eArgs fLst eNil) (eCons (eArgs fLst eNil) eNil))) (eArgs fLst eNil)) (eBin fIs (eArgs m_are_separators (eCons (eVar 3) (eCons (eArgs fLst (eCons (eC (.int 1)) (eCons (eC (.int 2)) eNil))) (eCons (eArgs fLst (eCons (eArgs fTup (eCons (eC (.int 2)) eNil)) eNil)) eNil)))) (eC (.bl false)))))))
def sv__law_lists : SV := (sSeq sv__law_lists_1
    (sSeq sv__law_lists_2
    (sSeq sv__law_lists_3
    (sSeq sv__law_lists_4
    (sSeq sv__law_lists_5
    (sSeq sv__law_lists_6
    (sSeq sv__law_lists_7
    sv__law_lists_8)))))))
def m__law_lists : List D → List MO → R D := mOf 1 6 sv__law_lists
def sv_law_k19_1 : SV := (sSet 1 (eArgs m__law_start (eCons (eVar 0) eNil)))
def sv_law_k19_2 : SV := (sSet 2 (eArgs fTup (eCons (eArgs fTup (eCons (eC (.str "int")) (eCons (eC (.str "asc")) (eCons (eC (.str "none")) eNil)))) (eCons (eArgs fTup (eCons (eC (.str "closed")) (eCons (eC (.str "desc")) (eCons (eC (.str "last")) eNil)))) eNil))))
def sv_law_k19_3b1b1 : SV := (sRet (eC (.bl false)))
def sv_law_k19_3b1 : SV := (sIf (eTest (eBin fNe (eArgs fLst' (eLcA (eRange1 (eCons (eC (.int 3)) eNil)) (gN 4) [4] eYes (eArgs m__law_ranges (eCons (eVar 4) (eCons (eVar 3) (eCons (eC .non) (eCons (eC .non) (eCons (eC .non) eNil)))))))) (eBin fMul (eArgs fLst (eCons (eC (.str "scheme")) eNil)) (eC (.int 3))))) sv_law_k19_3b1b1 sNil)
def sv_law_k19_3 : SV := (sFor (eSeq (eArgs fLst (eCons (eC .non) (eCons (eC (.int 5)) (eCons (eArgs fTup eNil) eNil))))) (gN 3) sv_law_k19_3b1)
def sv_law_k19_4b1b1 : SV := (sRet (eC (.bl false)))
def sv_law_k19_4b1 : SV := (sIf (eTest (eBin fNe (eArgs fLst' (eLcA (eRange1 (eCons (eC (.int 3)) eNil)) (gN 4) [4] eYes (eArgs m__law_ranges (eCons (eVar 4) (eCons (eVar 3) (eCons (eC .non) (eCons (eC .non) (eCons (eC .non) eNil)))))))) (eBin fMul (eArgs fLst (eCons (eC (.str "scheme")) eNil)) (eC (.int 3))))) sv_law_k19_4b1b1 sNil)
def sv_law_k19_4 : SV := (sFor (eSeq (eArgs fLst (eCons (eBin fMul (eArgs fTup (eCons (eArgs fTup (eCons (eC (.str "counted")) (eCons (eC (.str "asc")) (eCons (eC (.str "none")) eNil)))) eNil)) (eC (.int 2))) (eCons (eArgs fTup (eCons (eArgs fTup (eCons (eC (.str "raw")) (eCons (eC (.str "asc")) (eCons (eC (.str "none")) eNil)))) (eCons (eArgs fTup (eCons (eC (.str "int")) (eCons (eC (.str "asc")) (eCons (eC (.str "none")) eNil)))) eNil))) (eCons (eArgs fTup (eCons (eArgs fTup (eCons (eC (.str "little2")) (eCons (eC (.str "asc")) (eCons (eC (.str "none")) eNil)))) (eCons (eArgs fTup (eCons (eC (.str "int")) (eCons (eC (.str "asc")) (eCons (eC (.str "none")) eNil)))) eNil))) eNil))))) (gN 3) sv_law_k19_4b1)
def sv_law_k19_5b1b1 : SV := (sRet (eC (.bl false)))
def sv_law_k19_5b1 : SV := (sIf (eTest (eBin fNe (eArgs fLst' (eLcA (eRange1 (eCons (eC (.int 3)) eNil)) (gN 4) [4] eYes (eArgs m__law_ranges (eCons (eVar 4) (eCons (eVar 2) (eCons (eVar 3) (eCons (eC .non) (eCons (eC .non) eNil)))))))) (eBin fMul (eArgs fLst (eCons (eC (.str "row")) eNil)) (eC (.int 3))))) sv_law_k19_5b1b1 sNil)
def sv_law_k19_5 : SV := (sFor (eSeq (eArgs fLst (eCons (eC .non) (eCons (eC (.int 5)) (eCons (eArgs fLst (eCons (eC (.int 1)) eNil)) (eCons (eArgs fTup (eCons (eC (.str "a")) eNil)) (eCons (eArgs fTup (eCons (eC .non) eNil)) (eCons (eArgs fTup (eCons (eC (.bl true)) eNil)) (eCons (eArgs fTup (eCons (eC (.int 1)) (eCons (eArgs fTup (eCons (eC (.int 7)) eNil)) eNil))) (eCons (eArgs fTup (eCons (eBin fPow (eC (.int 2)) (eC (.int 64))) eNil)) eNil)))))))))) (gN 3) sv_law_k19_5b1)
def sv_law_k19_6b1 : SV := (sRet (eC (.bl false)))
def sv_law_k19_6 : SV := (sIf (eTest (eBin fNe (eArgs fLst' (eLcA (eSeq (eArgs fTup (eCons (eC .non) (eCons (eC (.int 5)) (eCons (eArgs fTup (eCons (eC (.int 256)) eNil)) eNil))))) (gN 3) [3] eYes (eArgs m__law_ranges (eCons (eC (.int 1)) (eCons (eVar 2) (eCons (eArgs fTup (eCons (eC (.int 1)) eNil)) (eCons (eVar 3) (eCons (eC (.int 0)) eNil)))))))) (eBin fMul (eArgs fLst (eCons (eC (.str "bytes")) eNil)) (eC (.int 3))))) sv_law_k19_6b1 sNil)
def sv_law_k19_7b1b1 : SV := (sRet (eC (.bl false)))
def sv_law_k19_7b1 : SV := (sIf (eTest (eBin fNe (eArgs fLst' (eLcA (eSeq (eArgs fLst (eCons (eArgs fTup (eCons (eVar 3) (eCons (eArgs fTup (eCons (eC (.int 7)) eNil)) eNil))) (eCons (eArgs fTup (eCons (eArgs fTup (eCons (eC (.int 7)) eNil)) (eCons (eVar 3) eNil))) eNil)))) (gT [5, 6]) [5, 6] eYes (eArgs m__law_ranges (eCons (eC (.int 2)) (eCons (eVar 2) (eCons (eArgs fTup (eCons (eC (.int 1)) eNil)) (eCons (eVar 5) (eCons (eVar 6) eNil)))))))) (eBin fMul (eArgs fLst (eCons (eC (.str "row")) eNil)) (eC (.int 2))))) sv_law_k19_7b1b1 sNil)
def sv_law_k19_7 : SV := (sFor (eSeq (eArgs fLst (eCons (eC (.int 1)) (eCons (eArgs fTup (eCons (eC (.int 300)) eNil)) (eCons (eBin fMul (eArgs fTup (eCons (eC (.int 7)) eNil)) (eC (.int 41))) (eCons (eC (.bl true)) (eCons (eC (.str "a")) eNil))))))) (gN 3) sv_law_k19_7b1)
def sv_law_k19_8b1 : SV := (sRet (eC (.bl false)))
def sv_law_k19_8 : SV := (sIf (eTest (eBin fNe (eArgs fLst' (eLcA (eSeq (eArgs fLst (eCons (eArgs fTup (eCons (eC .non) (eCons (eC (.int 1)) eNil))) (eCons (eArgs fTup (eCons (eC (.int 1)) (eCons (eC .non) eNil))) (eCons (eArgs fTup (eCons (eC (.int 1)) (eCons (eC (.int 0)) eNil))) eNil))))) (gT [5, 6]) [5, 6] eYes (eArgs m__law_ranges (eCons (eC (.int 2)) (eCons (eVar 2) (eCons (eArgs fTup eNil) (eCons (eVar 5) (eCons (eVar 6) eNil)))))))) (eArgs fLst (eCons (eC (.str "row")) (eCons (eC (.str "row")) (eCons (eC (.str "done")) eNil)))))) sv_law_k19_8b1 sNil)
def sv_law_k19_9 : SV := (sRet (eArgs m__law_lists (eCons (eVar 1) eNil)))
def sv_law_k19 : SV := (sSeq sv_law_k19_1
    (sSeq sv_law_k19_2
    (sSeq sv_law_k19_3
    (sSeq sv_law_k19_4
    (sSeq sv_law_k19_5
    (sSeq sv_law_k19_6
    (sSeq sv_law_k19_7
    (sSeq sv_law_k19_8
    sv_law_k19_9))))))))
def m_law_k19 : List D → List MO → R D := mOf 1 7 sv_law_k19
def sv__law_strings_1b1 : SV := (sRet (eC (.bl false)))
def sv__law_strings_1 : SV := (sIf (eOr (eTest (eBin fIsNot (eArgs m_is_bytes (eCons (eArgs fTup (eCons (eC (.int 0)) (eCons (eC (.int 256)) eNil))) eNil)) (eC (.bl false)))) (eOr (eTest (eBin fNe (eArgs m_successor (eCons (eArgs fTup (eCons (eC (.int 5)) eNil)) eNil)) (eArgs fTup (eCons (eC (.int 5)) (eCons (eC (.int 0)) eNil))))) (eOr (eTest (eBin fNe (eArgs m_prefix_end (eCons (eArgs fTup (eCons (eC (.int 1)) (eCons (eC (.int 255)) eNil))) eNil)) (eArgs fTup (eCons (eC (.int 2)) eNil)))) (eTest (eBin fIsNot (eArgs m_prefix_end (eCons (eArgs fTup (eCons (eC (.int 255)) eNil)) eNil)) (eC .non)))))) sv__law_strings_1b1 sNil)
def sv__law_strings_2b1 : SV := (sRet (eC (.bl false)))
def sv__law_strings_2 : SV := (sIf (eTest (eBin fNe (eArgs m_separator (eCons (eArgs fTup (eCons (eC (.int 1)) (eCons (eC (.int 5)) (eCons (eC (.int 9)) eNil)))) (eCons (eArgs fTup (eCons (eC (.int 1)) (eCons (eC (.int 7)) (eCons (eC (.int 2)) eNil)))) eNil))) (eArgs fTup (eCons (eC (.int 1)) (eCons (eC (.int 7)) eNil))))) sv__law_strings_2b1 sNil)
def sv__law_strings_3 : SV := (sSet 0 (eArgs m_between (eCons (eArgs fTup (eCons (eC (.int 5)) (eCons (eC (.int 7)) (eCons (eC (.int 9)) eNil)))) (eCons (eArgs fTup (eCons (eC (.int 6)) eNil)) eNil))))
def sv__law_strings_4b1 : SV := (sRet (eC (.bl false)))
def sv__law_strings_4 : SV := (sIf (eOr (eTest (eBin fNe (eArgs fLen (eCons (eVar 0) eNil)) (eC (.int 2)))) (eOr (eNot (eTest (eChain fLt fLt (eArgs fTup (eCons (eC (.int 5)) (eCons (eC (.int 7)) (eCons (eC (.int 9)) eNil)))) (eVar 0) (eArgs fTup (eCons (eC (.int 6)) eNil))))) (eTest (eBin fNe (eArgs m_prefix_range (eCons (eArgs fTup (eCons (eC (.int 7)) eNil)) eNil)) (eArgs fTup (eCons (eArgs fTup (eCons (eC (.int 7)) eNil)) (eCons (eArgs fTup (eCons (eC (.int 8)) eNil)) eNil))))))) sv__law_strings_4b1 sNil)
def sv__law_strings_5b1 : SV := (sRet (eC (.bl false)))
def sv__law_strings_5 : SV := (sIf (eOr (eTest (eBin fNe (eArgs m_separators (eCons (eArgs fLst (eCons (eArgs fTup (eCons (eC (.int 1)) (eCons (eC (.int 1)) eNil))) (eCons (eArgs fTup (eCons (eC (.int 1)) (eCons (eC (.int 9)) (eCons (eC (.int 9)) eNil)))) (eCons (eArgs fTup (eCons (eC (.int 2)) (eCons (eC (.int 5)) eNil))) eNil)))) (eCons (eArgs fLst (eCons (eC (.int 1)) (eCons (eC (.int 2)) eNil))) eNil))) (eArgs fLst (eCons (eArgs fTup (eCons (eC (.int 1)) (eCons (eC (.int 9)) eNil))) (eCons (eArgs fTup (eCons (eC (.int 2)) eNil)) eNil))))) (eTest (eBin fNe (eArgs m_route (eCons (eArgs fLst (eCons (eArgs fTup (eCons (eC (.int 1)) (eCons (eC (.int 9)) eNil))) (eCons (eArgs fTup (eCons (eC (.int 2)) eNil)) eNil))) (eCons (eArgs fTup (eCons (eC (.int 1)) (eCons (eC (.int 9)) (eCons (eC (.int 0)) eNil)))) eNil))) (eC (.int 1))))) sv__law_strings_5b1 sNil)
def sv__law_strings_6b1 : SV := (sRet (eC (.bl false)))
def sv__law_strings_6 : SV := (sIf (eOr (eTest (eBin fIsNot (eArgs m_are_separators (eCons (eArgs fLst (eCons (eArgs fTup (eCons (eC (.int 1)) eNil)) (eCons (eArgs fTup (eCons (eC (.int 3)) eNil)) eNil))) (eCons (eArgs fLst (eCons (eC (.int 1)) eNil)) (eCons (eArgs fLst (eCons (eArgs fTup (eCons (eC (.int 2)) eNil)) eNil)) eNil)))) (eC (.bl true)))) (eTest (eBin fNe (eArgs m_saved (eCons (eArgs fLst (eCons (eArgs fTup (eCons (eC (.int 1)) (eCons (eC (.int 1)) eNil))) (eCons (eArgs fTup (eCons (eC (.int 1)) (eCons (eC (.int 9)) (eCons (eC (.int 9)) eNil)))) eNil))) (eCons (eArgs fLst (eCons (eC (.int 1)) eNil)) eNil))) (eC (.int 1))))) sv__law_strings_6b1 sNil)
def sv__law_strings_7 : SV := (sRet (eAndV (eBin fEq (eArgs m_format_bytes (eCons (eArgs fTup (eCons (eC (.int 0)) (eCons (eC (.int 255)) eNil))) eNil)) (eC (.str "00ff"))) (eBin fEq (eArgs m_parse_bytes (eCons (eC (.str "")) eNil)) (eArgs fTup eNil))))
def sv__law_strings : SV := (sSeq sv__law_strings_1
    (sSeq sv__law_strings_2
    (sSeq sv__law_strings_3
    (sSeq sv__law_strings_4
    (sSeq sv__law_strings_5
    (sSeq sv__law_strings_6
    sv__law_strings_7))))))
def m__law_strings : List D → List MO → R D := mOf 0 1 sv__law_strings
def sv__law_rows_1b1 : SV := (sRet (eC (.bl false)))
def sv__law_rows_1 : SV := (sIf (eOr (eTest (eBin fIsNot (eArgs m_is_value (eCons (eArgs fTup (eCons (eC (.str "fixed1")) (eCons (eC (.str "asc")) (eCons (eC (.str "none")) eNil)))) (eCons (eC (.int 256)) eNil))) (eC (.bl false)))) (eTest (eBin fNe (eArgs m_encode_value (eCons (eArgs fTup (eCons (eC (.str "int")) (eCons (eC (.str "asc")) (eCons (eC (.str "none")) eNil)))) (eCons (eBin fSub (eC (.int 0)) (eC (.int 1))) eNil))) (eArgs fTup (eCons (eC (.int 127)) (eCons (eC (.int 254)) eNil)))))) sv__law_rows_1b1 sNil)
def sv__law_rows_2b1 : SV := (sRet (eC (.bl false)))
def sv__law_rows_2 : SV := (sIf (eOr (eTest (eBin fNe (eArgs m_encode_value (eCons (eArgs fTup (eCons (eC (.str "closed")) (eCons (eC (.str "desc")) (eCons (eC (.str "last")) eNil)))) (eCons (eArgs fTup (eCons (eC (.int 97)) eNil)) eNil))) (eArgs fTup (eCons (eC (.int 1)) (eCons (eC (.int 158)) (eCons (eC (.int 255)) (eCons (eC (.int 254)) eNil))))))) (eTest (eBin fIsNot (eArgs m_is_row (eCons (eVar 0) (eCons (eArgs fTup (eCons (eC (.int 3)) (eCons (eC .non) eNil))) eNil))) (eC (.bl true))))) sv__law_rows_2b1 sNil)
def sv__law_rows_3b1 : SV := (sRet (eC (.bl false)))
def sv__law_rows_3 : SV := (sIf (eOr (eTest (eBin fNe (eArgs m_encode (eCons (eVar 0) (eCons (eArgs fTup (eCons (eC (.int 300)) (eCons (eC .non) eNil))) eNil))) (eArgs fTup (eCons (eC (.int 130)) (eCons (eC (.int 1)) (eCons (eC (.int 44)) (eCons (eC (.int 2)) eNil))))))) (eOr (eTest (eBin fNe (eArgs m_compare_rows (eCons (eVar 0) (eCons (eArgs fTup (eCons (eC (.int 1)) (eCons (eArgs fTup (eCons (eC (.int 97)) eNil)) eNil))) (eCons (eArgs fTup (eCons (eC (.int 1)) (eCons (eArgs fTup (eCons (eC (.int 98)) eNil)) eNil))) eNil)))) (eC (.int 1)))) (eTest (eBin fIsNot (eArgs m_keeps_order (eCons (eVar 0) eNil)) (eC (.bl true)))))) sv__law_rows_3b1 sNil)
def sv__law_rows_4b1 : SV := (sRet (eC (.bl false)))
def sv__law_rows_4 : SV := (sIf (eOr (eTest (eBin fIsNot (eArgs m_is_decodable (eCons (eArgs fTup (eCons (eArgs fTup (eCons (eC (.str "raw")) (eCons (eC (.str "asc")) (eCons (eC (.str "none")) eNil)))) (eCons (eArgs fTup (eCons (eC (.str "fixed2")) (eCons (eC (.str "asc")) (eCons (eC (.str "none")) eNil)))) eNil))) eNil)) (eC (.bl true)))) (eTest (eBin fNe (eArgs m_decode (eCons (eVar 0) (eCons (eArgs fTup (eCons (eC (.int 130)) (eCons (eC (.int 1)) (eCons (eC (.int 44)) (eCons (eC (.int 2)) eNil))))) eNil))) (eArgs fTup (eCons (eC (.int 300)) (eCons (eC .non) eNil)))))) sv__law_rows_4b1 sNil)
def sv__law_rows_5b1 : SV := (sRet (eC (.bl false)))
def sv__law_rows_5 : SV := (sIf (eOr (eTest (eBin fNe (eArgs m_row_range (eCons (eVar 0) (eCons (eArgs fTup (eCons (eC (.int 0)) eNil)) eNil))) (eArgs fTup (eCons (eArgs fTup (eCons (eC (.int 128)) eNil)) (eCons (eArgs fTup (eCons (eC (.int 129)) eNil)) eNil))))) (eTest (eBin fIsNot (eArgs m_starts_with (eCons (eVar 0) (eCons (eArgs fTup (eCons (eC (.int 0)) eNil)) (eCons (eArgs fTup (eCons (eC (.int 128)) (eCons (eC (.int 2)) eNil))) eNil)))) (eC (.bl true))))) sv__law_rows_5b1 sNil)
def sv__law_rows_6 : SV := (sRet (eBin fEq (eArgs m_value_bounds (eCons (eVar 0) (eCons (eArgs fTup (eCons (eC (.int 0)) eNil)) (eCons (eArgs fTup (eCons (eC (.int 98)) eNil)) (eCons (eArgs fTup (eCons (eC (.int 97)) eNil)) eNil))))) (eArgs fTup (eCons (eArgs fTup (eCons (eC (.int 128)) (eCons (eC (.int 1)) (eCons (eC (.int 157)) (eCons (eC (.int 255)) (eCons (eC (.int 254)) eNil)))))) (eCons (eArgs fTup (eCons (eC (.int 128)) (eCons (eC (.int 1)) (eCons (eC (.int 158)) (eCons (eC (.int 255)) (eCons (eC (.int 254)) (eCons (eC (.int 0)) eNil))))))) eNil)))))
def sv__law_rows : SV := (sSeq sv__law_rows_1
    (sSeq sv__law_rows_2
    (sSeq sv__law_rows_3
    (sSeq sv__law_rows_4
    (sSeq sv__law_rows_5
    sv__law_rows_6)))))
def m__law_rows : List D → List MO → R D := mOf 1 1 sv__law_rows
def sv_Index_layout_k20 : SV := (sRet (eArgs fLst' (eLcA (eSeq (eUn (fFldO "Index" "blocks") (eVar 0))) (gN 1) [1] eYes (eArgs fList (eCons (eVar 1) eNil)))))
def m_Index_layout_k20 : List D → List MO → R D := mOf 1 2 sv_Index_layout_k20
def sv_Index_separators_k20 : SV := (sRet (eArgs fList (eCons (eUn (fFldO "Index" "marks") (eVar 0)) eNil)))
def m_Index_separators_k20 : List D → List MO → R D := mOf 1 1 sv_Index_separators_k20
def sv_law_k20_1 : SV := (sSet 1 (eArgs m__law_start (eCons (eVar 0) eNil)))
def sv_law_k20_2 : SV := (sSet 2 (eArgs fTup (eCons (eArgs fTup (eCons (eC (.str "int")) (eCons (eC (.str "asc")) (eCons (eC (.str "none")) eNil)))) (eCons (eArgs fTup (eCons (eC (.str "closed")) (eCons (eC (.str "desc")) (eCons (eC (.str "last")) eNil)))) eNil))))
def sv_law_k20_3b1 : SV := (sRet (eC (.bl false)))
def sv_law_k20_3 : SV := (sIf (eOr (eNot (eTest (eArgs m__law_strings eNil))) (eNot (eTest (eArgs m__law_rows (eCons (eVar 2) eNil))))) sv_law_k20_3b1 sNil)
def sv_law_k20_4 : SV := (sSet 3 (eMakeO "Index" m_Index___init__ (eCons (eC (.int 2)) eNil)))
def sv_law_k20_5b1 : SV := (sExpr (eMethO "Index" "insert" m_Index_insert (eVar 3) (eCons (eVar 4) eNil)))
def sv_law_k20_5 : SV := (sFor (eSeq (eArgs fLst (eCons (eArgs fTup (eCons (eC (.int 1)) (eCons (eC (.int 1)) eNil))) (eCons (eArgs fTup (eCons (eC (.int 1)) (eCons (eC (.int 9)) (eCons (eC (.int 9)) eNil)))) (eCons (eArgs fTup (eCons (eC (.int 2)) (eCons (eC (.int 5)) eNil))) eNil))))) (gN 4) sv_law_k20_5b1)
def sv_law_k20_6b1 : SV := (sRet (eC (.bl false)))
def sv_law_k20_6 : SV := (sIf (eOr (eTest (eBin fNe (eMethO "Index" "layout" m_Index_layout_k20 (eVar 3) eNil) (eArgs fLst (eCons (eArgs fLst (eCons (eArgs fTup (eCons (eC (.int 1)) (eCons (eC (.int 1)) eNil))) eNil)) (eCons (eArgs fLst (eCons (eArgs fTup (eCons (eC (.int 1)) (eCons (eC (.int 9)) (eCons (eC (.int 9)) eNil)))) (eCons (eArgs fTup (eCons (eC (.int 2)) (eCons (eC (.int 5)) eNil))) eNil))) eNil))))) (eTest (eBin fNe (eMethO "Index" "separators" m_Index_separators_k20 (eVar 3) eNil) (eArgs fLst (eCons (eArgs fTup (eCons (eC (.int 1)) (eCons (eC (.int 9)) eNil))) eNil))))) sv_law_k20_6b1 sNil)
def sv_law_k20_7b1 : SV := (sRet (eC (.bl false)))
def sv_law_k20_7 : SV := (sIf (eOr (eTest (eBin fNe (eMethO "Index" "find" m_Index_find (eVar 3) (eCons (eArgs fTup (eCons (eArgs fTup (eCons (eC (.int 1)) (eCons (eC (.int 9)) eNil))) (eCons (eC .non) eNil))) eNil)) (eArgs fLst (eCons (eArgs fTup (eCons (eC (.int 1)) (eCons (eC (.int 9)) (eCons (eC (.int 9)) eNil)))) (eCons (eArgs fTup (eCons (eC (.int 2)) (eCons (eC (.int 5)) eNil))) eNil))))) (eTest (eBin fNe (eArgs m_format_scheme (eCons (eVar 2) eNil)) (eC (.str "int asc none,closed desc last"))))) sv_law_k20_7b1 sNil)
def sv_law_k20_8 : SV := (sSet 5 (eBin fAdd (eC (.int 1)) (eArgs m__law_draw (eCons (eVar 1) (eCons (eC (.int 255)) eNil)))))
def sv_law_k20_9 : SV := (sRet (eBin fEq (eArgs m_encode (eCons (eVar 2) (eCons (eArgs fTup (eCons (eVar 5) (eCons (eC .non) eNil))) eNil))) (eArgs fTup (eCons (eC (.int 129)) (eCons (eVar 5) (eCons (eC (.int 2)) eNil))))))
def sv_law_k20 : SV := (sSeq sv_law_k20_1
    (sSeq sv_law_k20_2
    (sSeq sv_law_k20_3
    (sSeq sv_law_k20_4
    (sSeq sv_law_k20_5
    (sSeq sv_law_k20_6
    (sSeq sv_law_k20_7
    (sSeq sv_law_k20_8
    sv_law_k20_9))))))))
def m_law_k20 : List D → List MO → R D := mOf 1 6 sv_law_k20
end KB
namespace KB
open PySem PySem.Spec PyProof.Rows L2
/-! ### data that may be compared -/
def okD (k : Nat) (d : D) : Prop := (toP d).canLay0 = true ∧ (toP d).depth ≤ k
theorem okD.shp {k : Nat} {d : D} (h : okD k d) (hk : k ≤ 64 := by decide) : shp d = true := by
  unfold KB.shp SeqAt.shaped
  rw [h.1, decide_eq_true (Nat.le_trans h.2 hk)]
  rfl
theorem okD.mono {k j : Nat} {d : D} (h : okD k d) (e : k ≤ j) : okD j d := ⟨h.1, Nat.le_trans h.2 e⟩
theorem okD_int (k : Nat) (i : Int) : okD k (.int i) := ⟨by simp [toP, PyData.canLay0], by simp [toP, PyData.depth]⟩
theorem okD_bl (k : Nat) (i : Bool) : okD k (.bl i) := ⟨by simp [toP, PyData.canLay0], by simp [toP, PyData.depth]⟩
theorem okD_non (k : Nat) : okD k .non := ⟨by simp [toP, PyData.canLay0], by simp [toP, PyData.depth]⟩
theorem okDs {k : Nat} : ∀ {ds : List D}, (∀ d ∈ ds, okD k d) → PyData.canLayAll0 (toPs ds) = true ∧ PyData.depthAll (toPs ds) ≤ k
  | [], _ => by simp [toPs, PyData.canLayAll0, PyData.depthAll]
  | d :: ds, h => by
    have h1 := h d (by simp)
    have h2 := okDs (ds := ds) fun x hx => h x (List.mem_cons_of_mem _ hx)
    simp only [toPs, PyData.canLayAll0, PyData.depthAll, h1.1, h2.1, Bool.and_self, true_and]
    exact Nat.max_le.mpr ⟨h1.2, h2.2⟩
theorem okD_tup {k : Nat} {ds : List D} (h : ∀ d ∈ ds, okD k d) : okD (k + 1) (.tup ds) := by
  have := okDs h
  refine ⟨by simp only [toP, PyData.canLay0]; exact this.1, by simp only [toP, PyData.depth]; omega⟩
theorem okD_lst {k : Nat} {ds : List D} (h : ∀ d ∈ ds, okD k d) : okD (k + 1) (.lst ds) := by
  have := okDs h
  refine ⟨by simp only [toP, PyData.canLay0]; exact this.1, by simp only [toP, PyData.depth]; omega⟩
theorem okD_scr {k : Nat} {ds : List D} (h : ∀ d ∈ ds, okD k d) : okD (k + 1) (.scr ds) := by
  have := okDs h
  refine ⟨by simp only [toP, PyData.canLay0]; exact this.1, by simp only [toP, PyData.depth]; omega⟩
theorem okD_bs (ns : List Int) : okD 1 (bs ns) := okD_tup fun d h => by
  obtain ⟨n, _, rfl⟩ := List.mem_map.mp h
  exact okD_int 0 n
theorem okD_ints (ns : List Int) : okD 1 (.lst (ns.map .int)) := okD_lst fun d h => by
  obtain ⟨n, _, rfl⟩ := List.mem_map.mp h
  exact okD_int 0 n
theorem okD_scrI (ns : List Int) : okD 1 (.scr (ns.map .int)) := okD_scr fun d h => by
  obtain ⟨n, _, rfl⟩ := List.mem_map.mp h
  exact okD_int 0 n
/-- an end of a range: a byte string, or None -/
def ob : Option (List Int) → D
  | none => .non
  | some b => bs b
theorem okD_ob (o : Option (List Int)) : okD 1 (ob o) := by
  cases o with
  | none => exact okD_non 1
  | some b => exact okD_bs b
@[simp] theorem shp_bs (ns : List Int) : shp (bs ns) = true := (okD_bs ns).shp
@[simp] theorem shp_ints (ns : List Int) : shp (.lst (ns.map .int)) = true := (okD_ints ns).shp
@[simp] theorem shp_scr (ns : List Int) : shp (.scr (ns.map .int)) = true := (okD_scrI ns).shp
@[simp] theorem shp_ob (o : Option (List Int)) : shp (ob o) = true := (okD_ob o).shp
@[simp] theorem shp_bl (b : Bool) : shp (.bl b) = true := (okD_bl 0 b).shp
@[simp] theorem shp_int (b : Int) : shp (.int b) = true := (okD_int 0 b).shp
@[simp] theorem shp_non : shp .non = true := (okD_non 0).shp
@[simp] theorem shp_nil : shp (.lst []) = true := (okD_lst (k := 0) (by simp)).shp
@[simp] theorem shp_nilT : shp (.tup []) = true := (okD_tup (k := 0) (by simp)).shp
@[simp] theorem eqvAll_ints : ∀ a b : List Int, PyData.eqvAll (toPs (a.map .int)) (toPs (b.map .int)) = decide (a = b)
  | [], [] => by simp [toPs, PyData.eqvAll]
  | [], _ :: _ => by simp [toPs, PyData.eqvAll]
  | _ :: _, [] => by simp [toPs, PyData.eqvAll]
  | x :: a, y :: b => by
    have ih := eqvAll_ints a b
    simp only [List.map_cons, toPs, PyData.eqvAll, toP, PyData.eqv, ih, beq_dec]
    by_cases h1 : x = y <;> by_cases h2 : a = b <;> simp [h1, h2]
@[simp] theorem dEqv_bs (a b : List Int) : dEqv (bs a) (bs b) = decide (a = b) := by
  simp only [dEqv, bs, toP, PyData.eqv, eqvAll_ints]
@[simp] theorem dEqv_ints (a b : List Int) : dEqv (.lst (a.map .int)) (.lst (b.map .int)) = decide (a = b) := by
  simp only [dEqv, toP, PyData.eqv, eqvAll_ints]
@[simp] theorem dEqv_int (a b : Int) : dEqv (.int a) (.int b) = decide (a = b) := by
  simp only [dEqv, toP, PyData.eqv, beq_dec]
@[simp] theorem dEqv_bl (a b : Bool) : dEqv (.bl a) (.bl b) = (a == b) := by
  simp only [dEqv, toP, PyData.eqv]
@[simp] theorem dEqv_nil (a : List D) : dEqv (.lst a) (.lst []) = a.isEmpty := by
  cases a <;> simp [dEqv, toP, toPs, PyData.eqv, PyData.eqvAll]
@[simp] theorem dEqv_snil (a : List D) : dEqv (.scr a) (.lst []) = a.isEmpty := by
  cases a <;> simp [dEqv, toP, toPs, PyData.eqv, PyData.eqvAll]
theorem dEqv_refl {k : Nat} {d : D} (h : okD k d) : dEqv d d = true := SeqAt.eqv_refl _ h.1
/-! ### comprehensions as maps -/
theorem compL_acc {α : Type} {c : α → D} {g : GV} {t : EB} {el : EV} {e : EN} {M : List MO} {f : α → D} {p : α → Bool} : ∀ (xs : List α) (acc : List D), acc.length + xs.length ≤ big → (∀ x ∈ xs, ∃ e1, g (c x) e = some e1 ∧ t e1 M = .ok (p x) M ∧ (p x = true → el e1 M = .ok (f x) M)) → compL g t el e (xs.map c) acc M = .ok (acc ++ (xs.filter p).map f) M
  | [], acc, _, _ => by simp [compL]
  | x :: xs, acc, hl, h => by
    obtain ⟨e1, h1, h2, h3⟩ := h x (by simp)
    have hb : acc.length < big := by simp at hl; omega
    simp only [List.map_cons, compL, h1, R.nox_ok, h2]
    cases hp : p x with
    | true =>
      simp only [if_true, h3 hp, R.nox_ok, hb]
      rw [compL_acc xs (acc ++ [f x]) (by simp at hl ⊢; omega) fun y hy => h y (by simp [hy])]
      simp [hp]
    | false =>
      simp only [Bool.false_eq_true, if_false]
      rw [compL_acc xs acc (by simp at hl ⊢; omega) fun y hy => h y (by simp [hy])]
      simp [hp]
theorem compL_filter {α : Type} {c : α → D} {g : GV} {t : EB} {el : EV} {e : EN} {M : List MO} (f : α → D) (p : α → Bool) (xs : List α) (hl : xs.length ≤ big) (h : ∀ x ∈ xs, ∃ e1, g (c x) e = some e1 ∧ t e1 M = .ok (p x) M ∧ (p x = true → el e1 M = .ok (f x) M)) : compL g t el e (xs.map c) [] M = .ok ((xs.filter p).map f) M := by
  have := compL_acc (f := f) (p := p) xs [] (by simpa using hl) h
  simpa using this
theorem compL_map {α : Type} {c : α → D} {g : GV} {el : EV} {e : EN} {M : List MO} (f : α → D) (xs : List α) (hl : xs.length ≤ big) (h : ∀ x ∈ xs, ∃ e1, g (c x) e = some e1 ∧ el e1 M = .ok (f x) M) : compL g eYes el e (xs.map c) [] M = .ok (xs.map f) M := by
  have := compL_filter (c := c) (t := eYes) f (fun _ => true) xs hl fun x hx => by
    obtain ⟨e1, h1, h2⟩ := h x hx
    exact ⟨e1, h1, rfl, fun _ => h2⟩
  rw [List.filter_eq_self.mpr (by simp)] at this
  exact this
/-! ### draws -/
structure DS where
  ns : List Int
  c : Int
  ne : ns ≠ []
def DM (s : DS) (Rm : List MO) : List MO := .lst (s.ns.map .int) :: .lst [.cell 0, .int s.c] :: Rm
theorem compL_draw {g : GV} {el : EV} {e : EN} {Rm : List MO} {P : D → Prop} : ∀ (ds acc : List D) (s : DS), acc.length + ds.length ≤ big → (∀ d ∈ ds, ∀ s, ∃ e1 y s', g d e = some e1 ∧ el e1 (DM s Rm) = .ok y (DM s' Rm) ∧ P y) →
    ∃ ys s', compL g eYes el e ds acc (DM s Rm) = .ok (acc ++ ys) (DM s' Rm) ∧ ys.length = ds.length ∧ ∀ y ∈ ys, P y
  | [], acc, s, _, _ => ⟨[], s, by simp [compL], rfl, by simp⟩
  | d :: ds, acc, s, hl, h => by
    obtain ⟨e1, y, s1, h1, h2, h3⟩ := h d (by simp) s
    have hb : acc.length < big := by simp at hl; omega
    obtain ⟨ys, s2, h4, h5, h6⟩ := compL_draw ds (acc ++ [y]) s1 (by simp at hl ⊢; omega) fun x hx => h x (by simp [hx])
    refine ⟨y :: ys, s2, ?_, by simp [h5], fun z hz => ?_⟩
    · simp only [compL, h1, eYes, R.nox_ok, if_true, h2, hb]
      rw [h4]
      simp
    · rcases List.mem_cons.mp hz with rfl | hz
      · exact h3
      · exact h6 z hz
theorem atI_in {α : Type} {xs : List α} {i : Int} (h0 : 0 ≤ i) (h1 : i < xs.length) : ∃ x ∈ xs, atI xs i = some x ∧ xs[i.toNat]? = some x := by
  have hl : i.toNat < xs.length := by omega
  refine ⟨xs[i.toNat], List.getElem_mem hl, ?_, List.getElem?_eq_getElem hl⟩
  unfold atI ixN
  rw [if_pos h0, if_pos h1]
  exact List.getElem?_eq_getElem hl
theorem start_eq (ns : List Int) : ∃ s, m__law_start [.scr (ns.map .int)] [] = .ok (.cell 1) (DM s []) := by
  cases ns with
  | nil => exact ⟨⟨[0], 0, by simp⟩, by rfl⟩
  | cons n ns =>
    refine ⟨⟨n :: ns, 0, by simp⟩, ?_⟩
    have h := shp_scr (n :: ns)
    simp only [List.map_cons] at h
    simp [m__law_start, mOf, sv__law_start, startE, sRet, eArgs, eCons, eIf, eTest, eBin, fNe, eNil, fLst, big, h, fListC, fCell, eC, DM, res]
theorem set_map_int (ns : List Int) (i : Nat) (v : Int) : (ns.map D.int).set i (.int v) = (ns.set i v).map D.int := by
  rw [List.map_set]
theorem w64_lt {i : Int} (h0 : 0 ≤ i) (h : i < 2 ^ 64) : w64 i = true := decide_eq_true ⟨by omega, h⟩
theorem draw_eq (s : DS) (k : Int) (hk : 0 < k) (hk2 : k ≤ 2 ^ 80) (Rm : List MO) : ∃ r s', m__law_draw [.cell 1, .int k] (DM s Rm) = .ok (.int r) (DM s' Rm) ∧ 0 ≤ r ∧ r < k := by
  have hlen : (0 : Int) < (s.ns.length : Int) := by
    have := s.ne
    have : s.ns.length ≠ 0 := fun z => this (List.eq_nil_of_length_eq_zero z)
    omega
  have hlenN : 0 < s.ns.length := by omega
  have h1 : 0 ≤ (s.c + 1) % (s.ns.length : Int) := Int.emod_nonneg _ (by omega)
  have h2 : (s.c + 1) % (s.ns.length : Int) < s.ns.length := Int.emod_lt_of_pos _ hlen
  obtain ⟨x, hx, ha, hg⟩ := atI_in (xs := s.ns) h1 h2
  have ha' : atI (s.ns.map D.int) ((s.c + 1) % (s.ns.length : Int)) = some (.int x) := by
    unfold atI at ha ⊢
    rw [List.length_map]
    cases q : ixN s.ns.length ((s.c + 1) % (s.ns.length : Int)) with
    | none => rw [q] at ha; cases ha
    | some j => rw [q] at ha; simp only [Option.bind_some] at ha ⊢; rw [List.getElem?_map, ha]; rfl
  have hj : ixN s.ns.length ((s.c + 1) % (s.ns.length : Int)) = some ((s.c + 1) % (s.ns.length : Int)).toNat := by
    unfold ixN
    rw [if_pos h1, if_pos h2]
  have hl : decide (0 < (s.ns.length : Int)) = true := decide_eq_true hlen
  have hdk : cDiv x k = true := decide_eq_true ⟨hk, hk2⟩
  have e0 : atI [D.cell 0, .int s.c] 0 = some (.cell 0) := rfl
  have e1 : atI [D.cell 0, .int s.c] 1 = some (.int s.c) := rfl
  have e2 : atI [D.cell 0, .int (s.c + 1)] 1 = some (.int (s.c + 1)) := rfl
  have e3 : ixN 2 1 = some 1 := rfl
  by_cases hb : 1000000000000000000 ≤ x
  · refine ⟨x % k, ⟨s.ns.set ((s.c + 1) % (s.ns.length : Int)).toNat (x / k), s.c + 1, ?_⟩, ?_, Int.emod_nonneg _ (by omega), Int.emod_lt_of_pos _ hk⟩
    · intro z
      have : (s.ns.set ((s.c + 1) % (s.ns.length : Int)).toNat (x / k)).length = 0 := by rw [z]; rfl
      rw [List.length_set] at this
      exact s.ne (List.eq_nil_of_length_eq_zero this)
    · simp [m__law_draw, mOf, sv__law_draw, startE, DM, res, fIx, fLen, e0, e1, e2, e3, ha', hj, hl, hb, hdk, hk, hlen, hlenN]
  · have hnb : decide (1000000000000000000 ≤ x) = false := decide_eq_false hb
    have p1 : (0 : Int) ≤ (x + 104729 * (s.c + 1)) % 4294967291 := Int.emod_nonneg _ (by decide)
    have p2 : (x + 104729 * (s.c + 1)) % 4294967291 < 4294967291 := Int.emod_lt_of_pos _ (by decide)
    generalize hm : (x + 104729 * (s.c + 1)) % 4294967291 = m at p1 p2
    have p3 : (0 : Int) ≤ m ^ 5 % 4294967279 := Int.emod_nonneg _ (by decide)
    have p4 : m ^ 5 % 4294967279 < 4294967279 := Int.emod_lt_of_pos _ (by decide)
    have hpw : cPow m 5 = true := decide_eq_true ⟨by decide, by decide, by omega⟩
    have hmul1 : cMul 104729 (s.c + 1) = true := by unfold cMul; rw [w64_lt (by decide) (by decide)]; rfl
    have hdv1 : ∀ z : Int, cDiv z 64 = true := fun z => decide_eq_true (by decide)
    have hdv2 : ∀ z : Int, cDiv z 8 = true := fun z => decide_eq_true (by decide)
    have hmul2 : ∀ z : Int, cMul z 69621 = true := fun z => by unfold cMul; rw [w64_lt (i := 69621) (by decide) (by decide), Bool.or_true]
    generalize hn : m ^ 5 % 4294967279 = n at p3 p4
    refine ⟨(n / 64 * 69621 + n) % 4294967231 / 8 % k, ⟨s.ns, s.c + 1, s.ne⟩, ?_, Int.emod_nonneg _ (by omega), Int.emod_lt_of_pos _ hk⟩
    simp [m__law_draw, mOf, sv__law_draw, startE, DM, res, fIx, fLen, e0, e1, e2, e3, ha', hj, hl, hb, hdk, hk, hlen, hm, hn, hpw, hmul1, hmul2, hdv1, hdv2, hlenN]
end KB
namespace KB
open PySem PySem.Spec PyProof.Rows L2
/-! ### byte strings -/
def By (ns : List Int) : Prop := ∀ b ∈ ns, 0 ≤ b ∧ b ≤ 255
theorem By.nil : By [] := fun _ h => nomatch h
theorem By.cons {x : Int} {ns : List Int} (h : 0 ≤ x ∧ x ≤ 255) (hs : By ns) : By (x :: ns) := fun b hb => by
  rcases List.mem_cons.mp hb with rfl | hb
  · exact h
  · exact hs b hb
theorem By.tail {x : Int} {ns : List Int} (h : By (x :: ns)) : By ns := fun b hb => h b (List.mem_cons_of_mem _ hb)
theorem By.head {x : Int} {ns : List Int} (h : By (x :: ns)) : 0 ≤ x ∧ x ≤ 255 := h x (List.mem_cons_self ..)
theorem By.append {a b : List Int} (h : By a) (h' : By b) : By (a ++ b) := fun x hx => (List.mem_append.mp hx).elim (h x) (h' x)
theorem By.take {a : List Int} (h : By a) (n : Nat) : By (a.take n) := fun x hx => h x (List.mem_of_mem_take hx)
theorem By.drop {a : List Int} (h : By a) (n : Nat) : By (a.drop n) := fun x hx => h x (List.mem_of_mem_drop hx)
theorem By.rep (n : Nat) {x : Int} (h : 0 ≤ x ∧ x ≤ 255) : By (List.replicate n x) := fun b hb => by rw [(List.mem_replicate.mp hb).2]; exact h
section
variable (M : List MO)
@[simp] theorem fLen_bs (a : List Int) : fLen [bs a] M = .ok (.int a.length) M := by simp [bs]
@[simp] theorem res_bs (a : List Int) : res M (bs a) = bs a := rfl
theorem atI_map {α β : Type} (f : α → β) (xs : List α) (i : Int) : atI (xs.map f) i = (atI xs i).map f := by
  unfold atI
  rw [List.length_map]
  cases ixN xs.length i with
  | none => rfl
  | some j => simp
@[simp] theorem fIx_bs (a : List Int) (i : Int) : fIx (bs a) (.int i) M = match atI a i with
  | some d => .ok (.int d) M
  | none => .stuck := by
  unfold bs
  rw [fIx_tup, atI_map]
  cases atI a i <;> rfl
theorem cutD_map {α β : Type} (f : α → β) (xs : List α) (lo hi : Option Int) : cutD (xs.map f) lo hi = (cutD xs lo hi).map f := by
  unfold cutD
  rw [List.length_map, List.map_take, List.map_drop]
@[simp] theorem fSl_bs (a : List Int) (lo hi : Option Int) : fSl (bs a) lo hi M = .ok (bs (cutD a lo hi)) M := by
  unfold bs
  rw [fSl_tup, cutD_map]
@[simp] theorem fAdd_bs (a b : List Int) : fAdd (bs a) (bs b) M = if a.length + b.length ≤ big then .ok (bs (a ++ b)) M else .stuck := by
  simp [bs]
@[simp] theorem bs_one (x : Int) : D.tup [.int x] = bs [x] := rfl
@[simp] theorem bs_nil : D.tup [] = bs [] := rfl
@[simp] theorem fIsi_bs (a : List Int) : fIsi "tuple" (bs a) M = .ok (.bl true) M := by simp [bs]
@[simp] theorem fMul_bs (x k : Int) : fMul (bs [x]) (.int k) M = if -1000 ≤ k ∧ k ≤ 1000 then .ok (bs (List.replicate k.toNat x)) M else .stuck := by
  show fMul (.tup [.int x]) (.int k) M = _
  rw [fMul_tup]
  simp [repD, bs]
end
theorem cut_to {α : Type} (xs : List α) (k : Nat) : cutD xs none (some (k : Int)) = xs.take k := by
  unfold cutD
  rw [HT.sIx_nat, HT.sIx_none]
  simp
theorem cut_from {α : Type} (xs : List α) (k : Nat) : cutD xs (some (k : Int)) none = xs.drop k := by
  unfold cutD
  rw [HT.sIx_nat, HT.sIx_none]
  by_cases h : k ≤ xs.length
  · rw [Nat.min_eq_left h, List.take_of_length_le (by rw [List.length_drop]; exact Nat.le_refl _)]
  · rw [Nat.min_eq_right (by omega), List.drop_length, List.drop_eq_nil_of_le (by omega)]
    simp
theorem cut_toI {α : Type} (xs : List α) {k : Int} (h : 0 ≤ k) : cutD xs none (some k) = xs.take k.toNat := by
  have := cut_to xs k.toNat
  rw [Int.toNat_of_nonneg h] at this
  exact this
theorem cut_fromI {α : Type} (xs : List α) {k : Int} (h : 0 ≤ k) : cutD xs (some k) none = xs.drop k.toNat := by
  have := cut_from xs k.toNat
  rw [Int.toNat_of_nonneg h] at this
  exact this
theorem cut_last {α : Type} (xs : List α) : cutD xs none (some (-1)) = xs.dropLast := by
  unfold cutD
  rw [HT.sIx_none]
  have : HT.sIx xs.length xs.length (some (-1)) = xs.length - 1 := by
    have h := HT.clip_eq (-1) xs.length xs.length
    rw [if_pos (by decide)] at h
    omega
  rw [this]
  simp [List.dropLast_eq_take]
theorem pick_eq (s : DS) (xs : List D) (h : xs ≠ []) (h2 : xs.length ≤ 1000000) (Rm : List MO) : ∃ x s', m__law_pick [.cell 1, .lst xs] (DM s Rm) = .ok x (DM s' Rm) ∧ x ∈ xs := by
  have hl : (0 : Int) < (xs.length : Int) := by
    have : xs.length ≠ 0 := fun z => h (List.eq_nil_of_length_eq_zero z)
    omega
  obtain ⟨r, s', e, h3, h4⟩ := draw_eq s (xs.length : Int) hl (by omega) Rm
  obtain ⟨x, hx, ha, _⟩ := atI_in (xs := xs) h3 h4
  refine ⟨x, s', ?_, hx⟩
  simp [m__law_pick, mOf, sv__law_pick, startE, e, ha]
theorem string_eq (s : DS) (n : Int) (h0 : 0 ≤ n) (h1 : n ≤ 1000) (Rm : List MO) : ∃ ns s', m__law_string [.cell 1, .int n] (DM s Rm) = .ok (bs ns) (DM s' Rm) ∧ (ns.length : Int) ≤ n ∧ By ns := by
  obtain ⟨r, s1, e, h3, h4⟩ := draw_eq s (n + 1) (by omega) (by omega) Rm
  have hr : rgOk r = true := decide_eq_true ⟨by omega, by omega⟩
  have key := compL_draw (g := gN 2) (el := (eArgs m__law_pick (eCons (eVar 0) (eCons (eArgs fLst (eCons (eC (.int 0)) (eCons (eC (.int 0)) (eCons (eC (.int 1)) (eCons (eC (.int 2)) (eCons (eC (.int 5)) (eCons (eC (.int 6)) (eCons (eC (.int 254)) (eCons (eC (.int 255)) (eCons (eC (.int 255)) (eCons (eArgs m__law_draw (eCons (eVar 0) (eCons (eC (.int 256)) eNil))) eNil))))))))))) eNil)))) (e := [some (.cell 1), some (.int n), none]) (Rm := Rm) (P := fun y => ∃ i : Int, y = .int i ∧ 0 ≤ i ∧ i ≤ 255)
    (rangeD 0 r.toNat) [] s1 (by simp [rangeD, big]; omega) (fun d hd s => by
      obtain ⟨q, s2, e2, h5, h6⟩ := draw_eq s 256 (by decide) (by decide) Rm
      obtain ⟨x, s3, e3, hx⟩ := pick_eq s2 [.int 0, .int 0, .int 1, .int 2, .int 5, .int 6, .int 254, .int 255, .int 255, .int q] (by simp) (by simp) Rm
      refine ⟨_, x, s3, rfl, ?_, ?_⟩
      · simp [e2, e3, big]
      · simp at hx
        rcases hx with rfl | rfl | rfl | rfl | rfl | rfl | rfl | rfl | rfl | rfl <;> exact ⟨_, rfl, by omega, by omega⟩)
  obtain ⟨ys, s2, e2, hl, hP⟩ := key
  have hys : ∃ ns : List Int, ys = ns.map D.int ∧ By ns := by
    clear e2 hl
    induction ys with
    | nil => exact ⟨[], rfl, By.nil⟩
    | cons y ys ih =>
      obtain ⟨i, rfl, hi⟩ := hP y (by simp)
      obtain ⟨ns, rfl, hn⟩ := ih fun z hz => hP z (by simp [hz])
      exact ⟨i :: ns, rfl, hn.cons hi⟩
  obtain ⟨ns, rfl, hn⟩ := hys
  refine ⟨ns, s2, ?_, ?_, hn⟩
  · simp [m__law_string, mOf, sv__law_string, startE, e, hr, wipeE]
    rw [e2]
    simp [bs]
  · rw [List.length_map, rangeD_length] at hl
    omega
theorem is_int_eq (i lo hi : Int) (M : List MO) : m_is_int [.int i, .int lo, .int hi] M = .ok (.bl (decide (lo ≤ i) && decide (i ≤ hi))) M := by
  simp [m_is_int, mOf, sv_is_int, startE]
  by_cases h : lo ≤ i <;> by_cases h2 : i ≤ hi <;> simp [h, h2]
theorem is_bytes_gen (ns : List Int) (M : List MO) : m_is_bytes [bs ns] M = .ok (.bl (decide (ns.length ≤ 400) && ns.all fun b => decide (0 ≤ b) && decide (b ≤ 255))) M := by
  by_cases hl : ns.length ≤ 400
  · have h1 : ¬ (400 : Int) < (ns.length : Int) := by omega
    simp only [m_is_bytes, mOf, sv_is_bytes, startE]
    simp [h1, hl, wipeE]
    have key := compL_map (c := D.int) (g := gN 1) (el := (eArgs m_is_int (eCons (eVar 1) (eCons (eC (.int 0)) (eCons (eC (.int 255)) eNil))))) (e := [some (bs ns), none]) (M := M) (fun b => .bl (decide (0 ≤ b) && decide (b ≤ 255))) ns (by unfold big; omega) (fun b hb => ⟨_, rfl, by simp [is_int_eq]⟩)
    simp [key]
    have : (List.map (fun b : Int => D.bl (decide (0 ≤ b) && decide (b ≤ 255))) ns) = (ns.map fun b => decide (0 ≤ b) && decide (b ≤ 255)).map D.bl := by
      rw [List.map_map]
      rfl
    rw [this, fAll_bls]
    simp [List.all_map, Function.comp_def]
  · have h1 : (400 : Int) < (ns.length : Int) := by omega
    simp [m_is_bytes, mOf, sv_is_bytes, startE, h1, hl]
theorem is_bytes_eq {ns : List Int} (h : By ns) (hl : ns.length ≤ 400) (M : List MO) : m_is_bytes [bs ns] M = .ok (.bl true) M := by
  rw [is_bytes_gen, decide_eq_true hl]
  have : (ns.all fun b => decide (0 ≤ b) && decide (b ≤ 255)) = true := by
    rw [List.all_eq_true]
    intro b hb
    have := h b hb
    simp [this.1, this.2]
  rw [this]
  rfl
theorem check_bytes_eq {ns : List Int} (h : By ns) (hl : ns.length ≤ 400) (M : List MO) : m_check_bytes [bs ns] M = .ok .non M := by
  simp [m_check_bytes, mOf, sv_check_bytes, startE, is_bytes_eq h hl]
end KB
namespace KB
open PySem PySem.Spec PyProof.Rows L2
/-! ### the order of byte strings -/
theorem lexLt_asymm : ∀ (a b : List Int), HT.lexLt a b = true → HT.lexLt b a = false
  | [], [], _ => rfl
  | [], _ :: _, _ => rfl
  | _ :: _, [], h => by simp [HT.lexLt] at h
  | x :: a, y :: b, h => by
    rw [HT.lexLt_cons] at h ⊢
    by_cases e : x = y
    · rw [if_pos e] at h; rw [if_pos e.symm]; exact lexLt_asymm a b h
    · rw [if_neg e] at h; rw [if_neg (fun z => e z.symm)]
      have := of_decide_eq_true h
      exact decide_eq_false (by omega)
theorem lexLt_irrefl : ∀ a : List Int, HT.lexLt a a = false
  | [] => rfl
  | x :: a => by rw [HT.lexLt_cons, if_pos rfl]; exact lexLt_irrefl a
theorem lexLt_total : ∀ (a b : List Int), HT.lexLt a b = false → HT.lexLt b a = false → a = b
  | [], [], _, _ => rfl
  | [], _ :: _, h, _ => by simp [HT.lexLt] at h
  | _ :: _, [], _, h => by simp [HT.lexLt] at h
  | x :: a, y :: b, h, h' => by
    rw [HT.lexLt_cons] at h h'
    by_cases e : x = y
    · subst e
      rw [if_pos rfl] at h h'
      rw [lexLt_total a b h h']
    · rw [if_neg e] at h
      rw [if_neg (fun z => e z.symm)] at h'
      have h1 := of_decide_eq_false h
      have h2 := of_decide_eq_false h'
      omega
theorem lexLt_trans : ∀ (a b c : List Int), HT.lexLt a b = true → HT.lexLt b c = true → HT.lexLt a c = true
  | _, [], [], _, h => by simp [HT.lexLt] at h
  | _, _ :: _, [], _, h => by simp [HT.lexLt] at h
  | [], _, _ :: _, _, _ => rfl
  | x :: a, [], _ :: _, h, _ => by simp [HT.lexLt] at h
  | x :: a, y :: b, z :: c, h, h' => by
    rw [HT.lexLt_cons] at h h' ⊢
    by_cases e : x = y
    · subst e
      rw [if_pos rfl] at h
      by_cases e2 : x = z
      · subst e2; rw [if_pos rfl] at h' ⊢; exact lexLt_trans a b c h h'
      · rw [if_neg e2] at h' ⊢; exact h'
    · rw [if_neg e] at h
      have h1 := of_decide_eq_true h
      by_cases e2 : y = z
      · subst e2; rw [if_neg e]; exact h
      · rw [if_neg e2] at h'
        have h2 := of_decide_eq_true h'
        rw [if_neg (by omega)]
        exact decide_eq_true (by omega)
/-! ### the end of a prefix's range -/
def endOf : List Int → Option (List Int)
  | [] => none
  | x :: xs => match endOf xs with
    | some e => some (x :: e)
    | none => if x = 255 then none else some [x + 1]
theorem endOf_snoc255 : ∀ xs : List Int, endOf (xs ++ [255]) = endOf xs
  | [] => rfl
  | x :: xs => by
    show (match endOf (xs ++ [255]) with | some e => some (x :: e) | none => _) = _
    rw [endOf_snoc255 xs]
    rfl
theorem endOf_snoc {x : Int} (h : x ≠ 255) : ∀ xs : List Int, endOf (xs ++ [x]) = some (xs ++ [x + 1])
  | [] => by simp [endOf, h]
  | y :: xs => by
    show (match endOf (xs ++ [x]) with | some e => some (y :: e) | none => _) = _
    rw [endOf_snoc h xs]
    rfl
theorem atI_of {α : Type} {xs : List α} {n : Nat} (h : n < xs.length) : atI xs (n : Int) = some xs[n] := atI_nat (List.getElem?_eq_getElem h)
theorem end_loop (p : List Int) (M : List MO) : ∀ (n : Nat) (k : Nat), n ≤ p.length → n + 1 ≤ k →
    ∃ l : Int, whileN (eAnd (eTest (eBin fGe (eVar 1) (eC (.int 0)))) (eTest (eBin fEq (eBin fIx (eVar 0) (eVar 1)) (eC (.int 255))))) (sAug 1 fISub (eC (.int 1))) k [some (bs p), some (.int ((n : Int) - 1))] M = .nx [some (bs p), some (.int l)] M ∧
      ((l < 0 ∧ endOf (p.take n) = none) ∨ ∃ j : Nat, ∃ h : j < p.length, l = (j : Int) ∧ endOf (p.take n) = some (p.take j ++ [p[j] + 1]))
  | 0, k, _, hk => by
    obtain ⟨k, rfl⟩ : ∃ k', k = k' + 1 := ⟨k - 1, by omega⟩
    refine ⟨-1, ?_, .inl ⟨by decide, rfl⟩⟩
    simp [whileN]
  | n + 1, k, hn, hk => by
    obtain ⟨k, rfl⟩ : ∃ k', k = k' + 1 := ⟨k - 1, by omega⟩
    have hlt : n < p.length := by omega
    have e1 : ((n + 1 : Nat) : Int) - 1 = (n : Int) := by omega
    have ht : p.take (n + 1) = p.take n ++ [p[n]] := by rw [List.take_add_one, List.getElem?_eq_getElem hlt]; rfl
    rw [e1]
    by_cases h : p[n] = 255
    · obtain ⟨l, hl, hr⟩ := end_loop p M n k (by omega) (by omega)
      refine ⟨l, ?_, ?_⟩
      · rw [← hl]
        have h0 : (0 : Int) ≤ (n : Int) := by omega
        simp [whileN, atI_of hlt, h, fEq, h0]
      · rw [ht, h, endOf_snoc255]
        exact hr
    · refine ⟨n, ?_, .inr ⟨n, hlt, rfl, ?_⟩⟩
      · have h0 : (0 : Int) ≤ (n : Int) := by omega
        simp [whileN, atI_of hlt, h, fEq, h0]
      · rw [ht, endOf_snoc h]
theorem end_of_eq (p : List Int) (hl : p.length ≤ 400) (M : List MO) : m_end_of [bs p] M = .ok (ob (endOf p)) M := by
  obtain ⟨l, h1, h2⟩ := end_loop p M p.length fuel (Nat.le_refl _) (by unfold fuel; omega)
  rw [List.take_length] at h2
  simp only [m_end_of, mOf, sv_end_of, startE]
  simp
  rw [h1]
  rcases h2 with ⟨h2, h3⟩ | ⟨j, hj, rfl, h3⟩
  · simp [h2, h3, ob]
  · have h0 : ¬ (j : Int) < 0 := by omega
    have hb : min j p.length + 1 ≤ big := by unfold big; omega
    simp [h0, h3, ob, atI_of hj, cut_to, hb]
theorem endOf_len : ∀ (p e : List Int), endOf p = some e → e.length ≤ p.length ∧ e ≠ []
  | [], e, h => by cases h
  | x :: xs, e, h => by
    unfold endOf at h
    cases q : endOf xs with
    | some e' =>
      rw [q] at h
      cases h
      have := endOf_len xs e' q
      simp only [List.length_cons]
      exact ⟨by omega, by simp⟩
    | none =>
      rw [q] at h
      dsimp only at h
      split at h
      · cases h
      · cases h; simp
theorem endOf_by : ∀ (p e : List Int), By p → endOf p = some e → By e
  | [], e, _, h => by cases h
  | x :: xs, e, hb, h => by
    unfold endOf at h
    cases q : endOf xs with
    | some e' =>
      rw [q] at h
      cases h
      exact (endOf_by xs e' hb.tail q).cons hb.head
    | none =>
      rw [q] at h
      dsimp only at h
      split at h
      · cases h
      · cases h
        have := hb.head
        exact By.nil.cons ⟨by omega, by omega⟩
theorem endOf_none : ∀ (p : List Int), (endOf p = none) ↔ p.filter (fun b => decide (b ≠ 255)) = []
  | [] => by simp [endOf]
  | x :: xs => by
    have ih := endOf_none xs
    unfold endOf
    cases q : endOf xs with
    | some e' =>
      rw [q] at ih
      simp at ih
      by_cases h : x = 255 <;> simp [h, ih]
    | none =>
      rw [q] at ih
      have ih' := ih.mp rfl
      by_cases h : x = 255
      · simp [h] at ih' ⊢; exact ih'
      · simp [h]
/-- the last byte of an end is above 0 -/
theorem endOf_last : ∀ (p e : List Int), By p → endOf p = some e → ∃ a x, e = a ++ [x] ∧ 0 < x
  | [], e, _, h => by cases h
  | x :: xs, e, hb, h => by
    unfold endOf at h
    cases q : endOf xs with
    | some e' =>
      rw [q] at h
      cases h
      obtain ⟨a, y, rfl, hy⟩ := endOf_last xs e' hb.tail q
      exact ⟨x :: a, y, rfl, hy⟩
    | none =>
      rw [q] at h
      dsimp only at h
      split at h
      · cases h
      · cases h
        have := hb.head
        exact ⟨[], x + 1, rfl, by omega⟩
/-- in the range: not below, and below the end -/
def inside (p s : List Int) : Bool := !HT.lexLt s p && (match endOf p with
  | none => true
  | some e => HT.lexLt s e)
theorem inside_eq : ∀ (p s : List Int), By s → inside p s = decide (s.take p.length = p)
  | [], s, _ => by cases s <;> simp [inside, endOf, HT.lexLt]
  | x :: xs, [], _ => by simp [inside, HT.lexLt]
  | x :: xs, y :: ys, hs => by
    have ih := inside_eq xs ys hs.tail
    have hy := hs.head
    unfold inside at ih ⊢
    rw [HT.lexLt_cons]
    simp only [List.length_cons, List.take_succ_cons, List.cons.injEq]
    unfold endOf
    by_cases h : y = x
    · subst h
      simp only [if_true, true_and]
      cases q : endOf xs with
      | some e => rw [q] at ih; simp only [HT.lexLt_cons, if_true]; exact ih
      | none =>
        rw [q] at ih
        simp only [Bool.and_true] at ih
        by_cases h2 : y = 255
        · simp [h2, ih]
        · have e1 : HT.lexLt (y :: ys) [y + 1] = true := by
            rw [HT.lexLt_cons, if_neg (by omega)]
            exact decide_eq_true (by omega)
          simp [h2, ih, e1]
    · rw [if_neg h]
      have hd : decide (y = x ∧ ys.take xs.length = xs) = false := decide_eq_false fun z => h z.1
      rw [hd]
      by_cases h2 : y < x
      · simp [h2]
      · have e0 : decide (y < x) = false := decide_eq_false h2
        rw [e0]
        cases q : endOf xs with
        | some e =>
          simp only [HT.lexLt_cons, if_neg h, e0]
          rfl
        | none =>
          by_cases h3 : x = 255
          · omega
          · simp only [h3, if_false]
            have e1 : HT.lexLt (y :: ys) [x + 1] = false := by
              rw [HT.lexLt_cons]
              by_cases h4 : y = x + 1
              · rw [if_pos h4]; cases ys <;> rfl
              · rw [if_neg h4]; exact decide_eq_false (by omega)
            rw [e1]
            rfl
theorem prefix_end_eq {p : List Int} (h : By p) (hl : p.length ≤ 400) (M : List MO) : m_prefix_end [bs p] M = .ok (ob (endOf p)) M := by
  simp [m_prefix_end, mOf, sv_prefix_end, startE, check_bytes_eq h hl, end_of_eq p hl]
theorem prefix_range_eq {p : List Int} (h : By p) (hl : p.length ≤ 400) (M : List MO) : m_prefix_range [bs p] M = .ok (.tup [bs p, ob (endOf p)]) M := by
  simp [m_prefix_range, mOf, sv_prefix_range, startE, check_bytes_eq h hl, end_of_eq p hl]
end KB
namespace KB
open PySem PySem.Spec PyProof.Rows L2
/-! ### laws: helpers -/
@[simp] theorem DM_length (s : DS) (Rm : List MO) : (DM s Rm).length = Rm.length + 2 := rfl
@[simp] theorem DM_snoc (s : DS) (Rm : List MO) (o : MO) : DM s Rm ++ [o] = DM s (Rm ++ [o]) := rfl
@[simp] theorem DM_at (s : DS) (Rm : List MO) (n : Nat) : (DM s Rm)[n + 2]? = Rm[n]? := rfl
theorem fAddC_res {x y : D} {M : List MO} {a b : List D} (hx : res M x = .lst a) (hy : res M y = .lst b) (hl : a.length + b.length ≤ big) : fAddC x y M = .ok (.cell M.length) (M ++ [.lst (a ++ b)]) := by
  simp [fAddC, hx, hy, hl]
theorem res_at {M : List MO} {n : Nat} {ds : List D} (h : M[n]? = some (.lst ds)) : res M (.cell n) = .lst ds := by simp [res, h]
theorem forC_inv {g : GV} {b : SV} {n : Nat} {M : List MO} {ds : List D} (hM : M[n]? = some (.lst ds)) (I : EN → Prop)
    (hs : ∀ d ∈ ds, ∀ e, I e → ∃ e1 e2, g d e = some e1 ∧ b e1 M = .nx e2 M ∧ I e2) : ∀ (k i : Nat) (e : EN), I e → ds.length < i + k → i ≤ ds.length → ∃ e', forC g b n k i e M = .nx e' M ∧ I e'
  | 0, i, e, hI, hk, hi => by omega
  | k + 1, i, e, hI, hk, hi => by
    unfold forC
    simp only [hM]
    cases hd : ds[i]? with
    | none => exact ⟨e, rfl, hI⟩
    | some d =>
      obtain ⟨e1, e2, h1, h2, h3⟩ := hs d (List.mem_of_getElem? hd) e hI
      simp only [h1, h2, RS.turn_nx]
      exact forC_inv hM I hs k (i + 1) e2 h3 (by omega) (List.getElem?_eq_some_iff.mp hd).1
theorem compC_acc {α : Type} {c : α → D} {g : GV} {t : EB} {el : EV} {e : EN} {n : Nat} {M : List MO} {f : α → D} {p : α → Bool} {xs : List α} (hM : M[n]? = some (.lst (xs.map c))) (hl : xs.length ≤ 1000) (h : ∀ x ∈ xs, ∃ e1, g (c x) e = some e1 ∧ t e1 M = .ok (p x) M ∧ (p x = true → el e1 M = .ok (f x) M)) :
    ∀ (k i : Nat) (acc : List D), xs.length < i + k → i ≤ xs.length → acc.length ≤ i → compC g t el e n k i acc M = .ok (acc ++ ((xs.drop i).filter p).map f) M
  | 0, i, acc, hk, hi, _ => by omega
  | k + 1, i, acc, hk, hii, ha => by
    unfold compC
    simp only [hM]
    rw [List.getElem?_map]
    cases hd : xs[i]? with
    | none =>
      have : xs.length ≤ i := List.getElem?_eq_none_iff.mp hd
      simp [List.drop_eq_nil_of_le this]
    | some d =>
      obtain ⟨e1, h1, h2, h3⟩ := h d (List.mem_of_getElem? hd)
      obtain ⟨hi, hdi⟩ := List.getElem?_eq_some_iff.mp hd
      have hb : acc.length < big := by unfold big; omega
      have hdr : xs.drop i = d :: xs.drop (i + 1) := by rw [List.drop_eq_getElem_cons hi, hdi]
      simp only [Option.map_some, h1, R.nox_ok, h2]
      cases hp : p d with
      | true =>
        simp only [if_true, h3 hp, R.nox_ok, hb]
        rw [compC_acc hM hl h k (i + 1) (acc ++ [f d]) (by omega) hi (by simp; omega), hdr]
        simp [hp]
      | false =>
        simp only [Bool.false_eq_true, if_false]
        rw [compC_acc hM hl h k (i + 1) acc (by omega) hi (by omega), hdr]
        simp [hp]
theorem compC_filter {α : Type} {c : α → D} {g : GV} {t : EB} {el : EV} {e : EN} {n : Nat} {M : List MO} (f : α → D) (p : α → Bool) (xs : List α) (hM : M[n]? = some (.lst (xs.map c))) (hl : xs.length ≤ 1000) (h : ∀ x ∈ xs, ∃ e1, g (c x) e = some e1 ∧ t e1 M = .ok (p x) M ∧ (p x = true → el e1 M = .ok (f x) M)) :
    compC g t el e n fuel 0 [] M = .ok ((xs.filter p).map f) M := by
  have := compC_acc hM hl (f := f) (p := p) h fuel 0 [] (by unfold fuel; omega) (by omega) (by simp)
  simpa using this
/-- a list of byte strings -/
def kl (xs : List (List Int)) : List D := xs.map bs
@[simp] theorem kl_length (xs : List (List Int)) : (kl xs).length = xs.length := by simp [kl]
@[simp] theorem kl_append (xs ys : List (List Int)) : kl xs ++ kl ys = kl (xs ++ ys) := by simp [kl]
theorem kl_nil : ([] : List D) = kl [] := rfl
theorem ys_kl {ys : List D} {Q : List Int → Prop} (h : ∀ y ∈ ys, ∃ b, y = bs b ∧ Q b) : ∃ xs, ys = kl xs ∧ ∀ x ∈ xs, Q x := by
  induction ys with
  | nil => exact ⟨[], rfl, by simp⟩
  | cons y ys ih =>
    obtain ⟨b, rfl, hb⟩ := h y (by simp)
    obtain ⟨xs, rfl, hx⟩ := ih fun z hz => h z (by simp [hz])
    refine ⟨b :: xs, rfl, fun x hx' => ?_⟩
    rcases List.mem_cons.mp hx' with rfl | hx'
    · exact hb
    · exact hx x hx'
theorem eqv_kl_nil (xs : List (List Int)) : dEqv (.lst (kl xs)) (.lst []) = xs.isEmpty := by
  rw [dEqv_nil]
  cases xs <;> rfl
end KB
namespace KB
open PySem PySem.Spec PyProof.Rows L2
/-! ### common prefixes, separators -/
def comN : List Int → List Int → Nat
  | x :: a, y :: b => if x = y then comN a b + 1 else 0
  | _, _ => 0
theorem comN_nil_l (b : List Int) : comN [] b = 0 := by cases b <;> rfl
theorem comN_nil_r (a : List Int) : comN a [] = 0 := by cases a <;> rfl
theorem comN_le : ∀ (a b : List Int), comN a b ≤ a.length ∧ comN a b ≤ b.length
  | [], b => by rw [comN_nil_l]; simp
  | _ :: _, [] => by simp [comN]
  | x :: a, y :: b => by
    have := comN_le a b
    simp only [comN, List.length_cons]
    split <;> omega
theorem comN_take : ∀ (a b : List Int), a.take (comN a b) = b.take (comN a b)
  | [], b => by rw [comN_nil_l]; simp
  | _ :: _, [] => by simp [comN]
  | x :: a, y :: b => by
    simp only [comN]
    split
    · rename_i h; subst h; simp [comN_take a b]
    · simp
theorem take_iff_com : ∀ (k : Nat) (a b : List Int), k + 1 ≤ a.length → k + 1 ≤ b.length → (a.take (k + 1) = b.take (k + 1) ↔ k < comN a b)
  | k, [], b, h1, _ => by simp at h1
  | k, _ :: _, [], _, h2 => by simp at h2
  | k, x :: a, y :: b, h1, h2 => by
    simp only [List.take_succ_cons, comN]
    by_cases h : x = y
    · subst h
      simp only [if_true]
      cases k with
      | zero => simp
      | succ k =>
        have := take_iff_com k a b (by simpa using h1) (by simpa using h2)
        constructor
        · intro e; simp only [List.cons.injEq, true_and] at e; have := this.mp e; omega
        · intro e; simp only [List.cons.injEq, true_and]; exact this.mpr (by omega)
    · rw [if_neg h]; simp [h]
theorem com_next : ∀ (a b : List Int), comN a b < a.length → comN a b < b.length → a[comN a b]? ≠ b[comN a b]?
  | [], b, h, _ => by simp at h
  | _ :: _, [], _, h => by simp at h
  | x :: a, y :: b, h1, h2 => by
    simp only [comN] at h1 h2 ⊢
    by_cases h : x = y
    · subst h
      simp only [if_true, List.length_cons] at h1 h2 ⊢
      simp only [List.getElem?_cons_succ]
      exact com_next a b (by omega) (by omega)
    · rw [if_neg h]; simp [h]
theorem com_loop (a b : List Int) (M : List MO) : ∀ (n k j : Nat), comN a b - j = n → j ≤ comN a b → n + 1 ≤ k →
    whileN (eAnd (eTest (eBin fLt (eVar 2) (eArgs fLen (eCons (eVar 0) eNil)))) (eAnd (eTest (eBin fLt (eVar 2) (eArgs fLen (eCons (eVar 1) eNil)))) (eTest (eBin fEq (eBin fIx (eVar 0) (eVar 2)) (eBin fIx (eVar 1) (eVar 2)))))) (sAug 2 fIAdd (eC (.int 1))) k [some (bs a), some (bs b), some (.int (j : Int))] M = .nx [some (bs a), some (bs b), some (.int (comN a b : Nat))] M
  | 0, k, j, hn, hj, hk => by
    obtain ⟨k, rfl⟩ : ∃ k', k = k' + 1 := ⟨k - 1, by omega⟩
    obtain rfl : j = comN a b := by omega
    by_cases h1 : comN a b < a.length
    · by_cases h2 : comN a b < b.length
      · have := com_next a b h1 h2
        have h1' : (comN a b : Int) < (a.length : Int) := by omega
        have h2' : (comN a b : Int) < (b.length : Int) := by omega
        rw [List.getElem?_eq_getElem h1, List.getElem?_eq_getElem h2] at this
        have hne : ¬ a[comN a b] = b[comN a b] := fun e => this (by rw [e])
        simp [whileN, h1', h2', atI_of h1, atI_of h2, fEq, hne]
      · have h1' : (comN a b : Int) < (a.length : Int) := by omega
        have h2' : ¬ (comN a b : Int) < (b.length : Int) := by omega
        simp [whileN, h1', h2']
    · have h1' : ¬ (comN a b : Int) < (a.length : Int) := by omega
      simp [whileN, h1']
  | n + 1, k, j, hn, hj, hk => by
    obtain ⟨k, rfl⟩ : ∃ k', k = k' + 1 := ⟨k - 1, by omega⟩
    have hl := comN_le a b
    have ih := com_loop a b M n k (j + 1) (by omega) (by omega) (by omega)
    have h1 : j < a.length := by omega
    have h2 : j < b.length := by omega
    have h1' : (j : Int) < (a.length : Int) := by omega
    have h2' : (j : Int) < (b.length : Int) := by omega
    have e : a[j] = b[j] := by
      have := (take_iff_com j a b (by omega) (by omega)).mpr (by omega)
      have e2 : (a.take (j + 1))[j]? = (b.take (j + 1))[j]? := by rw [this]
      rw [List.getElem?_take_of_lt (by omega), List.getElem?_take_of_lt (by omega), List.getElem?_eq_getElem h1, List.getElem?_eq_getElem h2] at e2
      exact Option.some.inj e2
    have e3 : ((j : Int) + 1) = ((j + 1 : Nat) : Int) := by omega
    rw [← ih]
    simp [whileN, h1', h2', atI_of h1, atI_of h2, fEq, e]
theorem common_length_eq (a b : List Int) (h : a.length ≤ 1000) (M : List MO) : m_common_length [bs a, bs b] M = .ok (.int (comN a b : Nat)) M := by
  have hl := comN_le a b
  have := com_loop a b M (comN a b - 0) fuel 0 rfl (by omega) (by unfold fuel; omega)
  simp only [m_common_length, mOf, sv_common_length, startE]
  simp at this ⊢
  rw [this]
  simp
/-- the separator of a < b -/
def sepOf (a b : List Int) : List Int := b.take (comN a b + 1)
theorem com_lt : ∀ (a b : List Int), HT.lexLt a b = true → comN a b < b.length
  | [], [], h => by simp [HT.lexLt] at h
  | [], _ :: _, _ => by simp [comN]
  | _ :: _, [], h => by simp [HT.lexLt] at h
  | x :: a, y :: b, h => by
    rw [HT.lexLt_cons] at h
    simp only [comN, List.length_cons]
    by_cases e : x = y
    · rw [if_pos e] at h ⊢; have := com_lt a b h; omega
    · rw [if_neg e]; omega
theorem sep_lt : ∀ (a b : List Int), HT.lexLt a b = true → HT.lexLt a (sepOf a b) = true
  | [], [], h => by simp [HT.lexLt] at h
  | [], _ :: _, _ => by simp [sepOf, comN, HT.lexLt]
  | _ :: _, [], h => by simp [HT.lexLt] at h
  | x :: a, y :: b, h => by
    rw [HT.lexLt_cons] at h
    simp only [sepOf, comN, List.take_succ_cons, HT.lexLt_cons]
    by_cases e : x = y
    · rw [if_pos e] at h ⊢; rw [if_pos e]; exact sep_lt a b h
    · rw [if_neg e] at h ⊢; exact h
theorem lex_take : ∀ (b : List Int) (n : Nat), HT.lexLt b (b.take n) = false
  | [], n => by simp [HT.lexLt]
  | x :: b, 0 => rfl
  | x :: b, n + 1 => by rw [List.take_succ_cons, HT.lexLt_cons, if_pos rfl]; exact lex_take b n
theorem sep_le (a b : List Int) : HT.lexLt b (sepOf a b) = false := lex_take _ _
theorem sep_len (a b : List Int) (h : HT.lexLt a b = true) : (sepOf a b).length = comN a b + 1 := by
  have := com_lt a b h
  rw [sepOf, List.length_take]; omega
/-- no shorter string separates -/
theorem sep_short : ∀ (x a b : List Int), x.length ≤ comN a b → HT.lexLt a x = true → HT.lexLt b x = true
  | [], a, b, _, h => by cases a <;> simp [HT.lexLt] at h
  | x :: xs, [], b, h, _ => by rw [comN_nil_l] at h; simp at h
  | x :: xs, _ :: _, [], h, _ => by simp [comN] at h
  | x :: xs, y :: a, z :: b, h, h1 => by
    simp only [comN, List.length_cons] at h
    by_cases e : y = z
    · subst e
      rw [if_pos rfl] at h
      rw [HT.lexLt_cons] at h1 ⊢
      by_cases e2 : y = x
      · rw [if_pos e2] at h1 ⊢; exact sep_short xs a b (by omega) h1
      · rw [if_neg e2] at h1 ⊢; exact h1
    · rw [if_neg e] at h; omega
theorem check_pair_eq {a b : List Int} (ha : By a) (hb : By b) (la : a.length ≤ 400) (lb : b.length ≤ 400) (h : HT.lexLt a b = true) (M : List MO) : m_check_pair [bs a, bs b] M = .ok .non M := by
  simp [m_check_pair, mOf, sv_check_pair, startE, check_bytes_eq ha la, check_bytes_eq hb lb, h]
theorem separator_eq {a b : List Int} (ha : By a) (hb : By b) (la : a.length ≤ 400) (lb : b.length ≤ 400) (h : HT.lexLt a b = true) (M : List MO) : m_separator [bs a, bs b] M = .ok (bs (sepOf a b)) M := by
  have e : cutD b none (some ((comN a b : Int) + 1)) = sepOf a b := by
    rw [show ((comN a b : Int) + 1) = ((comN a b + 1 : Nat) : Int) from by omega, cut_to]; rfl
  simp [m_separator, mOf, sv_separator, startE, check_pair_eq ha hb la lb h, common_length_eq a b (by omega), e]
theorem successor_eq {a : List Int} (ha : By a) (la : a.length ≤ 400) (M : List MO) : m_successor [bs a] M = .ok (bs (a ++ [0])) M := by
  have : a.length + 1 ≤ big := by unfold big; omega
  simp [m_successor, mOf, sv_successor, startE, check_bytes_eq ha la, this]
theorem lex_succ : ∀ (a : List Int) (x : Int), HT.lexLt a (a ++ [x]) = true
  | [], x => rfl
  | y :: a, x => by rw [List.cons_append, HT.lexLt_cons, if_pos rfl]; exact lex_succ a x
/-- a ++ [0] is the next one -/
theorem lex_succ_le : ∀ (a b : List Int), By b → HT.lexLt a b = true → HT.lexLt b (a ++ [0]) = false
  | [], [], _, h => by simp [HT.lexLt] at h
  | [], y :: b, hb, _ => by
    have := hb y (by simp)
    rw [List.nil_append, HT.lexLt_cons]
    by_cases e : y = 0
    · rw [if_pos e]; cases b <;> rfl
    · rw [if_neg e]; exact decide_eq_false (by omega)
  | _ :: _, [], _, h => by simp [HT.lexLt] at h
  | x :: a, y :: b, hb, h => by
    rw [HT.lexLt_cons] at h
    rw [List.cons_append, HT.lexLt_cons]
    by_cases e : x = y
    · rw [if_pos e] at h; rw [if_pos e.symm]; exact lex_succ_le a b hb.tail h
    · rw [if_neg e] at h; rw [if_neg fun z => e z.symm]
      have := of_decide_eq_true h
      exact decide_eq_false (by omega)
@[simp] theorem fMin_bs (a b : List Int) (M : List MO) : fMin [bs a, bs b] M = .ok (if HT.lexLt b a then bs b else bs a) M := by simp [fMin, f2M, bs]
@[simp] theorem fMax_bs (a b : List Int) (M : List MO) : fMax [bs a, bs b] M = .ok (if HT.lexLt a b then bs b else bs a) M := by simp [fMax, f2M, bs]
theorem bs_inj {a b : List Int} : (bs a = bs b) ↔ a = b := by
  constructor
  · intro h
    have : a.map D.int = b.map D.int := by injection h
    exact List.map_inj_right (fun x y e => by injection e) |>.mp this
  · intro h; rw [h]
theorem min_max_ne {a b : List Int} (h : a ≠ b) : ∃ lo hi, (if HT.lexLt b a then bs b else bs a) = bs lo ∧ (if HT.lexLt a b then bs b else bs a) = bs hi ∧ HT.lexLt lo hi = true ∧ ((lo = a ∧ hi = b) ∨ (lo = b ∧ hi = a)) := by
  cases h1 : HT.lexLt a b with
  | true => exact ⟨a, b, by rw [lexLt_asymm _ _ h1]; rfl, rfl, h1, .inl ⟨rfl, rfl⟩⟩
  | false =>
    cases h2 : HT.lexLt b a with
    | true => exact ⟨b, a, rfl, rfl, h2, .inr ⟨rfl, rfl⟩⟩
    | false => exact absurd (lexLt_total _ _ h1 h2) h
theorem forL_inv {g : GV} {b : SV} (I : Nat → EN → List MO → Prop) : ∀ (ds : List D) (i : Nat) (e : EN) (M : List MO), I i e M → (∀ d ∈ ds, ∀ i e M, I i e M → ∃ e1 e2 M2, g d e = some e1 ∧ (b e1 M = .nx e2 M2 ∨ b e1 M = .cnt e2 M2) ∧ I (i + 1) e2 M2) →
    ∃ e' M', forL g b ds e M = .nx e' M' ∧ I (i + ds.length) e' M'
  | [], i, e, M, h, _ => ⟨e, M, rfl, h⟩
  | d :: ds, i, e, M, h, hs => by
    obtain ⟨e1, e2, M2, h1, h2, h3⟩ := hs d (List.mem_cons_self ..) i e M h
    obtain ⟨e', M', h4, h5⟩ := forL_inv I ds (i + 1) e2 M2 h3 fun d hd => hs d (List.mem_cons_of_mem _ hd)
    refine ⟨e', M', ?_, by rw [List.length_cons, show i + (ds.length + 1) = i + 1 + ds.length from by omega]; exact h5⟩
    unfold forL
    simp only [h1]
    rcases h2 with h2 | h2
    · rw [h2]; exact h4
    · rw [h2]; exact h4
theorem forL_ix {g : GV} {b : SV} (I : Nat → EN → List MO → Prop) : ∀ (ds : List D) (i : Nat) (e : EN) (M : List MO), I i e M → (∀ j d, ds[j]? = some d → ∀ e M, I (i + j) e M → ∃ e1 e2 M2, g d e = some e1 ∧ (b e1 M = .nx e2 M2 ∨ b e1 M = .cnt e2 M2) ∧ I (i + j + 1) e2 M2) →
    ∃ e' M', forL g b ds e M = .nx e' M' ∧ I (i + ds.length) e' M'
  | [], i, e, M, h, _ => ⟨e, M, rfl, h⟩
  | d :: ds, i, e, M, h, hs => by
    obtain ⟨e1, e2, M2, h1, h2, h3⟩ := hs 0 d rfl e M h
    obtain ⟨e', M', h4, h5⟩ := forL_ix I ds (i + 1) e2 M2 h3 fun j d hd e M h => by
      have := hs (j + 1) d (by simpa using hd) e M (by rw [show i + (j + 1) = i + 1 + j from by omega]; exact h)
      rw [show i + (j + 1) + 1 = i + 1 + j + 1 from by omega] at this
      exact this
    refine ⟨e', M', ?_, by rw [List.length_cons, show i + (ds.length + 1) = i + 1 + ds.length from by omega]; exact h5⟩
    unfold forL
    simp only [h1]
    rcases h2 with h2 | h2
    · rw [h2]; exact h4
    · rw [h2]; exact h4
end KB
namespace KB
open PySem PySem.Spec PyProof.Rows L2
/-! ### lists of byte strings, in a cell or not -/
theorem rgOk_of {j : Int} (h1 : -1000000000 ≤ j) (h2 : j ≤ 1000000000) : rgOk j = true := decide_eq_true ⟨h1, h2⟩
def SqX {α : Type} (c : α → D) (M : List MO) (x : D) (xs : List α) : Prop := x = .lst (xs.map c) ∨ ∃ n, x = .cell n ∧ M[n]? = some (.lst (xs.map c))
abbrev Sq (M : List MO) (x : D) (ks : List (List Int)) : Prop := SqX bs M x ks
section
variable {α : Type} {c : α → D} {M : List MO} {x : D} {xs : List α}
theorem SqX.res (h : SqX c M x xs) : res M x = .lst (xs.map c) := by
  rcases h with rfl | ⟨n, rfl, h⟩
  · rfl
  · exact res_at h
theorem SqX.isi (h : SqX c M x xs) : fIsi "list" x M = .ok (.bl true) M := by
  unfold fIsi
  rw [h.res]
  rfl
theorem SqX.len (h : SqX c M x xs) : fLen [x] M = .ok (.int xs.length) M := by
  unfold fLen
  simp only [h.res, List.length_map]
theorem SqX.ix (h : SqX c M x xs) {i : Nat} {y : α} (hi : xs[i]? = some y) : fIx x (.int (i : Nat)) M = .ok (c y) M := by
  unfold fIx
  simp only [h.res]
  rw [atI_map, show atI xs (i : Int) = some y from atI_nat hi]
  rfl
theorem lc_sq (h : SqX c M x xs) (hl : xs.length ≤ 1000) {e : EN} {j i : Nat} (hj : e[j]? = some (some x)) {t : EB} {el : EV} (f : α → D) (p : α → Bool)
    (hs : ∀ y ∈ xs, t ((wipeE e [i]).set i (some (c y))) M = .ok (p y) M ∧ (p y = true → el ((wipeE e [i]).set i (some (c y))) M = .ok (f y) M)) :
    eLcA (eSeq (eVar j)) (gN i) [i] t el e M = .ok ((xs.filter p).map f) M := by
  rw [ev_lcA, ev_seq, ev_var, hj]
  rcases h with rfl | ⟨n, rfl, h⟩
  · simp only [R.bind_ok, srcOf_lst]
    exact compL_filter f p xs (by unfold big; omega) fun y hy => ⟨_, rfl, hs y hy⟩
  · simp only [R.bind_ok, srcOf_cell _ h]
    exact compC_filter f p xs h hl fun y hy => ⟨_, rfl, hs y hy⟩
theorem lc_range {ea : EA} {e : EN} {j : Int} {n i : Nat} (hn : n ≤ 1000) (hj : j.toNat = n) (hlo : -1000 ≤ j) (hea : ea e M = .ok [.int j] M) {t : EB} {el : EV} (f : Nat → D) (p : Nat → Bool)
    (hs : ∀ k, k < n → t ((wipeE e [i]).set i (some (.int (k : Nat)))) M = .ok (p k) M ∧ (p k = true → el ((wipeE e [i]).set i (some (.int (k : Nat)))) M = .ok (f k) M)) :
    eLcA (eRange1 ea) (gN i) [i] t el e M = .ok (((List.range n).filter p).map f) M := by
  have hr : rgOk j = true := rgOk_of (by omega) (by omega)
  rw [ev_lcA, ev_range1, hea]
  simp only [R.bind_ok, hr, if_true, hj]
  have e1 : rangeD 0 n = (List.range n).map fun k => D.int (k : Nat) := by
    unfold rangeD
    exact List.map_congr_left fun k _ => by simp
  rw [e1]
  exact compL_filter f p (List.range n) (by simp; unfold big; omega) fun k hk => ⟨_, rfl, hs k (by simpa using hk)⟩
end
def Asc (ks : List (List Int)) : Prop := ks.Pairwise (fun a b => HT.lexLt a b = true)
def Kok (ks : List (List Int)) : Prop := ∀ k ∈ ks, By k ∧ k.length ≤ 390
theorem Asc.at {ks : List (List Int)} (h : Asc ks) {i j : Nat} {a b : List Int} (hi : ks[i]? = some a) (hj : ks[j]? = some b) (hij : i < j) : HT.lexLt a b = true := by
  obtain ⟨h1, rfl⟩ := List.getElem?_eq_some_iff.mp hi
  obtain ⟨h2, rfl⟩ := List.getElem?_eq_some_iff.mp hj
  exact List.pairwise_iff_getElem.mp h i j h1 h2 hij
theorem all_true {α : Type} (xs : List α) : fAll [.lst (xs.map fun _ => D.bl true)] ([] : List MO) = .ok (.bl true) [] := by
  rw [show (xs.map fun _ => D.bl true) = (xs.map fun _ => true).map D.bl from by simp, fAll_bls]
  simp
theorem fAll_true {α : Type} (xs : List α) (M : List MO) : fAll [.lst (xs.map fun _ => D.bl true)] M = .ok (.bl true) M := by
  rw [show (xs.map fun _ => D.bl true) = (xs.map fun _ => true).map D.bl from by simp, fAll_bls]
  simp
theorem fAll_map {α : Type} (xs : List α) (p : α → Bool) (M : List MO) : fAll [.lst (xs.map fun x => D.bl (p x))] M = .ok (.bl (xs.all p)) M := by
  rw [show (xs.map fun x => D.bl (p x)) = (xs.map p).map D.bl from by simp, fAll_bls]
  simp [List.all_map, Function.comp_def]
theorem filter_yes {α : Type} (xs : List α) : xs.filter (fun _ => true) = xs := List.filter_eq_self.mpr (by simp)
theorem check_keys_eq {M : List MO} {x : D} {ks : List (List Int)} (h : Sq M x ks) (ha : Asc ks) (hk : Kok ks) (hl : ks.length ≤ 200) : m_check_keys [x] M = .ok .non M := by
  have k1 : eLcA (eSeq (eVar 0)) (gN 2) [2] eYes (eArgs m_is_bytes (eCons (eVar 2) eNil)) [some x, none, none] M = .ok (ks.map fun _ => D.bl true) M := by
    have := lc_sq (i := 2) (e := [some x, none, none]) (j := 0) (t := eYes) (el := eArgs m_is_bytes (eCons (eVar 2) eNil)) h (by omega) rfl (fun _ => D.bl true) (fun _ => true) fun y hy => ⟨rfl, fun _ => by
      have := is_bytes_eq (hk y hy).1 (by have := (hk y hy).2; omega) M
      simp [wipeE, this]⟩
    rw [filter_yes] at this
    exact this
  have len0 : (eArgs fLen (eCons (eVar 0) eNil)) [some x, none, none] M = .ok (.int ks.length) M := by simp [h.len]
  have k2 : eLcA (eRange1 (eCons (eBin fSub (eArgs fLen (eCons (eVar 0) eNil)) (eC (.int 1))) eNil)) (gN 1) [1] eYes (eBin fLt (eBin fIx (eVar 0) (eVar 1)) (eBin fIx (eVar 0) (eBin fAdd (eVar 1) (eC (.int 1))))) [some x, none, none] M = .ok ((List.range (ks.length - 1)).map fun _ => D.bl true) M := by
    have := lc_range (i := 1) (e := [some x, none, none]) (M := M) (ea := eCons (eBin fSub (eArgs fLen (eCons (eVar 0) eNil)) (eC (.int 1))) eNil) (j := (ks.length : Int) - 1) (n := ks.length - 1) (t := eYes) (el := eBin fLt (eBin fIx (eVar 0) (eVar 1)) (eBin fIx (eVar 0) (eBin fAdd (eVar 1) (eC (.int 1))))) (by omega) (by omega) (by omega) (by simp [h.len]) (fun _ => D.bl true) (fun _ => true) fun k hk => ⟨rfl, fun _ => by
      have h1 : k < ks.length := by omega
      have h2 : k + 1 < ks.length := by omega
      have e1 := h.ix (List.getElem?_eq_getElem h1)
      have e2 := h.ix (List.getElem?_eq_getElem h2)
      have lt := ha.at (List.getElem?_eq_getElem h1) (List.getElem?_eq_getElem h2) (Nat.lt_succ_self k)
      have e3 : fIx x (.int ((k : Int) + 1)) M = .ok (bs ks[k + 1]) M := e2
      simp [wipeE, e1, e3, lt]⟩
    rw [filter_yes] at this
    exact this
  have g : ¬ (200 : Int) < (ks.length : Int) := by omega
  show (sv_check_keys [some x, none, none] M).toR = _
  have c1 : (eOr (eNot (eTest (eUn (fIsi "list") (eVar 0)))) (eOr (eTest (eBin fGt (eArgs fLen (eCons (eVar 0) eNil)) (eC (.int 200)))) (eNot (eTest (eArgs fAll (eCons (eArgs fLst' (eLcA (eSeq (eVar 0)) (gN 2) [2] eYes (eArgs m_is_bytes (eCons (eVar 2) eNil)))) eNil)))))) [some x, none, none] M = .ok false M := by
    simp [-ev_lcA, k1, h.isi, h.len, g, fAll_true]
  have c2 : (eNot (eTest (eArgs fAll (eCons (eArgs fLst' (eLcA (eRange1 (eCons (eBin fSub (eArgs fLen (eCons (eVar 0) eNil)) (eC (.int 1))) eNil)) (gN 1) [1] eYes (eBin fLt (eBin fIx (eVar 0) (eVar 1)) (eBin fIx (eVar 0) (eBin fAdd (eVar 1) (eC (.int 1))))))) eNil)))) [some x, none, none] M = .ok false M := by
    simp [-ev_lcA, k2, fAll_true]
  unfold sv_check_keys
  rw [sv_seq, sv_if, c1, R.toS_ok]
  simp only [Bool.false_eq_true, if_false, sv_nil, RS.bind_nx]
  rw [sv_if, c2, R.toS_ok]
  rfl
/-! ### place_of -/
def cle (ks : List (List Int)) (key : List Int) : Nat := (ks.filter fun m => !HT.lexLt key m).length
theorem cle_le (ks : List (List Int)) (key : List Int) : cle ks key ≤ ks.length := List.length_filter_le ..
theorem cle_zero {ks : List (List Int)} {key : List Int} (h : ∀ y ∈ ks, HT.lexLt key y = true) : cle ks key = 0 := by
  unfold cle
  rw [List.filter_eq_nil_iff.mpr fun y hy => by simp [h y hy]]
  rfl
theorem cle_iff : ∀ {ks : List (List Int)} {key : List Int}, Asc ks → ∀ {i : Nat} {y : List Int}, ks[i]? = some y → (HT.lexLt key y = false ↔ i < cle ks key)
  | [], key, _, i, y, h => by simp at h
  | a :: ks, key, hA, i, y, h => by
    obtain ⟨h1, h2⟩ := List.pairwise_cons.mp hA
    cases ha : HT.lexLt key a with
    | true =>
      have hz : cle (a :: ks) key = 0 := cle_zero fun z hz => by
        rcases List.mem_cons.mp hz with rfl | hz
        · exact ha
        · exact lexLt_trans _ _ _ ha (h1 z hz)
      rw [hz]
      cases i with
      | zero => simp at h; subst h; simp [ha]
      | succ i =>
        have hy : y ∈ ks := List.mem_of_getElem? (by simpa using h)
        simp [lexLt_trans _ _ _ ha (h1 y hy)]
    | false =>
      have hc : cle (a :: ks) key = cle ks key + 1 := by simp [cle, ha]
      rw [hc]
      cases i with
      | zero => simp at h; subst h; simp [ha]
      | succ i =>
        have := cle_iff (key := key) h2 (i := i) (y := y) (by simpa using h)
        rw [this]
        omega
def bPl : SV := (sSeq (sSet 4 (eBin fFdiv (eBin fAdd (eVar 2) (eVar 3)) (eC (.int 2)))) (sIf (eTest (eBin fLe (eBin fIx (eVar 0) (eVar 4)) (eVar 1))) (sSet 2 (eBin fAdd (eVar 4) (eC (.int 1)))) (sSet 3 (eVar 4))))
theorem place_loop {M : List MO} {x : D} {ks : List (List Int)} {key : List Int} (h : Sq M x ks) (ha : Asc ks) : ∀ (d lo hi k : Nat) (o : Option D), hi - lo = d → d < k → lo ≤ cle ks key → cle ks key ≤ hi → hi ≤ ks.length →
    ∃ o', whileN (eTest (eBin fLt (eVar 2) (eVar 3))) bPl k [some x, some (bs key), some (.int (lo : Nat)), some (.int (hi : Nat)), o] M = .nx [some x, some (bs key), some (.int (cle ks key : Nat)), some (.int (cle ks key : Nat)), o'] M := by
  intro d
  induction d using Nat.strongRecOn with
  | ind d ih =>
    intro lo hi k o hd hk h1 h2 h3
    cases k with
    | zero => omega
    | succ k =>
      unfold whileN
      by_cases hlt : lo < hi
      · have hc : (eTest (eBin fLt (eVar 2) (eVar 3))) [some x, some (bs key), some (.int (lo : Nat)), some (.int (hi : Nat)), o] M = .ok true M := by simp [hlt]
        rw [hc, R.toS_ok]
        simp only [if_true]
        have hm : (lo + hi) / 2 < ks.length := by omega
        have hdiv : fFdiv (.int ((lo : Int) + (hi : Int))) (.int 2) M = .ok (.int (((lo + hi) / 2 : Nat) : Int)) M := by
          have : ((lo : Int) + (hi : Int)) / 2 = (((lo + hi) / 2 : Nat) : Int) := by omega
          rw [← this]
          rfl
        obtain ⟨y, hy⟩ : ∃ y, ks[(lo + hi) / 2]? = some y := ⟨_, List.getElem?_eq_getElem hm⟩
        have hix := h.ix hy
        have hp := cle_iff (key := key) ha hy
        have st1 : sSet 4 (eBin fFdiv (eBin fAdd (eVar 2) (eVar 3)) (eC (.int 2))) [some x, some (bs key), some (.int (lo : Nat)), some (.int (hi : Nat)), o] M = .nx [some x, some (bs key), some (.int (lo : Nat)), some (.int (hi : Nat)), some (.int (((lo + hi) / 2 : Nat) : Int))] M := by
          show ((fFdiv (D.int ((lo : Int) + (hi : Int))) (D.int 2) M).toS _ fun d M1 => RS.nx (List.set [some x, some (bs key), some (.int (lo : Nat)), some (.int (hi : Nat)), o] 4 (some d)) M1) = _
          rw [hdiv]
          rfl
        cases hl : HT.lexLt key y with
        | false =>
          have hb : bPl [some x, some (bs key), some (.int (lo : Nat)), some (.int (hi : Nat)), o] M = .nx [some x, some (bs key), some (.int (((lo + hi) / 2 + 1 : Nat) : Int)), some (.int (hi : Nat)), some (.int (((lo + hi) / 2 : Nat) : Int))] M := by
            unfold bPl
            rw [sv_seq, st1, RS.bind_nx]
            generalize (lo + hi) / 2 = m at hix ⊢
            simp [hix, hl]
          rw [hb, RS.turn_nx]
          have hlt2 : (lo + hi) / 2 < cle ks key := hp.mp hl
          exact ih (hi - ((lo + hi) / 2 + 1)) (by omega) _ hi k _ rfl (by omega) (by omega) h2 h3
        | true =>
          have hb : bPl [some x, some (bs key), some (.int (lo : Nat)), some (.int (hi : Nat)), o] M = .nx [some x, some (bs key), some (.int (lo : Nat)), some (.int (((lo + hi) / 2 : Nat) : Int)), some (.int (((lo + hi) / 2 : Nat) : Int))] M := by
            unfold bPl
            rw [sv_seq, st1, RS.bind_nx]
            generalize (lo + hi) / 2 = m at hix ⊢
            simp [hix, hl]
          rw [hb, RS.turn_nx]
          have hge : ¬ (lo + hi) / 2 < cle ks key := fun z => by rw [hp.mpr z] at hl; cases hl
          exact ih ((lo + hi) / 2 - lo) (by omega) lo _ k _ rfl (by omega) h1 (by omega) (by omega)
      · have hc : (eTest (eBin fLt (eVar 2) (eVar 3))) [some x, some (bs key), some (.int (lo : Nat)), some (.int (hi : Nat)), o] M = .ok false M := by simp [hlt]
        rw [hc, R.toS_ok]
        have e1 : lo = cle ks key := by omega
        have e2 : hi = cle ks key := by omega
        rw [e1, e2]
        exact ⟨o, rfl⟩
theorem place_of_eq {M : List MO} {x : D} {ks : List (List Int)} (h : Sq M x ks) (ha : Asc ks) (hl : ks.length ≤ 1000) (key : List Int) : m_place_of [x, bs key] M = .ok (.int (cle ks key : Nat)) M := by
  obtain ⟨o, e⟩ := place_loop (key := key) h ha ks.length 0 ks.length fuel none (by omega) (by unfold fuel; omega) (Nat.zero_le _) (cle_le ..) (Nat.le_refl _)
  show (sv_place_of [some x, some (bs key), none, none, none] M).toR = _
  unfold sv_place_of
  have q1 : sPar 2 3 (eCons (eC (.int 0)) (eCons (eArgs fLen (eCons (eVar 0) eNil)) eNil)) [some x, some (bs key), none, none, none] M = .nx [some x, some (bs key), some (.int ((0 : Nat) : Int)), some (.int (ks.length : Nat)), none] M := by
    simp [sPar, h.len]
  rw [sv_seq, q1, RS.bind_nx, sv_seq]
  show (RS.bind (whileN (eTest (eBin fLt (eVar 2) (eVar 3))) bPl fuel _ M) _).toR = _
  rw [e, RS.bind_nx]
  rfl
theorem route_eq {M : List MO} {x : D} {ks : List (List Int)} {key : List Int} (h : Sq M x ks) (ha : Asc ks) (hk : Kok ks) (hl : ks.length ≤ 200) (hb : By key) (hb2 : key.length ≤ 400) : m_route [x, bs key] M = .ok (.int (cle ks key : Nat)) M := by
  simp [m_route, mOf, sv_route, startE, check_keys_eq h ha hk hl, check_bytes_eq hb hb2, place_of_eq h ha (by omega)]
/-! ### separators -/
def nD (n : Nat) : D := .int (n : Nat)
abbrev SqN (M : List MO) (x : D) (ss : List Nat) : Prop := SqX nD M x ss
structure Sts (ks : List (List Int)) (ss : List Nat) : Prop where
  asc : ss.Pairwise (· < ·)
  lo : ∀ a ∈ ss, 0 < a
  hi : ∀ a ∈ ss, a < ks.length
def kat (ks : List (List Int)) (i : Nat) : List Int := ks.getD i []
theorem kat_eq {ks : List (List Int)} {i : Nat} (h : i < ks.length) : ks[i]? = some (kat ks i) := by
  unfold kat
  rw [List.getD_eq_getElem?_getD, List.getElem?_eq_getElem h]
  rfl
def seps (ks : List (List Int)) (ss : List Nat) : List (List Int) := ss.map fun a => sepOf (kat ks (a - 1)) (kat ks a)
theorem Sts.len {ks : List (List Int)} {ss : List Nat} (h : Sts ks ss) : ss.length ≤ ks.length := by
  have : ∀ (l : List Nat) (m : Nat), l.Pairwise (· < ·) → (∀ a ∈ l, a < m) → l.length ≤ m := by
    intro l
    induction l with
    | nil => intro m _ _; simp
    | cons x l ih =>
      intro m hp hm
      obtain ⟨h1, h2⟩ := List.pairwise_cons.mp hp
      have hl : ∀ (l : List Nat) (b : Nat), l.Pairwise (· < ·) → (∀ a ∈ l, b ≤ a) → (∀ a ∈ l, a < m) → b ≤ m → l.length ≤ m - b := by
        intro l
        induction l with
        | nil => intro b _ _ _ _; simp
        | cons y l ih2 =>
          intro b hp hb hm hbm
          obtain ⟨g1, g2⟩ := List.pairwise_cons.mp hp
          have hy := hb y (by simp)
          have hy2 := hm y (by simp)
          have := ih2 (y + 1) g2 (fun a ha => g1 a ha) (fun a ha => hm a (by simp [ha])) (by omega)
          simp
          omega
      have := hl (x :: l) 0 hp (by simp) hm (Nat.zero_le _)
      simpa using this
  exact this ss ks.length h.asc h.hi
theorem kat_mem {ks : List (List Int)} {i : Nat} (h : i < ks.length) : kat ks i ∈ ks := List.mem_of_getElem? (kat_eq h)
theorem separators_eq {M : List MO} {x y : D} {ks : List (List Int)} {ss : List Nat} (h : Sq M x ks) (ha : Asc ks) (hk : Kok ks) (hl : ks.length ≤ 200) (hy : SqN M y ss) (hs : Sts ks ss) : m_separators [x, y] M = .ok (.lst (kl (seps ks ss))) M := by
  have hsl := hs.len
  have k2 : eLcA (eSeq (eVar 1)) (gN 2) [2] eYes (eAndV (eUn (fIsi "int") (eVar 2)) (eUn fNot (eUn (fIsi "bool") (eVar 2)))) [some x, some y, none, none] M = .ok (ss.map fun _ => D.bl true) M := by
    have := lc_sq (i := 2) (e := [some x, some y, none, none]) (j := 1) (t := eYes) (el := (eAndV (eUn (fIsi "int") (eVar 2)) (eUn fNot (eUn (fIsi "bool") (eVar 2))))) hy (by omega) rfl (fun _ => D.bl true) (fun _ => true) fun a _ => ⟨rfl, fun _ => by simp [wipeE, nD, fNot]⟩
    rw [filter_yes] at this
    exact this
  have k3 : eLcA (eSeq (eVar 1)) (gN 2) [2] eYes (eChain fLt fLt (eC (.int 0)) (eVar 2) (eArgs fLen (eCons (eVar 0) eNil))) [some x, some y, none, none] M = .ok (ss.map fun _ => D.bl true) M := by
    have := lc_sq (i := 2) (e := [some x, some y, none, none]) (j := 1) (t := eYes) (el := (eChain fLt fLt (eC (.int 0)) (eVar 2) (eArgs fLen (eCons (eVar 0) eNil)))) hy (by omega) rfl (fun _ => D.bl true) (fun _ => true) fun a hm => ⟨rfl, fun _ => by
      have h1 := hs.lo a hm
      have h2 := hs.hi a hm
      simp [wipeE, nD, h.len, h1, h2]⟩
    rw [filter_yes] at this
    exact this
  have k4 : eLcA (eRange1 (eCons (eBin fSub (eArgs fLen (eCons (eVar 1) eNil)) (eC (.int 1))) eNil)) (gN 3) [3] eYes (eBin fLt (eBin fIx (eVar 1) (eVar 3)) (eBin fIx (eVar 1) (eBin fAdd (eVar 3) (eC (.int 1))))) [some x, some y, none, none] M = .ok ((List.range (ss.length - 1)).map fun _ => D.bl true) M := by
    have := lc_range (i := 3) (e := [some x, some y, none, none]) (M := M) (ea := eCons (eBin fSub (eArgs fLen (eCons (eVar 1) eNil)) (eC (.int 1))) eNil) (j := (ss.length : Int) - 1) (n := ss.length - 1) (t := eYes) (el := eBin fLt (eBin fIx (eVar 1) (eVar 3)) (eBin fIx (eVar 1) (eBin fAdd (eVar 3) (eC (.int 1))))) (by omega) (by omega) (by omega) (by simp [hy.len]) (fun _ => D.bl true) (fun _ => true) fun k hk => ⟨rfl, fun _ => by
      have h1 : k < ss.length := by omega
      have h2 : k + 1 < ss.length := by omega
      have e1 := hy.ix (List.getElem?_eq_getElem h1)
      have e2 := hy.ix (List.getElem?_eq_getElem h2)
      have lt : ss[k] < ss[k + 1] := List.pairwise_iff_getElem.mp hs.asc k (k + 1) h1 h2 (Nat.lt_succ_self k)
      have e3 : fIx y (.int ((k : Int) + 1)) M = .ok (nD ss[k + 1]) M := e2
      simp [wipeE, e1, e3, nD, lt]⟩
    rw [filter_yes] at this
    exact this
  have k5 : eLcA (eSeq (eVar 1)) (gN 2) [2] eYes (eArgs m_separator (eCons (eBin fIx (eVar 0) (eBin fSub (eVar 2) (eC (.int 1)))) (eCons (eBin fIx (eVar 0) (eVar 2)) eNil))) [some x, some y, none, none] M = .ok (ss.map fun a => bs (sepOf (kat ks (a - 1)) (kat ks a))) M := by
    have := lc_sq (i := 2) (e := [some x, some y, none, none]) (j := 1) (t := eYes) (el := (eArgs m_separator (eCons (eBin fIx (eVar 0) (eBin fSub (eVar 2) (eC (.int 1)))) (eCons (eBin fIx (eVar 0) (eVar 2)) eNil)))) hy (by omega) rfl (fun a => bs (sepOf (kat ks (a - 1)) (kat ks a))) (fun _ => true) fun a hm => ⟨rfl, fun _ => by
      have h1 := hs.lo a hm
      have h2 := hs.hi a hm
      have g1 := kat_eq (ks := ks) (i := a - 1) (by omega)
      have g2 := kat_eq (ks := ks) (i := a) h2
      have e1 := h.ix g1
      have e2 := h.ix g2
      have e3 : fIx x (.int ((a : Int) - 1)) M = .ok (bs (kat ks (a - 1))) M := by rw [← e1]; congr 2; omega
      have q := separator_eq (hk _ (kat_mem (ks := ks) (i := a - 1) (by omega))).1 (hk _ (kat_mem h2)).1 (by have := (hk _ (kat_mem (ks := ks) (i := a - 1) (by omega))).2; omega) (by have := (hk _ (kat_mem h2)).2; omega) (ha.at g1 g2 (by omega)) M
      simp [wipeE, nD, e2, e3, q]⟩
    rw [filter_yes] at this
    exact this
  show (sv_separators [some x, some y, none, none] M).toR = _
  have c1 := check_keys_eq h ha hk hl
  have q1 : sExpr (eArgs m_check_keys (eCons (eVar 0) eNil)) [some x, some y, none, none] M = .nx [some x, some y, none, none] M := by simp [c1]
  have q2 : (eOr (eNot (eTest (eUn (fIsi "list") (eVar 1)))) (eNot (eTest (eArgs fAll (eCons (eArgs fLst' (eLcA (eSeq (eVar 1)) (gN 2) [2] eYes (eAndV (eUn (fIsi "int") (eVar 2)) (eUn fNot (eUn (fIsi "bool") (eVar 2)))))) eNil))))) [some x, some y, none, none] M = .ok false M := by
    simp [-ev_lcA, k2, hy.isi, fAll_true, fLst']
  have q3 : (eNot (eTest (eArgs fAll (eCons (eArgs fLst' (eLcA (eSeq (eVar 1)) (gN 2) [2] eYes (eChain fLt fLt (eC (.int 0)) (eVar 2) (eArgs fLen (eCons (eVar 0) eNil))))) eNil)))) [some x, some y, none, none] M = .ok false M := by
    simp [-ev_lcA, k3, fAll_true, fLst']
  have q4 : (eNot (eTest (eArgs fAll (eCons (eArgs fLst' (eLcA (eRange1 (eCons (eBin fSub (eArgs fLen (eCons (eVar 1) eNil)) (eC (.int 1))) eNil)) (gN 3) [3] eYes (eBin fLt (eBin fIx (eVar 1) (eVar 3)) (eBin fIx (eVar 1) (eBin fAdd (eVar 3) (eC (.int 1))))))) eNil)))) [some x, some y, none, none] M = .ok false M := by
    simp [-ev_lcA, k4, fAll_true, fLst']
  unfold sv_separators
  rw [sv_seq, q1, RS.bind_nx, sv_seq, sv_if, q2, R.toS_ok]
  simp only [Bool.false_eq_true, if_false, sv_nil, RS.bind_nx]
  rw [sv_seq, sv_if, q3, R.toS_ok]
  simp only [Bool.false_eq_true, if_false, sv_nil, RS.bind_nx]
  rw [sv_seq, sv_if, q4, R.toS_ok]
  simp only [Bool.false_eq_true, if_false, sv_nil, RS.bind_nx]
  rw [sv_ret, ev_args, k5]
  simp [fLst', kl, seps, Function.comp_def]
/-! the separators' own order -/
theorem seps_ok {ks : List (List Int)} {ss : List Nat} (ha : Asc ks) (hk : Kok ks) (hs : Sts ks ss) : Kok (seps ks ss) := by
  intro z hz
  obtain ⟨a, hm, rfl⟩ := List.mem_map.mp hz
  have h2 := hs.hi a hm
  have q := hk _ (kat_mem h2)
  exact ⟨q.1.take _, by unfold sepOf; rw [List.length_take]; omega⟩
theorem sep_mid {ks : List (List Int)} (ha : Asc ks) {a : Nat} (h1 : 0 < a) (h2 : a < ks.length) : HT.lexLt (kat ks (a - 1)) (sepOf (kat ks (a - 1)) (kat ks a)) = true ∧ HT.lexLt (kat ks a) (sepOf (kat ks (a - 1)) (kat ks a)) = false :=
  ⟨sep_lt _ _ (ha.at (kat_eq (by omega)) (kat_eq h2) (by omega)), sep_le _ _⟩
theorem lex_le_lt {a b c : List Int} (h1 : HT.lexLt b a = false) (h2 : HT.lexLt b c = true) : HT.lexLt a c = true := by
  cases h : HT.lexLt a b with
  | true => exact lexLt_trans _ _ _ h h2
  | false => rw [lexLt_total _ _ h h1]; exact h2
theorem lex_lt_le {a b c : List Int} (h1 : HT.lexLt a b = true) (h2 : HT.lexLt c b = false) : HT.lexLt a c = true := by
  cases h : HT.lexLt b c with
  | true => exact lexLt_trans _ _ _ h1 h
  | false => rw [← lexLt_total _ _ h h2]; exact h1
theorem kat_le {ks : List (List Int)} (ha : Asc ks) {i j : Nat} (hij : i ≤ j) (hj : j < ks.length) : HT.lexLt (kat ks j) (kat ks i) = false := by
  by_cases e : i = j
  · subst e; exact lexLt_irrefl _
  · exact lexLt_asymm _ _ (ha.at (kat_eq (by omega)) (kat_eq hj) (by omega))
theorem seps_asc {ks : List (List Int)} {ss : List Nat} (ha : Asc ks) (hs : Sts ks ss) : Asc (seps ks ss) := by
  unfold seps Asc
  rw [List.pairwise_map]
  refine List.Pairwise.imp_of_mem (fun {a b} hm hm' hlt => ?_) hs.asc
  obtain ⟨_, q1⟩ := sep_mid ha (hs.lo a hm) (hs.hi a hm)
  obtain ⟨q2, _⟩ := sep_mid ha (hs.lo b hm') (hs.hi b hm')
  have q3 := kat_le ha (i := a) (j := b - 1) (by omega) (by have := hs.hi b hm'; omega)
  exact lex_le_lt (NtL.lex_tr _ _ _ q1 q3) q2
/-- a key's place among the separators: how many starts are not behind it -/
theorem seps_cle {ks : List (List Int)} {ss : List Nat} (ha : Asc ks) (hs : Sts ks ss) {k : Nat} (hk : k < ks.length) : cle (seps ks ss) (kat ks k) = (ss.filter fun a => decide (a ≤ k)).length := by
  unfold cle seps
  rw [List.filter_map, List.length_map]
  congr 1
  refine List.filter_congr fun a hm => ?_
  obtain ⟨q1, q2⟩ := sep_mid ha (hs.lo a hm) (hs.hi a hm)
  have := hs.lo a hm
  show (!HT.lexLt (kat ks k) (sepOf (kat ks (a - 1)) (kat ks a))) = decide (a ≤ k)
  by_cases h : a ≤ k
  · have : HT.lexLt (kat ks k) (sepOf (kat ks (a - 1)) (kat ks a)) = false := NtL.lex_tr _ _ _ q2 (kat_le ha h hk)
    simp [this, h]
  · have : HT.lexLt (kat ks k) (sepOf (kat ks (a - 1)) (kat ks a)) = true := lex_le_lt (kat_le ha (i := k) (j := a - 1) (by omega) (by have := hs.hi a hm; omega)) q1
    simp [this, h]
end KB
namespace KB
open PySem PySem.Spec PyProof.Rows L2
def pD (p : Nat × List Int) : D := .tup [nD p.1, bs p.2]
theorem zip_pD : ∀ (ss : List Nat) (ms : List (List Int)), zipD (ss.map nD) (ms.map bs) = (ss.zip ms).map pD
  | [], _ => by cases ‹List (List Int)› <;> rfl
  | _ :: _, [] => rfl
  | a :: ss, m :: ms => by
    show D.tup [nD a, bs m] :: zipD (ss.map nD) (ms.map bs) = pD (a, m) :: (ss.zip ms).map pD
    rw [zip_pD ss ms]
    rfl
theorem compZ_acc {g : GV} {el : EV} {e : EN} {n : Nat} {M : List MO} {f : Nat × List Int → D} {ss : List Nat} {ms : List (List Int)} (hM : M[n]? = some (.lst (ms.map bs))) (hl : ss.length ≤ 1000) (h : ∀ p ∈ ss.zip ms, ∃ e1, g (pD p) e = some e1 ∧ el e1 M = .ok (f p) M) :
    ∀ (k i : Nat) (acc : List D), (ss.zip ms).length < i + k → i ≤ (ss.zip ms).length → acc.length ≤ i → compZ g eYes el e (ss.map nD) n k i acc M = .ok (acc ++ ((ss.zip ms).drop i).map f) M
  | 0, i, acc, hk, hi, _ => by omega
  | k + 1, i, acc, hk, hii, ha => by
    unfold compZ
    simp only [hM]
    rw [List.getElem?_map, List.getElem?_map]
    have hz : (ss.zip ms).length = min ss.length ms.length := by simp
    by_cases hlt : i < (ss.zip ms).length
    · have h1 : i < ss.length := by omega
      have h2 : i < ms.length := by omega
      have hp : (ss.zip ms)[i] = (ss[i], ms[i]) := by simp
      obtain ⟨e1, q1, q2⟩ := h (ss.zip ms)[i] (List.getElem_mem hlt)
      rw [hp] at q1 q2
      have hb : acc.length < big := by unfold big; omega
      rw [List.getElem?_eq_getElem h1, List.getElem?_eq_getElem h2]
      simp only [Option.map_some]
      rw [show g (.tup [nD ss[i], bs ms[i]]) e = some e1 from q1]
      simp only [ev_yes, R.nox_ok, if_true, q2, hb]
      rw [compZ_acc hM hl h k (i + 1) (acc ++ [f (ss[i], ms[i])]) (by omega) hlt (by simp; omega), List.drop_eq_getElem_cons hlt, hp]
      simp
    · have hd : (ss.zip ms).drop i = [] := List.drop_eq_nil_of_le (by omega)
      rw [hd]
      by_cases h1 : i < ss.length
      · have h2 : ms[i]? = none := List.getElem?_eq_none (by omega)
        rw [h2, List.getElem?_eq_getElem h1]
        simp
      · have h2 : ss[i]? = none := List.getElem?_eq_none (by omega)
        rw [h2]
        simp
theorem lcZ_eq {M : List MO} {z : D} {ss : List Nat} {ms : List (List Int)} (hz : Sq M z ms) (hl : ss.length ≤ 1000) {ea : EA} {g : GV} {vs : List Nat} {el : EV} {e : EN} (hea : ea e M = .ok [.lst (ss.map nD), z] M) (f : Nat × List Int → D) (h : ∀ p ∈ ss.zip ms, ∃ e1, g (pD p) (wipeE e vs) = some e1 ∧ el e1 M = .ok (f p) M) :
    eLcZA ea g vs eYes el e M = .ok ((ss.zip ms).map f) M := by
  unfold eLcZA
  rw [hea, R.bind_ok]
  rcases hz with rfl | ⟨n, rfl, hM⟩
  · show compL g eYes el (wipeE e vs) (zipD (ss.map nD) (ms.map bs)) [] M = _
    rw [zip_pD]
    exact compL_map f (ss.zip ms) (by simp; unfold big; omega) h
  · show compZ g eYes el (wipeE e vs) (ss.map nD) n fuel 0 [] M = _
    have := compZ_acc hM hl h fuel 0 [] (by simp; unfold fuel; omega) (Nat.zero_le _) (Nat.le_refl _)
    simpa using this
def sepB (ks : List (List Int)) (ps : List (Nat × List Int)) : Bool := ps.all fun p => HT.lexLt (kat ks (p.1 - 1)) p.2 && !HT.lexLt (kat ks p.1) p.2
theorem are_separators_eq {M : List MO} {x z : D} {ks ms : List (List Int)} {ss : List Nat} (h : Sq M x ks) (ha : Asc ks) (hk : Kok ks) (hl : ks.length ≤ 200) (hs : Sts ks ss) (hz : Sq M z ms) (hma : Asc ms) (hmk : Kok ms) (hml : ms.length ≤ 200) :
    m_are_separators [x, .lst (ss.map nD), z] M = .ok (.bl (decide (ms.length = ss.length) && sepB ks (ss.zip ms))) M := by
  have hy : SqN M (.lst (ss.map nD)) ss := .inl rfl
  have hsl := hs.len
  have c1 := separators_eq h ha hk hl hy hs
  have c2 := check_keys_eq hz hma hmk hml
  show (sv_are_separators [some x, some (.lst (ss.map nD)), some z, none, none] M).toR = _
  have q1 : sExpr (eArgs m_separators (eCons (eVar 0) (eCons (eVar 1) eNil))) [some x, some (.lst (ss.map nD)), some z, none, none] M = .nx [some x, some (.lst (ss.map nD)), some z, none, none] M := by simp [c1]
  have q2 : sExpr (eArgs m_check_keys (eCons (eVar 2) eNil)) [some x, some (.lst (ss.map nD)), some z, none, none] M = .nx [some x, some (.lst (ss.map nD)), some z, none, none] M := by simp [c2]
  have q3 : eTest (eBin fNe (eArgs fLen (eCons (eVar 2) eNil)) (eArgs fLen (eCons (eVar 1) eNil))) [some x, some (.lst (ss.map nD)), some z, none, none] M = .ok (!decide (ms.length = ss.length)) M := by
    simp [hz.len, fNe, Int.ofNat_inj]
  unfold sv_are_separators
  rw [sv_seq, q1, RS.bind_nx, sv_seq, q2, RS.bind_nx, sv_seq, sv_if, q3, R.toS_ok]
  by_cases he : ms.length = ss.length
  · have q4 := lcZ_eq (ss := ss) (vs := [3, 4]) (g := gT [3, 4]) (ea := (eCons (eVar 1) (eCons (eVar 2) eNil))) (e := [some x, some (.lst (ss.map nD)), some z, none, none]) (el := (eChain fLt fLe (eBin fIx (eVar 0) (eBin fSub (eVar 3) (eC (.int 1)))) (eVar 4) (eBin fIx (eVar 0) (eVar 3)))) hz (by omega) (by simp) (fun p => D.bl (HT.lexLt (kat ks (p.1 - 1)) p.2 && !HT.lexLt (kat ks p.1) p.2)) fun p hp => by
      obtain ⟨a, m⟩ := p
      have hm : a ∈ ss := (List.of_mem_zip hp).1
      have h1 := hs.lo a hm
      have h2 := hs.hi a hm
      refine ⟨[some x, some (.lst (ss.map nD)), some z, some (nD a), some (bs m)], rfl, ?_⟩
      have e1 := h.ix (kat_eq (ks := ks) (i := a - 1) (by omega))
      have e2 := h.ix (kat_eq h2)
      have e3 : fIx x (.int ((a : Int) - 1)) M = .ok (bs (kat ks (a - 1))) M := by rw [← e1]; congr 2; omega
      cases hlt : HT.lexLt (kat ks (a - 1)) m with
      | true => simp [nD, e2, e3, hlt]
      | false => simp [nD, e2, e3, hlt]
    simp only [he, decide_true, Bool.not_true, Bool.false_eq_true, if_false, sv_nil, RS.bind_nx]
    rw [sv_ret, ev_args, ev_cons, ev_args, q4]
    simp only [R.bind_ok, fLst', ev_nil]
    rw [fAll_map]
    simp [sepB]
  · simp [he]
theorem fSum_map {α : Type} (xs : List α) (f : α → Int) (M : List MO) : fSum [.lst (xs.map fun x => D.int (f x))] M = .ok (.int (xs.map f).sum) M := by
  rw [show (xs.map fun x => D.int (f x)) = (xs.map f).map D.int from by simp, fSum_ints]
def lenK (ks : List (List Int)) (ss : List Nat) : Int := (ss.map fun a => ((kat ks a).length : Int)).sum
def lenM (ms : List (List Int)) : Int := (ms.map fun m => (m.length : Int)).sum
theorem saved_eq {M : List MO} {x : D} {ks : List (List Int)} {ss : List Nat} (h : Sq M x ks) (ha : Asc ks) (hk : Kok ks) (hl : ks.length ≤ 200) (hs : Sts ks ss) : m_saved [x, .lst (ss.map nD)] M = .ok (.int (lenK ks ss - lenM (seps ks ss))) M := by
  have hy : SqN M (.lst (ss.map nD)) ss := .inl rfl
  have hsl := hs.len
  have c1 := separators_eq h ha hk hl hy hs
  show (sv_saved [some x, some (.lst (ss.map nD)), none, none, none] M).toR = _
  have q1 : sSet 2 (eArgs m_separators (eCons (eVar 0) (eCons (eVar 1) eNil))) [some x, some (.lst (ss.map nD)), none, none, none] M = .nx [some x, some (.lst (ss.map nD)), some (.lst (kl (seps ks ss))), none, none] M := by simp [c1]
  have k1 : eLcA (eSeq (eVar 1)) (gN 3) [3] eYes (eArgs fLen (eCons (eBin fIx (eVar 0) (eVar 3)) eNil)) [some x, some (.lst (ss.map nD)), some (.lst (kl (seps ks ss))), none, none] M = .ok (ss.map fun a => D.int ((kat ks a).length : Int)) M := by
    have := lc_sq (i := 3) (e := [some x, some (.lst (ss.map nD)), some (.lst (kl (seps ks ss))), none, none]) (j := 1) (t := eYes) (el := (eArgs fLen (eCons (eBin fIx (eVar 0) (eVar 3)) eNil))) hy (by omega) rfl (fun a => D.int ((kat ks a).length : Int)) (fun _ => true) fun a hm => ⟨rfl, fun _ => by
      have e2 := h.ix (kat_eq (hs.hi a hm))
      simp [wipeE, nD, e2]⟩
    rw [filter_yes] at this
    exact this
  have hz : Sq M (.lst (kl (seps ks ss))) (seps ks ss) := .inl rfl
  have k2 : eLcA (eSeq (eVar 2)) (gN 4) [4] eYes (eArgs fLen (eCons (eVar 4) eNil)) [some x, some (.lst (ss.map nD)), some (.lst (kl (seps ks ss))), none, none] M = .ok ((seps ks ss).map fun m => D.int (m.length : Int)) M := by
    have := lc_sq (i := 4) (e := [some x, some (.lst (ss.map nD)), some (.lst (kl (seps ks ss))), none, none]) (j := 2) (t := eYes) (el := (eArgs fLen (eCons (eVar 4) eNil))) hz (by simp [seps]; omega) rfl (fun m => D.int (m.length : Int)) (fun _ => true) fun a hm => ⟨rfl, fun _ => by simp [wipeE]⟩
    rw [filter_yes] at this
    exact this
  unfold sv_saved
  rw [sv_seq, q1, RS.bind_nx, sv_ret, ev_bin]
  have g1 : (eArgs fSum (eCons (eArgs fLst' (eLcA (eSeq (eVar 1)) (gN 3) [3] eYes (eArgs fLen (eCons (eBin fIx (eVar 0) (eVar 3)) eNil)))) eNil)) [some x, some (.lst (ss.map nD)), some (.lst (kl (seps ks ss))), none, none] M = .ok (.int (lenK ks ss)) M := by
    rw [ev_args, ev_cons, ev_args, k1]
    simp only [R.bind_ok, fLst', ev_nil]
    rw [fSum_map]
    rfl
  have g2 : (eArgs fSum (eCons (eArgs fLst' (eLcA (eSeq (eVar 2)) (gN 4) [4] eYes (eArgs fLen (eCons (eVar 4) eNil)))) eNil)) [some x, some (.lst (ss.map nD)), some (.lst (kl (seps ks ss))), none, none] M = .ok (.int (lenM (seps ks ss))) M := by
    rw [ev_args, ev_cons, ev_args, k2]
    simp only [R.bind_ok, fLst', ev_nil]
    rw [fSum_map]
    rfl
  rw [g1, R.bind_ok, g2, R.bind_ok]
  rfl
end KB
namespace KB
open PySem PySem.Spec PyProof.Rows L2
/-! ### an index: blocks and separators, plain -/
abbrev BL := List (List (List Int))
structure Ix (L : Nat) (B : BL) (Mk : List (List Int)) : Prop where
  len : B.length = Mk.length + 1
  basc : ∀ b ∈ B, Asc b
  masc : Asc Mk
  kok : ∀ b ∈ B, ∀ k ∈ b, By k ∧ k.length ≤ L
  mok : ∀ m ∈ Mk, By m ∧ m.length ≤ L
  route : ∀ (i : Nat) (b : List (List Int)), B[i]? = some b → ∀ k ∈ b, cle Mk k = i
  ne : 1 < B.length → ∀ b ∈ B, b ≠ []
theorem Ix.nil (L : Nat) : Ix L [[]] [] := by
  refine ⟨rfl, fun b hb => ?_, List.Pairwise.nil, fun b hb k hk => ?_, fun m hm => by simp at hm, fun i b hb k hk => ?_, fun h => by simp at h⟩
  · simp at hb; subst hb; exact List.Pairwise.nil
  · simp at hb; subst hb; simp at hk
  · have := List.mem_of_getElem? hb
    simp at this; subst this; simp at hk
theorem cle_append (A C : List (List Int)) (k : List Int) : cle (A ++ C) k = cle A k + cle C k := by simp [cle]
theorem cle_one (m k : List Int) : cle [m] k = if HT.lexLt k m then 0 else 1 := by
  cases h : HT.lexLt k m <;> simp [cle, h]
theorem Ix.at {L : Nat} {B : BL} {Mk : List (List Int)} (h : Ix L B Mk) (key : List Int) : ∃ b, B[cle Mk key]? = some b := by
  have := cle_le Mk key
  exact ⟨_, List.getElem?_eq_getElem (by rw [h.len]; omega)⟩
/-- keys of different blocks stand in the blocks' order -/
theorem Ix.lt {L : Nat} {B : BL} {Mk : List (List Int)} (h : Ix L B Mk) {i j : Nat} {b c : List (List Int)} (hb : B[i]? = some b) (hc : B[j]? = some c) (hij : i < j) {x y : List Int} (hx : x ∈ b) (hy : y ∈ c) : HT.lexLt x y = true := by
  have e1 := h.route i b hb x hx
  have e2 := h.route j c hc y hy
  have hl : i < Mk.length := by have := cle_le Mk y; omega
  obtain ⟨m, hm⟩ : ∃ m, Mk[i]? = some m := ⟨_, List.getElem?_eq_getElem hl⟩
  have h1 : HT.lexLt x m = true := by
    cases q : HT.lexLt x m with
    | true => rfl
    | false => have := (cle_iff h.masc hm).mp q; omega
  have h2 : HT.lexLt y m = false := (cle_iff h.masc hm).mpr (by omega)
  exact lex_lt_le h1 h2
theorem asc_flat : ∀ {B : BL}, (∀ b ∈ B, Asc b) → (∀ (i j : Nat) (b c : List (List Int)), B[i]? = some b → B[j]? = some c → i < j → ∀ x ∈ b, ∀ y ∈ c, HT.lexLt x y = true) → Asc B.flatten
  | [], _, _ => List.Pairwise.nil
  | b :: B, h1, h2 => by
    rw [List.flatten_cons]
    refine List.pairwise_append.mpr ⟨h1 b (by simp), asc_flat (fun c hc => h1 c (by simp [hc])) (fun i j c d hc hd hij => h2 (i + 1) (j + 1) c d (by simpa using hc) (by simpa using hd) (by omega)), fun x hx y hy => ?_⟩
    obtain ⟨c, hc, hyc⟩ := List.mem_flatten.mp hy
    obtain ⟨j, hj⟩ := List.getElem?_of_mem hc
    exact h2 0 (j + 1) b c rfl (by simpa using hj) (by omega) x hx y hyc
theorem Ix.flat {L : Nat} {B : BL} {Mk : List (List Int)} (h : Ix L B Mk) : Asc B.flatten :=
  asc_flat h.basc fun i j b c hb hc hij x hx y hy => h.lt hb hc hij hx hy
theorem asc_nodup {l : List (List Int)} (h : Asc l) : l.Nodup := List.Pairwise.imp (fun {a b} q e => by subst e; rw [lexLt_irrefl] at q; cases q) h
/-- a key of the index is in the block to which it is led -/
theorem Ix.mem {L : Nat} {B : BL} {Mk : List (List Int)} (h : Ix L B Mk) {key : List Int} {b : List (List Int)} (hb : B[cle Mk key]? = some b) : key ∈ B.flatten ↔ key ∈ b := by
  constructor
  · intro hm
    obtain ⟨c, hc, hk⟩ := List.mem_flatten.mp hm
    obtain ⟨i, hi⟩ := List.getElem?_of_mem hc
    have := h.route i c hi key hk
    subst this
    rw [hb] at hi
    cases hi
    exact hk
  · intro hm
    exact List.mem_flatten.mpr ⟨b, List.mem_of_getElem? hb, hm⟩
/-! insertion -/
theorem sortK_asc {b : List (List Int)} {key : List Int} (hb : Asc b) (hk : key ∉ b) : Asc (sortK (b ++ [key])) := by
  have hp := sortK_perm (b ++ [key])
  have nd : (sortK (b ++ [key])).Nodup := hp.nodup_iff.mpr (List.nodup_append.mpr ⟨asc_nodup hb, by simp, fun a ha c hc => by simp at hc; subst hc; exact fun e => hk (e ▸ ha)⟩)
  refine List.Pairwise.imp (fun {x y} z => ?_) (List.pairwise_and_iff.mpr ⟨nd, sortK_pw (b ++ [key])⟩)
  cases q : HT.lexLt x y with
  | true => rfl
  | false => exact absurd (lexLt_total _ _ q z.2) z.1
theorem mem_sortK {l : List (List Int)} {k : List Int} : k ∈ sortK l ↔ k ∈ l := (sortK_perm l).mem_iff
theorem len_sortK (l : List (List Int)) : (sortK l).length = l.length := (sortK_perm l).length_eq
def insB (B : BL) (Mk : List (List Int)) (key : List Int) : List (List Int) := sortK (B.getD (cle Mk key) [] ++ [key])
def insI (size : Nat) (B : BL) (Mk : List (List Int)) (key : List Int) : BL × List (List Int) :=
  if (insB B Mk key).length ≤ size then (B.set (cle Mk key) (insB B Mk key), Mk)
  else (B.take (cle Mk key) ++ [(insB B Mk key).take ((insB B Mk key).length / 2), (insB B Mk key).drop ((insB B Mk key).length / 2)] ++ B.drop (cle Mk key + 1),
    Mk.take (cle Mk key) ++ [sepOf (kat (insB B Mk key) ((insB B Mk key).length / 2 - 1)) (kat (insB B Mk key) ((insB B Mk key).length / 2))] ++ Mk.drop (cle Mk key))
theorem insB_eq {L : Nat} {B : BL} {Mk : List (List Int)} (h : Ix L B Mk) {key : List Int} {b : List (List Int)} (hb : B[cle Mk key]? = some b) : insB B Mk key = sortK (b ++ [key]) := by
  unfold insB
  rw [List.getD_eq_getElem?_getD, hb]
  rfl
theorem kat_lt {l : List (List Int)} (h : Asc l) {i j : Nat} (hij : i < j) (hj : j < l.length) : HT.lexLt (kat l i) (kat l j) = true := h.at (kat_eq (by omega)) (kat_eq hj) hij
theorem split_at (B : BL) {p : Nat} {b : List (List Int)} (hb : B[p]? = some b) : B = B.take p ++ b :: B.drop (p + 1) := by
  obtain ⟨h1, e⟩ := List.getElem?_eq_some_iff.mp hb
  conv => lhs; rw [← List.take_append_drop p B, List.drop_eq_getElem_cons h1, e]
theorem Ix.ins {L : Nat} {B : BL} {Mk : List (List Int)} (h : Ix L B Mk) {size : Nat} (hs : 1 ≤ size) {key : List Int} (hk : By key ∧ key.length ≤ L) (hn : key ∉ B.flatten) : Ix L (insI size B Mk key).1 (insI size B Mk key).2 ∧ ∀ k, k ∈ (insI size B Mk key).1.flatten ↔ k = key ∨ k ∈ B.flatten := by
  obtain ⟨b, hb⟩ := h.at key
  have hlen := h.len
  have hcl := cle_le Mk key
  have hp : cle Mk key < B.length := (List.getElem?_eq_some_iff.mp hb).1
  have eB := insB_eq h hb
  have hbm : b ∈ B := List.mem_of_getElem? hb
  have hnb : key ∉ b := fun z => hn ((h.mem hb).mpr z)
  have basc : Asc (insB B Mk key) := by rw [eB]; exact sortK_asc (h.basc b hbm) hnb
  have bmem : ∀ k, k ∈ insB B Mk key ↔ k = key ∨ k ∈ b := fun k => by rw [eB, mem_sortK]; simp [or_comm]
  have bok : ∀ k ∈ insB B Mk key, By k ∧ k.length ≤ L := fun k hk' => by
    rcases (bmem k).mp hk' with rfl | z
    · exact hk
    · exact h.kok b hbm k z
  have brt : ∀ k ∈ insB B Mk key, cle Mk k = cle Mk key := fun k hk' => by
    rcases (bmem k).mp hk' with rfl | z
    · rfl
    · exact h.route _ b hb k z
  have blen : (insB B Mk key).length = b.length + 1 := by rw [eB, len_sortK]; simp
  have mem_iff : ∀ k, k ∈ B.flatten ↔ k ∈ (B.take (cle Mk key)).flatten ∨ k ∈ b ∨ k ∈ (B.drop (cle Mk key + 1)).flatten := fun k => by
    conv => lhs; rw [split_at B hb]
    simp [List.flatten_append, List.mem_append]
  unfold insI
  by_cases hz : (insB B Mk key).length ≤ size
  · rw [if_pos hz]
    simp only []
    have eS : B.set (cle Mk key) (insB B Mk key) = B.take (cle Mk key) ++ insB B Mk key :: B.drop (cle Mk key + 1) := List.set_eq_take_append_cons_drop .. |>.trans (by rw [if_pos hp])
    refine ⟨⟨by simp [hlen], fun c hc => ?_, h.masc, fun c hc => ?_, h.mok, fun i c hc k hk' => ?_, fun hl c hc => ?_⟩, fun k => ?_⟩
    · rcases List.mem_or_eq_of_mem_set hc with z | rfl
      · exact h.basc c z
      · exact basc
    · rcases List.mem_or_eq_of_mem_set hc with z | rfl
      · exact h.kok c z
      · exact bok
    · by_cases hi : i = cle Mk key
      · subst hi
        rw [List.getElem?_set_self hp] at hc
        cases hc
        exact brt k hk'
      · rw [List.getElem?_set_ne (fun z => hi z.symm)] at hc
        exact h.route i c hc k hk'
    · rcases List.mem_or_eq_of_mem_set hc with z | rfl
      · exact h.ne (by simpa using hl) c z
      · intro z; rw [z] at blen; simp at blen
    · rw [eS, mem_iff k]
      simp only [List.flatten_append, List.flatten_cons, List.mem_append, bmem k]
      constructor
      · rintro (z | (z | z) | z)
        · exact .inr (.inl z)
        · exact .inl z
        · exact .inr (.inr (.inl z))
        · exact .inr (.inr (.inr z))
      · rintro (z | z | z | z)
        · exact .inr (.inl (.inl z))
        · exact .inl z
        · exact .inr (.inl (.inr z))
        · exact .inr (.inr z)
  · rw [if_neg hz]
    simp only []
    generalize hblk : insB B Mk key = blk at *
    generalize hhalf : blk.length / 2 = half
    have hh1 : 1 ≤ half := by omega
    have hh2 : half < blk.length := by omega
    have hsm := sep_mid basc (a := half) (by omega) hh2
    generalize hsep : sepOf (kat blk (half - 1)) (kat blk half) = sp at *
    obtain ⟨sp1, sp2⟩ := hsm
    have spok : By sp ∧ sp.length ≤ L := by
      have := bok _ (kat_mem hh2)
      rw [← hsep]
      exact ⟨this.1.take _, by unfold sepOf; rw [List.length_take]; omega⟩
    have tk : ∀ k ∈ blk.take half, HT.lexLt k sp = true := fun k hk' => by
      obtain ⟨j, hj⟩ := List.getElem?_of_mem hk'
      have hjl : j < half := by have := (List.getElem?_eq_some_iff.mp hj).1; simp at this; omega
      rw [List.getElem?_take_of_lt hjl, kat_eq (by omega)] at hj
      cases hj
      exact lex_le_lt (kat_le basc (i := j) (j := half - 1) (by omega) (by omega)) sp1
    have dr : ∀ k ∈ blk.drop half, HT.lexLt k sp = false := fun k hk' => by
      obtain ⟨j, hj⟩ := List.getElem?_of_mem hk'
      have hjl : half + j < blk.length := by have := (List.getElem?_eq_some_iff.mp hj).1; simp at this; omega
      rw [List.getElem?_drop, kat_eq hjl] at hj
      cases hj
      exact NtL.lex_tr _ _ _ sp2 (kat_le basc (i := half) (j := half + j) (by omega) hjl)
    -- the marks around
    have mlo : ∀ m ∈ Mk.take (cle Mk key), HT.lexLt m sp = true := fun m hm => by
      obtain ⟨j, hj⟩ := List.getElem?_of_mem hm
      have hjl : j < cle Mk key := by have := (List.getElem?_eq_some_iff.mp hj).1; simp at this; omega
      rw [List.getElem?_take_of_lt hjl] at hj
      have q : HT.lexLt (kat blk (half - 1)) m = false := (cle_iff h.masc hj).mpr (by rw [brt _ (kat_mem (by omega))]; exact hjl)
      exact lex_le_lt q sp1
    have mhi : ∀ m ∈ Mk.drop (cle Mk key), HT.lexLt sp m = true := fun m hm => by
      obtain ⟨j, hj⟩ := List.getElem?_of_mem hm
      rw [List.getElem?_drop] at hj
      have q : HT.lexLt (kat blk half) m = true := by
        cases z : HT.lexLt (kat blk half) m with
        | true => rfl
        | false =>
          have := (cle_iff h.masc hj).mp z
          rw [brt _ (kat_mem hh2)] at this
          omega
      exact lex_le_lt sp2 q
    have newcle : ∀ k, cle (Mk.take (cle Mk key) ++ [sp] ++ Mk.drop (cle Mk key)) k = cle Mk k + if HT.lexLt k sp then 0 else 1 := fun k => by
      rw [cle_append, cle_append, cle_one]
      have : cle Mk k = cle (Mk.take (cle Mk key)) k + cle (Mk.drop (cle Mk key)) k := by rw [← cle_append, List.take_append_drop]
      omega
    have lowk : ∀ i c, B[i]? = some c → i < cle Mk key → ∀ k ∈ c, HT.lexLt k sp = true := fun i c hc hi k hk' => by
      have e := h.route i c hc k hk'
      have hil : i < Mk.length := by omega
      obtain ⟨m, hm⟩ : ∃ m, Mk[i]? = some m := ⟨_, List.getElem?_eq_getElem hil⟩
      have q : HT.lexLt k m = true := by
        cases z : HT.lexLt k m with
        | true => rfl
        | false => have := (cle_iff h.masc hm).mp z; omega
      exact lexLt_trans _ _ _ q (mlo m (List.mem_of_getElem? (i := i) (by rw [List.getElem?_take_of_lt hi]; exact hm)))
    have highk : ∀ i c, B[i]? = some c → cle Mk key < i → ∀ k ∈ c, HT.lexLt k sp = false := fun i c hc hi k hk' => by
      have e := h.route i c hc k hk'
      have hil : cle Mk key < Mk.length := by have := cle_le Mk k; omega
      obtain ⟨m, hm⟩ : ∃ m, Mk[cle Mk key]? = some m := ⟨_, List.getElem?_eq_getElem hil⟩
      have q : HT.lexLt k m = false := (cle_iff h.masc hm).mpr (by omega)
      have q2 := mhi m (List.mem_of_getElem? (i := 0) (by rw [List.getElem?_drop]; exact hm))
      exact NtL.lex_tr _ _ _ (lexLt_asymm _ _ q2) q
    refine ⟨⟨?_, fun c hc => ?_, ?_, fun c hc => ?_, fun m hm => ?_, fun i c hc k hk' => ?_, fun hl c hc => ?_⟩, fun k => ?_⟩
    · simp; omega
    · simp only [List.mem_append, List.mem_cons, List.not_mem_nil, or_false] at hc
      rcases hc with (z | z | z) | z
      · exact h.basc c (List.mem_of_mem_take z)
      · subst z; exact List.Pairwise.sublist (List.take_sublist _ _) basc
      · subst z; exact List.Pairwise.sublist (List.drop_sublist _ _) basc
      · exact h.basc c (List.mem_of_mem_drop z)
    · refine List.pairwise_append.mpr ⟨List.pairwise_append.mpr ⟨List.Pairwise.sublist (List.take_sublist _ _) h.masc, List.pairwise_singleton _ _, fun m hm z hz => ?_⟩, List.Pairwise.sublist (List.drop_sublist _ _) h.masc, fun m hm z hz => ?_⟩
      · simp at hz; subst hz; exact mlo m hm
      · rcases List.mem_append.mp hm with hm | hm
        · exact lexLt_trans _ _ _ (mlo m hm) (mhi z hz)
        · simp at hm; subst hm; exact mhi z hz
    · simp only [List.mem_append, List.mem_cons, List.not_mem_nil, or_false] at hc
      rcases hc with (z | z | z) | z
      · exact h.kok c (List.mem_of_mem_take z)
      · subst z; exact fun k hk' => bok k (List.mem_of_mem_take hk')
      · subst z; exact fun k hk' => bok k (List.mem_of_mem_drop hk')
      · exact h.kok c (List.mem_of_mem_drop z)
    · simp only [List.mem_append, List.mem_cons, List.not_mem_nil, or_false] at hm
      rcases hm with (z | z) | z
      · exact h.mok m (List.mem_of_mem_take z)
      · subst z; exact spok
      · exact h.mok m (List.mem_of_mem_drop z)
    · rw [newcle]
      have htl : (B.take (cle Mk key)).length = cle Mk key := by simp; omega
      by_cases h1 : i < cle Mk key
      · rw [List.append_assoc, List.getElem?_append_left (by rw [htl]; exact h1), List.getElem?_take_of_lt h1] at hc
        rw [h.route i c hc k hk', lowk i c hc h1 k hk']
        simp
      · rw [List.append_assoc, List.getElem?_append_right (by omega), htl] at hc
        by_cases h2 : i = cle Mk key
        · subst h2
          simp at hc
          subst hc
          rw [tk k hk', brt k (List.mem_of_mem_take hk')]
          simp
        · by_cases h3 : i = cle Mk key + 1
          · subst h3
            rw [show cle Mk key + 1 - cle Mk key = 1 by omega] at hc
            simp at hc
            subst hc
            rw [dr k hk', brt k (List.mem_of_mem_drop hk')]
            simp
          · obtain ⟨j, hj⟩ : ∃ j, i - cle Mk key = j + 2 := ⟨i - cle Mk key - 2, by omega⟩
            rw [hj] at hc
            simp only [List.cons_append, List.nil_append, List.getElem?_cons_succ] at hc
            rw [List.getElem?_drop] at hc
            have hi : cle Mk key + 1 + j = i - 1 := by omega
            rw [hi] at hc
            rw [h.route (i - 1) c hc k hk', highk (i - 1) c hc (by omega) k hk']
            simp
            omega
    · simp only [List.mem_append, List.mem_cons, List.not_mem_nil, or_false] at hc
      have old : ∀ c ∈ B, 1 < B.length → c ≠ [] := fun c hc hl => h.ne hl c hc
      rcases hc with (z | z | z) | z
      · have hm := List.mem_of_mem_take z
        refine old c hm ?_
        have : 0 < (B.take (cle Mk key)).length := List.length_pos_of_mem z
        simp at this
        omega
      · subst z; intro z; have := congrArg List.length z; rw [List.length_take, List.length_nil] at this; omega
      · subst z; intro z; have := congrArg List.length z; rw [List.length_drop, List.length_nil] at this; omega
      · refine old c (List.mem_of_mem_drop z) ?_
        have : 0 < (B.drop (cle Mk key + 1)).length := List.length_pos_of_mem z
        simp at this
        omega
    · rw [mem_iff k]
      simp only [List.flatten_append, List.flatten_cons, List.mem_append, List.flatten_nil, List.append_nil]
      have e : k ∈ blk.take half ∨ k ∈ blk.drop half ↔ k = key ∨ k ∈ b := by
        rw [← List.mem_append, List.take_append_drop]
        exact bmem k
      constructor
      · rintro ((z | z | z) | z)
        · exact .inr (.inl z)
        · rcases e.mp (.inl z) with q | q
          · exact .inl q
          · exact .inr (.inr (.inl q))
        · rcases e.mp (.inr z) with q | q
          · exact .inl q
          · exact .inr (.inr (.inl q))
        · exact .inr (.inr (.inr z))
      · rintro (z | z | z | z)
        · exact .inl (.inr (e.mpr (.inl z)))
        · exact .inl (.inl z)
        · exact .inl (.inr (e.mpr (.inr z)))
        · exact .inr z
/-! removal -/
def remB (B : BL) (Mk : List (List Int)) (key : List Int) : List (List Int) := (B.getD (cle Mk key) []).filter fun k => !decide (k = key)
def remI (B : BL) (Mk : List (List Int)) (key : List Int) : BL × List (List Int) :=
  if remB B Mk key = [] ∧ 1 < B.length then (B.eraseIdx (cle Mk key), Mk.eraseIdx (cle Mk key - 1)) else (B.set (cle Mk key) (remB B Mk key), Mk)
theorem cle_erase {Mk : List (List Int)} (hm : Asc Mk) {g : Nat} (hg : g < Mk.length) (k : List Int) : cle (Mk.eraseIdx g) k = cle Mk k - if g < cle Mk k then 1 else 0 := by
  obtain ⟨m, hgm⟩ : ∃ m, Mk[g]? = some m := ⟨_, List.getElem?_eq_getElem hg⟩
  have e1 : cle Mk k = cle (Mk.take g) k + (cle [m] k + cle (Mk.drop (g + 1)) k) := by
    rw [← cle_append, ← cle_append]
    congr 1
    have := List.getElem?_eq_some_iff.mp hgm
    rw [List.singleton_append, ← this.2, ← List.drop_eq_getElem_cons hg, List.take_append_drop]
  have e2 : cle (Mk.eraseIdx g) k = cle (Mk.take g) k + cle (Mk.drop (g + 1)) k := by
    rw [← cle_append, List.eraseIdx_eq_take_drop_succ]
  have e3 := cle_iff (key := k) hm hgm
  rw [cle_one] at e1
  cases q : HT.lexLt k m with
  | true =>
    rw [q] at e1 e3
    have : ¬ g < cle Mk k := fun z => by have := e3.mpr z; cases this
    rw [if_neg this, e2]
    simp at e1
    omega
  | false =>
    rw [q] at e1 e3
    rw [if_pos (e3.mp rfl), e2]
    simp at e1
    omega
theorem Ix.rem {L : Nat} {B : BL} {Mk : List (List Int)} (h : Ix L B Mk) {key : List Int} (hk : key ∈ B.flatten) : Ix L (remI B Mk key).1 (remI B Mk key).2 ∧ ∀ k, k ∈ (remI B Mk key).1.flatten ↔ k ≠ key ∧ k ∈ B.flatten := by
  obtain ⟨b, hb⟩ := h.at key
  have hlen := h.len
  have hcl := cle_le Mk key
  have hp : cle Mk key < B.length := (List.getElem?_eq_some_iff.mp hb).1
  have hbm : b ∈ B := List.mem_of_getElem? hb
  have hkb : key ∈ b := (h.mem hb).mp hk
  have eR : remB B Mk key = b.filter fun k => !decide (k = key) := by
    unfold remB
    rw [List.getD_eq_getElem?_getD, hb]
    rfl
  have rmem : ∀ k, k ∈ remB B Mk key ↔ k ∈ b ∧ k ≠ key := fun k => by rw [eR, List.mem_filter]; simp
  have mem_iff : ∀ k, k ∈ B.flatten ↔ k ∈ (B.take (cle Mk key)).flatten ∨ k ∈ b ∨ k ∈ (B.drop (cle Mk key + 1)).flatten := fun k => by
    conv => lhs; rw [split_at B hb]
    simp [List.flatten_append, List.mem_append]
  -- the key is in no other block
  have other : ∀ i c, B[i]? = some c → key ∈ c → i = cle Mk key := fun i c hc hm => (h.route i c hc key hm).symm
  have nt : key ∉ (B.take (cle Mk key)).flatten := fun z => by
    obtain ⟨c, hc, hm⟩ := List.mem_flatten.mp z
    obtain ⟨i, hi⟩ := List.getElem?_of_mem hc
    have hil : i < cle Mk key := by have := (List.getElem?_eq_some_iff.mp hi).1; simp at this; omega
    rw [List.getElem?_take_of_lt hil] at hi
    have := other i c hi hm
    omega
  have nd : key ∉ (B.drop (cle Mk key + 1)).flatten := fun z => by
    obtain ⟨c, hc, hm⟩ := List.mem_flatten.mp z
    obtain ⟨i, hi⟩ := List.getElem?_of_mem hc
    rw [List.getElem?_drop] at hi
    have := other _ c hi hm
    omega
  unfold remI
  by_cases hz : remB B Mk key = [] ∧ 1 < B.length
  · rw [if_pos hz]
    simp only []
    obtain ⟨hz1, hz2⟩ := hz
    have hb1 : ∀ k ∈ b, k = key := fun k hk' => by
      cases q : decide (k = key) with
      | true => exact of_decide_eq_true q
      | false =>
        have : k ∈ remB B Mk key := (rmem k).mpr ⟨hk', of_decide_eq_false q⟩
        rw [hz1] at this
        simp at this
    have hgl : cle Mk key - 1 < Mk.length := by omega
    have eE : B.eraseIdx (cle Mk key) = B.take (cle Mk key) ++ B.drop (cle Mk key + 1) := List.eraseIdx_eq_take_drop_succ ..
    have sub : ∀ c ∈ B.eraseIdx (cle Mk key), c ∈ B := fun c hc => List.mem_of_mem_eraseIdx hc
    refine ⟨⟨?_, fun c hc => h.basc c (sub c hc), List.Pairwise.sublist (List.eraseIdx_sublist _ _) h.masc, fun c hc => h.kok c (sub c hc), fun m hm => h.mok m (List.mem_of_mem_eraseIdx hm), fun i c hc k hk' => ?_, fun hl c hc => h.ne hz2 c (sub c hc)⟩, fun k => ?_⟩
    · rw [List.length_eraseIdx_of_lt hp, List.length_eraseIdx_of_lt hgl]
      omega
    · rw [cle_erase h.masc hgl]
      by_cases hi : i < cle Mk key
      · rw [List.getElem?_eraseIdx_of_lt hi] at hc
        rw [h.route i c hc k hk', if_neg (by omega)]
        omega
      · rw [List.getElem?_eraseIdx_of_ge (by omega)] at hc
        rw [h.route (i + 1) c hc k hk', if_pos (by omega)]
        omega
    · rw [eE, mem_iff k]
      simp only [List.flatten_append, List.mem_append]
      constructor
      · rintro (z | z)
        · exact ⟨fun e => nt (e ▸ z), .inl z⟩
        · exact ⟨fun e => nd (e ▸ z), .inr (.inr z)⟩
      · rintro ⟨hne, z | z | z⟩
        · exact .inl z
        · exact absurd (hb1 k z) hne
        · exact .inr z
  · rw [if_neg hz]
    simp only []
    have eS : B.set (cle Mk key) (remB B Mk key) = B.take (cle Mk key) ++ remB B Mk key :: B.drop (cle Mk key + 1) := List.set_eq_take_append_cons_drop .. |>.trans (by rw [if_pos hp])
    have sub : ∀ k ∈ remB B Mk key, k ∈ b := fun k hk' => ((rmem k).mp hk').1
    refine ⟨⟨by simp [hlen], fun c hc => ?_, h.masc, fun c hc => ?_, h.mok, fun i c hc k hk' => ?_, fun hl c hc => ?_⟩, fun k => ?_⟩
    · rcases List.mem_or_eq_of_mem_set hc with z | rfl
      · exact h.basc c z
      · rw [eR]; exact List.Pairwise.sublist List.filter_sublist (h.basc b hbm)
    · rcases List.mem_or_eq_of_mem_set hc with z | rfl
      · exact h.kok c z
      · exact fun k hk' => h.kok b hbm k (sub k hk')
    · by_cases hi : i = cle Mk key
      · subst hi
        rw [List.getElem?_set_self hp] at hc
        cases hc
        exact h.route _ b hb k (sub k hk')
      · rw [List.getElem?_set_ne (fun z => hi z.symm)] at hc
        exact h.route i c hc k hk'
    · rcases List.mem_or_eq_of_mem_set hc with z | rfl
      · exact h.ne (by simpa using hl) c z
      · intro z; exact hz ⟨z, by simpa using hl⟩
    · rw [eS, mem_iff k]
      simp only [List.flatten_append, List.flatten_cons, List.mem_append, rmem k]
      constructor
      · rintro (z | z | z)
        · exact ⟨fun e => nt (e ▸ z), .inl z⟩
        · exact ⟨z.2, .inr (.inl z.1)⟩
        · exact ⟨fun e => nd (e ▸ z), .inr (.inr z)⟩
      · rintro ⟨hne, z | z | z⟩
        · exact .inl z
        · exact .inr (.inl ⟨z, hne⟩)
        · exact .inr (.inr z)
theorem Ix.empty {L : Nat} {B : BL} {Mk : List (List Int)} (h : Ix L B Mk) (he : B.flatten = []) : B = [[]] ∧ Mk = [] := by
  have hl := h.len
  by_cases h1 : 1 < B.length
  · obtain ⟨b, hb⟩ : ∃ b, B[0]? = some b := ⟨_, List.getElem?_eq_getElem (by omega)⟩
    have hm := List.mem_of_getElem? hb
    have hne := h.ne h1 b hm
    cases b with
    | nil => exact absurd rfl hne
    | cons k r =>
      have : k ∈ B.flatten := List.mem_flatten.mpr ⟨_, hm, by simp⟩
      rw [he] at this
      simp at this
  · have e1 : B.length = 1 := by omega
    obtain ⟨b, rfl⟩ := List.length_eq_one_iff.mp e1
    simp at he
    subst he
    exact ⟨rfl, List.eq_nil_of_length_eq_zero (by omega)⟩
end KB
namespace KB
open PySem PySem.Spec PyProof.Rows L2
/-! ### the methods of the index -/
theorem shp_kl (xs : List (List Int)) : shp (.lst (xs.map bs)) = true := (okD_lst (k := 1) fun d h => by
  obtain ⟨b, _, rfl⟩ := List.mem_map.mp h
  exact okD_bs b).shp
theorem memD_kl (key : List Int) (ks : List (List Int)) : memD (bs key) (ks.map bs) = decide (key ∈ ks) := by
  unfold memD
  rw [List.any_map]
  rw [Bool.eq_iff_iff]
  simp [Function.comp_def]
theorem fIn_sq {M : List MO} {y : D} {ks : List (List Int)} (h : Sq M y ks) (key : List Int) : fIn (bs key) y M = .ok (.bl (decide (key ∈ ks))) M := by
  unfold fIn fInB
  rw [h.res, res_bs, shp_bs]
  simp only [shp_kl, Bool.and_self, if_true, memD_kl]
theorem fNotIn_sq {M : List MO} {y : D} {ks : List (List Int)} (h : Sq M y ks) (key : List Int) : fNotIn (bs key) y M = .ok (.bl (!decide (key ∈ ks))) M := by
  unfold fNotIn fInB
  rw [h.res, res_bs, shp_bs]
  simp only [shp_kl, Bool.and_self, if_true, memD_kl]
theorem tks_kl' : ∀ ks : List (List Int), tks? (ks.map bs) = some ks
  | [] => rfl
  | k :: ks => by
    have hi : ints? (k.map D.int) = some k := by
      induction k with
      | nil => rfl
      | cons a k ih => simp [ints?, ih]
    show (match ints? (k.map D.int), tks? (ks.map bs) with
      | some ns, some ks => some (ns :: ks)
      | _, _ => none) = _
    rw [hi, tks_kl' ks]
theorem fSorted_sq {M : List MO} {y : D} {ks : List (List Int)} (h : Sq M y ks) : fSorted [y] M = .ok (.lst (kl (sortK ks))) M := by
  unfold fSorted
  simp only [h.res, tks_kl']
  rfl
def bD (b : List (List Int)) : D := .lst (kl b)
def bl (B : BL) : List D := B.map bD
def ixF (size p q : Nat) : List (Str × D) := [("size", .int (size : Nat)), ("blocks", .cell p), ("marks", .cell q)]
def ixO (size : Nat) (p q : Nat) : MO := .obj "Index" (ixF size p q)
structure IxAt (M : List MO) (o p q size : Nat) (B : BL) (Mk : List (List Int)) : Prop where
  ob : M[o]? = some (ixO size p q)
  bk : M[p]? = some (.lst (bl B))
  mks : M[q]? = some (.lst (kl Mk))
  op : o ≠ p
  oq : o ≠ q
  pq : p ≠ q
def setI (M : List MO) (p q : Nat) (B : BL) (Mk : List (List Int)) : List MO := (M.set p (.lst (bl B))).set q (.lst (kl Mk))
theorem set_same {M : List MO} {n : Nat} {x : MO} (h : M[n]? = some x) : M.set n x = M := by
  obtain ⟨h1, rfl⟩ := List.getElem?_eq_some_iff.mp h
  exact List.set_getElem_self h1
section
variable {M : List MO} {o p q size : Nat} {B : BL} {Mk : List (List Int)}
theorem IxAt.fB (h : IxAt M o p q size B Mk) : fFldO "Index" "blocks" (.cell o) M = .ok (.cell p) M := by
  have e : objAt "Index" (.cell o) M = some (o, ixF size p q) := by
    simp [objAt, h.ob, ixO]
  unfold fFldO
  rw [e]
  rfl
theorem IxAt.fM (h : IxAt M o p q size B Mk) : fFldO "Index" "marks" (.cell o) M = .ok (.cell q) M := by
  have e : objAt "Index" (.cell o) M = some (o, ixF size p q) := by
    simp [objAt, h.ob, ixO]
  unfold fFldO
  rw [e]
  rfl
theorem IxAt.fS (h : IxAt M o p q size B Mk) : fFldO "Index" "size" (.cell o) M = .ok (.int (size : Nat)) M := by
  have e : objAt "Index" (.cell o) M = some (o, ixF size p q) := by
    simp [objAt, h.ob, ixO]
  unfold fFldO
  rw [e]
  rfl
theorem IxAt.meth (h : IxAt M o p q size B Mk) {nm : Str} (hn : (ixF size p q).lookup nm = none) {m : List D → List MO → R D} {eo : EV} {ea : EA} {e : EN} (he : eo e M = .ok (.cell o) M) : eMethO "Index" nm m eo ea e M = (ea e M).bind fun xs M2 => m (.cell o :: xs) M2 := by
  have ee : objAt "Index" (.cell o) M = some (o, ixF size p q) := by
    simp [objAt, h.ob, ixO]
  unfold eMethO
  rw [he, R.bind_ok, ee]
  simp only [hn]
theorem IxAt.marks (h : IxAt M o p q size B Mk) : Sq M (.cell q) Mk := .inr ⟨q, rfl, h.mks⟩
theorem IxAt.blocks (h : IxAt M o p q size B Mk) : SqX bD M (.cell p) B := .inr ⟨p, rfl, h.bk⟩
theorem IxAt.setB (h : IxAt M o p q size B Mk) (B' : BL) : IxAt (M.set p (.lst (bl B'))) o p q size B' Mk := by
  refine ⟨?_, ?_, ?_, h.op, h.oq, h.pq⟩
  · rw [List.getElem?_set_ne h.op.symm]; exact h.ob
  · exact List.getElem?_set_self (List.getElem?_eq_some_iff.mp h.bk).1
  · rw [List.getElem?_set_ne h.pq]; exact h.mks
theorem IxAt.setM (h : IxAt M o p q size B Mk) (Mk' : List (List Int)) : IxAt (M.set q (.lst (kl Mk'))) o p q size B Mk' := by
  refine ⟨?_, ?_, ?_, h.op, h.oq, h.pq⟩
  · rw [List.getElem?_set_ne h.oq.symm]; exact h.ob
  · rw [List.getElem?_set_ne h.pq.symm]; exact h.bk
  · exact List.getElem?_set_self (List.getElem?_eq_some_iff.mp h.mks).1
theorem IxAt.setI (h : IxAt M o p q size B Mk) (B' : BL) (Mk' : List (List Int)) : IxAt (setI M p q B' Mk') o p q size B' Mk' := (h.setB B').setM Mk'
theorem IxAt.same (h : IxAt M o p q size B Mk) (B' : BL) : M.set p (.lst (bl B')) = KB.setI M p q B' Mk := by
  unfold KB.setI
  exact (set_same (h.setB B').mks).symm
end
theorem sSub_cell {M : List MO} {eo ei ev : EV} {e : EN} {p k : Nat} {ds : List D} {v : D} (h1 : ev e M = .ok v M) (h2 : eo e M = .ok (.cell p) M) (h3 : ei e M = .ok (.int (k : Nat)) M) (hM : M[p]? = some (.lst ds)) (hk : k < ds.length) : sSub eo ei ev e M = .nx e (M.set p (.lst (ds.set k v))) := by
  have hix : ixN ds.length (k : Int) = some k := by
    unfold ixN
    rw [if_pos (by omega), if_pos (by omega)]
    simp
  rw [sv_sub, h1, R.toS_ok, h2, R.toS_ok, h3, R.toS_ok]
  simp only [hM, hix]
theorem bl_set (B : BL) (k : Nat) (b : List (List Int)) : (bl B).set k (bD b) = bl (B.set k b) := by simp [bl, List.map_set]
theorem fInsert_cell {M : List MO} {p k : Nat} {ds : List D} {v : D} (hM : M[p]? = some (.lst ds)) (hl : ds.length < 100000) (hk : k < 100000) : fInsert (.cell p) [.int (k : Nat), v] M = .ok .non (M.set p (.lst (ds.take k ++ [v] ++ ds.drop k))) := by
  have hb : ds.length < big := by unfold big; omega
  have h2 : (k : Int) < 1000000 := by omega
  unfold fInsert
  simp only [hM]
  rw [if_pos ⟨hb, by omega, h2⟩]
  simp
section
variable {M : List MO} {o p q size L : Nat} {B : BL} {Mk : List (List Int)} {key : List Int}
theorem insert_dup (h : IxAt M o p q size B Mk) (hI : Ix L B Mk) (hL : L ≤ 390) (hk : By key ∧ key.length ≤ L) (hB : Mk.length ≤ 200) (hm : key ∈ B.flatten) : m_Index_insert [.cell o, bs key] M = .exc "BadIndex" M := by
  obtain ⟨b, hb⟩ := hI.at key
  have c1 := check_bytes_eq hk.1 (by omega) M
  have c2 := place_of_eq h.marks hI.masc (by omega) key
  have c3 := h.blocks.ix hb
  have c4 : fIn (bs key) (bD b) M = .ok (.bl true) M := by
    have := fIn_sq (M := M) (y := bD b) (ks := b) (.inl rfl) key
    rw [decide_eq_true ((hI.mem hb).mp hm)] at this
    exact this
  show (sv_Index_insert [some (.cell o), some (bs key), none, none, none] M).toR = _
  generalize (cle Mk key : Int) = z at c2 c3
  simp [sv_Index_insert, c1, h.fM, h.fB, c2, c3, c4, sRaise]
theorem insert_eq (h : IxAt M o p q size B Mk) (hI : Ix L B Mk) (hL : L ≤ 390) (hk : By key ∧ key.length ≤ L) (hB : Mk.length ≤ 200) (hb2 : ∀ b ∈ B, b.length ≤ 200) (hsz : 1 ≤ size) (hm : key ∉ B.flatten) :
    m_Index_insert [.cell o, bs key] M = .ok (.int (cle (insI size B Mk key).2 key : Nat)) (setI M p q (insI size B Mk key).1 (insI size B Mk key).2) := by
  obtain ⟨b, hb⟩ := hI.at key
  obtain ⟨hI', _⟩ := hI.ins hsz hk hm
  have hlen := hI.len
  have hcl := cle_le Mk key
  have hp : cle Mk key < B.length := (List.getElem?_eq_some_iff.mp hb).1
  have eB := insB_eq hI hb
  have hbl := hb2 b (List.mem_of_getElem? hb)
  have hnb : key ∉ b := fun z => hm ((hI.mem hb).mpr z)
  have basc : Asc (insB B Mk key) := by rw [eB]; exact sortK_asc (hI.basc b (List.mem_of_getElem? hb)) hnb
  have bok : ∀ k ∈ insB B Mk key, By k ∧ k.length ≤ L := fun k hk' => by
    rw [eB, mem_sortK] at hk'
    rcases List.mem_append.mp hk' with z | z
    · exact hI.kok b (List.mem_of_getElem? hb) k z
    · simp at z; subst z; exact hk
  have blen : (insB B Mk key).length = b.length + 1 := by rw [eB, len_sortK]; simp
  have c1 := check_bytes_eq hk.1 (by omega) M
  have c2 := place_of_eq h.marks hI.masc (by omega) key
  have c3 := h.blocks.ix hb
  have c4 : fIn (bs key) (bD b) M = .ok (.bl false) M := by
    have := fIn_sq (M := M) (y := bD b) (ks := b) (.inl rfl) key
    rw [decide_eq_false hnb] at this
    exact this
  have c5 : (eArgs fSorted (eCons (eBin fAdd (eVar 3) (eArgs fLst (eCons (eVar 1) eNil))) eNil)) [some (.cell o), some (bs key), some (nD (cle Mk key)), some (bD b), none] M = .ok (bD (insB B Mk key)) M := by
    have a1 : fAdd (bD b) (.lst [bs key]) M = .ok (.lst (kl (b ++ [key]))) M := by
      have hbb : b.length + 1 ≤ big := by unfold big; omega
      simp [bD, hbb, kl]
    have a2 := fSorted_sq (M := M) (y := .lst (kl (b ++ [key]))) (ks := b ++ [key]) (.inl rfl)
    rw [← eB] at a2
    simp [a1, a2]
    rfl
  show (sv_Index_insert [some (.cell o), some (bs key), none, none, none] M).toR = _
  have s1 : sExpr (eArgs m_check_bytes (eCons (eVar 1) eNil)) [some (.cell o), some (bs key), none, none, none] M = .nx [some (.cell o), some (bs key), none, none, none] M := by simp [c1]
  have s2 : sSet 2 (eArgs m_place_of (eCons (eUn (fFldO "Index" "marks") (eVar 0)) (eCons (eVar 1) eNil))) [some (.cell o), some (bs key), none, none, none] M = .nx [some (.cell o), some (bs key), some (nD (cle Mk key)), none, none] M := by
    simp [h.fM, c2, nD]
  have s3 : sSet 3 (eBin fIx (eUn (fFldO "Index" "blocks") (eVar 0)) (eVar 2)) [some (.cell o), some (bs key), some (nD (cle Mk key)), none, none] M = .nx [some (.cell o), some (bs key), some (nD (cle Mk key)), some (bD b), none] M := by
    have c3' : fIx (.cell p) (nD (cle Mk key)) M = .ok (bD b) M := c3
    simp [h.fB, c3']
  have s4 : sIf (eTest (eBin fIn (eVar 1) (eVar 3))) (sRaise "BadIndex") sNil [some (.cell o), some (bs key), some (nD (cle Mk key)), some (bD b), none] M = .nx [some (.cell o), some (bs key), some (nD (cle Mk key)), some (bD b), none] M := by
    simp [c4]
  have s5 : sSet 3 (eArgs fSorted (eCons (eBin fAdd (eVar 3) (eArgs fLst (eCons (eVar 1) eNil))) eNil)) [some (.cell o), some (bs key), some (nD (cle Mk key)), some (bD b), none] M = .nx [some (.cell o), some (bs key), some (nD (cle Mk key)), some (bD (insB B Mk key)), none] M := by
    rw [sv_set, c5]
    rfl
  have s6 : sSub (eUn (fFldO "Index" "blocks") (eVar 0)) (eVar 2) (eVar 3) [some (.cell o), some (bs key), some (nD (cle Mk key)), some (bD (insB B Mk key)), none] M = .nx [some (.cell o), some (bs key), some (nD (cle Mk key)), some (bD (insB B Mk key)), none] (M.set p (.lst (bl (B.set (cle Mk key) (insB B Mk key))))) := by
    rw [← bl_set]
    exact sSub_cell (k := cle Mk key) (by simp) (by simp [h.fB]) (by simp [nD]) h.bk (by simp [bl]; omega)
  have h1 := h.setB (B.set (cle Mk key) (insB B Mk key))
  generalize hM1 : M.set p (.lst (bl (B.set (cle Mk key) (insB B Mk key)))) = M1 at *
  have glen : fLen [bD (insB B Mk key)] M1 = .ok (.int ((insB B Mk key).length : Int)) M1 := by simp [bD]
  unfold sv_Index_insert
  rw [sv_seq, s1, RS.bind_nx, sv_seq, s2, RS.bind_nx, sv_seq, s3, RS.bind_nx, sv_seq, s4, RS.bind_nx, sv_seq, s5, RS.bind_nx, sv_seq, s6, RS.bind_nx, sv_seq, sv_if]
  have t7 : eTest (eBin fGt (eArgs fLen (eCons (eVar 3) eNil)) (eUn (fFldO "Index" "size") (eVar 0))) [some (.cell o), some (bs key), some (nD (cle Mk key)), some (bD (insB B Mk key)), none] M1 = .ok (decide (size < (insB B Mk key).length)) M1 := by
    simp [glen, h1.fS]
  rw [t7, R.toS_ok]
  have fin : ∀ (M2 : List MO) (e4 : Option D) (B2 : BL) (Mk2 : List (List Int)), IxAt M2 o p q size B2 Mk2 → Asc Mk2 → Mk2.length ≤ 300 → sRet (eArgs m_place_of (eCons (eUn (fFldO "Index" "marks") (eVar 0)) (eCons (eVar 1) eNil))) [some (.cell o), some (bs key), some (nD (cle Mk key)), some (bD (insB B Mk key)), e4] M2 = .ret (.int (cle Mk2 key : Nat)) M2 := fun M2 e4 B2 Mk2 hx hy hz => by
    have := place_of_eq hx.marks hy (by omega) key
    simp [hx.fM, this]
  by_cases hle : (insB B Mk key).length ≤ size
  · have hd : decide (size < (insB B Mk key).length) = false := decide_eq_false (by omega)
    rw [hd]
    simp only [Bool.false_eq_true, if_false, sv_nil, RS.bind_nx]
    rw [fin M1 none _ Mk h1 hI.masc (by omega)]
    have e1 : insI size B Mk key = (B.set (cle Mk key) (insB B Mk key), Mk) := by unfold insI; rw [if_pos hle]
    rw [e1]
    show R.ok _ M1 = _
    rw [← hM1, h.same]
  · have hd : decide (size < (insB B Mk key).length) = true := decide_eq_true (by omega)
    have e1 : insI size B Mk key = (B.take (cle Mk key) ++ [(insB B Mk key).take ((insB B Mk key).length / 2), (insB B Mk key).drop ((insB B Mk key).length / 2)] ++ B.drop (cle Mk key + 1), Mk.take (cle Mk key) ++ [sepOf (kat (insB B Mk key) ((insB B Mk key).length / 2 - 1)) (kat (insB B Mk key) ((insB B Mk key).length / 2))] ++ Mk.drop (cle Mk key)) := by unfold insI; rw [if_neg hle]
    rw [hd]
    simp only [if_true]
    rw [e1] at hI' ⊢
    simp only [] at hI' ⊢
    generalize hblk : insB B Mk key = blk at *
    generalize hhalf : blk.length / 2 = half at *
    have hh1 : 1 ≤ half := by omega
    have hh2 : half < blk.length := by omega
    -- half
    have u1 : sSet 4 (eBin fFdiv (eArgs fLen (eCons (eVar 3) eNil)) (eC (.int 2))) [some (.cell o), some (bs key), some (nD (cle Mk key)), some (bD blk), none] M1 = .nx [some (.cell o), some (bs key), some (nD (cle Mk key)), some (bD blk), some (nD half)] M1 := by
      have hdiv : fFdiv (.int (blk.length : Int)) (.int 2) M1 = .ok (nD half) M1 := by
        have : (blk.length : Int) / 2 = ((blk.length / 2 : Nat) : Int) := by omega
        rw [← hhalf]
        unfold nD
        rw [← this]
        rfl
      simp [-fFdiv_int, glen, hdiv]
    have ct : cutD (kl blk) none (some (half : Int)) = kl (blk.take half) := by rw [cut_to]; simp [kl, List.map_take]
    have cf : cutD (kl blk) (some (half : Int)) none = kl (blk.drop half) := by rw [cut_from]; simp [kl, List.map_drop]
    have u2 : sSub (eUn (fFldO "Index" "blocks") (eVar 0)) (eVar 2) (eSl (eVar 3) eNoE (eSomeE (eVar 4))) [some (.cell o), some (bs key), some (nD (cle Mk key)), some (bD blk), some (nD half)] M1 = .nx [some (.cell o), some (bs key), some (nD (cle Mk key)), some (bD blk), some (nD half)] (M1.set p (.lst (bl (B.set (cle Mk key) (blk.take half))))) := by
      have : sSub (eUn (fFldO "Index" "blocks") (eVar 0)) (eVar 2) (eSl (eVar 3) eNoE (eSomeE (eVar 4))) [some (.cell o), some (bs key), some (nD (cle Mk key)), some (bD blk), some (nD half)] M1 = .nx [some (.cell o), some (bs key), some (nD (cle Mk key)), some (bD blk), some (nD half)] (M1.set p (.lst ((bl (B.set (cle Mk key) blk)).set (cle Mk key) (bD (blk.take half))))) :=
        sSub_cell (k := cle Mk key) (by simp [bD, nD, ct]) (by simp [h1.fB]) (by simp [nD]) h1.bk (by simp [bl]; omega)
      rw [this, bl_set, List.set_set]
    have h2 := h1.setB (B.set (cle Mk key) (blk.take half))
    generalize hM2 : M1.set p (.lst (bl (B.set (cle Mk key) (blk.take half)))) = M2 at *
    have tkl : (bl (B.set (cle Mk key) (blk.take half))).take (cle Mk key + 1) ++ [bD (blk.drop half)] ++ (bl (B.set (cle Mk key) (blk.take half))).drop (cle Mk key + 1) = bl (B.take (cle Mk key) ++ [blk.take half, blk.drop half] ++ B.drop (cle Mk key + 1)) := by
      have e2 : B.set (cle Mk key) (blk.take half) = B.take (cle Mk key) ++ blk.take half :: B.drop (cle Mk key + 1) := List.set_eq_take_append_cons_drop .. |>.trans (by rw [if_pos hp])
      have htl : (B.take (cle Mk key)).length = cle Mk key := by simp; omega
      unfold bl
      rw [← List.map_take, ← List.map_drop, e2]
      rw [show B.take (cle Mk key) ++ blk.take half :: B.drop (cle Mk key + 1) = (B.take (cle Mk key) ++ [blk.take half]) ++ B.drop (cle Mk key + 1) from by simp]
      rw [List.take_left' (by simp; omega), List.drop_left' (by simp; omega)]
      simp
    have u3 : sExpr (eMeth ckL fInsert (eUn (fFldO "Index" "blocks") (eVar 0)) (eCons (eBin fAdd (eVar 2) (eC (.int 1))) (eCons (eSl (eVar 3) (eSomeE (eVar 4)) eNoE) eNil))) [some (.cell o), some (bs key), some (nD (cle Mk key)), some (bD blk), some (nD half)] M2 = .nx [some (.cell o), some (bs key), some (nD (cle Mk key)), some (bD blk), some (nD half)] (M2.set p (.lst (bl (B.take (cle Mk key) ++ [blk.take half, blk.drop half] ++ B.drop (cle Mk key + 1))))) := by
      have hck : ckL (.cell p) M2 = true := by unfold ckL; rw [res_at h2.bk]
      have hi := fInsert_cell (k := cle Mk key + 1) (v := bD (blk.drop half)) h2.bk (by simp [bl]; omega) (by omega)
      rw [tkl] at hi
      have hi' : fInsert (.cell p) [.int ((cle Mk key : Int) + 1), .lst (kl (blk.drop half))] M2 = .ok .non (M2.set p (.lst (bl (B.take (cle Mk key) ++ [blk.take half, blk.drop half] ++ B.drop (cle Mk key + 1))))) := hi
      generalize bl (B.take (cle Mk key) ++ [blk.take half, blk.drop half] ++ B.drop (cle Mk key + 1)) = big1 at hi' ⊢
      simp [h2.fB, hck, bD, nD, cf, hi']
    have h3 := h2.setB (B.take (cle Mk key) ++ [blk.take half, blk.drop half] ++ B.drop (cle Mk key + 1))
    generalize hM3 : M2.set p (.lst (bl (B.take (cle Mk key) ++ [blk.take half, blk.drop half] ++ B.drop (cle Mk key + 1)))) = M3 at *
    have hx : Sq M3 (bD blk) blk := .inl rfl
    have g1 := kat_eq (ks := blk) (i := half - 1) (by omega)
    have g2 := kat_eq (ks := blk) (i := half) hh2
    have e3 : fIx (bD blk) (.int ((half : Int) - 1)) M3 = .ok (bs (kat blk (half - 1))) M3 := by
      have := hx.ix g1
      rw [← this]; congr 2; omega
    have e4 : fIx (bD blk) (nD half) M3 = .ok (bs (kat blk half)) M3 := hx.ix g2
    have k1 := bok _ (kat_mem (ks := blk) (i := half - 1) (by omega))
    have k2 := bok _ (kat_mem hh2)
    have qs := separator_eq k1.1 k2.1 (by omega) (by omega) (basc.at g1 g2 (by omega)) M3
    have mkl : (kl Mk).take (cle Mk key) ++ [bs (sepOf (kat blk (half - 1)) (kat blk half))] ++ (kl Mk).drop (cle Mk key) = kl (Mk.take (cle Mk key) ++ [sepOf (kat blk (half - 1)) (kat blk half)] ++ Mk.drop (cle Mk key)) := by
      simp [kl, List.map_take, List.map_drop]
    have u4 : sExpr (eMeth ckL fInsert (eUn (fFldO "Index" "marks") (eVar 0)) (eCons (eVar 2) (eCons (eArgs m_separator (eCons (eBin fIx (eVar 3) (eBin fSub (eVar 4) (eC (.int 1)))) (eCons (eBin fIx (eVar 3) (eVar 4)) eNil))) eNil))) [some (.cell o), some (bs key), some (nD (cle Mk key)), some (bD blk), some (nD half)] M3 = .nx [some (.cell o), some (bs key), some (nD (cle Mk key)), some (bD blk), some (nD half)] (M3.set q (.lst (kl (Mk.take (cle Mk key) ++ [sepOf (kat blk (half - 1)) (kat blk half)] ++ Mk.drop (cle Mk key))))) := by
      have hck : ckL (.cell q) M3 = true := by unfold ckL; rw [res_at h3.mks]
      have hi := fInsert_cell (k := cle Mk key) (v := bs (sepOf (kat blk (half - 1)) (kat blk half))) h3.mks (by simp; omega) (by omega)
      rw [mkl] at hi
      have hi' : fInsert (.cell q) [nD (cle Mk key), bs (sepOf (kat blk (half - 1)) (kat blk half))] M3 = .ok .non (M3.set q (.lst (kl (Mk.take (cle Mk key) ++ [sepOf (kat blk (half - 1)) (kat blk half)] ++ Mk.drop (cle Mk key))))) := hi
      have hsub : fSub (nD half) (.int 1) M3 = .ok (.int ((half : Int) - 1)) M3 := rfl
      generalize kl (Mk.take (cle Mk key) ++ [sepOf (kat blk (half - 1)) (kat blk half)] ++ Mk.drop (cle Mk key)) = big2 at hi' ⊢
      simp [h3.fM, hck, hsub, e3, e4, qs, hi']
    have h4 := h3.setM (Mk.take (cle Mk key) ++ [sepOf (kat blk (half - 1)) (kat blk half)] ++ Mk.drop (cle Mk key))
    rw [sv_seq, u1, RS.bind_nx, sv_seq, u2, RS.bind_nx, sv_seq, u3, RS.bind_nx, u4, RS.bind_nx]
    rw [fin _ _ _ _ h4 hI'.masc (by simp; omega)]
    show R.ok _ (M3.set q _) = _
    unfold KB.setI
    rw [← hM3, ← hM2, ← hM1, List.set_set, List.set_set]
end
end KB
namespace KB
open PySem PySem.Spec PyProof.Rows L2
/-! ### two clauses over the blocks -/
theorem compC2_acc {g : GV} {src1 : EI} {vs1 : List Nat} {g1 : GV} {t1 : EB} {el : EV} {e : EN} {n : Nat} {M : List MO} {B : BL} {p : List Int → Bool} (e1 : List (List Int) → EN) (hM : M[n]? = some (.lst (bl B)))
    (hg : ∀ b ∈ B, g (bD b) e = some (e1 b) ∧ src1 (e1 b) M = .ok (.snap (kl b)) M)
    (ht : ∀ b ∈ B, ∀ k ∈ b, ∃ e2, g1 (bs k) (wipeE (e1 b) vs1) = some e2 ∧ t1 e2 M = .ok (p k) M ∧ (p k = true → el e2 M = .ok (bs k) M)) :
    ∀ (k i : Nat) (acc : List D), B.length < i + k → i ≤ B.length → acc.length + (B.drop i).flatten.length ≤ 100000 → compC2 g src1 vs1 g1 t1 el e n k i acc M = .ok (acc ++ (((B.drop i).flatten.filter p).map bs)) M
  | 0, i, acc, hk, hi, _ => by omega
  | k + 1, i, acc, hk, hii, ha => by
    unfold compC2
    simp only [hM]
    unfold bl
    rw [List.getElem?_map]
    by_cases hlt : i < B.length
    · have hb : B[i] ∈ B := List.getElem_mem hlt
      obtain ⟨h1, h2⟩ := hg _ hb
      rw [List.getElem?_eq_getElem hlt]
      simp only [Option.map_some, h1, h2, R.nox_ok]
      rw [List.drop_eq_getElem_cons hlt, List.flatten_cons] at ha ⊢
      rw [List.length_append] at ha
      have hc := compL_acc (c := bs) (g := g1) (t := t1) (el := el) (e := wipeE (e1 B[i]) vs1) (M := M) (f := bs) (p := p) B[i] acc (by unfold big; omega) (ht _ hb)
      unfold kl
      rw [hc, R.bind_ok, compC2_acc e1 hM hg ht k (i + 1) _ (by omega) hlt (by
        have := List.length_filter_le p B[i]
        rw [List.length_append, List.length_map]
        omega)]
      simp
    · rw [List.getElem?_eq_none (by omega)]
      simp [List.drop_eq_nil_of_le (show B.length ≤ i by omega)]
theorem comp2_eq {g : GV} {src1 : EI} {vs1 : List Nat} {g1 : GV} {t1 : EB} {el : EV} {e : EN} {n : Nat} {M : List MO} {B : BL} {p : List Int → Bool} (e1 : List (List Int) → EN) (hM : M[n]? = some (.lst (bl B)))
    (hg : ∀ b ∈ B, g (bD b) e = some (e1 b) ∧ src1 (e1 b) M = .ok (.snap (kl b)) M)
    (ht : ∀ b ∈ B, ∀ k ∈ b, ∃ e2, g1 (bs k) (wipeE (e1 b) vs1) = some e2 ∧ t1 e2 M = .ok (p k) M ∧ (p k = true → el e2 M = .ok (bs k) M)) (hl : B.length ≤ 300) (hf : B.flatten.length ≤ 100000) :
    compC2 g src1 vs1 g1 t1 el e n fuel 0 [] M = .ok (kl (B.flatten.filter p)) M := by
  have := compC2_acc e1 hM hg ht fuel 0 [] (by unfold fuel; omega) (Nat.zero_le _) (by simpa using hf)
  simpa [kl] using this
def rngB (lo : List Int) (o : Option (List Int)) (k : List Int) : Bool := !HT.lexLt k lo && (match o with
  | none => true
  | some h => HT.lexLt k h)
theorem in_range_rngB (lo : List Int) (o : Option (List Int)) (k : List Int) (M : List MO) : m_in_range [bs k, .tup [bs lo, ob o]] M = .ok (.bl (rngB lo o k)) M := by
  cases o with
  | none => cases h : HT.lexLt k lo <;> simp [m_in_range, mOf, sv_in_range, startE, gT, setAll, ob, rngB, h, fIs, isNon]
  | some b =>
    have hn : ∀ a : List Int, isNon (bs a) = false := fun _ => rfl
    cases h : HT.lexLt k lo <;> simp [m_in_range, mOf, sv_in_range, startE, gT, setAll, ob, rngB, h, fIs, hn]
section
variable {M : List MO} {o p q size L : Nat} {B : BL} {Mk : List (List Int)} {key : List Int}
theorem find_eq (h : IxAt M o p q size B Mk) (hl : B.length ≤ 300) (hf : B.flatten.length ≤ 100000) {lo : List Int} {hi : Option (List Int)} (h1 : By lo ∧ lo.length ≤ 400) (h2 : ∀ z, hi = some z → By z ∧ z.length ≤ 400) :
    m_Index_find [.cell o, .tup [bs lo, ob hi]] M = .ok (.lst (kl (B.flatten.filter (rngB lo hi)))) M := by
  have c1 := check_bytes_eq h1.1 h1.2 M
  have hsrc : eSeq (eUn (fFldO "Index" "blocks") (eVar 0)) [some (.cell o), some (.tup [bs lo, ob hi]), none, none] M = .ok (.cel p) M := by
    simp [h.fB, srcOf_cell _ h.bk]
  have hc := comp2_eq (g := gN 2) (src1 := eSeq (eVar 2)) (vs1 := [3]) (g1 := gN 3) (t1 := (eTest (eArgs m_in_range (eCons (eVar 3) (eCons (eVar 1) eNil))))) (el := eVar 3) (e := [some (.cell o), some (.tup [bs lo, ob hi]), none, none]) (p := rngB lo hi) (fun b => [some (.cell o), some (.tup [bs lo, ob hi]), some (bD b), none]) h.bk (fun b _ => ⟨rfl, by simp [bD]⟩) (fun b _ k _ => ⟨[some (.cell o), some (.tup [bs lo, ob hi]), some (bD b), some (bs k)], rfl, by simp [in_range_rngB], fun _ => by simp⟩) hl hf
  have hcomp : eLc2A (eSeq (eUn (fFldO "Index" "blocks") (eVar 0))) (gN 2) [2, 3] (eSeq (eVar 2)) [3] (gN 3) (eTest (eArgs m_in_range (eCons (eVar 3) (eCons (eVar 1) eNil)))) (eVar 3) [some (.cell o), some (.tup [bs lo, ob hi]), none, none] M = .ok (kl (B.flatten.filter (rngB lo hi))) M := by
    unfold eLc2A
    rw [hsrc, R.bind_ok]
    exact hc
  have s1 : sIf (eOr (eNot (eTest (eUn (fIsi "tuple") (eVar 1)))) (eTest (eBin fNe (eArgs fLen (eCons (eVar 1) eNil)) (eC (.int 2))))) (sRaise "BadBytes") sNil [some (.cell o), some (.tup [bs lo, ob hi]), none, none] M = .nx [some (.cell o), some (.tup [bs lo, ob hi]), none, none] M := by
    have : fNe (.int 2) (.int 2) M = .ok (.bl false) M := by simp [fNe]
    simp [this]
  have i0 : fIx (.tup [bs lo, ob hi]) (.int 0) M = .ok (bs lo) M := rfl
  have i1 : fIx (.tup [bs lo, ob hi]) (.int 1) M = .ok (ob hi) M := rfl
  have s2 : sExpr (eArgs m_check_bytes (eCons (eBin fIx (eVar 1) (eC (.int 0))) eNil)) [some (.cell o), some (.tup [bs lo, ob hi]), none, none] M = .nx [some (.cell o), some (.tup [bs lo, ob hi]), none, none] M := by
    simp [-fIx_tup, i0, c1]
  have s3 : sIf (eTest (eBin fIsNot (eBin fIx (eVar 1) (eC (.int 1))) (eC .non))) (sExpr (eArgs m_check_bytes (eCons (eBin fIx (eVar 1) (eC (.int 1))) eNil))) sNil [some (.cell o), some (.tup [bs lo, ob hi]), none, none] M = .nx [some (.cell o), some (.tup [bs lo, ob hi]), none, none] M := by
    cases hi with
    | none =>
      have i1' : fIx (.tup [bs lo, .non]) (.int 1) M = .ok .non M := rfl
      simp [-fIx_tup, i1', ob, fIsNot, isNon]
    | some z =>
      have c2 := check_bytes_eq (h2 z rfl).1 (h2 z rfl).2 M
      have hn : isNon (bs z) = false := rfl
      have i1' : fIx (.tup [bs lo, bs z]) (.int 1) M = .ok (bs z) M := rfl
      simp [-fIx_tup, i1', ob, fIsNot, hn, c2]
  show (sv_Index_find [some (.cell o), some (.tup [bs lo, ob hi]), none, none] M).toR = _
  unfold sv_Index_find
  rw [sv_seq, s1, RS.bind_nx, sv_seq, s2, RS.bind_nx, sv_seq, s3, RS.bind_nx, sv_ret, ev_args, hcomp]
  rfl
theorem len_eq (h : IxAt M o p q size B Mk) (hl : B.length ≤ 300) (hf : B.flatten.length ≤ 100000) : m_Index___len__ [.cell o] M = .ok (.int (B.flatten.length : Nat)) M := by
  have hsrc : eSeq (eUn (fFldO "Index" "blocks") (eVar 0)) [some (.cell o), none, none] M = .ok (.cel p) M := by
    simp [h.fB, srcOf_cell _ h.bk]
  have hc := comp2_eq (g := gN 1) (src1 := eSeq (eVar 1)) (vs1 := [2]) (g1 := gN 2) (t1 := eYes) (el := eVar 2) (e := [some (.cell o), none, none]) (p := fun _ => true) (fun b => [some (.cell o), some (bD b), none]) h.bk (fun b _ => ⟨rfl, by simp [bD]⟩) (fun b _ k _ => ⟨[some (.cell o), some (bD b), some (bs k)], rfl, rfl, fun _ => by simp⟩) hl hf
  rw [filter_yes] at hc
  have hcomp : eLc2A (eSeq (eUn (fFldO "Index" "blocks") (eVar 0))) (gN 1) [1, 2] (eSeq (eVar 1)) [2] (gN 2) eYes (eVar 2) [some (.cell o), none, none] M = .ok (kl B.flatten) M := by
    unfold eLc2A
    rw [hsrc, R.bind_ok]
    exact hc
  show (sv_Index___len__ [some (.cell o), none, none] M).toR = _
  unfold sv_Index___len__
  rw [sv_ret, ev_args, ev_cons, ev_args, hcomp]
  simp [fLst']
theorem lenO_eq (h : IxAt M o p q size B Mk) (hl : B.length ≤ 300) (hf : B.flatten.length ≤ 100000) {ea : EA} {e : EN} (he : ea e M = .ok [.cell o] M) : eLenO "Index" m_Index___len__ ea e M = .ok (.int (B.flatten.length : Nat)) M := by
  have ee : objAt "Index" (.cell o) M = some (o, ixF size p q) := by simp [objAt, h.ob, ixO]
  have hi : (0 : Int) ≤ (B.flatten.length : Nat) ∧ ((B.flatten.length : Nat) : Int) ≤ 1000000000 := ⟨by omega, by omega⟩
  unfold eLenO
  rw [he, R.bind_ok]
  simp only [ee, len_eq h hl hf, R.nox_ok]
  rw [if_pos hi]
theorem seps14_eq (h : IxAt M o p q size B Mk) : m_Index_separators_k14 [.cell o] M = .ok (.lst (kl Mk)) M := by
  have : fList [.cell q] M = .ok (.lst (kl Mk)) M := by simp [fList, res_at h.mks]
  simp [m_Index_separators_k14, mOf, sv_Index_separators_k14, startE, h.fM, this]
theorem layout14_eq (h : IxAt M o p q size B Mk) (hl : B.length ≤ 300) : m_Index_layout_k14 [.cell o] M = .ok (.lst (bl B)) M := by
  have hs : eSeq (eUn (fFldO "Index" "blocks") (eVar 0)) [some (.cell o), none] M = .ok (.cel p) M := by simp [h.fB, srcOf_cell _ h.bk]
  have hc : compC (gN 1) eYes (eArgs fList (eCons (eVar 1) eNil)) [some (.cell o), none] p fuel 0 [] M = .ok (bl B) M := by
    have := compC_filter (c := bD) (g := gN 1) (t := eYes) (el := (eArgs fList (eCons (eVar 1) eNil))) (e := [some (.cell o), none]) (n := p) (M := M) bD (fun _ => true) B h.bk (by omega) fun b _ => ⟨[some (.cell o), some (bD b)], rfl, rfl, fun _ => by
      have : fList [bD b] M = .ok (bD b) M := rfl
      simp [this]⟩
    rw [filter_yes] at this
    exact this
  show (sv_Index_layout_k14 [some (.cell o), none] M).toR = _
  unfold sv_Index_layout_k14
  rw [sv_ret, ev_args, ev_lcA, hs, R.bind_ok]
  simp only []
  rw [show wipeE [some (.cell o), none] [1] = [some (.cell o), none] from rfl, hc]
  rfl
theorem contains14_eq (h : IxAt M o p q size B Mk) (hI : Ix L B Mk) (hL : L ≤ 390) (hB : Mk.length ≤ 200) (hk : By key) (hk2 : key.length ≤ 390) : m_Index_contains_k14 [.cell o, bs key] M = .ok (.bl (decide (key ∈ B.flatten))) M := by
  obtain ⟨b, hb⟩ := hI.at key
  have c1 := check_bytes_eq hk (by omega) M
  have c2 := place_of_eq h.marks hI.masc (by omega) key
  have c3 := h.blocks.ix hb
  have c4 := fIn_sq (M := M) (y := bD b) (ks := b) (.inl rfl) key
  have e : decide (key ∈ b) = decide (key ∈ B.flatten) := by rw [decide_eq_decide]; exact (hI.mem hb).symm
  rw [e] at c4
  show (sv_Index_contains_k14 [some (.cell o), some (bs key)] M).toR = _
  generalize (cle Mk key : Int) = z at c2 c3
  simp [sv_Index_contains_k14, c1, h.fM, h.fB, c2, c3, c4]
theorem make_eq (M : List MO) {size : Nat} (h1 : 2 ≤ size) (h2 : size ≤ 20) {ea : EA} {e : EN} (he : ea e M = .ok [.int (size : Nat)] M) : eMakeO "Index" m_Index___init__ ea e M = .ok (.cell M.length) (M ++ [ixO size (M.length + 1) (M.length + 2), .lst (bl [[]]), .lst (kl [])]) := by
  have ci : m_is_int [.int (size : Nat), .int 2, .int 20] (M ++ [.obj "Index" []]) = .ok (.bl true) (M ++ [.obj "Index" []]) := by
    rw [is_int_eq]
    have a1 : (2 : Int) ≤ (size : Nat) := by omega
    have a2 : ((size : Nat) : Int) ≤ 20 := by omega
    simp [a1, a2]
  unfold eMakeO
  rw [he, R.bind_ok]
  have key : m_Index___init__ [.cell M.length, .int (size : Nat)] (M ++ [.obj "Index" []]) = .ok .non (M ++ [ixO size (M.length + 1) (M.length + 2), .lst (bl [[]]), .lst (kl [])]) := by
    show (sv_Index___init__ [some (.cell M.length), some (.int (size : Nat))] (M ++ [.obj "Index" []])).toR = _
    have at0 : ∀ (fs : List (Str × D)) (R : List MO), (M ++ MO.obj "Index" fs :: R)[M.length]? = some (.obj "Index" fs) := fun fs R => by simp
    have oa : ∀ (fs : List (Str × D)) (R : List MO), objAt "Index" (.cell M.length) (M ++ MO.obj "Index" fs :: R) = some (M.length, fs) := fun fs R => by simp [objAt]
    have st : ∀ (fs fs' : List (Str × D)) (R : List MO), (M ++ MO.obj "Index" fs :: R).set M.length (.obj "Index" fs') = M ++ MO.obj "Index" fs' :: R := fun fs fs' R => by simp
    have s1 : sIf (eNot (eTest (eArgs m_is_int (eCons (eVar 1) (eCons (eC (.int 2)) (eCons (eC (.int 20)) eNil)))))) (sRaise "BadIndex") sNil [some (.cell M.length), some (.int (size : Nat))] (M ++ [.obj "Index" []]) = .nx [some (.cell M.length), some (.int (size : Nat))] (M ++ [.obj "Index" []]) := by
      simp [ci]
    have s2 : sFldO "Index" "size" (eVar 0) (eVar 1) [some (.cell M.length), some (.int (size : Nat))] (M ++ [.obj "Index" []]) = .nx [some (.cell M.length), some (.int (size : Nat))] (M ++ [.obj "Index" [("size", .int (size : Nat))]]) := by
      unfold sFldO
      simp only [ev_var, List.getElem?_cons_succ, List.getElem?_cons_zero, R.toS_ok]
      rw [oa [] []]
      simp only []
      rw [if_pos (by simp), st]
      rfl
    have s3 : sFldO "Index" "blocks" (eVar 0) (eArgs fCell (eCons (eArgs fLst eNil) eNil)) [some (.cell M.length), some (.int (size : Nat))] (M ++ [.obj "Index" [("size", .int (size : Nat))]]) = .nx [some (.cell M.length), some (.int (size : Nat))] (M ++ [.obj "Index" [("size", .int (size : Nat)), ("blocks", .cell (M.length + 1))], .lst (bl [[]])]) := by
      have v : (eArgs fCell (eCons (eArgs fLst eNil) eNil)) [some (.cell M.length), some (.int (size : Nat))] (M ++ [.obj "Index" [("size", .int (size : Nat))]]) = .ok (.cell (M.length + 1)) (M ++ [.obj "Index" [("size", .int (size : Nat))], .lst (bl [[]])]) := by
        have hb : (1 : Nat) ≤ big := by decide
        simp [fCell, hb, bl, bD, kl]
      unfold sFldO
      rw [v, R.toS_ok]
      simp only [ev_var, List.getElem?_cons_succ, List.getElem?_cons_zero, R.toS_ok]
      rw [oa [("size", .int (size : Nat))] [.lst (bl [[]])]]
      simp only []
      rw [if_pos (by simp), st]
      rfl
    have s4 : sFldO "Index" "marks" (eVar 0) (eArgs fCell eNil) [some (.cell M.length), some (.int (size : Nat))] (M ++ [.obj "Index" [("size", .int (size : Nat)), ("blocks", .cell (M.length + 1))], .lst (bl [[]])]) = .nx [some (.cell M.length), some (.int (size : Nat))] (M ++ [ixO size (M.length + 1) (M.length + 2), .lst (bl [[]]), .lst (kl [])]) := by
      have v : (eArgs fCell eNil) [some (.cell M.length), some (.int (size : Nat))] (M ++ [.obj "Index" [("size", .int (size : Nat)), ("blocks", .cell (M.length + 1))], .lst (bl [[]])]) = .ok (.cell (M.length + 2)) (M ++ [.obj "Index" [("size", .int (size : Nat)), ("blocks", .cell (M.length + 1))], .lst (bl [[]]), .lst (kl [])]) := by
        have hb : (0 : Nat) ≤ big := by decide
        simp [fCell, kl]
      unfold sFldO
      rw [v, R.toS_ok]
      simp only [ev_var, List.getElem?_cons_succ, List.getElem?_cons_zero, R.toS_ok]
      rw [oa [("size", .int (size : Nat)), ("blocks", .cell (M.length + 1))] [.lst (bl [[]]), .lst (kl [])]]
      simp only []
      rw [if_pos (by simp), st]
      rfl
    unfold sv_Index___init__
    rw [sv_seq, s1, RS.bind_nx, sv_seq, s2, RS.bind_nx, sv_seq, s3, RS.bind_nx, s4]
    rfl
  rw [key]
  rfl
end
end KB
namespace KB
open PySem PySem.Spec PyProof.Rows L2
theorem lc_sqE {α : Type} {c : α → D} {M : List MO} {x : D} {xs : List α} (h : SqX c M x xs) (hl : xs.length ≤ 1000) {e : EN} {ev : EV} {i : Nat} (hj : ev e M = .ok x M) {t : EB} {el : EV} (f : α → D) (p : α → Bool)
    (hs : ∀ y ∈ xs, t ((wipeE e [i]).set i (some (c y))) M = .ok (p y) M ∧ (p y = true → el ((wipeE e [i]).set i (some (c y))) M = .ok (f y) M)) :
    eLcA (eSeq ev) (gN i) [i] t el e M = .ok ((xs.filter p).map f) M := by
  rw [ev_lcA, ev_seq, hj]
  rcases h with rfl | ⟨n, rfl, h⟩
  · simp only [R.bind_ok, srcOf_lst]
    exact compL_filter f p xs (by unfold big; omega) fun y hy => ⟨_, rfl, hs y hy⟩
  · simp only [R.bind_ok, srcOf_cell _ h]
    exact compC_filter f p xs h hl fun y hy => ⟨_, rfl, hs y hy⟩
theorem fPop_cell {M : List MO} {p k : Nat} {ds : List D} {d : D} (hM : M[p]? = some (.lst ds)) (hk : k < 100000) (hd : ds[k]? = some d) : fPop (.cell p) [.int (k : Nat)] M = .ok d (M.set p (.lst (ds.eraseIdx k))) := by
  have h2 : (k : Int) < 1000000 := by omega
  unfold fPop
  simp only [hM]
  rw [if_pos ⟨by omega, h2⟩]
  simp only [Int.toNat_natCast, hd]
theorem map_erase {α β : Type} (f : α → β) (l : List α) (k : Nat) : (l.map f).eraseIdx k = (l.eraseIdx k).map f := by
  rw [List.eraseIdx_eq_take_drop_succ, List.eraseIdx_eq_take_drop_succ, List.map_append, List.map_take, List.map_drop]
theorem bl_erase (B : BL) (k : Nat) : (bl B).eraseIdx k = bl (B.eraseIdx k) := map_erase _ _ _
theorem kl_erase (B : List (List Int)) (k : Nat) : (kl B).eraseIdx k = kl (B.eraseIdx k) := map_erase _ _ _
theorem fMax0 (at' : Nat) (M : List MO) : fMax [.int ((at' : Int) - 1), .int 0] M = .ok (.int ((at' - 1 : Nat) : Int)) M := by
  have : maxI ((at' : Int) - 1) 0 = ((at' - 1 : Nat) : Int) := by
    unfold maxI
    split <;> omega
  show R.ok (D.int (maxI ((at' : Int) - 1) 0)) M = _
  rw [this]
section
variable {M : List MO} {o p q size L : Nat} {B : BL} {Mk : List (List Int)} {key : List Int}
theorem remove_no (h : IxAt M o p q size B Mk) (hI : Ix L B Mk) (hL : L ≤ 390) (hk : By key) (hk2 : key.length ≤ 390) (hB : Mk.length ≤ 200) (hm : key ∉ B.flatten) : m_Index_remove_k14 [.cell o, bs key] M = .exc "NotFound" M := by
  obtain ⟨b, hb⟩ := hI.at key
  have c1 := check_bytes_eq hk (by omega) M
  have c2 := place_of_eq h.marks hI.masc (by omega) key
  have c3 := h.blocks.ix hb
  have c4 : fNotIn (bs key) (bD b) M = .ok (.bl true) M := by
    have := fNotIn_sq (M := M) (y := bD b) (ks := b) (.inl rfl) key
    rw [decide_eq_false (fun z => hm ((hI.mem hb).mpr z))] at this
    exact this
  show (sv_Index_remove_k14 [some (.cell o), some (bs key), none, none] M).toR = _
  generalize (cle Mk key : Int) = z at c2 c3
  simp [sv_Index_remove_k14, c1, h.fM, h.fB, c2, c3, c4, sRaise]
theorem remove_eq (h : IxAt M o p q size B Mk) (hI : Ix L B Mk) (hL : L ≤ 390) (hB : Mk.length ≤ 200) (hb2 : ∀ b ∈ B, b.length ≤ 200) (hm : key ∈ B.flatten) :
    m_Index_remove_k14 [.cell o, bs key] M = .ok .non (setI M p q (remI B Mk key).1 (remI B Mk key).2) := by
  obtain ⟨b, hb⟩ := hI.at key
  have hlen := hI.len
  have hcl := cle_le Mk key
  have hp : cle Mk key < B.length := (List.getElem?_eq_some_iff.mp hb).1
  have hbm : b ∈ B := List.mem_of_getElem? hb
  have hkb : key ∈ b := (hI.mem hb).mp hm
  have hk := hI.kok b hbm key hkb
  have eR : remB B Mk key = b.filter fun k => !decide (k = key) := by
    unfold remB
    rw [List.getD_eq_getElem?_getD, hb]
    rfl
  have c1 := check_bytes_eq hk.1 (by omega) M
  have c2 := place_of_eq h.marks hI.masc (by omega) key
  have c3 : fIx (.cell p) (nD (cle Mk key)) M = .ok (bD b) M := h.blocks.ix hb
  have c4 : fNotIn (bs key) (bD b) M = .ok (.bl false) M := by
    have := fNotIn_sq (M := M) (y := bD b) (ks := b) (.inl rfl) key
    rw [decide_eq_true hkb] at this
    exact this
  have s1 : sExpr (eArgs m_check_bytes (eCons (eVar 1) eNil)) [some (.cell o), some (bs key), none, none] M = .nx [some (.cell o), some (bs key), none, none] M := by simp [c1]
  have s2 : sSet 2 (eArgs m_place_of (eCons (eUn (fFldO "Index" "marks") (eVar 0)) (eCons (eVar 1) eNil))) [some (.cell o), some (bs key), none, none] M = .nx [some (.cell o), some (bs key), some (nD (cle Mk key)), none] M := by
    simp [h.fM, c2, nD]
  have s3 : sIf (eTest (eBin fNotIn (eVar 1) (eBin fIx (eUn (fFldO "Index" "blocks") (eVar 0)) (eVar 2)))) (sRaise "NotFound") sNil [some (.cell o), some (bs key), some (nD (cle Mk key)), none] M = .nx [some (.cell o), some (bs key), some (nD (cle Mk key)), none] M := by
    simp [h.fB, c3, c4]
  have k4 : eLcA (eSeq (eBin fIx (eUn (fFldO "Index" "blocks") (eVar 0)) (eVar 2))) (gN 3) [3] (eTest (eBin fNe (eVar 3) (eVar 1))) (eVar 3) [some (.cell o), some (bs key), some (nD (cle Mk key)), none] M = .ok (kl (remB B Mk key)) M := by
    rw [eR]
    exact lc_sqE (c := bs) (x := bD b) (xs := b) (i := 3) (.inl rfl) (by have := hb2 b hbm; omega) (by simp [h.fB, c3]) bs (fun k => !decide (k = key)) fun k _ => ⟨by simp [wipeE, fNe], fun _ => by simp [wipeE]⟩
  have s4 : sSub (eUn (fFldO "Index" "blocks") (eVar 0)) (eVar 2) (eArgs fLst' (eLcA (eSeq (eBin fIx (eUn (fFldO "Index" "blocks") (eVar 0)) (eVar 2))) (gN 3) [3] (eTest (eBin fNe (eVar 3) (eVar 1))) (eVar 3))) [some (.cell o), some (bs key), some (nD (cle Mk key)), none] M = .nx [some (.cell o), some (bs key), some (nD (cle Mk key)), none] (M.set p (.lst (bl (B.set (cle Mk key) (remB B Mk key))))) := by
    rw [← bl_set]
    exact sSub_cell (k := cle Mk key) (by rw [ev_args, k4]; rfl) (by simp [h.fB]) (by simp [nD]) h.bk (by simp [bl]; omega)
  have h1 := h.setB (B.set (cle Mk key) (remB B Mk key))
  have same := h.same (B.set (cle Mk key) (remB B Mk key))
  generalize hM1 : M.set p (.lst (bl (B.set (cle Mk key) (remB B Mk key)))) = M1 at *
  have g1 : (B.set (cle Mk key) (remB B Mk key))[cle Mk key]? = some (remB B Mk key) := List.getElem?_set_self hp
  have c5 : fIx (.cell p) (nD (cle Mk key)) M1 = .ok (bD (remB B Mk key)) M1 := h1.blocks.ix g1
  have t1 : eTest (eBin fEq (eBin fIx (eUn (fFldO "Index" "blocks") (eVar 0)) (eVar 2)) (eArgs fLst eNil)) [some (.cell o), some (bs key), some (nD (cle Mk key)), none] M1 = .ok (decide (remB B Mk key = [])) M1 := by
    have hs : shp (bD (remB B Mk key)) = true := shp_kl _
    have he : dEqv (bD (remB B Mk key)) (.lst []) = decide (remB B Mk key = []) := by
      unfold bD
      rw [eqv_kl_nil]
      cases remB B Mk key <;> simp
    have hr : res M1 (bD (remB B Mk key)) = bD (remB B Mk key) := rfl
    simp [h1.fB, c5, fEq, hr, hs, he]
  have t2 : eTest (eBin fGt (eArgs fLen (eCons (eUn (fFldO "Index" "blocks") (eVar 0)) eNil)) (eC (.int 1))) [some (.cell o), some (bs key), some (nD (cle Mk key)), none] M1 = .ok (decide (1 < B.length)) M1 := by
    have hl2 : fLen [.cell p] M1 = .ok (.int ((B.length : Nat) : Int)) M1 := by have := h1.blocks.len; simpa using this
    have hd : decide ((1 : Int) < ((B.length : Nat) : Int)) = decide (1 < B.length) := by rw [decide_eq_decide]; omega
    generalize ((B.length : Nat) : Int) = z at hl2 hd
    simp [h1.fB, hl2, hd]
  show (sv_Index_remove_k14 [some (.cell o), some (bs key), none, none] M).toR = _
  unfold sv_Index_remove_k14
  rw [sv_seq, s1, RS.bind_nx, sv_seq, s2, RS.bind_nx, sv_seq, s3, RS.bind_nx, sv_seq, s4, RS.bind_nx, sv_if, ev_and, t1, R.bind_ok]
  by_cases hz : remB B Mk key = [] ∧ 1 < B.length
  · have e1 : remI B Mk key = (B.eraseIdx (cle Mk key), Mk.eraseIdx (cle Mk key - 1)) := by unfold remI; rw [if_pos hz]
    rw [decide_eq_true hz.1]
    simp only [if_true]
    rw [t2, decide_eq_true hz.2, R.toS_ok]
    simp only [if_true]
    have u1 : sExpr (eMeth ckL fPop (eUn (fFldO "Index" "blocks") (eVar 0)) (eCons (eVar 2) eNil)) [some (.cell o), some (bs key), some (nD (cle Mk key)), none] M1 = .nx [some (.cell o), some (bs key), some (nD (cle Mk key)), none] (M1.set p (.lst (bl (B.eraseIdx (cle Mk key))))) := by
      have hck : ckL (.cell p) M1 = true := by unfold ckL; rw [res_at h1.bk]
      have hg : (bl (B.set (cle Mk key) (remB B Mk key)))[cle Mk key]? = some (bD (remB B Mk key)) := by unfold bl; rw [List.getElem?_map, g1]; rfl
      have hpop := fPop_cell (k := cle Mk key) h1.bk (by omega) hg
      rw [bl_erase, List.eraseIdx_set_eq] at hpop
      have hpop' : fPop (.cell p) [nD (cle Mk key)] M1 = .ok (bD (remB B Mk key)) (M1.set p (.lst (bl (B.eraseIdx (cle Mk key))))) := hpop
      simp [h1.fB, hck, hpop']
    have h2 := h1.setB (B.eraseIdx (cle Mk key))
    generalize hM2 : M1.set p (.lst (bl (B.eraseIdx (cle Mk key)))) = M2 at *
    have hgl : cle Mk key - 1 < Mk.length := by omega
    have u2 : sExpr (eMeth ckL fPop (eUn (fFldO "Index" "marks") (eVar 0)) (eCons (eArgs fMax (eCons (eBin fSub (eVar 2) (eC (.int 1))) (eCons (eC (.int 0)) eNil))) eNil)) [some (.cell o), some (bs key), some (nD (cle Mk key)), none] M2 = .nx [some (.cell o), some (bs key), some (nD (cle Mk key)), none] (M2.set q (.lst (kl (Mk.eraseIdx (cle Mk key - 1))))) := by
      have hck : ckL (.cell q) M2 = true := by unfold ckL; rw [res_at h2.mks]
      obtain ⟨m, hgm⟩ : ∃ m, (kl Mk)[cle Mk key - 1]? = some m := ⟨_, List.getElem?_eq_getElem (by simp; omega)⟩
      have hpop := fPop_cell (k := cle Mk key - 1) h2.mks (by omega) hgm
      rw [kl_erase] at hpop
      have hmx := fMax0 (cle Mk key) M2
      have hsub : fSub (nD (cle Mk key)) (.int 1) M2 = .ok (.int ((cle Mk key : Int) - 1)) M2 := rfl
      generalize ((cle Mk key - 1 : Nat) : Int) = z1 at hpop hmx
      generalize kl (Mk.eraseIdx (cle Mk key - 1)) = z2 at hpop ⊢
      simp [h2.fM, hck, hsub, hmx, hpop]
    rw [sv_seq, u1, RS.bind_nx, u2, e1]
    show R.ok D.non (M2.set q _) = _
    unfold KB.setI
    rw [← hM2, ← hM1, List.set_set]
  · have e1 : remI B Mk key = (B.set (cle Mk key) (remB B Mk key), Mk) := by unfold remI; rw [if_neg hz]
    rw [e1]
    simp only []
    by_cases hz1 : remB B Mk key = []
    · rw [decide_eq_true hz1]
      simp only [if_true]
      rw [t2, decide_eq_false (fun z => hz ⟨hz1, z⟩), R.toS_ok]
      simp only [Bool.false_eq_true, if_false, sv_nil]
      rw [← same]
      rfl
    · rw [decide_eq_false hz1]
      simp only [Bool.false_eq_true, if_false, R.toS_ok, sv_nil]
      rw [← same]
      rfl
end
end KB
namespace KB
open PySem PySem.Spec PyProof.Rows L2
/-! ### sizes -/
theorem Ix.small {L : Nat} {B : BL} {Mk : List (List Int)} (h : Ix L B Mk) : B.length ≤ B.flatten.length + 1 := by
  by_cases h1 : 1 < B.length
  · have : ∀ B : BL, (∀ b ∈ B, b ≠ []) → B.length ≤ B.flatten.length := by
      intro B
      induction B with
      | nil => intro _; simp
      | cons b B ih =>
        intro h
        have h1 := ih fun c hc => h c (by simp [hc])
        have h2 : 0 < b.length := List.length_pos_iff.mpr (h b (by simp))
        simp only [List.length_cons, List.flatten_cons, List.length_append]
        omega
    have := this B (h.ne h1)
    omega
  · omega
theorem block_le {B : BL} {b : List (List Int)} (h : b ∈ B) : b.length ≤ B.flatten.length := by
  induction B with
  | nil => simp at h
  | cons c B ih =>
    simp only [List.flatten_cons, List.length_append]
    rcases List.mem_cons.mp h with rfl | h
    · omega
    · have := ih h; omega
/-- the keys that the law holds are those of the index -/
structure Ky (L : Nat) (B : BL) (Mk keys : List (List Int)) : Prop where
  ix : Ix L B Mk
  nd : keys.Nodup
  mem : ∀ k, k ∈ keys ↔ k ∈ B.flatten
theorem Ky.perm {L : Nat} {B : BL} {Mk keys : List (List Int)} (h : Ky L B Mk keys) : keys.Perm B.flatten := (List.perm_ext_iff_of_nodup h.nd (asc_nodup h.ix.flat)).mpr h.mem
theorem Ky.len {L : Nat} {B : BL} {Mk keys : List (List Int)} (h : Ky L B Mk keys) : B.flatten.length = keys.length := h.perm.length_eq.symm
theorem Ky.sorted {L : Nat} {B : BL} {Mk keys : List (List Int)} (h : Ky L B Mk keys) : sortK keys = B.flatten :=
  (sortK_eq h.perm.symm (List.Pairwise.imp (fun {a b} q => lexLt_asymm _ _ q) h.ix.flat)).symm
theorem Ky.ok {L : Nat} {B : BL} {Mk keys : List (List Int)} (h : Ky L B Mk keys) : ∀ k ∈ keys, By k ∧ k.length ≤ L := fun k hk => by
  obtain ⟨b, hb, hm⟩ := List.mem_flatten.mp ((h.mem k).mp hk)
  exact h.ix.kok b hb k hm
theorem Ky.nil (L : Nat) : Ky L [[]] [] [] := ⟨Ix.nil L, List.nodup_nil, by simp⟩
theorem Ky.ins {L size : Nat} {B : BL} {Mk keys : List (List Int)} {key : List Int} (h : Ky L B Mk keys) (hs : 1 ≤ size) (hk : By key ∧ key.length ≤ L) (hn : key ∉ keys) : Ky L (insI size B Mk key).1 (insI size B Mk key).2 (keys ++ [key]) := by
  obtain ⟨h1, h2⟩ := h.ix.ins hs hk (fun z => hn ((h.mem key).mpr z))
  refine ⟨h1, List.nodup_append.mpr ⟨h.nd, by simp, fun a ha c hc => by simp at hc; subst hc; exact fun e => hn (e ▸ ha)⟩, fun k => ?_⟩
  rw [h2 k, ← h.mem k]
  simp [or_comm]
theorem Ky.rem {L : Nat} {B : BL} {Mk keys : List (List Int)} {key : List Int} (h : Ky L B Mk keys) (hn : key ∈ keys) : Ky L (remI B Mk key).1 (remI B Mk key).2 (keys.filter fun k => !decide (k = key)) := by
  obtain ⟨h1, h2⟩ := h.ix.rem ((h.mem key).mp hn)
  refine ⟨h1, h.nd.filter _, fun k => ?_⟩
  rw [h2 k, ← h.mem k, List.mem_filter]
  simp [and_comm]
/-! ### the law's simulation -/
theorem take_bl (B : BL) (k : Nat) : cutD (bl B) none (some (k : Int)) = bl (B.take k) := by rw [cut_to]; simp [bl, List.map_take]
theorem drop_bl (B : BL) (k : Nat) : cutD (bl B) (some ((k : Int) + 1)) none = bl (B.drop (k + 1)) := by
  rw [show ((k : Int) + 1) = ((k + 1 : Nat) : Int) by omega, cut_from]; simp [bl, List.map_drop]
theorem take_kl (B : List (List Int)) (k : Nat) : cutD (kl B) none (some (k : Int)) = kl (B.take k) := by rw [cut_to]; simp [kl, List.map_take]
theorem drop_kl (B : List (List Int)) (k : Nat) : cutD (kl B) (some (k : Int)) none = kl (B.drop k) := by rw [cut_from]; simp [kl, List.map_drop]
theorem drop_kl1 (B : List (List Int)) (k : Nat) : cutD (kl B) (some ((k : Int) + 1)) none = kl (B.drop (k + 1)) := by
  rw [show ((k : Int) + 1) = ((k + 1 : Nat) : Int) by omega, cut_from]; simp [kl, List.map_drop]
theorem cle_len {M : List MO} {x : D} {Mk : List (List Int)} {key : List Int} (h : Sq M x Mk) (hl : Mk.length ≤ 1000) {e : EN} {j i v : Nat} (hj : e[j]? = some (some x)) (hv : ((wipeE e [i]))[v]? = some (some (bs key))) (hiv : i ≠ v) (hi : i < (wipeE e [i]).length) :
    (eArgs fLen (eCons (eArgs fLst' (eLcA (eSeq (eVar j)) (gN i) [i] (eTest (eBin fLe (eVar i) (eVar v))) (eVar i))) eNil)) e M = .ok (nD (cle Mk key)) M := by
  have k2 : eLcA (eSeq (eVar j)) (gN i) [i] (eTest (eBin fLe (eVar i) (eVar v))) (eVar i) e M = .ok ((Mk.filter fun m => !HT.lexLt key m).map bs) M :=
    lc_sq (i := i) (e := e) (j := j) (t := (eTest (eBin fLe (eVar i) (eVar v)))) (el := eVar i) h hl hj bs (fun m => !HT.lexLt key m) fun m _ => by
      have g1 : ((wipeE e [i]).set i (some (bs m)))[i]? = some (some (bs m)) := List.getElem?_set_self hi
      have g2 : ((wipeE e [i]).set i (some (bs m)))[v]? = some (some (bs key)) := by rw [List.getElem?_set_ne hiv]; exact hv
      exact ⟨by simp [g1, g2], fun _ => by simp [g1]⟩
  rw [ev_args, ev_cons, ev_args, k2]
  simp [fLst', cle, nD]
section
variable {M : List MO} {size L : Nat} {B : BL} {Mk : List (List Int)} {key : List Int}
theorem inserted_eq (hsz : 1 ≤ size) (hI : Ix L B Mk) (hL : L ≤ 390) (hk : By key ∧ key.length ≤ L) (hB : Mk.length ≤ 200) (hb2 : ∀ b ∈ B, b.length ≤ 200) (hm : key ∉ B.flatten) :
    m__law_inserted [.lst (bl B), .lst (kl Mk), .int (size : Nat), bs key] M = .ok (.tup [.lst (bl (insI size B Mk key).1), .lst (kl (insI size B Mk key).2)]) M := by
  obtain ⟨b, hb⟩ := hI.at key
  have hlen := hI.len
  have hcl := cle_le Mk key
  have hp : cle Mk key < B.length := (List.getElem?_eq_some_iff.mp hb).1
  have eB := insB_eq hI hb
  have hbl := hb2 b (List.mem_of_getElem? hb)
  have hnb : key ∉ b := fun z => hm ((hI.mem hb).mpr z)
  have basc : Asc (insB B Mk key) := by rw [eB]; exact sortK_asc (hI.basc b (List.mem_of_getElem? hb)) hnb
  have bok : ∀ k ∈ insB B Mk key, By k ∧ k.length ≤ L := fun k hk' => by
    rw [eB, mem_sortK] at hk'
    rcases List.mem_append.mp hk' with z | z
    · exact hI.kok b (List.mem_of_getElem? hb) k z
    · simp at z; subst z; exact hk
  have blen : (insB B Mk key).length = b.length + 1 := by rw [eB, len_sortK]; simp
  have s1 : sSet 4 (eArgs fLen (eCons (eArgs fLst' (eLcA (eSeq (eVar 1)) (gN 7) [7] (eTest (eBin fLe (eVar 7) (eVar 3))) (eVar 7))) eNil)) [some (.lst (bl B)), some (.lst (kl Mk)), some (.int (size : Nat)), some (bs key), none, none, none, none] M = .nx [some (.lst (bl B)), some (.lst (kl Mk)), some (.int (size : Nat)), some (bs key), some (nD (cle Mk key)), none, none, none] M := by
    rw [sv_set, cle_len (Mk := Mk) (key := key) (x := .lst (kl Mk)) (.inl rfl) (by omega) rfl rfl (by decide) (by simp [wipeE])]
    rfl
  have c3 : fIx (.lst (bl B)) (nD (cle Mk key)) M = .ok (bD b) M := SqX.ix (c := bD) (.inl rfl) hb
  have c5 : (eArgs fSorted (eCons (eBin fAdd (eBin fIx (eVar 0) (eVar 4)) (eArgs fLst (eCons (eVar 3) eNil))) eNil)) [some (.lst (bl B)), some (.lst (kl Mk)), some (.int (size : Nat)), some (bs key), some (nD (cle Mk key)), none, none, none] M = .ok (bD (insB B Mk key)) M := by
    have a1 : fAdd (bD b) (.lst [bs key]) M = .ok (.lst (kl (b ++ [key]))) M := by
      have hbb : b.length + 1 ≤ big := by unfold big; omega
      simp [bD, hbb, kl]
    have a2 := fSorted_sq (M := M) (y := .lst (kl (b ++ [key]))) (ks := b ++ [key]) (.inl rfl)
    rw [← eB] at a2
    simp [-fIx_lst, c3, a1, a2]
    rfl
  have s2 : sSet 5 (eArgs fSorted (eCons (eBin fAdd (eBin fIx (eVar 0) (eVar 4)) (eArgs fLst (eCons (eVar 3) eNil))) eNil)) [some (.lst (bl B)), some (.lst (kl Mk)), some (.int (size : Nat)), some (bs key), some (nD (cle Mk key)), none, none, none] M = .nx [some (.lst (bl B)), some (.lst (kl Mk)), some (.int (size : Nat)), some (bs key), some (nD (cle Mk key)), some (bD (insB B Mk key)), none, none] M := by
    rw [sv_set, c5]
    rfl
  have glen : fLen [bD (insB B Mk key)] M = .ok (.int ((insB B Mk key).length : Int)) M := by simp [bD]
  have t3 : eTest (eBin fLe (eArgs fLen (eCons (eVar 5) eNil)) (eVar 2)) [some (.lst (bl B)), some (.lst (kl Mk)), some (.int (size : Nat)), some (bs key), some (nD (cle Mk key)), some (bD (insB B Mk key)), none, none] M = .ok (decide ((insB B Mk key).length ≤ size)) M := by
    simp [glen]
  have add3 : ∀ (X : List D), X.length ≤ 2 → fAdd (.lst (bl (B.take (cle Mk key)))) (.lst X) M = .ok (.lst (bl (B.take (cle Mk key)) ++ X)) M := fun X hX => by
    have : (bl (B.take (cle Mk key))).length + X.length ≤ big := by simp [bl]; unfold big; omega
    rw [fAdd_lst, if_pos this]
  have add4 : ∀ (X : List D), X.length ≤ 2 → fAdd (.lst (bl (B.take (cle Mk key)) ++ X)) (.lst (bl (B.drop (cle Mk key + 1)))) M = .ok (.lst (bl (B.take (cle Mk key)) ++ X ++ bl (B.drop (cle Mk key + 1)))) M := fun X hX => by
    have : (bl (B.take (cle Mk key)) ++ X).length + (bl (B.drop (cle Mk key + 1))).length ≤ big := by simp [bl]; unfold big; omega
    rw [fAdd_lst, if_pos this]
  have hb2' : (2 : Nat) ≤ big := by decide
  have hb1' : (1 : Nat) ≤ big := by decide
  show (sv__law_inserted [some (.lst (bl B)), some (.lst (kl Mk)), some (.int (size : Nat)), some (bs key), none, none, none, none] M).toR = _
  unfold sv__law_inserted
  rw [sv_seq, s1, RS.bind_nx, sv_seq, s2, RS.bind_nx, sv_seq, sv_if, t3, R.toS_ok]
  by_cases hle : (insB B Mk key).length ≤ size
  · have e1 : insI size B Mk key = (B.set (cle Mk key) (insB B Mk key), Mk) := by unfold insI; rw [if_pos hle]
    have eS : bl (B.take (cle Mk key)) ++ [bD (insB B Mk key)] ++ bl (B.drop (cle Mk key + 1)) = bl (B.set (cle Mk key) (insB B Mk key)) := by
      rw [List.set_eq_take_append_cons_drop, if_pos hp]
      simp [bl]
    rw [decide_eq_true hle, e1]
    simp only [if_true]
    have a3 := add3 [bD (insB B Mk key)] (by simp)
    have a4 := add4 [bD (insB B Mk key)] (by simp)
    rw [eS] at a4
    generalize bl (B.set (cle Mk key) (insB B Mk key)) = z at a4 ⊢
    have cb := take_bl B (cle Mk key)
    have cd := drop_bl B (cle Mk key)
    generalize insB B Mk key = blk at *
    generalize cle Mk key = c at *
    simp [nD, cb, cd, hb1', hb2', a3, a4, -fAdd_lst]
  · have e1 : insI size B Mk key = (B.take (cle Mk key) ++ [(insB B Mk key).take ((insB B Mk key).length / 2), (insB B Mk key).drop ((insB B Mk key).length / 2)] ++ B.drop (cle Mk key + 1), Mk.take (cle Mk key) ++ [sepOf (kat (insB B Mk key) ((insB B Mk key).length / 2 - 1)) (kat (insB B Mk key) ((insB B Mk key).length / 2))] ++ Mk.drop (cle Mk key)) := by unfold insI; rw [if_neg hle]
    rw [decide_eq_false hle, e1]
    simp only [Bool.false_eq_true, if_false, sv_nil, RS.bind_nx]
    generalize hblk : insB B Mk key = blk at *
    generalize hhalf : blk.length / 2 = half at *
    have hh1 : 1 ≤ half := by omega
    have hh2 : half < blk.length := by omega
    have u1 : sSet 6 (eBin fFdiv (eArgs fLen (eCons (eVar 5) eNil)) (eC (.int 2))) [some (.lst (bl B)), some (.lst (kl Mk)), some (.int (size : Nat)), some (bs key), some (nD (cle Mk key)), some (bD blk), none, none] M = .nx [some (.lst (bl B)), some (.lst (kl Mk)), some (.int (size : Nat)), some (bs key), some (nD (cle Mk key)), some (bD blk), some (nD half), none] M := by
      have hdiv : fFdiv (.int (blk.length : Int)) (.int 2) M = .ok (nD half) M := by
        have : (blk.length : Int) / 2 = ((blk.length / 2 : Nat) : Int) := by omega
        rw [← hhalf]
        unfold nD
        rw [← this]
        rfl
      simp [-fFdiv_int, glen, hdiv]
    have hx : Sq M (bD blk) blk := .inl rfl
    have g1 := kat_eq (ks := blk) (i := half - 1) (by omega)
    have g2 := kat_eq (ks := blk) (i := half) hh2
    have e3 : fIx (bD blk) (.int ((half : Int) - 1)) M = .ok (bs (kat blk (half - 1))) M := by
      have := hx.ix g1
      rw [← this]; congr 2; omega
    have e4 : fIx (bD blk) (nD half) M = .ok (bs (kat blk half)) M := hx.ix g2
    have k1 := bok _ (kat_mem (ks := blk) (i := half - 1) (by omega))
    have k2 := bok _ (kat_mem hh2)
    have qs := separator_eq k1.1 k2.1 (by omega) (by omega) (basc.at g1 g2 (by omega)) M
    generalize hsp : sepOf (kat blk (half - 1)) (kat blk half) = sp at *
    have u2 : sSet 7 (eArgs m_separator (eCons (eBin fIx (eVar 5) (eBin fSub (eVar 6) (eC (.int 1)))) (eCons (eBin fIx (eVar 5) (eVar 6)) eNil))) [some (.lst (bl B)), some (.lst (kl Mk)), some (.int (size : Nat)), some (bs key), some (nD (cle Mk key)), some (bD blk), some (nD half), none] M = .nx [some (.lst (bl B)), some (.lst (kl Mk)), some (.int (size : Nat)), some (bs key), some (nD (cle Mk key)), some (bD blk), some (nD half), some (bs sp)] M := by
      have hsub : fSub (nD half) (.int 1) M = .ok (.int ((half : Int) - 1)) M := rfl
      simp [hsub, e3, e4, qs]
    rw [sv_seq, u1, RS.bind_nx, sv_seq, u2, RS.bind_nx]
    have a3 := add3 [bD (blk.take half), bD (blk.drop half)] (by simp)
    have a4 := add4 [bD (blk.take half), bD (blk.drop half)] (by simp)
    have eS : bl (B.take (cle Mk key)) ++ [bD (blk.take half), bD (blk.drop half)] ++ bl (B.drop (cle Mk key + 1)) = bl (B.take (cle Mk key) ++ [blk.take half, blk.drop half] ++ B.drop (cle Mk key + 1)) := by simp [bl]
    rw [eS] at a4
    have m3 : fAdd (.lst (kl (Mk.take (cle Mk key)))) (.lst [bs sp]) M = .ok (.lst (kl (Mk.take (cle Mk key) ++ [sp]))) M := by
      have : (kl (Mk.take (cle Mk key))).length + [bs sp].length ≤ big := by simp; unfold big; omega
      rw [fAdd_lst, if_pos this]
      simp [kl]
    have m4 : fAdd (.lst (kl (Mk.take (cle Mk key) ++ [sp]))) (.lst (kl (Mk.drop (cle Mk key)))) M = .ok (.lst (kl (Mk.take (cle Mk key) ++ [sp] ++ Mk.drop (cle Mk key)))) M := by
      have : (kl (Mk.take (cle Mk key) ++ [sp])).length + (kl (Mk.drop (cle Mk key))).length ≤ big := by simp; unfold big; omega
      rw [fAdd_lst, if_pos this]
      simp [kl]
    have cb := take_bl B (cle Mk key)
    have cd := drop_bl B (cle Mk key)
    have mb := take_kl Mk (cle Mk key)
    have md := drop_kl Mk (cle Mk key)
    have bb := take_kl blk half
    have bd := drop_kl blk half
    have b1 : fSl (bD blk) none (some (half : Int)) M = .ok (bD (blk.take half)) M := by
      show R.ok (D.lst (cutD (kl blk) none (some (half : Int)))) M = _
      rw [bb]; rfl
    have b2 : fSl (bD blk) (some (half : Int)) none M = .ok (bD (blk.drop half)) M := by
      show R.ok (D.lst (cutD (kl blk) (some (half : Int)) none)) M = _
      rw [bd]; rfl
    generalize bl (B.take (cle Mk key) ++ [blk.take half, blk.drop half] ++ B.drop (cle Mk key + 1)) = z at a4 ⊢
    generalize kl (Mk.take (cle Mk key) ++ [sp] ++ Mk.drop (cle Mk key)) = z2 at m4 ⊢
    generalize blk.take half = bt at *
    generalize blk.drop half = bdr at *
    generalize cle Mk key = c at *
    simp [nD, cb, cd, mb, md, b1, b2, hb1', hb2', a3, a4, m3, m4, -fAdd_lst]
theorem removed_eq (hI : Ix L B Mk) (hB : Mk.length ≤ 200) (hb2 : ∀ b ∈ B, b.length ≤ 200) :
    m__law_removed [.lst (bl B), .lst (kl Mk), bs key] M = .ok (.tup [.lst (bl (remI B Mk key).1), .lst (kl (remI B Mk key).2)]) M := by
  obtain ⟨b, hb⟩ := hI.at key
  have hlen := hI.len
  have hcl := cle_le Mk key
  have hp : cle Mk key < B.length := (List.getElem?_eq_some_iff.mp hb).1
  have hbm : b ∈ B := List.mem_of_getElem? hb
  have eR : remB B Mk key = b.filter fun k => !decide (k = key) := by
    unfold remB
    rw [List.getD_eq_getElem?_getD, hb]
    rfl
  have s1 : sSet 3 (eArgs fLen (eCons (eArgs fLst' (eLcA (eSeq (eVar 1)) (gN 7) [7] (eTest (eBin fLe (eVar 7) (eVar 2))) (eVar 7))) eNil)) [some (.lst (bl B)), some (.lst (kl Mk)), some (bs key), none, none, none, none, none] M = .nx [some (.lst (bl B)), some (.lst (kl Mk)), some (bs key), some (nD (cle Mk key)), none, none, none, none] M := by
    rw [sv_set, cle_len (Mk := Mk) (key := key) (x := .lst (kl Mk)) (.inl rfl) (by omega) rfl rfl (by decide) (by simp [wipeE])]
    rfl
  have c3 : fIx (.lst (bl B)) (nD (cle Mk key)) M = .ok (bD b) M := SqX.ix (c := bD) (.inl rfl) hb
  have k4 : eLcA (eSeq (eBin fIx (eVar 0) (eVar 3))) (gN 6) [6] (eTest (eBin fNe (eVar 6) (eVar 2))) (eVar 6) [some (.lst (bl B)), some (.lst (kl Mk)), some (bs key), some (nD (cle Mk key)), none, none, none, none] M = .ok (kl (remB B Mk key)) M := by
    rw [eR]
    exact lc_sqE (c := bs) (x := bD b) (xs := b) (i := 6) (.inl rfl) (by have := hb2 b hbm; omega) (by simp [-fIx_lst, c3]) bs (fun k => !decide (k = key)) fun k _ => ⟨by simp [wipeE, fNe], fun _ => by simp [wipeE]⟩
  have s2 : sSet 4 (eArgs fLst' (eLcA (eSeq (eBin fIx (eVar 0) (eVar 3))) (gN 6) [6] (eTest (eBin fNe (eVar 6) (eVar 2))) (eVar 6))) [some (.lst (bl B)), some (.lst (kl Mk)), some (bs key), some (nD (cle Mk key)), none, none, none, none] M = .nx [some (.lst (bl B)), some (.lst (kl Mk)), some (bs key), some (nD (cle Mk key)), some (bD (remB B Mk key)), none, none, none] M := by
    rw [sv_set, ev_args, k4]
    rfl
  have t1 : eTest (eBin fEq (eVar 4) (eArgs fLst eNil)) [some (.lst (bl B)), some (.lst (kl Mk)), some (bs key), some (nD (cle Mk key)), some (bD (remB B Mk key)), none, none, none] M = .ok (decide (remB B Mk key = [])) M := by
    have hs : shp (bD (remB B Mk key)) = true := shp_kl _
    have he : dEqv (bD (remB B Mk key)) (.lst []) = decide (remB B Mk key = []) := by
      unfold bD
      rw [eqv_kl_nil]
      cases remB B Mk key <;> simp
    have hr : res M (bD (remB B Mk key)) = bD (remB B Mk key) := rfl
    simp [fEq, hr, hs, he]
  have t2 : eTest (eBin fGt (eArgs fLen (eCons (eVar 0) eNil)) (eC (.int 1))) [some (.lst (bl B)), some (.lst (kl Mk)), some (bs key), some (nD (cle Mk key)), some (bD (remB B Mk key)), none, none, none] M = .ok (decide (1 < B.length)) M := by
    have hl2 : fLen [.lst (bl B)] M = .ok (.int ((B.length : Nat) : Int)) M := by simp [bl]
    have hd : decide ((1 : Int) < ((B.length : Nat) : Int)) = decide (1 < B.length) := by rw [decide_eq_decide]; omega
    generalize ((B.length : Nat) : Int) = z at hl2 hd
    simp [-fLen_lst, hl2, hd]
  have hb2' : (2 : Nat) ≤ big := by decide
  have hb1' : (1 : Nat) ≤ big := by decide
  have cb := take_bl B (cle Mk key)
  have cd := drop_bl B (cle Mk key)
  show (sv__law_removed [some (.lst (bl B)), some (.lst (kl Mk)), some (bs key), none, none, none, none, none] M).toR = _
  unfold sv__law_removed
  rw [sv_seq, s1, RS.bind_nx, sv_seq, s2, RS.bind_nx, sv_seq, sv_if, ev_and, t1, R.bind_ok]
  have nosp : remI B Mk key = (B.set (cle Mk key) (remB B Mk key), Mk) → (sRet (eArgs fTup (eCons (eBin fAdd (eBin fAdd (eSl (eVar 0) eNoE (eSomeE (eVar 3))) (eArgs fLst (eCons (eVar 4) eNil))) (eSl (eVar 0) (eSomeE (eBin fAdd (eVar 3) (eC (.int 1)))) eNoE)) (eCons (eVar 1) eNil))) [some (.lst (bl B)), some (.lst (kl Mk)), some (bs key), some (nD (cle Mk key)), some (bD (remB B Mk key)), none, none, none] M) = .ret (.tup [.lst (bl (remI B Mk key).1), .lst (kl (remI B Mk key).2)]) M := fun e1 => by
    have eS : bl (B.take (cle Mk key)) ++ [bD (remB B Mk key)] ++ bl (B.drop (cle Mk key + 1)) = bl (B.set (cle Mk key) (remB B Mk key)) := by
      rw [List.set_eq_take_append_cons_drop, if_pos hp]
      simp [bl]
    rw [e1]
    have a3 : fAdd (.lst (bl (B.take (cle Mk key)))) (.lst [bD (remB B Mk key)]) M = .ok (.lst (bl (B.take (cle Mk key)) ++ [bD (remB B Mk key)])) M := by
      rw [fAdd_lst, if_pos (by simp [bl]; unfold big; omega)]
    have a4 : fAdd (.lst (bl (B.take (cle Mk key)) ++ [bD (remB B Mk key)])) (.lst (bl (B.drop (cle Mk key + 1)))) M = .ok (.lst (bl (B.take (cle Mk key)) ++ [bD (remB B Mk key)] ++ bl (B.drop (cle Mk key + 1)))) M := by
      rw [fAdd_lst, if_pos (by simp [bl]; unfold big; omega)]
    rw [eS] at a4
    generalize bl (B.set (cle Mk key) (remB B Mk key)) = z at a4 ⊢
    generalize remB B Mk key = blk at *
    generalize cle Mk key = c at *
    simp [nD, cb, cd, hb1', hb2', a3, a4, -fAdd_lst]
  by_cases hz : remB B Mk key = [] ∧ 1 < B.length
  · have e1 : remI B Mk key = (B.eraseIdx (cle Mk key), Mk.eraseIdx (cle Mk key - 1)) := by unfold remI; rw [if_pos hz]
    rw [decide_eq_true hz.1]
    simp only [if_true]
    rw [t2, decide_eq_true hz.2, R.toS_ok]
    simp only [if_true]
    have u1 : sSet 5 (eArgs fMax (eCons (eBin fSub (eVar 3) (eC (.int 1))) (eCons (eC (.int 0)) eNil))) [some (.lst (bl B)), some (.lst (kl Mk)), some (bs key), some (nD (cle Mk key)), some (bD (remB B Mk key)), none, none, none] M = .nx [some (.lst (bl B)), some (.lst (kl Mk)), some (bs key), some (nD (cle Mk key)), some (bD (remB B Mk key)), some (nD (cle Mk key - 1)), none, none] M := by
      have hmx := fMax0 (cle Mk key) M
      have hsub : fSub (nD (cle Mk key)) (.int 1) M = .ok (.int ((cle Mk key : Int) - 1)) M := rfl
      have hmx' : fMax [.int ((cle Mk key : Int) - 1), .int 0] M = .ok (nD (cle Mk key - 1)) M := hmx
      simp [hsub, hmx']
    have a4 : fAdd (.lst (bl (B.take (cle Mk key)))) (.lst (bl (B.drop (cle Mk key + 1)))) M = .ok (.lst (bl (B.eraseIdx (cle Mk key)))) M := by
      rw [fAdd_lst, if_pos (by simp [bl]; unfold big; omega), List.eraseIdx_eq_take_drop_succ]
      simp [bl]
    have m4 : fAdd (.lst (kl (Mk.take (cle Mk key - 1)))) (.lst (kl (Mk.drop (cle Mk key - 1 + 1)))) M = .ok (.lst (kl (Mk.eraseIdx (cle Mk key - 1)))) M := by
      rw [fAdd_lst, if_pos (by simp; unfold big; omega), List.eraseIdx_eq_take_drop_succ]
      simp [kl]
    have mb := take_kl Mk (cle Mk key - 1)
    have md := drop_kl1 Mk (cle Mk key - 1)
    rw [sv_seq, u1, RS.bind_nx, e1]
    generalize kl (Mk.eraseIdx (cle Mk key - 1)) = z2 at m4 ⊢
    generalize bl (B.eraseIdx (cle Mk key)) = z at a4 ⊢
    generalize cle Mk key - 1 = c1 at *
    generalize cle Mk key = c at *
    simp [nD, cb, cd, mb, md, hb2', a4, m4, -fAdd_lst]
  · have e1 : remI B Mk key = (B.set (cle Mk key) (remB B Mk key), Mk) := by unfold remI; rw [if_neg hz]
    have fin := nosp e1
    by_cases hz1 : remB B Mk key = []
    · rw [decide_eq_true hz1]
      simp only [if_true]
      rw [t2, decide_eq_false (fun z => hz ⟨hz1, z⟩), R.toS_ok]
      simp only [Bool.false_eq_true, if_false, sv_nil, RS.bind_nx]
      rw [fin]
      rfl
    · rw [decide_eq_false hz1]
      simp only [Bool.false_eq_true, if_false, R.toS_ok, sv_nil, RS.bind_nx]
      rw [fin]
      rfl
end
/-! ### _law_change -/
theorem err14_index (M : List MO) : m__law_error [.exc "BadIndex"] M = .ok (.str "index") M := by kernel_rfl
theorem err14_none (M : List MO) : m__law_error [.exc "NotFound"] M = .ok (.str "none") M := by kernel_rfl
section
variable {M : List MO} {o p q size L : Nat} {B : BL} {Mk : List (List Int)} {key : List Int}
theorem lk_insert (size p q : Nat) : (ixF size p q).lookup ("insert" : Str) = none := by kernel_rfl
theorem lk_remove (size p q : Nat) : (ixF size p q).lookup ("remove" : Str) = none := by kernel_rfl
theorem change_ins (h : IxAt M o p q size B Mk) {d : D} {M' : List MO} (hd : isNon d = false) (hi : m_Index_insert [.cell o, bs key] M = .ok d M') : m__law_change_k14 [.cell o, .int 0, bs key] M = .ok d M' := by
  have hm : eMethO "Index" "insert" m_Index_insert (eVar 0) (eCons (eVar 2) eNil) [some (.cell o), some (.int 0), some (bs key), some .non, some .non, none] M = .ok d M' := by
    rw [h.meth (lk_insert ..) (by simp)]
    simp [hi]
  simp [m__law_change_k14, mOf, sv__law_change_k14, startE, sTry, fEq, hm, fIs, isNon]
theorem change_dup (h : IxAt M o p q size B Mk) (hi : m_Index_insert [.cell o, bs key] M = .exc "BadIndex" M) : m__law_change_k14 [.cell o, .int 0, bs key] M = .ok (.str "index") M := by
  have hm : eMethO "Index" "insert" m_Index_insert (eVar 0) (eCons (eVar 2) eNil) [some (.cell o), some (.int 0), some (bs key), some .non, some .non, none] M = .exc "BadIndex" M := by
    rw [h.meth (lk_insert ..) (by simp)]
    simp [hi]
  have hc : ("BadIndex" : Str) ∈ xcls := by decide +kernel
  simp [m__law_change_k14, mOf, sv__law_change_k14, startE, sTry, fEq, hm, hc, fIs, isNon, err14_index]
theorem change_rem (h : IxAt M o p q size B Mk) {M' : List MO} (hi : m_Index_remove_k14 [.cell o, bs key] M = .ok .non M') : m__law_change_k14 [.cell o, .int 1, bs key] M = .ok .non M' := by
  have hm : eMethO "Index" "remove" m_Index_remove_k14 (eVar 0) (eCons (eVar 2) eNil) [some (.cell o), some (.int 1), some (bs key), some .non, some .non, none] M = .ok .non M' := by
    rw [h.meth (lk_remove ..) (by simp)]
    simp [hi]
  simp [m__law_change_k14, mOf, sv__law_change_k14, startE, sTry, fEq, hm, fIs, isNon]
theorem change_no (h : IxAt M o p q size B Mk) (hi : m_Index_remove_k14 [.cell o, bs key] M = .exc "NotFound" M) : m__law_change_k14 [.cell o, .int 1, bs key] M = .ok (.str "none") M := by
  have hm : eMethO "Index" "remove" m_Index_remove_k14 (eVar 0) (eCons (eVar 2) eNil) [some (.cell o), some (.int 1), some (bs key), some .non, some .non, none] M = .exc "NotFound" M := by
    rw [h.meth (lk_remove ..) (by simp)]
    simp [hi]
  have hc : ("NotFound" : Str) ∈ xcls := by decide +kernel
  simp [m__law_change_k14, mOf, sv__law_change_k14, startE, sTry, fEq, hm, hc, fIs, isNon, err14_none]
end
/-! ### the law -/
def IM (s : DS) (size : Nat) (B : BL) (Mk : List (List Int)) (R : List MO) : List MO := DM s (ixO size 3 4 :: .lst (bl B) :: .lst (kl Mk) :: R)
theorem IM_at (s : DS) (size : Nat) (B : BL) (Mk : List (List Int)) (R : List MO) : IxAt (IM s size B Mk R) 2 3 4 size B Mk := ⟨rfl, rfl, rfl, by decide, by decide, by decide⟩
theorem IM_set (s : DS) (size : Nat) (B B' : BL) (Mk Mk' : List (List Int)) (R : List MO) : setI (IM s size B Mk R) 3 4 B' Mk' = IM s size B' Mk' R := rfl
theorem pick_cell (s : DS) (xs : List D) (h : xs ≠ []) (h2 : xs.length ≤ 1000000) {Rm : List MO} {n : Nat} (hn : ∀ s, (DM s Rm)[n]? = some (.lst xs)) : ∃ x s', m__law_pick [.cell 1, .cell n] (DM s Rm) = .ok x (DM s' Rm) ∧ x ∈ xs := by
  have hpos : 0 < xs.length := List.length_pos_iff.mpr h
  obtain ⟨r, s1, e1, r0, r1⟩ := draw_eq s (xs.length : Int) (by omega) (by omega) Rm
  obtain ⟨x, hx, e2, _⟩ := atI_in r0 r1
  refine ⟨x, s1, ?_, hx⟩
  have hlen : fLen [.cell n] (DM s Rm) = .ok (.int (xs.length : Int)) (DM s Rm) := by
    unfold fLen
    simp only [res_at (hn s)]
  have hix : fIx (.cell n) (.int r) (DM s1 Rm) = .ok x (DM s1 Rm) := by
    unfold fIx
    simp only [res_at (hn s1), e2]
  generalize (xs.length : Int) = z at hlen e1
  simp [m__law_pick, mOf, sv__law_pick, startE, hlen, e1, hix]
theorem shp_bl' (B : BL) : shp (.lst (bl B)) = true := (okD_lst (k := 2) fun d h => by
  obtain ⟨b, _, rfl⟩ := List.mem_map.mp h
  exact okD_lst fun d h => by
    obtain ⟨k, _, rfl⟩ := List.mem_map.mp h
    exact okD_bs k).shp
theorem fNe_bl (B : BL) (M : List MO) : fNe (.lst (bl B)) (.lst (bl B)) M = .ok (.bl false) M := by
  have h := shp_bl' B
  have h2 : dEqv (.lst (bl B)) (.lst (bl B)) = true := dEqv_refl (okD_lst (k := 2) fun d h => by
    obtain ⟨b, _, rfl⟩ := List.mem_map.mp h
    exact okD_lst fun d h => by
      obtain ⟨k, _, rfl⟩ := List.mem_map.mp h
      exact okD_bs k)
  simp [fNe, h, h2]
theorem fNe_kl' (xs : List (List Int)) (M : List MO) : fNe (.lst (kl xs)) (.lst (kl xs)) M = .ok (.bl false) M := by
  have h : shp (.lst (kl xs)) = true := shp_kl xs
  have h2 : dEqv (.lst (kl xs)) (.lst (kl xs)) = true := dEqv_refl (okD_lst (k := 1) fun d h => by
    obtain ⟨b, _, rfl⟩ := List.mem_map.mp h
    exact okD_bs b)
  simp [fNe, h, h2]
theorem fNe_int (i : Int) (M : List MO) : fNe (.int i) (.int i) M = .ok (.bl false) M := by simp [fNe]
def E14 (sc : Option D) (size : Nat) (o4 o5 : Option D) (B : BL) (Mk : List (List Int)) (j : Nat) (o10 : Option D) : EN := [sc, some (.cell 1), some (.int (size : Nat)), some (.cell 2), o4, o5, some (.lst (bl B)), some (.lst (kl Mk)), some (.cell (j + 5)), none, o10, none, none]
section
variable {size : Nat} {B : BL} {Mk keys : List (List Int)} {Rr : List MO} {j : Nat} (hz1 : 2 ≤ size) (hz2 : size ≤ 20) (hK : Ky 3 B Mk keys) (hl : keys.length ≤ 16) (hR : Rr[j]? = some (.lst (kl keys))) (sc : Option D) (s : DS) (o4 o5 o10 : Option D)
include hz1 hz2 hK hl hR
theorem t14_sz : Mk.length ≤ 20 ∧ B.length ≤ 20 ∧ B.flatten.length ≤ 20 ∧ ∀ b ∈ B, b.length ≤ 20 := by
  have h1 := hK.len
  have h2 := hK.ix.small
  have h3 := hK.ix.len
  refine ⟨by omega, by omega, by omega, fun b hb => ?_⟩
  have := block_le hb
  omega
theorem t14_keys : Sq (IM s size B Mk Rr) (.cell (j + 5)) keys := .inr ⟨j + 5, rfl, hR⟩
theorem t14_b1 : ∃ (key : List Int) (s' : DS), sv_law_k14_5b1 (E14 sc size o4 o5 B Mk j o10) (IM s size B Mk Rr) = .nx (E14 sc size o4 (some (bs key)) B Mk j o10) (IM s' size B Mk Rr) ∧ By key ∧ key.length ≤ 3 := by
  obtain ⟨t, s3, e3, t1, t2⟩ := string_eq s 3 (by decide) (by decide) (ixO size 3 4 :: .lst (bl B) :: .lst (kl Mk) :: Rr)
  exact ⟨t, s3, by simp [sv_law_k14_5b1, E14, IM, e3], t2, by omega⟩
theorem t14_b2 {key : List Int} (hk : By key ∧ key.length ≤ 3) : ∃ (key' : List Int) (s' : DS), sv_law_k14_5b2 (E14 sc size o4 (some (bs key)) B Mk j o10) (IM s size B Mk Rr) = .nx (E14 sc size o4 (some (bs key')) B Mk j o10) (IM s' size B Mk Rr) ∧ By key' ∧ key'.length ≤ 3 := by
  have hq := t14_keys hz1 hz2 hK hl hR s
  have hne : eTest (eBin fNe (eVar 8) (eArgs fLst eNil)) (E14 sc size o4 (some (bs key)) B Mk j o10) (IM s size B Mk Rr) = .ok (!keys.isEmpty) (IM s size B Mk Rr) := by
    have hs : shp (.lst (kl keys)) = true := shp_kl keys
    have hr := hq.res
    have hr' : res (IM s size B Mk Rr) (.cell (j + 5)) = .lst (kl keys) := hr
    have he := eqv_kl_nil keys
    simp [E14, fNe, hr', hs, he]
  cases hke : keys.isEmpty with
  | true =>
    refine ⟨key, s, ?_, hk⟩
    unfold sv_law_k14_5b2
    rw [sv_if, ev_and, hne, hke]
    rfl
  | false =>
    obtain ⟨r, s1, e1, _, _⟩ := draw_eq s 3 (by decide) (by decide) (ixO size 3 4 :: .lst (bl B) :: .lst (kl Mk) :: Rr)
    have hdr : eTest (eBin fEq (eArgs m__law_draw (eCons (eVar 1) (eCons (eC (.int 3)) eNil))) (eC (.int 0))) (E14 sc size o4 (some (bs key)) B Mk j o10) (IM s size B Mk Rr) = .ok (decide (r = 0)) (IM s1 size B Mk Rr) := by
      simp [E14, IM, e1, fEq]
    by_cases hr0 : r = 0
    · have hne2 : kl keys ≠ [] := by
        intro z
        have : keys = [] := by simpa [kl] using z
        rw [this] at hke
        simp at hke
      obtain ⟨x, s2, e2, hx⟩ := pick_cell s1 (kl keys) hne2 (by simp; omega) (Rm := ixO size 3 4 :: .lst (bl B) :: .lst (kl Mk) :: Rr) (n := j + 5) (fun _ => hR)
      obtain ⟨k', hk', rfl⟩ := List.mem_map.mp hx
      refine ⟨k', s2, ?_, hK.ok k' hk'⟩
      unfold sv_law_k14_5b2
      rw [sv_if, ev_and, hne, hke, R.bind_ok]
      simp only [Bool.not_false, if_true]
      rw [hdr, decide_eq_true hr0, R.toS_ok]
      simp only [if_true]
      simp [sv_law_k14_5b2b1, E14, IM, e2]
    · refine ⟨key, s1, ?_, hk⟩
      unfold sv_law_k14_5b2
      rw [sv_if, ev_and, hne, hke, R.bind_ok]
      simp only [Bool.not_false, if_true]
      rw [hdr, decide_eq_false hr0, R.toS_ok]
      rfl
theorem t14_b4 : sv_law_k14_5b4 (E14 sc size o4 o5 B Mk j o10) (IM s size B Mk Rr) = .nx (E14 sc size o4 o5 B Mk j o10) (IM s size B Mk Rr) := by
  obtain ⟨z1, z2, z3, z4⟩ := t14_sz hz1 hz2 hK hl hR
  have hx := IM_at s size B Mk Rr
  have hq := t14_keys hz1 hz2 hK hl hR s
  have l1 : (ixF size 3 4).lookup ("layout" : Str) = none := by kernel_rfl
  have l2 : (ixF size 3 4).lookup ("separators" : Str) = none := by kernel_rfl
  have m1 : eMethO "Index" "layout" m_Index_layout_k14 (eVar 3) eNil (E14 sc size o4 o5 B Mk j o10) (IM s size B Mk Rr) = .ok (.lst (bl B)) (IM s size B Mk Rr) := by
    rw [hx.meth l1 (by simp [E14])]
    simp [layout14_eq hx (by omega)]
  have m2 : eMethO "Index" "separators" m_Index_separators_k14 (eVar 3) eNil (E14 sc size o4 o5 B Mk j o10) (IM s size B Mk Rr) = .ok (.lst (kl Mk)) (IM s size B Mk Rr) := by
    rw [hx.meth l2 (by simp [E14])]
    simp [seps14_eq hx]
  have m3 : eLenO "Index" m_Index___len__ (eCons (eVar 3) eNil) (E14 sc size o4 o5 B Mk j o10) (IM s size B Mk Rr) = .ok (.int (keys.length : Nat)) (IM s size B Mk Rr) := by
    rw [← hK.len]
    exact lenO_eq hx (by omega) (by omega) (by simp [E14])
  have m4 : (eArgs fLen (eCons (eVar 8) eNil)) (E14 sc size o4 o5 B Mk j o10) (IM s size B Mk Rr) = .ok (.int (keys.length : Nat)) (IM s size B Mk Rr) := by
    simp [E14, hq.len]
  have t1 : eTest (eBin fNe (eMethO "Index" "layout" m_Index_layout_k14 (eVar 3) eNil) (eVar 6)) (E14 sc size o4 o5 B Mk j o10) (IM s size B Mk Rr) = .ok false (IM s size B Mk Rr) := by
    rw [ev_test, ev_bin, m1]
    simp [E14, fNe_bl]
  have t2 : eTest (eBin fNe (eMethO "Index" "separators" m_Index_separators_k14 (eVar 3) eNil) (eVar 7)) (E14 sc size o4 o5 B Mk j o10) (IM s size B Mk Rr) = .ok false (IM s size B Mk Rr) := by
    rw [ev_test, ev_bin, m2]
    simp [E14, fNe_kl']
  have t3 : eTest (eBin fNe (eLenO "Index" m_Index___len__ (eCons (eVar 3) eNil)) (eArgs fLen (eCons (eVar 8) eNil))) (E14 sc size o4 o5 B Mk j o10) (IM s size B Mk Rr) = .ok false (IM s size B Mk Rr) := by
    rw [ev_test, ev_bin, m3, R.bind_ok, m4, R.bind_ok, fNe_int]
    rfl
  unfold sv_law_k14_5b4
  rw [sv_if, ev_or, t1, R.bind_ok]
  simp only [Bool.false_eq_true, if_false]
  rw [ev_or, t2, R.bind_ok]
  simp only [Bool.false_eq_true, if_false]
  rw [t3]
  rfl
omit hz1 hz2 hK hl hR in
theorem asg14 {o5 : Option D} {B' : BL} {Mk' : List (List Int)} {ev : EV} {M M' : List MO} (h : ev (E14 sc size o4 o5 B Mk j o10) M = .ok (.tup [.lst (bl B'), .lst (kl Mk')]) M') : sAsg (gT [6, 7]) ev (E14 sc size o4 o5 B Mk j o10) M = .nx (E14 sc size o4 o5 B' Mk' j o10) M' := by
  rw [sv_asg, h]
  rfl
theorem t14_b3 {key : List Int} (hk : By key ∧ key.length ≤ 3) (hl' : keys.length ≤ 15) : ∃ (s' : DS) (B' : BL) (Mk' keys' : List (List Int)) (R' : List MO) (j' : Nat) (o10' : Option D), sv_law_k14_5b3 (E14 sc size o4 (some (bs key)) B Mk j o10) (IM s size B Mk Rr) = .nx (E14 sc size o4 (some (bs key)) B' Mk' j' o10') (IM s' size B' Mk' R') ∧ Ky 3 B' Mk' keys' ∧ keys'.length ≤ keys.length + 1 ∧ R'[j']? = some (.lst (kl keys')) := by
  obtain ⟨z1, z2, z3, z4⟩ := t14_sz hz1 hz2 hK hl hR
  obtain ⟨r, s1, e1, r0, r1⟩ := draw_eq s 4 (by decide) (by decide) (ixO size 3 4 :: .lst (bl B) :: .lst (kl Mk) :: Rr)
  have hdr : eTest (eBin fGt (eArgs m__law_draw (eCons (eVar 1) (eCons (eC (.int 4)) eNil))) (eC (.int 0))) (E14 sc size o4 (some (bs key)) B Mk j o10) (IM s size B Mk Rr) = .ok (decide (0 < r)) (IM s1 size B Mk Rr) := by
    simp [E14, IM, e1]
  have hx := IM_at s1 size B Mk Rr
  have hq := t14_keys hz1 hz2 hK hl hR s1
  have hjl : j < Rr.length := (List.getElem?_eq_some_iff.mp hR).1
  have hmem : key ∈ keys ↔ key ∈ B.flatten := hK.mem key
  have hNi : ∀ o10, eTest (eBin fNotIn (eVar 5) (eVar 8)) (E14 sc size o4 (some (bs key)) B Mk j o10) (IM s1 size B Mk Rr) = .ok (!decide (key ∈ keys)) (IM s1 size B Mk Rr) := fun o10 => by
    have := fNotIn_sq hq key
    simp [E14, this]
  unfold sv_law_k14_5b3
  rw [sv_if, hdr, R.toS_ok]
  by_cases hr : 0 < r
  · rw [decide_eq_true hr]
    simp only [if_true]
    by_cases hin : key ∈ keys
    · -- already there
      refine ⟨s1, B, Mk, keys, Rr, j, some (.str "index"), ?_, hK, by omega, hR⟩
      have q1 : sv_law_k14_5b3b1 (E14 sc size o4 (some (bs key)) B Mk j o10) (IM s1 size B Mk Rr) = .nx (E14 sc size o4 (some (bs key)) B Mk j (some (.str "index"))) (IM s1 size B Mk Rr) := by
        unfold sv_law_k14_5b3b1
        rw [sv_if, hNi, decide_eq_true hin]
        simp [sv_law_k14_5b3b1eb1, E14]
      have hc := change_dup (key := key) hx (insert_dup hx hK.ix (by omega) hk (by omega) (hmem.mp hin))
      have q2 : sv_law_k14_5b3b2 (E14 sc size o4 (some (bs key)) B Mk j (some (.str "index"))) (IM s1 size B Mk Rr) = .nx (E14 sc size o4 (some (bs key)) B Mk j (some (.str "index"))) (IM s1 size B Mk Rr) := by
        have hne : ∀ M : List MO, fNe (.str "index") (.str "index") M = .ok (.bl false) M := fun M => by kernel_rfl
        simp [sv_law_k14_5b3b2, E14, hc, hne]
      rw [sv_seq, q1, RS.bind_nx, q2]
    · -- inserted
      have hKi := hK.ins (size := size) (by omega) hk hin
      have hnf : key ∉ B.flatten := fun z => hin (hmem.mpr z)
      have hI := inserted_eq (M := IM s1 size B Mk Rr) (size := size) (key := key) (by omega) hK.ix (by omega) hk (by omega) (fun b hb => by have := z4 b hb; omega) hnf
      generalize hB' : (insI size B Mk key).1 = B' at *
      generalize hM' : (insI size B Mk key).2 = Mk' at *
      have ap : fAppend (.cell (j + 5)) [bs key] (IM s1 size B Mk Rr) = .ok .non (IM s1 size B Mk (Rr.set j (.lst (kl (keys ++ [key]))))) := by
        have hg : (IM s1 size B Mk Rr)[j + 5]? = some (.lst (kl keys)) := hR
        unfold fAppend
        simp only [hg]
        rw [if_pos (by simp; unfold big; omega)]
        show R.ok D.non (IM s1 size B Mk (Rr.set j (.lst (kl keys ++ [bs key])))) = _
        simp [kl]
      have hR2 : (Rr.set j (.lst (kl (keys ++ [key]))))[j]? = some (.lst (kl (keys ++ [key]))) := List.getElem?_set_self hjl
      have hx2 := IM_at s1 size B Mk (Rr.set j (.lst (kl (keys ++ [key]))))
      refine ⟨s1, B', Mk', keys ++ [key], Rr.set j (.lst (kl (keys ++ [key]))), j, some (nD (cle Mk' key)), ?_, hKi, by simp, hR2⟩
      have a1 : sv_law_k14_5b3b1b1 (E14 sc size o4 (some (bs key)) B Mk j o10) (IM s1 size B Mk Rr) = .nx (E14 sc size o4 (some (bs key)) B' Mk' j o10) (IM s1 size B Mk Rr) :=
        asg14 sc o4 o10 (by simp [E14, hI])
      have a2 : sv_law_k14_5b3b1b2 (E14 sc size o4 (some (bs key)) B' Mk' j o10) (IM s1 size B Mk Rr) = .nx (E14 sc size o4 (some (bs key)) B' Mk' j o10) (IM s1 size B Mk (Rr.set j (.lst (kl (keys ++ [key]))))) := by
        have hck : ckL (.cell (j + 5)) (IM s1 size B Mk Rr) = true := by unfold ckL; rw [hq.res]
        simp [sv_law_k14_5b3b1b2, E14, hck, ap]
      have a3 : sv_law_k14_5b3b1b3 (E14 sc size o4 (some (bs key)) B' Mk' j o10) (IM s1 size B Mk (Rr.set j (.lst (kl (keys ++ [key]))))) = .nx (E14 sc size o4 (some (bs key)) B' Mk' j (some (nD (cle Mk' key)))) (IM s1 size B Mk (Rr.set j (.lst (kl (keys ++ [key]))))) := by
        unfold sv_law_k14_5b3b1b3
        have hml : Mk'.length ≤ 1000 := by
          have h1 := hKi.ix.len
          have h2 := hKi.ix.small
          have h3 := hKi.len
          rw [List.length_append] at h3
          simp only [List.length_singleton] at h3
          omega
        rw [sv_set, cle_len (Mk := Mk') (key := key) (x := .lst (kl Mk')) (.inl rfl) hml rfl rfl (by decide) (by simp [wipeE, E14])]
        rfl
      have q1 : sv_law_k14_5b3b1 (E14 sc size o4 (some (bs key)) B Mk j o10) (IM s1 size B Mk Rr) = .nx (E14 sc size o4 (some (bs key)) B' Mk' j (some (nD (cle Mk' key)))) (IM s1 size B Mk (Rr.set j (.lst (kl (keys ++ [key]))))) := by
        unfold sv_law_k14_5b3b1
        rw [sv_if, hNi, decide_eq_false hin]
        simp only [Bool.not_false, R.toS_ok, if_true]
        rw [sv_seq, a1, RS.bind_nx, sv_seq, a2, RS.bind_nx, a3]
      have hins := insert_eq (size := size) (key := key) hx2 hK.ix (by omega) hk (by omega) (fun b hb => by have := z4 b hb; omega) (by omega) hnf
      rw [hB', hM', IM_set] at hins
      have hc := change_ins (key := key) hx2 rfl hins
      have q2 : sv_law_k14_5b3b2 (E14 sc size o4 (some (bs key)) B' Mk' j (some (nD (cle Mk' key)))) (IM s1 size B Mk (Rr.set j (.lst (kl (keys ++ [key]))))) = .nx (E14 sc size o4 (some (bs key)) B' Mk' j (some (nD (cle Mk' key)))) (IM s1 size B' Mk' (Rr.set j (.lst (kl (keys ++ [key]))))) := by
        have hne := fNe_int (cle Mk' key : Int) (IM s1 size B' Mk' (Rr.set j (.lst (kl (keys ++ [key])))))
        simp [sv_law_k14_5b3b2, E14, hc, nD, hne]
      rw [sv_seq, q1, RS.bind_nx, q2]
  · rw [decide_eq_false hr]
    simp only [Bool.false_eq_true, if_false]
    by_cases hin : key ∈ keys
    · have hKr := hK.rem hin
      have hrem := remove_eq (key := key) hx hK.ix (by omega) (by omega) (fun b hb => by have := z4 b hb; omega) (hmem.mp hin)
      have hR1 := removed_eq (key := key) (M := IM s1 size (remI B Mk key).1 (remI B Mk key).2 Rr) hK.ix (by omega) (fun b hb => by have := z4 b hb; omega)
      rw [IM_set] at hrem
      have hc := change_rem (key := key) hx hrem
      generalize hB' : (remI B Mk key).1 = B' at *
      generalize hM' : (remI B Mk key).2 = Mk' at *
      generalize hk' : (keys.filter fun k => !decide (k = key)) = keys' at *
      have hq2 : Sq (IM s1 size B' Mk' Rr) (.cell (j + 5)) keys := .inr ⟨j + 5, rfl, hR⟩
      have hkl : keys'.length ≤ keys.length := by rw [← hk']; exact List.length_filter_le ..
      refine ⟨s1, B', Mk', keys', Rr ++ [.lst (kl keys')], Rr.length, o10, ?_, hKr, by omega, by simp⟩
      have hIn := fIn_sq hq2 key
      rw [decide_eq_true hin] at hIn
      have q1 : sv_law_k14_5b3eb1 (E14 sc size o4 (some (bs key)) B Mk j o10) (IM s1 size B Mk Rr) = .nx (E14 sc size o4 (some (bs key)) B Mk j o10) (IM s1 size B' Mk' Rr) := by
        have hne : ∀ M : List MO, fNe .non .non M = .ok (.bl false) M := fun M => by kernel_rfl
        simp [sv_law_k14_5b3eb1, E14, hc, hIn, hne]
      have a1 : sv_law_k14_5b3eb2b1 (E14 sc size o4 (some (bs key)) B Mk j o10) (IM s1 size B' Mk' Rr) = .nx (E14 sc size o4 (some (bs key)) B' Mk' j o10) (IM s1 size B' Mk' Rr) :=
        asg14 sc o4 o10 (by simp [E14, hR1])
      have k2 : eLcA (eSeq (eVar 8)) (gN 11) [11] (eTest (eBin fNe (eVar 11) (eVar 5))) (eVar 11) (E14 sc size o4 (some (bs key)) B' Mk' j o10) (IM s1 size B' Mk' Rr) = .ok (kl keys') (IM s1 size B' Mk' Rr) := by
        rw [← hk']
        exact lc_sq (i := 11) (e := E14 sc size o4 (some (bs key)) B' Mk' j o10) (j := 8) (t := (eTest (eBin fNe (eVar 11) (eVar 5)))) (el := eVar 11) hq2 (by omega) rfl bs (fun k => !decide (k = key)) fun k _ => ⟨by simp [E14, wipeE, fNe], fun _ => by simp [E14, wipeE]⟩
      have a2 : sv_law_k14_5b3eb2b2 (E14 sc size o4 (some (bs key)) B' Mk' j o10) (IM s1 size B' Mk' Rr) = .nx (E14 sc size o4 (some (bs key)) B' Mk' Rr.length o10) (IM s1 size B' Mk' (Rr ++ [.lst (kl keys')])) := by
        unfold sv_law_k14_5b3eb2b2
        rw [sv_set, ev_args, k2]
        rfl
      have q2 : sv_law_k14_5b3eb2 (E14 sc size o4 (some (bs key)) B Mk j o10) (IM s1 size B' Mk' Rr) = .nx (E14 sc size o4 (some (bs key)) B' Mk' Rr.length o10) (IM s1 size B' Mk' (Rr ++ [.lst (kl keys')])) := by
        have t : eTest (eBin fIn (eVar 5) (eVar 8)) (E14 sc size o4 (some (bs key)) B Mk j o10) (IM s1 size B' Mk' Rr) = .ok true (IM s1 size B' Mk' Rr) := by simp [E14, hIn]
        unfold sv_law_k14_5b3eb2
        rw [sv_if, t, R.toS_ok]
        simp only [if_true]
        rw [sv_seq, a1, RS.bind_nx, a2]
      rw [sv_seq, q1, RS.bind_nx, q2]
    · refine ⟨s1, B, Mk, keys, Rr, j, o10, ?_, hK, by omega, hR⟩
      have hno := remove_no (key := key) hx hK.ix (by omega) hk.1 (by omega) (by omega) (fun z => hin (hmem.mpr z))
      have hc := change_no (key := key) hx hno
      have hIn := fIn_sq hq key
      rw [decide_eq_false hin] at hIn
      have q1 : sv_law_k14_5b3eb1 (E14 sc size o4 (some (bs key)) B Mk j o10) (IM s1 size B Mk Rr) = .nx (E14 sc size o4 (some (bs key)) B Mk j o10) (IM s1 size B Mk Rr) := by
        have hne : ∀ M : List MO, fNe (.str "none") (.str "none") M = .ok (.bl false) M := fun M => by kernel_rfl
        simp [sv_law_k14_5b3eb1, E14, hc, hIn, hne]
      have q2 : sv_law_k14_5b3eb2 (E14 sc size o4 (some (bs key)) B Mk j o10) (IM s1 size B Mk Rr) = .nx (E14 sc size o4 (some (bs key)) B Mk j o10) (IM s1 size B Mk Rr) := by
        simp [sv_law_k14_5b3eb2, E14, hIn]
      rw [sv_seq, q1, RS.bind_nx, q2]
end
end KB
namespace KB
open PySem PySem.Spec PyProof.Rows L2
theorem forC_ix {g : GV} {b : SV} {n : Nat} {ds : List D} (I : Nat → EN → List MO → Prop) (hM : ∀ i e M, I i e M → M[n]? = some (.lst ds))
    (hs : ∀ j d, ds[j]? = some d → ∀ e M, I j e M → ∃ e1 e2 M2, g d e = some e1 ∧ b e1 M = .nx e2 M2 ∧ I (j + 1) e2 M2) : ∀ (k i : Nat) (e : EN) (M : List MO), I i e M → ds.length < i + k → i ≤ ds.length → ∃ e' M', forC g b n k i e M = .nx e' M' ∧ I ds.length e' M'
  | 0, i, e, M, hI, hk, hi => by omega
  | k + 1, i, e, M, hI, hk, hi => by
    unfold forC
    simp only [hM i e M hI]
    cases hd : ds[i]? with
    | none =>
      have : ds.length ≤ i := List.getElem?_eq_none_iff.mp hd
      exact ⟨e, M, rfl, by rw [show ds.length = i by omega]; exact hI⟩
    | some d =>
      obtain ⟨e1, e2, M2, h1, h2, h3⟩ := hs i d hd e M hI
      simp only [h1, h2, RS.turn_nx]
      exact forC_ix I hM hs k (i + 1) e2 M2 h3 (by omega) (List.getElem?_eq_some_iff.mp hd).1
theorem sFor_sq {src : EI} {g : GV} {b : SV} {ks : List (List Int)} {e : EN} {M : List MO} (I : Nat → EN → List MO → Prop)
    (hsrc : src e M = .ok (.snap (kl ks)) M ∨ ∃ n, src e M = .ok (.cel n) M ∧ ∀ i e M, I i e M → M[n]? = some (.lst (kl ks))) (h0 : I 0 e M) (hl : ks.length ≤ 1000)
    (hs : ∀ j k, ks[j]? = some k → ∀ e M, I j e M → ∃ e1 e2 M2, g (bs k) e = some e1 ∧ b e1 M = .nx e2 M2 ∧ I (j + 1) e2 M2) : ∃ e' M', sFor src g b e M = .nx e' M' ∧ I ks.length e' M' := by
  have hs' : ∀ j d, (kl ks)[j]? = some d → ∀ e M, I j e M → ∃ e1 e2 M2, g d e = some e1 ∧ b e1 M = .nx e2 M2 ∧ I (j + 1) e2 M2 := fun j d hd e M hI => by
    rw [kl, List.getElem?_map] at hd
    cases hk : ks[j]? with
    | none => rw [hk] at hd; simp at hd
    | some k =>
      rw [hk] at hd
      simp at hd
      subst hd
      exact hs j k hk e M hI
  rcases hsrc with h | ⟨n, h, hM⟩
  · obtain ⟨e', M', q1, q2⟩ := forL_ix (g := g) (b := b) I (kl ks) 0 e M h0 fun j d hd e M hI => by
      rw [Nat.zero_add] at hI ⊢
      obtain ⟨e1, e2, M2, a1, a2, a3⟩ := hs' j d hd e M hI
      exact ⟨e1, e2, M2, a1, .inl a2, a3⟩
    refine ⟨e', M', ?_, by simpa using q2⟩
    rw [sv_for, h]
    exact q1
  · obtain ⟨e', M', q1, q2⟩ := forC_ix (g := g) (b := b) (n := n) (ds := kl ks) I hM hs' fuel 0 e M h0 (by simp; unfold fuel; omega) (by simp)
    refine ⟨e', M', ?_, by simpa using q2⟩
    rw [sv_for, h]
    exact q1
theorem law_true_fn14 (a b : Bool) (M : List MO) : m__law_true [.bl a, .bl b] M = .ok (.bl (a == b)) M := by
  simp [m__law_true, mOf, sv__law_true, startE, fEq]
theorem Ky.perm' {L : Nat} {B : BL} {Mk keys ks : List (List Int)} (h : Ky L B Mk keys) (hp : ks.Perm keys) : Ky L B Mk ks :=
  ⟨h.ix, hp.nodup_iff.mpr h.nd, fun k => by rw [hp.mem_iff]; exact h.mem k⟩
theorem filter_head {k : List Int} {ks : List (List Int)} (h : (k :: ks).Nodup) : ((k :: ks).filter fun x => !decide (x = k)) = ks := by
  rw [List.filter_cons]
  simp only [decide_true, Bool.not_true, Bool.false_eq_true, if_false]
  rw [List.filter_eq_self]
  intro a ha
  have := (List.nodup_cons.mp h).1
  simp only [Bool.not_eq_true', decide_eq_false_iff_not]
  rintro rfl
  exact this ha
def EE (size : Nat) (B : BL) (Mk : List (List Int)) (j : Nat) (ord o6 : Option D) : EN := [some (.cell 1), some (.cell 2), some (.lst (bl B)), some (.lst (kl Mk)), some (.cell (j + 5)), ord, o6]
theorem asgE {size : Nat} {B : BL} {Mk : List (List Int)} {j : Nat} {ord o6 : Option D} {B' : BL} {Mk' : List (List Int)} {ev : EV} {M M' : List MO} (h : ev (EE size B Mk j ord o6) M = .ok (.tup [.lst (bl B'), .lst (kl Mk')]) M') : sAsg (gT [2, 3]) ev (EE size B Mk j ord o6) M = .nx (EE size B' Mk' j ord o6) M' := by
  rw [sv_asg, h]
  rfl
section
variable {size : Nat} {B : BL} {Mk keys : List (List Int)} {Rr : List MO} {j : Nat} (hz1 : 2 ≤ size) (hz2 : size ≤ 20) (hK : Ky 3 B Mk keys) (hl : keys.length ≤ 16) (hR : Rr[j]? = some (.lst (kl keys)))
include hz1 hz2 hl hR
theorem turnE (s : DS) {ks : List (List Int)} {k : List Int} (hK : Ky 3 B Mk (k :: ks)) (hlk : (k :: ks).length ≤ 16) (ord : Option D) : ∃ B' Mk', (sSeq sv__law_emptied_2b1 (sSeq sv__law_emptied_2b2 sv__law_emptied_2b3)) (EE size B Mk j ord (some (bs k))) (IM s size B Mk Rr) = .nx (EE size B' Mk' j ord (some (bs k))) (IM s size B' Mk' Rr) ∧ Ky 3 B' Mk' ks := by
  have hsz : Mk.length ≤ 20 ∧ B.length ≤ 20 ∧ B.flatten.length ≤ 20 ∧ ∀ b ∈ B, b.length ≤ 20 := by
    have h1 := hK.len
    have h2 := hK.ix.small
    have h3 := hK.ix.len
    refine ⟨by omega, by omega, by omega, fun b hb => ?_⟩
    have := block_le hb
    omega
  obtain ⟨z1, z2, z3, z4⟩ := hsz
  have hkm : k ∈ k :: ks := by simp
  have hx := IM_at s size B Mk Rr
  have hrem := remove_eq (key := k) hx hK.ix (by omega) (by omega) (fun b hb => by have := z4 b hb; omega) ((hK.mem k).mp hkm)
  have hR1 := removed_eq (key := k) (M := IM s size (remI B Mk k).1 (remI B Mk k).2 Rr) hK.ix (by omega) (fun b hb => by have := z4 b hb; omega)
  rw [IM_set] at hrem
  have hKr := hK.rem hkm
  rw [filter_head hK.nd] at hKr
  generalize hB' : (remI B Mk k).1 = B' at *
  generalize hM' : (remI B Mk k).2 = Mk' at *
  refine ⟨B', Mk', ?_, hKr⟩
  have hx2 := IM_at s size B' Mk' Rr
  have l1 : (ixF size 3 4).lookup ("layout" : Str) = none := by kernel_rfl
  have l2 : (ixF size 3 4).lookup ("separators" : Str) = none := by kernel_rfl
  have hm : eMethO "Index" "remove" m_Index_remove_k14 (eVar 1) (eCons (eVar 6) eNil) (EE size B Mk j ord (some (bs k))) (IM s size B Mk Rr) = .ok .non (IM s size B' Mk' Rr) := by
    rw [hx.meth (lk_remove ..) (by simp [EE])]
    simp [EE, hrem]
  have q1 : sv__law_emptied_2b1 (EE size B Mk j ord (some (bs k))) (IM s size B Mk Rr) = .nx (EE size B Mk j ord (some (bs k))) (IM s size B' Mk' Rr) := by
    unfold sv__law_emptied_2b1
    rw [sv_expr, hm]
    rfl
  have q2 : sv__law_emptied_2b2 (EE size B Mk j ord (some (bs k))) (IM s size B' Mk' Rr) = .nx (EE size B' Mk' j ord (some (bs k))) (IM s size B' Mk' Rr) :=
    asgE (by simp [EE, hR1])
  have hsm : B'.length ≤ 300 := by
    have h1 := hKr.len
    have h2 := hKr.ix.small
    have : ks.length < 16 := by simp at hlk; omega
    omega
  have m1 : eMethO "Index" "layout" m_Index_layout_k14 (eVar 1) eNil (EE size B' Mk' j ord (some (bs k))) (IM s size B' Mk' Rr) = .ok (.lst (bl B')) (IM s size B' Mk' Rr) := by
    rw [hx2.meth l1 (by simp [EE])]
    simp [layout14_eq hx2 hsm]
  have m2 : eMethO "Index" "separators" m_Index_separators_k14 (eVar 1) eNil (EE size B' Mk' j ord (some (bs k))) (IM s size B' Mk' Rr) = .ok (.lst (kl Mk')) (IM s size B' Mk' Rr) := by
    rw [hx2.meth l2 (by simp [EE])]
    simp [seps14_eq hx2]
  have t1 : eTest (eBin fNe (eMethO "Index" "layout" m_Index_layout_k14 (eVar 1) eNil) (eVar 2)) (EE size B' Mk' j ord (some (bs k))) (IM s size B' Mk' Rr) = .ok false (IM s size B' Mk' Rr) := by
    rw [ev_test, ev_bin, m1]
    simp [EE, fNe_bl]
  have t2 : eTest (eBin fNe (eMethO "Index" "separators" m_Index_separators_k14 (eVar 1) eNil) (eVar 3)) (EE size B' Mk' j ord (some (bs k))) (IM s size B' Mk' Rr) = .ok false (IM s size B' Mk' Rr) := by
    rw [ev_test, ev_bin, m2]
    simp [EE, fNe_kl']
  have q3 : sv__law_emptied_2b3 (EE size B' Mk' j ord (some (bs k))) (IM s size B' Mk' Rr) = .nx (EE size B' Mk' j ord (some (bs k))) (IM s size B' Mk' Rr) := by
    unfold sv__law_emptied_2b3
    rw [sv_if, ev_or, t1, R.bind_ok]
    simp only [Bool.false_eq_true, if_false]
    rw [t2]
    rfl
  rw [sv_seq, q1, RS.bind_nx, sv_seq, q2, RS.bind_nx, q3]
include hK in
theorem emptied_eq (s : DS) : ∃ M', m__law_emptied [.cell 1, .cell 2, .lst (bl B), .lst (kl Mk), .cell (j + 5)] (IM s size B Mk Rr) = .ok (.bl true) M' := by
  have hq : ∀ s B Mk, Sq (IM s size B Mk Rr) (.cell (j + 5)) keys := fun s B Mk => .inr ⟨j + 5, rfl, hR⟩
  have hso := fSorted_sq (hq s B Mk)
  have hrv : fRev (.lst (kl (sortK keys))) (IM s size B Mk Rr) = .ok (.lst (kl (sortK keys).reverse)) (IM s size B Mk Rr) := by
    unfold fRev
    simp [kl]
  obtain ⟨ord, s2, e2, hord⟩ := pick_eq s [.cell (j + 5), .lst (kl (sortK keys)), .lst (kl (sortK keys).reverse)] (by simp) (by simp) (ixO size 3 4 :: .lst (bl B) :: .lst (kl Mk) :: Rr)
  have hb3 : (3 : Nat) ≤ big := by decide
  have q1 : sv__law_emptied_1 (EE size B Mk j none none) (IM s size B Mk Rr) = .nx (EE size B Mk j (some ord) none) (IM s2 size B Mk Rr) := by
    have e2' : m__law_pick [.cell 1, .lst [.cell (j + 5), .lst (kl (sortK keys)), .lst (kl (sortK keys).reverse)]] (IM s size B Mk Rr) = .ok ord (IM s2 size B Mk Rr) := e2
    simp [sv__law_emptied_1, EE, hso, hrv, hb3, e2']
  -- the order in which the keys go
  have hsrc : ∃ ks : List (List Int), ks.Perm keys ∧ (eSeq (eVar 5) (EE size B Mk j (some ord) none) (IM s2 size B Mk Rr) = .ok (.snap (kl ks)) (IM s2 size B Mk Rr) ∨ (eSeq (eVar 5) (EE size B Mk j (some ord) none) (IM s2 size B Mk Rr) = .ok (.cel (j + 5)) (IM s2 size B Mk Rr) ∧ ks = keys)) := by
    simp only [List.mem_cons, List.not_mem_nil, or_false] at hord
    rcases hord with rfl | rfl | rfl
    · refine ⟨keys, .refl _, .inr ⟨?_, rfl⟩⟩
      have : (IM s2 size B Mk Rr)[j + 5]? = some (.lst (kl keys)) := hR
      simp [EE, eSeq, this]
    · exact ⟨sortK keys, sortK_perm keys, .inl rfl⟩
    · exact ⟨(sortK keys).reverse, (List.reverse_perm _).trans (sortK_perm keys), .inl rfl⟩
  obtain ⟨ks, hp, hsrc⟩ := hsrc
  have hkl : ks.length = keys.length := hp.length_eq
  let I : Nat → EN → List MO → Prop := fun i e M => ∃ B Mk o6, e = EE size B Mk j (some ord) o6 ∧ M = IM s2 size B Mk Rr ∧ Ky 3 B Mk (ks.drop i)
  have hM : ∀ i e M, I i e M → M[j + 5]? = some (.lst (kl keys)) := by
    rintro i e M ⟨B, Mk, o6, rfl, rfl, _⟩
    exact hR
  obtain ⟨e', M', q2, ⟨B', Mk', o6, rfl, rfl, hK'⟩⟩ := sFor_sq (src := eSeq (eVar 5)) (g := gN 6) (b := sSeq sv__law_emptied_2b1 (sSeq sv__law_emptied_2b2 sv__law_emptied_2b3)) (ks := ks) (e := EE size B Mk j (some ord) none) (M := IM s2 size B Mk Rr) I
    (by
      rcases hsrc with h | ⟨h, rfl⟩
      · exact .inl h
      · exact .inr ⟨j + 5, h, hM⟩)
    ⟨B, Mk, none, rfl, rfl, by simpa using hK.perm' hp⟩ (by omega) (by
      rintro i k hk e M ⟨B, Mk, o6, rfl, rfl, hK⟩
      obtain ⟨hi, hki⟩ := List.getElem?_eq_some_iff.mp hk
      rw [List.drop_eq_getElem_cons hi, hki] at hK
      have hlen : (k :: ks.drop (i + 1)).length ≤ 16 := by simp; omega
      obtain ⟨B', Mk', t1, t2⟩ := turnE hz1 hz2 hl hR s2 hK hlen (some ord)
      exact ⟨_, _, _, rfl, t1, B', Mk', _, rfl, rfl, t2⟩)
  rw [List.drop_length] at hK'
  have hfl : B'.flatten = [] := List.length_eq_zero_iff.mp (by have := hK'.len; simpa using this)
  obtain ⟨rfl, rfl⟩ := hK'.ix.empty hfl
  have hx := IM_at s2 size [[]] [] Rr
  have l1 : (ixF size 3 4).lookup ("layout" : Str) = none := by kernel_rfl
  have l2 : (ixF size 3 4).lookup ("separators" : Str) = none := by kernel_rfl
  have m1 : eMethO "Index" "layout" m_Index_layout_k14 (eVar 1) eNil (EE size [[]] [] j (some ord) o6) (IM s2 size [[]] [] Rr) = .ok (.lst (bl [[]])) (IM s2 size [[]] [] Rr) := by
    rw [hx.meth l1 (by simp [EE])]
    simp [layout14_eq hx (by simp)]
  have m2 : eMethO "Index" "separators" m_Index_separators_k14 (eVar 1) eNil (EE size [[]] [] j (some ord) o6) (IM s2 size [[]] [] Rr) = .ok (.lst (kl [])) (IM s2 size [[]] [] Rr) := by
    rw [hx.meth l2 (by simp [EE])]
    simp [seps14_eq hx]
  have m3 : eLenO "Index" m_Index___len__ (eCons (eVar 1) eNil) (EE size [[]] [] j (some ord) o6) (IM s2 size [[]] [] Rr) = .ok (.int 0) (IM s2 size [[]] [] Rr) :=
    lenO_eq hx (by simp) (by simp) (by simp [EE])
  have f1 : ∀ M, fEq (.lst (bl [[]])) (.lst [.lst []]) M = .ok (.bl true) M := fun M => by kernel_rfl
  have f2 : ∀ M, fEq (.lst (kl [])) (.lst []) M = .ok (.bl true) M := fun M => by kernel_rfl
  have f3 : ∀ M, fEq (.int 0) (.int 0) M = .ok (.bl true) M := fun M => by kernel_rfl
  refine ⟨IM s2 size [[]] [] Rr, ?_⟩
  have q3 : sv__law_emptied_3 (EE size [[]] [] j (some ord) o6) (IM s2 size [[]] [] Rr) = .ret (.bl true) (IM s2 size [[]] [] Rr) := by
    simp [sv__law_emptied_3, m1, m2, m3, f1, f2, f3]
  show (sv__law_emptied (EE size B Mk j none none) (IM s size B Mk Rr)).toR = _
  unfold sv__law_emptied sv__law_emptied_2
  rw [sv_seq, q1, RS.bind_nx, sv_seq, q2, RS.bind_nx, q3]
  rfl

def E14b (sc : Option D) (size : Nat) (o4 o5 : Option D) (B : BL) (Mk : List (List Int)) (j : Nat) (o9 o10 : Option D) : EN := [sc, some (.cell 1), some (.int (size : Nat)), some (.cell 2), o4, o5, some (.lst (bl B)), some (.lst (kl Mk)), some (.cell (j + 5)), o9, o10, none, none]
include hK in
theorem s14_6b (sc : Option D) (s : DS) (o4 o9 o10 : Option D) {key : List Int} (hk : By key ∧ key.length ≤ 3) : ∃ o9', (sSeq sv_law_k14_6b1 sv_law_k14_6b2) (E14b sc size o4 (some (bs key)) B Mk j o9 o10) (IM s size B Mk Rr) = .nx (E14b sc size o4 (some (bs key)) B Mk j o9' o10) (IM s size B Mk Rr) := by
  obtain ⟨z1, z2, z3, z4⟩ := t14_sz hz1 hz2 hK hl hR
  have hx := IM_at s size B Mk Rr
  have hq := t14_keys hz1 hz2 hK hl hR s
  obtain ⟨b, hb⟩ := hK.ix.at key
  have c1 := route_eq (M := IM s size B Mk Rr) (x := .lst (kl Mk)) (ks := Mk) (key := key) (.inl rfl) hK.ix.masc (fun m hm => ⟨(hK.ix.mok m hm).1, by have := (hK.ix.mok m hm).2; omega⟩) (by omega) hk.1 (by omega)
  have lc : (ixF size 3 4).lookup ("contains" : Str) = none := by kernel_rfl
  have c2 := contains14_eq (key := key) hx hK.ix (by omega) (by omega) hk.1 (by omega)
  have c3 : fIx (.lst (bl B)) (nD (cle Mk key)) (IM s size B Mk Rr) = .ok (bD b) (IM s size B Mk Rr) := SqX.ix (c := bD) (.inl rfl) hb
  have c4 := fIn_sq (M := IM s size B Mk Rr) (y := bD b) (ks := b) (.inl rfl) key
  have c5 := fIn_sq hq key
  have e1 : decide (key ∈ b) = decide (key ∈ keys) := by rw [decide_eq_decide, hK.mem key]; exact (hK.ix.mem hb).symm
  have e2 : decide (key ∈ B.flatten) = decide (key ∈ keys) := by rw [decide_eq_decide, hK.mem key]
  rw [e1] at c4
  rw [e2] at c2
  generalize decide (key ∈ keys) = v at *
  refine ⟨some (nD (cle Mk key)), ?_⟩
  have q1 : sv_law_k14_6b1 (E14b sc size o4 (some (bs key)) B Mk j o9 o10) (IM s size B Mk Rr) = .nx (E14b sc size o4 (some (bs key)) B Mk j (some (nD (cle Mk key))) o10) (IM s size B Mk Rr) := by
    simp [sv_law_k14_6b1, E14b, c1, nD]
  have m1 : eMethO "Index" "contains" m_Index_contains_k14 (eVar 3) (eCons (eVar 5) eNil) (E14b sc size o4 (some (bs key)) B Mk j (some (nD (cle Mk key))) o10) (IM s size B Mk Rr) = .ok (.bl v) (IM s size B Mk Rr) := by
    rw [hx.meth lc (by simp [E14b])]
    simp [E14b, c2]
  have m2 : eBin fIn (eVar 5) (eVar 8) (E14b sc size o4 (some (bs key)) B Mk j (some (nD (cle Mk key))) o10) (IM s size B Mk Rr) = .ok (.bl v) (IM s size B Mk Rr) := by
    simp [E14b, c5]
  have m3 : eBin fIn (eVar 5) (eBin fIx (eVar 6) (eVar 9)) (E14b sc size o4 (some (bs key)) B Mk j (some (nD (cle Mk key))) o10) (IM s size B Mk Rr) = .ok (.bl v) (IM s size B Mk Rr) := by
    simp [E14b, -fIx_lst, c3, c4]
  have hne : ∀ M, fNe (.bl v) (.bl v) M = .ok (.bl false) M := fun M => by cases v <;> kernel_rfl
  have q2 : sv_law_k14_6b2 (E14b sc size o4 (some (bs key)) B Mk j (some (nD (cle Mk key))) o10) (IM s size B Mk Rr) = .nx (E14b sc size o4 (some (bs key)) B Mk j (some (nD (cle Mk key))) o10) (IM s size B Mk Rr) := by
    unfold sv_law_k14_6b2
    rw [sv_if, ev_or]
    have t1 : eNot (eTest (eArgs m__law_true (eCons (eMethO "Index" "contains" m_Index_contains_k14 (eVar 3) (eCons (eVar 5) eNil)) (eCons (eBin fIn (eVar 5) (eVar 8)) eNil)))) (E14b sc size o4 (some (bs key)) B Mk j (some (nD (cle Mk key))) o10) (IM s size B Mk Rr) = .ok false (IM s size B Mk Rr) := by
      simp only [ev_not, ev_test, ev_args, ev_cons, ev_nil, m1, m2, R.bind_ok, law_true_fn14, R.toS_ok]
      simp
    have t2 : eTest (eBin fNe (eBin fIn (eVar 5) (eBin fIx (eVar 6) (eVar 9))) (eBin fIn (eVar 5) (eVar 8))) (E14b sc size o4 (some (bs key)) B Mk j (some (nD (cle Mk key))) o10) (IM s size B Mk Rr) = .ok false (IM s size B Mk Rr) := by
      rw [ev_test, ev_bin, m3, R.bind_ok, m2, R.bind_ok, hne]
      rfl
    rw [t1, R.bind_ok]
    simp only [Bool.false_eq_true, if_false]
    rw [t2]
    rfl
  rw [sv_seq, q1, RS.bind_nx, q2]
include hK in
theorem s14_6 (sc : Option D) (s : DS) (o4 o5 o10 : Option D) : ∃ s' o5' o9', sv_law_k14_6 (E14 sc size o4 o5 B Mk j o10) (IM s size B Mk Rr) = .nx (E14b sc size o4 o5' B Mk j o9' o10) (IM s' size B Mk Rr) := by
  obtain ⟨t, s3, e3, t1, t2⟩ := string_eq s 3 (by decide) (by decide) (ixO size 3 4 :: .lst (bl B) :: .lst (kl Mk) :: Rr)
  have hq := t14_keys hz1 hz2 hK hl hR s3
  have hb1 : (1 : Nat) ≤ big := by decide
  have ha : fAdd (.cell (j + 5)) (.lst [bs t]) (IM s3 size B Mk Rr) = .ok (.lst (kl (keys ++ [t]))) (IM s3 size B Mk Rr) := by
    have hr : res (IM s3 size B Mk Rr) (.cell (j + 5)) = .lst (kl keys) := hq.res
    have hr2 : res (IM s3 size B Mk Rr) (.lst [bs t]) = .lst [bs t] := rfl
    have : (kl keys).length + [bs t].length ≤ big := by simp; unfold big; omega
    unfold fAdd
    rw [hr, hr2]
    simp only [this, if_true]
    simp [kl]
  have src : eSeq (eBin fAdd (eVar 8) (eArgs fLst (eCons (eArgs m__law_string (eCons (eVar 1) (eCons (eC (.int 3)) eNil))) eNil))) (E14 sc size o4 o5 B Mk j o10) (IM s size B Mk Rr) = .ok (.snap (kl (keys ++ [t]))) (IM s3 size B Mk Rr) := by
    have e3' : m__law_string [.cell 1, .int 3] (IM s size B Mk Rr) = .ok (bs t) (IM s3 size B Mk Rr) := e3
    simp [E14, eSeq, e3', ha, hb1]
  have hks : ∀ k ∈ keys ++ [t], By k ∧ k.length ≤ 3 := fun k hk => by
    rcases List.mem_append.mp hk with z | z
    · exact hK.ok k z
    · simp at z; subst z; exact ⟨t2, by omega⟩
  obtain ⟨e', M', q1, ⟨o5', o9', rfl, rfl⟩⟩ := forL_inv (g := gN 5) (b := sSeq sv_law_k14_6b1 sv_law_k14_6b2) (fun _ e M => ∃ o5 o9, e = E14b sc size o4 o5 B Mk j o9 o10 ∧ M = IM s3 size B Mk Rr) (kl (keys ++ [t])) 0 (E14 sc size o4 o5 B Mk j o10) (IM s3 size B Mk Rr) ⟨o5, none, rfl, rfl⟩ (by
    rintro d hd i e M ⟨o5, o9, rfl, rfl⟩
    obtain ⟨k, hk, rfl⟩ := List.mem_map.mp hd
    obtain ⟨o9', h⟩ := s14_6b hz1 hz2 hK hl hR sc s3 o4 o9 o10 (hks k hk)
    exact ⟨_, _, _, rfl, .inl h, _, _, rfl, rfl⟩)
  refine ⟨s3, o5', o9', ?_⟩
  unfold sv_law_k14_6
  rw [sv_for, src]
  exact q1
include hK in
theorem s14_7 (sc : Option D) (s : DS) (o4 o5 o9 o10 : Option D) : sv_law_k14_7 (E14b sc size o4 o5 B Mk j o9 o10) (IM s size B Mk Rr) = .nx (E14b sc size o4 o5 B Mk j o9 o10) (IM s size B Mk Rr) := by
  obtain ⟨z1, z2, z3, z4⟩ := t14_sz hz1 hz2 hK hl hR
  have hx := IM_at s size B Mk Rr
  have hq := t14_keys hz1 hz2 hK hl hR s
  have lf : (ixF size 3 4).lookup ("find" : Str) = none := by kernel_rfl
  have hf := find_eq hx (by omega) (by omega) (lo := []) (hi := none) ⟨fun x h => by simp at h, by simp⟩ (fun z h => by cases h)
  have hall : B.flatten.filter (rngB [] none) = B.flatten := by
    rw [List.filter_eq_self]
    intro a _
    cases a <;> rfl
  rw [hall] at hf
  have hso := fSorted_sq hq
  rw [hK.sorted] at hso
  have hb2 : (2 : Nat) ≤ big := by decide
  have m1 : eMethO "Index" "find" m_Index_find (eVar 3) (eCons (eArgs fTup (eCons (eArgs fTup eNil) (eCons (eC .non) eNil))) eNil) (E14b sc size o4 o5 B Mk j o9 o10) (IM s size B Mk Rr) = .ok (.lst (kl B.flatten)) (IM s size B Mk Rr) := by
    rw [hx.meth lf (by simp [E14b])]
    have hf' : m_Index_find [.cell 2, .tup [bs [], .non]] (IM s size B Mk Rr) = .ok (.lst (kl B.flatten)) (IM s size B Mk Rr) := hf
    simp [hf', hb2]
  have m2 : eArgs fSorted (eCons (eVar 8) eNil) (E14b sc size o4 o5 B Mk j o9 o10) (IM s size B Mk Rr) = .ok (.lst (kl B.flatten)) (IM s size B Mk Rr) := by
    simp [E14b, hso]
  unfold sv_law_k14_7
  rw [sv_if, ev_test, ev_bin, m1, R.bind_ok, m2, R.bind_ok, fNe_kl']
  rfl
end
/-! ### the law holds -/
theorem law_true (ns : List Int) (h : ns.length ≤ 63) : ∃ M', m_law_k14 [.scr (ns.map .int)] [] = .ok (.bl true) M' := by
  obtain ⟨s0, e0⟩ := start_eq ns
  generalize hsc : D.scr (ns.map .int) = sc at *
  obtain ⟨r, s1, e1, r0, r1⟩ := draw_eq s0 4 (by decide) (by decide) []
  obtain ⟨k, rfl⟩ : ∃ k : Nat, r = (k : Int) := ⟨r.toNat, by omega⟩
  have hk : k < 4 := by omega
  let E0 : EN := [some sc, none, none, none, none, none, none, none, none, none, none, none, none]
  have q1 : sv_law_k14_1 (startE 13 [sc]) [] = .nx [some sc, some (.cell 1), none, none, none, none, none, none, none, none, none, none, none] (DM s0 []) := by
    simp [sv_law_k14_1, startE, e0]
  have q2 : sv_law_k14_2 [some sc, some (.cell 1), none, none, none, none, none, none, none, none, none, none, none] (DM s0 []) = .nx [some sc, some (.cell 1), some (.int ((k + 2 : Nat) : Int)), none, none, none, none, none, none, none, none, none, none] (DM s1 []) := by
    have : (2 : Int) + (k : Int) = ((k + 2 : Nat) : Int) := by omega
    simp [sv_law_k14_2, e1, this]
  generalize hsize : k + 2 = size at *
  have hz1 : 2 ≤ size := by omega
  have hz2 : size ≤ 20 := by omega
  have q3 : sv_law_k14_3 [some sc, some (.cell 1), some (.int (size : Nat)), none, none, none, none, none, none, none, none, none, none] (DM s1 []) = .nx [some sc, some (.cell 1), some (.int (size : Nat)), some (.cell 2), none, none, none, none, none, none, none, none, none] (IM s1 size [[]] [] []) := by
    have hm := make_eq (DM s1 []) hz1 hz2 (ea := eCons (eVar 2) eNil) (e := [some sc, some (.cell 1), some (.int (size : Nat)), none, none, none, none, none, none, none, none, none, none]) (by simp)
    unfold sv_law_k14_3
    rw [sv_set, hm]
    rfl
  have q4 : sv_law_k14_4 [some sc, some (.cell 1), some (.int (size : Nat)), some (.cell 2), none, none, none, none, none, none, none, none, none] (IM s1 size [[]] [] []) = .nx (E14 (some sc) size none none [[]] [] 0 none) (IM s1 size [[]] [] [.lst (kl [])]) := by
    rfl
  obtain ⟨e', M', q5, ⟨o4, o5, o10, s, B, Mk, keys, Rr, j, rfl, rfl, hK, hR, hl⟩⟩ := forL_ix (g := gN 4) (b := sSeq sv_law_k14_5b1 (sSeq sv_law_k14_5b2 (sSeq sv_law_k14_5b3 sv_law_k14_5b4)))
    (fun i e M => ∃ o4 o5 o10 s B Mk keys Rr j, e = E14 (some sc) size o4 o5 B Mk j o10 ∧ M = IM s size B Mk Rr ∧ Ky 3 B Mk keys ∧ Rr[j]? = some (.lst (kl keys)) ∧ keys.length ≤ i) (rangeD 0 16) 0 (E14 (some sc) size none none [[]] [] 0 none) (IM s1 size [[]] [] [.lst (kl [])])
    ⟨none, none, none, s1, [[]], [], [], [.lst (kl [])], 0, rfl, rfl, Ky.nil 3, rfl, by simp⟩ (by
      rintro i d hd e M ⟨o4, o5, o10, s, B, Mk, keys, Rr, j, rfl, rfl, hK, hR, hl⟩
      have hi : i < 16 := by
        have := (List.getElem?_eq_some_iff.mp hd).1
        simpa [rangeD] using this
      have hl16 : keys.length ≤ 16 := by omega
      obtain ⟨key, s1, a1, hk⟩ := t14_b1 hz1 hz2 hK hl16 hR (some sc) s (some d) o5 o10
      obtain ⟨key', s2, a2, hk'⟩ := t14_b2 hz1 hz2 hK hl16 hR (some sc) s1 (some d) o10 hk
      obtain ⟨s3, B', Mk', keys', R', j', o10', a3, hK', hl', hR'⟩ := t14_b3 hz1 hz2 hK hl16 hR (some sc) s2 (some d) o10 hk' (by omega)
      have a4 := t14_b4 hz1 hz2 hK' (by omega) hR' (some sc) s3 (some d) (some (bs key')) o10'
      refine ⟨E14 (some sc) size (some d) o5 B Mk j o10, E14 (some sc) size (some d) (some (bs key')) B' Mk' j' o10', IM s3 size B' Mk' R', rfl, .inl ?_, some d, some (bs key'), o10', s3, B', Mk', keys', R', j', rfl, rfl, hK', hR', by omega⟩
      rw [sv_seq, a1, RS.bind_nx, sv_seq, a2, RS.bind_nx, sv_seq, a3, RS.bind_nx, a4])
  have hl16 : keys.length ≤ 16 := by simpa [rangeD] using hl
  have q5' : sv_law_k14_5 (E14 (some sc) size none none [[]] [] 0 none) (IM s1 size [[]] [] [.lst (kl [])]) = .nx (E14 (some sc) size o4 o5 B Mk j o10) (IM s size B Mk Rr) := by
    have src : eRange1 (eCons (eC (.int 16)) eNil) (E14 (some sc) size none none [[]] [] 0 none) (IM s1 size [[]] [] [.lst (kl [])]) = .ok (.snap (rangeD 0 16)) (IM s1 size [[]] [] [.lst (kl [])]) := by kernel_rfl
    unfold sv_law_k14_5
    rw [sv_for, src]
    exact q5
  obtain ⟨s6, o5', o9', q6⟩ := s14_6 hz1 hz2 hK hl16 hR (some sc) s o4 o5 o10
  have q7 := s14_7 hz1 hz2 hK hl16 hR (some sc) s6 o4 o5' o9' o10
  obtain ⟨M', q8⟩ := emptied_eq hz1 hz2 hK hl16 hR s6
  have q8' : sv_law_k14_8 (E14b (some sc) size o4 o5' B Mk j o9' o10) (IM s6 size B Mk Rr) = .ret (.bl true) M' := by
    simp [sv_law_k14_8, E14b, q8]
  refine ⟨M', ?_⟩
  show (sv_law_k14 (startE 13 [sc]) []).toR = _
  unfold sv_law_k14
  rw [sv_seq, q1, RS.bind_nx, sv_seq, q2, RS.bind_nx, sv_seq, q3, RS.bind_nx, sv_seq, q4, RS.bind_nx, sv_seq, q5', RS.bind_nx, sv_seq, q6, RS.bind_nx, sv_seq, q7, RS.bind_nx, q8']
  rfl
end KB
namespace KB
open PySem PySem.Spec PyProof.Rows L2
def topS (i : Nat) : Stmt := PySem.Challenge.pw_keybytes_k14_whole_index.main.body.getD i (.Pass ⟨0, 0, 0, 0⟩)
section
variable {P : Program} {w : World} {C : Kx} {base : Heap}
abbrev st__law_start : Stmt := topS 27
theorem sc__law_start : FnScope ["script"] ["script"] (defScope st__law_start) := ⟨rfl, rfl, rfl, by decide +kernel, rfl, by decide +kernel, by decide +kernel⟩
theorem has__law_start (B : BI C.mg) 
    {f : Addr} {fd : FuncData} (Fu : Fun C.K "_law_start" "_law_start" st__law_start f fd) (gf : C.mg "_law_start" = some (.ref f)) (b : Binds C.K fd ["script"] []) : Has P w C base "_law_start" 1 m__law_start := by
  refine fn_has (sv := sv__law_start) Fu sc__law_start gf b (fun cdv A outer s H E hr => ?_)
  have hu0 := hr.units0; have hu64 := hr.units; have hu65 := hu65_of hr
  have tk : Takes (cxOf (L2.CX P w) P w C.K C.mg base ["script"] "_law_start" (defScope st__law_start) f cdv A outer s H E) (fun cls d _ H => E cls d H) := takes_of rfl rfl rfl rfl
  exact (psd_one (psd_ret (pd_lstC (pad_cons (pd_if (pb_cmp (op_neD hu64) dNe (pd_var 0) (pd_lst pad_nil) (nomark _)) (pd_listC B.list' (pad_cons (pd_var 0) pad_nil)) (pd_lstC (pad_cons pd_int pad_nil))) (pad_cons pd_int pad_nil)))))
abbrev st__law_draw : Stmt := topS 28
theorem sc__law_draw : FnScope ["draws", "limit", "numbers", "at", "cell", "mixed"] ["draws", "limit"] (defScope st__law_draw) := ⟨rfl, rfl, rfl, by decide +kernel, rfl, by decide +kernel, by decide +kernel⟩
theorem has__law_draw (B : BI C.mg) 
    {f : Addr} {fd : FuncData} (Fu : Fun C.K "_law_draw" "_law_draw" st__law_draw f fd) (gf : C.mg "_law_draw" = some (.ref f)) (b : Binds C.K fd ["draws", "limit"] []) : Has P w C base "_law_draw" 1 m__law_draw := by
  refine fn_has (sv := sv__law_draw) Fu sc__law_draw gf b (fun cdv A outer s H E hr => ?_)
  have hu0 := hr.units0; have hu64 := hr.units; have hu65 := hu65_of hr
  have tk : Takes (cxOf (L2.CX P w) P w C.K C.mg base ["draws", "limit", "numbers", "at", "cell", "mixed"] "_law_draw" (defScope st__law_draw) f cdv A outer s H E) (fun cls d _ H => E cls d H) := takes_of rfl rfl rfl rfl
  exact (psd_cons (psd_set (i := 2) (pd_ix (pd_var 0) pd_int) sc__law_draw.nd)
    (psd_cons (psd_sub (pd_var 0) pd_int (pd_op opAdd dAdd (pd_ix (pd_var 0) pd_int) pd_int))
    (psd_cons (psd_set (i := 3) (pd_op op_mod dMod (pd_ix (pd_var 0) pd_int) (pd_len B.len (pad_cons (pd_var 2) pad_nil))) sc__law_draw.nd)
    (psd_cons (psd_set (i := 4) (pd_ix (pd_var 2) (pd_var 3)) sc__law_draw.nd)
    (psd_cons (psd_if (pb_cmp (opGe hu0) dGe (pd_var 4) pd_int (nomark _)) (psd_cons (psd_sub (pd_var 2) (pd_var 3) (pd_op op_fdivW dFdiv (pd_var 4) (pd_var 1)))
    (psd_one (psd_ret (pd_op op_mod dMod (pd_var 4) (pd_var 1))))) psd_nil)
    (psd_cons (psd_set (i := 5) (pd_op op_mod dMod (pd_op opAdd dAdd (pd_var 4) (pd_op opMul dMul pd_int (pd_ix (pd_var 0) pd_int))) pd_int) sc__law_draw.nd)
    (psd_cons (psd_set (i := 5) (pd_op op_mod dMod (pd_op op_pow dPow (pd_var 5) pd_int) pd_int) sc__law_draw.nd)
    (psd_one (psd_ret (pd_op op_mod dMod (pd_op op_fdivW dFdiv (pd_op op_mod dMod (pd_op opAdd dAdd (pd_op opMul dMul (pd_op op_fdivW dFdiv (pd_var 5) pd_int) pd_int) (pd_var 5)) pd_int) pd_int) (pd_var 1)))))))))))
abbrev st_is_int : Stmt := topS 8
theorem sc_is_int : FnScope ["value", "low", "high"] ["value", "low", "high"] (defScope st_is_int) := ⟨rfl, rfl, rfl, by decide +kernel, rfl, by decide +kernel, by decide +kernel⟩
theorem has_is_int (B : BI C.mg) 
    {f : Addr} {fd : FuncData} (Fu : Fun C.K "is_int" "is_int" st_is_int f fd) (gf : C.mg "is_int" = some (.ref f)) (b : Binds C.K fd ["value", "low", "high"] []) : Has P w C base "is_int" 1 m_is_int := by
  refine fn_has (sv := sv_is_int) Fu sc_is_int gf b (fun cdv A outer s H E hr => ?_)
  have hu0 := hr.units0; have hu64 := hr.units; have hu65 := hu65_of hr
  have tk : Takes (cxOf (L2.CX P w) P w C.K C.mg base ["value", "low", "high"] "is_int" (defScope st_is_int) f cdv A outer s H E) (fun cls d _ H => E cls d H) := takes_of rfl rfl rfl rfl
  exact (psd_one (psd_ret (pd_and (pd_isi B.isinstance B.int' (by decide +kernel) (pd_var 0)) (pd_and (pd_not (pd_isi B.isinstance B.bool' (by decide +kernel) (pd_var 0))) (pd_one (pd_chain (opLe hu0) dLe (opLe hu0) dLe (pd_var 1) (pd_var 0) (pd_var 2)))))))
abbrev st_Index___init__ : Stmt := inClass (topS 25) 0
theorem sc_Index___init__ : FnScope ["self", "size"] ["self", "size"] (defScope st_Index___init__) := ⟨rfl, rfl, rfl, by decide +kernel, rfl, by decide +kernel, by decide +kernel⟩
theorem has_Index___init__ (B : BI C.mg) {t_MOST_BLOCK : Tok} (c_MOST_BLOCK : C.mg "MOST_BLOCK" = some (.int 20 t_MOST_BLOCK)) (x_BadIndex : ExcC' C "BadIndex") (cl_Index : ClsC C "Index" ["size", "blocks", "marks"]) (h_is_int : Has P w C base "is_int" 1 m_is_int)
    {AC f : Addr} {fd : FuncData} (Fu : Fun C.K "__init__" "Index.__init__" st_Index___init__ f fd) (gA : C.mg "Index" = some (.ref AC)) (clx : Cls C.K AC) (me : Mk C.K AC f) (b : Binds C.K fd ["self", "size"] []) : HasI P w C base "Index" 2 m_Index___init__ := by
  refine ⟨AC, f, fd, _, fn_okM (sv := sv_Index___init__) Fu sc_Index___init__ (fun cdv A outer s H E hr => ?_), gA, me, b⟩
  have hu0 := hr.units0; have hu64 := hr.units; have hu65 := hu65_of hr
  have tk : Takes (cxOf (L2.CX P w) P w C.K C.mg base ["self", "size"] "Index.__init__" (defScope st_Index___init__) f cdv A outer s H E) (fun cls d _ H => E cls d H) := takes_of rfl rfl rfl rfl
  exact (psd_cons (psd_if (pb_not (pb_val (pd_call h_is_int hr tk (pad_cons (pd_var 1) (pad_cons pd_int (pad_cons (pd_globI (by rfl) c_MOST_BLOCK) pad_nil)))))) (psd_one (psd_raise rfl tk x_BadIndex)) psd_nil)
    (psd_cons (psd_fldO cl_Index (pd_var 0) (pd_var 1))
    (psd_cons (psd_fldO cl_Index (pd_var 0) (pd_lstC (pad_cons (pd_lst pad_nil) pad_nil)))
    (psd_one (psd_fldO cl_Index (pd_var 0) (pd_lstC pad_nil))))))
abbrev st__law_pick : Stmt := topS 29
theorem sc__law_pick : FnScope ["draws", "choices"] ["draws", "choices"] (defScope st__law_pick) := ⟨rfl, rfl, rfl, by decide +kernel, rfl, by decide +kernel, by decide +kernel⟩
theorem has__law_pick (B : BI C.mg) (h__law_draw : Has P w C base "_law_draw" 1 m__law_draw)
    {f : Addr} {fd : FuncData} (Fu : Fun C.K "_law_pick" "_law_pick" st__law_pick f fd) (gf : C.mg "_law_pick" = some (.ref f)) (b : Binds C.K fd ["draws", "choices"] []) : Has P w C base "_law_pick" 2 m__law_pick := by
  refine fn_has (sv := sv__law_pick) Fu sc__law_pick gf b (fun cdv A outer s H E hr => ?_)
  have hu0 := hr.units0; have hu64 := hr.units; have hu65 := hu65_of hr
  have tk : Takes (cxOf (L2.CX P w) P w C.K C.mg base ["draws", "choices"] "_law_pick" (defScope st__law_pick) f cdv A outer s H E) (fun cls d _ H => E cls d H) := takes_of rfl rfl rfl rfl
  exact (psd_one (psd_ret (pd_ix (pd_var 1) (pd_call h__law_draw hr tk (pad_cons (pd_var 0) (pad_cons (pd_len B.len (pad_cons (pd_var 1) pad_nil)) pad_nil))))))
abbrev st__law_string : Stmt := topS 32
theorem sc__law_string : FnScope ["draws", "length", "k"] ["draws", "length"] (defScope st__law_string) := ⟨rfl, rfl, rfl, by decide +kernel, rfl, by decide +kernel, by decide +kernel⟩
theorem has__law_string (B : BI C.mg) (h__law_draw : Has P w C base "_law_draw" 1 m__law_draw) (h__law_pick : Has P w C base "_law_pick" 2 m__law_pick)
    {f : Addr} {fd : FuncData} (Fu : Fun C.K "_law_string" "_law_string" st__law_string f fd) (gf : C.mg "_law_string" = some (.ref f)) (b : Binds C.K fd ["draws", "length"] []) : Has P w C base "_law_string" 3 m__law_string := by
  refine fn_has (sv := sv__law_string) Fu sc__law_string gf b (fun cdv A outer s H E hr => ?_)
  have hu0 := hr.units0; have hu64 := hr.units; have hu65 := hu65_of hr
  have tk : Takes (cxOf (L2.CX P w) P w C.K C.mg base ["draws", "length", "k"] "_law_string" (defScope st__law_string) f cdv A outer s H E) (fun cls d _ H => E cls d H) := takes_of rfl rfl rfl rfl
  exact (psd_one (psd_ret (pd_tuple B.tuple' (pad_cons (pd_lc (own := [("k", 2)]) [("k", 2)] rfl sc__law_string.nd (pid_range1 B.range (pad_cons (pd_call h__law_draw hr tk (pad_cons (pd_var 0) (pad_cons (pd_op opAdd dAdd (pd_var 1) pd_int) pad_nil))) pad_nil)) (blkOk_by (N := ["draws", "length", "k"]) (sc := defScope st__law_string) (own := [("k", 2)]) (by decide +kernel)) (by decide) (fun _ _ _ _ _ => (pgd_name 2 sc__law_string.nd)) (fun _ _ _ _ _ => ptsd_nil) (fun _ _ _ _ _ => (pd_call h__law_pick hr takes0 (pad_cons (pd_var 0) (pad_cons (pd_lst (pad_cons pd_int (pad_cons pd_int (pad_cons pd_int (pad_cons pd_int (pad_cons pd_int (pad_cons pd_int (pad_cons pd_int (pad_cons pd_int (pad_cons pd_int (pad_cons (pd_call h__law_draw hr takes0 (pad_cons (pd_var 0) (pad_cons pd_int pad_nil))) pad_nil))))))))))) pad_nil))))) pad_nil))))
abbrev st_is_bytes : Stmt := topS 11
theorem sc_is_bytes : FnScope ["value", "byte"] ["value"] (defScope st_is_bytes) := ⟨rfl, rfl, rfl, by decide +kernel, rfl, by decide +kernel, by decide +kernel⟩
theorem has_is_bytes (B : BI C.mg) {t_MOST_LENGTH : Tok} (c_MOST_LENGTH : C.mg "MOST_LENGTH" = some (.int 400 t_MOST_LENGTH)) (h_is_int : Has P w C base "is_int" 1 m_is_int)
    {f : Addr} {fd : FuncData} (Fu : Fun C.K "is_bytes" "is_bytes" st_is_bytes f fd) (gf : C.mg "is_bytes" = some (.ref f)) (b : Binds C.K fd ["value"] []) : Has P w C base "is_bytes" 2 m_is_bytes := by
  refine fn_has (sv := sv_is_bytes) Fu sc_is_bytes gf b (fun cdv A outer s H E hr => ?_)
  have hu0 := hr.units0; have hu64 := hr.units; have hu65 := hu65_of hr
  have tk : Takes (cxOf (L2.CX P w) P w C.K C.mg base ["value", "byte"] "is_bytes" (defScope st_is_bytes) f cdv A outer s H E) (fun cls d _ H => E cls d H) := takes_of rfl rfl rfl rfl
  exact (psd_cons (psd_if (PWD.pb (pw_or' (pb_not (pb_val (pd_isi B.isinstance B.tuple' (by decide +kernel) (pd_var 0)))) (pw_or1' (pb_cmp (opGt hu0) dGt (pd_len B.len (pad_cons (pd_var 0) pad_nil)) (pd_globI (by rfl) c_MOST_LENGTH) (nomark _))))) (psd_one (psd_ret pd_bl)) psd_nil)
    (psd_one (psd_ret (pd_all rfl B.all (pad_cons (pd_lc (own := [("byte", 1)]) [("byte", 1)] rfl sc_is_bytes.nd (pid_seq (pd_var 0)) (blkOk_by (N := ["value", "byte"]) (sc := defScope st_is_bytes) (own := [("byte", 1)]) (by decide +kernel)) (by decide) (fun _ _ _ _ _ => (pgd_name 1 sc_is_bytes.nd)) (fun _ _ _ _ _ => ptsd_nil) (fun _ _ _ _ _ => (pd_call h_is_int hr takes0 (pad_cons (pd_var 1) (pad_cons pd_int (pad_cons pd_int pad_nil)))))) pad_nil)))))
abbrev st_check_bytes : Stmt := topS 12
theorem sc_check_bytes : FnScope ["value"] ["value"] (defScope st_check_bytes) := ⟨rfl, rfl, rfl, by decide +kernel, rfl, by decide +kernel, by decide +kernel⟩
theorem has_check_bytes (B : BI C.mg) (x_BadBytes : ExcC' C "BadBytes") (h_is_bytes : Has P w C base "is_bytes" 2 m_is_bytes)
    {f : Addr} {fd : FuncData} (Fu : Fun C.K "check_bytes" "check_bytes" st_check_bytes f fd) (gf : C.mg "check_bytes" = some (.ref f)) (b : Binds C.K fd ["value"] []) : Has P w C base "check_bytes" 3 m_check_bytes := by
  refine fn_has (sv := sv_check_bytes) Fu sc_check_bytes gf b (fun cdv A outer s H E hr => ?_)
  have hu0 := hr.units0; have hu64 := hr.units; have hu65 := hu65_of hr
  have tk : Takes (cxOf (L2.CX P w) P w C.K C.mg base ["value"] "check_bytes" (defScope st_check_bytes) f cdv A outer s H E) (fun cls d _ H => E cls d H) := takes_of rfl rfl rfl rfl
  exact (psd_one (psd_if (pb_not (pb_val (pd_call h_is_bytes hr tk (pad_cons (pd_var 0) pad_nil)))) (psd_one (psd_raise rfl tk x_BadBytes)) psd_nil))
abbrev st_check_pair : Stmt := topS 14
theorem sc_check_pair : FnScope ["low", "high"] ["low", "high"] (defScope st_check_pair) := ⟨rfl, rfl, rfl, by decide +kernel, rfl, by decide +kernel, by decide +kernel⟩
theorem has_check_pair (B : BI C.mg) (x_BadBytes : ExcC' C "BadBytes") (h_check_bytes : Has P w C base "check_bytes" 3 m_check_bytes)
    {f : Addr} {fd : FuncData} (Fu : Fun C.K "check_pair" "check_pair" st_check_pair f fd) (gf : C.mg "check_pair" = some (.ref f)) (b : Binds C.K fd ["low", "high"] []) : Has P w C base "check_pair" 4 m_check_pair := by
  refine fn_has (sv := sv_check_pair) Fu sc_check_pair gf b (fun cdv A outer s H E hr => ?_)
  have hu0 := hr.units0; have hu64 := hr.units; have hu65 := hu65_of hr
  have tk : Takes (cxOf (L2.CX P w) P w C.K C.mg base ["low", "high"] "check_pair" (defScope st_check_pair) f cdv A outer s H E) (fun cls d _ H => E cls d H) := takes_of rfl rfl rfl rfl
  exact (psd_cons (psd_expr (pd_call h_check_bytes hr tk (pad_cons (pd_var 0) pad_nil)))
    (psd_cons (psd_expr (pd_call h_check_bytes hr tk (pad_cons (pd_var 1) pad_nil)))
    (psd_one (psd_if (pb_not (pb_cmp (opLt hu0) dLt (pd_var 0) (pd_var 1) (nomark _))) (psd_one (psd_raise rfl tk x_BadBytes)) psd_nil))))
abbrev st_common_length : Stmt := topS 13
theorem sc_common_length : FnScope ["first", "second", "count"] ["first", "second"] (defScope st_common_length) := ⟨rfl, rfl, rfl, by decide +kernel, rfl, by decide +kernel, by decide +kernel⟩
theorem has_common_length (B : BI C.mg) 
    {f : Addr} {fd : FuncData} (Fu : Fun C.K "common_length" "common_length" st_common_length f fd) (gf : C.mg "common_length" = some (.ref f)) (b : Binds C.K fd ["first", "second"] []) : Has P w C base "common_length" 1 m_common_length := by
  refine fn_has (sv := sv_common_length) Fu sc_common_length gf b (fun cdv A outer s H E hr => ?_)
  have hu0 := hr.units0; have hu64 := hr.units; have hu65 := hu65_of hr
  have tk : Takes (cxOf (L2.CX P w) P w C.K C.mg base ["first", "second", "count"] "common_length" (defScope st_common_length) f cdv A outer s H E) (fun cls d _ H => E cls d H) := takes_of rfl rfl rfl rfl
  exact (psd_cons (psd_set (i := 2) pd_int sc_common_length.nd)
    (psd_cons (psd_while (passes_of rfl) (PWD.pb (pw_and' (pb_cmp (opLt hu0) dLt (pd_var 2) (pd_len B.len (pad_cons (pd_var 0) pad_nil)) (nomark _)) (pw_and' (pb_cmp (opLt hu0) dLt (pd_var 2) (pd_len B.len (pad_cons (pd_var 1) pad_nil)) (nomark _)) (pw_and1' (pb_cmp (op_eqD hu64) dEq (pd_ix (pd_var 0) (pd_var 2)) (pd_ix (pd_var 1) (pd_var 2)) (nomark _)))))) (psd_one (psd_aug (i := 2) iopAdd dIAdd sc_common_length.nd pd_int)))
    (psd_one (psd_ret (pd_var 2)))))
abbrev st_separator : Stmt := topS 15
theorem sc_separator : FnScope ["low", "high"] ["low", "high"] (defScope st_separator) := ⟨rfl, rfl, rfl, by decide +kernel, rfl, by decide +kernel, by decide +kernel⟩
theorem has_separator (B : BI C.mg) (h_check_pair : Has P w C base "check_pair" 4 m_check_pair) (h_common_length : Has P w C base "common_length" 1 m_common_length)
    {f : Addr} {fd : FuncData} (Fu : Fun C.K "separator" "separator" st_separator f fd) (gf : C.mg "separator" = some (.ref f)) (b : Binds C.K fd ["low", "high"] []) : Has P w C base "separator" 5 m_separator := by
  refine fn_has (sv := sv_separator) Fu sc_separator gf b (fun cdv A outer s H E hr => ?_)
  have hu0 := hr.units0; have hu64 := hr.units; have hu65 := hu65_of hr
  have tk : Takes (cxOf (L2.CX P w) P w C.K C.mg base ["low", "high"] "separator" (defScope st_separator) f cdv A outer s H E) (fun cls d _ H => E cls d H) := takes_of rfl rfl rfl rfl
  exact (psd_cons (psd_expr (pd_call h_check_pair hr tk (pad_cons (pd_var 0) (pad_cons (pd_var 1) pad_nil))))
    (psd_one (psd_ret (pd_slice (pd_var 1) pod_none (pod_some (pd_op opAdd dAdd (pd_call h_common_length hr tk (pad_cons (pd_var 0) (pad_cons (pd_var 1) pad_nil))) pd_int))))))
abbrev st__law_inserted : Stmt := topS 34
theorem sc__law_inserted : FnScope ["blocks", "marks", "size", "key", "at", "block", "half", "mark"] ["blocks", "marks", "size", "key"] (defScope st__law_inserted) := ⟨rfl, rfl, rfl, by decide +kernel, rfl, by decide +kernel, by decide +kernel⟩
theorem has__law_inserted (B : BI C.mg) (h_separator : Has P w C base "separator" 5 m_separator)
    {f : Addr} {fd : FuncData} (Fu : Fun C.K "_law_inserted" "_law_inserted" st__law_inserted f fd) (gf : C.mg "_law_inserted" = some (.ref f)) (b : Binds C.K fd ["blocks", "marks", "size", "key"] []) : Has P w C base "_law_inserted" 6 m__law_inserted := by
  refine fn_has (sv := sv__law_inserted) Fu sc__law_inserted gf b (fun cdv A outer s H E hr => ?_)
  have hu0 := hr.units0; have hu64 := hr.units; have hu65 := hu65_of hr
  have tk : Takes (cxOf (L2.CX P w) P w C.K C.mg base ["blocks", "marks", "size", "key", "at", "block", "half", "mark"] "_law_inserted" (defScope st__law_inserted) f cdv A outer s H E) (fun cls d _ H => E cls d H) := takes_of rfl rfl rfl rfl
  exact (psd_cons (psd_set (i := 4) (pd_len B.len (pad_cons (pd_lc (own := [("mark", 7)]) [("mark", 7)] rfl sc__law_inserted.nd (pid_seq (pd_var 1)) (blkOk_by (N := ["blocks", "marks", "size", "key", "at", "block", "half", "mark"]) (sc := defScope st__law_inserted) (own := [("mark", 7)]) (by decide +kernel)) (by decide) (fun _ _ _ _ _ => (pgd_name 7 sc__law_inserted.nd)) (fun _ _ _ _ _ => (ptsd_one (pb_cmp (opLe hu0) dLe (pd_var 7) (pd_var 3) (nomark _)))) (fun _ _ _ _ _ => (pd_var 7))) pad_nil)) sc__law_inserted.nd)
    (psd_cons (psd_set (i := 5) (pd_sorted B.sorted hu65 (pad_cons (pd_op opAdd dAdd (pd_ix (pd_var 0) (pd_var 4)) (pd_lst (pad_cons (pd_var 3) pad_nil))) pad_nil)) sc__law_inserted.nd)
    (psd_cons (psd_if (pb_cmp (opLe hu0) dLe (pd_len B.len (pad_cons (pd_var 5) pad_nil)) (pd_var 2) (nomark _)) (psd_one (psd_ret (pd_tup (pad_cons (pd_op opAdd dAdd (pd_op opAdd dAdd (pd_slice (pd_var 0) pod_none (pod_some (pd_var 4))) (pd_lst (pad_cons (pd_var 5) pad_nil))) (pd_slice (pd_var 0) (pod_some (pd_op opAdd dAdd (pd_var 4) pd_int)) pod_none)) (pad_cons (pd_var 1) pad_nil))))) psd_nil)
    (psd_cons (psd_set (i := 6) (pd_op op_fdivW dFdiv (pd_len B.len (pad_cons (pd_var 5) pad_nil)) pd_int) sc__law_inserted.nd)
    (psd_cons (psd_set (i := 7) (pd_call h_separator hr tk (pad_cons (pd_ix (pd_var 5) (pd_op op_sub dSub (pd_var 6) pd_int)) (pad_cons (pd_ix (pd_var 5) (pd_var 6)) pad_nil))) sc__law_inserted.nd)
    (psd_one (psd_ret (pd_tup (pad_cons (pd_op opAdd dAdd (pd_op opAdd dAdd (pd_slice (pd_var 0) pod_none (pod_some (pd_var 4))) (pd_lst (pad_cons (pd_slice (pd_var 5) pod_none (pod_some (pd_var 6))) (pad_cons (pd_slice (pd_var 5) (pod_some (pd_var 6)) pod_none) pad_nil)))) (pd_slice (pd_var 0) (pod_some (pd_op opAdd dAdd (pd_var 4) pd_int)) pod_none)) (pad_cons (pd_op opAdd dAdd (pd_op opAdd dAdd (pd_slice (pd_var 1) pod_none (pod_some (pd_var 4))) (pd_lst (pad_cons (pd_var 7) pad_nil))) (pd_slice (pd_var 1) (pod_some (pd_var 4)) pod_none)) pad_nil))))))))))
abbrev st_place_of : Stmt := topS 22
theorem sc_place_of : FnScope ["marks", "key", "low", "high", "middle"] ["marks", "key"] (defScope st_place_of) := ⟨rfl, rfl, rfl, by decide +kernel, rfl, by decide +kernel, by decide +kernel⟩
theorem has_place_of (B : BI C.mg) 
    {f : Addr} {fd : FuncData} (Fu : Fun C.K "place_of" "place_of" st_place_of f fd) (gf : C.mg "place_of" = some (.ref f)) (b : Binds C.K fd ["marks", "key"] []) : Has P w C base "place_of" 1 m_place_of := by
  refine fn_has (sv := sv_place_of) Fu sc_place_of gf b (fun cdv A outer s H E hr => ?_)
  have hu0 := hr.units0; have hu64 := hr.units; have hu65 := hu65_of hr
  have tk : Takes (cxOf (L2.CX P w) P w C.K C.mg base ["marks", "key", "low", "high", "middle"] "place_of" (defScope st_place_of) f cdv A outer s H E) (fun cls d _ H => E cls d H) := takes_of rfl rfl rfl rfl
  exact (psd_cons (psd_par (i := 2) (j := 3) rfl sc_place_of.nd (pad_cons pd_int (pad_cons (pd_len B.len (pad_cons (pd_var 0) pad_nil)) pad_nil)))
    (psd_cons (psd_while (passes_of rfl) (pb_cmp (opLt hu0) dLt (pd_var 2) (pd_var 3) (nomark _)) (psd_cons (psd_set (i := 4) (pd_op op_fdivW dFdiv (pd_op opAdd dAdd (pd_var 2) (pd_var 3)) pd_int) sc_place_of.nd)
    (psd_one (psd_if (pb_cmp (opLe hu0) dLe (pd_ix (pd_var 0) (pd_var 4)) (pd_var 1) (nomark _)) (psd_one (psd_set (i := 2) (pd_op opAdd dAdd (pd_var 4) pd_int) sc_place_of.nd)) (psd_one (psd_set (i := 3) (pd_var 4) sc_place_of.nd))))))
    (psd_one (psd_ret (pd_var 2)))))
abbrev st_Index_insert : Stmt := inClass (topS 25) 1
theorem sc_Index_insert : FnScope ["self", "key", "at", "block", "half"] ["self", "key"] (defScope st_Index_insert) := ⟨rfl, rfl, rfl, by decide +kernel, rfl, by decide +kernel, by decide +kernel⟩
theorem has_Index_insert (B : BI C.mg) (cl_Index : ClsC C "Index" ["size", "blocks", "marks"]) (x_BadIndex : ExcC' C "BadIndex") (h_check_bytes : Has P w C base "check_bytes" 3 m_check_bytes) (h_place_of : Has P w C base "place_of" 1 m_place_of) (h_separator : Has P w C base "separator" 5 m_separator)
    {AC f : Addr} {fd : FuncData} (Fu : Fun C.K "insert" "Index.insert" st_Index_insert f fd) (gA : C.mg "Index" = some (.ref AC)) (clx : Cls C.K AC) (me : Meth C.K AC "insert" f) (b : Binds C.K fd ["self", "key"] []) : HasM P w C base "Index" "insert" 6 m_Index_insert := by
  refine ⟨AC, f, fd, _, fn_okM (sv := sv_Index_insert) Fu sc_Index_insert (fun cdv A outer s H E hr => ?_), gA, clx, me, b⟩
  have hu0 := hr.units0; have hu64 := hr.units; have hu65 := hu65_of hr
  have tk : Takes (cxOf (L2.CX P w) P w C.K C.mg base ["self", "key", "at", "block", "half"] "Index.insert" (defScope st_Index_insert) f cdv A outer s H E) (fun cls d _ H => E cls d H) := takes_of rfl rfl rfl rfl
  exact (psd_cons (psd_expr (pd_call h_check_bytes hr tk (pad_cons (pd_var 1) pad_nil)))
    (psd_cons (psd_set (i := 2) (pd_call h_place_of hr tk (pad_cons (pd_fldO cl_Index (pd_var 0)) (pad_cons (pd_var 1) pad_nil))) sc_Index_insert.nd)
    (psd_cons (psd_set (i := 3) (pd_ix (pd_fldO cl_Index (pd_var 0)) (pd_var 2)) sc_Index_insert.nd)
    (psd_cons (psd_if (pb_cmp (opIn hu65) dIn (pd_var 1) (pd_var 3) (by rfl)) (psd_one (psd_raise rfl tk x_BadIndex)) psd_nil)
    (psd_cons (psd_set (i := 3) (pd_sorted B.sorted hu65 (pad_cons (pd_op opAdd dAdd (pd_var 3) (pd_lst (pad_cons (pd_var 1) pad_nil))) pad_nil)) sc_Index_insert.nd)
    (psd_cons (psd_sub (pd_fldO cl_Index (pd_var 0)) (pd_var 2) (pd_var 3))
    (psd_cons (psd_if (pb_cmp (opGt hu0) dGt (pd_len B.len (pad_cons (pd_var 3) pad_nil)) (pd_fldO cl_Index (pd_var 0)) (nomark _)) (psd_cons (psd_set (i := 4) (pd_op op_fdivW dFdiv (pd_len B.len (pad_cons (pd_var 3) pad_nil)) pd_int) sc_Index_insert.nd)
    (psd_cons (psd_sub (pd_fldO cl_Index (pd_var 0)) (pd_var 2) (pd_slice (pd_var 3) pod_none (pod_some (pd_var 4))))
    (psd_cons (psd_expr (pd_insert (pd_fldO cl_Index (pd_var 0)) (pad_cons (pd_op opAdd dAdd (pd_var 2) pd_int) (pad_cons (pd_slice (pd_var 3) (pod_some (pd_var 4)) pod_none) pad_nil))))
    (psd_one (psd_expr (pd_insert (pd_fldO cl_Index (pd_var 0)) (pad_cons (pd_var 2) (pad_cons (pd_call h_separator hr tk (pad_cons (pd_ix (pd_var 3) (pd_op op_sub dSub (pd_var 4) pd_int)) (pad_cons (pd_ix (pd_var 3) (pd_var 4)) pad_nil))) pad_nil)))))))) psd_nil)
    (psd_one (psd_ret (pd_call h_place_of hr tk (pad_cons (pd_fldO cl_Index (pd_var 0)) (pad_cons (pd_var 1) pad_nil))))))))))))
abbrev st_Index_remove : Stmt := inClass (topS 25) 2
theorem sc_Index_remove : FnScope ["self", "key", "at", "one"] ["self", "key"] (defScope st_Index_remove) := ⟨rfl, rfl, rfl, by decide +kernel, rfl, by decide +kernel, by decide +kernel⟩
theorem has_Index_remove (B : BI C.mg) (cl_Index : ClsC C "Index" ["size", "blocks", "marks"]) (x_NotFound : ExcC' C "NotFound") (h_check_bytes : Has P w C base "check_bytes" 3 m_check_bytes) (h_place_of : Has P w C base "place_of" 1 m_place_of)
    {AC f : Addr} {fd : FuncData} (Fu : Fun C.K "remove" "Index.remove" st_Index_remove f fd) (gA : C.mg "Index" = some (.ref AC)) (clx : Cls C.K AC) (me : Meth C.K AC "remove" f) (b : Binds C.K fd ["self", "key"] []) : HasM P w C base "Index" "remove" 4 m_Index_remove_k14 := by
  refine ⟨AC, f, fd, _, fn_okM (sv := sv_Index_remove_k14) Fu sc_Index_remove (fun cdv A outer s H E hr => ?_), gA, clx, me, b⟩
  have hu0 := hr.units0; have hu64 := hr.units; have hu65 := hu65_of hr
  have tk : Takes (cxOf (L2.CX P w) P w C.K C.mg base ["self", "key", "at", "one"] "Index.remove" (defScope st_Index_remove) f cdv A outer s H E) (fun cls d _ H => E cls d H) := takes_of rfl rfl rfl rfl
  exact (psd_cons (psd_expr (pd_call h_check_bytes hr tk (pad_cons (pd_var 1) pad_nil)))
    (psd_cons (psd_set (i := 2) (pd_call h_place_of hr tk (pad_cons (pd_fldO cl_Index (pd_var 0)) (pad_cons (pd_var 1) pad_nil))) sc_Index_remove.nd)
    (psd_cons (psd_if (pb_cmp (opNotIn hu65) dNotIn (pd_var 1) (pd_ix (pd_fldO cl_Index (pd_var 0)) (pd_var 2)) (by rfl)) (psd_one (psd_raise rfl tk x_NotFound)) psd_nil)
    (psd_cons (psd_sub (pd_fldO cl_Index (pd_var 0)) (pd_var 2) (pd_lc (own := [("one", 3)]) [("one", 3)] rfl sc_Index_remove.nd (pid_seq (pd_ix (pd_fldO cl_Index (pd_var 0)) (pd_var 2))) (blkOk_by (N := ["self", "key", "at", "one"]) (sc := defScope st_Index_remove) (own := [("one", 3)]) (by decide +kernel)) (by decide) (fun _ _ _ _ _ => (pgd_name 3 sc_Index_remove.nd)) (fun _ _ _ _ _ => (ptsd_one (pb_cmp (op_neD hu64) dNe (pd_var 3) (pd_var 1) (nomark _)))) (fun _ _ _ _ _ => (pd_var 3))))
    (psd_one (psd_if (PWD.pb (pw_and' (pb_cmp (op_eqD hu64) dEq (pd_ix (pd_fldO cl_Index (pd_var 0)) (pd_var 2)) (pd_lst pad_nil) (nomark _)) (pw_and1' (pb_cmp (opGt hu0) dGt (pd_len B.len (pad_cons (pd_fldO cl_Index (pd_var 0)) pad_nil)) pd_int (nomark _))))) (psd_cons (psd_expr (pd_pop (pd_fldO cl_Index (pd_var 0)) (pad_cons (pd_var 2) pad_nil)))
    (psd_one (psd_expr (pd_pop (pd_fldO cl_Index (pd_var 0)) (pad_cons (pd_max rfl B.max hu65 (pad_cons (pd_op op_sub dSub (pd_var 2) pd_int) (pad_cons pd_int pad_nil))) pad_nil))))) psd_nil))))))
abbrev st__law_error : Stmt := topS 30
theorem sc__law_error : FnScope ["caught", "kinds"] ["caught"] (defScope st__law_error) := ⟨rfl, rfl, rfl, by decide +kernel, rfl, by decide +kernel, by decide +kernel⟩
theorem has__law_error (B : BI C.mg) {CT_BadRow : Addr} (ct_BadRow : C.mg "BadRow" = some (.ref CT_BadRow)) (xi_BadRow : XIs C "BadRow" (.ref CT_BadRow)) {CT_BadScheme : Addr} (ct_BadScheme : C.mg "BadScheme" = some (.ref CT_BadScheme)) (xi_BadScheme : XIs C "BadScheme" (.ref CT_BadScheme)) {CT_BadBytes : Addr} (ct_BadBytes : C.mg "BadBytes" = some (.ref CT_BadBytes)) (xi_BadBytes : XIs C "BadBytes" (.ref CT_BadBytes)) {CT_NotFound : Addr} (ct_NotFound : C.mg "NotFound" = some (.ref CT_NotFound)) (xi_NotFound : XIs C "NotFound" (.ref CT_NotFound)) {CT_BadText : Addr} (ct_BadText : C.mg "BadText" = some (.ref CT_BadText)) (xi_BadText : XIs C "BadText" (.ref CT_BadText)) {CT_BadIndex : Addr} (ct_BadIndex : C.mg "BadIndex" = some (.ref CT_BadIndex)) (xi_BadIndex : XIs C "BadIndex" (.ref CT_BadIndex)) {CT_KeyBytesError : Addr} (ct_KeyBytesError : C.mg "KeyBytesError" = some (.ref CT_KeyBytesError)) (xi_KeyBytesError : XIs C "KeyBytesError" (.ref CT_KeyBytesError)) (vn_ValueError : C.mg "ValueError" = none) (xi_ValueError : XIs C "ValueError" (.ty "ValueError"))
    {f : Addr} {fd : FuncData} (Fu : Fun C.K "_law_error" "_law_error" st__law_error f fd) (gf : C.mg "_law_error" = some (.ref f)) (b : Binds C.K fd ["caught"] []) : Has P w C base "_law_error" 1 m__law_error := by
  refine fn_has (sv := sv__law_error) Fu sc__law_error gf b (fun cdv A outer s H E hr => ?_)
  have hu0 := hr.units0; have hu64 := hr.units; have hu65 := hu65_of hr
  have tk : Takes (cxOf (L2.CX P w) P w C.K C.mg base ["caught", "kinds"] "_law_error" (defScope st__law_error) f cdv A outer s H E) (fun cls d _ H => E cls d H) := takes_of rfl rfl rfl rfl
  exact (psd_cons (psd_set (i := 1) (pd_lst (pad_cons (pd_isX B.isinstance ct_BadBytes xi_BadBytes (pd_var 0)) (pad_cons (pd_isX B.isinstance ct_BadScheme xi_BadScheme (pd_var 0)) (pad_cons (pd_isX B.isinstance ct_BadRow xi_BadRow (pd_var 0)) pad_nil)))) sc__law_error.nd)
    (psd_cons (psd_set (i := 1) (pd_op opAdd dAdd (pd_var 1) (pd_lst (pad_cons (pd_isX B.isinstance ct_BadIndex xi_BadIndex (pd_var 0)) (pad_cons (pd_isX B.isinstance ct_BadText xi_BadText (pd_var 0)) (pad_cons (pd_isX B.isinstance ct_NotFound xi_NotFound (pd_var 0)) pad_nil))))) sc__law_error.nd)
    (psd_cons (psd_if (PWD.pb (pw_or' (pb_cmp (op_neD hu64) dNe (pd_count (pd_var 1) (pad_cons pd_bl pad_nil)) pd_int (nomark _)) (pw_or' (pb_not (pb_val (pd_isX B.isinstance ct_KeyBytesError xi_KeyBytesError (pd_var 0)))) (pw_or1' (pb_not (pb_val (pd_isXb B.isinstance vn_ValueError (by decide +kernel) xi_ValueError (pd_var 0)))))))) (psd_one (psd_ret pd_str)) psd_nil)
    (psd_one (psd_ret (pd_ix (pd_lst (pad_cons pd_str (pad_cons pd_str (pad_cons pd_str (pad_cons pd_str (pad_cons pd_str (pad_cons pd_str pad_nil))))))) (pd_index (pd_var 1) (pad_cons pd_bl pad_nil))))))))
abbrev st__law_change : Stmt := topS 33
theorem sc__law_change : FnScope ["shown", "kind", "key", "found", "caught", "e"] ["shown", "kind", "key"] (defScope st__law_change) := ⟨rfl, rfl, rfl, by decide +kernel, rfl, by decide +kernel, by decide +kernel⟩
theorem has__law_change (B : BI C.mg) (xm_KeyBytesError : Exm C "KeyBytesError" xcls) (h_Index_insert : HasM P w C base "Index" "insert" 6 m_Index_insert) (h_Index_remove : HasM P w C base "Index" "remove" 4 m_Index_remove_k14) (h__law_error : Has P w C base "_law_error" 1 m__law_error)
    {f : Addr} {fd : FuncData} (Fu : Fun C.K "_law_change" "_law_change" st__law_change f fd) (gf : C.mg "_law_change" = some (.ref f)) (b : Binds C.K fd ["shown", "kind", "key"] []) : Has P w C base "_law_change" 7 m__law_change_k14 := by
  refine fn_has (sv := sv__law_change_k14) Fu sc__law_change gf b (fun cdv A outer s H E hr => ?_)
  have hu0 := hr.units0; have hu64 := hr.units; have hu65 := hu65_of hr
  have tk : Takes (cxOf (L2.CX P w) P w C.K C.mg base ["shown", "kind", "key", "found", "caught", "e"] "_law_change" (defScope st__law_change) f cdv A outer s H E) (fun cls d _ H => E cls d H) := takes_of rfl rfl rfl rfl
  exact (psd_cons (psd_set (i := 3) pd_non sc__law_change.nd)
    (psd_cons (psd_set (i := 4) pd_non sc__law_change.nd)
    (psd_cons (psd_try (i := 5) (j := 4) sc__law_change.nd xm_KeyBytesError (fun W' pn xe tk => (psd_one (psd_set (i := 3) (pd_if (pb_cmp (op_eqD hu64) dEq (pd_var 1) pd_int (nomark _)) (pd_methO h_Index_insert hr tk (pd_var 0) (pad_cons (pd_var 2) pad_nil)) (pd_methO h_Index_remove hr tk (pd_var 0) (pad_cons (pd_var 2) pad_nil))) sc__law_change.nd))))
    (psd_one (psd_ret (pd_if (pb_cmp opIs dIs (pd_var 4) pd_non (nomark _)) (pd_var 3) (pd_call h__law_error hr tk (pad_cons (pd_var 4) pad_nil))))))))
abbrev st__law_removed : Stmt := topS 35
theorem sc__law_removed : FnScope ["blocks", "marks", "key", "at", "block", "gone", "one", "mark"] ["blocks", "marks", "key"] (defScope st__law_removed) := ⟨rfl, rfl, rfl, by decide +kernel, rfl, by decide +kernel, by decide +kernel⟩
theorem has__law_removed (B : BI C.mg) 
    {f : Addr} {fd : FuncData} (Fu : Fun C.K "_law_removed" "_law_removed" st__law_removed f fd) (gf : C.mg "_law_removed" = some (.ref f)) (b : Binds C.K fd ["blocks", "marks", "key"] []) : Has P w C base "_law_removed" 1 m__law_removed := by
  refine fn_has (sv := sv__law_removed) Fu sc__law_removed gf b (fun cdv A outer s H E hr => ?_)
  have hu0 := hr.units0; have hu64 := hr.units; have hu65 := hu65_of hr
  have tk : Takes (cxOf (L2.CX P w) P w C.K C.mg base ["blocks", "marks", "key", "at", "block", "gone", "one", "mark"] "_law_removed" (defScope st__law_removed) f cdv A outer s H E) (fun cls d _ H => E cls d H) := takes_of rfl rfl rfl rfl
  exact (psd_cons (psd_set (i := 3) (pd_len B.len (pad_cons (pd_lc (own := [("mark", 7)]) [("mark", 7)] rfl sc__law_removed.nd (pid_seq (pd_var 1)) (blkOk_by (N := ["blocks", "marks", "key", "at", "block", "gone", "one", "mark"]) (sc := defScope st__law_removed) (own := [("mark", 7)]) (by decide +kernel)) (by decide) (fun _ _ _ _ _ => (pgd_name 7 sc__law_removed.nd)) (fun _ _ _ _ _ => (ptsd_one (pb_cmp (opLe hu0) dLe (pd_var 7) (pd_var 2) (nomark _)))) (fun _ _ _ _ _ => (pd_var 7))) pad_nil)) sc__law_removed.nd)
    (psd_cons (psd_setLc (i := 4) (own := [("one", 6)]) fLst' (.inl rfl) rfl sc__law_removed.nd (pid_seq (pd_ix (pd_var 0) (pd_var 3))) (blkOk_by (N := ["blocks", "marks", "key", "at", "block", "gone", "one", "mark"]) (sc := defScope st__law_removed) (own := [("one", 6)]) (by decide +kernel)) (by decide) (sw_true rfl rfl rfl (by decide +kernel)) (fun _ _ _ _ _ => (pgd_name 6 sc__law_removed.nd)) (fun _ _ _ _ _ => (ptsd_one (pb_cmp (op_neD hu64) dNe (pd_var 6) (pd_var 2) (nomark _)))) (fun _ _ _ _ _ => (pd_var 6)))
    (psd_cons (psd_if (PWD.pb (pw_and' (pb_cmp (op_eqD hu64) dEq (pd_var 4) (pd_lst pad_nil) (nomark _)) (pw_and1' (pb_cmp (opGt hu0) dGt (pd_len B.len (pad_cons (pd_var 0) pad_nil)) pd_int (nomark _))))) (psd_cons (psd_set (i := 5) (pd_max rfl B.max hu65 (pad_cons (pd_op op_sub dSub (pd_var 3) pd_int) (pad_cons pd_int pad_nil))) sc__law_removed.nd)
    (psd_one (psd_ret (pd_tup (pad_cons (pd_op opAdd dAdd (pd_slice (pd_var 0) pod_none (pod_some (pd_var 3))) (pd_slice (pd_var 0) (pod_some (pd_op opAdd dAdd (pd_var 3) pd_int)) pod_none)) (pad_cons (pd_op opAdd dAdd (pd_slice (pd_var 1) pod_none (pod_some (pd_var 5))) (pd_slice (pd_var 1) (pod_some (pd_op opAdd dAdd (pd_var 5) pd_int)) pod_none)) pad_nil)))))) psd_nil)
    (psd_one (psd_ret (pd_tup (pad_cons (pd_op opAdd dAdd (pd_op opAdd dAdd (pd_slice (pd_var 0) pod_none (pod_some (pd_var 3))) (pd_lst (pad_cons (pd_var 4) pad_nil))) (pd_slice (pd_var 0) (pod_some (pd_op opAdd dAdd (pd_var 3) pd_int)) pod_none)) (pad_cons (pd_var 1) pad_nil))))))))
abbrev st_Index_layout : Stmt := inClass (topS 25) 5
theorem sc_Index_layout : FnScope ["self", "block"] ["self"] (defScope st_Index_layout) := ⟨rfl, rfl, rfl, by decide +kernel, rfl, by decide +kernel, by decide +kernel⟩
theorem has_Index_layout (B : BI C.mg) (cl_Index : ClsC C "Index" ["size", "blocks", "marks"])
    {AC f : Addr} {fd : FuncData} (Fu : Fun C.K "layout" "Index.layout" st_Index_layout f fd) (gA : C.mg "Index" = some (.ref AC)) (clx : Cls C.K AC) (me : Meth C.K AC "layout" f) (b : Binds C.K fd ["self"] []) : HasM P w C base "Index" "layout" 1 m_Index_layout_k14 := by
  refine ⟨AC, f, fd, _, fn_okM (sv := sv_Index_layout_k14) Fu sc_Index_layout (fun cdv A outer s H E hr => ?_), gA, clx, me, b⟩
  have hu0 := hr.units0; have hu64 := hr.units; have hu65 := hu65_of hr
  have tk : Takes (cxOf (L2.CX P w) P w C.K C.mg base ["self", "block"] "Index.layout" (defScope st_Index_layout) f cdv A outer s H E) (fun cls d _ H => E cls d H) := takes_of rfl rfl rfl rfl
  exact (psd_one (psd_ret (pd_lc (own := [("block", 1)]) [("block", 1)] rfl sc_Index_layout.nd (pid_seq (pd_fldO cl_Index (pd_var 0))) (blkOk_by (N := ["self", "block"]) (sc := defScope st_Index_layout) (own := [("block", 1)]) (by decide +kernel)) (by decide) (fun _ _ _ _ _ => (pgd_name 1 sc_Index_layout.nd)) (fun _ _ _ _ _ => ptsd_nil) (fun _ _ _ _ _ => (pd_list B.list' (pad_cons (pd_var 1) pad_nil))))))
abbrev st_Index_separators : Stmt := inClass (topS 25) 6
theorem sc_Index_separators : FnScope ["self"] ["self"] (defScope st_Index_separators) := ⟨rfl, rfl, rfl, by decide +kernel, rfl, by decide +kernel, by decide +kernel⟩
theorem has_Index_separators (B : BI C.mg) (cl_Index : ClsC C "Index" ["size", "blocks", "marks"])
    {AC f : Addr} {fd : FuncData} (Fu : Fun C.K "separators" "Index.separators" st_Index_separators f fd) (gA : C.mg "Index" = some (.ref AC)) (clx : Cls C.K AC) (me : Meth C.K AC "separators" f) (b : Binds C.K fd ["self"] []) : HasM P w C base "Index" "separators" 1 m_Index_separators_k14 := by
  refine ⟨AC, f, fd, _, fn_okM (sv := sv_Index_separators_k14) Fu sc_Index_separators (fun cdv A outer s H E hr => ?_), gA, clx, me, b⟩
  have hu0 := hr.units0; have hu64 := hr.units; have hu65 := hu65_of hr
  have tk : Takes (cxOf (L2.CX P w) P w C.K C.mg base ["self"] "Index.separators" (defScope st_Index_separators) f cdv A outer s H E) (fun cls d _ H => E cls d H) := takes_of rfl rfl rfl rfl
  exact (psd_one (psd_ret (pd_list B.list' (pad_cons (pd_fldO cl_Index (pd_var 0)) pad_nil))))
abbrev st_Index___len__ : Stmt := inClass (topS 25) 7
theorem sc_Index___len__ : FnScope ["self", "block", "key"] ["self"] (defScope st_Index___len__) := ⟨rfl, rfl, rfl, by decide +kernel, rfl, by decide +kernel, by decide +kernel⟩
theorem has_Index___len__ (B : BI C.mg) (cl_Index : ClsC C "Index" ["size", "blocks", "marks"])
    {AC f : Addr} {fd : FuncData} (Fu : Fun C.K "__len__" "Index.__len__" st_Index___len__ f fd) (gA : C.mg "Index" = some (.ref AC)) (clx : Cls C.K AC) (me : Meth C.K AC "__len__" f) (b : Binds C.K fd ["self"] []) : HasM P w C base "Index" "__len__" 1 m_Index___len__ := by
  refine ⟨AC, f, fd, _, fn_okM (sv := sv_Index___len__) Fu sc_Index___len__ (fun cdv A outer s H E hr => ?_), gA, clx, me, b⟩
  have hu0 := hr.units0; have hu64 := hr.units; have hu65 := hu65_of hr
  have tk : Takes (cxOf (L2.CX P w) P w C.K C.mg base ["self", "block", "key"] "Index.__len__" (defScope st_Index___len__) f cdv A outer s H E) (fun cls d _ H => E cls d H) := takes_of rfl rfl rfl rfl
  exact (psd_one (psd_ret (pd_len B.len (pad_cons (pd_lc2 [("block", 1), ("key", 2)] [2] rfl sc_Index___len__.nd (pid_seq (pd_fldO cl_Index (pd_var 0))) (blkOk_by (N := ["self", "block", "key"]) (sc := defScope st_Index___len__) (own := [("block", 1), ("key", 2)]) (by decide +kernel)) (by decide) (by decide) (by decide) (fun _ _ _ _ _ => (pgd_name 1 sc_Index___len__.nd)) (fun _ _ _ _ _ => (pid_seq (pd_var 1))) (fun _ _ _ _ _ => (pgd_name 2 sc_Index___len__.nd)) (fun _ _ _ _ _ => ptsd_nil) (fun _ _ _ _ _ => (pd_var 2))) pad_nil))))
abbrev st_check_keys : Stmt := topS 20
theorem sc_check_keys : FnScope ["keys", "k", "key"] ["keys"] (defScope st_check_keys) := ⟨rfl, rfl, rfl, by decide +kernel, rfl, by decide +kernel, by decide +kernel⟩
theorem has_check_keys (B : BI C.mg) {t_MOST_KEYS : Tok} (c_MOST_KEYS : C.mg "MOST_KEYS" = some (.int 200 t_MOST_KEYS)) (x_BadIndex : ExcC' C "BadIndex") (h_is_bytes : Has P w C base "is_bytes" 2 m_is_bytes)
    {f : Addr} {fd : FuncData} (Fu : Fun C.K "check_keys" "check_keys" st_check_keys f fd) (gf : C.mg "check_keys" = some (.ref f)) (b : Binds C.K fd ["keys"] []) : Has P w C base "check_keys" 3 m_check_keys := by
  refine fn_has (sv := sv_check_keys) Fu sc_check_keys gf b (fun cdv A outer s H E hr => ?_)
  have hu0 := hr.units0; have hu64 := hr.units; have hu65 := hu65_of hr
  have tk : Takes (cxOf (L2.CX P w) P w C.K C.mg base ["keys", "k", "key"] "check_keys" (defScope st_check_keys) f cdv A outer s H E) (fun cls d _ H => E cls d H) := takes_of rfl rfl rfl rfl
  exact (psd_cons (psd_if (PWD.pb (pw_or' (pb_not (pb_val (pd_isi B.isinstance B.list' (by decide +kernel) (pd_var 0)))) (pw_or' (pb_cmp (opGt hu0) dGt (pd_len B.len (pad_cons (pd_var 0) pad_nil)) (pd_globI (by rfl) c_MOST_KEYS) (nomark _)) (pw_or1' (pb_not (pb_val (pd_all rfl B.all (pad_cons (pd_lc (own := [("key", 2)]) [("key", 2)] rfl sc_check_keys.nd (pid_seq (pd_var 0)) (blkOk_by (N := ["keys", "k", "key"]) (sc := defScope st_check_keys) (own := [("key", 2)]) (by decide +kernel)) (by decide) (fun _ _ _ _ _ => (pgd_name 2 sc_check_keys.nd)) (fun _ _ _ _ _ => ptsd_nil) (fun _ _ _ _ _ => (pd_call h_is_bytes hr takes0 (pad_cons (pd_var 2) pad_nil)))) pad_nil)))))))) (psd_one (psd_raise rfl tk x_BadIndex)) psd_nil)
    (psd_one (psd_if (pb_not (pb_val (pd_all rfl B.all (pad_cons (pd_lc (own := [("k", 1)]) [("k", 1)] rfl sc_check_keys.nd (pid_range1 B.range (pad_cons (pd_op op_sub dSub (pd_len B.len (pad_cons (pd_var 0) pad_nil)) pd_int) pad_nil)) (blkOk_by (N := ["keys", "k", "key"]) (sc := defScope st_check_keys) (own := [("k", 1)]) (by decide +kernel)) (by decide) (fun _ _ _ _ _ => (pgd_name 1 sc_check_keys.nd)) (fun _ _ _ _ _ => ptsd_nil) (fun _ _ _ _ _ => (pd_cmp (opLt hu0) dLt (pd_ix (pd_var 0) (pd_var 1)) (pd_ix (pd_var 0) (pd_op opAdd dAdd (pd_var 1) pd_int)) (nomark _)))) pad_nil)))) (psd_one (psd_raise rfl tk x_BadIndex)) psd_nil)))
abbrev st_route : Stmt := topS 21
theorem sc_route : FnScope ["marks", "key"] ["marks", "key"] (defScope st_route) := ⟨rfl, rfl, rfl, by decide +kernel, rfl, by decide +kernel, by decide +kernel⟩
theorem has_route (B : BI C.mg) (h_check_keys : Has P w C base "check_keys" 3 m_check_keys) (h_check_bytes : Has P w C base "check_bytes" 3 m_check_bytes) (h_place_of : Has P w C base "place_of" 1 m_place_of)
    {f : Addr} {fd : FuncData} (Fu : Fun C.K "route" "route" st_route f fd) (gf : C.mg "route" = some (.ref f)) (b : Binds C.K fd ["marks", "key"] []) : Has P w C base "route" 4 m_route := by
  refine fn_has (sv := sv_route) Fu sc_route gf b (fun cdv A outer s H E hr => ?_)
  have hu0 := hr.units0; have hu64 := hr.units; have hu65 := hu65_of hr
  have tk : Takes (cxOf (L2.CX P w) P w C.K C.mg base ["marks", "key"] "route" (defScope st_route) f cdv A outer s H E) (fun cls d _ H => E cls d H) := takes_of rfl rfl rfl rfl
  exact (psd_cons (psd_expr (pd_call h_check_keys hr tk (pad_cons (pd_var 0) pad_nil)))
    (psd_cons (psd_expr (pd_call h_check_bytes hr tk (pad_cons (pd_var 1) pad_nil)))
    (psd_one (psd_ret (pd_call h_place_of hr tk (pad_cons (pd_var 0) (pad_cons (pd_var 1) pad_nil)))))))
abbrev st__law_true : Stmt := topS 31
theorem sc__law_true : FnScope ["value", "expected"] ["value", "expected"] (defScope st__law_true) := ⟨rfl, rfl, rfl, by decide +kernel, rfl, by decide +kernel, by decide +kernel⟩
theorem has__law_true (B : BI C.mg) 
    {f : Addr} {fd : FuncData} (Fu : Fun C.K "_law_true" "_law_true" st__law_true f fd) (gf : C.mg "_law_true" = some (.ref f)) (b : Binds C.K fd ["value", "expected"] []) : Has P w C base "_law_true" 1 m__law_true := by
  refine fn_has (sv := sv__law_true) Fu sc__law_true gf b (fun cdv A outer s H E hr => ?_)
  have hu0 := hr.units0; have hu64 := hr.units; have hu65 := hu65_of hr
  have tk : Takes (cxOf (L2.CX P w) P w C.K C.mg base ["value", "expected"] "_law_true" (defScope st__law_true) f cdv A outer s H E) (fun cls d _ H => E cls d H) := takes_of rfl rfl rfl rfl
  exact (psd_one (psd_ret (pd_and (pd_isi B.isinstance B.bool' (by decide +kernel) (pd_var 0)) (pd_one (pd_cmp (op_eqD hu64) dEq (pd_var 0) (pd_var 1) (nomark _))))))
abbrev st_Index_contains : Stmt := inClass (topS 25) 3
theorem sc_Index_contains : FnScope ["self", "key"] ["self", "key"] (defScope st_Index_contains) := ⟨rfl, rfl, rfl, by decide +kernel, rfl, by decide +kernel, by decide +kernel⟩
theorem has_Index_contains (B : BI C.mg) (cl_Index : ClsC C "Index" ["size", "blocks", "marks"]) (h_check_bytes : Has P w C base "check_bytes" 3 m_check_bytes) (h_place_of : Has P w C base "place_of" 1 m_place_of)
    {AC f : Addr} {fd : FuncData} (Fu : Fun C.K "contains" "Index.contains" st_Index_contains f fd) (gA : C.mg "Index" = some (.ref AC)) (clx : Cls C.K AC) (me : Meth C.K AC "contains" f) (b : Binds C.K fd ["self", "key"] []) : HasM P w C base "Index" "contains" 4 m_Index_contains_k14 := by
  refine ⟨AC, f, fd, _, fn_okM (sv := sv_Index_contains_k14) Fu sc_Index_contains (fun cdv A outer s H E hr => ?_), gA, clx, me, b⟩
  have hu0 := hr.units0; have hu64 := hr.units; have hu65 := hu65_of hr
  have tk : Takes (cxOf (L2.CX P w) P w C.K C.mg base ["self", "key"] "Index.contains" (defScope st_Index_contains) f cdv A outer s H E) (fun cls d _ H => E cls d H) := takes_of rfl rfl rfl rfl
  exact (psd_cons (psd_expr (pd_call h_check_bytes hr tk (pad_cons (pd_var 1) pad_nil)))
    (psd_one (psd_ret (pd_cmp (opIn hu65) dIn (pd_var 1) (pd_ix (pd_fldO cl_Index (pd_var 0)) (pd_call h_place_of hr tk (pad_cons (pd_fldO cl_Index (pd_var 0)) (pad_cons (pd_var 1) pad_nil)))) (by rfl)))))
abbrev st_in_range : Stmt := topS 17
theorem sc_in_range : FnScope ["value", "bounds", "low", "high"] ["value", "bounds"] (defScope st_in_range) := ⟨rfl, rfl, rfl, by decide +kernel, rfl, by decide +kernel, by decide +kernel⟩
theorem has_in_range (B : BI C.mg) 
    {f : Addr} {fd : FuncData} (Fu : Fun C.K "in_range" "in_range" st_in_range f fd) (gf : C.mg "in_range" = some (.ref f)) (b : Binds C.K fd ["value", "bounds"] []) : Has P w C base "in_range" 1 m_in_range := by
  refine fn_has (sv := sv_in_range) Fu sc_in_range gf b (fun cdv A outer s H E hr => ?_)
  have hu0 := hr.units0; have hu64 := hr.units; have hu65 := hu65_of hr
  have tk : Takes (cxOf (L2.CX P w) P w C.K C.mg base ["value", "bounds", "low", "high"] "in_range" (defScope st_in_range) f cdv A outer s H E) (fun cls d _ H => E cls d H) := takes_of rfl rfl rfl rfl
  exact (psd_cons (psd_asg (pd_var 1) (pgd_tup rfl (pgsd_cons 2 sc_in_range.nd (pgsd_cons 3 sc_in_range.nd pgsd_nil))))
    (psd_one (psd_ret (pd_and (pd_cmp (opLe hu0) dLe (pd_var 2) (pd_var 0) (nomark _)) (pd_one (pd_or (pd_cmp opIs dIs (pd_var 3) pd_non (nomark _)) (pd_one (pd_cmp (opLt hu0) dLt (pd_var 0) (pd_var 3) (nomark _)))))))))
abbrev st_Index_find : Stmt := inClass (topS 25) 4
theorem sc_Index_find : FnScope ["self", "bounds", "block", "key"] ["self", "bounds"] (defScope st_Index_find) := ⟨rfl, rfl, rfl, by decide +kernel, rfl, by decide +kernel, by decide +kernel⟩
theorem has_Index_find (B : BI C.mg) (x_BadBytes : ExcC' C "BadBytes") (cl_Index : ClsC C "Index" ["size", "blocks", "marks"]) (h_check_bytes : Has P w C base "check_bytes" 3 m_check_bytes) (h_in_range : Has P w C base "in_range" 1 m_in_range)
    {AC f : Addr} {fd : FuncData} (Fu : Fun C.K "find" "Index.find" st_Index_find f fd) (gA : C.mg "Index" = some (.ref AC)) (clx : Cls C.K AC) (me : Meth C.K AC "find" f) (b : Binds C.K fd ["self", "bounds"] []) : HasM P w C base "Index" "find" 4 m_Index_find := by
  refine ⟨AC, f, fd, _, fn_okM (sv := sv_Index_find) Fu sc_Index_find (fun cdv A outer s H E hr => ?_), gA, clx, me, b⟩
  have hu0 := hr.units0; have hu64 := hr.units; have hu65 := hu65_of hr
  have tk : Takes (cxOf (L2.CX P w) P w C.K C.mg base ["self", "bounds", "block", "key"] "Index.find" (defScope st_Index_find) f cdv A outer s H E) (fun cls d _ H => E cls d H) := takes_of rfl rfl rfl rfl
  exact (psd_cons (psd_if (PWD.pb (pw_or' (pb_not (pb_val (pd_isi B.isinstance B.tuple' (by decide +kernel) (pd_var 1)))) (pw_or1' (pb_cmp (op_neD hu64) dNe (pd_len B.len (pad_cons (pd_var 1) pad_nil)) pd_int (nomark _))))) (psd_one (psd_raise rfl tk x_BadBytes)) psd_nil)
    (psd_cons (psd_expr (pd_call h_check_bytes hr tk (pad_cons (pd_ix (pd_var 1) pd_int) pad_nil)))
    (psd_cons (psd_if (pb_cmp opIsNot dIsNot (pd_ix (pd_var 1) pd_int) pd_non (nomark _)) (psd_one (psd_expr (pd_call h_check_bytes hr tk (pad_cons (pd_ix (pd_var 1) pd_int) pad_nil)))) psd_nil)
    (psd_one (psd_ret (pd_lc2 [("block", 2), ("key", 3)] [3] rfl sc_Index_find.nd (pid_seq (pd_fldO cl_Index (pd_var 0))) (blkOk_by (N := ["self", "bounds", "block", "key"]) (sc := defScope st_Index_find) (own := [("block", 2), ("key", 3)]) (by decide +kernel)) (by decide) (by decide) (by decide) (fun _ _ _ _ _ => (pgd_name 2 sc_Index_find.nd)) (fun _ _ _ _ _ => (pid_seq (pd_var 2))) (fun _ _ _ _ _ => (pgd_name 3 sc_Index_find.nd)) (fun _ _ _ _ _ => (ptsd_one (pb_val (pd_call h_in_range hr takes0 (pad_cons (pd_var 3) (pad_cons (pd_var 1) pad_nil)))))) (fun _ _ _ _ _ => (pd_var 3))))))))
abbrev st__law_emptied : Stmt := topS 36
theorem sc__law_emptied : FnScope ["draws", "shown", "blocks", "marks", "keys", "order", "key"] ["draws", "shown", "blocks", "marks", "keys"] (defScope st__law_emptied) := ⟨rfl, rfl, rfl, by decide +kernel, rfl, by decide +kernel, by decide +kernel⟩
theorem has__law_emptied (B : BI C.mg) (h__law_pick : Has P w C base "_law_pick" 2 m__law_pick) (h_Index_remove : HasM P w C base "Index" "remove" 4 m_Index_remove_k14) (h__law_removed : Has P w C base "_law_removed" 1 m__law_removed) (h_Index_layout : HasM P w C base "Index" "layout" 1 m_Index_layout_k14) (h_Index_separators : HasM P w C base "Index" "separators" 1 m_Index_separators_k14) (h_Index___len__ : HasM P w C base "Index" "__len__" 1 m_Index___len__)
    {f : Addr} {fd : FuncData} (Fu : Fun C.K "_law_emptied" "_law_emptied" st__law_emptied f fd) (gf : C.mg "_law_emptied" = some (.ref f)) (b : Binds C.K fd ["draws", "shown", "blocks", "marks", "keys"] []) : Has P w C base "_law_emptied" 5 m__law_emptied := by
  refine fn_has (sv := sv__law_emptied) Fu sc__law_emptied gf b (fun cdv A outer s H E hr => ?_)
  have hu0 := hr.units0; have hu64 := hr.units; have hu65 := hu65_of hr
  have tk : Takes (cxOf (L2.CX P w) P w C.K C.mg base ["draws", "shown", "blocks", "marks", "keys", "order", "key"] "_law_emptied" (defScope st__law_emptied) f cdv A outer s H E) (fun cls d _ H => E cls d H) := takes_of rfl rfl rfl rfl
  exact (psd_cons (psd_set (i := 5) (pd_call h__law_pick hr tk (pad_cons (pd_var 0) (pad_cons (pd_lst (pad_cons (pd_var 4) (pad_cons (pd_sorted B.sorted hu65 (pad_cons (pd_var 4) pad_nil)) (pad_cons (pd_rev (pd_sorted B.sorted hu65 (pad_cons (pd_var 4) pad_nil))) pad_nil)))) pad_nil))) sc__law_emptied.nd)
    (psd_cons (psd_for (passes_of rfl) rfl (pid_seq (pd_var 5)) (pgd_name 6 sc__law_emptied.nd) (psd_cons (psd_expr (pd_methO h_Index_remove hr tk (pd_var 1) (pad_cons (pd_var 6) pad_nil)))
    (psd_cons (psd_asg (pd_call h__law_removed hr tk (pad_cons (pd_var 2) (pad_cons (pd_var 3) (pad_cons (pd_var 6) pad_nil)))) (pgd_tup rfl (pgsd_cons 2 sc__law_emptied.nd (pgsd_cons 3 sc__law_emptied.nd pgsd_nil))))
    (psd_one (psd_if (PWD.pb (pw_or' (pb_cmp (op_neD hu64) dNe (pd_methO0 h_Index_layout hr tk (pd_var 1)) (pd_var 2) (nomark _)) (pw_or1' (pb_cmp (op_neD hu64) dNe (pd_methO0 h_Index_separators hr tk (pd_var 1)) (pd_var 3) (nomark _))))) (psd_one (psd_ret pd_bl)) psd_nil)))))
    (psd_one (psd_ret (pd_and (pd_cmp (op_eqD hu64) dEq (pd_methO0 h_Index_layout hr tk (pd_var 1)) (pd_lst (pad_cons (pd_lst pad_nil) pad_nil)) (nomark _)) (pd_and (pd_cmp (op_eqD hu64) dEq (pd_methO0 h_Index_separators hr tk (pd_var 1)) (pd_lst pad_nil) (nomark _)) (pd_one (pd_cmp (op_eqD hu64) dEq (pd_lenO h_Index___len__ hr B.len (pad_cons (pd_var 1) pad_nil)) pd_int (nomark _)))))))))
abbrev st_law : Stmt := topS 37
theorem sc_law : FnScope ["script", "draws", "size", "shown", "turn", "key", "blocks", "marks", "keys", "at", "due", "one", "mark"] ["script"] (defScope st_law) := ⟨rfl, rfl, rfl, by decide +kernel, rfl, by decide +kernel, by decide +kernel⟩
theorem ok_law (B : BI C.mg) (h__law_start : Has P w C base "_law_start" 1 m__law_start) (h__law_draw : Has P w C base "_law_draw" 1 m__law_draw) (h_Index___init__ : HasI P w C base "Index" 2 m_Index___init__) (h__law_string : Has P w C base "_law_string" 3 m__law_string) (h__law_pick : Has P w C base "_law_pick" 2 m__law_pick) (h__law_inserted : Has P w C base "_law_inserted" 6 m__law_inserted) (h__law_change : Has P w C base "_law_change" 7 m__law_change_k14) (h__law_removed : Has P w C base "_law_removed" 1 m__law_removed) (h_Index_layout : HasM P w C base "Index" "layout" 1 m_Index_layout_k14) (h_Index_separators : HasM P w C base "Index" "separators" 1 m_Index_separators_k14) (h_Index___len__ : HasM P w C base "Index" "__len__" 1 m_Index___len__) (h_route : Has P w C base "route" 4 m_route) (h__law_true : Has P w C base "_law_true" 1 m__law_true) (h_Index_contains : HasM P w C base "Index" "contains" 4 m_Index_contains_k14) (h_Index_find : HasM P w C base "Index" "find" 4 m_Index_find) (h__law_emptied : Has P w C base "_law_emptied" 5 m__law_emptied)
    {f : Addr} {fd : FuncData} (Fu : Fun C.K "law" "law" st_law f fd) (gf : C.mg "law" = some (.ref f)) (b : Binds C.K fd ["script"] []) : FnOk P w C.K C.mg base (L2.CX P w) 8 f fd ["script"] (spOf C m_law_k14) := by
  refine fn_ok (sv := sv_law_k14) Fu sc_law gf b (fun cdv A outer s H E hr => ?_)
  have hu0 := hr.units0; have hu64 := hr.units; have hu65 := hu65_of hr
  have tk : Takes (cxOf (L2.CX P w) P w C.K C.mg base ["script", "draws", "size", "shown", "turn", "key", "blocks", "marks", "keys", "at", "due", "one", "mark"] "law" (defScope st_law) f cdv A outer s H E) (fun cls d _ H => E cls d H) := takes_of rfl rfl rfl rfl
  exact (psd_cons (psd_set (i := 1) (pd_call h__law_start hr tk (pad_cons (pd_var 0) pad_nil)) sc_law.nd)
    (psd_cons (psd_set (i := 2) (pd_op opAdd dAdd pd_int (pd_call h__law_draw hr tk (pad_cons (pd_var 1) (pad_cons pd_int pad_nil)))) sc_law.nd)
    (psd_cons (psd_set (i := 3) (pd_makeO h_Index___init__ hr tk (pad_cons (pd_var 2) pad_nil)) sc_law.nd)
    (psd_cons (psd_par3 (i := 6) (j := 7) (l := 8) rfl sc_law.nd (pad_cons (pd_lst (pad_cons (pd_lst pad_nil) pad_nil)) (pad_cons (pd_lst pad_nil) (pad_cons (pd_lstC pad_nil) pad_nil))))
    (psd_cons (psd_for (passes_of rfl) rfl (pid_range1 B.range (pad_cons pd_int pad_nil)) (pgd_name 4 sc_law.nd) (psd_cons (psd_set (i := 5) (pd_call h__law_string hr tk (pad_cons (pd_var 1) (pad_cons pd_int pad_nil))) sc_law.nd)
    (psd_cons (psd_if (PWD.pb (pw_and' (pb_cmp (op_neD hu64) dNe (pd_var 8) (pd_lst pad_nil) (nomark _)) (pw_and1' (pb_cmp (op_eqD hu64) dEq (pd_call h__law_draw hr tk (pad_cons (pd_var 1) (pad_cons pd_int pad_nil))) pd_int (nomark _))))) (psd_one (psd_set (i := 5) (pd_call h__law_pick hr tk (pad_cons (pd_var 1) (pad_cons (pd_var 8) pad_nil))) sc_law.nd)) psd_nil)
    (psd_cons (psd_if (pb_cmp (opGt hu0) dGt (pd_call h__law_draw hr tk (pad_cons (pd_var 1) (pad_cons pd_int pad_nil))) pd_int (nomark _)) (psd_cons (psd_if (pb_cmp (opNotIn hu65) dNotIn (pd_var 5) (pd_var 8) (by rfl)) (psd_cons (psd_asg (pd_call h__law_inserted hr tk (pad_cons (pd_var 6) (pad_cons (pd_var 7) (pad_cons (pd_var 2) (pad_cons (pd_var 5) pad_nil))))) (pgd_tup rfl (pgsd_cons 6 sc_law.nd (pgsd_cons 7 sc_law.nd pgsd_nil))))
    (psd_cons (psd_expr (pd_append (pd_var 8) (pad_cons (pd_var 5) pad_nil)))
    (psd_one (psd_set (i := 10) (pd_len B.len (pad_cons (pd_lc (own := [("mark", 12)]) [("mark", 12)] rfl sc_law.nd (pid_seq (pd_var 7)) (blkOk_by (N := ["script", "draws", "size", "shown", "turn", "key", "blocks", "marks", "keys", "at", "due", "one", "mark"]) (sc := defScope st_law) (own := [("mark", 12)]) (by decide +kernel)) (by decide) (fun _ _ _ _ _ => (pgd_name 12 sc_law.nd)) (fun _ _ _ _ _ => (ptsd_one (pb_cmp (opLe hu0) dLe (pd_var 12) (pd_var 5) (nomark _)))) (fun _ _ _ _ _ => (pd_var 12))) pad_nil)) sc_law.nd)))) (psd_one (psd_set (i := 10) pd_str sc_law.nd)))
    (psd_one (psd_if (pb_cmp (op_neD hu64) dNe (pd_call h__law_change hr tk (pad_cons (pd_var 3) (pad_cons pd_int (pad_cons (pd_var 5) pad_nil)))) (pd_var 10) (nomark _)) (psd_one (psd_ret pd_bl)) psd_nil))) (psd_cons (psd_if (pb_cmp (op_neD hu64) dNe (pd_call h__law_change hr tk (pad_cons (pd_var 3) (pad_cons pd_int (pad_cons (pd_var 5) pad_nil)))) (pd_if (pb_cmp (opIn hu65) dIn (pd_var 5) (pd_var 8) (by rfl)) pd_non pd_str) (nomark _)) (psd_one (psd_ret pd_bl)) psd_nil)
    (psd_one (psd_if (pb_cmp (opIn hu65) dIn (pd_var 5) (pd_var 8) (by rfl)) (psd_cons (psd_asg (pd_call h__law_removed hr tk (pad_cons (pd_var 6) (pad_cons (pd_var 7) (pad_cons (pd_var 5) pad_nil)))) (pgd_tup rfl (pgsd_cons 6 sc_law.nd (pgsd_cons 7 sc_law.nd pgsd_nil))))
    (psd_one (psd_setLc (i := 8) (own := [("one", 11)]) fCell' (.inr rfl) rfl sc_law.nd (pid_seq (pd_var 8)) (blkOk_by (N := ["script", "draws", "size", "shown", "turn", "key", "blocks", "marks", "keys", "at", "due", "one", "mark"]) (sc := defScope st_law) (own := [("one", 11)]) (by decide +kernel)) (by decide) (sw_true rfl rfl rfl (by decide +kernel)) (fun _ _ _ _ _ => (pgd_name 11 sc_law.nd)) (fun _ _ _ _ _ => (ptsd_one (pb_cmp (op_neD hu64) dNe (pd_var 11) (pd_var 5) (nomark _)))) (fun _ _ _ _ _ => (pd_var 11))))) psd_nil))))
    (psd_one (psd_if (PWD.pb (pw_or' (pb_cmp (op_neD hu64) dNe (pd_methO0 h_Index_layout hr tk (pd_var 3)) (pd_var 6) (nomark _)) (pw_or' (pb_cmp (op_neD hu64) dNe (pd_methO0 h_Index_separators hr tk (pd_var 3)) (pd_var 7) (nomark _)) (pw_or1' (pb_cmp (op_neD hu64) dNe (pd_lenO h_Index___len__ hr B.len (pad_cons (pd_var 3) pad_nil)) (pd_len B.len (pad_cons (pd_var 8) pad_nil)) (nomark _)))))) (psd_one (psd_ret pd_bl)) psd_nil))))))
    (psd_cons (psd_for (passes_of rfl) rfl (pid_seq (pd_op opAdd dAdd (pd_var 8) (pd_lst (pad_cons (pd_call h__law_string hr tk (pad_cons (pd_var 1) (pad_cons pd_int pad_nil))) pad_nil)))) (pgd_name 5 sc_law.nd) (psd_cons (psd_set (i := 9) (pd_call h_route hr tk (pad_cons (pd_var 7) (pad_cons (pd_var 5) pad_nil))) sc_law.nd)
    (psd_one (psd_if (PWD.pb (pw_or' (pb_not (pb_val (pd_call h__law_true hr tk (pad_cons (pd_methO h_Index_contains hr tk (pd_var 3) (pad_cons (pd_var 5) pad_nil)) (pad_cons (pd_cmp (opIn hu65) dIn (pd_var 5) (pd_var 8) (by rfl)) pad_nil))))) (pw_or1' (pb_cmp (op_neD hu64) dNe (pd_cmp (opIn hu65) dIn (pd_var 5) (pd_ix (pd_var 6) (pd_var 9)) (by rfl)) (pd_cmp (opIn hu65) dIn (pd_var 5) (pd_var 8) (by rfl)) (nomark _))))) (psd_one (psd_ret pd_bl)) psd_nil))))
    (psd_cons (psd_if (pb_cmp (op_neD hu64) dNe (pd_methO h_Index_find hr tk (pd_var 3) (pad_cons (pd_tup (pad_cons (pd_tup pad_nil) (pad_cons pd_non pad_nil))) pad_nil)) (pd_sorted B.sorted hu65 (pad_cons (pd_var 8) pad_nil)) (nomark _)) (psd_one (psd_ret pd_bl)) psd_nil)
    (psd_one (psd_ret (pd_call h__law_emptied hr tk (pad_cons (pd_var 1) (pad_cons (pd_var 3) (pad_cons (pd_var 6) (pad_cons (pd_var 7) (pad_cons (pd_var 8) pad_nil)))))))))))))))
end
theorem all_mk {l : PySem.W.OpenLaw} {w : World} {K : PySem.W.Frag} {h : Heap} {mg : Str → Option Value} {fa : Addr} {C_Index : Addr} {f0 : Addr} {od0 an0 : Option Addr} {sl0 : Array (Option Value)} {oc0 kV0 dc0 pm0 cd0 ct0 : Value} {f1 : Addr} {od1 an1 : Option Addr} {sl1 : Array (Option Value)} {oc1 kV1 dc1 pm1 cd1 ct1 : Value} {f2 : Addr} {od2 an2 : Option Addr} {sl2 : Array (Option Value)} {oc2 kV2 dc2 pm2 cd2 ct2 : Value} {f3 : Addr} {od3 an3 : Option Addr} {sl3 : Array (Option Value)} {oc3 kV3 dc3 pm3 cd3 ct3 : Value} {f4 : Addr} {od4 an4 : Option Addr} {sl4 : Array (Option Value)} {oc4 kV4 dc4 pm4 cd4 ct4 : Value} {f5 : Addr} {od5 an5 : Option Addr} {sl5 : Array (Option Value)} {oc5 kV5 dc5 pm5 cd5 ct5 : Value} {f6 : Addr} {od6 an6 : Option Addr} {sl6 : Array (Option Value)} {oc6 kV6 dc6 pm6 cd6 ct6 : Value} {f7 : Addr} {od7 an7 : Option Addr} {sl7 : Array (Option Value)} {oc7 kV7 dc7 pm7 cd7 ct7 : Value} {f8 : Addr} {od8 an8 : Option Addr} {sl8 : Array (Option Value)} {oc8 kV8 dc8 pm8 cd8 ct8 : Value} {f9 : Addr} {od9 an9 : Option Addr} {sl9 : Array (Option Value)} {oc9 kV9 dc9 pm9 cd9 ct9 : Value} {f10 : Addr} {od10 an10 : Option Addr} {sl10 : Array (Option Value)} {oc10 kV10 dc10 pm10 cd10 ct10 : Value} {f11 : Addr} {od11 an11 : Option Addr} {sl11 : Array (Option Value)} {oc11 kV11 dc11 pm11 cd11 ct11 : Value} {f12 : Addr} {od12 an12 : Option Addr} {sl12 : Array (Option Value)} {oc12 kV12 dc12 pm12 cd12 ct12 : Value} {f13 : Addr} {od13 an13 : Option Addr} {sl13 : Array (Option Value)} {oc13 kV13 dc13 pm13 cd13 ct13 : Value} {f14 : Addr} {od14 an14 : Option Addr} {sl14 : Array (Option Value)} {oc14 kV14 dc14 pm14 cd14 ct14 : Value} {f15 : Addr} {od15 an15 : Option Addr} {sl15 : Array (Option Value)} {oc15 kV15 dc15 pm15 cd15 ct15 : Value} {f16 : Addr} {od16 an16 : Option Addr} {sl16 : Array (Option Value)} {oc16 kV16 dc16 pm16 cd16 ct16 : Value} {f17 : Addr} {od17 an17 : Option Addr} {sl17 : Array (Option Value)} {oc17 kV17 dc17 pm17 cd17 ct17 : Value} {f18 : Addr} {od18 an18 : Option Addr} {sl18 : Array (Option Value)} {oc18 kV18 dc18 pm18 cd18 ct18 : Value} {f19 : Addr} {od19 an19 : Option Addr} {sl19 : Array (Option Value)} {oc19 kV19 dc19 pm19 cd19 ct19 : Value} {f20 : Addr} {od20 an20 : Option Addr} {sl20 : Array (Option Value)} {oc20 kV20 dc20 pm20 cd20 ct20 : Value} {f21 : Addr} {od21 an21 : Option Addr} {sl21 : Array (Option Value)} {oc21 kV21 dc21 pm21 cd21 ct21 : Value} {f22 : Addr} {od22 an22 : Option Addr} {sl22 : Array (Option Value)} {oc22 kV22 dc22 pm22 cd22 ct22 : Value} {f23 : Addr} {od23 an23 : Option Addr} {sl23 : Array (Option Value)} {oc23 kV23 dc23 pm23 cd23 ct23 : Value} {f24 : Addr} {od24 an24 : Option Addr} {sl24 : Array (Option Value)} {oc24 kV24 dc24 pm24 cd24 ct24 : Value} {f25 : Addr} {od25 an25 : Option Addr} {sl25 : Array (Option Value)} {oc25 kV25 dc25 pm25 cd25 ct25 : Value} {f26 : Addr} {od26 an26 : Option Addr} {sl26 : Array (Option Value)} {oc26 kV26 dc26 pm26 cd26 ct26 : Value} {f27 : Addr} {od27 an27 : Option Addr} {sl27 : Array (Option Value)} {oc27 kV27 dc27 pm27 cd27 ct27 : Value} {f28 : Addr} {od28 an28 : Option Addr} {sl28 : Array (Option Value)} {oc28 kV28 dc28 pm28 cd28 ct28 : Value} {t_MOST_BLOCK : Tok} {t_MOST_LENGTH : Tok} {t_MOST_KEYS : Tok} {A_BadIndex : Addr} {A_BadBytes : Addr} {A_NotFound : Addr} {A_BadScheme : Addr} {A_BadRow : Addr} {A_BadText : Addr} {A_KeyBytesError : Addr} (X : K.In h) (G : h.Ns mainGlobals mg) (hfa : mg "law" = some (.ref fa))
    (aC : PySem.W.nsIn K mainGlobals "Index" = some (some (.ref C_Index))) (pg_ : PySem.W.plainGet K C_Index Str.empty = true) (hd_ : PySem.W.hasDictIn K C_Index = true) (po_ : PySem.W.plainOver K C_Index = true) (sa_ : PySem.W.findIn K (.ref C_Index) "__setattr__" = some (some (.builtin "object.__setattr__"))) (mk_ : PySem.W.makesIn K C_Index = true) (kc_ : PySem.W.keepIn K (.ref C_Index) = true) (nS_ : PySem.W.findIn K (.ref C_Index) "size" = some none) (nB_ : PySem.W.findIn K (.ref C_Index) "blocks" = some none) (nM_ : PySem.W.findIn K (.ref C_Index) "marks" = some none)
    (a0 : PySem.W.nsIn K mainGlobals "_law_start" = some (some (.ref f0))) (l0 : K.lookup f0 = some ⟨oc0, od0, .func (PySem.W.fnOf "_law_start" "_law_start" (defArgs st__law_start) (defBody st__law_start) (defScope st__law_start) .none kV0 dc0 pm0 an0 cd0 ct0), sl0⟩) (c0 : PySem.W.codeIn K cd0 "_law_start" = true) (k0 : PySem.W.keepIn K (.ref f0) = true)
    (a1 : PySem.W.nsIn K mainGlobals "_law_draw" = some (some (.ref f1))) (l1 : K.lookup f1 = some ⟨oc1, od1, .func (PySem.W.fnOf "_law_draw" "_law_draw" (defArgs st__law_draw) (defBody st__law_draw) (defScope st__law_draw) .none kV1 dc1 pm1 an1 cd1 ct1), sl1⟩) (c1 : PySem.W.codeIn K cd1 "_law_draw" = true) (k1 : PySem.W.keepIn K (.ref f1) = true)
    (a2 : PySem.W.nsIn K mainGlobals "is_int" = some (some (.ref f2))) (l2 : K.lookup f2 = some ⟨oc2, od2, .func (PySem.W.fnOf "is_int" "is_int" (defArgs st_is_int) (defBody st_is_int) (defScope st_is_int) .none kV2 dc2 pm2 an2 cd2 ct2), sl2⟩) (c2 : PySem.W.codeIn K cd2 "is_int" = true) (k2 : PySem.W.keepIn K (.ref f2) = true)
    (a3 : PySem.W.findIn K (.ref C_Index) "__init__" = some (some (.ref f3))) (i3 : PySem.W.isFn K (.ref f3) = true) (l3 : K.lookup f3 = some ⟨oc3, od3, .func (PySem.W.fnOf "__init__" "Index.__init__" (defArgs st_Index___init__) (defBody st_Index___init__) (defScope st_Index___init__) .none kV3 dc3 pm3 an3 cd3 ct3), sl3⟩) (c3 : PySem.W.codeIn K cd3 "Index.__init__" = true) (k3 : PySem.W.keepIn K (.ref f3) = true)
    (a4 : PySem.W.nsIn K mainGlobals "_law_pick" = some (some (.ref f4))) (l4 : K.lookup f4 = some ⟨oc4, od4, .func (PySem.W.fnOf "_law_pick" "_law_pick" (defArgs st__law_pick) (defBody st__law_pick) (defScope st__law_pick) .none kV4 dc4 pm4 an4 cd4 ct4), sl4⟩) (c4 : PySem.W.codeIn K cd4 "_law_pick" = true) (k4 : PySem.W.keepIn K (.ref f4) = true)
    (a5 : PySem.W.nsIn K mainGlobals "_law_string" = some (some (.ref f5))) (l5 : K.lookup f5 = some ⟨oc5, od5, .func (PySem.W.fnOf "_law_string" "_law_string" (defArgs st__law_string) (defBody st__law_string) (defScope st__law_string) .none kV5 dc5 pm5 an5 cd5 ct5), sl5⟩) (c5 : PySem.W.codeIn K cd5 "_law_string" = true) (k5 : PySem.W.keepIn K (.ref f5) = true)
    (a6 : PySem.W.nsIn K mainGlobals "is_bytes" = some (some (.ref f6))) (l6 : K.lookup f6 = some ⟨oc6, od6, .func (PySem.W.fnOf "is_bytes" "is_bytes" (defArgs st_is_bytes) (defBody st_is_bytes) (defScope st_is_bytes) .none kV6 dc6 pm6 an6 cd6 ct6), sl6⟩) (c6 : PySem.W.codeIn K cd6 "is_bytes" = true) (k6 : PySem.W.keepIn K (.ref f6) = true)
    (a7 : PySem.W.nsIn K mainGlobals "check_bytes" = some (some (.ref f7))) (l7 : K.lookup f7 = some ⟨oc7, od7, .func (PySem.W.fnOf "check_bytes" "check_bytes" (defArgs st_check_bytes) (defBody st_check_bytes) (defScope st_check_bytes) .none kV7 dc7 pm7 an7 cd7 ct7), sl7⟩) (c7 : PySem.W.codeIn K cd7 "check_bytes" = true) (k7 : PySem.W.keepIn K (.ref f7) = true)
    (a8 : PySem.W.nsIn K mainGlobals "check_pair" = some (some (.ref f8))) (l8 : K.lookup f8 = some ⟨oc8, od8, .func (PySem.W.fnOf "check_pair" "check_pair" (defArgs st_check_pair) (defBody st_check_pair) (defScope st_check_pair) .none kV8 dc8 pm8 an8 cd8 ct8), sl8⟩) (c8 : PySem.W.codeIn K cd8 "check_pair" = true) (k8 : PySem.W.keepIn K (.ref f8) = true)
    (a9 : PySem.W.nsIn K mainGlobals "common_length" = some (some (.ref f9))) (l9 : K.lookup f9 = some ⟨oc9, od9, .func (PySem.W.fnOf "common_length" "common_length" (defArgs st_common_length) (defBody st_common_length) (defScope st_common_length) .none kV9 dc9 pm9 an9 cd9 ct9), sl9⟩) (c9 : PySem.W.codeIn K cd9 "common_length" = true) (k9 : PySem.W.keepIn K (.ref f9) = true)
    (a10 : PySem.W.nsIn K mainGlobals "separator" = some (some (.ref f10))) (l10 : K.lookup f10 = some ⟨oc10, od10, .func (PySem.W.fnOf "separator" "separator" (defArgs st_separator) (defBody st_separator) (defScope st_separator) .none kV10 dc10 pm10 an10 cd10 ct10), sl10⟩) (c10 : PySem.W.codeIn K cd10 "separator" = true) (k10 : PySem.W.keepIn K (.ref f10) = true)
    (a11 : PySem.W.nsIn K mainGlobals "_law_inserted" = some (some (.ref f11))) (l11 : K.lookup f11 = some ⟨oc11, od11, .func (PySem.W.fnOf "_law_inserted" "_law_inserted" (defArgs st__law_inserted) (defBody st__law_inserted) (defScope st__law_inserted) .none kV11 dc11 pm11 an11 cd11 ct11), sl11⟩) (c11 : PySem.W.codeIn K cd11 "_law_inserted" = true) (k11 : PySem.W.keepIn K (.ref f11) = true)
    (a12 : PySem.W.nsIn K mainGlobals "place_of" = some (some (.ref f12))) (l12 : K.lookup f12 = some ⟨oc12, od12, .func (PySem.W.fnOf "place_of" "place_of" (defArgs st_place_of) (defBody st_place_of) (defScope st_place_of) .none kV12 dc12 pm12 an12 cd12 ct12), sl12⟩) (c12 : PySem.W.codeIn K cd12 "place_of" = true) (k12 : PySem.W.keepIn K (.ref f12) = true)
    (a13 : PySem.W.findIn K (.ref C_Index) "insert" = some (some (.ref f13))) (i13 : PySem.W.isFn K (.ref f13) = true) (l13 : K.lookup f13 = some ⟨oc13, od13, .func (PySem.W.fnOf "insert" "Index.insert" (defArgs st_Index_insert) (defBody st_Index_insert) (defScope st_Index_insert) .none kV13 dc13 pm13 an13 cd13 ct13), sl13⟩) (c13 : PySem.W.codeIn K cd13 "Index.insert" = true) (k13 : PySem.W.keepIn K (.ref f13) = true)
    (a14 : PySem.W.findIn K (.ref C_Index) "remove" = some (some (.ref f14))) (i14 : PySem.W.isFn K (.ref f14) = true) (l14 : K.lookup f14 = some ⟨oc14, od14, .func (PySem.W.fnOf "remove" "Index.remove" (defArgs st_Index_remove) (defBody st_Index_remove) (defScope st_Index_remove) .none kV14 dc14 pm14 an14 cd14 ct14), sl14⟩) (c14 : PySem.W.codeIn K cd14 "Index.remove" = true) (k14 : PySem.W.keepIn K (.ref f14) = true)
    (a15 : PySem.W.nsIn K mainGlobals "_law_error" = some (some (.ref f15))) (l15 : K.lookup f15 = some ⟨oc15, od15, .func (PySem.W.fnOf "_law_error" "_law_error" (defArgs st__law_error) (defBody st__law_error) (defScope st__law_error) .none kV15 dc15 pm15 an15 cd15 ct15), sl15⟩) (c15 : PySem.W.codeIn K cd15 "_law_error" = true) (k15 : PySem.W.keepIn K (.ref f15) = true)
    (a16 : PySem.W.nsIn K mainGlobals "_law_change" = some (some (.ref f16))) (l16 : K.lookup f16 = some ⟨oc16, od16, .func (PySem.W.fnOf "_law_change" "_law_change" (defArgs st__law_change) (defBody st__law_change) (defScope st__law_change) .none kV16 dc16 pm16 an16 cd16 ct16), sl16⟩) (c16 : PySem.W.codeIn K cd16 "_law_change" = true) (k16 : PySem.W.keepIn K (.ref f16) = true)
    (a17 : PySem.W.nsIn K mainGlobals "_law_removed" = some (some (.ref f17))) (l17 : K.lookup f17 = some ⟨oc17, od17, .func (PySem.W.fnOf "_law_removed" "_law_removed" (defArgs st__law_removed) (defBody st__law_removed) (defScope st__law_removed) .none kV17 dc17 pm17 an17 cd17 ct17), sl17⟩) (c17 : PySem.W.codeIn K cd17 "_law_removed" = true) (k17 : PySem.W.keepIn K (.ref f17) = true)
    (a18 : PySem.W.findIn K (.ref C_Index) "layout" = some (some (.ref f18))) (i18 : PySem.W.isFn K (.ref f18) = true) (l18 : K.lookup f18 = some ⟨oc18, od18, .func (PySem.W.fnOf "layout" "Index.layout" (defArgs st_Index_layout) (defBody st_Index_layout) (defScope st_Index_layout) .none kV18 dc18 pm18 an18 cd18 ct18), sl18⟩) (c18 : PySem.W.codeIn K cd18 "Index.layout" = true) (k18 : PySem.W.keepIn K (.ref f18) = true)
    (a19 : PySem.W.findIn K (.ref C_Index) "separators" = some (some (.ref f19))) (i19 : PySem.W.isFn K (.ref f19) = true) (l19 : K.lookup f19 = some ⟨oc19, od19, .func (PySem.W.fnOf "separators" "Index.separators" (defArgs st_Index_separators) (defBody st_Index_separators) (defScope st_Index_separators) .none kV19 dc19 pm19 an19 cd19 ct19), sl19⟩) (c19 : PySem.W.codeIn K cd19 "Index.separators" = true) (k19 : PySem.W.keepIn K (.ref f19) = true)
    (a20 : PySem.W.findIn K (.ref C_Index) "__len__" = some (some (.ref f20))) (i20 : PySem.W.isFn K (.ref f20) = true) (l20 : K.lookup f20 = some ⟨oc20, od20, .func (PySem.W.fnOf "__len__" "Index.__len__" (defArgs st_Index___len__) (defBody st_Index___len__) (defScope st_Index___len__) .none kV20 dc20 pm20 an20 cd20 ct20), sl20⟩) (c20 : PySem.W.codeIn K cd20 "Index.__len__" = true) (k20 : PySem.W.keepIn K (.ref f20) = true)
    (a21 : PySem.W.nsIn K mainGlobals "check_keys" = some (some (.ref f21))) (l21 : K.lookup f21 = some ⟨oc21, od21, .func (PySem.W.fnOf "check_keys" "check_keys" (defArgs st_check_keys) (defBody st_check_keys) (defScope st_check_keys) .none kV21 dc21 pm21 an21 cd21 ct21), sl21⟩) (c21 : PySem.W.codeIn K cd21 "check_keys" = true) (k21 : PySem.W.keepIn K (.ref f21) = true)
    (a22 : PySem.W.nsIn K mainGlobals "route" = some (some (.ref f22))) (l22 : K.lookup f22 = some ⟨oc22, od22, .func (PySem.W.fnOf "route" "route" (defArgs st_route) (defBody st_route) (defScope st_route) .none kV22 dc22 pm22 an22 cd22 ct22), sl22⟩) (c22 : PySem.W.codeIn K cd22 "route" = true) (k22 : PySem.W.keepIn K (.ref f22) = true)
    (a23 : PySem.W.nsIn K mainGlobals "_law_true" = some (some (.ref f23))) (l23 : K.lookup f23 = some ⟨oc23, od23, .func (PySem.W.fnOf "_law_true" "_law_true" (defArgs st__law_true) (defBody st__law_true) (defScope st__law_true) .none kV23 dc23 pm23 an23 cd23 ct23), sl23⟩) (c23 : PySem.W.codeIn K cd23 "_law_true" = true) (k23 : PySem.W.keepIn K (.ref f23) = true)
    (a24 : PySem.W.findIn K (.ref C_Index) "contains" = some (some (.ref f24))) (i24 : PySem.W.isFn K (.ref f24) = true) (l24 : K.lookup f24 = some ⟨oc24, od24, .func (PySem.W.fnOf "contains" "Index.contains" (defArgs st_Index_contains) (defBody st_Index_contains) (defScope st_Index_contains) .none kV24 dc24 pm24 an24 cd24 ct24), sl24⟩) (c24 : PySem.W.codeIn K cd24 "Index.contains" = true) (k24 : PySem.W.keepIn K (.ref f24) = true)
    (a25 : PySem.W.nsIn K mainGlobals "in_range" = some (some (.ref f25))) (l25 : K.lookup f25 = some ⟨oc25, od25, .func (PySem.W.fnOf "in_range" "in_range" (defArgs st_in_range) (defBody st_in_range) (defScope st_in_range) .none kV25 dc25 pm25 an25 cd25 ct25), sl25⟩) (c25 : PySem.W.codeIn K cd25 "in_range" = true) (k25 : PySem.W.keepIn K (.ref f25) = true)
    (a26 : PySem.W.findIn K (.ref C_Index) "find" = some (some (.ref f26))) (i26 : PySem.W.isFn K (.ref f26) = true) (l26 : K.lookup f26 = some ⟨oc26, od26, .func (PySem.W.fnOf "find" "Index.find" (defArgs st_Index_find) (defBody st_Index_find) (defScope st_Index_find) .none kV26 dc26 pm26 an26 cd26 ct26), sl26⟩) (c26 : PySem.W.codeIn K cd26 "Index.find" = true) (k26 : PySem.W.keepIn K (.ref f26) = true)
    (a27 : PySem.W.nsIn K mainGlobals "_law_emptied" = some (some (.ref f27))) (l27 : K.lookup f27 = some ⟨oc27, od27, .func (PySem.W.fnOf "_law_emptied" "_law_emptied" (defArgs st__law_emptied) (defBody st__law_emptied) (defScope st__law_emptied) .none kV27 dc27 pm27 an27 cd27 ct27), sl27⟩) (c27 : PySem.W.codeIn K cd27 "_law_emptied" = true) (k27 : PySem.W.keepIn K (.ref f27) = true)
    (a28 : PySem.W.nsIn K mainGlobals "law" = some (some (.ref f28))) (l28 : K.lookup f28 = some ⟨oc28, od28, .func (PySem.W.fnOf "law" "law" (defArgs st_law) (defBody st_law) (defScope st_law) .none kV28 dc28 pm28 an28 cd28 ct28), sl28⟩) (c28 : PySem.W.codeIn K cd28 "law" = true) (k28 : PySem.W.keepIn K (.ref f28) = true)
    (n_MOST_BLOCK : PySem.W.nsIn K mainGlobals "MOST_BLOCK" = some (some (.int 20 t_MOST_BLOCK)))
    (n_MOST_LENGTH : PySem.W.nsIn K mainGlobals "MOST_LENGTH" = some (some (.int 400 t_MOST_LENGTH)))
    (n_MOST_KEYS : PySem.W.nsIn K mainGlobals "MOST_KEYS" = some (some (.int 200 t_MOST_KEYS)))
    (xa_BadIndex : PySem.W.nsIn K mainGlobals "BadIndex" = some (some (.ref A_BadIndex))) (xe_BadIndex : PySem.W.excIn K A_BadIndex [.type "ValueError", .type "Exception", .type "BaseException", .type "object"] "ValueError.__new__" = true) (xk_BadIndex : PySem.W.keepIn K (.ref A_BadIndex) = true) (xs_BadIndex : PySem.W.subIn K (.ref A_BadIndex) (.type "BaseException") = some true) (xt_BadIndex : PySem.W.typeIn K (.ref A_BadIndex) = some (.type "type"))
    (xa_BadBytes : PySem.W.nsIn K mainGlobals "BadBytes" = some (some (.ref A_BadBytes))) (xe_BadBytes : PySem.W.excIn K A_BadBytes [.type "ValueError", .type "Exception", .type "BaseException", .type "object"] "ValueError.__new__" = true) (xk_BadBytes : PySem.W.keepIn K (.ref A_BadBytes) = true) (xs_BadBytes : PySem.W.subIn K (.ref A_BadBytes) (.type "BaseException") = some true) (xt_BadBytes : PySem.W.typeIn K (.ref A_BadBytes) = some (.type "type"))
    (xa_NotFound : PySem.W.nsIn K mainGlobals "NotFound" = some (some (.ref A_NotFound))) (xe_NotFound : PySem.W.excIn K A_NotFound [.type "ValueError", .type "Exception", .type "BaseException", .type "object"] "ValueError.__new__" = true) (xk_NotFound : PySem.W.keepIn K (.ref A_NotFound) = true) (xs_NotFound : PySem.W.subIn K (.ref A_NotFound) (.type "BaseException") = some true) (xt_NotFound : PySem.W.typeIn K (.ref A_NotFound) = some (.type "type"))
    (ed_BadBytes : PySem.W.hasDictIn K A_BadBytes = true)
    (xa_BadScheme : PySem.W.nsIn K mainGlobals "BadScheme" = some (some (.ref A_BadScheme))) (xs_BadScheme : PySem.W.subIn K (.ref A_BadScheme) (.type "BaseException") = some true) (xt_BadScheme : PySem.W.typeIn K (.ref A_BadScheme) = some (.type "type"))
    (ed_BadScheme : PySem.W.hasDictIn K A_BadScheme = true)
    (xa_BadRow : PySem.W.nsIn K mainGlobals "BadRow" = some (some (.ref A_BadRow))) (xs_BadRow : PySem.W.subIn K (.ref A_BadRow) (.type "BaseException") = some true) (xt_BadRow : PySem.W.typeIn K (.ref A_BadRow) = some (.type "type"))
    (ed_BadRow : PySem.W.hasDictIn K A_BadRow = true)
    (ed_BadIndex : PySem.W.hasDictIn K A_BadIndex = true)
    (xa_BadText : PySem.W.nsIn K mainGlobals "BadText" = some (some (.ref A_BadText))) (xs_BadText : PySem.W.subIn K (.ref A_BadText) (.type "BaseException") = some true) (xt_BadText : PySem.W.typeIn K (.ref A_BadText) = some (.type "type"))
    (ed_BadText : PySem.W.hasDictIn K A_BadText = true)
    (ed_NotFound : PySem.W.hasDictIn K A_NotFound = true)
    (xa_KeyBytesError : PySem.W.nsIn K mainGlobals "KeyBytesError" = some (some (.ref A_KeyBytesError))) (xs_KeyBytesError : PySem.W.subIn K (.ref A_KeyBytesError) (.type "BaseException") = some true) (xt_KeyBytesError : PySem.W.typeIn K (.ref A_KeyBytesError) = some (.type "type"))
    (ed_KeyBytesError : PySem.W.hasDictIn K A_KeyBytesError = true)
    (eg_BadBytes : PySem.W.findIn K (.ref A_BadBytes) "__getattribute__" = some (some (.builtin "BaseException.__getattribute__"))) (ek_BadBytes : PySem.W.findIn K (.ref A_BadBytes) "__getattr__" = some none) (ea_BadBytes : PySem.W.findIn K (.ref A_BadBytes) "__class__" = some (some (.builtin "object.__class__"))) (em_BadBytes : PySem.W.mroIn K A_BadBytes (.type "object") = some true) (sk_BadBytes : PySem.W.subIn K (.ref A_BadBytes) (.ref A_KeyBytesError) = some true) (sw_BadBytes : PySem.W.subIn K (.ref A_BadBytes) (.type "ValueError") = some true) (nq_BadBytes : A_BadBytes ≠ A_KeyBytesError)
    (sn_BadBytes_BadScheme : PySem.W.subIn K (.ref A_BadBytes) (.ref A_BadScheme) = some false) (nq_BadBytes_BadScheme : A_BadBytes ≠ A_BadScheme)
    (sn_BadBytes_BadRow : PySem.W.subIn K (.ref A_BadBytes) (.ref A_BadRow) = some false) (nq_BadBytes_BadRow : A_BadBytes ≠ A_BadRow)
    (sn_BadBytes_BadIndex : PySem.W.subIn K (.ref A_BadBytes) (.ref A_BadIndex) = some false) (nq_BadBytes_BadIndex : A_BadBytes ≠ A_BadIndex)
    (sn_BadBytes_BadText : PySem.W.subIn K (.ref A_BadBytes) (.ref A_BadText) = some false) (nq_BadBytes_BadText : A_BadBytes ≠ A_BadText)
    (sn_BadBytes_NotFound : PySem.W.subIn K (.ref A_BadBytes) (.ref A_NotFound) = some false) (nq_BadBytes_NotFound : A_BadBytes ≠ A_NotFound)
    (eg_BadScheme : PySem.W.findIn K (.ref A_BadScheme) "__getattribute__" = some (some (.builtin "BaseException.__getattribute__"))) (ek_BadScheme : PySem.W.findIn K (.ref A_BadScheme) "__getattr__" = some none) (ea_BadScheme : PySem.W.findIn K (.ref A_BadScheme) "__class__" = some (some (.builtin "object.__class__"))) (em_BadScheme : PySem.W.mroIn K A_BadScheme (.type "object") = some true) (sk_BadScheme : PySem.W.subIn K (.ref A_BadScheme) (.ref A_KeyBytesError) = some true) (sw_BadScheme : PySem.W.subIn K (.ref A_BadScheme) (.type "ValueError") = some true) (nq_BadScheme : A_BadScheme ≠ A_KeyBytesError)
    (sn_BadScheme_BadBytes : PySem.W.subIn K (.ref A_BadScheme) (.ref A_BadBytes) = some false) (nq_BadScheme_BadBytes : A_BadScheme ≠ A_BadBytes)
    (sn_BadScheme_BadRow : PySem.W.subIn K (.ref A_BadScheme) (.ref A_BadRow) = some false) (nq_BadScheme_BadRow : A_BadScheme ≠ A_BadRow)
    (sn_BadScheme_BadIndex : PySem.W.subIn K (.ref A_BadScheme) (.ref A_BadIndex) = some false) (nq_BadScheme_BadIndex : A_BadScheme ≠ A_BadIndex)
    (sn_BadScheme_BadText : PySem.W.subIn K (.ref A_BadScheme) (.ref A_BadText) = some false) (nq_BadScheme_BadText : A_BadScheme ≠ A_BadText)
    (sn_BadScheme_NotFound : PySem.W.subIn K (.ref A_BadScheme) (.ref A_NotFound) = some false) (nq_BadScheme_NotFound : A_BadScheme ≠ A_NotFound)
    (eg_BadRow : PySem.W.findIn K (.ref A_BadRow) "__getattribute__" = some (some (.builtin "BaseException.__getattribute__"))) (ek_BadRow : PySem.W.findIn K (.ref A_BadRow) "__getattr__" = some none) (ea_BadRow : PySem.W.findIn K (.ref A_BadRow) "__class__" = some (some (.builtin "object.__class__"))) (em_BadRow : PySem.W.mroIn K A_BadRow (.type "object") = some true) (sk_BadRow : PySem.W.subIn K (.ref A_BadRow) (.ref A_KeyBytesError) = some true) (sw_BadRow : PySem.W.subIn K (.ref A_BadRow) (.type "ValueError") = some true) (nq_BadRow : A_BadRow ≠ A_KeyBytesError)
    (sn_BadRow_BadBytes : PySem.W.subIn K (.ref A_BadRow) (.ref A_BadBytes) = some false) (nq_BadRow_BadBytes : A_BadRow ≠ A_BadBytes)
    (sn_BadRow_BadScheme : PySem.W.subIn K (.ref A_BadRow) (.ref A_BadScheme) = some false) (nq_BadRow_BadScheme : A_BadRow ≠ A_BadScheme)
    (sn_BadRow_BadIndex : PySem.W.subIn K (.ref A_BadRow) (.ref A_BadIndex) = some false) (nq_BadRow_BadIndex : A_BadRow ≠ A_BadIndex)
    (sn_BadRow_BadText : PySem.W.subIn K (.ref A_BadRow) (.ref A_BadText) = some false) (nq_BadRow_BadText : A_BadRow ≠ A_BadText)
    (sn_BadRow_NotFound : PySem.W.subIn K (.ref A_BadRow) (.ref A_NotFound) = some false) (nq_BadRow_NotFound : A_BadRow ≠ A_NotFound)
    (eg_BadIndex : PySem.W.findIn K (.ref A_BadIndex) "__getattribute__" = some (some (.builtin "BaseException.__getattribute__"))) (ek_BadIndex : PySem.W.findIn K (.ref A_BadIndex) "__getattr__" = some none) (ea_BadIndex : PySem.W.findIn K (.ref A_BadIndex) "__class__" = some (some (.builtin "object.__class__"))) (em_BadIndex : PySem.W.mroIn K A_BadIndex (.type "object") = some true) (sk_BadIndex : PySem.W.subIn K (.ref A_BadIndex) (.ref A_KeyBytesError) = some true) (sw_BadIndex : PySem.W.subIn K (.ref A_BadIndex) (.type "ValueError") = some true) (nq_BadIndex : A_BadIndex ≠ A_KeyBytesError)
    (sn_BadIndex_BadBytes : PySem.W.subIn K (.ref A_BadIndex) (.ref A_BadBytes) = some false) (nq_BadIndex_BadBytes : A_BadIndex ≠ A_BadBytes)
    (sn_BadIndex_BadScheme : PySem.W.subIn K (.ref A_BadIndex) (.ref A_BadScheme) = some false) (nq_BadIndex_BadScheme : A_BadIndex ≠ A_BadScheme)
    (sn_BadIndex_BadRow : PySem.W.subIn K (.ref A_BadIndex) (.ref A_BadRow) = some false) (nq_BadIndex_BadRow : A_BadIndex ≠ A_BadRow)
    (sn_BadIndex_BadText : PySem.W.subIn K (.ref A_BadIndex) (.ref A_BadText) = some false) (nq_BadIndex_BadText : A_BadIndex ≠ A_BadText)
    (sn_BadIndex_NotFound : PySem.W.subIn K (.ref A_BadIndex) (.ref A_NotFound) = some false) (nq_BadIndex_NotFound : A_BadIndex ≠ A_NotFound)
    (eg_BadText : PySem.W.findIn K (.ref A_BadText) "__getattribute__" = some (some (.builtin "BaseException.__getattribute__"))) (ek_BadText : PySem.W.findIn K (.ref A_BadText) "__getattr__" = some none) (ea_BadText : PySem.W.findIn K (.ref A_BadText) "__class__" = some (some (.builtin "object.__class__"))) (em_BadText : PySem.W.mroIn K A_BadText (.type "object") = some true) (sk_BadText : PySem.W.subIn K (.ref A_BadText) (.ref A_KeyBytesError) = some true) (sw_BadText : PySem.W.subIn K (.ref A_BadText) (.type "ValueError") = some true) (nq_BadText : A_BadText ≠ A_KeyBytesError)
    (sn_BadText_BadBytes : PySem.W.subIn K (.ref A_BadText) (.ref A_BadBytes) = some false) (nq_BadText_BadBytes : A_BadText ≠ A_BadBytes)
    (sn_BadText_BadScheme : PySem.W.subIn K (.ref A_BadText) (.ref A_BadScheme) = some false) (nq_BadText_BadScheme : A_BadText ≠ A_BadScheme)
    (sn_BadText_BadRow : PySem.W.subIn K (.ref A_BadText) (.ref A_BadRow) = some false) (nq_BadText_BadRow : A_BadText ≠ A_BadRow)
    (sn_BadText_BadIndex : PySem.W.subIn K (.ref A_BadText) (.ref A_BadIndex) = some false) (nq_BadText_BadIndex : A_BadText ≠ A_BadIndex)
    (sn_BadText_NotFound : PySem.W.subIn K (.ref A_BadText) (.ref A_NotFound) = some false) (nq_BadText_NotFound : A_BadText ≠ A_NotFound)
    (eg_NotFound : PySem.W.findIn K (.ref A_NotFound) "__getattribute__" = some (some (.builtin "BaseException.__getattribute__"))) (ek_NotFound : PySem.W.findIn K (.ref A_NotFound) "__getattr__" = some none) (ea_NotFound : PySem.W.findIn K (.ref A_NotFound) "__class__" = some (some (.builtin "object.__class__"))) (em_NotFound : PySem.W.mroIn K A_NotFound (.type "object") = some true) (sk_NotFound : PySem.W.subIn K (.ref A_NotFound) (.ref A_KeyBytesError) = some true) (sw_NotFound : PySem.W.subIn K (.ref A_NotFound) (.type "ValueError") = some true) (nq_NotFound : A_NotFound ≠ A_KeyBytesError)
    (sn_NotFound_BadBytes : PySem.W.subIn K (.ref A_NotFound) (.ref A_BadBytes) = some false) (nq_NotFound_BadBytes : A_NotFound ≠ A_BadBytes)
    (sn_NotFound_BadScheme : PySem.W.subIn K (.ref A_NotFound) (.ref A_BadScheme) = some false) (nq_NotFound_BadScheme : A_NotFound ≠ A_BadScheme)
    (sn_NotFound_BadRow : PySem.W.subIn K (.ref A_NotFound) (.ref A_BadRow) = some false) (nq_NotFound_BadRow : A_NotFound ≠ A_BadRow)
    (sn_NotFound_BadIndex : PySem.W.subIn K (.ref A_NotFound) (.ref A_BadIndex) = some false) (nq_NotFound_BadIndex : A_NotFound ≠ A_BadIndex)
    (sn_NotFound_BadText : PySem.W.subIn K (.ref A_NotFound) (.ref A_BadText) = some false) (nq_NotFound_BadText : A_NotFound ≠ A_BadText)
    (en_ : PySem.W.specialIn K (.builtin "object.__class__") "__get__" = some (some (.builtin "getset_descriptor.__get__"))) (et_ : PySem.W.takesIn K (.builtin "object.__class__") = some true) (z_ValueError : PySem.W.nsIn K mainGlobals "ValueError" = some none)
    (z_len : PySem.W.nsIn K mainGlobals "len" = some none)
    (z_range : PySem.W.nsIn K mainGlobals "range" = some none)
    (z_isinstance : PySem.W.nsIn K mainGlobals "isinstance" = some none)
    (z_int : PySem.W.nsIn K mainGlobals "int" = some none)
    (z_bool : PySem.W.nsIn K mainGlobals "bool" = some none)
    (z_tuple : PySem.W.nsIn K mainGlobals "tuple" = some none)
    (z_str : PySem.W.nsIn K mainGlobals "str" = some none)
    (z_list : PySem.W.nsIn K mainGlobals "list" = some none)
    (z_all : PySem.W.nsIn K mainGlobals "all" = some none)
    (z_min : PySem.W.nsIn K mainGlobals "min" = some none)
    (z_max : PySem.W.nsIn K mainGlobals "max" = some none)
    (z_sum : PySem.W.nsIn K mainGlobals "sum" = some none)
    (z_abs : PySem.W.nsIn K mainGlobals "abs" = some none)
    (z_sorted : PySem.W.nsIn K mainGlobals "sorted" = some none)
    (z_set : PySem.W.nsIn K mainGlobals "set" = some none)
    (z_enumerate : PySem.W.nsIn K mainGlobals "enumerate" = some none)
    (z_zip : PySem.W.nsIn K mainGlobals "zip" = some none) :
    ∃ fd : FuncData, (∀ (s : Shared) (v : Value), BindsTo s fd ⟨[v], []⟩ [("script", v)]) ∧ ∀ base : Heap, K.In base → base.Ns mainGlobals mg → FnOk l.prog w K mg base (L2.CX l.prog w) 8 fa fd ["script"] (spLaw K 63) := by
  have e := hfa.symm.trans (PySem.W.mg_of X G a28)
  cases e
  have B : BI mg := ⟨PySem.W.mg_none_of X G z_len, PySem.W.mg_none_of X G z_range, PySem.W.mg_none_of X G z_isinstance, PySem.W.mg_none_of X G z_int, PySem.W.mg_none_of X G z_bool, PySem.W.mg_none_of X G z_tuple, PySem.W.mg_none_of X G z_str, PySem.W.mg_none_of X G z_list, PySem.W.mg_none_of X G z_all, PySem.W.mg_none_of X G z_min, PySem.W.mg_none_of X G z_max, PySem.W.mg_none_of X G z_sum, PySem.W.mg_none_of X G z_abs, PySem.W.mg_none_of X G z_sorted, PySem.W.mg_none_of X G z_set, PySem.W.mg_none_of X G z_enumerate, PySem.W.mg_none_of X G z_zip⟩
  have q_MOST_BLOCK := PySem.W.mg_of X G n_MOST_BLOCK
  have q_MOST_LENGTH := PySem.W.mg_of X G n_MOST_LENGTH
  have q_MOST_KEYS := PySem.W.mg_of X G n_MOST_KEYS
  have x_BadIndex : ExcC' ⟨K, mg⟩ "BadIndex" := ⟨A_BadIndex, PySem.W.mg_of X G xa_BadIndex, xe_BadIndex, xk_BadIndex, xs_BadIndex, xt_BadIndex⟩
  have x_BadBytes : ExcC' ⟨K, mg⟩ "BadBytes" := ⟨A_BadBytes, PySem.W.mg_of X G xa_BadBytes, xe_BadBytes, xk_BadBytes, xs_BadBytes, xt_BadBytes⟩
  have x_NotFound : ExcC' ⟨K, mg⟩ "NotFound" := ⟨A_NotFound, PySem.W.mg_of X G xa_NotFound, xe_NotFound, xk_NotFound, xs_NotFound, xt_NotFound⟩
  have F0 := fun_mk (st := st__law_start) l0 c0 k0
  have b0 := F0.binds (ps := ["script"]) fun _ _ _ _ _ _ us hl => match us, hl with | [_], _ => rfl
  have F1 := fun_mk (st := st__law_draw) l1 c1 k1
  have b1 := F1.binds (ps := ["draws", "limit"]) fun _ _ _ _ _ _ us hl => match us, hl with | [_, _], _ => rfl
  have F2 := fun_mk (st := st_is_int) l2 c2 k2
  have b2 := F2.binds (ps := ["value", "low", "high"]) fun _ _ _ _ _ _ us hl => match us, hl with | [_, _, _], _ => rfl
  have F3 := fun_mk (st := st_Index___init__) l3 c3 k3
  have b3 := F3.binds (ps := ["self", "size"]) fun _ _ _ _ _ _ us hl => match us, hl with | [_, _], _ => rfl
  have F4 := fun_mk (st := st__law_pick) l4 c4 k4
  have b4 := F4.binds (ps := ["draws", "choices"]) fun _ _ _ _ _ _ us hl => match us, hl with | [_, _], _ => rfl
  have F5 := fun_mk (st := st__law_string) l5 c5 k5
  have b5 := F5.binds (ps := ["draws", "length"]) fun _ _ _ _ _ _ us hl => match us, hl with | [_, _], _ => rfl
  have F6 := fun_mk (st := st_is_bytes) l6 c6 k6
  have b6 := F6.binds (ps := ["value"]) fun _ _ _ _ _ _ us hl => match us, hl with | [_], _ => rfl
  have F7 := fun_mk (st := st_check_bytes) l7 c7 k7
  have b7 := F7.binds (ps := ["value"]) fun _ _ _ _ _ _ us hl => match us, hl with | [_], _ => rfl
  have F8 := fun_mk (st := st_check_pair) l8 c8 k8
  have b8 := F8.binds (ps := ["low", "high"]) fun _ _ _ _ _ _ us hl => match us, hl with | [_, _], _ => rfl
  have F9 := fun_mk (st := st_common_length) l9 c9 k9
  have b9 := F9.binds (ps := ["first", "second"]) fun _ _ _ _ _ _ us hl => match us, hl with | [_, _], _ => rfl
  have F10 := fun_mk (st := st_separator) l10 c10 k10
  have b10 := F10.binds (ps := ["low", "high"]) fun _ _ _ _ _ _ us hl => match us, hl with | [_, _], _ => rfl
  have F11 := fun_mk (st := st__law_inserted) l11 c11 k11
  have b11 := F11.binds (ps := ["blocks", "marks", "size", "key"]) fun _ _ _ _ _ _ us hl => match us, hl with | [_, _, _, _], _ => rfl
  have F12 := fun_mk (st := st_place_of) l12 c12 k12
  have b12 := F12.binds (ps := ["marks", "key"]) fun _ _ _ _ _ _ us hl => match us, hl with | [_, _], _ => rfl
  have F13 := fun_mk (st := st_Index_insert) l13 c13 k13
  have b13 := F13.binds (ps := ["self", "key"]) fun _ _ _ _ _ _ us hl => match us, hl with | [_, _], _ => rfl
  have F14 := fun_mk (st := st_Index_remove) l14 c14 k14
  have b14 := F14.binds (ps := ["self", "key"]) fun _ _ _ _ _ _ us hl => match us, hl with | [_, _], _ => rfl
  have F15 := fun_mk (st := st__law_error) l15 c15 k15
  have b15 := F15.binds (ps := ["caught"]) fun _ _ _ _ _ _ us hl => match us, hl with | [_], _ => rfl
  have F16 := fun_mk (st := st__law_change) l16 c16 k16
  have b16 := F16.binds (ps := ["shown", "kind", "key"]) fun _ _ _ _ _ _ us hl => match us, hl with | [_, _, _], _ => rfl
  have F17 := fun_mk (st := st__law_removed) l17 c17 k17
  have b17 := F17.binds (ps := ["blocks", "marks", "key"]) fun _ _ _ _ _ _ us hl => match us, hl with | [_, _, _], _ => rfl
  have F18 := fun_mk (st := st_Index_layout) l18 c18 k18
  have b18 := F18.binds (ps := ["self"]) fun _ _ _ _ _ _ us hl => match us, hl with | [_], _ => rfl
  have F19 := fun_mk (st := st_Index_separators) l19 c19 k19
  have b19 := F19.binds (ps := ["self"]) fun _ _ _ _ _ _ us hl => match us, hl with | [_], _ => rfl
  have F20 := fun_mk (st := st_Index___len__) l20 c20 k20
  have b20 := F20.binds (ps := ["self"]) fun _ _ _ _ _ _ us hl => match us, hl with | [_], _ => rfl
  have F21 := fun_mk (st := st_check_keys) l21 c21 k21
  have b21 := F21.binds (ps := ["keys"]) fun _ _ _ _ _ _ us hl => match us, hl with | [_], _ => rfl
  have F22 := fun_mk (st := st_route) l22 c22 k22
  have b22 := F22.binds (ps := ["marks", "key"]) fun _ _ _ _ _ _ us hl => match us, hl with | [_, _], _ => rfl
  have F23 := fun_mk (st := st__law_true) l23 c23 k23
  have b23 := F23.binds (ps := ["value", "expected"]) fun _ _ _ _ _ _ us hl => match us, hl with | [_, _], _ => rfl
  have F24 := fun_mk (st := st_Index_contains) l24 c24 k24
  have b24 := F24.binds (ps := ["self", "key"]) fun _ _ _ _ _ _ us hl => match us, hl with | [_, _], _ => rfl
  have F25 := fun_mk (st := st_in_range) l25 c25 k25
  have b25 := F25.binds (ps := ["value", "bounds"]) fun _ _ _ _ _ _ us hl => match us, hl with | [_, _], _ => rfl
  have F26 := fun_mk (st := st_Index_find) l26 c26 k26
  have b26 := F26.binds (ps := ["self", "bounds"]) fun _ _ _ _ _ _ us hl => match us, hl with | [_, _], _ => rfl
  have F27 := fun_mk (st := st__law_emptied) l27 c27 k27
  have b27 := F27.binds (ps := ["draws", "shown", "blocks", "marks", "keys"]) fun _ _ _ _ _ _ us hl => match us, hl with | [_, _, _, _, _], _ => rfl
  have F28 := fun_mk (st := st_law) l28 c28 k28
  have b28 := F28.binds (ps := ["script"]) fun _ _ _ _ _ _ us hl => match us, hl with | [_], _ => rfl
  refine ⟨PySem.W.fnOf "law" "law" (defArgs st_law) (defBody st_law) (defScope st_law) .none kV28 dc28 pm28 an28 cd28 ct28, fun s v => .of_eq rfl, fun base _ _ => ?_⟩
  have XA : XAll ⟨K, mg⟩ A_KeyBytesError [("BadBytes", A_BadBytes), ("BadScheme", A_BadScheme), ("BadRow", A_BadRow), ("BadIndex", A_BadIndex), ("BadText", A_BadText), ("NotFound", A_NotFound)] := ⟨rfl, (fun p hp => by ((simp only [List.mem_cons, List.not_mem_nil, or_false] at hp; rcases hp with rfl | rfl | rfl | rfl | rfl | rfl) <;> (first | exact PySem.W.mg_of X G xa_BadBytes | exact PySem.W.mg_of X G xa_BadScheme | exact PySem.W.mg_of X G xa_BadRow | exact PySem.W.mg_of X G xa_BadIndex | exact PySem.W.mg_of X G xa_BadText | exact PySem.W.mg_of X G xa_NotFound))), (fun p hp => by ((simp only [List.mem_cons, List.not_mem_nil, or_false] at hp; rcases hp with rfl | rfl | rfl | rfl | rfl | rfl) <;> (first | exact ⟨eg_BadBytes, ek_BadBytes, xs_BadBytes, ed_BadBytes, ea_BadBytes, en_, et_, em_BadBytes⟩ | exact ⟨eg_BadScheme, ek_BadScheme, xs_BadScheme, ed_BadScheme, ea_BadScheme, en_, et_, em_BadScheme⟩ | exact ⟨eg_BadRow, ek_BadRow, xs_BadRow, ed_BadRow, ea_BadRow, en_, et_, em_BadRow⟩ | exact ⟨eg_BadIndex, ek_BadIndex, xs_BadIndex, ed_BadIndex, ea_BadIndex, en_, et_, em_BadIndex⟩ | exact ⟨eg_BadText, ek_BadText, xs_BadText, ed_BadText, ea_BadText, en_, et_, em_BadText⟩ | exact ⟨eg_NotFound, ek_NotFound, xs_NotFound, ed_NotFound, ea_NotFound, en_, et_, em_NotFound⟩))), (fun p hp => by ((simp only [List.mem_cons, List.not_mem_nil, or_false] at hp; rcases hp with rfl | rfl | rfl | rfl | rfl | rfl) <;> (first | exact xt_BadBytes | exact xt_BadScheme | exact xt_BadRow | exact xt_BadIndex | exact xt_BadText | exact xt_NotFound))), PySem.W.mg_of X G xa_KeyBytesError, ed_KeyBytesError, xt_KeyBytesError, xs_KeyBytesError, (fun p hp => by ((simp only [List.mem_cons, List.not_mem_nil, or_false] at hp; rcases hp with rfl | rfl | rfl | rfl | rfl | rfl) <;> (first | exact nq_BadBytes | exact nq_BadScheme | exact nq_BadRow | exact nq_BadIndex | exact nq_BadText | exact nq_NotFound))), (fun p hp => by ((simp only [List.mem_cons, List.not_mem_nil, or_false] at hp; rcases hp with rfl | rfl | rfl | rfl | rfl | rfl) <;> (first | exact sk_BadBytes | exact sk_BadScheme | exact sk_BadRow | exact sk_BadIndex | exact sk_BadText | exact sk_NotFound))), (fun p hp => by ((simp only [List.mem_cons, List.not_mem_nil, or_false] at hp; rcases hp with rfl | rfl | rfl | rfl | rfl | rfl) <;> (first | exact sw_BadBytes | exact sw_BadScheme | exact sw_BadRow | exact sw_BadIndex | exact sw_BadText | exact sw_NotFound))), (fun p hp p' hq hne => by ((simp only [List.mem_cons, List.not_mem_nil, or_false] at hp; simp only [List.mem_cons, List.not_mem_nil, or_false] at hq; rcases hp with rfl | rfl | rfl | rfl | rfl | rfl <;> rcases hq with rfl | rfl | rfl | rfl | rfl | rfl) <;> (first | exact absurd rfl hne | exact ⟨nq_BadBytes_BadScheme, sn_BadBytes_BadScheme⟩ | exact ⟨nq_BadBytes_BadRow, sn_BadBytes_BadRow⟩ | exact ⟨nq_BadBytes_BadIndex, sn_BadBytes_BadIndex⟩ | exact ⟨nq_BadBytes_BadText, sn_BadBytes_BadText⟩ | exact ⟨nq_BadBytes_NotFound, sn_BadBytes_NotFound⟩ | exact ⟨nq_BadScheme_BadBytes, sn_BadScheme_BadBytes⟩ | exact ⟨nq_BadScheme_BadRow, sn_BadScheme_BadRow⟩ | exact ⟨nq_BadScheme_BadIndex, sn_BadScheme_BadIndex⟩ | exact ⟨nq_BadScheme_BadText, sn_BadScheme_BadText⟩ | exact ⟨nq_BadScheme_NotFound, sn_BadScheme_NotFound⟩ | exact ⟨nq_BadRow_BadBytes, sn_BadRow_BadBytes⟩ | exact ⟨nq_BadRow_BadScheme, sn_BadRow_BadScheme⟩ | exact ⟨nq_BadRow_BadIndex, sn_BadRow_BadIndex⟩ | exact ⟨nq_BadRow_BadText, sn_BadRow_BadText⟩ | exact ⟨nq_BadRow_NotFound, sn_BadRow_NotFound⟩ | exact ⟨nq_BadIndex_BadBytes, sn_BadIndex_BadBytes⟩ | exact ⟨nq_BadIndex_BadScheme, sn_BadIndex_BadScheme⟩ | exact ⟨nq_BadIndex_BadRow, sn_BadIndex_BadRow⟩ | exact ⟨nq_BadIndex_BadText, sn_BadIndex_BadText⟩ | exact ⟨nq_BadIndex_NotFound, sn_BadIndex_NotFound⟩ | exact ⟨nq_BadText_BadBytes, sn_BadText_BadBytes⟩ | exact ⟨nq_BadText_BadScheme, sn_BadText_BadScheme⟩ | exact ⟨nq_BadText_BadRow, sn_BadText_BadRow⟩ | exact ⟨nq_BadText_BadIndex, sn_BadText_BadIndex⟩ | exact ⟨nq_BadText_NotFound, sn_BadText_NotFound⟩ | exact ⟨nq_NotFound_BadBytes, sn_NotFound_BadBytes⟩ | exact ⟨nq_NotFound_BadScheme, sn_NotFound_BadScheme⟩ | exact ⟨nq_NotFound_BadRow, sn_NotFound_BadRow⟩ | exact ⟨nq_NotFound_BadIndex, sn_NotFound_BadIndex⟩ | exact ⟨nq_NotFound_BadText, sn_NotFound_BadText⟩)))⟩
  have xm_KeyBytesError := XA.exm
  have xi_KeyBytesError := XA.base
  have xi_ValueError := XA.val
  have vn_ValueError := PySem.W.mg_none_of X G z_ValueError
  have ct_KeyBytesError := PySem.W.mg_of X G xa_KeyBytesError
  have ct_BadBytes := PySem.W.mg_of X G xa_BadBytes
  have xi_BadBytes := XA.own (T := "BadBytes") (B := A_BadBytes) (by simp) (by decide +kernel)
  have ct_BadScheme := PySem.W.mg_of X G xa_BadScheme
  have xi_BadScheme := XA.own (T := "BadScheme") (B := A_BadScheme) (by simp) (by decide +kernel)
  have ct_BadRow := PySem.W.mg_of X G xa_BadRow
  have xi_BadRow := XA.own (T := "BadRow") (B := A_BadRow) (by simp) (by decide +kernel)
  have ct_BadIndex := PySem.W.mg_of X G xa_BadIndex
  have xi_BadIndex := XA.own (T := "BadIndex") (B := A_BadIndex) (by simp) (by decide +kernel)
  have ct_BadText := PySem.W.mg_of X G xa_BadText
  have xi_BadText := XA.own (T := "BadText") (B := A_BadText) (by simp) (by decide +kernel)
  have ct_NotFound := PySem.W.mg_of X G xa_NotFound
  have xi_NotFound := XA.own (T := "NotFound") (B := A_NotFound) (by simp) (by decide +kernel)
  have gC := PySem.W.mg_of X G aC
  have clsI : Cls K C_Index := ⟨pg_, hd_, po_, sa_⟩
  have cl_Index : ClsC ⟨K, mg⟩ "Index" ["size", "blocks", "marks"] := ⟨C_Index, gC, clsI, fun f hf => by (simp only [List.mem_cons, List.not_mem_nil, or_false] at hf; rcases hf with rfl | rfl | rfl; exact nS_; exact nB_; exact nM_)⟩
  have h__law_start := has__law_start (P := l.prog) (w := w) (C := ⟨K, mg⟩) (base := base) B  F0 (PySem.W.mg_of X G a0) b0
  have h__law_draw := has__law_draw (P := l.prog) (w := w) (C := ⟨K, mg⟩) (base := base) B  F1 (PySem.W.mg_of X G a1) b1
  have h_is_int := has_is_int (P := l.prog) (w := w) (C := ⟨K, mg⟩) (base := base) B  F2 (PySem.W.mg_of X G a2) b2
  have h_Index___init__ := has_Index___init__ (P := l.prog) (w := w) (C := ⟨K, mg⟩) (base := base) B q_MOST_BLOCK x_BadIndex cl_Index h_is_int F3 gC clsI ⟨mk_, a3, i3, kc_⟩ b3
  have h__law_pick := has__law_pick (P := l.prog) (w := w) (C := ⟨K, mg⟩) (base := base) B h__law_draw F4 (PySem.W.mg_of X G a4) b4
  have h__law_string := has__law_string (P := l.prog) (w := w) (C := ⟨K, mg⟩) (base := base) B h__law_draw h__law_pick F5 (PySem.W.mg_of X G a5) b5
  have h_is_bytes := has_is_bytes (P := l.prog) (w := w) (C := ⟨K, mg⟩) (base := base) B q_MOST_LENGTH h_is_int F6 (PySem.W.mg_of X G a6) b6
  have h_check_bytes := has_check_bytes (P := l.prog) (w := w) (C := ⟨K, mg⟩) (base := base) B x_BadBytes h_is_bytes F7 (PySem.W.mg_of X G a7) b7
  have h_check_pair := has_check_pair (P := l.prog) (w := w) (C := ⟨K, mg⟩) (base := base) B x_BadBytes h_check_bytes F8 (PySem.W.mg_of X G a8) b8
  have h_common_length := has_common_length (P := l.prog) (w := w) (C := ⟨K, mg⟩) (base := base) B  F9 (PySem.W.mg_of X G a9) b9
  have h_separator := has_separator (P := l.prog) (w := w) (C := ⟨K, mg⟩) (base := base) B h_check_pair h_common_length F10 (PySem.W.mg_of X G a10) b10
  have h__law_inserted := has__law_inserted (P := l.prog) (w := w) (C := ⟨K, mg⟩) (base := base) B h_separator F11 (PySem.W.mg_of X G a11) b11
  have h_place_of := has_place_of (P := l.prog) (w := w) (C := ⟨K, mg⟩) (base := base) B  F12 (PySem.W.mg_of X G a12) b12
  have h_Index_insert := has_Index_insert (P := l.prog) (w := w) (C := ⟨K, mg⟩) (base := base) B cl_Index x_BadIndex h_check_bytes h_place_of h_separator F13 gC clsI ⟨a13, i13, k13⟩ b13
  have h_Index_remove := has_Index_remove (P := l.prog) (w := w) (C := ⟨K, mg⟩) (base := base) B cl_Index x_NotFound h_check_bytes h_place_of F14 gC clsI ⟨a14, i14, k14⟩ b14
  have h__law_error := has__law_error (P := l.prog) (w := w) (C := ⟨K, mg⟩) (base := base) B ct_BadRow xi_BadRow ct_BadScheme xi_BadScheme ct_BadBytes xi_BadBytes ct_NotFound xi_NotFound ct_BadText xi_BadText ct_BadIndex xi_BadIndex ct_KeyBytesError xi_KeyBytesError vn_ValueError xi_ValueError F15 (PySem.W.mg_of X G a15) b15
  have h__law_change := has__law_change (P := l.prog) (w := w) (C := ⟨K, mg⟩) (base := base) B xm_KeyBytesError h_Index_insert h_Index_remove h__law_error F16 (PySem.W.mg_of X G a16) b16
  have h__law_removed := has__law_removed (P := l.prog) (w := w) (C := ⟨K, mg⟩) (base := base) B  F17 (PySem.W.mg_of X G a17) b17
  have h_Index_layout := has_Index_layout (P := l.prog) (w := w) (C := ⟨K, mg⟩) (base := base) B cl_Index F18 gC clsI ⟨a18, i18, k18⟩ b18
  have h_Index_separators := has_Index_separators (P := l.prog) (w := w) (C := ⟨K, mg⟩) (base := base) B cl_Index F19 gC clsI ⟨a19, i19, k19⟩ b19
  have h_Index___len__ := has_Index___len__ (P := l.prog) (w := w) (C := ⟨K, mg⟩) (base := base) B cl_Index F20 gC clsI ⟨a20, i20, k20⟩ b20
  have h_check_keys := has_check_keys (P := l.prog) (w := w) (C := ⟨K, mg⟩) (base := base) B q_MOST_KEYS x_BadIndex h_is_bytes F21 (PySem.W.mg_of X G a21) b21
  have h_route := has_route (P := l.prog) (w := w) (C := ⟨K, mg⟩) (base := base) B h_check_keys h_check_bytes h_place_of F22 (PySem.W.mg_of X G a22) b22
  have h__law_true := has__law_true (P := l.prog) (w := w) (C := ⟨K, mg⟩) (base := base) B  F23 (PySem.W.mg_of X G a23) b23
  have h_Index_contains := has_Index_contains (P := l.prog) (w := w) (C := ⟨K, mg⟩) (base := base) B cl_Index h_check_bytes h_place_of F24 gC clsI ⟨a24, i24, k24⟩ b24
  have h_in_range := has_in_range (P := l.prog) (w := w) (C := ⟨K, mg⟩) (base := base) B  F25 (PySem.W.mg_of X G a25) b25
  have h_Index_find := has_Index_find (P := l.prog) (w := w) (C := ⟨K, mg⟩) (base := base) B x_BadBytes cl_Index h_check_bytes h_in_range F26 gC clsI ⟨a26, i26, k26⟩ b26
  have h__law_emptied := has__law_emptied (P := l.prog) (w := w) (C := ⟨K, mg⟩) (base := base) B h__law_pick h_Index_remove h__law_removed h_Index_layout h_Index_separators h_Index___len__ F27 (PySem.W.mg_of X G a27) b27
  exact (ok_law (C := ⟨K, mg⟩) B h__law_start h__law_draw h_Index___init__ h__law_string h__law_pick h__law_inserted h__law_change h__law_removed h_Index_layout h_Index_separators h_Index___len__ h_route h__law_true h_Index_contains h_Index_find h__law_emptied F28 (PySem.W.mg_of X G a28) b28).imp (law_imp (C := ⟨K, mg⟩) law_true)
end KB
open PySem PySem.W PyProof.Rows
set_option maxHeartbeats 0 in
theorem PySem.Challenge.cw_keybytes_k14_whole_index_holds : PySem.Challenge.rw_keybytes_k14_whole_index.Holds := by
  w_on; o_law; k_head; (case hw => w_witness2)
  k_fill
  refine L2.walk_of (l := PySem.Challenge.rw_keybytes_k14_whole_index) (n := 63) (k := 8) (x := "script") (CX := fun w => L2.CX PySem.Challenge.pw_keybytes_k14_whole_index w) (sp := fun w => KB.spLaw _ 63) rfl (by decide) rfl ⟨rfl, by decide, by decide⟩ (fun w h Y => PySem.W.kIn_of Y) ?F (fun _ H a ns hl _ hS => ⟨a, ns, rfl, hl, hS, fun _ => rfl⟩) (fun _ _ _ _ _ h => KB.cx_no h)
  case F =>
    intro w mg fa h KX G hmg
    refine' KB.all_mk KX G hmg ?aC ?pg_ ?hd_ ?po_ ?sa_ ?mk_ ?kc_ ?nS_ ?nB_ ?nM_ ?a0 ?l0 ?c0 ?k0 ?a1 ?l1 ?c1 ?k1 ?a2 ?l2 ?c2 ?k2 ?a3 ?i3 ?l3 ?c3 ?k3 ?a4 ?l4 ?c4 ?k4 ?a5 ?l5 ?c5 ?k5 ?a6 ?l6 ?c6 ?k6 ?a7 ?l7 ?c7 ?k7 ?a8 ?l8 ?c8 ?k8 ?a9 ?l9 ?c9 ?k9 ?a10 ?l10 ?c10 ?k10 ?a11 ?l11 ?c11 ?k11 ?a12 ?l12 ?c12 ?k12 ?a13 ?i13 ?l13 ?c13 ?k13 ?a14 ?i14 ?l14 ?c14 ?k14 ?a15 ?l15 ?c15 ?k15 ?a16 ?l16 ?c16 ?k16 ?a17 ?l17 ?c17 ?k17 ?a18 ?i18 ?l18 ?c18 ?k18 ?a19 ?i19 ?l19 ?c19 ?k19 ?a20 ?i20 ?l20 ?c20 ?k20 ?a21 ?l21 ?c21 ?k21 ?a22 ?l22 ?c22 ?k22 ?a23 ?l23 ?c23 ?k23 ?a24 ?i24 ?l24 ?c24 ?k24 ?a25 ?l25 ?c25 ?k25 ?a26 ?i26 ?l26 ?c26 ?k26 ?a27 ?l27 ?c27 ?k27 ?a28 ?l28 ?c28 ?k28 ?n_MOST_BLOCK ?n_MOST_LENGTH ?n_MOST_KEYS ?xa_BadIndex ?xe_BadIndex ?xk_BadIndex ?xs_BadIndex ?xt_BadIndex ?xa_BadBytes ?xe_BadBytes ?xk_BadBytes ?xs_BadBytes ?xt_BadBytes ?xa_NotFound ?xe_NotFound ?xk_NotFound ?xs_NotFound ?xt_NotFound ?ed_BadBytes ?xa_BadScheme ?xs_BadScheme ?xt_BadScheme ?ed_BadScheme ?xa_BadRow ?xs_BadRow ?xt_BadRow ?ed_BadRow ?ed_BadIndex ?xa_BadText ?xs_BadText ?xt_BadText ?ed_BadText ?ed_NotFound ?xa_KeyBytesError ?xs_KeyBytesError ?xt_KeyBytesError ?ed_KeyBytesError ?eg_BadBytes ?ek_BadBytes ?ea_BadBytes ?em_BadBytes ?sk_BadBytes ?sw_BadBytes ?nq_BadBytes ?sn_BadBytes_BadScheme ?nq_BadBytes_BadScheme ?sn_BadBytes_BadRow ?nq_BadBytes_BadRow ?sn_BadBytes_BadIndex ?nq_BadBytes_BadIndex ?sn_BadBytes_BadText ?nq_BadBytes_BadText ?sn_BadBytes_NotFound ?nq_BadBytes_NotFound ?eg_BadScheme ?ek_BadScheme ?ea_BadScheme ?em_BadScheme ?sk_BadScheme ?sw_BadScheme ?nq_BadScheme ?sn_BadScheme_BadBytes ?nq_BadScheme_BadBytes ?sn_BadScheme_BadRow ?nq_BadScheme_BadRow ?sn_BadScheme_BadIndex ?nq_BadScheme_BadIndex ?sn_BadScheme_BadText ?nq_BadScheme_BadText ?sn_BadScheme_NotFound ?nq_BadScheme_NotFound ?eg_BadRow ?ek_BadRow ?ea_BadRow ?em_BadRow ?sk_BadRow ?sw_BadRow ?nq_BadRow ?sn_BadRow_BadBytes ?nq_BadRow_BadBytes ?sn_BadRow_BadScheme ?nq_BadRow_BadScheme ?sn_BadRow_BadIndex ?nq_BadRow_BadIndex ?sn_BadRow_BadText ?nq_BadRow_BadText ?sn_BadRow_NotFound ?nq_BadRow_NotFound ?eg_BadIndex ?ek_BadIndex ?ea_BadIndex ?em_BadIndex ?sk_BadIndex ?sw_BadIndex ?nq_BadIndex ?sn_BadIndex_BadBytes ?nq_BadIndex_BadBytes ?sn_BadIndex_BadScheme ?nq_BadIndex_BadScheme ?sn_BadIndex_BadRow ?nq_BadIndex_BadRow ?sn_BadIndex_BadText ?nq_BadIndex_BadText ?sn_BadIndex_NotFound ?nq_BadIndex_NotFound ?eg_BadText ?ek_BadText ?ea_BadText ?em_BadText ?sk_BadText ?sw_BadText ?nq_BadText ?sn_BadText_BadBytes ?nq_BadText_BadBytes ?sn_BadText_BadScheme ?nq_BadText_BadScheme ?sn_BadText_BadRow ?nq_BadText_BadRow ?sn_BadText_BadIndex ?nq_BadText_BadIndex ?sn_BadText_NotFound ?nq_BadText_NotFound ?eg_NotFound ?ek_NotFound ?ea_NotFound ?em_NotFound ?sk_NotFound ?sw_NotFound ?nq_NotFound ?sn_NotFound_BadBytes ?nq_NotFound_BadBytes ?sn_NotFound_BadScheme ?nq_NotFound_BadScheme ?sn_NotFound_BadRow ?nq_NotFound_BadRow ?sn_NotFound_BadIndex ?nq_NotFound_BadIndex ?sn_NotFound_BadText ?nq_NotFound_BadText ?en_ ?et_ ?z_ValueError ?z_len ?z_range ?z_isinstance ?z_int ?z_bool ?z_tuple ?z_str ?z_list ?z_all ?z_min ?z_max ?z_sum ?z_abs ?z_sorted ?z_set ?z_enumerate ?z_zip
    (case aC => k_is); (case pg_ => k_is); (case hd_ => k_is); (case po_ => k_is); (case sa_ => k_is); (case mk_ => k_is); (case kc_ => k_is); (case nS_ => k_is); (case nB_ => k_is); (case nM_ => k_is); (case a0 => k_is); (case l0 => k_is); (case c0 => k_is); (case k0 => k_is); (case a1 => k_is); (case l1 => k_is); (case c1 => k_is); (case k1 => k_is); (case a2 => k_is); (case l2 => k_is); (case c2 => k_is); (case k2 => k_is); (case a3 => k_is); (case i3 => k_is); (case l3 => k_is); (case c3 => k_is); (case k3 => k_is); (case a4 => k_is); (case l4 => k_is); (case c4 => k_is); (case k4 => k_is); (case a5 => k_is); (case l5 => k_is); (case c5 => k_is); (case k5 => k_is); (case a6 => k_is); (case l6 => k_is); (case c6 => k_is); (case k6 => k_is); (case a7 => k_is); (case l7 => k_is); (case c7 => k_is); (case k7 => k_is); (case a8 => k_is); (case l8 => k_is); (case c8 => k_is); (case k8 => k_is); (case a9 => k_is); (case l9 => k_is); (case c9 => k_is); (case k9 => k_is); (case a10 => k_is); (case l10 => k_is); (case c10 => k_is); (case k10 => k_is); (case a11 => k_is); (case l11 => k_is); (case c11 => k_is); (case k11 => k_is); (case a12 => k_is); (case l12 => k_is); (case c12 => k_is); (case k12 => k_is); (case a13 => k_is); (case i13 => k_is); (case l13 => k_is); (case c13 => k_is); (case k13 => k_is); (case a14 => k_is); (case i14 => k_is); (case l14 => k_is); (case c14 => k_is); (case k14 => k_is); (case a15 => k_is); (case l15 => k_is); (case c15 => k_is); (case k15 => k_is); (case a16 => k_is); (case l16 => k_is); (case c16 => k_is); (case k16 => k_is); (case a17 => k_is); (case l17 => k_is); (case c17 => k_is); (case k17 => k_is); (case a18 => k_is); (case i18 => k_is); (case l18 => k_is); (case c18 => k_is); (case k18 => k_is); (case a19 => k_is); (case i19 => k_is); (case l19 => k_is); (case c19 => k_is); (case k19 => k_is); (case a20 => k_is); (case i20 => k_is); (case l20 => k_is); (case c20 => k_is); (case k20 => k_is); (case a21 => k_is); (case l21 => k_is); (case c21 => k_is); (case k21 => k_is); (case a22 => k_is); (case l22 => k_is); (case c22 => k_is); (case k22 => k_is); (case a23 => k_is); (case l23 => k_is); (case c23 => k_is); (case k23 => k_is); (case a24 => k_is); (case i24 => k_is); (case l24 => k_is); (case c24 => k_is); (case k24 => k_is); (case a25 => k_is); (case l25 => k_is); (case c25 => k_is); (case k25 => k_is); (case a26 => k_is); (case i26 => k_is); (case l26 => k_is); (case c26 => k_is); (case k26 => k_is); (case a27 => k_is); (case l27 => k_is); (case c27 => k_is); (case k27 => k_is); (case a28 => k_is); (case l28 => k_is); (case c28 => k_is); (case k28 => k_is); (case n_MOST_BLOCK => k_is); (case n_MOST_LENGTH => k_is); (case n_MOST_KEYS => k_is); (case xa_BadIndex => k_is); (case xe_BadIndex => k_exc); (case xk_BadIndex => k_is); (case xs_BadIndex => k_is); (case xt_BadIndex => k_is); (case xa_BadBytes => k_is); (case xe_BadBytes => k_exc); (case xk_BadBytes => k_is); (case xs_BadBytes => k_is); (case xt_BadBytes => k_is); (case xa_NotFound => k_is); (case xe_NotFound => k_exc); (case xk_NotFound => k_is); (case xs_NotFound => k_is); (case xt_NotFound => k_is); (case ed_BadBytes => k_is); (case xa_BadScheme => k_is); (case xs_BadScheme => k_is); (case xt_BadScheme => k_is); (case ed_BadScheme => k_is); (case xa_BadRow => k_is); (case xs_BadRow => k_is); (case xt_BadRow => k_is); (case ed_BadRow => k_is); (case ed_BadIndex => k_is); (case xa_BadText => k_is); (case xs_BadText => k_is); (case xt_BadText => k_is); (case ed_BadText => k_is); (case ed_NotFound => k_is); (case xa_KeyBytesError => k_is); (case xs_KeyBytesError => k_is); (case xt_KeyBytesError => k_is); (case ed_KeyBytesError => k_is); (case eg_BadBytes => k_is); (case ek_BadBytes => k_is); (case ea_BadBytes => k_is); (case em_BadBytes => k_is); (case sk_BadBytes => k_is); (case sw_BadBytes => k_is); (case nq_BadBytes => decide); (case sn_BadBytes_BadScheme => k_is); (case nq_BadBytes_BadScheme => decide); (case sn_BadBytes_BadRow => k_is); (case nq_BadBytes_BadRow => decide); (case sn_BadBytes_BadIndex => k_is); (case nq_BadBytes_BadIndex => decide); (case sn_BadBytes_BadText => k_is); (case nq_BadBytes_BadText => decide); (case sn_BadBytes_NotFound => k_is); (case nq_BadBytes_NotFound => decide); (case eg_BadScheme => k_is); (case ek_BadScheme => k_is); (case ea_BadScheme => k_is); (case em_BadScheme => k_is); (case sk_BadScheme => k_is); (case sw_BadScheme => k_is); (case nq_BadScheme => decide); (case sn_BadScheme_BadBytes => k_is); (case nq_BadScheme_BadBytes => decide); (case sn_BadScheme_BadRow => k_is); (case nq_BadScheme_BadRow => decide); (case sn_BadScheme_BadIndex => k_is); (case nq_BadScheme_BadIndex => decide); (case sn_BadScheme_BadText => k_is); (case nq_BadScheme_BadText => decide); (case sn_BadScheme_NotFound => k_is); (case nq_BadScheme_NotFound => decide); (case eg_BadRow => k_is); (case ek_BadRow => k_is); (case ea_BadRow => k_is); (case em_BadRow => k_is); (case sk_BadRow => k_is); (case sw_BadRow => k_is); (case nq_BadRow => decide); (case sn_BadRow_BadBytes => k_is); (case nq_BadRow_BadBytes => decide); (case sn_BadRow_BadScheme => k_is); (case nq_BadRow_BadScheme => decide); (case sn_BadRow_BadIndex => k_is); (case nq_BadRow_BadIndex => decide); (case sn_BadRow_BadText => k_is); (case nq_BadRow_BadText => decide); (case sn_BadRow_NotFound => k_is); (case nq_BadRow_NotFound => decide); (case eg_BadIndex => k_is); (case ek_BadIndex => k_is); (case ea_BadIndex => k_is); (case em_BadIndex => k_is); (case sk_BadIndex => k_is); (case sw_BadIndex => k_is); (case nq_BadIndex => decide); (case sn_BadIndex_BadBytes => k_is); (case nq_BadIndex_BadBytes => decide); (case sn_BadIndex_BadScheme => k_is); (case nq_BadIndex_BadScheme => decide); (case sn_BadIndex_BadRow => k_is); (case nq_BadIndex_BadRow => decide); (case sn_BadIndex_BadText => k_is); (case nq_BadIndex_BadText => decide); (case sn_BadIndex_NotFound => k_is); (case nq_BadIndex_NotFound => decide); (case eg_BadText => k_is); (case ek_BadText => k_is); (case ea_BadText => k_is); (case em_BadText => k_is); (case sk_BadText => k_is); (case sw_BadText => k_is); (case nq_BadText => decide); (case sn_BadText_BadBytes => k_is); (case nq_BadText_BadBytes => decide); (case sn_BadText_BadScheme => k_is); (case nq_BadText_BadScheme => decide); (case sn_BadText_BadRow => k_is); (case nq_BadText_BadRow => decide); (case sn_BadText_BadIndex => k_is); (case nq_BadText_BadIndex => decide); (case sn_BadText_NotFound => k_is); (case nq_BadText_NotFound => decide); (case eg_NotFound => k_is); (case ek_NotFound => k_is); (case ea_NotFound => k_is); (case em_NotFound => k_is); (case sk_NotFound => k_is); (case sw_NotFound => k_is); (case nq_NotFound => decide); (case sn_NotFound_BadBytes => k_is); (case nq_NotFound_BadBytes => decide); (case sn_NotFound_BadScheme => k_is); (case nq_NotFound_BadScheme => decide); (case sn_NotFound_BadRow => k_is); (case nq_NotFound_BadRow => decide); (case sn_NotFound_BadIndex => k_is); (case nq_NotFound_BadIndex => decide); (case sn_NotFound_BadText => k_is); (case nq_NotFound_BadText => decide); (case en_ => k_is); (case et_ => k_is); (case z_ValueError => k_is); (case z_len => k_is); (case z_range => k_is); (case z_isinstance => k_is); (case z_int => k_is); (case z_bool => k_is); (case z_tuple => k_is); (case z_str => k_is); (case z_list => k_is); (case z_all => k_is); (case z_min => k_is); (case z_max => k_is); (case z_sum => k_is); (case z_abs => k_is); (case z_sorted => k_is); (case z_set => k_is); (case z_enumerate => k_is); (case z_zip => k_is)
