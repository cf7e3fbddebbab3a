import PyProof.Rows.All
import Wide.All
import OpenK.AllK
import Wide.FinOn
import HandS.ForMost
import HandS.Evl
import HandS.SortInts
import HandS.IsInst
import HandS.Exc
import HandS.TryOnly
import HandS.ExcOwn
import HandS.WordsExc
import PyProof.Rows.RaiseClass
import KE.GoesEnum
import KE.GoesMore
import PySem.Challenge.RW_latestart_k12_whole_latest_plans_work
set_option Elab.async false
set_option linter.all false
set_option autoImplicit false
set_option maxRecDepth 100000
set_option maxHeartbeats 4000000
/-! A layer of plain data over the hand layer: heaps out of sight. -/
namespace K12
open PySem L2 Evl

/-! ### data -/
inductive T where
  | int (i : Int) | str (s : Str) | bl (b : Bool) | non | tup (ts : List T)

mutual
def Rep (H : Hp) : T → V → Prop
  | .int i, v => v = .int i
  | .str s, v => v = .str s
  | .bl b, v => v = .bl b
  | .non, v => v = .non
  | .tup ts, v => ∃ a xs, v = .ref a ∧ H a = some (.tup xs) ∧ RepL H ts xs
def RepL (H : Hp) : List T → List V → Prop
  | [], vs => vs = []
  | t :: ts, vs => ∃ v r, vs = v :: r ∧ Rep H t v ∧ RepL H ts r
end

def TK (H H' : Hp) : Prop := ∀ a xs, H a = some (.tup xs) → H' a = some (.tup xs)
theorem TK.refl (H : Hp) : TK H H := fun _ _ h => h
theorem TK.trans {H H1 H2 : Hp} (a : TK H H1) (b : TK H1 H2) : TK H H2 := fun x o h => b x o (a x o h)

mutual
theorem Rep.tk {H H' : Hp} (k : TK H H') : ∀ (t : T) (v : V), Rep H t v → Rep H' t v
  | .int _, _, h => by simpa only [Rep] using h
  | .str _, _, h => by simpa only [Rep] using h
  | .bl _, _, h => by simpa only [Rep] using h
  | .non, _, h => by simpa only [Rep] using h
  | .tup ts, v, h => by
    simp only [Rep] at h ⊢
    obtain ⟨a, xs, e, h, r⟩ := h
    exact ⟨a, xs, e, k _ _ h, RepL.tk k ts xs r⟩
theorem RepL.tk {H H' : Hp} (k : TK H H') : ∀ (ts : List T) (vs : List V), RepL H ts vs → RepL H' ts vs
  | [], _, h => by simpa only [RepL] using h
  | t :: ts, vs, h => by
    simp only [RepL] at h ⊢
    obtain ⟨v, r, e, h1, h2⟩ := h
    exact ⟨v, r, e, Rep.tk k t v h1, RepL.tk k ts r h2⟩
end

section
variable {H H' : Hp}
theorem rep_int {i : Int} {v : V} : Rep H (.int i) v ↔ v = .int i := by simp only [Rep]
theorem rep_str {i : Str} {v : V} : Rep H (.str i) v ↔ v = .str i := by simp only [Rep]
theorem rep_bl {i : Bool} {v : V} : Rep H (.bl i) v ↔ v = .bl i := by simp only [Rep]
theorem rep_non {v : V} : Rep H .non v ↔ v = .non := by simp only [Rep]
theorem rep_tup {ts : List T} {v : V} : Rep H (.tup ts) v ↔ ∃ a xs, v = .ref a ∧ H a = some (.tup xs) ∧ RepL H ts xs := by simp only [Rep]
theorem repL_nil {vs : List V} : RepL H [] vs ↔ vs = [] := by simp only [RepL]
theorem repL_cons {t : T} {ts : List T} {vs : List V} : RepL H (t :: ts) vs ↔ ∃ v r, vs = v :: r ∧ Rep H t v ∧ RepL H ts r := by simp only [RepL]

theorem RepL.len : ∀ {ts : List T} {vs : List V}, RepL H ts vs → vs.length = ts.length
  | [], vs, h => by rw [repL_nil.mp h]; rfl
  | t :: ts, vs, h => by
    obtain ⟨v, r, e, _, h2⟩ := repL_cons.mp h
    rw [e, List.length_cons, List.length_cons, RepL.len h2]
theorem RepL.get : ∀ {ts : List T} {vs : List V} {i : Nat} {t : T}, RepL H ts vs → ts[i]? = some t → ∃ v, vs[i]? = some v ∧ Rep H t v
  | [], _, _, _, _, e => by simp at e
  | t :: ts, vs, 0, u, h, e => by
    obtain ⟨v, r, rfl, h1, h2⟩ := repL_cons.mp h
    simp only [List.getElem?_cons_zero, Option.some.injEq] at e
    subst e
    exact ⟨v, by simp, h1⟩
  | t :: ts, vs, i + 1, u, h, e => by
    obtain ⟨v, r, rfl, h1, h2⟩ := repL_cons.mp h
    simp only [List.getElem?_cons_succ] at e
    obtain ⟨w, hw, hr⟩ := RepL.get h2 e
    exact ⟨w, by simpa using hw, hr⟩
theorem RepL.back {ts : List T} {vs : List V} {i : Nat} {v : V} (h : RepL H ts vs) (e : vs[i]? = some v) : ∃ t, ts[i]? = some t ∧ Rep H t v := by
  have hl := h.len
  have hi : i < vs.length := (List.getElem?_eq_some_iff.mp e).1
  have ht : ts[i]? = some (ts[i]'(by omega)) := List.getElem?_eq_getElem (by omega)
  obtain ⟨w, hw, hr⟩ := h.get ht
  rw [e] at hw
  cases hw
  exact ⟨_, ht, hr⟩
theorem RepL.app : ∀ {ts us : List T} {vs ws : List V}, RepL H ts vs → RepL H us ws → RepL H (ts ++ us) (vs ++ ws)
  | [], us, vs, ws, h, h' => by rw [repL_nil.mp h]; exact h'
  | t :: ts, us, vs, ws, h, h' => by
    obtain ⟨v, r, rfl, h1, h2⟩ := repL_cons.mp h
    exact repL_cons.mpr ⟨v, r ++ ws, rfl, h1, h2.app h'⟩
theorem RepL.one {t : T} {v : V} (h : Rep H t v) : RepL H [t] [v] := repL_cons.mpr ⟨v, [], rfl, h, repL_nil.mpr rfl⟩
theorem RepL.set : ∀ {ts : List T} {vs : List V} {j : Nat} {t : T} {v : V}, RepL H ts vs → Rep H t v → RepL H (ts.set j t) (vs.set j v)
  | [], vs, j, t, v, h, _ => by rw [repL_nil.mp h]; exact repL_nil.mpr rfl
  | u :: ts, vs, 0, t, v, h, q => by
    obtain ⟨w, r, rfl, h1, h2⟩ := repL_cons.mp h
    exact repL_cons.mpr ⟨v, r, rfl, q, h2⟩
  | u :: ts, vs, j + 1, t, v, h, q => by
    obtain ⟨w, r, rfl, h1, h2⟩ := repL_cons.mp h
    exact repL_cons.mpr ⟨w, r.set j v, rfl, h1, h2.set q⟩
theorem RepL.ints : ∀ {ns : List Int} {vs : List V}, RepL H (ns.map T.int) vs → vs = ns.map V.int
  | [], vs, h => repL_nil.mp h
  | n :: ns, vs, h => by
    obtain ⟨v, r, rfl, h1, h2⟩ := repL_cons.mp (show RepL H (T.int n :: ns.map T.int) vs from h)
    rw [rep_int.mp h1, RepL.ints h2, List.map_cons]
theorem repL_ints : ∀ {ns : List Int}, RepL H (ns.map T.int) (ns.map V.int)
  | [] => repL_nil.mpr rfl
  | n :: ns => repL_cons.mpr ⟨_, _, rfl, rep_int.mpr rfl, repL_ints⟩
theorem RepL.bls : ∀ {ns : List Bool} {vs : List V}, RepL H (ns.map T.bl) vs → vs = ns.map V.bl
  | [], vs, h => repL_nil.mp h
  | n :: ns, vs, h => by
    obtain ⟨v, r, rfl, h1, h2⟩ := repL_cons.mp (show RepL H (T.bl n :: ns.map T.bl) vs from h)
    rw [rep_bl.mp h1, RepL.bls h2, List.map_cons]
theorem RepL.strs : ∀ {ns : List Str} {vs : List V}, RepL H (ns.map T.str) vs → vs = ns.map V.str
  | [], vs, h => repL_nil.mp h
  | n :: ns, vs, h => by
    obtain ⟨v, r, rfl, h1, h2⟩ := repL_cons.mp (show RepL H (T.str n :: ns.map T.str) vs from h)
    rw [rep_str.mp h1, RepL.strs h2, List.map_cons]
theorem RepL.at_ {ts : List T} {vs : List V} {i : Int} {t : T} (h : RepL H ts vs) (e : atI ts i = some t) : ∃ v, atI vs i = some v ∧ Rep H t v := by
  unfold atI at e ⊢
  rw [h.len]
  cases hx : ixN ts.length i with
  | none => rw [hx] at e; cases e
  | some j =>
    rw [hx] at e
    exact h.get (show ts[j]? = some t from e)
end

/-! ### the box of the draws -/
structure BoxAt (H : Hp) (b g : Addr) : Prop where
  ne : b ≠ g
  ex : ∃ (j : Nat) (ds : List Int), H b = some (.lst [.ref g, .int (j : Int)]) ∧ H g = some (.lst (ds.map V.int))
abbrev BX := Option (Addr × Addr)
def NB (bx : BX) (a : Addr) : Prop := ∀ b g, bx = some (b, g) → a ≠ b
def BoxOk (bx : BX) (H : Hp) : Prop := ∀ b g, bx = some (b, g) → BoxAt H b g
theorem NB.no {a : Addr} : NB none a := fun _ _ h => nomatch h
theorem BoxOk.no {H : Hp} : BoxOk none H := fun _ _ h => nomatch h
theorem BoxOk.fresh {bx : BX} {H : Hp} (k : BoxOk bx H) {p : Addr} (h : H p = none) : NB bx p := fun b g e q => by
  obtain ⟨_, j, ds, h1, h2⟩ := k b g e
  rw [q, h1] at h
  cases h

/-- how a heap may go on: all that is tracked is kept, but the box, which stays a box -/
structure JB (bx : BX) (H H' : Hp) : Prop where
  keep : ∀ a o, NB bx a → H a = some o → H' a = some o
  box : BoxOk bx H → BoxOk bx H'
  tk : TK H H'
section
variable {bx : BX} {H H1 H2 H' : Hp}
theorem JB.refl (H : Hp) : JB bx H H := ⟨fun _ _ _ h => h, fun h => h, TK.refl H⟩
theorem JB.trans (a : JB bx H H1) (b : JB bx H1 H2) : JB bx H H2 := ⟨fun x o n h => b.keep x o n (a.keep x o n h), fun h => b.box (a.box h), a.tk.trans b.tk⟩
theorem JB.mut {p : Addr} {o : HO} (a : JB bx H H') (n : H p = none) : JB bx H (upd H' p o) :=
  ⟨fun x u nx h => by rw [upd_ne (ne_of_none h n)]; exact a.keep x u nx h, fun k b g e => by
    obtain ⟨hn, j, ds, h1, h2⟩ := k b g e
    obtain ⟨_, j', ds', h1', h2'⟩ := a.box k b g e
    exact ⟨hn, j', ds', by rw [upd_ne (ne_of_none h1 n)]; exact h1', by rw [upd_ne (ne_of_none h2 n)]; exact h2'⟩,
   fun x u h => by rw [upd_ne (ne_of_none h n)]; exact a.tk x u h⟩
theorem JB.new {p : Addr} {o : HO} (n : H p = none) : JB bx H (upd H p o) := (JB.refl H).mut n
theorem JB.back {p : Addr} (a : JB bx H H') (k : BoxOk bx H) (h : H' p = none) : H p = none := by
  cases e : H p with
  | none => rfl
  | some o =>
    by_cases nb : NB bx p
    · rw [a.keep p o nb e] at h; cases h
    · exact absurd (fun b g e' => ((a.box k).fresh h) b g e') nb
theorem JB.of_ex (e : Ex H H') : JB none H H' := ⟨fun a o _ h => e a o h, fun _ => BoxOk.no, fun a xs h => e a _ h⟩
theorem JB.ex (e : JB none H H') : Ex H H' := fun a o h => e.keep a o NB.no h
end

/-! ### a list that is read -/
section
variable (K : PySem.W.Frag) (bx : BX)
def RdL (H : Hp) (ts : List T) (v : V) : Prop := ∃ a xs, v = .ref a ∧ NB bx a ∧ SqL K H a xs ∧ RepL H ts xs
end
section
variable {K : PySem.W.Frag} {bx : BX} {H H' : Hp}
theorem JB.sqL {a : Addr} {xs : List V} (e : JB bx H H') (n : NB bx a) (h : SqL K H a xs) : SqL K H' a xs := by
  rcases h with (h | ⟨o, h⟩) | h
  · exact Or.inl (Or.inl (e.keep a _ n h))
  · exact Or.inl (Or.inr ⟨o, e.keep a _ n h⟩)
  · exact Or.inr h
theorem RdL.go {ts : List T} {v : V} (e : JB bx H H') (h : RdL K bx H ts v) : RdL K bx H' ts v := by
  obtain ⟨a, xs, q, n, s, r⟩ := h
  exact ⟨a, xs, q, n, e.sqL n s, RepL.tk e.tk _ _ r⟩
end

/-! ### what stands in a slot -/
inductive A where
  | x | t (d : T) | l (ts : List T) | b | o (a : Addr) (ts : List T) | oo (a : Addr) (bs : List Addr) (tss : List (List T))
def A.own : A → List Addr
  | .o a _ => [a]
  | .oo a bs _ => a :: bs
  | _ => []
def OwnL (bx : BX) (H0 H : Hp) (a : Addr) (ts : List T) : Prop := NB bx a ∧ H0 a = none ∧ ∃ xs, H a = some (.lst xs) ∧ RepL H ts xs
def SlotOk (K : PySem.W.Frag) (bx : BX) (H0 H : Hp) : A → Option V → Prop
  | .x, _ => True
  | .t d, o => ∃ v, o = some v ∧ Rep H d v
  | .l ts, o => ∃ v, o = some v ∧ RdL K bx H0 ts v
  | .b, o => ∃ b g, bx = some (b, g) ∧ o = some (.ref b)
  | .o a ts, o => o = some (.ref a) ∧ OwnL bx H0 H a ts
  | .oo a bs tss, o => o = some (.ref a) ∧ NB bx a ∧ H0 a = none ∧ H a = some (.lst (bs.map .ref)) ∧ (a :: bs).Nodup ∧ bs.length = tss.length ∧ ∀ (i : Nat) (b : Addr) (ts : List T), bs[i]? = some b → tss[i]? = some ts → OwnL bx H0 H b ts
/-- the state: F lists that are walked, H0 the heap at the entry -/
structure SI (K : PySem.W.Frag) (bx : BX) (F : List (Addr × List V)) (H0 H : Hp) (as : List A) (σ : L2.St) : Prop where
  ev : JB bx H0 H
  box : BoxOk bx H0
  len : σ.length = as.length
  slot : ∀ (i : Nat) (x : A), as[i]? = some x → ∃ o, σ[i]? = some o ∧ SlotOk K bx H0 H x o
  dj : ∀ (i j : Nat) (x y : A) (a : Addr), as[i]? = some x → as[j]? = some y → a ∈ x.own → a ∈ y.own → i = j
  fr : ∀ p, p ∈ F → NB bx p.1 ∧ H p.1 = some (.lst p.2) ∧ ∀ (i : Nat) (x : A), as[i]? = some x → p.1 ∉ x.own
section
variable {K : PySem.W.Frag} {bx : BX} {F : List (Addr × List V)} {H0 H H' : Hp} {as : List A} {σ : L2.St}
theorem OwnL.go {a : Addr} {ts : List T} (e : JB bx H H') (h : OwnL bx H0 H a ts) : OwnL bx H0 H' a ts := by
  obtain ⟨n, h0, xs, h1, r⟩ := h
  exact ⟨n, h0, xs, e.keep a _ n h1, RepL.tk e.tk _ _ r⟩
theorem SlotOk.go {x : A} {o : Option V} (e : JB bx H H') (h : SlotOk K bx H0 H x o) : SlotOk K bx H0 H' x o := by
  cases x with
  | x => trivial
  | t d => obtain ⟨v, q, r⟩ := h; exact ⟨v, q, Rep.tk e.tk _ _ r⟩
  | l ts => exact h
  | b => exact h
  | o a ts => exact ⟨h.1, h.2.go e⟩
  | oo a bs tss =>
    obtain ⟨q, n, h0, h1, nd, hl, h2⟩ := h
    exact ⟨q, n, h0, e.keep a _ n h1, nd, hl, fun i b ts e1 e2 => (h2 i b ts e1 e2).go e⟩
theorem SI.boxH (S : SI K bx F H0 H as σ) : BoxOk bx H := S.ev.box S.box
theorem SI.go (e : JB bx H H') (S : SI K bx F H0 H as σ) : SI K bx F H0 H' as σ :=
  ⟨S.ev.trans e, S.box, S.len, fun i x h => let ⟨o, a, b⟩ := S.slot i x h; ⟨o, a, b.go e⟩, S.dj, fun p hp => let ⟨a, b, c⟩ := S.fr p hp; ⟨a, e.keep _ _ a b, c⟩⟩
theorem SI.at_ (S : SI K bx F H0 H as σ) {i : Nat} {d : T} (h : as[i]? = some (.t d)) : ∃ v, σ[i]? = some (some v) ∧ Rep H d v := by
  obtain ⟨o, h1, v, rfl, r⟩ := S.slot i _ h
  exact ⟨v, h1, r⟩
theorem own_there {x : A} {o : Option V} {a : Addr} (h : SlotOk K bx H0 H x o) (ha : a ∈ x.own) : NB bx a ∧ H0 a = none ∧ ∃ xs, H a = some (.lst xs) := by
  cases x with
  | o b ts =>
    have e : a = b := by simpa [A.own] using ha
    subst e
    obtain ⟨_, n, h0, xs, h1, _⟩ := h
    exact ⟨n, h0, xs, h1⟩
  | oo b bs tss =>
    obtain ⟨_, n, h0, h1, nd, hl, h2⟩ := h
    have e : a = b ∨ a ∈ bs := by simpa [A.own] using ha
    rcases e with e | e
    · subst e; exact ⟨n, h0, _, h1⟩
    · obtain ⟨i, hi, e⟩ := List.getElem_of_mem e
      obtain ⟨n', h0', xs, h1', _⟩ := h2 i a (tss[i]'(by omega)) (by rw [List.getElem?_eq_getElem hi, e]) (List.getElem?_eq_getElem (by omega))
      exact ⟨n', h0', xs, h1'⟩
  | x => simp [A.own] at ha
  | t d => simp [A.own] at ha
  | l d => simp [A.own] at ha
  | b => simp [A.own] at ha
theorem SI.own_some (S : SI K bx F H0 H as σ) {i : Nat} {x : A} {a : Addr} (h : as[i]? = some x) (ha : a ∈ x.own) : NB bx a ∧ H0 a = none ∧ ∃ xs, H a = some (.lst xs) := by
  obtain ⟨o, _, k⟩ := S.slot i x h
  exact own_there k ha
/-- a slot is stored anew -/
theorem SI.set (S : SI K bx F H0 H as σ) {i : Nat} {x : A} {o : Option V} (k : SlotOk K bx H0 H x o) (d1 : ∀ a, a ∈ x.own → ∀ (j : Nat) (y : A), j ≠ i → as[j]? = some y → a ∉ y.own) (d2 : ∀ a, a ∈ x.own → ∀ p, p ∈ F → p.1 ≠ a) : SI K bx F H0 H (as.set i x) (σ.set i o) := by
  refine ⟨S.ev, S.box, by rw [List.length_set, List.length_set, S.len], fun j y h => ?_, fun j k' y z a h1 h2 m1 m2 => ?_, fun p hp => ?_⟩
  · by_cases e : i = j
    · subst e
      have hi : i < as.length := by have := (List.getElem?_eq_some_iff.mp h).1; rwa [List.length_set] at this
      rw [List.getElem?_set_self hi] at h
      cases h
      exact ⟨o, List.getElem?_set_self (by rw [S.len]; exact hi), k⟩
    · rw [List.getElem?_set_ne e] at h
      obtain ⟨o', h1, h2⟩ := S.slot j y h
      exact ⟨o', by rw [List.getElem?_set_ne e]; exact h1, h2⟩
  · have get : ∀ (j : Nat) (y : A), (as.set i x)[j]? = some y → (j = i ∧ y = x) ∨ (j ≠ i ∧ as[j]? = some y) := fun j y h => by
      by_cases e : i = j
      · subst e
        have hi : i < as.length := by have := (List.getElem?_eq_some_iff.mp h).1; rwa [List.length_set] at this
        rw [List.getElem?_set_self hi] at h
        cases h
        exact .inl ⟨rfl, rfl⟩
      · rw [List.getElem?_set_ne e] at h
        exact .inr ⟨fun q => e q.symm, h⟩
    rcases get j y h1 with ⟨rfl, rfl⟩ | ⟨n1, g1⟩
    · rcases get k' z h2 with ⟨rfl, rfl⟩ | ⟨n2, g2⟩
      · rfl
      · exact absurd m2 (d1 a m1 k' z n2 g2)
    · rcases get k' z h2 with ⟨rfl, rfl⟩ | ⟨n2, g2⟩
      · exact absurd m1 (d1 a m2 j y n1 g1)
      · exact S.dj j k' y z a g1 g2 m1 m2
  · obtain ⟨n, h1, h2⟩ := S.fr p hp
    refine ⟨n, h1, fun j y h m => ?_⟩
    by_cases e : i = j
    · subst e
      have hi : i < as.length := by have := (List.getElem?_eq_some_iff.mp h).1; rwa [List.length_set] at this
      rw [List.getElem?_set_self hi] at h
      cases h
      exact d2 _ m p hp rfl
    · rw [List.getElem?_set_ne e] at h
      exact h2 j y h m
theorem SI.setT (S : SI K bx F H0 H as σ) {i : Nat} {d : T} {v : V} (r : Rep H d v) : SI K bx F H0 H (as.set i (.t d)) (σ.set i (some v)) :=
  S.set (x := .t d) ⟨v, rfl, r⟩ (fun _ h => by simp [A.own] at h) fun _ h => by simp [A.own] at h
theorem SI.setX (S : SI K bx F H0 H as σ) {i : Nat} {o : Option V} : SI K bx F H0 H (as.set i .x) (σ.set i o) :=
  S.set (x := .x) trivial (fun _ h => by simp [A.own] at h) fun _ h => by simp [A.own] at h
/-- a new list is stored -/
theorem SI.setN (S : SI K bx F H0 H as σ) (e : JB bx H H') {i : Nat} {p : Addr} {xs : List V} {ts : List T} (hp : H p = none) (h1 : H' p = some (.lst xs)) (r : RepL H' ts xs) : SI K bx F H0 H' (as.set i (.o p ts)) (σ.set i (some (.ref p))) := by
  refine (S.go e).set (x := .o p ts) ⟨rfl, S.boxH.fresh hp, S.ev.back S.box hp, xs, h1, r⟩ (fun a h j y _ g m => ?_) (fun a h q hq z => ?_)
  · have e1 : a = p := by simpa [A.own] using h
    subst e1
    obtain ⟨_, _, ys, g1⟩ := S.own_some g m
    rw [hp] at g1; cases g1
  · have e1 : a = p := by simpa [A.own] using h
    subst e1
    have g1 := (S.fr q hq).2.1
    rw [z, hp] at g1; cases g1
/-- an own list is written -/
theorem SI.wr (S : SI K bx F H0 H as σ) {i : Nat} {a : Addr} {ts us : List T} {ys : List V} (h : as[i]? = some (.o a ts)) (r : RepL H us ys) : SI K bx F H0 (upd H a (.lst ys)) (as.set i (.o a us)) σ ∧ TK H (upd H a (.lst ys)) := by
  obtain ⟨o, h1, q, nb, h0, xs, h2, _⟩ := S.slot i _ h
  have ia : a ∈ (A.o a ts).own := by simp [A.own]
  have tk : TK H (upd H a (.lst ys)) := fun b zs e => by
    have n : b ≠ a := fun z => by rw [z, h2] at e; cases e
    rw [upd_ne n]; exact e
  have own : ∀ (j : Nat) (y : A) (b : Addr), j ≠ i → as[j]? = some y → b ∈ y.own → b ≠ a := fun j y b n g m z => n (S.dj j i y _ a g h (z ▸ m) ia)
  have ol : ∀ b ts, b ≠ a → OwnL bx H0 H b ts → OwnL bx H0 (upd H a (.lst ys)) b ts := fun b ts n ⟨x1, x2, zs, x3, x4⟩ => ⟨x1, x2, zs, by rw [upd_ne n]; exact x3, RepL.tk tk _ _ x4⟩
  have so : ∀ (j : Nat) (y : A) (o : Option V), j ≠ i → as[j]? = some y → SlotOk K bx H0 H y o → SlotOk K bx H0 (upd H a (.lst ys)) y o := fun j y o n g k => by
    cases y with
    | x => trivial
    | t d => obtain ⟨v, e, r⟩ := k; exact ⟨v, e, Rep.tk tk _ _ r⟩
    | l ts => exact k
    | b => exact k
    | o b ts => exact ⟨k.1, ol b ts (own j _ b n g (by simp [A.own])) k.2⟩
    | oo b bs tss =>
      obtain ⟨k1, k2, k3, k4, k5, k6, k7⟩ := k
      refine ⟨k1, k2, k3, by rw [upd_ne (own j _ b n g (by simp [A.own]))]; exact k4, k5, k6, fun m c ts e1 e2 => ol c ts (own j _ c n g ?_) (k7 m c ts e1 e2)⟩
      simp only [A.own, List.mem_cons]
      exact .inr (List.mem_of_getElem? e1)
  have hi : i < as.length := (List.getElem?_eq_some_iff.mp h).1
  refine ⟨⟨S.ev.mut h0, S.box, by rw [List.length_set, S.len], fun j y g => ?_, fun j k y z b g1 g2 m1 m2 => ?_, fun p hp => ?_⟩, tk⟩
  · by_cases e : i = j
    · subst e
      rw [List.getElem?_set_self hi] at g
      cases g
      exact ⟨o, h1, q, nb, h0, ys, upd_same, RepL.tk tk _ _ r⟩
    · rw [List.getElem?_set_ne e] at g
      obtain ⟨o', g1, g2⟩ := S.slot j y g
      exact ⟨o', g1, so j y o' (fun z => e z.symm) g g2⟩
  · have get : ∀ (j : Nat) (y : A), (as.set i (.o a us))[j]? = some y → ∃ y', as[j]? = some y' ∧ y'.own = y.own := fun j y g => by
      by_cases e : i = j
      · subst e
        rw [List.getElem?_set_self hi] at g
        cases g
        exact ⟨_, h, rfl⟩
      · rw [List.getElem?_set_ne e] at g
        exact ⟨y, g, rfl⟩
    obtain ⟨y', e1, e2⟩ := get j y g1
    obtain ⟨z', e3, e4⟩ := get k z g2
    exact S.dj j k y' z' b e1 e3 (e2 ▸ m1) (e4 ▸ m2)
  · obtain ⟨n, f1, f2⟩ := S.fr p hp
    have na : p.1 ≠ a := fun z => f2 i _ h (z ▸ ia)
    refine ⟨n, by rw [upd_ne na]; exact f1, fun j y g m => ?_⟩
    by_cases e : i = j
    · subst e
      rw [List.getElem?_set_self hi] at g
      cases g
      exact f2 i _ h m
    · rw [List.getElem?_set_ne e] at g
      exact f2 j y g m
end

/-! ### judgements of expressions -/
section
variable (K : PySem.W.Frag) (bx : BX)
def EvT (te : TE) (as : List A) (P : T → Prop) : Prop := ∀ F H0 H σ, SI K bx F H0 H as σ → ∀ Q : VK, (∀ x v H', P x → JB bx H H' → Rep H' x v → Q v H') → te σ H Q
abbrev Ev1 (te : TE) (as : List A) (x : T) : Prop := EvT K bx te as (fun y => y = x)
def EvN (te : TE) (as : List A) (P : List T → Prop) : Prop := ∀ F H0 H σ, SI K bx F H0 H as σ → ∀ Q : VK, (∀ ts p xs H', P ts → JB bx H H' → H p = none → H' p = some (.lst xs) → RepL H' ts xs → Q (.ref p) H') → te σ H Q
abbrev EvN1 (te : TE) (as : List A) (x : List T) : Prop := EvN K bx te as (fun y => y = x)
def EvR (te : TE) (as : List A) (ts : List T) : Prop := ∀ F H0 H σ, SI K bx F H0 H as σ → ∀ Q : VK, (∀ v H', JB bx H H' → RdL K bx H' ts v → Q v H') → te σ H Q
def EvB (tt : TT) (as : List A) (P : Bool → Prop) : Prop := ∀ F H0 H σ, SI K bx F H0 H as σ → ∀ Q : Bool → Hp → Prop, (∀ b H', P b → JB bx H H' → Q b H') → tt σ H Q
abbrev EvB1 (tt : TT) (as : List A) (x : Bool) : Prop := EvB K bx tt as (fun y => y = x)
def EvVs (ta : TA) (as : List A) (P : List T → Prop) : Prop := ∀ F H0 H σ, SI K bx F H0 H as σ → ∀ Q : List V → Hp → Prop, (∀ ts vs H', P ts → JB bx H H' → RepL H' ts vs → Q vs H') → ta σ H Q
abbrev EvVs1 (ta : TA) (as : List A) (x : List T) : Prop := EvVs K bx ta as (fun y => y = x)
/-- an argument -/
inductive Arg where
  | t (x : T) | r (ts : List T) | b
def ArgOk (H : Hp) : Arg → V → Prop
  | .t x, v => Rep H x v
  | .r ts, v => RdL K bx H ts v
  | .b, v => ∃ b g, bx = some (b, g) ∧ v = .ref b
def ArgsOk (H : Hp) : List Arg → List V → Prop
  | [], vs => vs = []
  | a :: as, vs => ∃ v r, vs = v :: r ∧ ArgOk K bx H a v ∧ ArgsOk H as r
def EvAs (ta : TA) (as : List A) (P : List Arg → Prop) : Prop := ∀ F H0 H σ, SI K bx F H0 H as σ → ∀ Q : List V → Hp → Prop, (∀ rs vs H', P rs → JB bx H H' → ArgsOk K bx H' rs vs → Q vs H') → ta σ H Q
abbrev EvAs1 (ta : TA) (as : List A) (x : List Arg) : Prop := EvAs K bx ta as (fun y => y = x)
inductive Res where
  | t (x : T) | n (ts : List T)
def ResOk (H H' : Hp) : Res → V → Prop
  | .t x, v => Rep H' x v
  | .n ts, v => ∃ p xs, v = .ref p ∧ H p = none ∧ H' p = some (.lst xs) ∧ RepL H' ts xs
/-- a promise over data -/
def spF (R : List Arg → (Res → Prop) → Prop) : Sp := fun vs H Q _ => ∃ bx args P, R args P ∧ BoxOk bx H ∧ ArgsOk K bx H args vs ∧ ∀ r v H', P r → JB bx H H' → ResOk H H' r v → Q v H'
end
/-- a whole number with p -/
def PI (p : Int → Prop) : T → Prop := fun x => ∃ i, x = .int i ∧ p i

section
variable {K : PySem.W.Frag} {bx : BX} {as : List A} {ta tb te tx : TE} {t u : TT} {x y z : T}
theorem ArgsOk.len {H : Hp} : ∀ {as : List Arg} {vs : List V}, ArgsOk K bx H as vs → vs.length = as.length
  | [], vs, h => by rw [show vs = [] from h] <;> rfl
  | a :: as, vs, ⟨v, r, e, _, h⟩ => by rw [e, List.length_cons, List.length_cons, ArgsOk.len h]
theorem EvT.imp {P P' : T → Prop} (h : EvT K bx te as P) (k : ∀ x, P x → P' x) : EvT K bx te as P' := fun F H0 H σ S Q q => h F H0 H σ S Q fun x v H' p => q x v H' (k x p)
theorem EvN.imp {P P' : List T → Prop} (h : EvN K bx te as P) (k : ∀ x, P x → P' x) : EvN K bx te as P' := fun F H0 H σ S Q q => h F H0 H σ S Q fun x p xs H' c => q x p xs H' (k x c)
theorem EvB.imp {P P' : Bool → Prop} (h : EvB K bx t as P) (k : ∀ x, P x → P' x) : EvB K bx t as P' := fun F H0 H σ S Q q => h F H0 H σ S Q fun x H' c => q x H' (k x c)
theorem Ev1.cast (h : Ev1 K bx te as x) (e : x = y) : Ev1 K bx te as y := by rw [← e]; exact h
theorem EvB1.cast {a b : Bool} (h : EvB1 K bx t as a) (e : a = b) : EvB1 K bx t as b := by rw [← e]; exact h
theorem EvN1.cast {a b : List T} (h : EvN1 K bx te as a) (e : a = b) : EvN1 K bx te as b := by rw [← e]; exact h
theorem Ev1.any {P : T → Prop} (h : Ev1 K bx te as x) (p : P x) : EvT K bx te as P := h.imp fun y e => by rw [e]; exact p
theorem Ev1.pi {i : Int} (h : Ev1 K bx te as (.int i)) : EvT K bx te as (PI fun k => k = i) := h.any ⟨i, rfl, rfl⟩
theorem e_var {i : Nat} (h : as[i]? = some (.t x)) : Ev1 K bx (tVar i) as x := fun F H0 H σ S Q q => by
  obtain ⟨v, h1, r⟩ := S.at_ h
  exact ⟨v, h1, q x v H rfl (JB.refl H) r⟩
theorem r_varL {i : Nat} {ts : List T} (h : as[i]? = some (.l ts)) : EvR K bx (tVar i) as ts := fun F H0 H σ S Q q => by
  obtain ⟨o, h1, v, rfl, r⟩ := S.slot i _ h
  exact ⟨v, h1, q v H (JB.refl H) (r.go S.ev)⟩
theorem r_varO {i : Nat} {a : Addr} {ts : List T} (h : as[i]? = some (.o a ts)) : EvR K bx (tVar i) as ts := fun F H0 H σ S Q q => by
  obtain ⟨o, h1, rfl, n, h0, xs, h2, r⟩ := S.slot i _ h
  exact ⟨.ref a, h1, q _ H (JB.refl H) ⟨a, xs, rfl, n, SqL.of h2, r⟩⟩
theorem EvN.rd {ts : List T} (h : EvN1 K bx te as ts) : EvR K bx te as ts := fun F H0 H σ S Q q => h F H0 H σ S Q fun x p xs H' c e hp h1 r => by
  subst c
  exact q _ H' e ⟨p, xs, rfl, S.boxH.fresh hp, SqL.of h1, r⟩
theorem e_int {i : Int} : Ev1 K bx (tC (.int i)) as (.int i) := fun F H0 H σ S Q q => q _ _ H rfl (JB.refl H) (rep_int.mpr rfl)
theorem e_str {i : Str} : Ev1 K bx (tC (.str i)) as (.str i) := fun F H0 H σ S Q q => q _ _ H rfl (JB.refl H) (rep_str.mpr rfl)
theorem e_bl {i : Bool} : Ev1 K bx (tC (.bl i)) as (.bl i) := fun F H0 H σ S Q q => q _ _ H rfl (JB.refl H) (rep_bl.mpr rfl)
theorem e_non : Ev1 K bx (tC .non) as .non := fun F H0 H σ S Q q => q _ _ H rfl (JB.refl H) (rep_non.mpr rfl)
/-- two values, one after the other -/
theorem n_op {r : R2} {P1 P2 P : T → Prop} (h1 : EvT K bx ta as P1) (h2 : EvT K bx tb as P2)
    (k : ∀ x y, P1 x → P2 y → ∀ H v w (Q : VK), BoxOk bx H → Rep H x v → Rep H y w → (∀ z u H', P z → JB bx H H' → Rep H' z u → Q u H') → r v w H Q) : EvT K bx (tOp r ta tb) as P := fun F H0 H σ S Q q =>
  h1 F H0 H σ S _ fun x v H1 p1 e1 r1 => h2 F H0 H1 σ (S.go e1) _ fun y w H2 p2 e2 r2 =>
    k x y p1 p2 H2 v w Q (S.go (e1.trans e2)).boxH (Rep.tk e2.tk _ _ r1) r2 fun z u H' p e r => q z u H' p ((e1.trans e2).trans e) r
theorem n_I {C : Int → Int → Prop} {f : Int → Int → Int} {p q : Int → Prop} (h1 : EvT K bx ta as (PI p)) (h2 : EvT K bx tb as (PI q)) (hc : ∀ i j, p i → q j → C i j) :
    EvT K bx (tOp (rI C fun i j => .int (f i j)) ta tb) as (PI fun k => ∃ i j, p i ∧ q j ∧ k = f i j) := n_op h1 h2 fun x y ⟨i, e1, pi⟩ ⟨j, e2, qj⟩ H v w Q _ r1 r2 k => by
  subst e1 e2
  exact ⟨i, j, rep_int.mp r1, rep_int.mp r2, hc i j pi qj, k _ _ H ⟨_, rfl, i, j, pi, qj, rfl⟩ (JB.refl H) (rep_int.mpr rfl)⟩
theorem n_I0 {f : Int → Int → Int} {p q : Int → Prop} (h1 : EvT K bx ta as (PI p)) (h2 : EvT K bx tb as (PI q)) :
    EvT K bx (tOp (rI0 fun i j => .int (f i j)) ta tb) as (PI fun k => ∃ i j, p i ∧ q j ∧ k = f i j) := n_op h1 h2 fun x y ⟨i, e1, pi⟩ ⟨j, e2, qj⟩ H v w Q _ r1 r2 k => by
  subst e1 e2
  exact ⟨i, j, rep_int.mp r1, rep_int.mp r2, k _ _ H ⟨_, rfl, i, j, pi, qj, rfl⟩ (JB.refl H) (rep_int.mpr rfl)⟩
theorem e_I0 {f : Int → Int → Int} {i j : Int} (h1 : Ev1 K bx ta as (.int i)) (h2 : Ev1 K bx tb as (.int j)) : Ev1 K bx (tOp (rI0 fun i j => .int (f i j)) ta tb) as (.int (f i j)) :=
  (n_I0 h1.pi h2.pi).imp fun x ⟨k, e, a, b, p, q, r⟩ => by rw [e, r, p, q]
theorem e_I {C : Int → Int → Prop} {f : Int → Int → Int} {i j : Int} (h1 : Ev1 K bx ta as (.int i)) (h2 : Ev1 K bx tb as (.int j)) (hc : C i j) : Ev1 K bx (tOp (rI C fun i j => .int (f i j)) ta tb) as (.int (f i j)) :=
  (n_I h1.pi h2.pi fun a b p q => by rw [p, q]; exact hc).imp fun x ⟨k, e, a, b, p, q, r⟩ => by rw [e, r, p, q]
theorem e_B0 {f : Int → Int → Bool} {i j : Int} (h1 : Ev1 K bx ta as (.int i)) (h2 : Ev1 K bx tb as (.int j)) : Ev1 K bx (tOp (rI0 fun i j => .bl (f i j)) ta tb) as (.bl (f i j)) :=
  n_op h1 h2 fun x y e1 e2 H v w Q _ r1 r2 k => by
    subst e1 e2
    exact ⟨i, j, rep_int.mp r1, rep_int.mp r2, k _ _ H rfl (JB.refl H) (rep_bl.mpr rfl)⟩
theorem e_eqI {i j : Int} (h1 : Ev1 K bx ta as (.int i)) (h2 : Ev1 K bx tb as (.int j)) : Ev1 K bx (tOp rEq ta tb) as (.bl (decide (i = j))) :=
  n_op h1 h2 fun x y e1 e2 H v w Q _ r1 r2 k => by
    subst e1 e2
    rw [rep_int.mp r1, rep_int.mp r2]
    exact ⟨rfl, k _ _ H rfl (JB.refl H) (rep_bl.mpr (congrArg V.bl (by rw [dec_int, Bool.beq_eq_decide_eq])))⟩
theorem e_eqB {i j : Bool} (h1 : Ev1 K bx ta as (.bl i)) (h2 : Ev1 K bx tb as (.bl j)) : Ev1 K bx (tOp rEq ta tb) as (.bl (i == j)) :=
  n_op h1 h2 fun x y e1 e2 H v w Q _ r1 r2 k => by
    subst e1 e2
    rw [rep_bl.mp r1, rep_bl.mp r2]
    exact ⟨rfl, k _ _ H rfl (JB.refl H) (rep_bl.mpr (congrArg V.bl dec_bl))⟩
theorem e_neB {i j : Bool} (h1 : Ev1 K bx ta as (.bl i)) (h2 : Ev1 K bx tb as (.bl j)) : Ev1 K bx (tOp rNe ta tb) as (.bl (!(i == j))) :=
  n_op h1 h2 fun x y e1 e2 H v w Q _ r1 r2 k => by
    subst e1 e2
    rw [rep_bl.mp r1, rep_bl.mp r2]
    exact ⟨rfl, k _ _ H rfl (JB.refl H) (rep_bl.mpr (congrArg V.bl (congrArg not dec_bl)))⟩
/-- == of whole numbers, whatever they are -/
theorem n_eqI {p q : Int → Prop} (h1 : EvT K bx ta as (PI p)) (h2 : EvT K bx tb as (PI q)) : EvT K bx (tOp rEq ta tb) as (fun z => ∃ b, z = .bl b) :=
  n_op h1 h2 fun x y ⟨i, e1, _⟩ ⟨j, e2, _⟩ H v w Q _ r1 r2 k => by
    subst e1 e2
    rw [rep_int.mp r1, rep_int.mp r2]
    exact ⟨rfl, k (.bl (decide (V.int i = V.int j))) _ H ⟨_, rfl⟩ (JB.refl H) (rep_bl.mpr rfl)⟩
theorem e_neg {f : Int → Int} {i : Int} (h : Ev1 K bx ta as (.int i)) : Ev1 K bx (tUn (rU fun i => .int (f i)) ta) as (.int (f i)) := fun F H0 H σ S Q q =>
  h F H0 H σ S _ fun x v H1 p1 e1 r1 => by
    subst p1
    exact ⟨i, rep_int.mp r1, q _ _ H1 rfl e1 (rep_int.mpr rfl)⟩
theorem n_ixT {P1 P : T → Prop} {p : Int → Prop} (h1 : EvT K bx ta as P1) (h2 : EvT K bx tb as (PI p)) (k : ∀ x i, P1 x → p i → ∃ ts y, x = .tup ts ∧ atI ts i = some y ∧ P y) : EvT K bx (tOp (rIxT K) ta tb) as P :=
  n_op h1 h2 fun x y p1 ⟨i, e2, pi⟩ H v w Q _ r1 r2 q => by
    obtain ⟨ts, z, e1, ha, pz⟩ := k x i p1 pi
    subst e1 e2
    obtain ⟨a, xs, rfl, h, r⟩ := rep_tup.mp r1
    obtain ⟨c, hc, rc⟩ := r.at_ ha
    exact ⟨a, xs, i, c, rfl, rep_int.mp r2, SqT.of h, hc, q z c H pz (JB.refl H) rc⟩
theorem e_ixT {ts : List T} {i : Int} (h1 : Ev1 K bx ta as (.tup ts)) (h2 : Ev1 K bx tb as (.int i)) (ha : atI ts i = some x) : Ev1 K bx (tOp (rIxT K) ta tb) as x :=
  n_ixT h1 h2.pi fun y j e1 e2 => ⟨ts, x, e1, by rw [e2]; exact ha, rfl⟩
theorem n_ixL {ts : List T} {P : T → Prop} {p : Int → Prop} (h1 : EvR K bx ta as ts) (h2 : EvT K bx tb as (PI p)) (k : ∀ i, p i → ∃ y, atI ts i = some y ∧ P y) : EvT K bx (tOp (rIxL K) ta tb) as P := fun F H0 H σ S Q q =>
  h1 F H0 H σ S _ fun v H1 e1 r1 => h2 F H0 H1 σ (S.go e1) _ fun y w H2 p2 e2 r2 => by
    obtain ⟨i, rfl, pi⟩ := p2
    obtain ⟨a, xs, rfl, n, s, r⟩ := r1.go e2
    obtain ⟨z, ha, pz⟩ := k i pi
    obtain ⟨c, hc, rc⟩ := r.at_ ha
    exact ⟨a, xs, i, c, rfl, rep_int.mp r2, s, hc, q z c H2 pz (e1.trans e2) rc⟩
theorem e_ixL {ts : List T} {i : Int} (h1 : EvR K bx ta as ts) (h2 : Ev1 K bx tb as (.int i)) (ha : atI ts i = some x) : Ev1 K bx (tOp (rIxL K) ta tb) as x :=
  n_ixL h1 h2.pi fun j e => ⟨x, by rw [e]; exact ha, rfl⟩
theorem n_ixN {P1 : List T → Prop} {P : T → Prop} {p : Int → Prop} (h1 : EvN K bx ta as P1) (h2 : EvT K bx tb as (PI p)) (k : ∀ ts i, P1 ts → p i → ∃ y, atI ts i = some y ∧ P y) : EvT K bx (tOp (rIxL K) ta tb) as P := fun F H0 H σ S Q q =>
  h1 F H0 H σ S _ fun ts a xs H1 p1 e1 ha hx r1 => h2 F H0 H1 σ (S.go e1) _ fun y w H2 p2 e2 r2 => by
    obtain ⟨i, rfl, pi⟩ := p2
    obtain ⟨z, hz, pz⟩ := k ts i p1 pi
    obtain ⟨c, hc, rc⟩ := (RepL.tk e2.tk _ _ r1).at_ hz
    exact ⟨a, xs, i, c, rfl, rep_int.mp r2, e2.sqL (S.boxH.fresh ha) (SqL.of hx), hc, q z c H2 pz (e1.trans e2) rc⟩
theorem n_ixS {P1 P : T → Prop} {p : Int → Prop} (h1 : EvT K bx ta as P1) (h2 : EvT K bx tb as (PI p)) (k : ∀ x i, P1 x → p i → ∃ (s : Str) (c : Nat), x = .str s ∧ s.length ≤ 100000 ∧ atI s.cps.toList i = some c ∧ P (.str ⟨#[c]⟩)) : EvT K bx (tOp rIxS ta tb) as P :=
  n_op h1 h2 fun x y p1 ⟨i, e2, pi⟩ H v w Q _ r1 r2 q => by
    obtain ⟨s, c, e1, hl, ha, pz⟩ := k x i p1 pi
    subst e1 e2
    exact ⟨s, i, c, rep_str.mp r1, rep_int.mp r2, sz_of hl, ha, q _ _ H pz (JB.refl H) (rep_str.mpr rfl)⟩
/-! tests -/
theorem b_testN {P : Bool → Prop} (h : EvT K bx te as (fun z => ∃ b, z = .bl b ∧ P b)) : EvB K bx (tTest te) as P := fun F H0 H σ S Q q => h F H0 H σ S _ fun x v H1 ⟨b, e, p⟩ e1 r1 => by
  subst e
  exact ⟨b, rep_bl.mp r1, q b H1 p e1⟩
theorem b_test {b : Bool} (h : Ev1 K bx te as (.bl b)) : EvB1 K bx (tTest te) as b := b_testN (h.any ⟨b, rfl, rfl⟩)
theorem b_B {b : Bool} (h : Ev1 K bx te as (.bl b)) : EvB1 K bx (tB te) as b := b_test h
theorem b_and {a b : Bool} (h1 : EvB1 K bx t as a) (h2 : a = true → EvB1 K bx u as b) : EvB1 K bx (tAnd t u) as (a && b) := fun F H0 H σ S Q q => h1 F H0 H σ S _ fun c H1 e e1 => by
  subst e
  cases c with
  | true =>
    show u σ H1 Q
    exact h2 rfl F H0 H1 σ (S.go e1) Q fun d H2 e e2 => q d H2 e (e1.trans e2)
  | false =>
    show Q false H1
    exact q false H1 rfl e1
theorem b_or {a b : Bool} (h1 : EvB1 K bx t as a) (h2 : a = false → EvB1 K bx u as b) : EvB1 K bx (tOr t u) as (a || b) := fun F H0 H σ S Q q => h1 F H0 H σ S _ fun c H1 e e1 => by
  subst e
  cases c with
  | true =>
    show Q true H1
    exact q true H1 rfl e1
  | false =>
    show u σ H1 Q
    exact h2 rfl F H0 H1 σ (S.go e1) Q fun d H2 e e2 => q d H2 e (e1.trans e2)
theorem b_not {a : Bool} (h1 : EvB1 K bx t as a) : EvB1 K bx (tNot t) as (!a) := fun F H0 H σ S Q q => h1 F H0 H σ S _ fun c H1 e e1 => q _ H1 (by rw [e]) e1
theorem b_yes : EvB1 K bx tYes as true := fun F H0 H σ S Q q => q true H rfl (JB.refl H)
theorem e_andV {a b : Bool} (h1 : Ev1 K bx ta as (.bl a)) (h2 : a = true → Ev1 K bx tb as (.bl b)) : Ev1 K bx (tAndV ta tb) as (.bl (a && b)) := fun F H0 H σ S Q q => h1 F H0 H σ S _ fun x v H1 e e1 r1 => by
  subst e
  refine ⟨a, rep_bl.mp r1, ?_⟩
  cases a with
  | true =>
    show tb σ H1 Q
    exact h2 rfl F H0 H1 σ (S.go e1) Q fun y w H2 e e2 r => q y w H2 e (e1.trans e2) r
  | false =>
    show Q (.bl false) H1
    exact q (.bl false) _ H1 rfl e1 (rep_bl.mpr rfl)
theorem e_ifN {P : T → Prop} {B : Bool → Prop} (h : EvB K bx t as B) (h1 : B true → EvT K bx ta as P) (h2 : B false → EvT K bx tb as P) : EvT K bx (tIf t ta tb) as P := fun F H0 H σ S Q q => h F H0 H σ S _ fun c H1 e e1 => by
  cases c with
  | true =>
    show ta σ H1 Q
    exact h1 e F H0 H1 σ (S.go e1) Q fun y w H2 e e2 r => q y w H2 e (e1.trans e2) r
  | false =>
    show tb σ H1 Q
    exact h2 e F H0 H1 σ (S.go e1) Q fun y w H2 e e2 r => q y w H2 e (e1.trans e2) r
theorem e_isN (h : Ev1 K bx ta as x) : Ev1 K bx (tIsN ta) as (.bl (match x with | .non => true | _ => false)) := fun F H0 H σ S Q q => h F H0 H σ S _ fun y v H1 e e1 r1 => by
  subst e
  refine q _ _ H1 rfl e1 (rep_bl.mpr (congrArg V.bl ?_))
  cases y with
  | non => rw [rep_non.mp r1]; rfl
  | int i => rw [rep_int.mp r1]; rfl
  | str i => rw [rep_str.mp r1]; rfl
  | bl i => rw [rep_bl.mp r1]; rfl
  | tup ts => obtain ⟨a, xs, e, _, _⟩ := rep_tup.mp r1; rw [e]; rfl
/-! displays -/
theorem vs_nil : EvVs1 K bx tNil as [] := fun F H0 H σ S Q q => q [] [] H rfl (JB.refl H) (repL_nil.mpr rfl)
theorem vs_consN {tr : TA} {P : T → Prop} {R R' : List T → Prop} (h : EvT K bx te as P) (hr : EvVs K bx tr as R) (k : ∀ x r, P x → R r → R' (x :: r)) : EvVs K bx (tCons te tr) as R' := fun F H0 H σ S Q q =>
  h F H0 H σ S _ fun x v H1 p e1 r1 => hr F H0 H1 σ (S.go e1) _ fun ts vs H2 p2 e2 r2 => q (x :: ts) (v :: vs) H2 (k x ts p p2) (e1.trans e2) (repL_cons.mpr ⟨v, vs, rfl, Rep.tk e2.tk _ _ r1, r2⟩)
theorem vs_cons {tr : TA} {r : List T} (h : Ev1 K bx te as x) (hr : EvVs1 K bx tr as r) : EvVs1 K bx (tCons te tr) as (x :: r) := vs_consN h hr fun y s e1 e2 => by rw [e1, e2]
theorem e_tupN {ta : TA} {P : List T → Prop} {P' : T → Prop} (h : EvVs K bx ta as P) (k : ∀ ts, P ts → ts.length ≤ 1000 ∧ P' (.tup ts)) : EvT K bx (tTup ta) as P' := fun F H0 H σ S Q q =>
  h F H0 H σ S _ fun ts vs H1 p e1 r1 => ⟨by rw [r1.len]; exact sz_of (by have := (k ts p).1; omega), fun a ha => q (.tup ts) _ _ (k ts p).2 (e1.trans (JB.new ha)) (rep_tup.mpr ⟨a, vs, rfl, upd_same, RepL.tk (JB.new (bx := bx) ha).tk _ _ r1⟩)⟩
theorem e_tup {ta : TA} {ts : List T} (h : EvVs1 K bx ta as ts) (hl : ts.length ≤ 1000 := by simp) : Ev1 K bx (tTup ta) as (.tup ts) := e_tupN h fun us e => by rw [e]; exact ⟨hl, rfl⟩
theorem n_lst {ta : TA} {P : List T → Prop} (h : EvVs K bx ta as P) (k : ∀ ts, P ts → ts.length ≤ 1000) : EvN K bx (tLst ta) as P := fun F H0 H σ S Q q =>
  h F H0 H σ S _ fun ts vs H1 p e1 r1 => ⟨by rw [r1.len]; exact sz_of (by have := k ts p; omega), fun a ha => q ts a vs _ p (e1.trans (JB.new ha)) (e1.back S.boxH ha) upd_same (RepL.tk (JB.new (bx := bx) ha).tk _ _ r1)⟩
theorem n_nil : EvN1 K bx (tLst tNil) as [] := n_lst vs_nil fun ts e => by rw [e]; decide
/-! built-ins -/
theorem e_len {ts : List T} (h : EvR K bx te as ts) : Ev1 K bx (tCB (rLenS K) (tCons te tNil)) as (.int (ts.length : Int)) := fun F H0 H σ S Q q => h F H0 H σ S _ fun v H1 e1 ⟨a, xs, e, n, s, r⟩ =>
  ⟨a, xs, by rw [e], .inl s, q _ _ H1 rfl e1 (rep_int.mpr (by rw [r.len]))⟩
theorem e_lenT {ts : List T} (h : Ev1 K bx te as (.tup ts)) : Ev1 K bx (tCB (rLenS K) (tCons te tNil)) as (.int (ts.length : Int)) := fun F H0 H σ S Q q => h F H0 H σ S _ fun x v H1 p e1 r1 => by
  subst p
  obtain ⟨a, xs, rfl, h, r⟩ := rep_tup.mp r1
  exact ⟨a, xs, rfl, .inr (SqT.of h), q _ _ H1 rfl e1 (rep_int.mpr (by rw [r.len]))⟩
theorem e_sum {ns : List Int} (h : EvR K bx te as (ns.map .int)) : Ev1 K bx (tCB (rSum K) (tCons te tNil)) as (.int ns.sum) := fun F H0 H σ S Q q => h F H0 H σ S _ fun v H1 e1 ⟨a, xs, e, n, s, r⟩ =>
  ⟨a, ns, by rw [e], by rw [← r.ints]; exact s, q _ _ H1 rfl e1 (rep_int.mpr rfl)⟩
theorem e_all {ns : List Bool} (h : EvR K bx te as (ns.map .bl)) : Ev1 K bx (tCB (rAll K) (tCons te tNil)) as (.bl (ns.all id)) := fun F H0 H σ S Q q => h F H0 H σ S _ fun v H1 e1 ⟨a, xs, e, n, s, r⟩ =>
  ⟨a, ns, by rw [e], by rw [← r.bls]; exact s, q _ _ H1 rfl e1 (rep_bl.mpr rfl)⟩
theorem n_sorted {ns : List Int} (h : EvR K bx te as (ns.map .int)) : EvN K bx (tCB (rSortedI K) (tCons te tNil)) as (fun ts => ∃ ns' : List Int, ts = ns'.map .int ∧ ns'.Perm ns ∧ ns'.Pairwise (· ≤ ·)) := fun F H0 H σ S Q q => h F H0 H σ S _ fun v H1 e1 ⟨a, xs, e, n, s, r⟩ =>
  ⟨a, ns, by rw [e], by rw [← r.ints]; exact s, fun ns' p h1 h2 hp => q _ p _ _ ⟨ns', rfl, h1, h2⟩ (e1.trans (JB.new hp)) (e1.back S.boxH hp) upd_same repL_ints⟩
theorem e_max2 {i j : Int} (h1 : Ev1 K bx ta as (.int i)) (h2 : Ev1 K bx tb as (.int j)) : Ev1 K bx (tCB (fun xs H Q => ∃ i j, xs = [.int i, .int j] ∧ Q (.int (if j > i then j else i)) H) (tCons ta (tCons tb tNil))) as (.int (if j > i then j else i)) := fun F H0 H σ S Q q =>
  h1 F H0 H σ S _ fun x v H1 p1 e1 r1 => h2 F H0 H1 σ (S.go e1) _ fun y w H2 p2 e2 r2 => by
    subst p1 p2
    exact ⟨i, j, by rw [rep_int.mp r1, rep_int.mp r2], q _ _ H2 rfl (e1.trans e2) (rep_int.mpr rfl)⟩
theorem n_toInt {p : Int → Prop} (h1 : EvT K bx ta as (PI p)) : EvT K bx (tCB (fun xs H Q => (∃ i, xs = [.int i] ∧ Q (.int i) H) ∨ ∃ k, xs = [.bl k] ∧ Q (.int (if k then 1 else 0)) H) (tCons ta tNil)) as (PI p) := fun F H0 H σ S Q q =>
  h1 F H0 H σ S _ fun x v H1 ⟨i, e, pi⟩ e1 r1 => by
    subst e
    exact .inl ⟨i, by rw [rep_int.mp r1], q _ _ H1 ⟨i, rfl, pi⟩ e1 (rep_int.mpr rfl)⟩
theorem e_tuple {ts : List T} (h : EvR K bx te as ts) : Ev1 K bx (tCB (fun xs H Q => ∃ p ys, xs = [.ref p] ∧ ((SqL K H p ys ∧ ∀ l, H l = none → Q (.ref l) (upd H l (.tup ys))) ∨ (SqT K H p ys ∧ Q (.ref p) H))) (tCons te tNil)) as (.tup ts) := fun F H0 H σ S Q q =>
  h F H0 H σ S _ fun v H1 e1 ⟨a, xs, e, n, s, r⟩ => ⟨a, xs, by rw [e], .inl ⟨s, fun l hl => q _ _ _ rfl (e1.trans (JB.new hl)) (rep_tup.mpr ⟨l, xs, rfl, upd_same, RepL.tk (JB.new (bx := bx) hl).tk _ _ r⟩)⟩⟩
/-! calls of the program's defs -/
theorem a_nil : EvAs1 K bx tNil as [] := fun F H0 H σ S Q q => q [] [] H rfl (JB.refl H) rfl
theorem ArgOk.go {H H' : Hp} {a : Arg} {v : V} (e : JB bx H H') (h : ArgOk K bx H a v) : ArgOk K bx H' a v := by
  cases a with
  | t x => exact Rep.tk e.tk _ _ h
  | r ts => exact RdL.go e h
  | b => exact h
theorem a_consN {tr : TA} {P : T → Prop} {R R' : List Arg → Prop} (h : EvT K bx te as P) (hr : EvAs K bx tr as R) (k : ∀ x r, P x → R r → R' (.t x :: r)) : EvAs K bx (tCons te tr) as R' := fun F H0 H σ S Q q =>
  h F H0 H σ S _ fun x v H1 p e1 r1 => hr F H0 H1 σ (S.go e1) _ fun ts vs H2 p2 e2 r2 => q (.t x :: ts) (v :: vs) H2 (k x ts p p2) (e1.trans e2) ⟨v, vs, rfl, Rep.tk e2.tk _ _ r1, r2⟩
theorem a_cons {tr : TA} {r : List Arg} (h : Ev1 K bx te as x) (hr : EvAs1 K bx tr as r) : EvAs1 K bx (tCons te tr) as (.t x :: r) := a_consN h hr fun y s e1 e2 => by rw [e1, e2]
theorem a_consRN {tr : TA} {ts : List T} {R R' : List Arg → Prop} (h : EvR K bx te as ts) (hr : EvAs K bx tr as R) (k : ∀ r, R r → R' (.r ts :: r)) : EvAs K bx (tCons te tr) as R' := fun F H0 H σ S Q q =>
  h F H0 H σ S _ fun v H1 e1 r1 => hr F H0 H1 σ (S.go e1) _ fun us vs H2 p2 e2 r2 => q (.r ts :: us) (v :: vs) H2 (k us p2) (e1.trans e2) ⟨v, vs, rfl, RdL.go e2 r1, r2⟩
theorem a_consR {tr : TA} {ts : List T} {r : List Arg} (h : EvR K bx te as ts) (hr : EvAs1 K bx tr as r) : EvAs1 K bx (tCons te tr) as (.r ts :: r) := a_consRN h hr fun s e => by rw [e]
theorem a_consB {tr : TA} {i : Nat} {R : List Arg → Prop} (h : as[i]? = some .b) (hr : EvAs K bx tr as R) : EvAs K bx (tCons (tVar i) tr) as (fun z => ∃ r, z = .b :: r ∧ R r) := fun F H0 H σ S Q q => by
  obtain ⟨o, h1, b, g, hb, rfl⟩ := S.slot i _ h
  exact ⟨.ref b, h1, hr F H0 H σ S _ fun us vs H2 p2 e2 r2 => q (.b :: us) (.ref b :: vs) H2 ⟨us, rfl, p2⟩ e2 ⟨_, vs, rfl, ⟨b, g, hb, rfl⟩, r2⟩⟩
theorem n_callT {R : List Arg → (Res → Prop) → Prop} {E : XK} {ta : TA} {PA : List Arg → Prop} {P : T → Prop} (h : EvAs K bx ta as PA) (k : ∀ args, PA args → ∃ P', R args P' ∧ ∀ r, P' r → ∃ x, r = .t x ∧ P x) : EvT K bx (tCall (spF K R) [] E ta) as P := fun F H0 H σ S Q q =>
  h F H0 H σ S _ fun rs vs H1 p e1 r1 => by
    obtain ⟨P', hR, hP⟩ := k rs p
    refine ⟨bx, rs, P', hR, S.boxH |> e1.box, by rw [List.append_nil]; exact r1, fun r v H2 pr e2 ok => ?_⟩
    obtain ⟨x, rfl, px⟩ := hP r pr
    exact q x v H2 px (e1.trans e2) ok
theorem e_call {R : List Arg → (Res → Prop) → Prop} {E : XK} {ta : TA} {args : List Arg} (h : EvAs1 K bx ta as args) (k : R args (fun r => r = .t x)) : Ev1 K bx (tCall (spF K R) [] E ta) as x :=
  n_callT h fun args' e => ⟨_, by rw [e]; exact k, fun r e => ⟨x, e, rfl⟩⟩
theorem n_callN {R : List Arg → (Res → Prop) → Prop} {E : XK} {ta : TA} {PA : List Arg → Prop} {P : List T → Prop} (h : EvAs K bx ta as PA) (k : ∀ args, PA args → ∃ P', R args P' ∧ ∀ r, P' r → ∃ ts, r = .n ts ∧ P ts) : EvN K bx (tCall (spF K R) [] E ta) as P := fun F H0 H σ S Q q =>
  h F H0 H σ S _ fun rs vs H1 p e1 r1 => by
    obtain ⟨P', hR, hP⟩ := k rs p
    refine ⟨bx, rs, P', hR, S.boxH |> e1.box, by rw [List.append_nil]; exact r1, fun r v H2 pr e2 ok => ?_⟩
    obtain ⟨ts, rfl, px⟩ := hP r pr
    obtain ⟨a, xs, rfl, ha, hx, rr⟩ := ok
    exact q ts a xs H2 px (e1.trans e2) (e1.back S.boxH ha) hx rr
theorem n_call1 {R : List Arg → (Res → Prop) → Prop} {E : XK} {ta : TA} {args : List Arg} {ts : List T} (h : EvAs1 K bx ta as args) (k : R args (fun r => r = .n ts)) : EvN1 K bx (tCall (spF K R) [] E ta) as ts :=
  n_callN h fun args' e => ⟨_, by rw [e]; exact k, fun r e => ⟨ts, e, rfl⟩⟩
end
end K12
/-! Statements, loops, comprehensions, defs over the layer. -/
namespace K12
open PySem L2 Evl

structure Ps where
  nx : List A → Prop := fun _ => False
  rt : Res → Prop := fun _ => False
  bk : List A → Prop := fun _ => False
  ct : List A → Prop := fun _ => False

def Tr (K : PySem.W.Frag) (bx : BX) (H0 : Hp) (s : TS) (as : List A) (p : Ps) : Prop := ∀ F H σ (D : Ends), SI K bx F H0 H as σ →
  (∀ as' σ' H', p.nx as' → SI K bx F H0 H' as' σ' → TK H H' → D.nx σ' H') →
  (∀ r v H', p.rt r → JB bx H0 H' → ResOk H0 H' r v → D.rt v H') →
  (∀ as' σ' H', p.bk as' → SI K bx F H0 H' as' σ' → TK H H' → D.bk σ' H') →
  (∀ as' σ' H', p.ct as' → SI K bx F H0 H' as' σ' → TK H H' → D.ct σ' H') → s D σ H

section
variable {K : PySem.W.Frag} {bx : BX} {H0 : Hp} {as : List A} {p : Ps} {ta tb te tl : TE} {t : TT} {s u : TS} {x y : T} {i j : Nat}
theorem Tr.imp {q : Ps} (h : Tr K bx H0 s as q) (h1 : ∀ a, q.nx a → p.nx a) (h2 : ∀ a, q.rt a → p.rt a) (h3 : ∀ a, q.bk a → p.bk a) (h4 : ∀ a, q.ct a → p.ct a) : Tr K bx H0 s as p :=
  fun F H σ D S k1 k2 k3 k4 => h F H σ D S (fun a σ' H' m => k1 a σ' H' (h1 a m)) (fun a σ' H' m => k2 a σ' H' (h2 a m)) (fun a σ' H' m => k3 a σ' H' (h3 a m)) (fun a σ' H' m => k4 a σ' H' (h4 a m))
theorem tr_seq {M : List A → Prop} (h1 : Tr K bx H0 s as { p with nx := M }) (h2 : ∀ as', M as' → Tr K bx H0 u as' p) : Tr K bx H0 (tSeq s u) as p := fun F H σ D S k1 k2 k3 k4 =>
  h1 F H σ { D with nx := u D } S (fun as' σ' H' m S' tk => h2 as' m F H' σ' D S' (fun a b c d e f => k1 a b c d e (tk.trans f)) k2 (fun a b c d e f => k3 a b c d e (tk.trans f)) (fun a b c d e f => k4 a b c d e (tk.trans f))) k2 k3 k4
theorem tr_asg {P : T → Prop} (h : EvT K bx te as P) (k : ∀ x, P x → p.nx (as.set i (.t x))) : Tr K bx H0 (tAsg te (gName i)) as p := fun F H σ D S k1 k2 k3 k4 =>
  h F H0 H σ S _ fun x v H' px e r => k1 _ _ _ (k x px) ((S.go e).setT r) e.tk
theorem tr_asgN {P : List T → Prop} (h : EvN K bx te as P) (k : ∀ ts a, P ts → p.nx (as.set i (.o a ts))) : Tr K bx H0 (tAsg te (gName i)) as p := fun F H σ D S k1 k2 k3 k4 =>
  h F H0 H σ S _ fun ts a xs H' pt e ha hx r => k1 _ _ _ (k ts a pt) (S.setN e ha hx r) e.tk
theorem q_asg {P : T → Prop} (h : EvT K bx te as P) (k : ∀ x, P x → Tr K bx H0 u (as.set i (.t x)) p) : Tr K bx H0 (tSeq (tAsg te (gName i)) u) as p :=
  tr_seq (M := fun a => ∃ x, P x ∧ a = as.set i (.t x)) (tr_asg h fun x px => ⟨x, px, rfl⟩) fun a ⟨x, px, e⟩ => by rw [e]; exact k x px
theorem q_asg1 (h : Ev1 K bx te as x) (k : Tr K bx H0 u (as.set i (.t x)) p) : Tr K bx H0 (tSeq (tAsg te (gName i)) u) as p := q_asg h fun y e => by rw [e]; exact k
theorem q_asgN {P : List T → Prop} (h : EvN K bx te as P) (k : ∀ ts a, P ts → Tr K bx H0 u (as.set i (.o a ts)) p) : Tr K bx H0 (tSeq (tAsg te (gName i)) u) as p :=
  tr_seq (M := fun b => ∃ ts a, P ts ∧ b = as.set i (.o a ts)) (tr_asgN h fun ts a pt => ⟨ts, a, pt, rfl⟩) fun b ⟨ts, a, pt, e⟩ => by rw [e]; exact k ts a pt
theorem q_asgN1 {ts : List T} (h : EvN1 K bx te as ts) (k : ∀ a, Tr K bx H0 u (as.set i (.o a ts)) p) : Tr K bx H0 (tSeq (tAsg te (gName i)) u) as p := q_asgN h fun us a e => by rw [e]; exact k a
theorem tr_asg1 (h : Ev1 K bx te as x) (k : p.nx (as.set i (.t x))) : Tr K bx H0 (tAsg te (gName i)) as p := tr_asg h fun y e => by rw [e]; exact k
theorem tr_ret {P : T → Prop} (h : EvT K bx te as P) (k : ∀ x, P x → p.rt (.t x)) : Tr K bx H0 (tRet te) as p := fun F H σ D S k1 k2 k3 k4 =>
  h F H0 H σ S _ fun x v H' px e r => k2 _ _ _ (k x px) (S.ev.trans e) r
theorem tr_ret1 (h : Ev1 K bx te as x) (k : p.rt (.t x)) : Tr K bx H0 (tRet te) as p := tr_ret h fun y e => by rw [e]; exact k
theorem tr_retN {P : List T → Prop} (h : EvN K bx te as P) (k : ∀ ts, P ts → p.rt (.n ts)) : Tr K bx H0 (tRet te) as p := fun F H σ D S k1 k2 k3 k4 =>
  h F H0 H σ S _ fun ts a xs H' pt e ha hx r => k2 _ _ _ (k ts pt) (S.ev.trans e) ⟨a, xs, rfl, S.ev.back S.box ha, hx, r⟩
theorem tr_retO {a : Addr} {ts : List T} (h : as[i]? = some (.o a ts)) (k : p.rt (.n ts)) : Tr K bx H0 (tRet (tVar i)) as p := fun F H σ D S k1 k2 k3 k4 => by
  obtain ⟨o, h1, rfl, n, h0, xs, h2, r⟩ := S.slot i _ h
  exact ⟨.ref a, h1, k2 _ _ _ k S.ev ⟨a, xs, rfl, h0, h2, r⟩⟩
theorem tr_if {P : Bool → Prop} (h : EvB K bx t as P) (h1 : P true → Tr K bx H0 s as p) (h2 : P false → Tr K bx H0 u as p) : Tr K bx H0 (tIfS t s u) as p := fun F H σ D S k1 k2 k3 k4 =>
  h F H0 H σ S _ fun b H' pb e => by
    cases b with
    | true =>
      show s D σ H'
      exact h1 pb F H' σ D (S.go e) (fun a b c d x f => k1 a b c d x (e.tk.trans f)) k2 (fun a b c d x f => k3 a b c d x (e.tk.trans f)) (fun a b c d x f => k4 a b c d x (e.tk.trans f))
    | false =>
      show u D σ H'
      exact h2 pb F H' σ D (S.go e) (fun a b c d x f => k1 a b c d x (e.tk.trans f)) k2 (fun a b c d x f => k3 a b c d x (e.tk.trans f)) (fun a b c d x f => k4 a b c d x (e.tk.trans f))
theorem tr_if1 {b : Bool} (h : EvB1 K bx t as b) (h1 : b = true → Tr K bx H0 s as p) (h2 : b = false → Tr K bx H0 u as p) : Tr K bx H0 (tIfS t s u) as p := tr_if h (fun e => h1 e.symm) (fun e => h2 e.symm)
theorem tr_next (k : p.nx as) : Tr K bx H0 tNext as p := fun F H σ D S k1 k2 k3 k4 => k1 as σ H k S (TK.refl H)
theorem tr_break (k : p.bk as) : Tr K bx H0 tBreak as p := fun F H σ D S k1 k2 k3 k4 => k3 as σ H k S (TK.refl H)
theorem tr_cont (k : p.ct as) : Tr K bx H0 tCont as p := fun F H σ D S k1 k2 k3 k4 => k4 as σ H k S (TK.refl H)
/-- an if that is followed by the rest -/
theorem q_if {P : Bool → Prop} {M : List A → Prop} (h : EvB K bx t as P) (h1 : P true → Tr K bx H0 s as { p with nx := M }) (h2 : P false → Tr K bx H0 u as { p with nx := M }) {z : TS} (k : ∀ as', M as' → Tr K bx H0 z as' p) : Tr K bx H0 (tSeq (tIfS t s u) z) as p :=
  tr_seq (tr_if h h1 h2) k
theorem tr_app {a : Addr} {ts : List T} {P : T → Prop} (h : as[i]? = some (.o a ts)) (he : EvT K bx te as P) (hz : ts.length < 100000) (k : ∀ x, P x → p.nx (as.set i (.o a (ts ++ [x])))) : Tr K bx H0 (tDrop (tBM K "list" rAppend (tVar i) (tCons te tNil))) as p := fun F H σ D S k1 k2 k3 k4 => by
  obtain ⟨o, h1, rfl, n, h0, xs, h2, r⟩ := S.slot i _ h
  refine ⟨.ref a, h1, Or.inl ⟨rfl, xs, sq_of h2⟩, he F H0 H σ S _ fun x v H' px e rx => ?_⟩
  have h2' := e.keep a _ n h2
  refine ⟨a, xs, v, rfl, rfl, h2', sz_lt (by rw [r.len]; exact hz), ?_⟩
  obtain ⟨S', tk⟩ := (S.go e).wr h ((RepL.tk e.tk _ _ r).app (RepL.one rx))
  exact k1 _ _ _ (k x px) S' (e.tk.trans tk)
theorem tr_app1 {a : Addr} {ts : List T} (h : as[i]? = some (.o a ts)) (he : Ev1 K bx te as x) (hz : ts.length < 100000) (k : p.nx (as.set i (.o a (ts ++ [x])))) : Tr K bx H0 (tDrop (tBM K "list" rAppend (tVar i) (tCons te tNil))) as p := tr_app h he hz fun y e => by rw [e]; exact k
theorem tr_ext {a : Addr} {ts us : List T} (h : as[i]? = some (.o a ts)) (he : EvN1 K bx te as us) (hz : ts.length + us.length < 100000) (k : p.nx (as.set i (.o a (ts ++ us)))) : Tr K bx H0 (tDrop (tBM K "list" rExtend (tVar i) (tCons te tNil))) as p := fun F H σ D S k1 k2 k3 k4 => by
  obtain ⟨o, h1, rfl, n, h0, xs, h2, r⟩ := S.slot i _ h
  refine ⟨.ref a, h1, Or.inl ⟨rfl, xs, sq_of h2⟩, he F H0 H σ S _ fun ws b ys H' px e hb hy ry => ?_⟩
  subst px
  have h2' := e.keep a _ n h2
  refine ⟨a, b, xs, ys, rfl, rfl, h2', hy, sz_of (by rw [r.len, ry.len]; omega), ?_⟩
  obtain ⟨S', tk⟩ := (S.go e).wr h ((RepL.tk e.tk _ _ r).app ry)
  exact k1 _ _ _ k S' (e.tk.trans tk)
theorem tr_setI {a : Addr} {ts : List T} {m : Nat} (h : as[i]? = some (.o a ts)) (he : Ev1 K bx te as x) (hi : Ev1 K bx ta as (.int (m : Int))) (hm : m < ts.length) (k : p.nx (as.set i (.o a (ts.set m x)))) : Tr K bx H0 (tAsg te (gSub (tVar i) ta rSetL)) as p := fun F H σ D S k1 k2 k3 k4 => by
  refine he F H0 H σ S _ fun y v H1 px e rx => ?_
  subst px
  have S1 := S.go e
  obtain ⟨o, h1, rfl, n, h0, xs, h2, r⟩ := S1.slot i _ h
  refine ⟨.ref a, h1, hi F H0 H1 σ S1 _ fun z w H2 pz e2 rz => ?_⟩
  subst pz
  have h2' := e2.keep a _ n h2
  have r2 := RepL.tk e2.tk _ _ r
  refine ⟨a, xs, (m : Int), m, rfl, rep_int.mp rz, h2', ixN_nat (by rw [r.len]; exact hm), ?_⟩
  obtain ⟨S', tk⟩ := (S1.go e2).wr h (r2.set (j := m) (Rep.tk e2.tk _ _ rx))
  exact k1 _ _ _ k S' ((e.tk.trans e2.tk).trans tk)
theorem tr_aug {f : Int → Int → Int} {m n : Int} (h : as[i]? = some (.t (.int m))) (he : Ev1 K bx te as (.int n)) (k : p.nx (as.set i (.t (.int (f m n))))) : Tr K bx H0 (tAug i te (ipI f)) as p := fun F H σ D S k1 k2 k3 k4 => by
  obtain ⟨v, h1, r⟩ := S.at_ h
  refine ⟨v, h1, he F H0 H σ S _ fun y w H' px e ry => ?_⟩
  subst px
  exact ⟨m, n, rep_int.mp r, rep_int.mp ry, k1 _ _ _ k ((S.go e).setT (rep_int.mpr rfl)) e.tk⟩

/-! ### targets -/
def GT (K : PySem.W.Frag) (bx : BX) (g : TG) (js : List Nat) (as : List A) (x : T) (as' : List A) : Prop := ∀ F H0 H σ v, SI K bx F H0 H as σ → Rep H x v → ∀ Q : L2.St → Hp → Prop,
  (∀ σ', SI K bx F H0 H as' σ' → σ'.length = σ.length → (∀ k, k ∉ js → σ'[k]? = σ[k]?) → Q σ' H) → g v σ H Q
theorem gt_name : GT K bx (gName i) [i] as x (as.set i (.t x)) := fun F H0 H σ v S r Q q =>
  q _ (S.setT r) (List.length_set ..) fun k hk => List.getElem?_set_ne (fun e => hk (by simp [e]))
def GTs (K : PySem.W.Frag) (bx : BX) (g : TGs) (js : List Nat) (as : List A) (ts : List T) (as' : List A) : Prop := ∀ F H0 H σ vs, SI K bx F H0 H as σ → RepL H ts vs → ∀ Q : L2.St → Hp → Prop,
  (∀ σ', SI K bx F H0 H as' σ' → σ'.length = σ.length → (∀ k, k ∉ js → σ'[k]? = σ[k]?) → Q σ' H) → g vs σ H Q
theorem gts_nil : GTs K bx gNil [] as [] as := fun F H0 H σ vs S r Q q => ⟨repL_nil.mp r, q σ S rfl fun _ _ => rfl⟩
theorem gts_cons {g : TGs} {js : List Nat} {ts : List T} {as' : List A} (h : GTs K bx g js (as.set i (.t x)) ts as') : GTs K bx (gCons (gName i) g) (i :: js) as (x :: ts) as' := fun F H0 H σ vs S r Q q => by
  obtain ⟨v, w, rfl, r1, r2⟩ := repL_cons.mp r
  refine ⟨v, w, rfl, h F H0 H _ w (S.setT r1) r2 Q fun σ' S' l e => q σ' S' (by rw [l, List.length_set]) fun k hk => ?_⟩
  rw [e k (fun z => hk (List.mem_cons_of_mem _ z)), List.getElem?_set_ne (fun z => hk (by simp [z]))]
theorem gt_tup {g : TGs} {js : List Nat} {ts : List T} {as' : List A} {n : Nat} (h : GTs K bx g js as ts as') (hn : ts.length = n := by rfl) : GT K bx (gTup K n g) js as (.tup ts) as' := fun F H0 H σ v S r Q q => by
  obtain ⟨a, xs, rfl, h1, r1⟩ := rep_tup.mp r
  exact ⟨a, xs, rfl, SqT.of h1, by rw [r1.len, hn], h F H0 H σ xs S r1 Q q⟩

/-! ### loops -/
theorem split_at {α : Type} : ∀ {xs : List α} {i : Nat} {z : α}, xs[i]? = some z → xs = xs.take i ++ z :: xs.drop (i + 1)
  | [], i, z, h => by simp at h
  | x :: xs, 0, z, h => by
    have e : x = z := by simpa using h
    subst e
    rfl
  | x :: xs, i + 1, z, h => by
    have h1 : xs[i]? = some z := by simpa using h
    have ih := split_at h1
    show x :: xs = x :: (xs.take i ++ z :: xs.drop (i + 1))
    rw [← ih]
theorem tr_forT {α : Type} {enc : α → T} {xs : List α} {g : TG} (hl : Ev1 K bx tl as (.tup (xs.map enc))) (I : List α → List A → Prop) (h0 : I [] as)
    (hs : ∀ done x rest as', xs = done ++ x :: rest → I done as' → ∃ (js : List Nat) (as2 : List A), GT K bx g js as' (enc x) as2 ∧ Tr K bx H0 s as2 { nx := I (done ++ [x]), rt := p.rt, bk := p.nx, ct := I (done ++ [x]) })
    (hd : ∀ as', I xs as' → p.nx as') : Tr K bx H0 (tFor (iTup K tl) g s) as p := fun F H σ D S k1 k2 k3 k4 => by
  refine hl F H0 H σ S _ fun y v H1 px e r => ?_
  subst px
  obtain ⟨a, vs, rfl, h1, r1⟩ := rep_tup.mp r
  have S1 := S.go e
  refine ⟨a, rfl, ⟨vs, SqT.of h1⟩, for_tup (xs := vs) (fun i σ' H' => ∃ as', I (xs.take i) as' ∧ SI K bx F H0 H' as' σ' ∧ TK H1 H') ⟨as, by rw [List.take_zero]; exact h0, S1, TK.refl H1⟩ (fun i σ' H' _ ⟨_, _, _, tk⟩ => SqT.of (tk _ _ h1)) ?_ ?_⟩
  · rintro i w σ' H' hi ⟨as', hI, S', tk⟩
    obtain ⟨t, ht, rt⟩ := r1.back hi
    rw [List.getElem?_map] at ht
    cases hx : xs[i]? with
    | none => rw [hx] at ht; cases ht
    | some z =>
      rw [hx] at ht
      have ez : enc z = t := Option.some.inj ht
      subst ez
      obtain ⟨hlt, hz⟩ := List.getElem?_eq_some_iff.mp hx
      have split : xs = xs.take i ++ z :: xs.drop (i + 1) := split_at hx
      have tk1 : xs.take (i + 1) = xs.take i ++ [z] := by rw [List.take_add_one, hx]; rfl
      obtain ⟨js, as2, hg, hb⟩ := hs _ z _ as' split hI
      refine hg F H0 H' σ' w S' (Rep.tk tk _ _ rt) _ fun σ2 S2 _ _ => ?_
      refine hb F H' σ2 _ S2 (fun a b c d x f => ⟨a, by rw [tk1]; exact d, x, tk.trans f⟩) k2 (fun a b c d x f => k1 a b c d x ((e.tk.trans tk).trans f)) (fun a b c d x f => ⟨a, by rw [tk1]; exact d, x, tk.trans f⟩)
  · rintro σ' H' ⟨as', hI, S', tk⟩
    have hl2 : vs.length = xs.length := by rw [r1.len, List.length_map]
    rw [hl2, List.take_length] at hI
    exact k1 as' σ' H' (hd as' hI) S' (e.tk.trans tk)
/-- over a list whose heap place the state keeps -/
theorem for_lst {α : Type} {enc : α → T} {xs : List α} {g : TG} {F : List (Addr × List V)} {H1 : Hp} {σ : L2.St} {D : Ends} {a : Addr} {vs : List V} (r1 : RepL H1 (xs.map enc) vs) (S1 : SI K bx F H0 H1 as σ)
    (hk : ∀ as' σ' H', SI K bx F H0 H' as' σ' → SqL K H' a vs) (I : List α → List A → Prop) (h0 : I [] as)
    (hs : ∀ done x rest as', xs = done ++ x :: rest → I done as' → ∃ (js : List Nat) (as2 : List A), GT K bx g js as' (enc x) as2 ∧ Tr K bx H0 s as2 { nx := I (done ++ [x]), rt := p.rt, bk := p.nx, ct := I (done ++ [x]) })
    (hd : ∀ as', I xs as' → p.nx as')
    (k1 : ∀ as' σ' H', p.nx as' → SI K bx F H0 H' as' σ' → TK H1 H' → D.nx σ' H') (k2 : ∀ r v H', p.rt r → JB bx H0 H' → ResOk H0 H' r v → D.rt v H') :
    ∃ W : Nat → Nat → L2.St → Hp → Prop, (∃ m, W 0 m σ H1) ∧ ∀ i m σ H, W i m σ H →
      ((Itl K a).stop i H ∧ D.nx σ H) ∨ ((Itl K a).go i H ∧ ∃ N : L2.St → Hp → Prop, (∀ σ' H', N σ' H' → ∃ m', m' < m ∧ W (i + 1) m' σ' H') ∧ ∀ x H', (Itl K a).yld i H x H' → g x σ H' fun σ2 H2 => s { D with nx := N, ct := N, bk := D.nx } σ2 H2) := by
  refine for_list (xs := vs) (fun i σ' H' => ∃ as', I (xs.take i) as' ∧ SI K bx F H0 H' as' σ' ∧ TK H1 H') ⟨as, by rw [List.take_zero]; exact h0, S1, TK.refl H1⟩ (fun i σ' H' _ ⟨as', _, S', tk⟩ => hk as' σ' H' S') ?_ ?_
  · rintro i w σ' H' hi ⟨as', hI, S', tk⟩
    obtain ⟨t, ht, rt⟩ := r1.back hi
    rw [List.getElem?_map] at ht
    cases hx : xs[i]? with
    | none => rw [hx] at ht; cases ht
    | some z =>
      rw [hx] at ht
      have ez : enc z = t := Option.some.inj ht
      subst ez
      obtain ⟨hlt, hz⟩ := List.getElem?_eq_some_iff.mp hx
      have split : xs = xs.take i ++ z :: xs.drop (i + 1) := split_at hx
      have tk1 : xs.take (i + 1) = xs.take i ++ [z] := by rw [List.take_add_one, hx]; rfl
      obtain ⟨js, as2, hg, hb⟩ := hs _ z _ as' split hI
      refine hg F H0 H' σ' w S' (Rep.tk tk _ _ rt) _ fun σ2 S2 _ _ => ?_
      refine hb F H' σ2 _ S2 (fun a b c d x f => ⟨a, by rw [tk1]; exact d, x, tk.trans f⟩) k2 (fun a b c d x f => k1 a b c d x (tk.trans f)) (fun a b c d x f => ⟨a, by rw [tk1]; exact d, x, tk.trans f⟩)
  · rintro σ' H' ⟨as', hI, S', tk⟩
    have hl2 : vs.length = xs.length := by rw [r1.len, List.length_map]
    rw [hl2, List.take_length] at hI
    exact k1 as' σ' H' (hd as' hI) S' tk
/-- a new list is walked -/
theorem SI.fr_add {F : List (Addr × List V)} {H H' : Hp} {σ : L2.St} (S : SI K bx F H0 H as σ) (e : JB bx H H') {q : Addr} {xs : List V} (hp : H q = none) (h1 : H' q = some (.lst xs)) : SI K bx ((q, xs) :: F) H0 H' as σ := by
  have S1 := S.go e
  refine ⟨S1.ev, S1.box, S1.len, S1.slot, S1.dj, fun z hz => ?_⟩
  rcases List.mem_cons.mp hz with rfl | hz
  · refine ⟨S.boxH.fresh hp, h1, fun i x g m => ?_⟩
    obtain ⟨_, _, ys, g1⟩ := S.own_some g m
    rw [hp] at g1; cases g1
  · exact S1.fr z hz
theorem SI.fr_out {F : List (Addr × List V)} {H : Hp} {σ : L2.St} {q : Addr × List V} (S : SI K bx (q :: F) H0 H as σ) : SI K bx F H0 H as σ := ⟨S.ev, S.box, S.len, S.slot, S.dj, fun z hz => S.fr z (List.mem_cons_of_mem _ hz)⟩
theorem tr_forN {α : Type} {enc : α → T} {xs : List α} {g : TG} (hl : EvN1 K bx tl as (xs.map enc)) (I : List α → List A → Prop) (h0 : I [] as)
    (hs : ∀ done x rest as', xs = done ++ x :: rest → I done as' → ∃ (js : List Nat) (as2 : List A), GT K bx g js as' (enc x) as2 ∧ Tr K bx H0 s as2 { nx := I (done ++ [x]), rt := p.rt, bk := p.nx, ct := I (done ++ [x]) })
    (hd : ∀ as', I xs as' → p.nx as') : Tr K bx H0 (tFor (iList K tl) g s) as p := fun F H σ D S k1 k2 k3 k4 => by
  refine hl F H0 H σ S _ fun y a vs H1 px e ha hx r => ?_
  subst px
  exact ⟨a, rfl, ⟨vs, SqL.of hx⟩, for_lst r (S.fr_add e ha hx) (fun as' σ' H' S' => SqL.of (S'.fr (a, vs) List.mem_cons_self).2.1) I h0 hs hd (fun a b c d x f => k1 a b c d x.fr_out (e.tk.trans f)) k2⟩
theorem tr_forL {α : Type} {enc : α → T} {xs : List α} {g : TG} (hl : as[i]? = some (.l (xs.map enc))) (I : List α → List A → Prop) (h0 : I [] as)
    (hs : ∀ done x rest as', xs = done ++ x :: rest → I done as' → ∃ (js : List Nat) (as2 : List A), GT K bx g js as' (enc x) as2 ∧ Tr K bx H0 s as2 { nx := I (done ++ [x]), rt := p.rt, bk := p.nx, ct := I (done ++ [x]) })
    (hd : ∀ as', I xs as' → p.nx as') : Tr K bx H0 (tFor (iList K (tVar i)) g s) as p := fun F H σ D S k1 k2 k3 k4 => by
  obtain ⟨o, h1, v, rfl, a, vs, rfl, n, sq, r⟩ := S.slot i _ hl
  exact ⟨.ref a, h1, a, rfl, ⟨vs, S.ev.sqL n sq⟩, for_lst (RepL.tk S.ev.tk _ _ r) S (fun as' σ' H' S' => S'.ev.sqL n sq) I h0 hs hd k1 k2⟩
/-- over a range -/
theorem for_rng {lo : Int} {n : Nat} {F : List (Addr × List V)} {H1 : Hp} {σ : L2.St} {D : Ends} (S1 : SI K bx F H0 H1 as σ) (I : Nat → List A → Prop) (h0 : I 0 as)
    (hs : ∀ m as', m < n → I m as' → Tr K bx H0 s (as'.set j (.t (.int (lo + m)))) { nx := I (m + 1), rt := p.rt, bk := p.nx, ct := I (m + 1) })
    (hd : ∀ as', I n as' → p.nx as')
    (k1 : ∀ as' σ' H', p.nx as' → SI K bx F H0 H' as' σ' → TK H1 H' → D.nx σ' H') (k2 : ∀ r v H', p.rt r → JB bx H0 H' → ResOk H0 H' r v → D.rt v H') :
    ∃ W : Nat → Nat → L2.St → Hp → Prop, (∃ m, W 0 m σ H1) ∧ ∀ i m σ H, W i m σ H →
      ((Itr lo n).stop i H ∧ D.nx σ H) ∨ ((Itr lo n).go i H ∧ ∃ N : L2.St → Hp → Prop, (∀ σ' H', N σ' H' → ∃ m', m' < m ∧ W (i + 1) m' σ' H') ∧ ∀ x H', (Itr lo n).yld i H x H' → (gName j) x σ H' fun σ2 H2 => s { D with nx := N, ct := N, bk := D.nx } σ2 H2) := by
  refine for_range (fun i σ' H' => ∃ as', I i as' ∧ SI K bx F H0 H' as' σ' ∧ TK H1 H') ⟨as, h0, S1, TK.refl H1⟩ ?_ ?_
  · rintro i σ' H' hi ⟨as', hI, S', tk⟩
    exact hs i as' hi hI F H' _ _ (S'.setT (rep_int.mpr rfl)) (fun a b c d x f => ⟨a, d, x, tk.trans f⟩) k2 (fun a b c d x f => k1 a b c d x (tk.trans f)) (fun a b c d x f => ⟨a, d, x, tk.trans f⟩)
  · rintro σ' H' ⟨as', hI, S', tk⟩
    exact k1 as' σ' H' (hd as' hI) S' tk
theorem tr_range1 {ta : TA} {q : Int → Prop} (h : EvVs K bx ta as (fun ts => ∃ n, ts = [.int n] ∧ q n)) (hn : ∀ n, q n → -100000 ≤ n ∧ n ≤ 100000) (I : Int → Nat → List A → Prop) (h0 : ∀ n, q n → I n 0 as)
    (hs : ∀ n (m : Nat) as', q n → (m : Int) < n → I n m as' → Tr K bx H0 s (as'.set j (.t (.int m))) { nx := I n (m + 1), rt := p.rt, bk := p.nx, ct := I n (m + 1) })
    (hd : ∀ n as', q n → I n n.toNat as' → p.nx as') : Tr K bx H0 (tFor (iRng1 ta) (gName j) s) as p := fun F H σ D S k1 k2 k3 k4 => by
  refine h F H0 H σ S _ fun ts vs H1 ⟨n, e, qn⟩ e1 r => ?_
  subst e
  obtain ⟨b1, b2⟩ := hn n qn
  refine ⟨n, RepL.ints (ns := [n]) r, by omega, by omega, for_rng (lo := 0) (S.go e1) (I n) (h0 n qn) (fun m as' hm hI => ?_) (fun as' => hd n as' qn) (fun a b c d x f => k1 a b c d x (e1.tk.trans f)) k2⟩
  rw [Int.zero_add]
  exact hs n m as' qn (by omega) hI
theorem tr_rangeD {ta : TA} {n : Nat} (h : EvVs1 K bx ta as [.int (n : Int)]) (hn : n ≤ 100000) (I : Nat → List A → Prop) (h0 : I 0 as)
    (hs : ∀ (m : Nat) as', m < n → I m as' → Tr K bx H0 s (as'.set j (.t (.int m))) { nx := I (m + 1), rt := p.rt, bk := p.nx, ct := I (m + 1) })
    (hd : ∀ as', I n as' → p.nx as') : Tr K bx H0 (tFor (iRng1 ta) (gName j) s) as p :=
  tr_range1 (q := fun k => k = (n : Int)) (fun F H0 H σ S Q k => h F H0 H σ S Q fun ts vs H' e => k ts vs H' ⟨n, e, rfl⟩) (fun k e => by omega) (fun _ => I) (fun _ _ => h0) (fun k m as' e hm hI => hs m as' (by omega) hI) (fun k as' e hI => hd as' (by rw [e] at hI; simpa using hI))
theorem tr_range2 {ta : TA} {lo hi : Int} (h : EvVs1 K bx ta as [.int lo, .int hi]) (hb : -100000 ≤ lo ∧ lo ≤ 100000 ∧ -100000 ≤ hi ∧ hi ≤ 100000) (I : Nat → List A → Prop) (h0 : I 0 as)
    (hs : ∀ (m : Nat) as', m < (hi - lo).toNat → I m as' → Tr K bx H0 s (as'.set j (.t (.int (lo + m)))) { nx := I (m + 1), rt := p.rt, bk := p.nx, ct := I (m + 1) })
    (hd : ∀ as', I (hi - lo).toNat as' → p.nx as') : Tr K bx H0 (tFor (iRng2 ta) (gName j) s) as p := fun F H σ D S k1 k2 k3 k4 => by
  refine h F H0 H σ S _ fun ts vs H1 e e1 r => ?_
  subst e
  exact ⟨lo, hi, RepL.ints (ns := [lo, hi]) r, ⟨by omega, by omega, by omega, by omega⟩, for_rng (lo := lo) (S.go e1) I h0 hs hd (fun a b c d x f => k1 a b c d x (e1.tk.trans f)) k2⟩
theorem tr_while (W : Nat → List A → Prop) (m0 : Nat) (h0 : W m0 as)
    (hs : ∀ m as', W m as' → ∃ b, EvB1 K bx t as' b ∧ (b = true → Tr K bx H0 s as' { nx := fun a => ∃ m', m' < m ∧ W m' a, rt := p.rt, bk := p.nx, ct := fun a => ∃ m', m' < m ∧ W m' a }) ∧ (b = false → p.nx as')) : Tr K bx H0 (tWhile t s) as p := fun F H σ D S k1 k2 k3 k4 => by
  refine ⟨fun m σ' H' => ∃ as', W m as' ∧ SI K bx F H0 H' as' σ' ∧ TK H H', ⟨m0, as, h0, S, TK.refl H⟩, ?_⟩
  rintro m σ' H' ⟨as', hW, S', tk⟩
  obtain ⟨b, hb, h1, h2⟩ := hs m as' hW
  refine hb F H0 H' σ' S' _ fun c H1 e e1 => ?_
  subst e
  cases c with
  | true =>
    refine ⟨fun σ2 H2 => ∃ m', m' < m ∧ ∃ as', W m' as' ∧ SI K bx F H0 H2 as' σ2 ∧ TK H H2, fun σ2 H2 h => h, ?_⟩
    exact h1 rfl F H1 σ' _ (S'.go e1) (fun a b c ⟨m', hm, hw⟩ x f => ⟨m', hm, a, hw, x, (tk.trans e1.tk).trans f⟩) k2 (fun a b c d x f => k1 a b c d x ((tk.trans e1.tk).trans f)) (fun a b c ⟨m', hm, hw⟩ x f => ⟨m', hm, a, hw, x, (tk.trans e1.tk).trans f⟩)
  | false =>
    show D.nx σ' H1
    exact k1 as' σ' H1 (h2 rfl) (S'.go e1) (tk.trans e1.tk)

/-! ### comprehensions -/
def wipeA (as : List A) : List Nat → List A
  | [] => as
  | v :: vs => (wipeA as vs).set v .x
theorem SI.wipe {F : List (Addr × List V)} {H : Hp} {σ : L2.St} (S : SI K bx F H0 H as σ) : ∀ vs : List Nat, SI K bx F H0 H (wipeA as vs) (L2.wipe σ vs)
  | [] => S
  | v :: vs => (S.wipe vs).setX
theorem wipe_in {σ : L2.St} {k : Nat} : ∀ {vs : List Nat}, k ∈ vs → k < σ.length → (L2.wipe σ vs)[k]? = some none
  | v :: vs, h, hl => by
    show ((L2.wipe σ vs).set v none)[k]? = some none
    by_cases e : v = k
    · subst e
      exact List.getElem?_set_self (by rw [wipe_length]; exact hl)
    · rw [List.getElem?_set_ne e]
      rcases List.mem_cons.mp h with q | q
      · exact absurd q.symm e
      · exact wipe_in q hl
theorem wipe_back {σ σ' : L2.St} {vs js : List Nat} (hl : σ'.length = (L2.wipe σ vs).length) (h : ∀ k, k ∉ js → σ'[k]? = (L2.wipe σ vs)[k]?) (hj : ∀ j ∈ js, j ∈ vs) : L2.wipe σ' vs = L2.wipe σ vs := by
  rw [wipe_length] at hl
  apply List.ext_getElem?
  intro k
  by_cases hk : k ∈ vs
  · by_cases hlt : k < σ.length
    · rw [wipe_in hk hlt, wipe_in hk (by omega)]
    · rw [List.getElem?_eq_none (by rw [wipe_length]; omega), List.getElem?_eq_none (by rw [wipe_length]; omega)]
  · rw [wipe_out hk, wipe_out hk, h k (fun z => hk (hj k z)), wipe_out hk]
theorem lc_turn {F : List (Addr × List V)} {H1 H' : Hp} {σ : L2.St} {g : TG} {js vs : List Nat} {tt : TT} {z : T} {w : V} {D : Addr} {as2 : List A} {B : Bool → Prop} {P : T → Prop} {Acc Acc' : List T → Prop} {n : Nat} (S1 : SI K bx F H0 H1 as σ) (hD : H1 D = none)
    (hj : ∀ j ∈ js, j ∈ vs) (hz : n < 50000) (hg : GT K bx g js (wipeA as vs) z as2) (ht : EvB K bx tt as2 B) (he : B true → EvT K bx te as2 P) (ka : ∀ y ts, B true → P y → Acc ts → Acc' (ts ++ [y])) (kb : ∀ ts, B false → Acc ts → Acc' ts)
    (e1 : JB bx H1 H') (rz : Rep H' z w) (acc : ∃ ts us, Acc ts ∧ ts.length ≤ n ∧ H' D = some (.lst us) ∧ RepL H' ts us) :
    g w (L2.wipe σ vs) H' fun σ2 H2 => L2.wipe σ2 vs = L2.wipe σ vs ∧ tt σ2 H2 fun b H3 =>
      if b = true then te σ2 H3 fun y H4 => ∃ acc, H4 D = some (.lst acc) ∧ acc.length < sizeLine ∧ (fun G => JB bx H1 G ∧ ∃ ts us, Acc' ts ∧ ts.length ≤ n + 1 ∧ G D = some (.lst us) ∧ RepL G ts us) (upd H4 D (.lst (acc ++ [y])))
      else (fun G => JB bx H1 G ∧ ∃ ts us, Acc' ts ∧ ts.length ≤ n + 1 ∧ G D = some (.lst us) ∧ RepL G ts us) H3 := by
  have S' := (S1.go e1).wipe vs
  have nD : NB bx D := S1.boxH.fresh hD
  obtain ⟨ts, us, hA, hl, hu, ru⟩ := acc
  refine hg F H0 H' _ w S' rz _ fun σ2 S2 l2 k2 => ⟨wipe_back l2 k2 hj, ?_⟩
  refine ht F H0 H' σ2 S2 _ fun b H3 pb e3 => ?_
  cases b with
  | true =>
    refine he pb F H0 H3 σ2 (S2.go e3) _ fun y v H4 py e4 ry => ?_
    have hu4 := (e3.trans e4).keep D _ nD hu
    have r4 := RepL.tk (e3.trans e4).tk _ _ ru
    refine ⟨us, hu4, sz_lt (by rw [ru.len]; omega), (e1.trans (e3.trans e4)).mut hD, ts ++ [y], us ++ [v], ka y ts pb py hA, by rw [List.length_append, List.length_singleton]; omega, upd_same, ?_⟩
    refine RepL.tk (fun x zs q => ?_) _ _ (r4.app (RepL.one ry))
    rw [upd_ne (fun z => by rw [z, hu4] at q; cases q)]
    exact q
  | false =>
    show JB bx H1 H3 ∧ _
    exact ⟨e1.trans e3, ts, us, kb ts pb hA, by omega, e3.keep D _ nD hu, RepL.tk e3.tk _ _ ru⟩
theorem n_lcT {α : Type} {enc : α → T} {xs : List α} {g : TG} {js vs : List Nat} {tt : TT} (hl : Ev1 K bx tl as (.tup (xs.map enc))) (hz : xs.length < 50000) (hj : ∀ j ∈ js, j ∈ vs) (Acc : List α → List T → Prop) (h0 : Acc [] [])
    (hs : ∀ done x rest, xs = done ++ x :: rest → ∃ (as2 : List A) (B : Bool → Prop) (P : T → Prop), GT K bx g js (wipeA as vs) (enc x) as2 ∧ EvB K bx tt as2 B ∧ (B true → EvT K bx te as2 P) ∧
      (∀ y ts, B true → P y → Acc done ts → Acc (done ++ [x]) (ts ++ [y])) ∧ ∀ ts, B false → Acc done ts → Acc (done ++ [x]) ts) : EvN K bx (tLc (iTup K tl) g tt te vs) as (Acc xs) := fun F H0 H σ S Q q => by
  refine hl F H0 H σ S _ fun y v H1 px e r => ?_
  subst px
  obtain ⟨a, ws, rfl, h1, r1⟩ := rep_tup.mp r
  have S1 := S.go e
  refine ⟨a, rfl, ⟨ws, SqT.of h1⟩, fun D hD => lc_tup (xs := ws) (fun i G => JB bx H1 G ∧ ∃ ts us, Acc (xs.take i) ts ∧ ts.length ≤ i ∧ G D = some (.lst us) ∧ RepL G ts us) ⟨JB.new hD, [], [], by rw [List.take_zero]; exact h0, Nat.zero_le _, upd_same, repL_nil.mpr rfl⟩ (fun i G _ h => SqT.of (h.1.tk _ _ h1)) ?_ ?_⟩
  · rintro i w G hi ⟨e1, acc⟩
    obtain ⟨t, ht, rt⟩ := r1.back hi
    rw [List.getElem?_map] at ht
    cases hx : xs[i]? with
    | none => rw [hx] at ht; cases ht
    | some z =>
      rw [hx] at ht
      have ez : enc z = t := Option.some.inj ht
      subst ez
      obtain ⟨hlt, hz2⟩ := List.getElem?_eq_some_iff.mp hx
      have split : xs = xs.take i ++ z :: xs.drop (i + 1) := split_at hx
      have tk1 : xs.take (i + 1) = xs.take i ++ [z] := by rw [List.take_add_one, hx]; rfl
      obtain ⟨as2, B, P, g1, g2, g3, g4, g5⟩ := hs _ z _ split
      rw [tk1]
      exact lc_turn S1 hD hj (by omega) g1 g2 g3 g4 g5 e1 (Rep.tk e1.tk _ _ rt) acc
  · rintro G ⟨e1, ts, us, hA, _, hu, ru⟩
    have hl2 : ws.length = xs.length := by rw [r1.len, List.length_map]
    rw [hl2, List.take_length] at hA
    exact q ts D us G hA (e.trans e1) (e.back S.boxH hD) hu ru
theorem n_lcR {α : Type} {enc : α → T} {xs : List α} {g : TG} {js vs : List Nat} {tt : TT} (hl : EvR K bx tl as (xs.map enc)) (hz : xs.length < 50000) (hj : ∀ j ∈ js, j ∈ vs) (Acc : List α → List T → Prop) (h0 : Acc [] [])
    (hs : ∀ done x rest, xs = done ++ x :: rest → ∃ (as2 : List A) (B : Bool → Prop) (P : T → Prop), GT K bx g js (wipeA as vs) (enc x) as2 ∧ EvB K bx tt as2 B ∧ (B true → EvT K bx te as2 P) ∧
      (∀ y ts, B true → P y → Acc done ts → Acc (done ++ [x]) (ts ++ [y])) ∧ ∀ ts, B false → Acc done ts → Acc (done ++ [x]) ts) : EvN K bx (tLc (iList K tl) g tt te vs) as (Acc xs) := fun F H0 H σ S Q q => by
  refine hl F H0 H σ S _ fun v H1 e r => ?_
  obtain ⟨a, ws, rfl, n, sq, r1⟩ := r
  have S1 := S.go e
  refine ⟨a, rfl, ⟨ws, sq⟩, fun D hD => lc_list (xs := ws) (fun i G => JB bx H1 G ∧ ∃ ts us, Acc (xs.take i) ts ∧ ts.length ≤ i ∧ G D = some (.lst us) ∧ RepL G ts us) ⟨JB.new hD, [], [], by rw [List.take_zero]; exact h0, Nat.zero_le _, upd_same, repL_nil.mpr rfl⟩ (fun i G _ h => h.1.sqL n sq) ?_ ?_⟩
  · rintro i w G hi ⟨e1, acc⟩
    obtain ⟨t, ht, rt⟩ := r1.back hi
    rw [List.getElem?_map] at ht
    cases hx : xs[i]? with
    | none => rw [hx] at ht; cases ht
    | some z =>
      rw [hx] at ht
      have ez : enc z = t := Option.some.inj ht
      subst ez
      obtain ⟨hlt, hz2⟩ := List.getElem?_eq_some_iff.mp hx
      have split : xs = xs.take i ++ z :: xs.drop (i + 1) := split_at hx
      have tk1 : xs.take (i + 1) = xs.take i ++ [z] := by rw [List.take_add_one, hx]; rfl
      obtain ⟨as2, B, P, g1, g2, g3, g4, g5⟩ := hs _ z _ split
      rw [tk1]
      exact lc_turn S1 hD hj (by omega) g1 g2 g3 g4 g5 e1 (Rep.tk e1.tk _ _ rt) acc
  · rintro G ⟨e1, ts, us, hA, _, hu, ru⟩
    have hl2 : ws.length = xs.length := by rw [r1.len, List.length_map]
    rw [hl2, List.take_length] at hA
    exact q ts D us G hA (e.trans e1) (e.back S.boxH hD) hu ru
/-- .. by a filter and a map -/
theorem lcT_det {α : Type} {enc : α → T} {xs : List α} {g : TG} {js vs : List Nat} {tt : TT} (f : α → Bool) (m : α → T) (hl : Ev1 K bx tl as (.tup (xs.map enc))) (hz : xs.length < 50000) (hj : ∀ j ∈ js, j ∈ vs)
    (hs : ∀ x, x ∈ xs → ∃ as2 : List A, GT K bx g js (wipeA as vs) (enc x) as2 ∧ EvB1 K bx tt as2 (f x) ∧ (f x = true → Ev1 K bx te as2 (m x))) : EvN1 K bx (tLc (iTup K tl) g tt te vs) as ((xs.filter f).map m) :=
  n_lcT hl hz hj (fun done ts => ts = (done.filter f).map m) rfl fun done x rest e => by
    obtain ⟨as2, h1, h2, h3⟩ := hs x (by rw [e]; simp)
    refine ⟨as2, _, _, h1, h2, fun b => h3 b.symm, fun y ts b e1 e2 => ?_, fun ts b e2 => ?_⟩
    · rw [e1, e2, List.filter_append, List.map_append, List.filter_cons, ← b]; rfl
    · rw [e2, List.filter_append, List.map_append, List.filter_cons, ← b]
      show _ = _ ++ []
      rw [List.append_nil]
theorem lcR_det {α : Type} {enc : α → T} {xs : List α} {g : TG} {js vs : List Nat} {tt : TT} (f : α → Bool) (m : α → T) (hl : EvR K bx tl as (xs.map enc)) (hz : xs.length < 50000) (hj : ∀ j ∈ js, j ∈ vs)
    (hs : ∀ x, x ∈ xs → ∃ as2 : List A, GT K bx g js (wipeA as vs) (enc x) as2 ∧ EvB1 K bx tt as2 (f x) ∧ (f x = true → Ev1 K bx te as2 (m x))) : EvN1 K bx (tLc (iList K tl) g tt te vs) as ((xs.filter f).map m) :=
  n_lcR hl hz hj (fun done ts => ts = (done.filter f).map m) rfl fun done x rest e => by
    obtain ⟨as2, h1, h2, h3⟩ := hs x (by rw [e]; simp)
    refine ⟨as2, _, _, h1, h2, fun b => h3 b.symm, fun y ts b e1 e2 => ?_, fun ts b e2 => ?_⟩
    · rw [e1, e2, List.filter_append, List.map_append, List.filter_cons, ← b]; rfl
    · rw [e2, List.filter_append, List.map_append, List.filter_cons, ← b]
      show _ = _ ++ []
      rw [List.append_nil]
/-- no test -/
theorem filter_yes {α : Type} (xs : List α) : xs.filter (fun _ => true) = xs := by induction xs with
  | nil => rfl
  | cons x r ih => rw [List.filter_cons, if_pos rfl, ih]
theorem lcR_map {α : Type} {enc : α → T} {xs : List α} {g : TG} {js vs : List Nat} (m : α → T) (hl : EvR K bx tl as (xs.map enc)) (hz : xs.length < 50000) (hj : ∀ j ∈ js, j ∈ vs)
    (hs : ∀ x, x ∈ xs → ∃ as2 : List A, GT K bx g js (wipeA as vs) (enc x) as2 ∧ Ev1 K bx te as2 (m x)) : EvN1 K bx (tLc (iList K tl) g tYes te vs) as (xs.map m) :=
  (lcR_det (fun _ => true) m hl hz hj fun x hx => let ⟨as2, a, b⟩ := hs x hx; ⟨as2, a, b_yes, fun _ => b⟩).cast (by rw [filter_yes])
theorem lcT_map {α : Type} {enc : α → T} {xs : List α} {g : TG} {js vs : List Nat} (m : α → T) (hl : Ev1 K bx tl as (.tup (xs.map enc))) (hz : xs.length < 50000) (hj : ∀ j ∈ js, j ∈ vs)
    (hs : ∀ x, x ∈ xs → ∃ as2 : List A, GT K bx g js (wipeA as vs) (enc x) as2 ∧ Ev1 K bx te as2 (m x)) : EvN1 K bx (tLc (iTup K tl) g tYes te vs) as (xs.map m) :=
  (lcT_det (fun _ => true) m hl hz hj fun x hx => let ⟨as2, a, b⟩ := hs x hx; ⟨as2, a, b_yes, fun _ => b⟩).cast (by rw [filter_yes])
end

/-! ### a def -/
def Arg.toA : Arg → A
  | .t x => .t x
  | .r ts => .l ts
  | .b => .b
section
variable {P : Program} {w : World} {K : PySem.W.Frag} {mg : Str → Option Value} {base : Heap}
theorem si_start {bx : BX} {H : Hp} : ∀ {args : List Arg} {vs : List V}, ArgsOk K bx H args vs → ∀ (n : Nat) (i : Nat) (x : A), (args.map Arg.toA ++ List.replicate n A.x)[i]? = some x → ∃ o, (vs.map some ++ List.replicate n none)[i]? = some o ∧ SlotOk K bx H H x o
  | [], vs, h, n, i, x, e => by
    rw [show vs = [] from h]
    have h1 : (List.replicate n A.x)[i]? = some x := e
    rw [List.getElem?_replicate] at h1
    by_cases hi : i < n
    · rw [if_pos hi] at h1
      cases h1
      exact ⟨none, by show (List.replicate n none)[i]? = some none; rw [List.getElem?_replicate, if_pos hi], trivial⟩
    · rw [if_neg hi] at h1
      cases h1
  | a :: args, vs, ⟨v, r, e0, h1, h2⟩, n, 0, x, e => by
    subst e0
    have e1 : a.toA = x := by simpa using e
    subst e1
    refine ⟨some v, by simp, ?_⟩
    cases a with
    | t y => exact ⟨v, rfl, h1⟩
    | r ts => exact ⟨v, rfl, h1⟩
    | b =>
      obtain ⟨b, g, h, e⟩ := h1
      exact ⟨b, g, h, by rw [e]⟩
  | a :: args, vs, ⟨v, r, e0, h1, h2⟩, n, i + 1, x, e => by
    subst e0
    have e1 : (args.map Arg.toA ++ List.replicate n A.x)[i]? = some x := by simpa using e
    obtain ⟨o, h3, h4⟩ := si_start h2 n i x e1
    exact ⟨o, by simpa using h3, h4⟩
theorem toA_own {args : List Arg} {n i : Nat} {x : A} {a : Addr} (e : (args.map Arg.toA ++ List.replicate n A.x)[i]? = some x) (ha : a ∈ x.own) : False := by
  have h := List.mem_of_getElem? e
  rcases List.mem_append.mp h with h | h
  · obtain ⟨b, _, e⟩ := List.mem_map.mp h
    subst e
    cases b <;> simp [Arg.toA, A.own] at ha
  · have := List.eq_of_mem_replicate h
    subst this
    simp [A.own] at ha
theorem fn_tr {x qual : Str} {st : Stmt} {f : Addr} {fd : FuncData} {N ps : List Str} {k : Nat} {R : List Arg → (Res → Prop) → Prop} (F : Fun K x qual st f fd) (S : FnScope N ps (defScope st)) (len : ∀ args Pr, R args Pr → args.length = ps.length)
    (hb : ∀ (cdv : Value) (Ar : Around) (outer : List Env) (s : Shared) (H : Hp) (E : XK), Room k (Ar.deeper (PyProof.Rows.envOfC qual (defScope st) s.heap.objs.size f cdv)) →
      ∃ t, PSs (cxOf CX0 P w K mg base N qual (defScope st) f cdv Ar outer s H E).nox (defBody st) t ∧ ∀ bx args Pr, R args Pr → Tr K bx H t (args.map Arg.toA ++ List.replicate (N.length - ps.length) A.x) { rt := Pr }) :
    FnOk P w K mg base CX0 (k + 1) f fd ps (spF K R) := by
  refine F.ok S (fun vs H Q E h => ?_) (fun cdv A outer s H vs Q E hr h => ?_)
  · obtain ⟨bx, args, Pr, hR, _, ha, _⟩ := h
    rw [ha.len, len args Pr hR]
  · obtain ⟨t, hp, ht⟩ := hb cdv A outer s H E hr
    obtain ⟨bx, args, Pr, hR, hbx, ha, q⟩ := h
    refine ⟨t, hp, ht bx args Pr hR [] H _ _ ⟨JB.refl H, hbx, ?_, fun i x e => ?_, fun i j x y a e1 _ m _ => (toA_own e1 m).elim, fun _ h => nomatch h⟩ (fun _ _ _ h => h.elim) (fun r v H' pr e ok => q r v H' pr e ok) (fun _ _ _ h => h.elim) (fun _ _ _ h => h.elim)⟩
    · unfold L2.start
      rw [List.length_append, List.length_append, List.length_map, List.length_map, List.length_replicate, List.length_replicate, ha.len, len args Pr hR]
    · unfold L2.start
      have h := si_start ha (N.length - ps.length) i x e
      rw [ha.len, len args Pr hR]
      exact h
end
end K12
/-! The text by places. -/
namespace K12
open PySem L2 Evl
/-- a def of the text, where it stands -/
structure Fn (K : PySem.W.Frag) (mg : Str → Option Value) (x : Str) (st : Stmt) (ps : List Str) where
  a : Addr
  fd : FuncData
  F : Fun K x x st a fd
  m : mg x = some (.ref a)
  b : Binds K fd ps []
/-- the class NoPlan -/
structure NoP (K : PySem.W.Frag) (mg : Str → Option Value) where
  C : Addr
  gC : mg "NoPlan" = some (.ref C)
  xC : PySem.W.excIn K C [.type "ValueError", .type "Exception", .type "BaseException", .type "object"] "ValueError.__new__" = true
  kC : PySem.W.keepIn K (.ref C) = true
  bC : PySem.W.subIn K (.ref C) (.type "BaseException") = some true
  tC : PySem.W.typeIn K (.ref C) = some (.type "type")
  eC : PySem.W.exmOne K (.ref C) (.ref C) = some true
  sC : PySem.W.subIn K (.ref C) (.ref C) = some true
section
variable (K : PySem.W.Frag) {X : Cx} {pos : Pos}
theorem ix_tupK (h : X.K = K := by rfl) : IxR X (rIxT K) := by subst h; exact ix_tup
theorem ix_listK (h : X.K = K := by rfl) : IxR X (rIxL K) := by subst h; exact ix_list
theorem ix_seqK (h : X.K = K := by rfl) : IxR X (rIx K) := by subst h; exact ix_seq
theorem op_in_seqK (h : X.K = K := by rfl) : OpR X (compareOp .In) (rIn K false) := by subst h; exact op_in_seq
theorem op_notIn_seqK (h : X.K = K := by rfl) : OpR X (compareOp .NotIn) (rIn K true) := by subst h; exact op_notIn_seq
theorem call_lenK (h : X.K = K := by rfl) : CallR X (.builtin "len") (rLenS K) := by subst h; exact call_len_seq
/-- tuple(x) of a list or a tuple -/
def rTupS (K : PySem.W.Frag) : List V → Hp → VK → Prop := fun xs H Q => ∃ p ys, xs = [.ref p] ∧ ((SqL K H p ys ∧ ∀ l, H l = none → Q (.ref l) (upd H l (.tup ys))) ∨ (SqT K H p ys ∧ Q (.ref p) H))
theorem call_tupleK (h : X.K = K := by rfl) : CallR X (.type "tuple") (rTupS K) := by subst h; exact call_tuple_of
theorem cr_sumK (hc : X.calm = true) (h : X.K = K := by rfl) : CallR X (.builtin "sum") (rSum K) := by subst h; exact cr_sum hc
theorem cr_allK (hc : X.calm = true) (h : X.K = K := by rfl) : CallR X (.builtin "all") (rAll K) := by subst h; exact cr_all hc
theorem cr_sortedK (h : X.K = K := by rfl) : CallR X (.builtin "sorted") (rSortedI K) := by subst h; exact cr_sortedI
theorem call_isiK2 (h : X.K = K := by rfl) : CallR X (.builtin "isinstance") (rIsi K) := by subst h; exact call_isi
theorem mt_indexK (h : X.K = K := by rfl) : MtR X "list.index" (rIndex K) := by subst h; exact mt_index
theorem sl_listK (h : X.K = K := by rfl) : SlR X (rSlL K) := by subst h; exact sl_list
theorem pg_tupK {es : List Expr} {k : Nat} {t : TGs} {n : Nat} (hc : X.calm = true) (hg : PGs X es t) (hn : (assignEach es X.env).length = n := by rfl) (hst : (assignEach es X.env).findIdx? (·.1) = none := by rfl) (h : X.K = K := by rfl) : PG X (.Tuple es k pos) (gTup K n t) := by
  subst h
  exact pg_tup hc hg hn hst
theorem pi_listK {tg l : Expr} {tl : TE} (hl : PE X l tl) (h : X.K = K := by rfl) : L2.PI X tg l (iList K tl) := by subst h; exact pi_list hl
theorem pi_tupK {tg l : Expr} {tl : TE} (hl : PE X l tl) (h : X.K = K := by rfl) : L2.PI X tg l (iTup K tl) := by subst h; exact pi_tup hl
theorem pe_bmK {T : String} {name : Str} {o e : Expr} {es : List Expr} {to : TE} {t : TA} {r : V → List V → Hp → VK → Prop} {p2 p3 : Pos} (u : PE X (.Call (.Attribute o name p2) (e :: es) [] p3) (tBM X.K T r to t)) (h : X.K = K := by rfl) : PE X (.Call (.Attribute o name p2) (e :: es) [] p3) (tBM K T r to t) := by
  subst h
  exact u
end
def topS (i : Nat) : Stmt := PySem.Challenge.pw_latestart_k12_whole_latest_plans_work.main.body.getD i (.Pass ⟨0, 0, 0, 0⟩)
abbrev s_supplied : Stmt := topS 4
abbrev N_supplied : List Str := ["books", "item", "day", "entry"]
theorem sc_supplied : FnScope N_supplied ["books", "item", "day"] (defScope s_supplied) := ⟨rfl, rfl, rfl, by decide +kernel, rfl, by decide +kernel, by decide +kernel⟩
abbrev s_ordered : Stmt := topS 5
abbrev N_ordered : List Str := ["books", "item", "day", "entry"]
theorem sc_ordered : FnScope N_ordered ["books", "item", "day"] (defScope s_ordered) := ⟨rfl, rfl, rfl, by decide +kernel, rfl, by decide +kernel, by decide +kernel⟩
abbrev s_quantity_in : Stmt := topS 7
abbrev N_quantity_in : List Str := ["bill", "parent", "item", "part", "quantity"]
theorem sc_quantity_in : FnScope N_quantity_in ["bill", "parent", "item"] (defScope s_quantity_in) := ⟨rfl, rfl, rfl, by decide +kernel, rfl, by decide +kernel, by decide +kernel⟩
abbrev s_used_by : Stmt := topS 8
abbrev N_used_by : List Str := ["bill", "item", "found", "parent", "quantity"]
theorem sc_used_by : FnScope N_used_by ["bill", "item"] (defScope s_used_by) := ⟨rfl, rfl, rfl, by decide +kernel, rfl, by decide +kernel, by decide +kernel⟩
abbrev s_parents_first : Stmt := topS 9
abbrev N_parents_first : List Str := ["bill", "taken", "item", "pair"]
theorem sc_parents_first : FnScope N_parents_first ["bill"] (defScope s_parents_first) := ⟨rfl, rfl, rfl, by decide +kernel, rfl, by decide +kernel, by decide +kernel⟩
abbrev s_rounded_up : Stmt := topS 11
abbrev N_rounded_up : List Str := ["number", "divisor"]
theorem sc_rounded_up : FnScope N_rounded_up ["number", "divisor"] (defScope s_rounded_up) := ⟨rfl, rfl, rfl, by decide +kernel, rfl, by decide +kernel, by decide +kernel⟩
abbrev s__lots_at : Stmt := topS 12
abbrev N__lots_at : List Str := ["rows", "day", "lots", "at", "number"]
theorem sc__lots_at : FnScope N__lots_at ["rows", "day"] (defScope s__lots_at) := ⟨rfl, rfl, rfl, by decide +kernel, rfl, by decide +kernel, by decide +kernel⟩
abbrev s__days_of : Stmt := topS 13
abbrev N__days_of : List Str := ["bill", "books", "found", "item", "days", "parent", "quantity", "order", "row"]
theorem sc__days_of : FnScope N__days_of ["bill", "books", "found", "item"] (defScope s__days_of) := ⟨rfl, rfl, rfl, by decide +kernel, rfl, by decide +kernel, by decide +kernel⟩
abbrev s__taken : Stmt := topS 14
abbrev N__taken : List Str := ["bill", "books", "found", "item", "day", "total", "parent", "quantity"]
theorem sc__taken : FnScope N__taken ["bill", "books", "found", "item", "day"] (defScope s__taken) := ⟨rfl, rfl, rfl, by decide +kernel, rfl, by decide +kernel, by decide +kernel⟩
abbrev s_rows_of : Stmt := topS 15
abbrev N_rows_of : List Str := ["bill", "books", "found", "item", "rows", "lots", "day", "missing", "more"]
theorem sc_rows_of : FnScope N_rows_of ["bill", "books", "found", "item"] (defScope s_rows_of) := ⟨rfl, rfl, rfl, by decide +kernel, rfl, by decide +kernel, by decide +kernel⟩
abbrev s_needed : Stmt := topS 16
abbrev N_needed : List Str := ["bill", "books", "found", "item"]
theorem sc_needed : FnScope N_needed ["bill", "books"] (defScope s_needed) := ⟨rfl, rfl, rfl, by decide +kernel, rfl, by decide +kernel, by decide +kernel⟩
abbrev s_can_work : Stmt := topS 18
abbrev N_can_work : List Str := ["bill", "books", "rows"]
theorem sc_can_work : FnScope N_can_work ["bill", "books"] (defScope s_can_work) := ⟨rfl, rfl, rfl, by decide +kernel, rfl, by decide +kernel, by decide +kernel⟩
abbrev s_latest_plan : Stmt := topS 19
abbrev N_latest_plan : List Str := ["bill", "books", "plan", "item", "rows", "before", "day", "lots"]
theorem sc_latest_plan : FnScope N_latest_plan ["bill", "books"] (defScope s_latest_plan) := ⟨rfl, rfl, rfl, by decide +kernel, rfl, by decide +kernel, by decide +kernel⟩
abbrev s_starts_today : Stmt := topS 20
abbrev N_starts_today : List Str := ["bill", "books", "item", "day", "lots"]
theorem sc_starts_today : FnScope N_starts_today ["bill", "books"] (defScope s_starts_today) := ⟨rfl, rfl, rfl, by decide +kernel, rfl, by decide +kernel, by decide +kernel⟩
abbrev s__law_cell : Stmt := topS 22
abbrev N__law_cell : List Str := ["_law_script", "_law_k"]
theorem sc__law_cell : FnScope N__law_cell ["_law_script", "_law_k"] (defScope s__law_cell) := ⟨rfl, rfl, rfl, by decide +kernel, rfl, by decide +kernel, by decide +kernel⟩
abbrev s__law_digits : Stmt := topS 23
abbrev N__law_digits : List Str := ["_law_script", "_law_first_here", "_law_last_here", "_law_digits_here", "_law_k", "_law_cell_here", "_law_turn", "_law_seed"]
theorem sc__law_digits : FnScope N__law_digits ["_law_script", "_law_first_here", "_law_last_here"] (defScope s__law_digits) := ⟨rfl, rfl, rfl, by decide +kernel, rfl, by decide +kernel, by decide +kernel⟩
abbrev s__law_draw : Stmt := topS 24
abbrev N__law_draw : List Str := ["_law_box", "_law_many", "_law_at"]
theorem sc__law_draw : FnScope N__law_draw ["_law_box", "_law_many"] (defScope s__law_draw) := ⟨rfl, rfl, rfl, by decide +kernel, rfl, by decide +kernel, by decide +kernel⟩
abbrev s__law_same : Stmt := topS 25
abbrev N__law_same : List Str := ["_law_actual", "_law_due", "_law_k"]
theorem sc__law_same : FnScope N__law_same ["_law_actual", "_law_due"] (defScope s__law_same) := ⟨rfl, rfl, rfl, by decide +kernel, rfl, by decide +kernel, by decide +kernel⟩
abbrev s__law_run : Stmt := topS 26
abbrev N__law_run : List Str := ["_law_box", "_law_many", "_law_chars", "_law_text", "_law_k"]
theorem sc__law_run : FnScope N__law_run ["_law_box", "_law_many", "_law_chars"] (defScope s__law_run) := ⟨rfl, rfl, rfl, by decide +kernel, rfl, by decide +kernel, by decide +kernel⟩
abbrev s__law_name : Stmt := topS 27
abbrev N__law_name : List Str := ["_law_box", "_law_taken", "_law_name_here", "_law_turn"]
theorem sc__law_name : FnScope N__law_name ["_law_box", "_law_taken"] (defScope s__law_name) := ⟨rfl, rfl, rfl, by decide +kernel, rfl, by decide +kernel, by decide +kernel⟩
abbrev s__law_bill : Stmt := topS 28
abbrev N__law_bill : List Str := ["_law_box", "_law_most", "_law_count", "_law_names", "_law_k", "_law_ranks", "_law_at", "_law_items", "_law_below", "_law_parts", "_law_turn", "_law_quantity", "_law_lead", "_law_lot"]
theorem sc__law_bill : FnScope N__law_bill ["_law_box", "_law_most"] (defScope s__law_bill) := ⟨rfl, rfl, rfl, by decide +kernel, rfl, by decide +kernel, by decide +kernel⟩
abbrev s__law_books : Stmt := topS 29
abbrev N__law_books : List Str := ["_law_box", "_law_bill_here", "_law_today_here", "_law_stock", "_law_receipts", "_law_k", "_law_orders", "_law_number", "_law_item"]
theorem sc__law_books : FnScope N__law_books ["_law_box", "_law_bill_here"] (defScope s__law_books) := ⟨rfl, rfl, rfl, by decide +kernel, rfl, by decide +kernel, by decide +kernel⟩
abbrev s__law_users : Stmt := topS 30
abbrev N__law_users : List Str := ["_law_bill_here", "_law_item", "_law_found", "_law_p", "_law_quantity", "_law_part"]
theorem sc__law_users : FnScope N__law_users ["_law_bill_here", "_law_item"] (defScope s__law_users) := ⟨rfl, rfl, rfl, by decide +kernel, rfl, by decide +kernel, by decide +kernel⟩
abbrev s__law_first : Stmt := topS 31
abbrev N__law_first : List Str := ["_law_bill_here", "_law_taken", "_law_turn", "_law_item", "_law_waiting", "_law_pair"]
theorem sc__law_first : FnScope N__law_first ["_law_bill_here"] (defScope s__law_first) := ⟨rfl, rfl, rfl, by decide +kernel, rfl, by decide +kernel, by decide +kernel⟩
abbrev s__law_supplied : Stmt := topS 32
abbrev N__law_supplied : List Str := ["_law_books_here", "_law_item", "_law_day", "_law_total", "_law_row"]
theorem sc__law_supplied : FnScope N__law_supplied ["_law_books_here", "_law_item", "_law_day"] (defScope s__law_supplied) := ⟨rfl, rfl, rfl, by decide +kernel, rfl, by decide +kernel, by decide +kernel⟩
abbrev s__law_ordered : Stmt := topS 33
abbrev N__law_ordered : List Str := ["_law_books_here", "_law_item", "_law_day", "_law_total", "_law_row"]
theorem sc__law_ordered : FnScope N__law_ordered ["_law_books_here", "_law_item", "_law_day"] (defScope s__law_ordered) := ⟨rfl, rfl, rfl, by decide +kernel, rfl, by decide +kernel, by decide +kernel⟩
abbrev s__law_lots : Stmt := topS 34
abbrev N__law_lots : List Str := ["_law_rows", "_law_day", "_law_lots_here", "_law_row"]
theorem sc__law_lots : FnScope N__law_lots ["_law_rows", "_law_day"] (defScope s__law_lots) := ⟨rfl, rfl, rfl, by decide +kernel, rfl, by decide +kernel, by decide +kernel⟩
abbrev s__law_needed : Stmt := topS 35
abbrev N__law_needed : List Str := ["_law_bill_here", "_law_books_here", "_law_found", "_law_item", "_law_lots_here", "_law_day", "_law_missing", "_law_p", "_law_part", "_law_rows"]
theorem sc__law_needed : FnScope N__law_needed ["_law_bill_here", "_law_books_here"] (defScope s__law_needed) := ⟨rfl, rfl, rfl, by decide +kernel, rfl, by decide +kernel, by decide +kernel⟩
abbrev s__law_started : Stmt := topS 36
abbrev N__law_started : List Str := ["_law_plan", "_law_item", "_law_day", "_law_total", "_law_start"]
theorem sc__law_started : FnScope N__law_started ["_law_plan", "_law_item", "_law_day"] (defScope s__law_started) := ⟨rfl, rfl, rfl, by decide +kernel, rfl, by decide +kernel, by decide +kernel⟩
abbrev s__law_balance : Stmt := topS 37
abbrev N__law_balance : List Str := ["_law_bill_here", "_law_books_here", "_law_plan", "_law_item", "_law_day", "_law_total", "_law_p", "_law_part"]
theorem sc__law_balance : FnScope N__law_balance ["_law_bill_here", "_law_books_here", "_law_plan", "_law_item", "_law_day"] (defScope s__law_balance) := ⟨rfl, rfl, rfl, by decide +kernel, rfl, by decide +kernel, by decide +kernel⟩
abbrev s__law_last : Stmt := topS 38
abbrev N__law_last : List Str := ["_law_bill_here", "_law_books_here", "_law_plan", "_law_last_here", "_law_row", "_law_start"]
theorem sc__law_last : FnScope N__law_last ["_law_bill_here", "_law_books_here", "_law_plan"] (defScope s__law_last) := ⟨rfl, rfl, rfl, by decide +kernel, rfl, by decide +kernel, by decide +kernel⟩
abbrev s__law_shortages : Stmt := topS 39
abbrev N__law_shortages : List Str := ["_law_bill_here", "_law_books_here", "_law_plan", "_law_found", "_law_day", "_law_item", "_law_now"]
theorem sc__law_shortages : FnScope N__law_shortages ["_law_bill_here", "_law_books_here", "_law_plan"] (defScope s__law_shortages) := ⟨rfl, rfl, rfl, by decide +kernel, rfl, by decide +kernel, by decide +kernel⟩
abbrev s__law_told : Stmt := topS 40
abbrev N__law_told : List Str := ["_law_bill_here", "_law_books_here", "wrong"]
theorem sc__law_told : FnScope N__law_told ["_law_bill_here", "_law_books_here"] (defScope s__law_told) := ⟨rfl, rfl, rfl, by decide +kernel, rfl, by decide +kernel, by decide +kernel⟩
abbrev s__law_today : Stmt := topS 41
abbrev N__law_today : List Str := ["_law_bill_here", "_law_books_here", "wrong"]
theorem sc__law_today : FnScope N__law_today ["_law_bill_here", "_law_books_here"] (defScope s__law_today) := ⟨rfl, rfl, rfl, by decide +kernel, rfl, by decide +kernel, by decide +kernel⟩
abbrev s_law : Stmt := topS 42
abbrev N_law : List Str := ["_law_script", "_law_box", "_law_bill_here", "_law_books_here", "_law_needs", "_law_late", "_law_plan", "_law_item", "_law_before", "_law_day", "_law_lots_here", "_law_due", "_law_rows", "_law_start"]
theorem sc_law : FnScope N_law ["_law_script"] (defScope s_law) := ⟨rfl, rfl, rfl, by decide +kernel, rfl, by decide +kernel, by decide +kernel⟩
structure Txt (K : PySem.W.Frag) (mg : Str → Option Value) where
  supplied : Fn K mg "supplied" s_supplied ["books", "item", "day"]
  ordered : Fn K mg "ordered" s_ordered ["books", "item", "day"]
  quantity_in : Fn K mg "quantity_in" s_quantity_in ["bill", "parent", "item"]
  used_by : Fn K mg "used_by" s_used_by ["bill", "item"]
  parents_first : Fn K mg "parents_first" s_parents_first ["bill"]
  rounded_up : Fn K mg "rounded_up" s_rounded_up ["number", "divisor"]
  _lots_at : Fn K mg "_lots_at" s__lots_at ["rows", "day"]
  _days_of : Fn K mg "_days_of" s__days_of ["bill", "books", "found", "item"]
  _taken : Fn K mg "_taken" s__taken ["bill", "books", "found", "item", "day"]
  rows_of : Fn K mg "rows_of" s_rows_of ["bill", "books", "found", "item"]
  needed : Fn K mg "needed" s_needed ["bill", "books"]
  can_work : Fn K mg "can_work" s_can_work ["bill", "books"]
  latest_plan : Fn K mg "latest_plan" s_latest_plan ["bill", "books"]
  starts_today : Fn K mg "starts_today" s_starts_today ["bill", "books"]
  _law_cell : Fn K mg "_law_cell" s__law_cell ["_law_script", "_law_k"]
  _law_digits : Fn K mg "_law_digits" s__law_digits ["_law_script", "_law_first_here", "_law_last_here"]
  _law_draw : Fn K mg "_law_draw" s__law_draw ["_law_box", "_law_many"]
  _law_same : Fn K mg "_law_same" s__law_same ["_law_actual", "_law_due"]
  _law_run : Fn K mg "_law_run" s__law_run ["_law_box", "_law_many", "_law_chars"]
  _law_name : Fn K mg "_law_name" s__law_name ["_law_box", "_law_taken"]
  _law_bill : Fn K mg "_law_bill" s__law_bill ["_law_box", "_law_most"]
  _law_books : Fn K mg "_law_books" s__law_books ["_law_box", "_law_bill_here"]
  _law_users : Fn K mg "_law_users" s__law_users ["_law_bill_here", "_law_item"]
  _law_first : Fn K mg "_law_first" s__law_first ["_law_bill_here"]
  _law_supplied : Fn K mg "_law_supplied" s__law_supplied ["_law_books_here", "_law_item", "_law_day"]
  _law_ordered : Fn K mg "_law_ordered" s__law_ordered ["_law_books_here", "_law_item", "_law_day"]
  _law_lots : Fn K mg "_law_lots" s__law_lots ["_law_rows", "_law_day"]
  _law_needed : Fn K mg "_law_needed" s__law_needed ["_law_bill_here", "_law_books_here"]
  _law_started : Fn K mg "_law_started" s__law_started ["_law_plan", "_law_item", "_law_day"]
  _law_balance : Fn K mg "_law_balance" s__law_balance ["_law_bill_here", "_law_books_here", "_law_plan", "_law_item", "_law_day"]
  _law_last : Fn K mg "_law_last" s__law_last ["_law_bill_here", "_law_books_here", "_law_plan"]
  _law_shortages : Fn K mg "_law_shortages" s__law_shortages ["_law_bill_here", "_law_books_here", "_law_plan"]
  _law_told : Fn K mg "_law_told" s__law_told ["_law_bill_here", "_law_books_here"]
  _law_today : Fn K mg "_law_today" s__law_today ["_law_bill_here", "_law_books_here"]
  law : Fn K mg "law" s_law ["_law_script"]
  z_len : mg "len" = none
  z_range : mg "range" = none
  z_sum : mg "sum" = none
  z_sorted : mg "sorted" = none
  z_tuple : mg "tuple" = none
  z_enumerate : mg "enumerate" = none
  z_all : mg "all" = none
  z_max : mg "max" = none
  z_int : mg "int" = none
  z_isinstance : mg "isinstance" = none
  z_list : mg "list" = none
  z_bool : mg "bool" = none
  z_str : mg "str" = none
  np : NoP K mg
end K12
/-! The mirror: what each def reckons, in plain Lean. -/
namespace K12
open PySem L2

structure Item where
  name : Str
  parts : List (Nat × Int)
  lead : Int
  lot : Int
  good : Int
structure Books where
  today : Int
  stock : List Int
  recs : List (Nat × Int × Int)
  ords : List (Int × Nat × Int × Int)
abbrev Bill := List Item
abbrev Rows := List (Int × Int)
abbrev Start := Nat × Int × Int

def ePart (p : Nat × Int) : T := .tup [.int (p.1 : Int), .int p.2]
def eItem (it : Item) : T := .tup [.str it.name, .tup (it.parts.map ePart), .int it.lead, .int it.lot, .int it.good]
def eBill (b : Bill) : T := .tup (b.map eItem)
def eRec (r : Nat × Int × Int) : T := .tup [.int (r.1 : Int), .int r.2.1, .int r.2.2]
def eOrd (o : Int × Nat × Int × Int) : T := .tup [.int o.1, .int (o.2.1 : Int), .int o.2.2.1, .int o.2.2.2]
def eBooks (k : Books) : T := .tup [.int k.today, .tup (k.stock.map .int), .tup (k.recs.map eRec), .tup (k.ords.map eOrd)]
def eRow (r : Int × Int) : T := .tup [.int r.1, .int r.2]
def eRows (r : Rows) : T := .tup (r.map eRow)
def eNeeds (n : List Rows) : T := .tup (n.map eRows)
def eStart (s : Start) : T := .tup [.int (s.1 : Int), .int s.2.1, .int s.2.2]
def ePlan (p : List Start) : T := .tup (p.map eStart)
/-- an item and lots, an item and a quantity -/
abbrev ePair := ePart

structure ItemOk (n : Nat) (it : Item) : Prop where
  parts : ∀ p ∈ it.parts, p.1 < n ∧ 1 ≤ p.2 ∧ p.2 ≤ 20
  few : it.parts.length ≤ 4
  lead : 0 ≤ it.lead ∧ it.lead ≤ 10
  lot : 1 ≤ it.lot ∧ it.lot ≤ 50
  good : 1 ≤ it.good ∧ it.good ≤ 50
structure BillOk (b : Bill) : Prop where
  n1 : 0 < b.length
  n6 : b.length ≤ 6
  item : ∀ it ∈ b, ItemOk b.length it
  acyc : ∃ rk : Nat → Nat, (∀ (p : Nat) (it : Item), b[p]? = some it → ∀ q ∈ it.parts, rk q.1 < rk p) ∧ ∀ p, p < b.length → rk p < 6
structure BooksOk (n : Nat) (k : Books) : Prop where
  stock : k.stock.length = n
  st0 : ∀ z ∈ k.stock, 0 ≤ z
  today : 0 ≤ k.today ∧ k.today ≤ 150
  recs : ∀ r ∈ k.recs, r.1 < n ∧ k.today ≤ r.2.1 ∧ r.2.1 ≤ k.today + 24 ∧ 0 ≤ r.2.2
  nrec : k.recs.length ≤ 4
  ords : ∀ o ∈ k.ords, o.2.1 < n ∧ k.today ≤ o.2.2.2 ∧ o.2.2.2 ≤ k.today + 29 ∧ 0 ≤ o.2.2.1
  nord : k.ords.length ≤ 4

instance : Inhabited Item := ⟨⟨⟨#[]⟩, [], 0, 1, 1⟩⟩
def itemAt (b : Bill) (i : Nat) : Item := b.getD i default

/-! the program -/
def supplied (k : Books) (i : Nat) (d : Int) : Int := k.stock.getD i 0 + ((k.recs.filter fun r => decide ((r.1 : Int) = i) && decide (r.2.1 ≤ d)).map fun r => r.2.2).sum
def ordered (k : Books) (i : Nat) (d : Int) : Int := ((k.ords.filter fun o => decide ((o.2.1 : Int) = i) && decide (o.2.2.2 ≤ d)).map fun o => o.2.2.1).sum
def qty (b : Bill) (p i : Nat) : Int := (((itemAt b p).parts.filter fun q => decide ((q.1 : Int) = i)).map fun q => q.2).sum
def users (b : Bill) (i : Nat) : List (Nat × Int) := ((List.range b.length).filter fun p => decide (0 < qty b p i)).map fun p => (p, qty b p i)
def nextOk (b : Bill) (taken : List Nat) (i : Nat) : Bool := !(taken.contains i) && (users b i).all fun u => taken.contains u.1
def nextItem (b : Bill) (taken : List Nat) : Option Nat := (List.range b.length).find? (nextOk b taken)
def orderN (b : Bill) : Nat → List Nat
  | 0 => []
  | k + 1 => match nextItem b (orderN b k) with
    | some i => orderN b k ++ [i]
    | none => orderN b k
def order (b : Bill) : List Nat := orderN b b.length
def ceilDiv (m g : Int) : Int := -((-m) / g)
def lotsAt (rows : Rows) (d : Int) : Int := rows.foldl (fun l r => if r.1 ≤ d then r.2 else l) 0
def daysRaw (b : Bill) (k : Books) (f : List Rows) (i : Nat) : List Int :=
  ((k.ords.filter fun o => decide ((o.2.1 : Int) = i)).map fun o => o.2.2.2) ++ (users b i).flatMap fun u => (f.getD u.1 []).map fun r => r.1
def putI (x : Int) : List Int → List Int
  | [] => [x]
  | y :: r => if x ≤ y then x :: y :: r else y :: putI x r
def riseI : List Int → List Int
  | [] => []
  | x :: r => putI x (riseI r)
def daysOf (b : Bill) (k : Books) (f : List Rows) (i : Nat) : List Int := riseI (daysRaw b k f i)
def taken (b : Bill) (k : Books) (f : List Rows) (i : Nat) (d : Int) : Int :=
  (users b i).foldl (fun t u => t + u.2 * (itemAt b u.1).lot * lotsAt (f.getD u.1 []) d) (ordered k i d)
def rowsStep (b : Bill) (k : Books) (f : List Rows) (i : Nat) (s : Int × Rows) (d : Int) : Int × Rows :=
  let more := ceilDiv (taken b k f i d - supplied k i d) (itemAt b i).good
  if s.1 < more then (more, s.2 ++ [(d - (itemAt b i).lead, more)]) else s
def rowsOf (b : Bill) (k : Books) (f : List Rows) (i : Nat) : Rows := ((daysOf b k f i).foldl (rowsStep b k f i) (0, [])).2
def needed (b : Bill) (k : Books) : List Rows := (order b).foldl (fun f i => f.set i (rowsOf b k f i)) (List.replicate b.length [])
def lateRows (k : Books) (r : Rows) : Bool := match r with
  | [] => false
  | x :: _ => decide (x.1 < k.today)
def late (k : Books) (needs : List Rows) : Bool := needs.any (lateRows k)
/-- the starts of an item: the lots so far, the plan -/
def planStep (i : Nat) (s : Int × List Start) (r : Int × Int) : Int × List Start := (r.2, s.2 ++ [(i, r.1, r.2 - s.1)])
def planItem (plan : List Start) (i : Nat) (r : Rows) : List Start := (r.foldl (planStep i) (0, plan)).2
def planTo (needs : List Rows) : Nat → List Start
  | 0 => []
  | i + 1 => planItem (planTo needs i) i (needs.getD i [])
def planOf (needs : List Rows) : List Start := planTo needs needs.length
def todayOf (k : Books) (plan : List Start) : List (Nat × Int) := (plan.filter fun s => decide (s.2.1 = k.today)).map fun s => (s.1, s.2.2)

/-! the law -/
def lawPart (b : Bill) (f : List Rows) (i : Nat) (d : Int) (p : Nat) (m : Int) (q : Nat × Int) : Int := if (q.1 : Int) = i then m + q.2 * (itemAt b p).lot * lotsAt (f.getD p []) d else m
def lawMiss (b : Bill) (k : Books) (f : List Rows) (i : Nat) (d : Int) : Int :=
  (List.range b.length).foldl (fun m p => (itemAt b p).parts.foldl (lawPart b f i d p) m) (ordered k i d - supplied k i d)
def lawStep (b : Bill) (k : Books) (i : Nat) (s : Int × List Rows) (d : Int) : Int × List Rows :=
  let m := lawMiss b k s.2 i d
  if s.1 * (itemAt b i).good < m then
    let l := (m + (itemAt b i).good - 1) / (itemAt b i).good
    (l, s.2.set i (s.2.getD i [] ++ [(d - (itemAt b i).lead, l)]))
  else s
def dayAt (k : Books) (j : Nat) : Int := k.today - 90 + (j : Int)
def lawRows (b : Bill) (k : Books) (i : Nat) (f : List Rows) : List Rows := ((List.range 130).foldl (fun s j => lawStep b k i s (dayAt k j)) (0, f)).2
def lawNeeded (b : Bill) (k : Books) : List Rows := (order b).foldl (fun f i => lawRows b k i f) (List.replicate b.length [])
def started (plan : List Start) (i : Nat) (d : Int) : Int := plan.foldl (fun t s => if (s.1 : Int) = i ∧ s.2.1 ≤ d then t + s.2.2 else t) 0
def balPart (b : Bill) (plan : List Start) (i : Nat) (d : Int) (p : Nat) (m : Int) (q : Nat × Int) : Int := if (q.1 : Int) = i then m - q.2 * (itemAt b p).lot * started plan p d else m
def balance (b : Bill) (k : Books) (plan : List Start) (i : Nat) (d : Int) : Int :=
  (List.range b.length).foldl (fun m p => (itemAt b p).parts.foldl (balPart b plan i d p) m)
    (supplied k i d - ordered k i d + (itemAt b i).good * started plan i (d - (itemAt b i).lead))
theorem lotsAt_app (r : Rows) (x : Int × Int) (d : Int) : lotsAt (r ++ [x]) d = if x.1 ≤ d then x.2 else lotsAt r d := by
  unfold lotsAt
  rw [List.foldl_append] <;> rfl
end K12
/-! The plain law, part 1: who uses whom, the order of the items. -/
namespace K12
open PySem L2

/-! lists -/
theorem sum_nonneg : ∀ {l : List Int}, (∀ z ∈ l, 0 ≤ z) → 0 ≤ l.sum
  | [], _ => by simp
  | x :: r, h => by
    rw [List.sum_cons]
    have h1 := h x (by simp)
    have h2 := sum_nonneg (l := r) fun z hz => h z (by simp [hz])
    omega
theorem sum_le : ∀ {l : List Int} {c : Int}, (∀ z ∈ l, z ≤ c) → l.sum ≤ c * (l.length : Int)
  | [], c, _ => by simp
  | x :: r, c, h => by
    rw [List.sum_cons]
    have h1 := h x (by simp)
    have h2 := sum_le (l := r) (c := c) fun z hz => h z (by simp [hz])
    rw [List.length_cons, Int.natCast_add, Int.mul_add]
    omega
theorem len_of_sub {α : Type} [DecidableEq α] : ∀ {l1 l2 : List α}, l1.Nodup → (∀ x ∈ l1, x ∈ l2) → l1.length ≤ l2.length
  | [], l2, _, _ => Nat.zero_le _
  | x :: r, l2, nd, h => by
    obtain ⟨h1, h2⟩ := List.nodup_cons.mp nd
    have hx : x ∈ l2 := h x (by simp)
    have ih := len_of_sub (l1 := r) (l2 := l2.erase x) h2 fun y hy => (List.mem_erase_of_ne (show y ≠ x from fun e => h1 (by rw [← e]; exact hy))).mpr (h y (by simp [hy]))
    rw [List.length_erase_of_mem hx] at ih
    have : 0 < l2.length := List.length_pos_of_mem hx
    rw [List.length_cons]
    omega

/-! quantities, users -/
theorem qty_nonneg {b : Bill} (hb : BillOk b) {p i : Nat} (hp : p < b.length) : 0 ≤ qty b p i := by
  unfold qty
  refine sum_nonneg fun z hz => ?_
  obtain ⟨q, hq, rfl⟩ := List.mem_map.mp hz
  have := ((hb.item _ (show itemAt b p ∈ b by
    unfold itemAt
    rw [List.getD_eq_getElem?_getD, List.getElem?_eq_getElem hp]
    exact List.getElem_mem hp)).parts q (List.mem_filter.mp hq).1).2.1
  omega
theorem qty_le {b : Bill} (hb : BillOk b) {p i : Nat} (hp : p < b.length) : qty b p i ≤ 80 := by
  have hi : ItemOk b.length (itemAt b p) := hb.item _ (by
    unfold itemAt
    rw [List.getD_eq_getElem?_getD, List.getElem?_eq_getElem hp]
    exact List.getElem_mem hp)
  unfold qty
  have h1 : ((((itemAt b p).parts.filter fun q => decide ((q.1 : Int) = i)).map fun q => q.2)).sum ≤ 20 * ((((itemAt b p).parts.filter fun q => decide ((q.1 : Int) = i)).map fun q => q.2).length : Int) := sum_le fun z hz => by
    obtain ⟨q, hq, rfl⟩ := List.mem_map.mp hz
    exact (hi.parts q (List.mem_filter.mp hq).1).2.2
  have h2 : (((itemAt b p).parts.filter fun q => decide ((q.1 : Int) = i)).map fun q => q.2).length ≤ 4 := by
    rw [List.length_map]
    exact Nat.le_trans (List.length_filter_le _ _) hi.few
  omega
theorem qty_uses {b : Bill} {p i : Nat} (h : 0 < qty b p i) : ∃ q ∈ (itemAt b p).parts, q.1 = i := by
  unfold qty at h
  cases e : (itemAt b p).parts.filter fun q => decide ((q.1 : Int) = i) with
  | nil => rw [e] at h; simp at h
  | cons q r =>
    have hq : q ∈ (itemAt b p).parts.filter fun q => decide ((q.1 : Int) = i) := by rw [e]; simp
    obtain ⟨h1, h2⟩ := List.mem_filter.mp hq
    have := of_decide_eq_true h2
    exact ⟨q, h1, by omega⟩
theorem users_mem {b : Bill} {i : Nat} {u : Nat × Int} (h : u ∈ users b i) : u.1 < b.length ∧ 0 < qty b u.1 i ∧ u.2 = qty b u.1 i := by
  unfold users at h
  obtain ⟨p, hp, rfl⟩ := List.mem_map.mp h
  obtain ⟨h1, h2⟩ := List.mem_filter.mp hp
  exact ⟨List.mem_range.mp h1, of_decide_eq_true h2, rfl⟩
theorem mem_users {b : Bill} {i p : Nat} (hp : p < b.length) (h : 0 < qty b p i) : (p, qty b p i) ∈ users b i := by
  unfold users
  exact List.mem_map.mpr ⟨p, List.mem_filter.mpr ⟨List.mem_range.mpr hp, decide_eq_true h⟩, rfl⟩
theorem users_len (b : Bill) (i : Nat) : (users b i).length ≤ b.length := by
  unfold users
  rw [List.length_map]
  have h := List.length_filter_le (fun p => decide (0 < qty b p i)) (List.range b.length)
  rwa [List.length_range] at h
/-- a rank that rises from the parts to what they are of -/
structure Rank (b : Bill) (rk : Nat → Nat) : Prop where
  up : ∀ p i, p < b.length → 0 < qty b p i → rk i < rk p
  lt : ∀ p, p < b.length → rk p < 6
theorem BillOk.rank {b : Bill} (h : BillOk b) : ∃ rk, Rank b rk := by
  obtain ⟨rk, h1, h2⟩ := h.acyc
  refine ⟨rk, ⟨fun p i hp hq => ?_, h2⟩⟩
  obtain ⟨q, hq1, rfl⟩ := qty_uses hq
  refine h1 p (itemAt b p) ?_ q hq1
  unfold itemAt
  rw [List.getD_eq_getElem?_getD, List.getElem?_eq_getElem hp]
  rfl
theorem qty_self {b : Bill} (hb : BillOk b) {i : Nat} (hi : i < b.length) : qty b i i = 0 := by
  obtain ⟨rk, hr⟩ := hb.rank
  have h1 := qty_nonneg hb (p := i) (i := i) hi
  by_cases h : 0 < qty b i i
  · exact absurd (hr.up i i hi h) (Nat.lt_irrefl _)
  · omega

/-! the order -/
theorem nextOk_iff {b : Bill} {taken : List Nat} {i : Nat} : nextOk b taken i = true ↔ i ∉ taken ∧ ∀ u ∈ users b i, u.1 ∈ taken := by
  unfold nextOk
  rw [Bool.and_eq_true, Bool.not_eq_true', List.all_eq_true]
  simp only [List.contains_iff_mem, ← Bool.not_eq_true]
theorem next_some {b : Bill} (hb : BillOk b) {taken : List Nat} (hl : taken.length < b.length) : ∃ i, nextItem b taken = some i := by
  obtain ⟨rk, hr⟩ := hb.rank
  have free : ∃ i, i < b.length ∧ i ∉ taken := by
    refine Classical.byContradiction fun h => ?_
    have := len_of_sub (l1 := List.range b.length) (l2 := taken) List.nodup_range fun x hx => Classical.byContradiction fun hn => h ⟨x, List.mem_range.mp hx, hn⟩
    rw [List.length_range] at this
    omega
  have climb : ∀ m i, i < b.length → i ∉ taken → 6 ≤ rk i + m → ∃ j, j < b.length ∧ nextOk b taken j = true := by
    intro m
    induction m with
    | zero => intro i hi _ h; have := hr.lt i hi; omega
    | succ m ih =>
      intro i hi hn h
      by_cases hu : ∀ u ∈ users b i, u.1 ∈ taken
      · exact ⟨i, hi, nextOk_iff.mpr ⟨hn, hu⟩⟩
      · obtain ⟨u, hu⟩ := Classical.not_forall.mp hu
        obtain ⟨h1, h2⟩ := Classical.not_imp.mp hu
        obtain ⟨h3, h4, _⟩ := users_mem h1
        have := hr.up u.1 i h3 h4
        exact ih u.1 h3 h2 (by omega)
  obtain ⟨i, hi, hn⟩ := free
  obtain ⟨j, hj, ok⟩ := climb 6 i hi hn (by omega)
  cases e : nextItem b taken with
  | some i => exact ⟨i, rfl⟩
  | none =>
    unfold nextItem at e
    have := List.find?_eq_none.mp e j (List.mem_range.mpr hj)
    exact absurd ok this
theorem next_ok {b : Bill} {taken : List Nat} {i : Nat} (h : nextItem b taken = some i) : i < b.length ∧ i ∉ taken ∧ ∀ u ∈ users b i, u.1 ∈ taken := by
  unfold nextItem at h
  exact ⟨List.mem_range.mp (List.mem_of_find?_eq_some h), nextOk_iff.mp (List.find?_some h)⟩
theorem orderN_len {b : Bill} (hb : BillOk b) : ∀ j, j ≤ b.length → (orderN b j).length = j
  | 0, _ => rfl
  | j + 1, h => by
    have ih := orderN_len hb j (by omega)
    obtain ⟨i, e⟩ := next_some hb (taken := orderN b j) (by omega)
    show (match nextItem b (orderN b j) with | some i => orderN b j ++ [i] | none => orderN b j).length = j + 1
    rw [e]
    show (orderN b j ++ [i]).length = j + 1
    rw [List.length_append, ih]
    rfl
theorem orderN_succ {b : Bill} {j i : Nat} (e : nextItem b (orderN b j) = some i) : orderN b (j + 1) = orderN b j ++ [i] := by
  show (match nextItem b (orderN b j) with | some i => orderN b j ++ [i] | none => orderN b j) = _
  rw [e]
theorem orderN_take {b : Bill} (hb : BillOk b) {j : Nat} : ∀ m, j + m ≤ b.length → (orderN b (j + m)).take j = orderN b j
  | 0, h => by
    have := orderN_len hb j (by omega)
    rw [Nat.add_zero, List.take_of_length_le (by omega)]
  | m + 1, h => by
    obtain ⟨i, e⟩ := next_some hb (taken := orderN b (j + m)) (by rw [orderN_len hb _ (by omega)]; omega)
    rw [show j + (m + 1) = (j + m) + 1 by omega, orderN_succ e, List.take_append_of_le_length (by rw [orderN_len hb _ (by omega)]; omega), orderN_take hb m (by omega)]
theorem order_split {b : Bill} (hb : BillOk b) {done rest : List Nat} {i : Nat} (h : order b = done ++ i :: rest) : done = orderN b done.length ∧ nextItem b done = some i := by
  have hl : (order b).length = b.length := orderN_len hb _ (Nat.le_refl _)
  have hd : done.length < b.length := by rw [← hl, h, List.length_append, List.length_cons]; omega
  have e1 : (order b).take done.length = orderN b done.length := by
    have := orderN_take hb (j := done.length) (b.length - done.length) (by omega)
    rw [show done.length + (b.length - done.length) = b.length by omega] at this
    exact this
  have e2 : (order b).take (done.length + 1) = orderN b (done.length + 1) := by
    have := orderN_take hb (j := done.length + 1) (b.length - (done.length + 1)) (by omega)
    rw [show done.length + 1 + (b.length - (done.length + 1)) = b.length by omega] at this
    exact this
  have d1 : done = orderN b done.length := by
    rw [← e1, h, List.take_left]
  refine ⟨d1, ?_⟩
  obtain ⟨k, e⟩ := next_some hb (taken := orderN b done.length) (by rw [← d1]; exact hd)
  have e3 : (order b).take (done.length + 1) = done ++ [i] := by
    rw [h, List.take_length_add_append]
    rfl
  rw [e3, orderN_succ e, ← d1] at e2
  have : i = k := by simpa using e2
  rw [← this, ← d1] at e
  exact e
theorem order_mem {b : Bill} (hb : BillOk b) {done rest : List Nat} {i : Nat} (h : order b = done ++ i :: rest) : i < b.length ∧ i ∉ done ∧ ∀ u ∈ users b i, u.1 ∈ done := next_ok (order_split hb h).2
theorem order_lt {b : Bill} (hb : BillOk b) {i : Nat} (h : i ∈ order b) : i < b.length := by
  obtain ⟨done, rest, e⟩ := List.append_of_mem h
  exact (order_mem hb e).1
theorem orderN_nodup {b : Bill} (hb : BillOk b) : ∀ j, j ≤ b.length → (orderN b j).Nodup
  | 0, _ => List.nodup_nil
  | j + 1, h => by
    have ih := orderN_nodup hb j (by omega)
    obtain ⟨i, e⟩ := next_some hb (taken := orderN b j) (by rw [orderN_len hb _ (by omega)]; omega)
    rw [orderN_succ e]
    refine List.nodup_append.mpr ⟨ih, by simp, fun x hx y hy => ?_⟩
    have : y = i := by simpa using hy
    subst this
    exact fun q => (next_ok e).2.1 (q ▸ hx)
theorem order_all {b : Bill} (hb : BillOk b) {i : Nat} (hi : i < b.length) : i ∈ order b := by
  refine Classical.byContradiction fun h => ?_
  have h1 : (i :: order b).Nodup := List.nodup_cons.mpr ⟨h, orderN_nodup hb _ (Nat.le_refl _)⟩
  have := len_of_sub (l2 := List.range b.length) h1 fun x hx => by
    rcases List.mem_cons.mp hx with e | e
    · rw [e]; exact List.mem_range.mpr hi
    · exact List.mem_range.mpr (order_lt hb e)
  rw [List.length_cons, List.length_range, show (order b).length = b.length from orderN_len hb _ (Nat.le_refl _)] at this
  omega
end K12
/-! The plain law, part 2: the needed lots of one item. -/
namespace K12
open PySem L2

/-! rounding up -/
theorem up_law {m g : Int} (hg : 0 < g) : ((m + g - 1) / g - 1) * g < m ∧ m ≤ (m + g - 1) / g * g := by
  have h1 := Int.ediv_mul_le (m + g - 1) (b := g) (by omega)
  have h2 := Int.lt_ediv_add_one_mul_self (m + g - 1) hg
  rw [Int.add_mul, Int.one_mul] at h2
  rw [Int.sub_mul, Int.one_mul]
  omega
theorem up_ceil {m g : Int} (hg : 0 < g) : (ceilDiv m g - 1) * g < m ∧ m ≤ ceilDiv m g * g := by
  unfold ceilDiv
  have h1 := Int.ediv_mul_le (-m) (b := g) (by omega)
  have h2 := Int.lt_ediv_add_one_mul_self (-m) hg
  rw [Int.add_mul, Int.one_mul] at h2
  rw [Int.sub_mul, Int.one_mul, Int.neg_mul]
  omega
theorem ceil_eq {m g : Int} (hg : 0 < g) : ceilDiv m g = (m + g - 1) / g := by
  obtain ⟨a1, a2⟩ := up_law (m := m) hg
  obtain ⟨b1, b2⟩ := up_ceil (m := m) hg
  have h1 := Int.lt_of_mul_lt_mul_right (Int.lt_of_lt_of_le a1 b2) (Int.le_of_lt hg)
  have h2 := Int.lt_of_mul_lt_mul_right (Int.lt_of_lt_of_le b1 a2) (Int.le_of_lt hg)
  omega
theorem lt_ceil {m g l : Int} (hg : 0 < g) : l < ceilDiv m g ↔ l * g < m := by
  obtain ⟨b1, b2⟩ := up_ceil (m := m) hg
  constructor
  · intro h
    have : l * g ≤ (ceilDiv m g - 1) * g := Int.mul_le_mul_of_nonneg_right (by omega) (Int.le_of_lt hg)
    omega
  · intro h
    exact Int.lt_of_mul_lt_mul_right (Int.lt_of_lt_of_le h b2) (Int.le_of_lt hg)

/-! one turn -/
def stepL (m : Int → Int) (g L : Int) (s : Int × Rows) (d : Int) : Int × Rows := if s.1 * g < m d then ((m d + g - 1) / g, s.2 ++ [(d - L, (m d + g - 1) / g)]) else s
def stepP (m : Int → Int) (g L : Int) (s : Int × Rows) (d : Int) : Int × Rows := if s.1 < ceilDiv (m d) g then (ceilDiv (m d) g, s.2 ++ [(d - L, ceilDiv (m d) g)]) else s
theorem step_eq {m : Int → Int} {g L : Int} (hg : 0 < g) : stepP m g L = stepL m g L := by
  funext s d
  unfold stepP stepL
  rw [ceil_eq hg]
  by_cases h : s.1 * g < m d
  · rw [if_pos h, if_pos (by rw [← ceil_eq hg]; exact (lt_ceil hg).mpr h)]
  · rw [if_neg h, if_neg (by rw [← ceil_eq hg]; exact fun q => h ((lt_ceil hg).mp q))]
structure RowInv (m : Int → Int) (g L a : Int) (s : Int × Rows) (d : Int) : Prop where
  top : m (d - 1) ≤ s.1 * g
  nn : 0 ≤ s.1
  days : ∀ r ∈ s.2, a - L ≤ r.1 ∧ r.1 < d - L
  last : ∀ e, d - 1 - L ≤ e → lotsAt s.2 e = s.1
  cov : ∀ e, a ≤ e → e < d → m e ≤ lotsAt s.2 (e - L) * g
  sorted : s.2.Pairwise fun x y => x.1 < y.1
  len : (s.2.length : Int) ≤ d - a
theorem RowInv.zero {m : Int → Int} {g L a : Int} (h : m (a - 1) ≤ 0) : RowInv m g L a (0, []) a :=
  ⟨by rw [Int.zero_mul]; exact h, Int.le_refl 0, fun _ h => (nomatch h), fun _ _ => rfl, fun e h1 h2 => by omega, List.Pairwise.nil, by simp⟩
theorem RowInv.step {m : Int → Int} {g L a d : Int} {s : Int × Rows} (hg : 0 < g) (ha : a ≤ d) (I : RowInv m g L a s d) : RowInv m g L a (stepL m g L s d) (d + 1) := by
  unfold stepL
  by_cases h : s.1 * g < m d
  · rw [if_pos h]
    obtain ⟨u1, u2⟩ := up_law (m := m d) hg
    have hpos : 0 < m d := Int.lt_of_le_of_lt (Int.mul_nonneg I.nn (Int.le_of_lt hg)) h
    have hnn : 0 ≤ (m d + g - 1) / g := Int.ediv_nonneg (by omega) (by omega)
    refine ⟨by rw [show d + 1 - 1 = d by omega]; exact u2, hnn, fun r hr => ?_, fun e he => ?_, fun e h1 h2 => ?_, ?_, ?_⟩
    · rcases List.mem_append.mp hr with q | q
      · have := I.days r q; omega
      · have e : r = (d - L, (m d + g - 1) / g) := by simpa using q
        rw [e]
        exact ⟨show a - L ≤ d - L by omega, show d - L < d + 1 - L by omega⟩
    · show lotsAt (s.2 ++ [(d - L, (m d + g - 1) / g)]) e = _
      rw [lotsAt_app, if_pos (show d - L ≤ e by omega)]
    · show m e ≤ lotsAt (s.2 ++ [(d - L, (m d + g - 1) / g)]) (e - L) * g
      rw [lotsAt_app]
      by_cases q : e = d
      · subst q
        rw [if_pos (show e - L ≤ e - L by omega)]
        exact u2
      · rw [if_neg (show ¬ d - L ≤ e - L by omega)]
        exact I.cov e h1 (by omega)
    · refine List.pairwise_append.mpr ⟨I.sorted, by simp, fun x hx y hy => ?_⟩
      have e : y = (d - L, (m d + g - 1) / g) := by simpa using hy
      rw [e]
      exact (I.days x hx).2
    · rw [List.length_append, List.length_singleton]
      have := I.len
      omega
  · rw [if_neg h]
    refine ⟨by rw [show d + 1 - 1 = d by omega]; omega, I.nn, fun r hr => ?_, fun e he => I.last e (by omega), fun e h1 h2 => ?_, I.sorted, ?_⟩
    · have := I.days r hr; omega
    · by_cases q : e = d
      · subst q
        rw [I.last (e - L) (by omega)]
        omega
      · exact I.cov e h1 (by omega)
    · have := I.len; omega
/-- the law's days -/
def daysTo (a : Int) (n : Nat) : List Int := (List.range n).map fun j : Nat => a + (j : Int)
theorem daysTo_succ (a : Int) (n : Nat) : daysTo a (n + 1) = daysTo a n ++ [a + (n : Int)] := by
  unfold daysTo
  rw [List.range_succ, List.map_append]
  rfl
theorem rowInv_days {m : Int → Int} {g L a : Int} (hg : 0 < g) (h0 : m (a - 1) ≤ 0) : ∀ n : Nat, RowInv m g L a ((daysTo a n).foldl (stepL m g L) (0, [])) (a + (n : Int))
  | 0 => by
    have h : daysTo a 0 = [] := rfl
    rw [h, show a + ((0 : Nat) : Int) = a by omega]
    exact RowInv.zero h0
  | n + 1 => by
    rw [daysTo_succ, List.foldl_append, show a + ((n + 1 : Nat) : Int) = a + (n : Int) + 1 by omega]
    exact (rowInv_days hg h0 n).step hg (by omega)
/-! the days on which what is taken grows, rising, are enough -/
theorem filt_split : ∀ {ds : List Int} {d : Int}, ds.Pairwise (· ≤ ·) → ds.filter (fun x => decide (x < d + 1)) = ds.filter (fun x => decide (x < d)) ++ ds.filter (fun x => decide (x = d))
  | [], _, _ => rfl
  | x :: r, d, h => by
    obtain ⟨h1, h2⟩ := List.pairwise_cons.mp h
    have ih := filt_split (d := d) h2
    rw [List.filter_cons, List.filter_cons, List.filter_cons]
    by_cases a : x < d
    · rw [if_pos (decide_eq_true (show x < d + 1 by omega)), if_pos (decide_eq_true a), if_neg (by simpa using (show x ≠ d by omega)), ih]
      rfl
    · by_cases b : x = d
      · rw [if_pos (decide_eq_true (show x < d + 1 by omega)), if_neg (by simpa using a), if_pos (decide_eq_true b), ih]
        have e : r.filter (fun x => decide (x < d)) = [] := List.filter_eq_nil_iff.mpr fun y hy => by
          have := h1 y hy
          simp; omega
        rw [e]
        rfl
      · have e : ∀ (p : Int → Bool), (∀ y, d < y → p y = false) → r.filter p = [] := fun p hp => List.filter_eq_nil_iff.mpr fun y hy => by
          have := h1 y hy
          rw [hp y (by omega)]
          decide
        rw [if_neg (by simpa using (show ¬ x < d + 1 by omega)), if_neg (by simpa using a), if_neg (by simpa using b)]
        rw [e (fun x => decide (x < d + 1)) (fun y hy => decide_eq_false (by omega)), e (fun x => decide (x < d)) (fun y hy => decide_eq_false (by omega)), e (fun x => decide (x = d)) (fun y hy => decide_eq_false (by omega))]
        rfl
theorem step_no {m : Int → Int} {g L d : Int} {s : Int × Rows} (h : m d ≤ s.1 * g) : stepL m g L s d = s := by
  unfold stepL
  rw [if_neg (by omega)]
theorem fold_same {m : Int → Int} {g L d : Int} : ∀ {l : List Int} {s : Int × Rows}, m d ≤ s.1 * g → (∀ x ∈ l, x = d) → l.foldl (stepL m g L) s = s
  | [], _, _, _ => rfl
  | x :: r, s, h, k => by
    rw [List.foldl_cons, k x (by simp), step_no h]
    exact fold_same h fun y hy => k y (by simp [hy])
theorem rows_days {m : Int → Int} {g L a : Int} (hg : 0 < g) (h0 : m (a - 1) ≤ 0) {ds : List Int} (hs : ds.Pairwise (· ≤ ·)) (hlo : ∀ d ∈ ds, a ≤ d) (hm : ∀ d, a ≤ d → d ∉ ds → m d ≤ m (d - 1)) :
    ∀ n : Nat, (daysTo a n).foldl (stepL m g L) (0, []) = (ds.filter fun x => decide (x < a + (n : Int))).foldl (stepL m g L) (0, [])
  | 0 => by
    have e : (ds.filter fun x => decide (x < a + ((0 : Nat) : Int))) = [] := List.filter_eq_nil_iff.mpr fun y hy => by
      have := hlo y hy
      simp; omega
    rw [e]
    rfl
  | n + 1 => by
    have ih := rows_days (L := L) hg h0 hs hlo hm n
    have I := rowInv_days (L := L) hg h0 n
    rw [daysTo_succ, List.foldl_append, show a + ((n + 1 : Nat) : Int) = a + (n : Int) + 1 by omega, filt_split hs, List.foldl_append, ← ih]
    generalize (daysTo a n).foldl (stepL m g L) (0, []) = s at I
    show stepL m g L s (a + (n : Int)) = _
    by_cases hd : a + (n : Int) ∈ ds
    · have hd2 : a + (n : Int) ∈ ds.filter fun x => decide (x = a + (n : Int)) := List.mem_filter.mpr ⟨hd, decide_eq_true rfl⟩
      have all : ∀ x ∈ ds.filter (fun x => decide (x = a + (n : Int))), x = a + (n : Int) := fun x hx => of_decide_eq_true (List.mem_filter.mp hx).2
      cases e : ds.filter (fun x => decide (x = a + (n : Int))) with
      | nil => rw [e] at hd2; cases hd2
      | cons x r =>
        rw [e] at all
        rw [List.foldl_cons, all x (by simp)]
        have I2 := I.step hg (by omega)
        have t := I2.top
        rw [show a + (n : Int) + 1 - 1 = a + (n : Int) by omega] at t
        exact (fold_same t fun y hy => all y (by simp [hy])).symm
    · have e : (ds.filter fun x => decide (x = a + (n : Int))) = [] := List.filter_eq_nil_iff.mpr fun y hy => by
        simp
        exact fun q => hd (q ▸ hy)
      rw [e]
      show stepL m g L s (a + (n : Int)) = s
      refine step_no ?_
      have := hm (a + (n : Int)) (by omega) hd
      have := I.top
      omega
theorem filt_all {ds : List Int} {c : Int} (h : ∀ d ∈ ds, d < c) : (ds.filter fun x => decide (x < c)) = ds := List.filter_eq_self.mpr fun x hx => decide_eq_true (h x hx)

/-! sorting -/
theorem putI_mem {x z : Int} : ∀ {l : List Int}, z ∈ putI x l ↔ z = x ∨ z ∈ l
  | [] => by unfold putI; simp
  | y :: r => by
    unfold putI
    by_cases h : x ≤ y
    · rw [if_pos h]; simp
    · rw [if_neg h, List.mem_cons, putI_mem, List.mem_cons]
      constructor
      · rintro (q | q | q)
        · exact .inr (.inl q)
        · exact .inl q
        · exact .inr (.inr q)
      · rintro (q | q | q)
        · exact .inr (.inl q)
        · exact .inl q
        · exact .inr (.inr q)
theorem putI_perm {x : Int} : ∀ {l : List Int}, (putI x l).Perm (x :: l)
  | [] => List.Perm.refl _
  | y :: r => by
    unfold putI
    by_cases h : x ≤ y
    · rw [if_pos h]
    · rw [if_neg h]
      exact (putI_perm.cons y).trans (List.Perm.swap x y r)
theorem putI_sorted {x : Int} : ∀ {l : List Int}, l.Pairwise (· ≤ ·) → (putI x l).Pairwise (· ≤ ·)
  | [], _ => by unfold putI; simp
  | y :: r, h => by
    obtain ⟨h1, h2⟩ := List.pairwise_cons.mp h
    unfold putI
    by_cases q : x ≤ y
    · rw [if_pos q]
      refine List.pairwise_cons.mpr ⟨fun z hz => ?_, h⟩
      rcases List.mem_cons.mp hz with e | e
      · rw [e]; exact q
      · have := h1 z e; omega
    · rw [if_neg q]
      refine List.pairwise_cons.mpr ⟨fun z hz => ?_, putI_sorted h2⟩
      rcases putI_mem.mp hz with e | e
      · rw [e]; omega
      · exact h1 z e
theorem riseI_perm : ∀ {l : List Int}, (riseI l).Perm l
  | [] => List.Perm.refl _
  | x :: r => putI_perm.trans (riseI_perm.cons x)
theorem riseI_sorted : ∀ {l : List Int}, (riseI l).Pairwise (· ≤ ·)
  | [] => List.Pairwise.nil
  | x :: r => putI_sorted riseI_sorted
theorem riseI_uniq {l l' : List Int} (hp : l'.Perm l) (hs : l'.Pairwise (· ≤ ·)) : l' = riseI l :=
  (hp.trans riseI_perm.symm).eq_of_pairwise (fun x y _ _ h1 h2 => Int.le_antisymm h1 h2) hs riseI_sorted
end K12
/-! The plain law, part 3: the needed lots of all items, by the program and by the law. -/
namespace K12
open PySem L2

theorem foldl_add {α : Type} (g : α → Int) : ∀ (l : List α) (t : Int), l.foldl (fun t x => t + g x) t = t + (l.map g).sum
  | [], t => by simp
  | x :: r, t => by
    rw [List.foldl_cons, foldl_add g r, List.map_cons, List.sum_cons]
    omega
theorem sum_filter {α : Type} (g : α → Int) (P : α → Bool) : ∀ {l : List α}, (∀ x ∈ l, P x = false → g x = 0) → ((l.filter P).map g).sum = (l.map g).sum
  | [], _ => rfl
  | x :: r, h => by
    have ih := sum_filter g P (l := r) fun y hy => h y (by simp [hy])
    rw [List.filter_cons]
    by_cases q : P x = true
    · rw [if_pos q, List.map_cons, List.sum_cons, List.map_cons, List.sum_cons, ih]
    · rw [if_neg q, List.map_cons, List.sum_cons, ih, h x (by simp) (by simpa using q)]
      omega
theorem sum_mono {α : Type} (g : α → Int) (P Q : α → Bool) : ∀ {l : List α}, (∀ x ∈ l, 0 ≤ g x) → (∀ x ∈ l, P x = true → Q x = true) → ((l.filter P).map g).sum ≤ ((l.filter Q).map g).sum
  | [], _, _ => Int.le_refl _
  | x :: r, h, k => by
    have ih := sum_mono g P Q (l := r) (fun y hy => h y (by simp [hy])) fun y hy => k y (by simp [hy])
    have hx := h x (by simp)
    rw [List.filter_cons, List.filter_cons]
    by_cases p : P x = true
    · rw [if_pos p, if_pos (k x (by simp) p), List.map_cons, List.sum_cons, List.map_cons, List.sum_cons]
      omega
    · rw [if_neg p]
      by_cases q : Q x = true
      · rw [if_pos q, List.map_cons, List.sum_cons]
        omega
      · rw [if_neg q]
        exact ih

/-! what is missing -/
def useAt (b : Bill) (f : List Rows) (i : Nat) (d : Int) (p : Nat) : Int := qty b p i * (itemAt b p).lot * lotsAt (f.getD p []) d
def miss (b : Bill) (k : Books) (f : List Rows) (i : Nat) (d : Int) : Int := taken b k f i d - supplied k i d
theorem taken_eq {b : Bill} (hb : BillOk b) (k : Books) (f : List Rows) (i : Nat) (d : Int) : taken b k f i d = ordered k i d + ((List.range b.length).map (useAt b f i d)).sum := by
  unfold taken
  rw [foldl_add (fun u : Nat × Int => u.2 * (itemAt b u.1).lot * lotsAt (f.getD u.1 []) d)]
  congr 1
  unfold users
  rw [List.map_map]
  exact sum_filter (useAt b f i d) _ fun p hp h => by
    have hq := qty_nonneg hb (p := p) (i := i) (List.mem_range.mp hp)
    have hn := of_decide_eq_false h
    have : qty b p i = 0 := by omega
    unfold useAt
    rw [this, Int.zero_mul, Int.zero_mul]
theorem part_sum (b : Bill) (f : List Rows) (i : Nat) (d : Int) (p : Nat) : ∀ (ps : List (Nat × Int)) (m : Int), ps.foldl (lawPart b f i d p) m = m + ((ps.filter fun q => decide ((q.1 : Int) = i)).map fun q => q.2).sum * (itemAt b p).lot * lotsAt (f.getD p []) d
  | [], m => by simp
  | q :: r, m => by
    rw [List.foldl_cons, part_sum b f i d p r, List.filter_cons]
    unfold lawPart
    by_cases h : (q.1 : Int) = i
    · rw [if_pos h, if_pos (decide_eq_true h), List.map_cons, List.sum_cons, Int.add_mul, Int.add_mul]
      omega
    · rw [if_neg h, if_neg (by simpa using h)]
theorem lawMiss_sum (b : Bill) (k : Books) (f : List Rows) (i : Nat) (d : Int) : lawMiss b k f i d = ordered k i d - supplied k i d + ((List.range b.length).map (useAt b f i d)).sum := by
  unfold lawMiss
  have e : (fun (m : Int) (p : Nat) => (itemAt b p).parts.foldl (lawPart b f i d p) m) = fun m p => m + useAt b f i d p := by
    funext m p
    exact part_sum b f i d p _ m
  rw [e]
  exact foldl_add (useAt b f i d) _ _
theorem lawMiss_eq {b : Bill} (hb : BillOk b) (k : Books) (f : List Rows) (i : Nat) (d : Int) : lawMiss b k f i d = miss b k f i d := by
  unfold miss
  rw [lawMiss_sum, taken_eq hb]
  omega
theorem miss_congr {b : Bill} (hb : BillOk b) (k : Books) {f f' : List Rows} {i : Nat} {d d' : Int} (ho : ordered k i d = ordered k i d') (hs : supplied k i d = supplied k i d') (h : ∀ p, p < b.length → 0 < qty b p i → lotsAt (f.getD p []) d = lotsAt (f'.getD p []) d') : miss b k f i d = miss b k f' i d' := by
  unfold miss
  rw [taken_eq hb, taken_eq hb, ho, hs]
  congr 2
  congr 1
  refine List.map_congr_left fun p hp => ?_
  unfold useAt
  have hq := qty_nonneg hb (p := p) (i := i) (List.mem_range.mp hp)
  by_cases q : 0 < qty b p i
  · rw [h p (List.mem_range.mp hp) q]
  · have e : qty b p i = 0 := by omega
    rw [e, Int.zero_mul, Int.zero_mul, Int.zero_mul]

/-! lots by days -/
theorem lots_skip : ∀ (r : Rows) (d : Int) (l : Int), (∀ x ∈ r, x.1 ≠ d) → r.foldl (fun l x => if x.1 ≤ d then x.2 else l) l = r.foldl (fun l x => if x.1 ≤ d - 1 then x.2 else l) l
  | [], _, _, _ => rfl
  | x :: r, d, l, h => by
    have hx := h x (by simp)
    rw [List.foldl_cons, List.foldl_cons]
    by_cases q : x.1 ≤ d
    · rw [if_pos q, if_pos (show x.1 ≤ d - 1 by omega)]
      exact lots_skip r d _ fun y hy => h y (by simp [hy])
    · rw [if_neg q, if_neg (show ¬ x.1 ≤ d - 1 by omega)]
      exact lots_skip r d _ fun y hy => h y (by simp [hy])
theorem lotsAt_skip {r : Rows} {d : Int} (h : ∀ x ∈ r, x.1 ≠ d) : lotsAt r d = lotsAt r (d - 1) := lots_skip r d 0 h
theorem lots_none : ∀ (r : Rows) (d : Int) (l : Int), (∀ x ∈ r, d < x.1) → r.foldl (fun l x => if x.1 ≤ d then x.2 else l) l = l
  | [], _, _, _ => rfl
  | x :: r, d, l, h => by
    have hx := h x (by simp)
    rw [List.foldl_cons, if_neg (show ¬ x.1 ≤ d by omega)]
    exact lots_none r d l fun y hy => h y (by simp [hy])
theorem lotsAt_none {r : Rows} {d : Int} (h : ∀ x ∈ r, d < x.1) : lotsAt r d = 0 := lots_none r d 0 h

/-! days -/
theorem days_mem {b : Bill} {k : Books} {f : List Rows} {i : Nat} {d : Int} : d ∈ daysRaw b k f i ↔ (∃ o ∈ k.ords, o.2.1 = i ∧ o.2.2.2 = d) ∨ ∃ u ∈ users b i, ∃ r ∈ f.getD u.1 [], r.1 = d := by
  unfold daysRaw
  rw [List.mem_append, List.mem_map, List.mem_flatMap]
  constructor
  · rintro (⟨o, ho, e⟩ | ⟨u, hu, h⟩)
    · obtain ⟨h1, h2⟩ := List.mem_filter.mp ho
      have := of_decide_eq_true h2
      exact .inl ⟨o, h1, by omega, e⟩
    · obtain ⟨r, hr, e⟩ := List.mem_map.mp h
      exact .inr ⟨u, hu, r, hr, e⟩
  · rintro (⟨o, ho, e1, e⟩ | ⟨u, hu, r, hr, e⟩)
    · exact .inl ⟨o, List.mem_filter.mpr ⟨ho, decide_eq_true (by omega)⟩, e⟩
    · exact .inr ⟨u, hu, List.mem_map.mpr ⟨r, hr, e⟩⟩
theorem ordered_skip {k : Books} {i : Nat} {d : Int} (h : ∀ o ∈ k.ords, o.2.1 = i → o.2.2.2 ≠ d) : ordered k i d = ordered k i (d - 1) := by
  unfold ordered
  congr 2
  refine List.filter_congr fun o ho => ?_
  by_cases q : (o.2.1 : Int) = i
  · have := h o ho (by omega)
    rw [decide_eq_true q, Bool.true_and, Bool.true_and]
    by_cases z : o.2.2.2 ≤ d
    · rw [decide_eq_true z, decide_eq_true (show o.2.2.2 ≤ d - 1 by omega)]
    · rw [decide_eq_false z, decide_eq_false (show ¬ o.2.2.2 ≤ d - 1 by omega)]
  · rw [decide_eq_false q, Bool.false_and, Bool.false_and]
theorem supplied_mono {n : Nat} {k : Books} (hk : BooksOk n k) {i : Nat} {d e : Int} (h : d ≤ e) : supplied k i d ≤ supplied k i e := by
  unfold supplied
  have := sum_mono (fun r : Nat × Int × Int => r.2.2) (fun r => decide ((r.1 : Int) = i) && decide (r.2.1 ≤ d)) (fun r => decide ((r.1 : Int) = i) && decide (r.2.1 ≤ e)) (l := k.recs) (fun r hr => (hk.recs r hr).2.2.2) fun r hr q => by
    rw [Bool.and_eq_true, decide_eq_true_eq, decide_eq_true_eq] at q ⊢
    exact ⟨q.1, by omega⟩
  omega
theorem supplied_nonneg {n : Nat} {k : Books} (hk : BooksOk n k) {i : Nat} (d : Int) : 0 ≤ supplied k i d := by
  unfold supplied
  have h1 : 0 ≤ k.stock.getD i 0 := by
    rw [List.getD_eq_getElem?_getD]
    cases e : k.stock[i]? with
    | none => exact Int.le_refl 0
    | some z => exact hk.st0 z (List.mem_of_getElem? e)
  have h2 : 0 ≤ (((k.recs.filter fun r => decide ((r.1 : Int) = i) && decide (r.2.1 ≤ d)).map fun r => r.2.2)).sum := sum_nonneg fun z hz => by
    obtain ⟨r, hr, rfl⟩ := List.mem_map.mp hz
    exact (hk.recs r (List.mem_filter.mp hr).1).2.2.2
  omega
theorem ordered_none {k : Books} {i : Nat} {d : Int} (h : ∀ o ∈ k.ords, d < o.2.2.2) : ordered k i d = 0 := by
  unfold ordered
  have e : (k.ords.filter fun o => decide ((o.2.1 : Int) = i) && decide (o.2.2.2 ≤ d)) = [] := List.filter_eq_nil_iff.mpr fun o ho => by
    have := h o ho
    rw [decide_eq_false (show ¬ o.2.2.2 ≤ d by omega), Bool.and_false]
    decide
  rw [e]
  rfl

/-! one item, by both -/
/-- the lots of the items taken so far lie in the days that the law looks at -/
structure FInv (b : Bill) (k : Books) (rk : Nat → Nat) (done : List Nat) (f : List Rows) : Prop where
  len : f.length = b.length
  out : ∀ i, i ∉ done → f.getD i [] = []
  lo : ∀ i, i < b.length → ∀ r ∈ f.getD i [], k.today - 60 + 10 * (rk i : Int) ≤ r.1
  hi : ∀ i, i < b.length → ∀ r ∈ f.getD i [], r.1 ≤ k.today + 29
  few : ∀ i, (f.getD i []).length ≤ 130
structure ItemFacts (b : Bill) (k : Books) (rk : Nat → Nat) (f : List Rows) (i : Nat) : Prop where
  law : ∀ n : Nat, n ≤ 130 → ((List.range n).foldl (fun s j => lawStep b k i s (dayAt k j)) (0, f)) = (((daysTo (k.today - 90) n).foldl (stepL (miss b k f i) (itemAt b i).good (itemAt b i).lead) (0, [])).1, f.set i ((daysTo (k.today - 90) n).foldl (stepL (miss b k f i) (itemAt b i).good (itemAt b i).lead) (0, [])).2)
  rows : rowsOf b k f i = ((daysTo (k.today - 90) 130).foldl (stepL (miss b k f i) (itemAt b i).good (itemAt b i).lead) (0, [])).2
  cov : ∀ d, k.today ≤ d → miss b k f i d ≤ lotsAt (rowsOf b k f i) (d - (itemAt b i).lead) * (itemAt b i).good
  sorted : (rowsOf b k f i).Pairwise fun x y => x.1 < y.1
  few : (rowsOf b k f i).length ≤ 130
  lo : ∀ r ∈ rowsOf b k f i, k.today - 60 + 10 * (rk i : Int) ≤ r.1
  hi : ∀ r ∈ rowsOf b k f i, r.1 ≤ k.today + 29
theorem set_self_nil {f : List Rows} {i : Nat} (h : f.getD i [] = []) : f.set i [] = f := by
  apply List.ext_getElem?
  intro j
  by_cases e : i = j
  · subst e
    rw [List.getElem?_set]
    rw [if_pos rfl]
    rw [List.getD_eq_getElem?_getD] at h
    by_cases hl : i < f.length
    · rw [if_pos hl]
      rw [List.getElem?_eq_getElem hl] at h ⊢
      exact congrArg some h.symm
    · rw [if_neg hl, List.getElem?_eq_none (by omega)]
  · rw [List.getElem?_set_ne e]
theorem getD_set_ne {f : List Rows} {i j : Nat} {r : Rows} (h : i ≠ j) : (f.set i r).getD j [] = f.getD j [] := by
  rw [List.getD_eq_getElem?_getD, List.getElem?_set_ne h, List.getD_eq_getElem?_getD]
theorem getD_set_self {f : List Rows} {i : Nat} {r : Rows} (h : i < f.length) : (f.set i r).getD i [] = r := by
  rw [List.getD_eq_getElem?_getD, List.getElem?_set_self h]
  rfl
theorem steps_from {m : Int → Int} {g L : Int} : ∀ (ds : List Int) (s : Int × Rows), ∀ r ∈ (ds.foldl (stepL m g L) s).2, r ∈ s.2 ∨ ∃ d ∈ ds, r.1 = d - L
  | [], s, r, h => .inl h
  | d :: ds, s, r, h => by
    rw [List.foldl_cons] at h
    rcases steps_from ds _ r h with q | ⟨e, he, q⟩
    · unfold stepL at q
      by_cases c : s.1 * g < m d
      · rw [if_pos c] at q
        rcases List.mem_append.mp q with z | z
        · exact .inl z
        · have e : r = (d - L, (m d + g - 1) / g) := by simpa using z
          exact .inr ⟨d, by simp, by rw [e]⟩
      · rw [if_neg c] at q
        exact .inl q
    · exact .inr ⟨e, by simp [he], q⟩
theorem item_facts {b : Bill} (hb : BillOk b) {k : Books} (hk : BooksOk b.length k) {rk : Nat → Nat} (hr : Rank b rk) {done : List Nat} {f : List Rows} (I : FInv b k rk done f) {i : Nat} (hi : i < b.length) (hd : i ∉ done) : ItemFacts b k rk f i := by
  have io : ItemOk b.length (itemAt b i) := hb.item _ (by
    unfold itemAt
    rw [List.getD_eq_getElem?_getD, List.getElem?_eq_getElem hi]
    exact List.getElem_mem hi)
  have hg : 0 < (itemAt b i).good := by have := io.good; omega
  obtain ⟨l1, l2⟩ := io.lead
  have rki := hr.lt i hi
  -- the days
  have dlo : ∀ d ∈ daysRaw b k f i, k.today - 50 + 10 * (rk i : Int) ≤ d ∧ d ≤ k.today + 29 := fun d hd => by
    rcases days_mem.mp hd with ⟨o, ho, _, e⟩ | ⟨u, hu, r, hr2, e⟩
    · obtain ⟨_, h1, h2, _⟩ := hk.ords o ho
      omega
    · obtain ⟨h1, h2, _⟩ := users_mem hu
      have := hr.up u.1 i h1 h2
      have := I.lo u.1 h1 r hr2
      have := I.hi u.1 h1 r hr2
      omega
  have dlo2 : ∀ d ∈ daysOf b k f i, k.today - 50 + 10 * (rk i : Int) ≤ d ∧ d ≤ k.today + 29 := fun d hd => dlo d (riseI_perm.mem_iff.mp hd)
  have mono : ∀ d, d ∉ daysOf b k f i → miss b k f i d ≤ miss b k f i (d - 1) := fun d hn => by
    have hn' : d ∉ daysRaw b k f i := fun q => hn (riseI_perm.mem_iff.mpr q)
    have e1 : ordered k i d = ordered k i (d - 1) := ordered_skip fun o ho e1 e2 => hn' (days_mem.mpr (.inl ⟨o, ho, e1, e2⟩))
    have e2 : taken b k f i d = taken b k f i (d - 1) := by
      rw [taken_eq hb, taken_eq hb, e1]
      congr 2
      refine List.map_congr_left fun p hp => ?_
      unfold useAt
      have hq := qty_nonneg hb (p := p) (i := i) (List.mem_range.mp hp)
      by_cases q : 0 < qty b p i
      · rw [lotsAt_skip fun r hr e => hn' (days_mem.mpr (.inr ⟨_, mem_users (List.mem_range.mp hp) q, r, hr, e⟩))]
      · have e : qty b p i = 0 := by omega
        rw [e, Int.zero_mul, Int.zero_mul, Int.zero_mul]
    unfold miss
    rw [e2]
    have := supplied_mono hk (i := i) (d := d - 1) (e := d) (by omega)
    omega
  have m0 : miss b k f i (k.today - 90 - 1) ≤ 0 := by
    unfold miss
    rw [taken_eq hb, ordered_none fun o ho => by obtain ⟨_, h1, _⟩ := hk.ords o ho; omega]
    have e : (List.range b.length).map (useAt b f i (k.today - 90 - 1)) = (List.range b.length).map fun _ => (0 : Int) := List.map_congr_left fun p hp => by
      unfold useAt
      rw [lotsAt_none fun r hr2 => by have := I.lo p (List.mem_range.mp hp) r hr2; omega, Int.mul_zero]
    have z : ((List.range b.length).map fun _ => (0 : Int)).sum = 0 := by
      induction (List.range b.length) with
      | nil => rfl
      | cons x r ih => rw [List.map_cons, List.sum_cons, ih]; rfl
    rw [e, z]
    have := supplied_nonneg hk (i := i) (k.today - 90 - 1)
    omega
  have rd := rows_days (L := (itemAt b i).lead) hg m0 (ds := daysOf b k f i) riseI_sorted (fun d hd => by have := (dlo2 d hd).1; omega) (fun d _ h => mono d h) 130
  have fall : (daysOf b k f i).filter (fun x => decide (x < k.today - 90 + ((130 : Nat) : Int))) = daysOf b k f i := filt_all fun d hd => by have := (dlo2 d hd).2; omega
  rw [fall] at rd
  have rows : rowsOf b k f i = ((daysTo (k.today - 90) 130).foldl (stepL (miss b k f i) (itemAt b i).good (itemAt b i).lead) (0, [])).2 := by
    rw [rd, ← step_eq hg]
    rfl
  have R := rowInv_days (L := (itemAt b i).lead) hg m0 130
  refine ⟨?_, rows, fun d hd => ?_, by rw [rows]; exact R.sorted, ?_, fun r hr2 => ?_, fun r hr2 => ?_⟩
  · intro n
    induction n with
    | zero =>
      intro _
      show ((0 : Int), f) = (0, f.set i [])
      rw [set_self_nil (I.out i hd)]
    | succ n ih =>
      intro hn
      rw [List.range_succ, List.foldl_append, ih (by omega), daysTo_succ, List.foldl_append]
      generalize (daysTo (k.today - 90) n).foldl (stepL (miss b k f i) (itemAt b i).good (itemAt b i).lead) (0, []) = s
      show lawStep b k i (s.1, f.set i s.2) (dayAt k n) = ((stepL (miss b k f i) (itemAt b i).good (itemAt b i).lead s (k.today - 90 + (n : Int))).1, f.set i (stepL (miss b k f i) (itemAt b i).good (itemAt b i).lead s (k.today - 90 + (n : Int))).2)
      have em : lawMiss b k (f.set i s.2) i (dayAt k n) = miss b k f i (dayAt k n) := by
        rw [lawMiss_eq hb]
        refine miss_congr hb k rfl rfl fun p hp hq => ?_
        rw [getD_set_ne fun e => by
          subst e
          rw [qty_self hb hp] at hq
          exact absurd hq (Int.lt_irrefl 0)]
      unfold lawStep stepL
      dsimp only
      rw [em, getD_set_self (by rw [I.len]; exact hi), List.set_set]
      show (if s.1 * (itemAt b i).good < miss b k f i (k.today - 90 + (n : Int)) then _ else _) = _
      by_cases c : s.1 * (itemAt b i).good < miss b k f i (k.today - 90 + (n : Int))
      · rw [if_pos c, if_pos c]
        rfl
      · rw [if_neg c, if_neg c]
  · rw [rows]
    by_cases c : d < k.today - 90 + ((130 : Nat) : Int)
    · exact R.cov d (by omega) c
    · rw [R.last (d - (itemAt b i).lead) (by omega)]
      have fall2 : ∀ j : Nat, miss b k f i (k.today - 90 + ((130 : Nat) : Int) - 1 + (j : Int)) ≤ miss b k f i (k.today - 90 + ((130 : Nat) : Int) - 1) := by
        intro j
        induction j with
        | zero => rw [show k.today - 90 + ((130 : Nat) : Int) - 1 + ((0 : Nat) : Int) = k.today - 90 + ((130 : Nat) : Int) - 1 by omega]; exact Int.le_refl _
        | succ j ih =>
          have := mono (k.today - 90 + ((130 : Nat) : Int) - 1 + ((j + 1 : Nat) : Int)) fun q => by have := (dlo2 _ q).2; omega
          rw [show k.today - 90 + ((130 : Nat) : Int) - 1 + ((j + 1 : Nat) : Int) - 1 = k.today - 90 + ((130 : Nat) : Int) - 1 + (j : Int) by omega] at this
          omega
      have q := fall2 (d - (k.today - 90 + ((130 : Nat) : Int) - 1)).toNat
      rw [show k.today - 90 + ((130 : Nat) : Int) - 1 + (((d - (k.today - 90 + ((130 : Nat) : Int) - 1)).toNat : Nat) : Int) = d by omega] at q
      have := R.top
      omega
  · rw [rows]
    have := R.len
    omega
  · rw [rows, rd] at hr2
    rcases steps_from _ _ r hr2 with q | ⟨d, hd2, e⟩
    · cases q
    · have := (dlo2 d hd2).1
      omega
  · rw [rows, rd] at hr2
    rcases steps_from _ _ r hr2 with q | ⟨d, hd2, e⟩
    · cases q
    · have := (dlo2 d hd2).2
      omega
end K12
/-! The plain law, part 4: the needs as a whole, the plan, its balances. -/
namespace K12
open PySem L2

def needTo (b : Bill) (k : Books) (done : List Nat) : List Rows := done.foldl (fun f i => f.set i (rowsOf b k f i)) (List.replicate b.length [])
theorem needTo_app (b : Bill) (k : Books) (done : List Nat) (i : Nat) : needTo b k (done ++ [i]) = (needTo b k done).set i (rowsOf b k (needTo b k done) i) := by
  unfold needTo
  rw [List.foldl_append]
  rfl
theorem finv_zero (b : Bill) (k : Books) (rk : Nat → Nat) : FInv b k rk [] (needTo b k []) := by
  have h : ∀ i, (List.replicate b.length ([] : Rows)).getD i [] = [] := fun i => by
    rw [List.getD_eq_getElem?_getD, List.getElem?_replicate]
    by_cases q : i < b.length
    · rw [if_pos q]; rfl
    · rw [if_neg q]; rfl
  refine ⟨List.length_replicate, fun i _ => h i, fun i _ r hr => ?_, fun i _ r hr => ?_, fun i => ?_⟩
  · rw [show needTo b k [] = List.replicate b.length [] from rfl, h i] at hr; cases hr
  · rw [show needTo b k [] = List.replicate b.length [] from rfl, h i] at hr; cases hr
  · rw [show needTo b k [] = List.replicate b.length [] from rfl, h i]; exact Nat.zero_le _
theorem finv_next {b : Bill} (hb : BillOk b) {k : Books} (hk : BooksOk b.length k) {rk : Nat → Nat} (hr : Rank b rk) {done : List Nat} {i : Nat} (I : FInv b k rk done (needTo b k done)) (hi : i < b.length) (hd : i ∉ done) : FInv b k rk (done ++ [i]) (needTo b k (done ++ [i])) := by
  have F := item_facts hb hk hr I hi hd
  rw [needTo_app]
  generalize needTo b k done = f at I F
  have hl : i < f.length := by rw [I.len]; exact hi
  refine ⟨by rw [List.length_set, I.len], fun j hj => ?_, fun j hj r hr2 => ?_, fun j hj r hr2 => ?_, fun j => ?_⟩
  · have : i ≠ j := fun e => hj (by rw [e]; simp)
    rw [getD_set_ne this]
    exact I.out j fun q => hj (by simp [q])
  · by_cases e : i = j
    · subst e; rw [getD_set_self hl] at hr2; exact F.lo r hr2
    · rw [getD_set_ne e] at hr2; exact I.lo j hj r hr2
  · by_cases e : i = j
    · subst e; rw [getD_set_self hl] at hr2; exact F.hi r hr2
    · rw [getD_set_ne e] at hr2; exact I.hi j hj r hr2
  · by_cases e : i = j
    · subst e; rw [getD_set_self hl]; exact F.few
    · rw [getD_set_ne e]; exact I.few j
theorem finv_take {b : Bill} (hb : BillOk b) {k : Books} (hk : BooksOk b.length k) {rk : Nat → Nat} (hr : Rank b rk) : ∀ m, m ≤ (order b).length → FInv b k rk ((order b).take m) (needTo b k ((order b).take m))
  | 0, _ => by rw [List.take_zero]; exact finv_zero b k rk
  | m + 1, h => by
    have ih := finv_take hb hk hr m (by omega)
    have hm : (order b)[m]? = some ((order b)[m]'(by omega)) := List.getElem?_eq_getElem (by omega)
    have e : (order b).take (m + 1) = (order b).take m ++ [(order b)[m]'(by omega)] := by rw [List.take_add_one, hm]; rfl
    obtain ⟨h1, h2, _⟩ := order_mem hb (split_at hm)
    rw [e]
    exact finv_next hb hk hr ih h1 h2
theorem finv_done {b : Bill} (hb : BillOk b) {k : Books} (hk : BooksOk b.length k) {rk : Nat → Nat} (hr : Rank b rk) {done rest : List Nat} (h : order b = done ++ rest) : FInv b k rk done (needTo b k done) := by
  have e : done = (order b).take done.length := by rw [h, List.take_left]
  have := finv_take hb hk hr done.length (by rw [h, List.length_append]; omega)
  rw [← e] at this
  exact this
/-- for the walk: at every turn the lists are of the right length, none is long -/
structure FOk (b : Bill) (f : List Rows) : Prop where
  len : f.length = b.length
  few : ∀ i, (f.getD i []).length ≤ 130
theorem fok_done {b : Bill} (hb : BillOk b) {k : Books} (hk : BooksOk b.length k) {done rest : List Nat} (h : order b = done ++ rest) : FOk b (needTo b k done) := by
  obtain ⟨rk, hr⟩ := hb.rank
  have := finv_done hb hk hr h
  exact ⟨this.len, this.few⟩
theorem needed_eq (b : Bill) (k : Books) : needed b k = needTo b k (order b) := rfl
theorem fok_needed {b : Bill} (hb : BillOk b) {k : Books} (hk : BooksOk b.length k) : FOk b (needed b k) := fok_done hb hk (rest := []) (by simp)

/-! the law's needs -/
def lawTo (b : Bill) (k : Books) (done : List Nat) : List Rows := done.foldl (fun f i => lawRows b k i f) (List.replicate b.length [])
theorem lawTo_app (b : Bill) (k : Books) (done : List Nat) (i : Nat) : lawTo b k (done ++ [i]) = lawRows b k i (lawTo b k done) := by
  unfold lawTo
  rw [List.foldl_append]
  rfl
theorem law_take {b : Bill} (hb : BillOk b) {k : Books} (hk : BooksOk b.length k) : ∀ m, m ≤ (order b).length → lawTo b k ((order b).take m) = needTo b k ((order b).take m)
  | 0, _ => by rw [List.take_zero]; rfl
  | m + 1, h => by
    obtain ⟨rk, hr⟩ := hb.rank
    have ih := law_take hb hk m (by omega)
    have I := finv_take hb hk hr m (by omega)
    have hm : (order b)[m]? = some ((order b)[m]'(by omega)) := List.getElem?_eq_getElem (by omega)
    have e : (order b).take (m + 1) = (order b).take m ++ [(order b)[m]'(by omega)] := by rw [List.take_add_one, hm]; rfl
    obtain ⟨h1, h2, _⟩ := order_mem hb (split_at hm)
    have F := item_facts hb hk hr I h1 h2
    rw [e, lawTo_app, needTo_app, ih]
    unfold lawRows
    rw [F.law 130 (Nat.le_refl _), F.rows]
theorem law_done {b : Bill} (hb : BillOk b) {k : Books} (hk : BooksOk b.length k) {done rest : List Nat} (h : order b = done ++ rest) : lawTo b k done = needTo b k done := by
  have e : done = (order b).take done.length := by rw [h, List.take_left]
  have := law_take hb hk done.length (by rw [h, List.length_append]; omega)
  rw [← e] at this
  exact this
theorem law_needed {b : Bill} (hb : BillOk b) {k : Books} (hk : BooksOk b.length k) : lawNeeded b k = needed b k := law_done hb hk (rest := []) (by simp)

/-! what holds of the needs -/
structure NeedsOk (b : Bill) (k : Books) (needs : List Rows) : Prop where
  len : needs.length = b.length
  sorted : ∀ i, i < b.length → (needs.getD i []).Pairwise fun x y => x.1 < y.1
  few : ∀ i, (needs.getD i []).length ≤ 130
  lo : ∀ i, i < b.length → ∀ r ∈ needs.getD i [], k.today - 60 ≤ r.1
  hi : ∀ i, i < b.length → ∀ r ∈ needs.getD i [], r.1 ≤ k.today + 29
  cov : ∀ i, i < b.length → ∀ d, k.today ≤ d → miss b k needs i d ≤ lotsAt (needs.getD i []) (d - (itemAt b i).lead) * (itemAt b i).good
theorem needTo_getD (b : Bill) (k : Books) : ∀ (rest : List Nat) (f : List Rows) (i : Nat), i ∉ rest → (rest.foldl (fun f i => f.set i (rowsOf b k f i)) f).getD i [] = f.getD i []
  | [], _, _, _ => rfl
  | j :: rest, f, i, h => by
    have h1 : j ≠ i := fun e => h (by simp [e])
    rw [List.foldl_cons, needTo_getD b k rest _ i (fun q => h (by simp [q])), getD_set_ne h1]
theorem needs_at {b : Bill} (hb : BillOk b) {k : Books} {done rest : List Nat} {i : Nat} (h : order b = done ++ i :: rest) (hl : (needTo b k done).length = b.length) : (needed b k).getD i [] = rowsOf b k (needTo b k done) i ∧ ∀ j ∈ done, (needed b k).getD j [] = (needTo b k done).getD j [] := by
  have nd : (done ++ i :: rest).Nodup := by rw [← h]; exact orderN_nodup hb _ (Nat.le_refl _)
  obtain ⟨n1, n2, n3⟩ := List.nodup_append.mp nd
  obtain ⟨n4, n5⟩ := List.nodup_cons.mp n2
  have hi := (order_mem hb h).1
  have e : needed b k = rest.foldl (fun f i => f.set i (rowsOf b k f i)) ((needTo b k done).set i (rowsOf b k (needTo b k done) i)) := by
    rw [needed_eq, h]
    unfold needTo
    rw [List.foldl_append, List.foldl_cons]
  rw [e]
  refine ⟨?_, fun j hj => ?_⟩
  · rw [needTo_getD b k rest _ i n4, getD_set_self (by rw [hl]; exact hi)]
  · rw [needTo_getD b k rest _ j (fun q => n3 j hj j (by simp [q]) rfl), getD_set_ne (fun e => n3 j hj i (by simp) e.symm)]
theorem needs_ok {b : Bill} (hb : BillOk b) {k : Books} (hk : BooksOk b.length k) : NeedsOk b k (needed b k) := by
  obtain ⟨rk, hr⟩ := hb.rank
  have all : ∀ i, i < b.length → ∃ done rest, order b = done ++ i :: rest ∧ ItemFacts b k rk (needTo b k done) i ∧ FInv b k rk done (needTo b k done) := fun i hi => by
    obtain ⟨done, rest, e⟩ := List.append_of_mem (order_all hb hi)
    have I := finv_done hb hk hr (done := done) (rest := i :: rest) e
    exact ⟨done, rest, e, item_facts hb hk hr I hi (order_mem hb e).2.1, I⟩
  have F := fok_needed hb hk
  refine ⟨F.len, fun i hi => ?_, F.few, fun i hi r hr2 => ?_, fun i hi r hr2 => ?_, fun i hi d hd => ?_⟩
  · obtain ⟨done, rest, e, Fi, I⟩ := all i hi
    rw [(needs_at hb e I.len).1]
    exact Fi.sorted
  · obtain ⟨done, rest, e, Fi, I⟩ := all i hi
    rw [(needs_at hb e I.len).1] at hr2
    have := Fi.lo r hr2
    omega
  · obtain ⟨done, rest, e, Fi, I⟩ := all i hi
    rw [(needs_at hb e I.len).1] at hr2
    exact Fi.hi r hr2
  · obtain ⟨done, rest, e, Fi, I⟩ := all i hi
    obtain ⟨n1, n2⟩ := needs_at hb e I.len
    rw [n1]
    have em : miss b k (needed b k) i d = miss b k (needTo b k done) i d := miss_congr hb k rfl rfl fun p hp hq => by
      rw [n2 p ((order_mem hb e).2.2 _ (mem_users hp hq))]
    rw [em]
    exact Fi.cov d hd

/-! late, or not -/
theorem late_first {k : Books} {r : Rows} (hs : r.Pairwise fun x y => x.1 < y.1) : lateRows k r = true ↔ ∃ x ∈ r, x.1 < k.today := by
  cases r with
  | nil => unfold lateRows; simp
  | cons x r =>
    show decide (x.1 < k.today) = true ↔ _
    rw [decide_eq_true_eq]
    constructor
    · exact fun h => ⟨x, by simp, h⟩
    · rintro ⟨y, hy, h⟩
      rcases List.mem_cons.mp hy with e | e
      · rw [← e]; exact h
      · have := (List.pairwise_cons.mp hs).1 y e
        omega
theorem late_iff {b : Bill} {k : Books} {needs : List Rows} (N : NeedsOk b k needs) : late k needs = true ↔ ∃ i, i < b.length ∧ ∃ x ∈ needs.getD i [], x.1 < k.today := by
  unfold late
  rw [List.any_eq_true]
  constructor
  · rintro ⟨r, hr, h⟩
    obtain ⟨i, hi, e⟩ := List.getElem_of_mem hr
    have hi2 : i < b.length := by rw [← N.len]; exact hi
    have e2 : needs.getD i [] = r := by rw [List.getD_eq_getElem?_getD, List.getElem?_eq_getElem hi, e]; rfl
    refine ⟨i, hi2, ?_⟩
    rw [e2]
    exact (late_first (e2 ▸ N.sorted i hi2)).mp h
  · rintro ⟨i, hi, h⟩
    have hl : i < needs.length := by rw [N.len]; exact hi
    have e2 : needs.getD i [] = needs[i] := by rw [List.getD_eq_getElem?_getD, List.getElem?_eq_getElem hl]; rfl
    rw [e2] at h
    exact ⟨needs[i], List.getElem_mem hl, (late_first (e2 ▸ N.sorted i hi)).mpr h⟩

/-! the plan's starts up to a day are the needed lots by that day -/
theorem started_app (p : List Start) (s : Start) (i : Nat) (d : Int) : started (p ++ [s]) i d = if (s.1 : Int) = i ∧ s.2.1 ≤ d then started p i d + s.2.2 else started p i d := by
  unfold started
  rw [List.foldl_append]
  rfl
theorem lots_last {r : Rows} {x : Int × Int} {d : Int} (h : ∀ y ∈ r ++ [x], y.1 ≤ d) : lotsAt (r ++ [x]) d = x.2 := by
  rw [lotsAt_app, if_pos (h x (by simp))]
/-- the starts of item j among those of the rows of item i -/
theorem plan_rows (plan : List Start) (i : Nat) (r : Rows) (hs : r.Pairwise fun x y => x.1 < y.1) : ∀ n, n ≤ r.length → ((r.take n).foldl (planStep i) (0, plan)).1 = (match (r.take n).getLast? with | some x => x.2 | none => 0) ∧
    ∀ j d, started ((r.take n).foldl (planStep i) (0, plan)).2 j d = started plan j d + if i = j then lotsAt (r.take n) d else 0
  | 0, _ => by
    rw [List.take_zero]
    refine ⟨rfl, fun j d => ?_⟩
    show started plan j d = started plan j d + if i = j then 0 else 0
    split <;> omega
  | n + 1, h => by
    obtain ⟨ih1, ih2⟩ := plan_rows plan i r hs n (by omega)
    have hn : r[n]? = some (r[n]'(by omega)) := List.getElem?_eq_getElem (by omega)
    have e : r.take (n + 1) = r.take n ++ [r[n]'(by omega)] := by rw [List.take_add_one, hn]; rfl
    have sp : (r.take n ++ [r[n]'(by omega)]).Pairwise fun x y => x.1 < y.1 := by
      rw [← e]
      exact hs.sublist (List.take_sublist _ _)
    obtain ⟨_, _, before⟩ := List.pairwise_append.mp sp
    rw [e, List.foldl_append]
    generalize r[n]'(by omega) = x at *
    generalize hst : (r.take n).foldl (planStep i) (0, plan) = s at *
    refine ⟨by rw [List.getLast?_concat]; rfl, fun j d => ?_⟩
    show started (s.2 ++ [(i, x.1, x.2 - s.1)]) j d = _
    rw [started_app, lotsAt_app, ih2]
    by_cases q : i = j
    · subst q
      rw [if_pos rfl, if_pos rfl]
      by_cases c : x.1 ≤ d
      · rw [if_pos ⟨rfl, c⟩, if_pos c]
        have hl : lotsAt (r.take n) d = s.1 := by
          rw [ih1]
          cases hr : (r.take n).getLast? with
          | none =>
            rw [List.getLast?_eq_none_iff] at hr
            rw [hr]
            rfl
          | some y =>
            obtain ⟨ys, hy⟩ := List.getLast?_eq_some_iff.mp hr
            rw [hy]
            refine lots_last fun z hz => ?_
            have := before z (by rw [hy]; exact hz) x (by simp)
            omega
        show started plan i d + lotsAt (r.take n) d + (x.2 - s.1) = started plan i d + x.2
        omega
      · rw [if_neg (fun h => c h.2), if_neg c]
    · rw [if_neg (fun h => q (by have := h.1; omega)), if_neg q, if_neg q]
theorem planItem_started (plan : List Start) (i : Nat) (r : Rows) (hs : r.Pairwise fun x y => x.1 < y.1) (j : Nat) (d : Int) : started (planItem plan i r) j d = started plan j d + if i = j then lotsAt r d else 0 := by
  have := (plan_rows plan i r hs r.length (Nat.le_refl _)).2 j d
  rw [List.take_length] at this
  exact this
theorem planTo_started {b : Bill} {k : Books} {needs : List Rows} (N : NeedsOk b k needs) (j : Nat) (d : Int) : ∀ n, n ≤ b.length → started (planTo needs n) j d = if j < n then lotsAt (needs.getD j []) d else 0
  | 0, _ => by
    rw [if_neg (Nat.not_lt_zero j)]
    rfl
  | n + 1, h => by
    show started (planItem (planTo needs n) n (needs.getD n [])) j d = _
    rw [planItem_started _ _ _ (N.sorted n (by omega)), planTo_started N j d n (by omega)]
    by_cases q : n = j
    · subst q
      rw [if_pos rfl, if_neg (Nat.lt_irrefl n), if_pos (Nat.lt_succ_self n)]
      omega
    · rw [if_neg q]
      by_cases c : j < n
      · rw [if_pos c, if_pos (by omega)]; omega
      · rw [if_neg c, if_neg (by omega)]; omega
theorem plan_started {b : Bill} {k : Books} {needs : List Rows} (N : NeedsOk b k needs) {j : Nat} (hj : j < b.length) (d : Int) : started (planOf needs) j d = lotsAt (needs.getD j []) d := by
  unfold planOf
  rw [planTo_started N j d needs.length (by rw [N.len]; exact Nat.le_refl _), if_pos (by rw [N.len]; exact hj)]

/-! balances -/
theorem bal_sum (b : Bill) (plan : List Start) (i : Nat) (d : Int) (p : Nat) : ∀ (ps : List (Nat × Int)) (m : Int), ps.foldl (balPart b plan i d p) m = m + -(((ps.filter fun q => decide ((q.1 : Int) = i)).map fun q => q.2).sum * (itemAt b p).lot * started plan p d)
  | [], m => by simp
  | q :: r, m => by
    rw [List.foldl_cons, bal_sum b plan i d p r, List.filter_cons]
    unfold balPart
    by_cases h : (q.1 : Int) = i
    · rw [if_pos h, if_pos (decide_eq_true h), List.map_cons, List.sum_cons, Int.add_mul, Int.add_mul]
      omega
    · rw [if_neg h, if_neg (by simpa using h)]
theorem sum_neg {α : Type} (g : α → Int) : ∀ l : List α, (l.map fun x => -(g x)).sum = -((l.map g).sum)
  | [] => rfl
  | x :: r => by
    rw [List.map_cons, List.sum_cons, sum_neg g r, List.map_cons, List.sum_cons]
    omega
theorem balance_eq {b : Bill} (hb : BillOk b) {k : Books} {needs : List Rows} (N : NeedsOk b k needs) {i : Nat} (hi : i < b.length) (d : Int) :
    balance b k (planOf needs) i d = lotsAt (needs.getD i []) (d - (itemAt b i).lead) * (itemAt b i).good - miss b k needs i d := by
  unfold balance
  have e : (fun (m : Int) (p : Nat) => (itemAt b p).parts.foldl (balPart b (planOf needs) i d p) m) = fun m p => m + -(qty b p i * (itemAt b p).lot * started (planOf needs) p d) := by
    funext m p
    exact bal_sum b _ i d p _ m
  rw [e, foldl_add (fun p => -(qty b p i * (itemAt b p).lot * started (planOf needs) p d)), sum_neg]
  have e2 : (List.range b.length).map (fun p => qty b p i * (itemAt b p).lot * started (planOf needs) p d) = (List.range b.length).map (useAt b needs i d) := List.map_congr_left fun p hp => by
    unfold useAt
    rw [plan_started N (List.mem_range.mp hp)]
  rw [e2, plan_started N hi]
  unfold miss
  rw [taken_eq hb, Int.mul_comm (itemAt b i).good]
  omega
theorem balance_nonneg {b : Bill} (hb : BillOk b) {k : Books} {needs : List Rows} (N : NeedsOk b k needs) {i : Nat} (hi : i < b.length) {d : Int} (hd : k.today ≤ d) : 0 ≤ balance b k (planOf needs) i d := by
  rw [balance_eq hb N hi]
  have := N.cov i hi d hd
  omega
end K12
/-! More of the layer: in, list * int, list + list, slices, index. -/
namespace K12
open PySem L2 Evl
def eNat (i : Nat) : T := .int (i : Int)
section
variable {K : PySem.W.Frag} {bx : BX} {H0 : Hp} {as : List A} {p : Ps} {ta tb te tl : TE} {t : TT} {s u : TS} {x y : T} {i j : Nat}
theorem inV_nat (i : Nat) : ∀ l : List Nat, inV (.int (i : Int)) (l.map fun j : Nat => V.int (j : Int)) = l.contains i
  | [] => rfl
  | y :: l => by
    have ih := inV_nat i l
    unfold inV at ih ⊢
    rw [List.map_cons, List.any_cons, ih, List.contains_cons]
    congr 1
    show (((y : Int)) == ((i : Int))) = (i == y)
    by_cases h : i = y
    · subst h; simp
    · have h2 : ¬ (y : Int) = (i : Int) := by omega
      rw [beq_eq_false_iff_ne.mpr h2, beq_eq_false_iff_ne.mpr h]
theorem flat_nat : ∀ l : List Nat, (l.map fun j : Nat => V.int (j : Int)).all flatV = true
  | [] => rfl
  | y :: l => by rw [List.map_cons, List.all_cons, flat_nat l]; rfl
theorem repL_nats {H : Hp} : ∀ {l : List Nat} {vs : List V}, RepL H (l.map eNat) vs → vs = l.map fun j : Nat => V.int (j : Int)
  | [], vs, h => repL_nil.mp h
  | y :: l, vs, h => by
    obtain ⟨v, r, rfl, h1, h2⟩ := repL_cons.mp (show RepL H (eNat y :: l.map eNat) vs from h)
    rw [rep_int.mp h1, repL_nats h2, List.map_cons]
theorem e_inN {neg : Bool} {l : List Nat} (h1 : Ev1 K bx ta as (.int (i : Int))) (h2 : EvR K bx tb as (l.map eNat)) : Ev1 K bx (tOp (rIn K neg) ta tb) as (.bl (if neg then !(l.contains i) else l.contains i)) := fun F H0 H σ S Q q =>
  h1 F H0 H σ S _ fun x v H1 e e1 r1 => h2 F H0 H1 σ (S.go e1) _ fun w H2 e2 ⟨a, xs, ew, n, sq, r⟩ => by
    subst e ew
    rw [rep_int.mp r1]
    have ex := repL_nats r
    subst ex
    refine ⟨a, _, rfl, .inl sq, rfl, flat_nat l, ?_⟩
    rw [inV_nat]
    exact q _ _ H2 rfl (e1.trans e2) (rep_bl.mpr rfl)
/-- x in a list of texts: some answer -/
theorem n_inS {neg : Bool} {l : List Str} {P : T → Prop} (h1 : EvT K bx ta as P) (hP : ∀ x, P x → ∃ s, x = .str s) (h2 : EvR K bx tb as (l.map .str)) : EvT K bx (tOp (rIn K neg) ta tb) as (fun z => ∃ b, z = .bl b ∧ True) := fun F H0 H σ S Q q =>
  h1 F H0 H σ S _ fun x v H1 px e1 r1 => h2 F H0 H1 σ (S.go e1) _ fun w H2 e2 ⟨a, xs, ew, n, sq, r⟩ => by
    obtain ⟨z, rfl⟩ := hP x px
    subst ew
    rw [rep_str.mp r1]
    have ex := r.strs
    subst ex
    refine ⟨a, _, rfl, .inl sq, rfl, ?_, q _ _ H2 ⟨_, rfl, trivial⟩ (e1.trans e2) (rep_bl.mpr rfl)⟩
    rw [List.all_eq_true]
    intro v hv
    obtain ⟨s, _, rfl⟩ := List.mem_map.mp hv
    rfl
theorem flat_rep {α : Type} (v : α) : ∀ n : Nat, (List.replicate n [v]).flatten = List.replicate n v
  | 0 => rfl
  | n + 1 => by rw [List.replicate_succ, List.flatten_cons, flat_rep v n, List.replicate_succ]; rfl
theorem repL_rep {H : Hp} {t : T} {v : V} (r : Rep H t v) : ∀ n : Nat, RepL H (List.replicate n t) (List.replicate n v)
  | 0 => repL_nil.mpr rfl
  | n + 1 => by rw [List.replicate_succ, List.replicate_succ]; exact repL_cons.mpr ⟨v, _, rfl, r, repL_rep r n⟩
theorem n_rep {m : Nat} (h1 : EvN1 K bx ta as [x]) (h2 : Ev1 K bx tb as (.int (m : Int))) (hm : m ≤ 1000) : EvN1 K bx (tOp rRep ta tb) as (List.replicate m x) := fun F H0 H σ S Q q =>
  h1 F H0 H σ S _ fun ts a xs H1 e e1 ha hx r1 => h2 F H0 H1 σ (S.go e1) _ fun y w H2 e' e2 r2 => by
    subst e e'
    obtain ⟨v, r, rfl, rv, rn⟩ := repL_cons.mp r1
    rw [repL_nil.mp rn] at hx
    rw [rep_int.mp r2]
    have nb : NB bx a := S.boxH.fresh ha
    refine ⟨a, (m : Int), [v], rfl, rfl, e2.keep a _ nb hx, by omega, by omega, ?_, fun b hb => ?_⟩
    · show 1 * ((m : Int)).toNat ≤ sizeLine
      exact sz_of (by omega)
    · rw [show ((m : Int)).toNat = m by omega, flat_rep]
      exact q _ b _ _ rfl ((e1.trans e2).trans (JB.new hb)) ((e1.trans e2).back S.boxH hb) upd_same (RepL.tk (e2.trans (JB.new hb)).tk _ _ (repL_rep rv m))
theorem n_cat {P1 P2 P : List T → Prop} (h1 : EvN K bx ta as P1) (h2 : EvN K bx tb as P2) (k : ∀ a b, P1 a → P2 b → P (a ++ b) ∧ (a ++ b).length ≤ 1000) : EvN K bx (tOp rCat ta tb) as P := fun F H0 H σ S Q q =>
  h1 F H0 H σ S _ fun ts a xs H1 p1 e1 ha hx r1 => h2 F H0 H1 σ (S.go e1) _ fun us b ys H2 p2 e2 hb hy r2 => by
    obtain ⟨hP, hl⟩ := k ts us p1 p2
    rw [List.length_append] at hl
    refine ⟨a, b, xs, ys, rfl, rfl, e2.keep a _ (S.boxH.fresh ha) hx, hy, sz_of (by rw [r1.len, r2.len]; omega), fun c hc => ?_⟩
    exact q _ c _ _ hP ((e1.trans e2).trans (JB.new hc)) ((e1.trans e2).back S.boxH hc) upd_same (RepL.tk (JB.new (bx := bx) hc).tk _ _ ((RepL.tk e2.tk _ _ r1).app r2))
theorem RepL.take {H : Hp} : ∀ {ts : List T} {vs : List V} (n : Nat), RepL H ts vs → RepL H (ts.take n) (vs.take n)
  | _, _, 0, _ => repL_nil.mpr rfl
  | [], vs, n + 1, h => by rw [repL_nil.mp h]; exact repL_nil.mpr rfl
  | t :: ts, vs, n + 1, h => by
    obtain ⟨v, r, rfl, h1, h2⟩ := repL_cons.mp h
    exact repL_cons.mpr ⟨v, _, rfl, h1, h2.take n⟩
theorem RepL.drop {H : Hp} : ∀ {ts : List T} {vs : List V} (n : Nat), RepL H ts vs → RepL H (ts.drop n) (vs.drop n)
  | _, _, 0, h => h
  | [], vs, n + 1, h => by rw [repL_nil.mp h]; exact repL_nil.mpr rfl
  | t :: ts, vs, n + 1, h => by
    obtain ⟨v, r, rfl, h1, h2⟩ := repL_cons.mp h
    exact h2.drop n
theorem cut_to (xs : List V) (n : Nat) (h : n ≤ xs.length) : cutV xs none (some (n : Int)) = xs.take n := by
  unfold cutV
  rw [HT.sIx_none, HT.sIx_nat, Nat.min_eq_left h]
  rfl
theorem cut_from (xs : List V) (n : Nat) (h : n ≤ xs.length) : cutV xs (some (n : Int)) none = xs.drop n := by
  unfold cutV
  rw [HT.sIx_none, HT.sIx_nat, Nat.min_eq_left h]
  exact List.take_of_length_le (by rw [List.length_drop]; exact Nat.le_refl _)
theorem n_slTo {ts : List T} {p : Int → Prop} (h1 : EvR K bx te as ts) (h2 : EvT K bx tb as (PI p)) (hp : ∀ i, p i → 0 ≤ i ∧ i ≤ (ts.length : Int)) : EvN K bx (tSl (rSlL K) te tNoPart (tPart tb)) as (fun us => ∃ n : Nat, p (n : Int) ∧ us = ts.take n) := fun F H0 H σ S Q q =>
  h1 F H0 H σ S _ fun v H1 e1 r1 => h2 F H0 H1 σ (S.go e1) _ fun y w H2 ⟨i, e, pi⟩ e2 r2 => by
    subst e
    obtain ⟨a, xs, rfl, n, sq, r⟩ := r1.go e2
    obtain ⟨b1, b2⟩ := hp i pi
    obtain ⟨m, rfl⟩ : ∃ m : Nat, i = (m : Int) := ⟨i.toNat, by omega⟩
    refine ⟨(m : Int), rep_int.mp r2, a, xs, rfl, sq, fun b hb => ?_⟩
    rw [cut_to xs m (by rw [r.len]; omega)]
    exact q _ b _ _ ⟨m, pi, rfl⟩ ((e1.trans e2).trans (JB.new hb)) ((e1.trans e2).back S.boxH hb) upd_same (RepL.tk (JB.new (bx := bx) hb).tk _ _ (r.take m))
theorem n_slFrom {ts : List T} {p : Int → Prop} (h1 : EvR K bx te as ts) (h2 : EvT K bx tb as (PI p)) (hp : ∀ i, p i → 0 ≤ i ∧ i ≤ (ts.length : Int)) : EvN K bx (tSl (rSlL K) te (tPart tb) tNoPart) as (fun us => ∃ n : Nat, p (n : Int) ∧ us = ts.drop n) := fun F H0 H σ S Q q =>
  h1 F H0 H σ S _ fun v H1 e1 r1 => h2 F H0 H1 σ (S.go e1) _ fun y w H2 ⟨i, e, pi⟩ e2 r2 => by
    subst e
    obtain ⟨a, xs, rfl, n, sq, r⟩ := r1.go e2
    obtain ⟨b1, b2⟩ := hp i pi
    obtain ⟨m, rfl⟩ : ∃ m : Nat, i = (m : Int) := ⟨i.toNat, by omega⟩
    refine ⟨(m : Int), rep_int.mp r2, a, xs, rfl, sq, fun b hb => ?_⟩
    rw [cut_from xs m (by rw [r.len]; omega)]
    exact q _ b _ _ ⟨m, pi, rfl⟩ ((e1.trans e2).trans (JB.new hb)) ((e1.trans e2).back S.boxH hb) upd_same (RepL.tk (JB.new (bx := bx) hb).tk _ _ (r.drop m))
/-- l.index(x) of a list of different places -/
theorem n_index {l : List Nat} (h1 : EvR K bx te as (l.map eNat)) (h2 : Ev1 K bx tb as (.int (i : Int))) (hi : i ∈ l) : EvT K bx (tBM K "list" (rIndex K) te (tCons tb tNil)) as (PI fun k => ∃ m : Nat, k = (m : Int) ∧ l[m]? = some i) := fun F H0 H σ S Q q =>
  h1 F H0 H σ S _ fun v H1 e1 r1 => by
    obtain ⟨a, xs, rfl, n, sq, r⟩ := r1
    refine ⟨.inl ⟨rfl, xs, sq⟩, h2 F H0 H1 σ (S.go e1) _ fun y w H2 e e2 r2 => ?_⟩
    subst e
    rw [rep_int.mp r2]
    have ex := repL_nats r
    subst ex
    have sq2 := e2.sqL n sq
    obtain ⟨m, hm, hb⟩ : ∃ m : Nat, l[m]? = some i ∧ ∀ m' : Nat, m' < m → l[m']? ≠ some i := by
      have : ∃ m : Nat, l[m]? = some i := by
        obtain ⟨m, h, e⟩ := List.getElem_of_mem hi
        exact ⟨m, by rw [List.getElem?_eq_getElem h, e]⟩
      obtain ⟨m, hm⟩ := this
      induction m using Nat.strongRecOn with
      | _ m ih =>
        by_cases c : ∃ m' : Nat, m' < m ∧ l[m']? = some i
        · obtain ⟨m', h1, h2⟩ := c
          exact ih m' h1 h2
        · exact ⟨m, hm, fun m' h1 h2 => c ⟨m', h1, h2⟩⟩
    refine ⟨a, _, .int (i : Int), m, .int (i : Int), rfl, rfl, sq2, rfl, flat_nat l, by rw [List.getElem?_map, hm]; rfl, ?_, ?_, ?_⟩
    · show ((i : Int) == (i : Int)) = true
      simp
    · intro m' z hlt hz
      rw [List.getElem?_map] at hz
      cases hk : l[m']? with
      | none => rw [hk] at hz; cases hz
      | some c =>
        rw [hk] at hz
        have ez : V.int (c : Int) = z := Option.some.inj hz
        subst ez
        show ((c : Int) == (i : Int)) = false
        rw [beq_eq_false_iff_ne]
        intro q
        have : c = i := by omega
        exact hb m' hlt (by rw [hk, this])
    · exact q _ _ H2 ⟨_, rfl, m, rfl, hm⟩ (e1.trans e2) (rep_int.mpr rfl)
end
end K12
/-! More of the layer: isinstance, sequences by place, lists of lists. -/
namespace K12
open PySem L2 Evl
section
variable {K : PySem.W.Frag} {bx : BX} {H0 : Hp} {as : List A} {p : Ps} {ta tb te tl : TE} {t : TT} {s u : TS} {x y : T} {i j : Nat}
theorem e_neI {i j : Int} (h1 : Ev1 K bx ta as (.int i)) (h2 : Ev1 K bx tb as (.int j)) : Ev1 K bx (tOp rNe ta tb) as (.bl (!decide (i = j))) :=
  n_op h1 h2 fun x y e1 e2 H v w Q _ r1 r2 k => by
    subst e1 e2
    rw [rep_int.mp r1, rep_int.mp r2]
    exact ⟨rfl, k _ _ H rfl (JB.refl H) (rep_bl.mpr (congrArg V.bl (congrArg not (by rw [dec_int, Bool.beq_eq_decide_eq]))))⟩
def tyT : T → String
  | .int _ => "int"
  | .str _ => "str"
  | .bl _ => "bool"
  | .non => "NoneType"
  | .tup _ => "tuple"
theorem tyX_rep {H : Hp} {v : V} : ∀ {x : T}, Rep H x v → TyX K H v (.type (tyT x))
  | .int i, r => by rw [rep_int.mp r]; exact .base (.int i)
  | .str i, r => by rw [rep_str.mp r]; exact .base (.str i)
  | .bl i, r => by rw [rep_bl.mp r]; exact .base (.bl i)
  | .non, r => by rw [rep_non.mp r]; exact .base .non
  | .tup ts, r => by
    obtain ⟨a, xs, rfl, h, _⟩ := rep_tup.mp r
    exact .base (.tup h)
theorem tyX_lst {H : Hp} {a : Addr} {xs : List V} (h : SqL K H a xs) : TyX K H (.ref a) (.type "list") := by
  rcases h with (h | ⟨o, h⟩) | ⟨o, its, n, h, c, _⟩
  · exact .base (.lst h)
  · exact .base (.frz h)
  · exact .kList h c
theorem e_isi {n : String} {r : Bool} (h1 : Ev1 K bx ta as x) (hk : kitB (tyT x) n = some r) : Ev1 K bx (tCB (rIsi K) (tCons ta (tCons (tC (.ty n)) tNil))) as (.bl r) := fun F H0 H σ S Q q =>
  h1 F H0 H σ S _ fun z v H1 e e1 r1 => by
    subst e
    exact ⟨v, .ty n, _, _, r, rfl, .ty n, tyX_rep r1, kit_ty hk, q _ _ H1 rfl e1 (rep_bl.mpr rfl)⟩
theorem e_isiL {ts : List T} {n : String} {r : Bool} (h1 : EvR K bx ta as ts) (hk : kitB "list" n = some r) : Ev1 K bx (tCB (rIsi K) (tCons ta (tCons (tC (.ty n)) tNil))) as (.bl r) := fun F H0 H σ S Q q =>
  h1 F H0 H σ S _ fun v H1 e1 ⟨a, xs, e, nb, sq, rr⟩ => by
    subst e
    exact ⟨.ref a, .ty n, _, _, r, rfl, .ty n, tyX_lst sq, kit_ty hk, q _ _ H1 rfl e1 (rep_bl.mpr rfl)⟩
theorem e_ixST {ts : List T} {i : Int} (h1 : Ev1 K bx ta as (.tup ts)) (h2 : Ev1 K bx tb as (.int i)) (ha : atI ts i = some x) : Ev1 K bx (tOp (rIx K) ta tb) as x := fun F H0 H σ S Q q =>
  h1 F H0 H σ S _ fun z v H1 e e1 r1 => h2 F H0 H1 σ (S.go e1) _ fun y w H2 e' e2 r2 => by
    subst e e'
    obtain ⟨a, xs, rfl, h, r⟩ := rep_tup.mp (Rep.tk e2.tk _ _ r1)
    obtain ⟨c, hc, rc⟩ := r.at_ ha
    exact .inr (.inl ⟨a, xs, i, c, rfl, rep_int.mp r2, SqT.of h, hc, q x c H2 rfl (e1.trans e2) rc⟩)
theorem e_ixSL {ts : List T} {i : Int} (h1 : EvR K bx ta as ts) (h2 : Ev1 K bx tb as (.int i)) (ha : atI ts i = some x) : Ev1 K bx (tOp (rIx K) ta tb) as x := fun F H0 H σ S Q q =>
  h1 F H0 H σ S _ fun v H1 e1 r1 => h2 F H0 H1 σ (S.go e1) _ fun y w H2 e' e2 r2 => by
    subst e'
    obtain ⟨a, xs, rfl, n, sq, r⟩ := r1.go e2
    obtain ⟨c, hc, rc⟩ := r.at_ ha
    exact .inl ⟨a, xs, i, c, rfl, rep_int.mp r2, sq, hc, q x c H2 rfl (e1.trans e2) rc⟩
theorem tr_range2N {ta : TA} {q : Int → Int → Prop} (h : EvVs K bx ta as (fun ts => ∃ lo hi, ts = [.int lo, .int hi] ∧ q lo hi)) (hb : ∀ lo hi, q lo hi → -100000 ≤ lo ∧ lo ≤ 100000 ∧ -100000 ≤ hi ∧ hi ≤ 100000) (I : Int → Int → Nat → List A → Prop) (h0 : ∀ lo hi, q lo hi → I lo hi 0 as)
    (hs : ∀ lo hi (m : Nat) as', q lo hi → m < (hi - lo).toNat → I lo hi m as' → Tr K bx H0 s (as'.set j (.t (.int (lo + m)))) { nx := I lo hi (m + 1), rt := p.rt, bk := p.nx, ct := I lo hi (m + 1) })
    (hd : ∀ lo hi as', q lo hi → I lo hi (hi - lo).toNat as' → p.nx as') : Tr K bx H0 (tFor (iRng2 ta) (gName j) s) as p := fun F H σ D S k1 k2 k3 k4 => by
  refine h F H0 H σ S _ fun ts vs H1 ⟨lo, hi, e, ql⟩ e1 r => ?_
  subst e
  have := hb lo hi ql
  exact ⟨lo, hi, RepL.ints (ns := [lo, hi]) r, ⟨by omega, by omega, by omega, by omega⟩, for_rng (lo := lo) (S.go e1) (I lo hi) (h0 lo hi ql) (fun m as' hm hI => hs lo hi m as' ql hm hI) (fun as' hI => hd lo hi as' ql hI) (fun a b c d x f => k1 a b c d x (e1.tk.trans f)) k2⟩

/-! ### a list of own lists -/
theorem r_oo {a : Addr} {bs : List Addr} {tss : List (List T)} {ts : List T} {m : Nat} (h : as[i]? = some (.oo a bs tss)) (h2 : Ev1 K bx tb as (.int (m : Int))) (ht : tss[m]? = some ts) : EvR K bx (tOp (rIxL K) (tVar i) tb) as ts := fun F H0 H σ S Q q => by
  obtain ⟨o, h1, rfl, _⟩ := S.slot i _ h
  refine ⟨.ref a, h1, h2 F H0 H σ S _ fun y w H2 e' e2 r2 => ?_⟩
  subst e'
  obtain ⟨o, _, _, n, h0, hl, nd, hlen, hb⟩ := (S.go e2).slot i _ h
  have hm : m < bs.length := by rw [hlen]; exact (List.getElem?_eq_some_iff.mp ht).1
  have hbm : bs[m]? = some bs[m] := List.getElem?_eq_getElem hm
  obtain ⟨nb, _, xs, hx, rx⟩ := hb m _ ts hbm ht
  exact ⟨a, bs.map .ref, (m : Int), .ref bs[m], rfl, rep_int.mp r2, SqL.of hl, atI_nat (by rw [List.getElem?_map, hbm]; rfl), q _ H2 e2 ⟨_, xs, rfl, nb, SqL.of hx, rx⟩⟩
/-- an own list within a list is written -/
theorem SI.wrO {F : List (Addr × List V)} {H : Hp} {σ : L2.St} (S : SI K bx F H0 H as σ) {a : Addr} {bs : List Addr} {tss : List (List T)} {m : Nat} {b : Addr} {us : List T} {ys : List V} (h : as[i]? = some (.oo a bs tss)) (hb : bs[m]? = some b) (r : RepL H us ys) :
    SI K bx F H0 (upd H b (.lst ys)) (as.set i (.oo a bs (tss.set m us))) σ ∧ TK H (upd H b (.lst ys)) := by
  obtain ⟨o, h1, q, nb, h0, hl, nd, hlen, hx⟩ := S.slot i _ h
  have hm : m < bs.length := (List.getElem?_eq_some_iff.mp hb).1
  have htm : tss[m]? = some (tss[m]'(by omega)) := List.getElem?_eq_getElem (by omega)
  obtain ⟨nbb, h0b, xs, h2, _⟩ := hx m b _ hb htm
  have ib : b ∈ (A.oo a bs tss).own := by simp only [A.own, List.mem_cons]; exact .inr (List.mem_of_getElem? hb)
  have tk : TK H (upd H b (.lst ys)) := fun c zs e => by
    have n : c ≠ b := fun z => by rw [z, h2] at e; cases e
    rw [upd_ne n]; exact e
  have own : ∀ (j : Nat) (y : A) (c : Addr), j ≠ i → as[j]? = some y → c ∈ y.own → c ≠ b := fun j y c n g m z => n (S.dj j i y _ b g h (z ▸ m) ib)
  have ol : ∀ c ts, c ≠ b → OwnL bx H0 H c ts → OwnL bx H0 (upd H b (.lst ys)) c ts := fun c ts n ⟨x1, x2, zs, x3, x4⟩ => ⟨x1, x2, zs, by rw [upd_ne n]; exact x3, RepL.tk tk _ _ x4⟩
  have so : ∀ (j : Nat) (y : A) (o : Option V), j ≠ i → as[j]? = some y → SlotOk K bx H0 H y o → SlotOk K bx H0 (upd H b (.lst ys)) y o := fun j y o n g k => by
    cases y with
    | x => trivial
    | t d => obtain ⟨v, e, r⟩ := k; exact ⟨v, e, Rep.tk tk _ _ r⟩
    | l ts => exact k
    | b => exact k
    | o c ts => exact ⟨k.1, ol c ts (own j _ c n g (by simp [A.own])) k.2⟩
    | oo c cs uss =>
      obtain ⟨k1, k2, k3, k4, k5, k6, k7⟩ := k
      refine ⟨k1, k2, k3, by rw [upd_ne (own j _ c n g (by simp [A.own]))]; exact k4, k5, k6, fun m' c' ts e1 e2 => ol c' ts (own j _ c' n g ?_) (k7 m' c' ts e1 e2)⟩
      simp only [A.own, List.mem_cons]
      exact .inr (List.mem_of_getElem? e1)
  have hi : i < as.length := (List.getElem?_eq_some_iff.mp h).1
  obtain ⟨nda, ndb⟩ := List.nodup_cons.mp nd
  have nab : a ≠ b := fun e => nda (by rw [e]; exact List.mem_of_getElem? hb)
  refine ⟨⟨S.ev.mut h0b, S.box, by rw [List.length_set, S.len], fun j y g => ?_, fun j k y z c g1 g2 m1 m2 => ?_, fun p hp => ?_⟩, tk⟩
  · by_cases e : i = j
    · subst e
      rw [List.getElem?_set_self hi] at g
      cases g
      refine ⟨o, h1, q, nb, h0, by rw [upd_ne nab]; exact hl, nd, by rw [List.length_set]; exact hlen, fun m' c ts e1 e2 => ?_⟩
      by_cases em : m = m'
      · subst em
        rw [hb] at e1
        cases e1
        rw [List.getElem?_set_self (by omega)] at e2
        cases e2
        exact ⟨nbb, h0b, ys, upd_same, RepL.tk tk _ _ r⟩
      · rw [List.getElem?_set_ne em] at e2
        have nc : c ≠ b := fun z => by
          obtain ⟨l1, l2⟩ := List.getElem?_eq_some_iff.mp e1
          obtain ⟨l3, l4⟩ := List.getElem?_eq_some_iff.mp hb
          exact em ((List.getElem_inj ndb).mp (l4.trans (z.symm.trans l2.symm)))
        exact ol c ts nc (hx m' c ts e1 e2)
    · rw [List.getElem?_set_ne e] at g
      obtain ⟨o', g1, g2⟩ := S.slot j y g
      exact ⟨o', g1, so j y o' (fun z => e z.symm) g g2⟩
  · have get : ∀ (j : Nat) (y : A), (as.set i (.oo a bs (tss.set m us)))[j]? = some y → ∃ y', as[j]? = some y' ∧ y'.own = y.own := fun j y g => by
      by_cases e : i = j
      · subst e
        rw [List.getElem?_set_self hi] at g
        cases g
        exact ⟨_, h, rfl⟩
      · rw [List.getElem?_set_ne e] at g
        exact ⟨y, g, rfl⟩
    obtain ⟨y', e1, e2⟩ := get j y g1
    obtain ⟨z', e3, e4⟩ := get k z g2
    exact S.dj j k y' z' c e1 e3 (e2 ▸ m1) (e4 ▸ m2)
  · obtain ⟨n, f1, f2⟩ := S.fr p hp
    have na : p.1 ≠ b := fun z => f2 i _ h (z ▸ ib)
    refine ⟨n, by rw [upd_ne na]; exact f1, fun j y g mm => ?_⟩
    by_cases e : i = j
    · subst e
      rw [List.getElem?_set_self hi] at g
      cases g
      exact f2 i _ h mm
    · rw [List.getElem?_set_ne e] at g
      exact f2 j y g mm
theorem tr_appO {a : Addr} {bs : List Addr} {tss : List (List T)} {ts : List T} {m : Nat} (h : as[i]? = some (.oo a bs tss)) (h2 : Ev1 K bx tb as (.int (m : Int))) (ht : tss[m]? = some ts) (he : Ev1 K bx te as x) (hz : ts.length < 100000) (k : p.nx (as.set i (.oo a bs (tss.set m (ts ++ [x]))))) :
    Tr K bx H0 (tDrop (tBM K "list" rAppend (tOp (rIxL K) (tVar i) tb) (tCons te tNil))) as p := fun F H σ D S k1 k2 k3 k4 => by
  obtain ⟨o, h1, rfl, _⟩ := S.slot i _ h
  refine ⟨.ref a, h1, h2 F H0 H σ S _ fun y w H2 e' e2 r2 => ?_⟩
  subst e'
  have S2 := S.go e2
  obtain ⟨o, _, _, n, h0, hl, nd, hlen, hb⟩ := S2.slot i _ h
  have hm : m < bs.length := by rw [hlen]; exact (List.getElem?_eq_some_iff.mp ht).1
  have hbm : bs[m]? = some bs[m] := List.getElem?_eq_getElem hm
  obtain ⟨nb, _, xs, hx, rx⟩ := hb m _ ts hbm ht
  refine ⟨a, bs.map .ref, (m : Int), .ref bs[m], rfl, rep_int.mp r2, SqL.of hl, atI_nat (by rw [List.getElem?_map, hbm]; rfl), Or.inl ⟨rfl, xs, SqL.of hx⟩, he F H0 H2 σ S2 _ fun z v H3 ez e3 rv => ?_⟩
  subst ez
  have hx3 := e3.keep _ _ nb hx
  refine ⟨_, xs, v, rfl, rfl, hx3, sz_lt (by rw [rx.len]; exact hz), ?_⟩
  obtain ⟨S', tk⟩ := (S2.go e3).wrO (m := m) h hbm ((RepL.tk e3.tk _ _ rx).app (RepL.one rv))
  exact k1 _ _ _ k S' ((e2.tk.trans e3.tk).trans tk)
theorem yes_go {σ : L2.St} {H : Hp} {f : Bool → Hp → Prop} (h : f true H) : tYes σ H f := h
/-- y = [[] for x in t] -/
theorem q_newO {ts : List T} {g : TG} {vs : List Nat} {gj : Nat} (hl : Ev1 K bx tl as (.tup ts)) (hg : g = gName gj) (hz : ts.length < 1000) (hv : gj ∈ vs) (k : ∀ a bs, bs.length = ts.length → Tr K bx H0 u (as.set i (.oo a bs (List.replicate ts.length []))) p) :
    Tr K bx H0 (tSeq (tAsg (tLc (iTup K tl) g tYes (tLst tNil) vs) (gName i)) u) as p := fun F H σ D S k1 k2 k3 k4 => by
  subst hg
  refine hl F H0 H σ S _ fun y v H1 e e1 r => ?_
  subst e
  obtain ⟨a, ws, rfl, h1, r1⟩ := rep_tup.mp r
  have S1 := S.go e1
  have hw := r1.len
  refine ⟨a, rfl, ⟨ws, SqT.of h1⟩, fun Dl hD => lc_tup (xs := ws) (fun n G => JB bx H1 G ∧ ∃ bs : List Addr, bs.length = n ∧ G Dl = some (.lst (bs.map .ref)) ∧ (Dl :: bs).Nodup ∧ ∀ b ∈ bs, H1 b = none ∧ G b = some (.lst [])) ⟨JB.new hD, [], rfl, upd_same, by simp, fun _ h => nomatch h⟩ (fun n G _ h => SqT.of (h.1.tk _ _ h1)) ?_ ?_⟩
  · rintro n w G hn ⟨e2, bs, hlen, hG, nd, hb⟩
    refine ⟨?_, ?_⟩
    · refine wipe_back (js := [gj]) (List.length_set ..) (fun k hk => List.getElem?_set_ne (fun z => hk (by simp [z]))) (fun j hj => ?_)
      have : j = gj := by simpa using hj
      rw [this]; exact hv
    refine yes_go ?_
    rw [if_pos rfl]
    have hn2 : n < ws.length := (List.getElem?_eq_some_iff.mp hn).1
    refine ⟨Nat.zero_le _, fun q hq => ?_⟩
    have nq : q ≠ Dl := fun z => by rw [z, hG] at hq; cases hq
    have nqb : ∀ b ∈ bs, q ≠ b := fun b hb2 z => by rw [z, (hb b hb2).2] at hq; cases hq
    have hq1 : H1 q = none := e2.back (S1.boxH) hq
    refine ⟨bs.map .ref, by rw [upd_ne nq.symm]; exact hG, sz_lt (by rw [List.length_map]; omega), (e2.trans (JB.new hq)).mut hD, bs ++ [q], by rw [List.length_append, hlen]; rfl, by rw [upd_same, List.map_append]; rfl, ?_, fun b hb2 => ?_⟩
    · obtain ⟨n1, n2⟩ := List.nodup_cons.mp nd
      refine List.nodup_cons.mpr ⟨fun z => ?_, List.nodup_append.mpr ⟨n2, by simp, fun x hx y hy z => ?_⟩⟩
      · rcases List.mem_append.mp z with z | z
        · exact n1 z
        · exact nq (by simpa using z : Dl = q).symm
      · have : y = q := by simpa using hy
        exact nqb x hx (this ▸ z.symm)
    · rcases List.mem_append.mp hb2 with z | z
      · obtain ⟨b1, b2⟩ := hb b z
        have n3 : b ≠ Dl := fun w => (List.nodup_cons.mp nd).1 (w ▸ z)
        exact ⟨b1, by rw [upd_ne n3, upd_ne (nqb b z).symm]; exact b2⟩
      · have : b = q := by simpa using z
        rw [this]
        exact ⟨hq1, by rw [upd_ne nq]; exact upd_same⟩
  · rintro G ⟨e2, bs, hlen, hG, nd, hb⟩
    have S2 := S1.go e2
    have hlen2 : bs.length = ts.length := by rw [hlen, hw]
    have eo : ∀ c, c ∈ (A.oo Dl bs (List.replicate ts.length [])).own → H1 c = none := fun c hc => by
      have : c = Dl ∨ c ∈ bs := by simpa [A.own] using hc
      rcases this with z | z
      · rw [z]; exact hD
      · exact (hb c z).1
    have S3 : SI K bx F H0 G (as.set i (.oo Dl bs (List.replicate ts.length []))) (σ.set i (some (.ref Dl))) := S2.set (x := .oo Dl bs (List.replicate ts.length [])) ⟨rfl, S1.boxH.fresh hD, S1.ev.back S.box hD, hG, nd, by rw [List.length_replicate]; exact hlen2, fun m b us e3 e4 => by
        rw [List.getElem?_replicate] at e4
        split at e4
        · cases e4
          obtain ⟨b1, b2⟩ := hb b (List.mem_of_getElem? e3)
          exact ⟨S1.boxH.fresh b1, S1.ev.back S.box b1, [], b2, repL_nil.mpr rfl⟩
        · cases e4⟩
      (fun c hc j y n g m => by
        obtain ⟨_, _, xs, hx⟩ := S1.own_some g m
        rw [eo c hc] at hx; cases hx)
      (fun c hc q hq z => by
        have := (S1.fr q hq).2.1
        rw [z, eo c hc] at this; cases this)
    exact k Dl bs hlen2 F G _ D S3 (fun a b c d x f => k1 a b c d x ((e1.tk.trans e2.tk).trans f)) k2 (fun a b c d x f => k3 a b c d x ((e1.tk.trans e2.tk).trans f)) (fun a b c d x f => k4 a b c d x ((e1.tk.trans e2.tk).trans f))
/-- [tuple(x) for x in l] -/
theorem n_tupsO {a : Addr} {bs : List Addr} {tss : List (List T)} {vs : List Nat} {gj : Nat} {r : List V → Hp → VK → Prop} (h : as[i]? = some (.oo a bs tss)) (hgj : gj < as.length) (hv : gj ∈ vs)
    (hr : r = fun xs H Q => ∃ p ys, xs = [.ref p] ∧ ((SqL K H p ys ∧ ∀ l, H l = none → Q (.ref l) (upd H l (.tup ys))) ∨ (SqT K H p ys ∧ Q (.ref p) H))) (hz : tss.length < 1000) :
    EvN1 K bx (tLc (iList K (tVar i)) (gName gj) tYes (tCB r (tCons (tVar gj) tNil)) vs) as (tss.map .tup) := fun F H0 H σ S Q q => by
  subst hr
  obtain ⟨o, h1, rfl, n, h0, hl, nd, hlen, hb⟩ := S.slot i _ h
  have lw : (L2.wipe σ vs).length = as.length := by rw [wipe_length, S.len]
  refine ⟨.ref a, h1, a, rfl, ⟨bs.map .ref, SqL.of hl⟩, fun D hD => lc_list (xs := bs.map .ref) (fun m G => JB bx H G ∧ ∃ us, G D = some (.lst us) ∧ RepL G ((tss.take m).map .tup) us) ⟨JB.new hD, [], upd_same, by rw [List.take_zero]; exact repL_nil.mpr rfl⟩ (fun m G _ hG => SqL.of (hG.1.keep a _ n hl)) ?_ ?_⟩
  · rintro m w G hm ⟨e2, us, hu, ru⟩
    rw [List.getElem?_map] at hm
    cases hbm : bs[m]? with
    | none => rw [hbm] at hm; cases hm
    | some b =>
      rw [hbm] at hm
      have ew : V.ref b = w := Option.some.inj hm
      subst ew
      have hm2 : m < bs.length := (List.getElem?_eq_some_iff.mp hbm).1
      have htm : tss[m]? = some (tss[m]'(by omega)) := List.getElem?_eq_getElem (by omega)
      obtain ⟨nb, _, xs, hx, rx⟩ := hb m b _ hbm htm
      refine ⟨?_, ?_⟩
      · refine wipe_back (js := [gj]) (List.length_set ..) (fun k hk => List.getElem?_set_ne (fun z => hk (by simp [z]))) (fun j hj => ?_)
        have : j = gj := by simpa using hj
        rw [this]; exact hv
      refine yes_go ?_
      rw [if_pos rfl]
      refine ⟨.ref b, List.getElem?_set_self (by omega), b, xs, rfl, .inl ⟨SqL.of (e2.keep b _ nb hx), fun l hl2 => ?_⟩⟩
      have nl : D ≠ l := fun z => by rw [← z, hu] at hl2; cases hl2
      refine ⟨us, by rw [upd_ne nl]; exact hu, sz_lt ?_, (e2.trans (JB.new hl2)).mut hD, us ++ [.ref l], upd_same, ?_⟩
      · rw [ru.len, List.length_map, List.length_take]; omega
      · have tk2 : TK G (upd (upd G l (.tup xs)) D (.lst (us ++ [.ref l]))) := fun c zs e => by
          have n1 : c ≠ D := fun z => by rw [z, hu] at e; cases e
          have n2 : c ≠ l := fun z => by rw [z, hl2] at e; cases e
          rw [upd_ne n1, upd_ne n2]; exact e
        rw [List.take_add_one, htm, List.map_append]
        refine (RepL.tk tk2 _ _ ru).app (RepL.one (rep_tup.mpr ⟨l, xs, rfl, ?_, RepL.tk (e2.tk.trans tk2) _ _ rx⟩))
        rw [upd_ne nl.symm]
        exact upd_same
  · rintro G ⟨e2, us, hu, ru⟩
    rw [List.length_map, hlen, List.take_length] at ru
    exact q _ D us G rfl e2 hD hu ru
end
end K12
/-! raise C, of an own class C itself. -/
namespace K12
open PySem L2 Evl PyProof.Rows
theorem nested_own {prog : Program} {w : World} {A : Around} {E : Value → Shared → Prop} {s : Shared} {K : PySem.W.Frag} {C : Addr} {k : Value} {dep : Int} {tk : Tok} {Q : Fin → Shared → Prop} (hk : k = .int dep tk) (X : K.In s.heap) (tC : PySem.W.typeIn K (.ref C) = some (.type "type")) (sC : PySem.W.subIn K (.ref C) (.ref C) = some true) {o : Obj} {cd : ClassData} (hC : s.heap.get? C = some o) (hd : o.data = .cls cd)
    (hq : Q (.done (.ret (.bool true))) s) : wpAny (model prog w) A (Builtin.«issubclass.nested» ⟨[.ref C, .ref C, k], []⟩) Q E s := by
  subst hk
  have L1 := PySem.W.looks_typeIn (M := model prog w) X tC
  have L2 := PySem.W.looks_subIn (M := model prog w) X sC
  obtain ⟨oc, od, dat, sl⟩ := o
  simp only at hd
  subst hd
  repeat (any_goals (first | assumption | (refine L1.here ?_) | (refine L2.here ?_) | wp_step))
theorem issub_own {K : PySem.W.Frag} {C : Addr} (tC : PySem.W.typeIn K (.ref C) = some (.type "type")) (sC : PySem.W.subIn K (.ref C) (.ref C) = some true) :
    Meets (Builtin.«issubclass» ⟨[.ref C, .ref C], []⟩) (fun _ R s => (K.In s.heap ∧ ∃ o cd, s.heap.get? C = some o ∧ o.data = .cls cd) ∧ R (.ok (.ret (.bool true))) s) :=
  fun _ _ _ _ _ ⟨⟨X, o, cd, hC, hd⟩, hs⟩ => issubclass_outer (nested_own rfl X tC sC hC hd hs)
theorem raise_cls {prog : Program} {w : World} {A : Around} {E : Value → Shared → Prop} {env : Env} {s : Shared} {x : Sem Value} {K : PySem.W.Frag} {C : Addr} {Q : Flow → Shared → Prop} (hh : A.handled = none) (X : K.In s.heap) (tC : PySem.W.typeIn K (.ref C) = some (.type "type")) (sC : PySem.W.subIn K (.ref C) (.ref C) = some true)
    (bC : PySem.W.subIn K (.ref C) (.type "BaseException") = some true) {o : Obj} {cd : ClassData} (hC : s.heap.get? C = some o) (hd : o.data = .cls cd)
    (hx : wpAny (model prog w) A x (fun v s₁ => v = .ref C ∧ s₁ = s) E s)
    (hcall : wpAny (model prog w) A (call (.ref C) []) (fun v s₁ => ∃ a oe vs, v = .ref a ∧ (∀ b o, s.heap.get? b = some o → s₁.heap.get? b = some o) ∧ s₁.heap.get? a = some oe ∧ oe.cls = .ref C ∧ oe.data = .fields vs ∧ vs[1]? = some .none ∧ E (.ref a) s₁) E s) :
    wpAny (model prog w) A (raiseStmt env (some x) none) Q E s := by
  have isT : ∀ {s' : Shared} {Q' : Bool → Shared → Prop}, s'.heap.get? C = some o → Q' true s' → wpAny (model prog w) A (isType (.ref C)) Q' E s' := by
    intro s' Q' h hq
    simp only [isType, loadHead]
    refine wpAny_bind (wpAny_loadPart h ?_)
    rw [hd]; exact wpAny_pure hq
  have L1 := PySem.W.looks_subIn (M := model prog w) X bC
  unfold raiseStmt
  dsimp only
  refine wpAny_bind (wpAny_mono hx (fun v s₁ h₁ => ?_) fun _ _ e => e)
  obtain ⟨rfl, rfl⟩ := h₁
  refine wpAny_bind (wpAny_pure ?_)
  dsimp only
  refine wpAny_bind (wpAny_holding ?_)
  unfold excFromValue isExcClass
  refine wpAny_bind (wpAny_bind (isT hC ?_))
  simp only [if_true]
  refine L1.here ?_
  simp only [if_true]
  refine wpAny_bind (wpAny_mono hcall (fun v s₁ h₁ => ?_) fun _ _ e => e)
  obtain ⟨a, oe, vs, rfl, k, ha, hcls, hdv, h1, hE⟩ := h₁
  have X1 := X.keeps k
  have LT : PySem.W.Looks (model prog w) s₁.heap (typeOf (.ref a)) (.ref C) := fun A Q E s k q => wpAny_typeOf_ref (k _ _ ha) (by rw [hcls]; exact q)
  have LI : PySem.W.Looks (model prog w) s₁.heap (isInstance (.ref a) (.type "BaseException")) true := LT.andThen (L1.keeps k)
  refine wpAny_bind (LI.here ?_)
  simp only [Bool.not_true, Bool.false_eq_true, if_false]
  refine wpAny_pure ?_
  refine wpAny_bind (isT (k _ _ hC) ?_)
  simp only [if_true]
  refine wpAny_bind (wpAny_holding ?_)
  unfold raisedFor
  simp only [Bool.false_eq_true, if_false]
  refine wpAny_bind (LT.here ?_)
  refine wpAny_bind (call_issubclass (issub_own tC sC) ⟨⟨X1, o, cd, k _ _ hC, hd⟩, ?_⟩)
  dsimp only [wants]
  refine wpAny_bind (wpAny_truthy_bool ?_)
  simp only [if_true]
  refine wpAny_pure ?_
  unfold setFlight raiseNew
  refine wpAny_bind (wpAny_bind (wpAny_field ha hdv h1 ?_))
  rw [if_neg (by decide)]
  refine wpAny_pure (wpAny_bind (wpAny_handled ?_))
  rw [hh]
  first
    | exact wpAny_throw hE
    | exact wpAny_bind (wpAny_pure (wpAny_throw hE))
theorem ps_raiseC {X : Cx} {W : WX} {np pos : Pos} (hc : X.calm = true) (tk : Takes X W) (N : NoP X.K X.mg) (hg : Gl X "NoPlan") : PS X (.Raise (some (.Name "NoPlan" np)) none pos) (fun _ σ H => W (.ref N.C) none σ H) := by
  refine ⟨fun pins s σ H D I h => ?_⟩
  obtain ⟨bm, Ns, nm, qn, bs, hdct, sn, sub, ab, col, dd, k0, k1, k2, k3, k5, mN, hC, hN, hni, Tl⟩ := exc_obj I.kIn N.xC
  show wpAny _ _ (do standAt pos; raiseStmt X.env (some (do let v ← eval (.Name "NoPlan" np) X.env; standAt pos; pure v)) none) _ _ _
  refine wpAny_bind (wpAny_standAt (raise_cls (I.ok.hd hc) I.kIn N.tC N.sC N.bC hC rfl (wpAny_bind (ld_glob I hg N.gC (wpAny_bind (wpAny_standAt (wpAny_pure ⟨rfl, rfl⟩))))) ?_))
  refine wpAny_call_exc_subT PySem.F.excBase_ValueError Tl hC hN hni (fun h' e hm => ?_) (Nat.zero_le _)
  obtain ⟨a, oe, vs, sI, H', cls, d, ea, J, k, hne, ha, hz, hd, h1, na, os, ag, r, q⟩ := mk_of (Q := fun cls d H' => cls = .ref N.C ∧ d = none ∧ H' = H) I hm (raises_own N.bC N.tC) ⟨rfl, rfl, rfl⟩ (I.hok.gone hm.new)
  obtain ⟨e1, e2, e3⟩ := q
  cases ea
  subst e1 e2 e3
  exact ⟨e, oe, vs, rfl, hm.keeps, ha, hz.1, hd, h1, tk _ _ (XE.new J k hne ha hz hd h1 na os ag h)⟩
end K12
/-! enumerate of a tuple. -/
namespace K12
open PySem L2 Evl PyProof.Rows
/-- enumerate's own cell, over the iterator at it -/
abbrev cellOf (it : Addr) : Obj := { cls := .type "enumerate", data := .fields #[.none, .bool false, .ref it, rawInt 0, .none, .none] }
open AutoSeq1 (wpAny_loadPart') in
/-- enumerate(v), of one argument: the library tells it of a list and of a text alone -/
theorem enum_one {v : Value} {o : Obj} {Z : Heap → Prop} (B : Begins v o Z) : Meets (Builtin.«enumerate.__new__» ⟨[.type "enumerate", v], []⟩) (fun _ R s => Z s.heap ∧ R (.ok (.ret (.ref (s.heap.push o).objs.size))) { s with heap := (s.heap.push o).push (cellOf s.heap.objs.size) }) := by
  refine .of_wp fun prog w A R s hs => ?_
  cases s with | mk hh gg dd tt oo => ?_
  have sub0 := sub_enumerate
  have it0 : ∀ {A2 : Around} {E2 : Value → Shared → Prop} {Q2 : Value → Shared → Prop}, Q2 (.ref hh.objs.size) ⟨hh.push o, gg, dd, tt, oo⟩ → wpAny (model prog w) A2 (pyIter v) Q2 E2 ⟨hh, gg, dd, tt, oo⟩ := fun k2 => B.iter prog w _ _ ⟨hh, gg, dd, tt, oo⟩ _ hs.1 k2
  have fin := hs.2
  clear hs
  wp_walk using it0
  refine wpAny_stack_any fun _ => wpAny_pure ?_
  split
  · rename_i c0 _ _ _ _ _
    cases (c0 == Value.type "enumerate") <;> (wp_walk using it0; exact ⟨_, rfl, fin⟩)
  · wp_walk using it0; exact ⟨_, rfl, fin⟩
theorem enum_call {P : Program} {w : World} {A : Around} {E : Value → Shared → Prop} {s : Shared} {a : Addr} {ws : Array Value} {Q : Value → Shared → Prop} (ha : s.heap.IsTuple a ws)
    (k : ∀ h2, IsEnum h2 (s.heap.objs.size + 1) s.heap.objs.size 0 .none → h2.IsTupleIter s.heap.objs.size a 0 → (∀ b o, s.heap.get? b = some o → h2.get? b = some o) → Q (.ref (s.heap.objs.size + 1)) { s with heap := h2 }) : wpAny (model P w) A (call (.type "enumerate") [.ref a]) Q E s := by
  refine callType_new F.called_enumerate (by decide) (F.typeCall_enumerate_1 _) (F.newCall_enumerate_1 _) (fun z => F.args_object_init_2 z _) F.entry_enumerate_new (enum_one (begins_tuple a ws)) ⟨ha, ?_⟩
  generalize ht : ({ cls := .type "tuple_iterator", data := .fields #[.ref a, .int 0 0] } : Obj) = t
  have n1 : (s.heap.push t).objs.size = s.heap.objs.size + 1 := Heap.size_push ..
  have en : IsEnum ((s.heap.push t).push (cellOf s.heap.objs.size)) (s.heap.objs.size + 1) s.heap.objs.size 0 .none := n1 ▸ Heap.get?_push_size (s.heap.push t) (o := cellOf s.heap.objs.size) rfl
  show _ ∧ Q (.ref (s.heap.push t).objs.size) _
  rw [n1]
  refine ⟨⟨_, en, rfl⟩, k _ en ⟨t, Heap.get?_push_of_some _ (Heap.get?_push_size _ (by rw [← ht]; rfl)), by rw [← ht], by rw [← ht]; rfl⟩ fun b o z => ?_⟩
  exact Heap.get?_push_of_some _ (Heap.get?_push_of_some _ z)
/-- the tuple at a: the turns, each with a new pair, and the end -/
def IteT (K : PySem.W.Frag) (a : Addr) : It where
  go i H := ∃ (xs : List V) (x : V), SqT K H a xs ∧ xs[i]? = some x
  yld i H v H' := ∃ t x, v = .ref t ∧ H t = none ∧ H' = upd H t (.tup [.int (i : Nat), x]) ∧ ∀ xs, SqT K H a xs → xs[i]? = some x
  stop i H := ∃ xs : List V, SqT K H a xs ∧ xs.length = i
/-- what stands ahead of the i-th turn: enumerate's cell e and the tuple's iterator it -/
def EnT (a e it : Addr) (i : Nat) (h : Heap) : Prop := (∃ last, IsEnum h e it ((i : Nat) : Int) last) ∧ h.IsTupleIter it a i
/-- the library's walk of it -/
theorem walkT {P : Program} {w : World} {A : Around} (hh : A.in1.handled = none) {a e it : Addr} (n1 : a ≠ it) (n2 : a ≠ e) (n3 : e ≠ it) (ws : Array Value) : WalksT P w A e [e, it, a] [e, it] ws.size (fun i vals => ∃ t x, ws[i]? = some x ∧ vals = #[.int i t, x]) (fun i h => (∃ last, IsEnum h e it i last) ∧ h.IsTupleIter it a i ∧ h.IsTuple a ws)
    (fun i t h => (∃ x, IsEnumOut h e it ((i : Int) + 1) x t) ∧ (h.IsTupleIter it a (i + 1) ∧ h.IsTuple a ws) ∧ t ≠ e ∧ t ≠ it) :=
  WalksT.enumerateD (Draws.tuple (prog := P) (w := w) (A := A.in1) hh it a n1 ws) e n3 (by simp [n3, n2.symm]) (by simp)
theorem turn_enumT {P : Program} {w : World} {K : PySem.W.Frag} {elts : List Expr} {kk : Nat} {tpos : Pos} {a e it : Addr} (n1 : a ≠ it) (n2 : a ≠ e) (n3 : e ≠ it) : Turn P w K (.Tuple elts kk tpos) (IteT K a) [e, it] e (EnT a e it) where
  mem := List.mem_cons_self ..
  obj i h st b hb := by
    obtain ⟨⟨last, c1⟩, ⟨o, c2, _, c3⟩⟩ := st
    rcases List.mem_cons.mp hb with z | hb
    · exact z ▸ ⟨_, c1, fun v y => nomatch y⟩
    · rw [List.mem_singleton.mp hb]
      refine ⟨o, c2, fun v y => ?_⟩
      rw [c3] at y
      cases y
  keep i h h2 st k := ⟨st.1.imp fun last c => k e (by simp) _ c, st.2.at fun o c => k it (by simp) o c⟩
  item X hP hw hK hc i pins s σ H E I hf st hg := by
    subst hP hw hK
    obtain ⟨xs, x, hq, hx⟩ := hg
    obtain ⟨us, rv, pa, _⟩ := I.tuple hq
    obtain ⟨u, hu, ru⟩ := rv.get hx
    have W := walkT (P := X.prog) (w := X.w) (A := X.A) (I.ok.hd hc) n1 n2 n3 us.toArray
    have lt : i < us.toArray.size := by simpa using (List.getElem?_eq_some_iff.mp hu).1
    refine W.item i s _ _ lt ⟨st.1, st.2, pa⟩ fun t vals h1 tk gives ht tup mid k1 => ?_
    obtain ⟨t0, y, hy, ev⟩ := gives
    have ey : y = u := Option.some.inj (hy.symm.trans (by simpa using hu))
    subst ev ey
    have off := W.apart i t h1 mid
    refine ⟨.ref t, rfl, W.go _ _ _ i t { s with heap := h1, toks := tk } _ _ mid fun h2 st2 k2 => ?_⟩
    have tup2 : h2.IsTuple t #[.int i t0, y] := tup.at fun o c => k2 t o off c
    have made : ObjOk X.prog X.w (upd H t (.tup [.int (i : Nat), x])) h2 t (.tup [.int (i : Nat), x]) := ⟨sz_of (by simp), _, .cons ⟨_, rfl⟩ (.cons ru .nil), tup2⟩
    refine ⟨.ref t, _, I.turnedNew (t' := tk) (ch := [e, it]) (fun b o z c => k2 b o z (k1 b o z c)) hf ht made, rfl, ⟨t, x, rfl, I.hok.fresh ht, rfl, fun ys hy2 => I.tuple_inj hy2 hq ▸ hx⟩, ⟨st2.1, st2.2.1⟩, fun b hb => ?_⟩
    rw [upd_ne fun z : b = t => off (z ▸ hb)]
    exact (hf b hb).1
  done X hP hw hK hc i pins s σ H E I hf st hg := by
    subst hP hw hK
    obtain ⟨xs, hq, hx⟩ := hg
    obtain ⟨us, rv, pa, _⟩ := I.tuple hq
    have ei : i = us.toArray.size := by
      have := rv.length
      simp
      omega
    subst ei
    exact (walkT (P := X.prog) (w := X.w) (A := X.A) (I.ok.hd hc) n1 n2 n3 us.toArray).done s _ _ ⟨st.1, st.2, pa⟩ fun h1 tk k1 => ⟨rfl, I.turnedL (t' := tk) k1 hf⟩
  self A i s Q E st q := by
    obtain ⟨last, c⟩ := st.1
    exact wpAny_pyIter_enum c q
def iEnumT (K : PySem.W.Frag) (ta : TA) : TI := fun σ H R => ta σ H fun vs H1 => ∃ a xs, vs = [.ref a] ∧ SqT K H1 a xs ∧ R (IteT K a) H1
/-- for .. in enumerate(e), e a tuple -/
theorem pi_enumT {X : Cx} {e : Expr} {ta : TA} {p pos tpos : Pos} {elts : List Expr} {kk : Nat} (hg : Gl X "enumerate") (hm : X.mg "enumerate" = none) (ha : PA X [e] ta) (hs : starEach [e] X.env = [(false, eval e X.env)] := by rfl) : L2.PI X (.Tuple elts kk tpos) (.Call (.Name "enumerate" p) [e] [] pos) (iEnumT X.K ta) where
  run pins s σ H R I h := by
    have one := ha.run pos pins s σ H _ I h
    refine Call_ (ld_blt I hg hm boot_enumerate (callWith_type1 (thn one fun us s1 got => ?_) hs rfl))
    obtain ⟨vs, H1, I1, rel, a, xs, rfl, hq, q⟩ := got
    obtain ⟨u, rfl, ru⟩ : ∃ u, us = [u] ∧ RelV (.ref a) u := by
      cases rel with | cons r rr => cases rr; exact ⟨_, rfl, r⟩
    have eu : u = .ref a := ru
    subst eu
    obtain ⟨ws, _, pa, _⟩ := I1.tuple hq
    have la : a < s1.heap.objs.size := by
      obtain ⟨o, c, _⟩ := pa
      exact Heap.lt_size c
    refine enum_call (ws := ws.toArray) pa fun h2 en ti k2 => wpAny_pyIter_enum en ?_
    have fp : ∀ b ∈ [s1.heap.objs.size + 1, s1.heap.objs.size], FpOk X pins H1 b := fun b hb => by
      have le : s1.heap.objs.size ≤ b := by
        have : b = s1.heap.objs.size + 1 ∨ b = s1.heap.objs.size := by simpa using hb
        omega
      exact I1.fpOk le (I1.hok.fresh le)
    exact ⟨_, _, EnT a (s1.heap.objs.size + 1) s1.heap.objs.size, _, H1, rfl, I1.kept (t' := s1.toks) k2, turn_enumT (Nat.ne_of_lt la) (Nat.ne_of_lt (Nat.lt_succ_of_lt la)) (Nat.succ_ne_self _), ⟨⟨_, en⟩, ti⟩, fp, q⟩

/-- for i, x in enumerate(t) -/
theorem tr_enumT {K : PySem.W.Frag} {bx : BX} {H0 : Hp} {as : List A} {p : Ps} {tl : TE} {s : TS} {α : Type} {enc : α → T} {xs : List α} {g : TG} (hl : Ev1 K bx tl as (.tup (xs.map enc))) (I : List α → List A → Prop) (h0 : I [] as)
    (hs : ∀ done x rest as', xs = done ++ x :: rest → I done as' → ∃ (js : List Nat) (as2 : List A), GT K bx g js as' (.tup [.int (done.length : Int), enc x]) as2 ∧ Tr K bx H0 s as2 { nx := I (done ++ [x]), rt := p.rt, bk := p.nx, ct := I (done ++ [x]) })
    (hd : ∀ as', I xs as' → p.nx as') : Tr K bx H0 (tFor (iEnumT K (tCons tl tNil)) g s) as p := fun F H σ D S k1 k2 k3 k4 => by
  refine hl F H0 H σ S _ fun y v H1 px e r => ?_
  subst px
  obtain ⟨a, vs, rfl, h1, r1⟩ := rep_tup.mp r
  have S1 := S.go e
  have hvl : vs.length = xs.length := by rw [r1.len, List.length_map]
  refine ⟨a, vs, rfl, SqT.of h1, fun i m σ' H' => m = xs.length - i ∧ i ≤ xs.length ∧ ∃ as', I (xs.take i) as' ∧ SI K bx F H0 H' as' σ' ∧ TK H1 H', ⟨xs.length, by omega, Nat.zero_le _, as, by rw [List.take_zero]; exact h0, S1, TK.refl H1⟩, ?_⟩
  rintro i m σ' H' ⟨rfl, hi, as', hI, S', tk⟩
  by_cases hlt : i < xs.length
  · have hx : xs[i]? = some xs[i] := List.getElem?_eq_getElem hlt
    obtain ⟨w, hw, rw_⟩ := (RepL.tk tk _ _ r1).get (i := i) (t := enc xs[i]) (by rw [List.getElem?_map, hx]; rfl)
    have tk1 : xs.take (i + 1) = xs.take i ++ [xs[i]] := by rw [List.take_add_one, hx]; rfl
    refine .inr ⟨⟨vs, w, SqT.of (tk _ _ h1), hw⟩, fun σ2 H2 => ∃ as', I (xs.take (i + 1)) as' ∧ SI K bx F H0 H2 as' σ2 ∧ TK H1 H2, fun σ2 H2 h => ⟨xs.length - (i + 1), by omega, rfl, by omega, h⟩, fun z H2 hy => ?_⟩
    obtain ⟨t, z2, rfl, ht, rfl, hz⟩ := hy
    have ez : z2 = w := Option.some.inj ((hz vs (SqT.of (tk _ _ h1))).symm.trans hw)
    subst ez
    have e2 : JB bx H' (upd H' t (.tup [.int (i : Nat), z2])) := JB.new ht
    obtain ⟨js, as2, hg, hb⟩ := hs (xs.take i) xs[i] (xs.drop (i + 1)) as' (split_at hx) hI
    rw [List.length_take, Nat.min_eq_left (by omega)] at hg
    have rp : Rep (upd H' t (.tup [.int (i : Nat), z2])) (.tup [.int (i : Int), enc xs[i]]) (.ref t) := rep_tup.mpr ⟨t, _, rfl, upd_same, repL_cons.mpr ⟨_, _, rfl, rep_int.mpr rfl, RepL.one (Rep.tk e2.tk _ _ rw_)⟩⟩
    refine hg F H0 _ σ' _ (S'.go e2) rp _ fun σ3 S3 _ _ => ?_
    exact hb F _ σ3 _ S3 (fun a b c d x f => ⟨a, by rw [tk1]; exact d, x, (tk.trans e2.tk).trans f⟩) k2 (fun a b c d x f => k1 a b c d x (((e.tk.trans tk).trans e2.tk).trans f)) (fun a b c d x f => ⟨a, by rw [tk1]; exact d, x, (tk.trans e2.tk).trans f⟩)
  · have ei : i = xs.length := by omega
    subst ei
    rw [List.take_length] at hI
    exact .inl ⟨⟨vs, SqT.of (tk _ _ h1), hvl⟩, k1 as' σ' H' (hd as' hI) S' (e.tk.trans tk)⟩
end K12
/-! Draws: values of which only a range is known. -/
namespace K12
open PySem L2 Evl
theorem PI.imp {p q : Int → Prop} (h : ∀ k, p k → q k) : ∀ x, PI p x → PI q x := fun x ⟨i, e, pi⟩ => ⟨i, e, h i pi⟩
section
variable {K : PySem.W.Frag} {bx : BX} {H0 : Hp} {as : List A} {p : Ps} {ta tb te t1 t2 t3 t4 : TE} {t : TT} {s u : TS} {x y : T} {i j : Nat}
theorem EvT.ints {p q : Int → Prop} (h : EvT K bx te as (PI p)) (k : ∀ i, p i → q i) : EvT K bx te as (PI q) := h.imp (PI.imp k)
theorem e_toInt {i : Int} (h : Ev1 K bx ta as (.int i)) : Ev1 K bx (tCB (fun xs H Q => (∃ i, xs = [.int i] ∧ Q (.int i) H) ∨ ∃ k, xs = [.bl k] ∧ Q (.int (if k then 1 else 0)) H) (tCons ta tNil)) as (.int i) :=
  (n_toInt h.pi).imp fun x ⟨k, e, h⟩ => by rw [e, h]
theorem e_lenS {z : Str} (h : Ev1 K bx ta as (.str z)) (hz : z.length ≤ 100000) : Ev1 K bx (tCB (fun xs H Q => ∃ z, xs = [.str z] ∧ z.length ≤ sizeLine ∧ Q (.int z.length) H) (tCons ta tNil)) as (.int (z.length : Int)) := fun F H0 H σ S Q q =>
  h F H0 H σ S _ fun x v H1 e e1 r1 => by
    subst e
    exact ⟨z, by rw [rep_str.mp r1], sz_of hz, q _ _ H1 rfl e1 (rep_int.mpr rfl)⟩
/-- texts of a bounded length -/
def SL (n : Nat) : T → Prop := fun x => ∃ s : Str, x = .str s ∧ s.length ≤ n
theorem n_addS {m n : Nat} (h1 : EvT K bx ta as (SL m)) (h2 : EvT K bx tb as (SL n)) (hl : m + n ≤ 10000) : EvT K bx (tOp (fun x y H Q => ∃ i j, x = .str i ∧ y = .str j ∧ i.length + j.length ≤ sizeLine ∧ Q (.str (i ++ j)) H) ta tb) as (SL (m + n)) :=
  n_op h1 h2 fun x y ⟨a, e1, l1⟩ ⟨b, e2, l2⟩ H v w Q _ r1 r2 k => by
    subst e1 e2
    refine ⟨a, b, rep_str.mp r1, rep_str.mp r2, sz_of (by omega), k (.str (a ++ b)) _ H ⟨_, rfl, ?_⟩ (JB.refl H) (rep_str.mpr rfl)⟩
    show (a.cps ++ b.cps).size ≤ m + n
    rw [Array.size_append]
    have h1 : a.cps.size ≤ m := l1
    have h2 : b.cps.size ≤ n := l2
    omega
theorem n_sign {z : Str} {p : Int → Prop} (h1 : Ev1 K bx ta as (.str z)) (hz : z.length ≤ 100000) (h2 : EvT K bx tb as (PI p)) (hp : ∀ i, p i → 0 ≤ i ∧ i < (z.length : Int)) : EvT K bx (tOp rIxS ta tb) as (SL 1) :=
  n_ixS h1 h2 fun x i e pi => by
    obtain ⟨b1, b2⟩ := hp i pi
    have hl : i.toNat < z.cps.toList.length := by
      have : z.cps.toList.length = z.length := by simp [Str.length]
      omega
    refine ⟨z, z.cps.toList[i.toNat], e, hz, ?_, ⟨_, rfl, Nat.le_refl 1⟩⟩
    have h := atI_nat (xs := z.cps.toList) (j := i.toNat) (List.getElem?_eq_getElem hl)
    rw [show ((i.toNat : Nat) : Int) = i by omega] at h
    exact h
theorem n_slS {m : Nat} {k : Int} (h : EvT K bx ta as (SL m)) (hm : m ≤ 10000) : EvT K bx (tSl rSlS ta tNoPart (tPart (tC (.int k)))) as (SL m) := fun F H0 H σ S Q q =>
  h F H0 H σ S _ fun x v H1 ⟨z, e, hz⟩ e1 r1 => by
    subst e
    exact ⟨k, rfl, z, rep_str.mp r1, sz_of (by omega), q (.str _) _ H1 ⟨_, rfl, Nat.le_trans (cutS_length z _ _) hz⟩ e1 (rep_str.mpr rfl)⟩
theorem n_var {i : Nat} {P : T → Prop} (h : as[i]? = some (.t x)) (px : P x) : EvT K bx (tVar i) as P := (e_var h).any px
/-! displays -/
theorem vs2 {p1 p2 : T → Prop} (h1 : EvT K bx t1 as p1) (h2 : EvT K bx t2 as p2) : EvVs K bx (tCons t1 (tCons t2 tNil)) as (fun ts => ∃ a b, ts = [a, b] ∧ p1 a ∧ p2 b) :=
  vs_consN h1 (vs_consN (R' := fun r => ∃ b, r = [b] ∧ p2 b) h2 vs_nil fun x r px er => ⟨x, by rw [er], px⟩) fun x r px ⟨b, er, pb⟩ => ⟨x, b, by rw [er], px, pb⟩
theorem vs3 {p1 p2 p3 : T → Prop} (h1 : EvT K bx t1 as p1) (h2 : EvT K bx t2 as p2) (h3 : EvT K bx t3 as p3) : EvVs K bx (tCons t1 (tCons t2 (tCons t3 tNil))) as (fun ts => ∃ a b c, ts = [a, b, c] ∧ p1 a ∧ p2 b ∧ p3 c) :=
  vs_consN h1 (vs2 h2 h3) fun x r px ⟨a, b, er, pa, pb⟩ => ⟨x, a, b, by rw [er], px, pa, pb⟩
theorem vs4 {p1 p2 p3 p4 : T → Prop} (h1 : EvT K bx t1 as p1) (h2 : EvT K bx t2 as p2) (h3 : EvT K bx t3 as p3) (h4 : EvT K bx t4 as p4) : EvVs K bx (tCons t1 (tCons t2 (tCons t3 (tCons t4 tNil)))) as (fun ts => ∃ a b c d, ts = [a, b, c, d] ∧ p1 a ∧ p2 b ∧ p3 c ∧ p4 d) :=
  vs_consN h1 (vs3 h2 h3 h4) fun x r px ⟨a, b, c, er, pa, pb, pc⟩ => ⟨x, a, b, c, by rw [er], px, pa, pb, pc⟩
/-- one of two -/
theorem n_pick2 {P : T → Prop} {p1 p2 : T → Prop} {q : Int → Prop} (h1 : EvT K bx t1 as p1) (h2 : EvT K bx t2 as p2) (hi : EvT K bx tb as (PI q)) (hq : ∀ i, q i → i = 0 ∨ i = 1) (k1 : ∀ x, p1 x → P x) (k2 : ∀ x, p2 x → P x) : EvT K bx (tOp (rIxL K) (tLst (tCons t1 (tCons t2 tNil))) tb) as P :=
  n_ixN (n_lst (vs2 h1 h2) (fun ts ⟨a, b, e, _, _⟩ => by rw [e]; simp)) hi fun ts i ⟨a, b, e, pa, pb⟩ qi => by
    subst e
    rcases hq i qi with e | e
    · subst e; exact ⟨a, rfl, k1 a pa⟩
    · subst e; exact ⟨b, rfl, k2 b pb⟩
theorem n_pick3 {P : T → Prop} {p1 p2 p3 : T → Prop} {q : Int → Prop} (h1 : EvT K bx t1 as p1) (h2 : EvT K bx t2 as p2) (h3 : EvT K bx t3 as p3) (hi : EvT K bx tb as (PI q)) (hq : ∀ i, q i → i = 0 ∨ i = 1 ∨ i = 2) (k1 : ∀ x, p1 x → P x) (k2 : ∀ x, p2 x → P x) (k3 : ∀ x, p3 x → P x) : EvT K bx (tOp (rIxL K) (tLst (tCons t1 (tCons t2 (tCons t3 tNil)))) tb) as P :=
  n_ixN (n_lst (vs3 h1 h2 h3) (fun ts ⟨a, b, c, e, _, _⟩ => by rw [e]; simp)) hi fun ts i ⟨a, b, c, e, pa, pb, pc⟩ qi => by
    subst e
    rcases hq i qi with e | e | e
    · subst e; exact ⟨a, rfl, k1 a pa⟩
    · subst e; exact ⟨b, rfl, k2 b pb⟩
    · subst e; exact ⟨c, rfl, k3 c pc⟩
theorem n_sum {p q r : Int → Prop} (h1 : EvT K bx ta as (PI p)) (h2 : EvT K bx tb as (PI q)) (k : ∀ a b, p a → q b → r (a + b)) : EvT K bx (tOp (rI0 fun i j => .int (i + j)) ta tb) as (PI r) := (n_I0 h1 h2).ints fun z ⟨a, b, pa, qb, e⟩ => by rw [e]; exact k a b pa qb
theorem n_divC {p r : Int → Prop} {m : Int} (h1 : EvT K bx ta as (PI p)) (hm : 0 < m ∧ m < 1000) (k : ∀ a, p a → r (a / m)) : EvT K bx (tOp (rI CDiv fun i j => .int (i / j)) ta (tC (.int m))) as (PI r) := (n_I h1 e_int.pi (fun a b _ e => by rw [e]; exact ⟨hm.1, by omega⟩)).ints fun z ⟨a, b, pa, qb, e⟩ => by rw [e, qb]; exact k a pa
end
end K12
namespace K12
open PySem L2 Evl

/-! ### books, levels, the small ones of needs -/
def R_supplied : List Arg → (Res → Prop) → Prop := fun args Pr => ∃ (n : Nat) (k : Books) (i : Nat) (d : Int), (BooksOk n k ∧ i < n) ∧ args = [.t (eBooks k), .t (.int (i : Int)), .t (.int d)] ∧ Pr = fun r => r = .t (.int (supplied k i d))
theorem len_supplied : ∀ args Pr, R_supplied args Pr → args.length = 3 := fun args Pr h => by
  obtain ⟨_, _, _, _, _, rfl, _⟩ := h
  rfl
theorem stock_at {n : Nat} {k : Books} {i : Nat} (h : BooksOk n k) (hi : i < n) : atI (k.stock.map T.int) (i : Int) = some (.int (k.stock.getD i 0)) := by
  refine atI_nat ?_
  rw [List.getElem?_map, List.getElem?_eq_getElem (by rw [h.stock]; exact hi), List.getD_eq_getElem?_getD, List.getElem?_eq_getElem (by rw [h.stock]; exact hi)]
  rfl
theorem ok_supplied {P : Program} {w : World} {K : PySem.W.Frag} {mg : Str → Option Value} {base : Heap} (T : Txt K mg) : FnOk P w K mg base CX0 1 T.supplied.a T.supplied.fd ["books", "item", "day"] (spF K R_supplied) := by
  refine fn_tr T.supplied.F sc_supplied (len_supplied) (fun cdv Ar outer s H E hr => ⟨_, 
    (pss_one (ps_ret (pe_op op_add (pe_ix (ix_tupK K) (pe_ix (ix_tupK K) (pv 0) pe_int (fun _ _ => rfl)) (pv 1) (fun _ _ => rfl)) (pe_callB (cr_sumK K rfl) (by rfl) T.z_sum (by decide +kernel) (pa_cons (pe_lc (own := [("entry", 3)]) (g := gName 3) rfl sc_supplied.nd (pi_tupK K (pe_ix (ix_tupK K) (pv 0) pe_int (fun _ _ => rfl))) (blkOk_by (own := [("entry", 3)]) (N := N_supplied) (sc := defScope s_supplied) (by decide +kernel)) (fun _ _ _ _ _ => (pg_name (i := 3) sc_supplied.nd rfl (Or.inl rfl))) (fun _ _ _ _ _ => (pts_one (PW.pt (pw_and (pt_cmpR op_eq (pe_ix (ix_tupK K) (pv 3) pe_int (fun _ _ => rfl)) (pv 1) (nomark _)) (pw_and1 (pt_cmpR op_le (pe_ix (ix_tupK K) (pv 3) pe_int (fun _ _ => rfl)) (pv 2) (nomark _))))))) (fun _ _ _ _ _ => (pe_ix (ix_tupK K) (pv 3) pe_int (fun _ _ => rfl)))) pa_nil))))), fun bx args Pr h => ?_⟩)
  obtain ⟨n, k, i, d, ⟨hk, hi⟩, rfl, rfl⟩ := h
  refine tr_ret1 (e_I0 (e_ixT (e_ixT (e_var rfl) e_int rfl) (e_var rfl) (stock_at hk hi)) (e_sum (EvN.rd ((lcT_det (enc := eRec) (xs := k.recs) (fun r => decide ((r.1 : Int) = i) && decide (r.2.1 ≤ d)) (fun r => .int r.2.2) (e_ixT (e_var rfl) e_int rfl) (by have := hk.nrec; omega) (by simp)
    fun r _ => ⟨_, gt_name, b_and (b_test (e_eqI (e_ixT (e_var rfl) e_int rfl) (e_var rfl))) (fun _ => b_test (e_B0 (e_ixT (e_var rfl) e_int rfl) (e_var rfl))), fun _ => e_ixT (e_var rfl) e_int rfl⟩).cast ?_)))) rfl
  rw [List.map_map]
  rfl
def R_ordered : List Arg → (Res → Prop) → Prop := fun args Pr => ∃ (n : Nat) (k : Books) (i : Nat) (d : Int), BooksOk n k ∧ args = [.t (eBooks k), .t (.int (i : Int)), .t (.int d)] ∧ Pr = fun r => r = .t (.int (ordered k i d))
theorem len_ordered : ∀ args Pr, R_ordered args Pr → args.length = 3 := fun args Pr h => by
  obtain ⟨_, _, _, _, _, rfl, _⟩ := h
  rfl
theorem ok_ordered {P : Program} {w : World} {K : PySem.W.Frag} {mg : Str → Option Value} {base : Heap} (T : Txt K mg) : FnOk P w K mg base CX0 1 T.ordered.a T.ordered.fd ["books", "item", "day"] (spF K R_ordered) := by
  refine fn_tr T.ordered.F sc_ordered (len_ordered) (fun cdv Ar outer s H E hr => ⟨_, 
    (pss_one (ps_ret (pe_callB (cr_sumK K rfl) (by rfl) T.z_sum (by decide +kernel) (pa_cons (pe_lc (own := [("entry", 3)]) (g := gName 3) rfl sc_ordered.nd (pi_tupK K (pe_ix (ix_tupK K) (pv 0) pe_int (fun _ _ => rfl))) (blkOk_by (own := [("entry", 3)]) (N := N_ordered) (sc := defScope s_ordered) (by decide +kernel)) (fun _ _ _ _ _ => (pg_name (i := 3) sc_ordered.nd rfl (Or.inl rfl))) (fun _ _ _ _ _ => (pts_one (PW.pt (pw_and (pt_cmpR op_eq (pe_ix (ix_tupK K) (pv 3) pe_int (fun _ _ => rfl)) (pv 1) (nomark _)) (pw_and1 (pt_cmpR op_le (pe_ix (ix_tupK K) (pv 3) pe_int (fun _ _ => rfl)) (pv 2) (nomark _))))))) (fun _ _ _ _ _ => (pe_ix (ix_tupK K) (pv 3) pe_int (fun _ _ => rfl)))) pa_nil)))), fun bx args Pr h => ?_⟩)
  obtain ⟨n, k, i, d, hk, rfl, rfl⟩ := h
  refine tr_ret1 (e_sum (EvN.rd ((lcT_det (enc := eOrd) (xs := k.ords) (fun o => decide ((o.2.1 : Int) = i) && decide (o.2.2.2 ≤ d)) (fun o => .int o.2.2.1) (e_ixT (e_var rfl) e_int rfl) (by have := hk.nord; omega) (by simp)
    fun r _ => ⟨_, gt_name, b_and (b_test (e_eqI (e_ixT (e_var rfl) e_int rfl) (e_var rfl))) (fun _ => b_test (e_B0 (e_ixT (e_var rfl) e_int rfl) (e_var rfl))), fun _ => e_ixT (e_var rfl) e_int rfl⟩).cast ?_))) rfl
  rw [List.map_map]
  rfl
theorem item_at {b : Bill} {i : Nat} (hi : i < b.length) : atI (b.map eItem) (i : Int) = some (eItem (itemAt b i)) := by
  refine atI_nat ?_
  rw [List.getElem?_map, List.getElem?_eq_getElem hi]
  unfold itemAt
  rw [List.getD_eq_getElem?_getD, List.getElem?_eq_getElem hi]
  rfl
theorem itemAt_mem {b : Bill} {i : Nat} (hi : i < b.length) : itemAt b i ∈ b := by
  unfold itemAt
  rw [List.getD_eq_getElem?_getD, List.getElem?_eq_getElem hi]
  exact List.getElem_mem hi
theorem BillOk.at_ {b : Bill} (h : BillOk b) {i : Nat} (hi : i < b.length) : ItemOk b.length (itemAt b i) := h.item _ (itemAt_mem hi)
def R_quantity_in : List Arg → (Res → Prop) → Prop := fun args Pr => ∃ (b : Bill) (p i : Nat), (BillOk b ∧ p < b.length) ∧ args = [.t (eBill b), .t (.int (p : Int)), .t (.int (i : Int))] ∧ Pr = fun r => r = .t (.int (qty b p i))
theorem len_quantity_in : ∀ args Pr, R_quantity_in args Pr → args.length = 3 := fun args Pr h => by
  obtain ⟨_, _, _, _, rfl, _⟩ := h
  rfl
theorem ok_quantity_in {P : Program} {w : World} {K : PySem.W.Frag} {mg : Str → Option Value} {base : Heap} (T : Txt K mg) : FnOk P w K mg base CX0 1 T.quantity_in.a T.quantity_in.fd ["bill", "parent", "item"] (spF K R_quantity_in) := by
  refine fn_tr T.quantity_in.F sc_quantity_in (len_quantity_in) (fun cdv Ar outer s H E hr => ⟨_, 
    (pss_one (ps_ret (pe_callB (cr_sumK K rfl) (by rfl) T.z_sum (by decide +kernel) (pa_cons (pe_lc (own := [("part", 3), ("quantity", 4)]) (g := gTup K 2 (gCons (gName 3) (gCons (gName 4) gNil))) rfl sc_quantity_in.nd (pi_tupK K (pe_ix (ix_tupK K) (pe_ix (ix_tupK K) (pv 0) (pv 1) (fun _ _ => rfl)) pe_int (fun _ _ => rfl))) (blkOk_by (own := [("part", 3), ("quantity", 4)]) (N := N_quantity_in) (sc := defScope s_quantity_in) (by decide +kernel)) (fun _ _ _ _ _ => (pg_tupK K (by rfl) (pgs_cons (pg_name (i := 3) sc_quantity_in.nd rfl (Or.inl rfl)) (pgs_cons (pg_name (i := 4) sc_quantity_in.nd rfl (Or.inl rfl)) pgs_nil)))) (fun _ _ _ _ _ => (pts_one (pt_cmpR op_eq (pv 3) (pv 2) (nomark _)))) (fun _ _ _ _ _ => (pv 4))) pa_nil)))), fun bx args Pr h => ?_⟩)
  obtain ⟨b, p, i, ⟨hb, hp⟩, rfl, rfl⟩ := h
  refine tr_ret1 (e_sum (EvN.rd ((lcT_det (enc := ePart) (xs := (itemAt b p).parts) (fun q => decide ((q.1 : Int) = i)) (fun q => .int q.2) (e_ixT (e_ixT (e_var rfl) (e_var rfl) (item_at hp)) e_int rfl) (by have := (hb.at_ hp).few; omega) (by simp)
    fun r _ => ⟨_, gt_tup (gts_cons (gts_cons gts_nil)), b_test (e_eqI (e_var rfl) (e_var rfl)), fun _ => e_var rfl⟩).cast ?_))) rfl
  rw [List.map_map]
  rfl
def R_used_by : List Arg → (Res → Prop) → Prop := fun args Pr => ∃ (b : Bill) (i : Nat), BillOk b ∧ args = [.t (eBill b), .t (.int (i : Int))] ∧ Pr = fun r => r = .n ((users b i).map ePair)
theorem len_used_by : ∀ args Pr, R_used_by args Pr → args.length = 2 := fun args Pr h => by
  obtain ⟨_, _, _, rfl, _⟩ := h
  rfl
def usersTo (b : Bill) (i : Nat) (m : Nat) : List (Nat × Int) := ((List.range m).filter fun p => decide (0 < qty b p i)).map fun p => (p, qty b p i)
theorem usersTo_succ (b : Bill) (i m : Nat) : usersTo b i (m + 1) = if 0 < qty b m i then usersTo b i m ++ [(m, qty b m i)] else usersTo b i m := by
  unfold usersTo
  rw [List.range_succ, List.filter_append, List.map_append, List.filter_cons]
  by_cases h : 0 < qty b m i
  · rw [if_pos h, if_pos (decide_eq_true h)]; rfl
  · rw [if_neg h, if_neg (by simpa using h)]
    exact List.append_nil _
theorem usersTo_len (b : Bill) (i m : Nat) : (usersTo b i m).length ≤ m := by
  unfold usersTo
  rw [List.length_map]
  have h := List.length_filter_le (fun p => decide (0 < qty b p i)) (List.range m)
  rwa [List.length_range] at h
theorem ok_used_by {P : Program} {w : World} {K : PySem.W.Frag} {mg : Str → Option Value} {base : Heap} (T : Txt K mg) : FnOk P w K mg base CX0 2 T.used_by.a T.used_by.fd ["bill", "item"] (spF K R_used_by) := by
  refine fn_tr T.used_by.F sc_used_by (len_used_by) (fun cdv Ar outer s H E hr => ⟨_, 
    (pss_cons (ps_set (i := 2) sc_used_by.nd rfl (Or.inl rfl) (pe_lst pa_nil))
    (pss_cons (ps_for PassesOwn.never rfl (pi_range1 (by rfl) T.z_range (pa_cons (pe_callB (call_lenK K) (by rfl) T.z_len PySem.boot_len (pa_cons (pv 0) pa_nil)) pa_nil)) (pg_name (i := 3) sc_used_by.nd rfl (Or.inl rfl)) 
      (pss_cons (ps_set (i := 4) sc_used_by.nd rfl (Or.inl rfl) (pe_call (ok_quantity_in T) (hr.mono (by decide)) (by rfl) T.quantity_in.m T.quantity_in.F.kp T.quantity_in.b .nil pass0 (pa_cons (pv 0) (pa_cons (pv 3) (pa_cons (pv 1) pa_nil)))))
      (pss_one (ps_if (pt_cmpR op_gt (pv 4) pe_int (nomark _)) 
        (pss_one (ps_expr (pe_bmK K (pe_bm PySem.F.plainAttrs_list PySem.F.slot_list_append PySem.F.type_list_append mt_append (pv 2) (pa_cons (pe_tup (pa_cons (pv 3) (pa_cons (pv 4) pa_nil))) pa_nil))))) pss_nil))))
    (pss_one (ps_ret (pv 2))))), fun bx args Pr h => ?_⟩)
  obtain ⟨b, i, hb, rfl, rfl⟩ := h
  refine q_asgN1 n_nil fun l => ?_
  refine tr_seq (M := fun as' => ∃ u v, as' = [.t (eBill b), .t (.int (i : Int)), .o l ((users b i).map ePair), u, v]) (tr_rangeD (n := b.length) (vs_cons ((e_lenT (e_var rfl)).cast (by rw [List.length_map])) vs_nil) (by have := hb.n6; omega)
    (fun m as' => ∃ u v, as' = [.t (eBill b), .t (.int (i : Int)), .o l ((usersTo b i m).map ePair), u, v]) ⟨_, _, rfl⟩ ?_ ?_) ?_
  · rintro m as' hm ⟨u, v, rfl⟩
    refine q_asg1 (e_call (a_cons (e_var rfl) (a_cons (e_var rfl) (a_cons (e_var rfl) a_nil))) ⟨b, m, i, ⟨hb, hm⟩, rfl, rfl⟩) ?_
    refine tr_if1 (b_test (e_B0 (e_var rfl) e_int)) (fun c => ?_) (fun c => ?_)
    · refine tr_app1 (x := ePair (m, qty b m i)) rfl (e_tup (vs_cons (e_var rfl) (vs_cons (e_var rfl) vs_nil))) ?_ ⟨.t (.int (m : Int)), .t (.int (qty b m i)), ?_⟩
      · have := usersTo_len b i m; have := hb.n6; rw [List.length_map]; omega
      · rw [usersTo_succ, if_pos (of_decide_eq_true c), List.map_append]; rfl
    · refine tr_next ⟨.t (.int (m : Int)), .t (.int (qty b m i)), ?_⟩
      rw [usersTo_succ, if_neg (of_decide_eq_false c)]; rfl
  · rintro as' ⟨u, v, rfl⟩
    exact ⟨u, v, rfl⟩
  · rintro as' ⟨u, v, rfl⟩
    exact tr_retO rfl rfl
def R_rounded_up : List Arg → (Res → Prop) → Prop := fun args Pr => ∃ (m g : Int), (0 < g ∧ g < 1000) ∧ args = [.t (.int m), .t (.int g)] ∧ Pr = fun r => r = .t (.int (ceilDiv m g))
theorem len_rounded_up : ∀ args Pr, R_rounded_up args Pr → args.length = 2 := fun args Pr h => by
  obtain ⟨_, _, _, rfl, _⟩ := h
  rfl
theorem ok_rounded_up {P : Program} {w : World} {K : PySem.W.Frag} {mg : Str → Option Value} {base : Heap} (T : Txt K mg) : FnOk P w K mg base CX0 1 T.rounded_up.a T.rounded_up.fd ["number", "divisor"] (spF K R_rounded_up) := by
  refine fn_tr T.rounded_up.F sc_rounded_up (len_rounded_up) (fun cdv Ar outer s H E hr => ⟨_, 
    (pss_one (ps_ret (pe_un un_neg (pe_op op_fdiv (pe_un un_neg (pv 0)) (pv 1))))), fun bx args Pr h => ?_⟩)
  obtain ⟨m, g, ⟨h1, h2⟩, rfl, rfl⟩ := h
  exact tr_ret1 (e_neg (e_I (e_neg (e_var rfl)) (e_var rfl) ⟨h1, by omega⟩)) rfl
def R__lots_at : List Arg → (Res → Prop) → Prop := fun args Pr => ∃ (r : Rows) (d : Int), True ∧ args = [.t (eRows r), .t (.int d)] ∧ Pr = fun z => z = .t (.int (lotsAt r d))
theorem len__lots_at : ∀ args Pr, R__lots_at args Pr → args.length = 2 := fun args Pr h => by
  obtain ⟨_, _, _, rfl, _⟩ := h
  rfl
theorem ok__lots_at {P : Program} {w : World} {K : PySem.W.Frag} {mg : Str → Option Value} {base : Heap} (T : Txt K mg) : FnOk P w K mg base CX0 1 T._lots_at.a T._lots_at.fd ["rows", "day"] (spF K R__lots_at) := by
  refine fn_tr T._lots_at.F sc__lots_at (len__lots_at) (fun cdv Ar outer s H E hr => ⟨_, 
    (pss_cons (ps_set (i := 2) sc__lots_at.nd rfl (Or.inl rfl) pe_int)
    (pss_cons (ps_for PassesOwn.never rfl (pi_tupK K (pv 0)) (pg_tupK K (by rfl) (pgs_cons (pg_name (i := 3) sc__lots_at.nd rfl (Or.inl rfl)) (pgs_cons (pg_name (i := 4) sc__lots_at.nd rfl (Or.inl rfl)) pgs_nil))) 
      (pss_one (ps_if (pt_cmpR op_le (pv 3) (pv 1) (nomark _)) 
        (pss_one (ps_set (i := 2) sc__lots_at.nd rfl (Or.inl rfl) (pv 4))) pss_nil)))
    (pss_one (ps_ret (pv 2))))), fun bx args Pr h => ?_⟩)
  obtain ⟨r, d, _, rfl, rfl⟩ := h
  refine q_asg1 e_int ?_
  refine tr_seq (M := fun as' => ∃ u v, as' = [.t (eRows r), .t (.int d), .t (.int (lotsAt r d)), u, v]) (tr_forT (enc := eRow) (xs := r) (e_var rfl) (fun done as' => ∃ u v, as' = [.t (eRows r), .t (.int d), .t (.int (lotsAt done d)), u, v]) ⟨_, _, rfl⟩ ?_ ?_) ?_
  · rintro done x rest as' _ ⟨u, v, rfl⟩
    refine ⟨_, _, gt_tup (gts_cons (gts_cons gts_nil)), tr_if1 (b_test (e_B0 (e_var rfl) (e_var rfl))) (fun c => ?_) (fun c => ?_)⟩
    · refine tr_asg1 (e_var rfl) ⟨.t (.int x.1), .t (.int x.2), ?_⟩
      rw [lotsAt_app, if_pos (of_decide_eq_true c)]; rfl
    · refine tr_next ⟨.t (.int x.1), .t (.int x.2), ?_⟩
      rw [lotsAt_app, if_neg (of_decide_eq_false c)]; rfl
  · rintro as' ⟨u, v, rfl⟩
    exact ⟨u, v, rfl⟩
  · rintro as' ⟨u, v, rfl⟩
    exact tr_ret1 (e_var rfl) rfl
end K12
namespace K12
open PySem L2 Evl

/-! ### the order, the days, what is taken, the rows, the needs -/
def R_parents_first : List Arg → (Res → Prop) → Prop := fun args Pr => ∃ (b : Bill), BillOk b ∧ args = [.t (eBill b)] ∧ Pr = fun r => r = .t (.tup ((order b).map eNat))
theorem len_parents_first : ∀ args Pr, R_parents_first args Pr → args.length = 1 := fun args Pr h => by
  obtain ⟨_, _, rfl, _⟩ := h
  rfl
theorem find_range {p : Nat → Bool} {m : Nat} (h : p m = true) (h0 : ∀ q, q < m → p q = false) : ∀ n, m < n → (List.range n).find? p = some m
  | n + 1, hn => by
    rw [List.range_succ, List.find?_append]
    by_cases e : m = n
    · subst e
      rw [List.find?_eq_none.mpr (fun x hx => by rw [h0 x (List.mem_range.mp hx)]; decide), List.find?_cons_of_pos h]
      rfl
    · rw [find_range h h0 n (by omega)]
      rfl
theorem all_users (b : Bill) (taken : List Nat) (i : Nat) : (((users b i).map fun u => taken.contains u.1).all id) = (users b i).all fun u => taken.contains u.1 := by
  rw [List.all_map]
  rfl
theorem ok_parents_first {P : Program} {w : World} {K : PySem.W.Frag} {mg : Str → Option Value} {base : Heap} (T : Txt K mg) : FnOk P w K mg base CX0 3 T.parents_first.a T.parents_first.fd ["bill"] (spF K R_parents_first) := by
  refine fn_tr T.parents_first.F sc_parents_first (len_parents_first) (fun cdv Ar outer s H E hr => ⟨_, 
    (pss_cons (ps_set (i := 1) sc_parents_first.nd rfl (Or.inr rfl) (pe_lst pa_nil))
    (pss_cons (ps_while PassesOwn.never (pt_cmpR op_lt (pe_callB (call_lenK K) (by rfl) T.z_len PySem.boot_len (pa_cons (pv 1) pa_nil)) (pe_callB (call_lenK K) (by rfl) T.z_len PySem.boot_len (pa_cons (pv 0) pa_nil)) (nomark _)) 
      (pss_one (ps_for PassesOwn.never rfl (pi_range1 (by rfl) T.z_range (pa_cons (pe_callB (call_lenK K) (by rfl) T.z_len PySem.boot_len (pa_cons (pv 0) pa_nil)) pa_nil)) (pg_name (i := 2) sc_parents_first.nd rfl (Or.inl rfl)) 
        (pss_one (ps_if (PW.pt (pw_and (pt_cmpR (op_notIn_seqK K) (pv 2) (pv 1) (by rfl)) (pw_and1 (pt_val (pe_callB (cr_allK K rfl) (by rfl) T.z_all (by decide +kernel) (pa_cons (pe_lc (own := [("pair", 3)]) (g := gName 3) (tt := tYes) rfl sc_parents_first.nd (pi_listK K (pe_call (ok_used_by T) (hr.mono (by decide)) (by rfl) T.used_by.m T.used_by.F.kp T.used_by.b .nil pass0 (pa_cons (pv 0) (pa_cons (pv 2) pa_nil)))) (blkOk_by (own := [("pair", 3)]) (N := N_parents_first) (sc := defScope s_parents_first) (by decide +kernel)) (fun _ _ _ _ _ => (pg_name (i := 3) sc_parents_first.nd rfl (Or.inl rfl))) (fun _ _ _ _ _ => pts_nil) (fun _ _ _ _ _ => (pe_cmpR (op_in_seqK K) (pe_ix (ix_tupK K) (pv 3) pe_int (fun _ _ => rfl)) (pv 1) (by rfl)))) pa_nil)))))) 
          (pss_cons (ps_expr (pe_bmK K (pe_bm PySem.F.plainAttrs_list PySem.F.slot_list_append PySem.F.type_list_append mt_append (pv 1) (pa_cons (pv 2) pa_nil))))
          (pss_one ps_break)) pss_nil)))))
    (pss_one (ps_ret (pe_callTy (call_tupleK K) (by rfl) T.z_tuple (by decide +kernel) (pa_cons (pv 1) pa_nil)))))), fun bx args Pr h => ?_⟩)
  obtain ⟨b, hb, rfl, rfl⟩ := h
  refine q_asgN1 n_nil fun l => ?_
  have n6 := hb.n6
  refine tr_seq (M := fun as' => ∃ u, as' = [.t (eBill b), .o l ((order b).map eNat), u, .x]) (tr_while (fun m as' => ∃ (j : Nat) (u : A), j + m = b.length ∧ as' = [.t (eBill b), .o l ((orderN b j).map eNat), u, .x]) b.length ⟨0, .x, by omega, rfl⟩ ?_) ?_
  · rintro m as' ⟨j, u, hj, rfl⟩
    have hl := orderN_len hb j (by omega)
    refine ⟨decide (((((orderN b j).map eNat).length : Nat) : Int) < ((b.map eItem).length : Nat)), b_test (e_B0 (e_len (r_varO rfl)) (e_lenT (e_var rfl))), fun c => ?_, fun c => ?_⟩
    · have c' := of_decide_eq_true c
      rw [List.length_map, List.length_map, hl] at c'
      refine tr_rangeD (n := b.length) (vs_cons ((e_lenT (e_var rfl)).cast (by rw [List.length_map])) vs_nil) (by omega) (fun q as' => ∃ u, as' = [.t (eBill b), .o l ((orderN b j).map eNat), u, .x] ∧ ∀ z, z < q → nextOk b (orderN b j) z = false) ⟨_, rfl, fun z hz => absurd hz (Nat.not_lt_zero z)⟩ ?_ ?_
      · rintro q as' hq ⟨u, rfl, h0⟩
        refine tr_if1 (b := nextOk b (orderN b j) q) ((b_and (b := (users b q).all fun u => (orderN b j).contains u.1) (b_test (e_inN (neg := true) (e_var rfl) (r_varO rfl)))
          (fun _ => b_B (Ev1.cast (e_all (ns := (users b q).map fun u => (orderN b j).contains u.1) (EvN.rd (EvN1.cast (lcR_map (enc := ePair) (xs := users b q) (fun u => .bl ((orderN b j).contains u.1)) (EvN.rd (n_call1 (a_cons (e_var rfl) (a_cons (e_var rfl) a_nil)) ⟨b, q, hb, rfl, rfl⟩)) (by have := users_len b q; omega) (by simp)
            fun u _ => ⟨_, gt_name, e_inN (neg := false) (e_ixT (e_var rfl) e_int rfl) (r_varO rfl)⟩) (by rw [List.map_map]; rfl)))) (congrArg _ (all_users b _ q))))).cast rfl) (fun c => ?_) (fun c => ?_)
        · have e : nextItem b (orderN b j) = some q := find_range c h0 _ hq
          refine tr_seq (M := fun as' => as' = [.t (eBill b), .o l ((orderN b (j + 1)).map eNat), .t (.int (q : Int)), .x]) (tr_app1 (x := eNat q) rfl (e_var rfl) (by rw [List.length_map, hl]; omega) ?_) ?_
          · rw [orderN_succ e, List.map_append]; rfl
          · rintro as' rfl
            exact tr_break ⟨m - 1, by omega, j + 1, _, by omega, rfl⟩
        · refine tr_next ⟨_, rfl, fun z hz => ?_⟩
          by_cases e : z = q
          · rw [e]; exact c
          · exact h0 z (by omega)
      · rintro as' ⟨u, rfl, h0⟩
        obtain ⟨i, e⟩ := next_some hb (taken := orderN b j) (by omega)
        have ok := List.find?_some (show (List.range b.length).find? (nextOk b (orderN b j)) = some i from e)
        rw [h0 i (next_ok e).1] at ok
        cases ok
    · have c' := of_decide_eq_false c
      rw [List.length_map, List.length_map, hl] at c'
      have : j = b.length := by omega
      subst this
      exact ⟨u, rfl⟩
  · rintro as' ⟨u, rfl⟩
    exact tr_ret1 (e_tuple (r_varO rfl)) rfl
def R__days_of : List Arg → (Res → Prop) → Prop := fun args Pr => ∃ (b : Bill) (k : Books) (f : List Rows) (i : Nat), (BillOk b ∧ BooksOk b.length k ∧ FOk b f) ∧ args = [.t (eBill b), .t (eBooks k), .r (f.map eRows), .t (.int (i : Int))] ∧ Pr = fun r => r = .n ((daysOf b k f i).map .int)
theorem len__days_of : ∀ args Pr, R__days_of args Pr → args.length = 4 := fun args Pr h => by
  obtain ⟨_, _, _, _, _, rfl, _⟩ := h
  rfl
theorem rows_at {b : Bill} {f : List Rows} (hf : FOk b f) {p : Nat} (hp : p < b.length) : atI (f.map eRows) (p : Int) = some (eRows (f.getD p [])) := by
  refine atI_nat ?_
  have hl : p < f.length := by rw [hf.len]; exact hp
  rw [List.getElem?_map, List.getElem?_eq_getElem hl, List.getD_eq_getElem?_getD, List.getElem?_eq_getElem hl]
  rfl
theorem flat_len {b : Bill} {f : List Rows} (hf : FOk b f) : ∀ us : List (Nat × Int), (us.flatMap fun u => (f.getD u.1 []).map fun r => r.1).length ≤ 130 * us.length
  | [] => Nat.zero_le _
  | u :: us => by
    have := flat_len hf us
    have := hf.few u.1
    rw [List.flatMap_cons, List.length_append, List.length_map, List.length_cons]
    omega
theorem ok__days_of {P : Program} {w : World} {K : PySem.W.Frag} {mg : Str → Option Value} {base : Heap} (T : Txt K mg) : FnOk P w K mg base CX0 3 T._days_of.a T._days_of.fd ["bill", "books", "found", "item"] (spF K R__days_of) := by
  refine fn_tr T._days_of.F sc__days_of (len__days_of) (fun cdv Ar outer s H E hr => ⟨_, 
    (pss_cons (ps_setLc (i := 4) (own := [("order", 7)]) (g := gName 7) rfl sc__days_of.nd rfl rfl (sw_true rfl rfl rfl (by decide +kernel)) (pi_tupK K (pe_ix (ix_tupK K) (pv 1) pe_int (fun _ _ => rfl))) (blkOk_by (own := [("order", 7)]) (N := N__days_of) (sc := defScope s__days_of) (by decide +kernel)) (fun _ _ _ _ _ => (pg_name (i := 7) sc__days_of.nd rfl (Or.inl rfl))) (fun _ _ _ _ _ => (pts_one (pt_cmpR op_eq (pe_ix (ix_tupK K) (pv 7) pe_int (fun _ _ => rfl)) (pv 3) (nomark _)))) (fun _ _ _ _ _ => (pe_ix (ix_tupK K) (pv 7) pe_int (fun _ _ => rfl))))
    (pss_cons (ps_for PassesOwn.never rfl (pi_listK K (pe_call (ok_used_by T) (hr.mono (by decide)) (by rfl) T.used_by.m T.used_by.F.kp T.used_by.b .nil pass0 (pa_cons (pv 0) (pa_cons (pv 3) pa_nil)))) (pg_tupK K (by rfl) (pgs_cons (pg_name (i := 5) sc__days_of.nd rfl (Or.inl rfl)) (pgs_cons (pg_name (i := 6) sc__days_of.nd rfl (Or.inl rfl)) pgs_nil))) 
      (pss_one (ps_expr (pe_bmK K (pe_bm PySem.F.plainAttrs_list PySem.F.slot_list_extend PySem.F.type_list_extend mt_extend (pv 4) (pa_cons (pe_lc (own := [("row", 8)]) (g := gName 8) (tt := tYes) rfl sc__days_of.nd (pi_tupK K (pe_ix (ix_listK K) (pv 2) (pv 5) (fun _ _ => rfl))) (blkOk_by (own := [("row", 8)]) (N := N__days_of) (sc := defScope s__days_of) (by decide +kernel)) (fun _ _ _ _ _ => (pg_name (i := 8) sc__days_of.nd rfl (Or.inl rfl))) (fun _ _ _ _ _ => pts_nil) (fun _ _ _ _ _ => (pe_ix (ix_tupK K) (pv 8) pe_int (fun _ _ => rfl)))) pa_nil))))))
    (pss_one (ps_ret (pe_callB (cr_sortedK K) (by rfl) T.z_sorted (by decide +kernel) (pa_cons (pv 4) pa_nil)))))), fun bx args Pr h => ?_⟩)
  obtain ⟨b, k, f, i, ⟨hb, hk, hf⟩, rfl, rfl⟩ := h
  have n6 := hb.n6
  have no := hk.nord
  refine q_asgN1 ((lcT_det (enc := eOrd) (xs := k.ords) (fun o => decide ((o.2.1 : Int) = i)) (fun o => .int o.2.2.2) (e_ixT (e_var rfl) e_int rfl) (by omega) (by simp)
    fun r _ => ⟨_, gt_name, b_test (e_eqI (e_ixT (e_var rfl) e_int rfl) (e_var rfl)), fun _ => e_ixT (e_var rfl) e_int rfl⟩)) fun l => ?_
  have nf := List.length_filter_le (fun o : Int × Nat × Int × Int => decide ((o.2.1 : Int) = i)) k.ords
  refine tr_seq (M := fun as' => ∃ u v, as' = [.t (eBill b), .t (eBooks k), .l (f.map eRows), .t (.int (i : Int)), .o l ((daysRaw b k f i).map .int), u, v, .x, .x]) (tr_forN (enc := ePair) (xs := users b i) (n_call1 (a_cons (e_var rfl) (a_cons (e_var rfl) a_nil)) ⟨b, i, hb, rfl, rfl⟩)
    (fun done as' => ∃ u v, as' = [.t (eBill b), .t (eBooks k), .l (f.map eRows), .t (.int (i : Int)), .o l ((((k.ords.filter fun o => decide ((o.2.1 : Int) = i)).map fun o => o.2.2.2) ++ done.flatMap fun u => (f.getD u.1 []).map fun r => r.1).map .int), u, v, .x, .x]) ⟨.x, .x, ?_⟩ ?_ ?_) ?_
  · rw [List.flatMap_nil, List.append_nil, List.map_map]; rfl
  · rintro done u rest as' e ⟨v, w, rfl⟩
    have hu : u ∈ users b i := by rw [e]; simp
    have hp := (users_mem hu).1
    have ul := users_len b i
    have dl : done.length ≤ b.length := by rw [e, List.length_append] at ul; omega
    refine ⟨_, _, gt_tup (gts_cons (gts_cons gts_nil)), tr_ext rfl ((lcT_map (enc := eRow) (xs := f.getD u.1 []) (fun r => .int r.1) (e_ixL (r_varL rfl) (e_var rfl) (rows_at hf hp)) (by have := hf.few u.1; omega) (by simp)
      fun r _ => ⟨_, gt_name, e_ixT (e_var rfl) e_int rfl⟩)) ?_ ⟨.t (.int (u.1 : Int)), .t (.int u.2), ?_⟩⟩
    · have := flat_len hf done
      have := hf.few u.1
      rw [List.length_map, List.length_append, List.length_map, List.length_map]
      omega
    · rw [List.flatMap_append, List.flatMap_cons, List.flatMap_nil, List.append_nil, ← List.append_assoc, List.map_append (l₁ := _ ++ _), List.map_map (l := f.getD u.1 [])]
      rfl
  · rintro as' ⟨u, v, rfl⟩
    exact ⟨u, v, rfl⟩
  · rintro as' ⟨u, v, rfl⟩
    refine tr_retN (n_sorted (r_varO rfl)) fun ts ⟨ns, e, h1, h2⟩ => ?_
    show Res.n ts = _
    rw [e, riseI_uniq h1 h2]
    rfl
def R__taken : List Arg → (Res → Prop) → Prop := fun args Pr => ∃ (b : Bill) (k : Books) (f : List Rows) (i : Nat) (d : Int), (BillOk b ∧ BooksOk b.length k ∧ FOk b f) ∧ args = [.t (eBill b), .t (eBooks k), .r (f.map eRows), .t (.int (i : Int)), .t (.int d)] ∧ Pr = fun r => r = .t (.int (taken b k f i d))
theorem len__taken : ∀ args Pr, R__taken args Pr → args.length = 5 := fun args Pr h => by
  obtain ⟨_, _, _, _, _, _, rfl, _⟩ := h
  rfl
theorem user_mul {b : Bill} (hb : BillOk b) {i : Nat} {u : Nat × Int} (hu : u ∈ users b i) : CMul u.2 (itemAt b u.1).lot ∧ ∀ z, CMul (u.2 * (itemAt b u.1).lot) z := by
  obtain ⟨h1, h2, h3⟩ := users_mem hu
  have q := qty_le hb (p := u.1) (i := i) h1
  obtain ⟨l1, l2⟩ := (hb.at_ h1).lot
  rw [h3]
  have m1 : 0 ≤ qty b u.1 i * (itemAt b u.1).lot := Int.mul_nonneg (by omega) (by omega)
  have m2 : qty b u.1 i * (itemAt b u.1).lot ≤ 80 * 50 := Int.mul_le_mul q l2 (by omega) (by omega)
  exact ⟨.inl ⟨by omega, by omega⟩, fun z => .inl ⟨by omega, by omega⟩⟩
theorem ok__taken {P : Program} {w : World} {K : PySem.W.Frag} {mg : Str → Option Value} {base : Heap} (T : Txt K mg) : FnOk P w K mg base CX0 3 T._taken.a T._taken.fd ["bill", "books", "found", "item", "day"] (spF K R__taken) := by
  refine fn_tr T._taken.F sc__taken (len__taken) (fun cdv Ar outer s H E hr => ⟨_, 
    (pss_cons (ps_set (i := 5) sc__taken.nd rfl (Or.inl rfl) (pe_call (ok_ordered T) (hr.mono (by decide)) (by rfl) T.ordered.m T.ordered.F.kp T.ordered.b .nil pass0 (pa_cons (pv 1) (pa_cons (pv 3) (pa_cons (pv 4) pa_nil)))))
    (pss_cons (ps_for PassesOwn.never rfl (pi_listK K (pe_call (ok_used_by T) (hr.mono (by decide)) (by rfl) T.used_by.m T.used_by.F.kp T.used_by.b .nil pass0 (pa_cons (pv 0) (pa_cons (pv 3) pa_nil)))) (pg_tupK K (by rfl) (pgs_cons (pg_name (i := 6) sc__taken.nd rfl (Or.inl rfl)) (pgs_cons (pg_name (i := 7) sc__taken.nd rfl (Or.inl rfl)) pgs_nil))) 
      (pss_one (ps_aug (i := 5) sc__taken.nd rfl (Or.inl rfl) (pe_op op_mul (pe_op op_mul (pv 7) (pe_ix (ix_tupK K) (pe_ix (ix_tupK K) (pv 0) (pv 6) (fun _ _ => rfl)) pe_int (fun _ _ => rfl))) (pe_call (ok__lots_at T) (hr.mono (by decide)) (by rfl) T._lots_at.m T._lots_at.F.kp T._lots_at.b .nil pass0 (pa_cons (pe_ix (ix_listK K) (pv 2) (pv 6) (fun _ _ => rfl)) (pa_cons (pv 4) pa_nil)))) ip_add)))
    (pss_one (ps_ret (pv 5))))), fun bx args Pr h => ?_⟩)
  obtain ⟨b, k, f, i, d, ⟨hb, hk, hf⟩, rfl, rfl⟩ := h
  have n6 := hb.n6
  refine q_asg1 (e_call (a_cons (e_var rfl) (a_cons (e_var rfl) (a_cons (e_var rfl) a_nil))) ⟨b.length, k, i, d, hk, rfl, rfl⟩) ?_
  refine tr_seq (M := fun as' => ∃ u v, as' = [.t (eBill b), .t (eBooks k), .l (f.map eRows), .t (.int (i : Int)), .t (.int d), .t (.int (taken b k f i d)), u, v]) (tr_forN (enc := ePair) (xs := users b i) (n_call1 (a_cons (e_var rfl) (a_cons (e_var rfl) a_nil)) ⟨b, i, hb, rfl, rfl⟩)
    (fun done as' => ∃ u v, as' = [.t (eBill b), .t (eBooks k), .l (f.map eRows), .t (.int (i : Int)), .t (.int d), .t (.int (done.foldl (fun t u => t + u.2 * (itemAt b u.1).lot * lotsAt (f.getD u.1 []) d) (ordered k i d))), u, v]) ⟨.x, .x, rfl⟩ ?_ ?_) ?_
  · rintro done u rest as' e ⟨v, w, rfl⟩
    have hu : u ∈ users b i := by rw [e]; simp
    have hp := (users_mem hu).1
    obtain ⟨c1, c2⟩ := user_mul hb hu
    refine ⟨_, _, gt_tup (gts_cons (gts_cons gts_nil)), tr_aug rfl (e_I (e_I (e_var rfl) (e_ixT (e_ixT (e_var rfl) (e_var rfl) (item_at hp)) e_int rfl) c1)
      (e_call (a_cons (e_ixL (r_varL rfl) (e_var rfl) (rows_at hf hp)) (a_cons (e_var rfl) a_nil)) ⟨f.getD u.1 [], d, trivial, rfl, rfl⟩) (c2 _)) ⟨.t (.int (u.1 : Int)), .t (.int u.2), ?_⟩⟩
    rw [List.foldl_append]
    rfl
  · rintro as' ⟨u, v, rfl⟩
    exact ⟨u, v, rfl⟩
  · rintro as' ⟨u, v, rfl⟩
    exact tr_ret1 (e_var rfl) rfl
def R_rows_of : List Arg → (Res → Prop) → Prop := fun args Pr => ∃ (b : Bill) (k : Books) (f : List Rows) (i : Nat), (BillOk b ∧ BooksOk b.length k ∧ FOk b f ∧ i < b.length) ∧ args = [.t (eBill b), .t (eBooks k), .r (f.map eRows), .t (.int (i : Int))] ∧ Pr = fun r => r = .t (eRows (rowsOf b k f i))
theorem len_rows_of : ∀ args Pr, R_rows_of args Pr → args.length = 4 := fun args Pr h => by
  obtain ⟨_, _, _, _, _, rfl, _⟩ := h
  rfl
theorem steps_len {b : Bill} {k : Books} {f : List Rows} {i : Nat} : ∀ (ds : List Int) (s : Int × Rows), (ds.foldl (rowsStep b k f i) s).2.length ≤ s.2.length + ds.length
  | [], s => Nat.le_refl _
  | d :: ds, s => by
    rw [List.foldl_cons]
    have h := steps_len (b := b) (k := k) (f := f) (i := i) ds (rowsStep b k f i s d)
    have h2 : (rowsStep b k f i s d).2.length ≤ s.2.length + 1 := by
      unfold rowsStep
      dsimp only
      split
      · rw [List.length_append]; exact Nat.le_refl _
      · omega
    rw [List.length_cons]
    omega
theorem days_len {b : Bill} (hb : BillOk b) {k : Books} (hk : BooksOk b.length k) {f : List Rows} (hf : FOk b f) (i : Nat) : (daysOf b k f i).length ≤ 1000 := by
  unfold daysOf
  rw [riseI_perm.length_eq]
  unfold daysRaw
  have h1 := flat_len hf (users b i)
  have h2 := users_len b i
  have h3 := hb.n6
  have h4 := List.length_filter_le (fun o : Int × Nat × Int × Int => decide ((o.2.1 : Int) = i)) k.ords
  have h5 := hk.nord
  rw [List.length_append, List.length_map]
  omega
theorem ok_rows_of {P : Program} {w : World} {K : PySem.W.Frag} {mg : Str → Option Value} {base : Heap} (T : Txt K mg) : FnOk P w K mg base CX0 4 T.rows_of.a T.rows_of.fd ["bill", "books", "found", "item"] (spF K R_rows_of) := by
  refine fn_tr T.rows_of.F sc_rows_of (len_rows_of) (fun cdv Ar outer s H E hr => ⟨_, 
    (pss_cons (ps_set (i := 4) sc_rows_of.nd rfl (Or.inl rfl) (pe_lst pa_nil))
    (pss_cons (ps_set (i := 5) sc_rows_of.nd rfl (Or.inl rfl) pe_int)
    (pss_cons (ps_for PassesOwn.never rfl (pi_listK K (pe_call (ok__days_of T) (hr.mono (by decide)) (by rfl) T._days_of.m T._days_of.F.kp T._days_of.b .nil pass0 (pa_cons (pv 0) (pa_cons (pv 1) (pa_cons (pv 2) (pa_cons (pv 3) pa_nil)))))) (pg_name (i := 6) sc_rows_of.nd rfl (Or.inl rfl)) 
      (pss_cons (ps_set (i := 7) sc_rows_of.nd rfl (Or.inl rfl) (pe_op op_sub (pe_call (ok__taken T) (hr.mono (by decide)) (by rfl) T._taken.m T._taken.F.kp T._taken.b .nil pass0 (pa_cons (pv 0) (pa_cons (pv 1) (pa_cons (pv 2) (pa_cons (pv 3) (pa_cons (pv 6) pa_nil)))))) (pe_call (ok_supplied T) (hr.mono (by decide)) (by rfl) T.supplied.m T.supplied.F.kp T.supplied.b .nil pass0 (pa_cons (pv 1) (pa_cons (pv 3) (pa_cons (pv 6) pa_nil))))))
      (pss_cons (ps_set (i := 8) sc_rows_of.nd rfl (Or.inl rfl) (pe_call (ok_rounded_up T) (hr.mono (by decide)) (by rfl) T.rounded_up.m T.rounded_up.F.kp T.rounded_up.b .nil pass0 (pa_cons (pv 7) (pa_cons (pe_ix (ix_tupK K) (pe_ix (ix_tupK K) (pv 0) (pv 3) (fun _ _ => rfl)) pe_int (fun _ _ => rfl)) pa_nil))))
      (pss_one (ps_if (pt_cmpR op_gt (pv 8) (pv 5) (nomark _)) 
        (pss_cons (ps_set (i := 5) sc_rows_of.nd rfl (Or.inl rfl) (pv 8))
        (pss_one (ps_expr (pe_bmK K (pe_bm PySem.F.plainAttrs_list PySem.F.slot_list_append PySem.F.type_list_append mt_append (pv 4) (pa_cons (pe_tup (pa_cons (pe_op op_sub (pv 6) (pe_ix (ix_tupK K) (pe_ix (ix_tupK K) (pv 0) (pv 3) (fun _ _ => rfl)) pe_int (fun _ _ => rfl))) (pa_cons (pv 5) pa_nil))) pa_nil)))))) pss_nil)))))
    (pss_one (ps_ret (pe_callTy (call_tupleK K) (by rfl) T.z_tuple (by decide +kernel) (pa_cons (pv 4) pa_nil))))))), fun bx args Pr h => ?_⟩)
  obtain ⟨b, k, f, i, ⟨hb, hk, hf, hi⟩, rfl, rfl⟩ := h
  have io := hb.at_ hi
  refine q_asgN1 n_nil fun l => q_asg1 e_int ?_
  refine tr_seq (M := fun as' => ∃ u v w, as' = [.t (eBill b), .t (eBooks k), .l (f.map eRows), .t (.int (i : Int)), .o l ((rowsOf b k f i).map eRow), .t (.int ((daysOf b k f i).foldl (rowsStep b k f i) (0, [])).1), u, v, w]) (tr_forN (enc := .int) (xs := daysOf b k f i) (n_call1 (a_cons (e_var rfl) (a_cons (e_var rfl) (a_consR (r_varL rfl) (a_cons (e_var rfl) a_nil)))) ⟨b, k, f, i, ⟨hb, hk, hf⟩, rfl, rfl⟩)
    (fun done as' => ∃ u v w, as' = [.t (eBill b), .t (eBooks k), .l (f.map eRows), .t (.int (i : Int)), .o l ((done.foldl (rowsStep b k f i) (0, [])).2.map eRow), .t (.int (done.foldl (rowsStep b k f i) (0, [])).1), u, v, w]) ⟨.x, .x, .x, rfl⟩ ?_ ?_) ?_
  · rintro done d rest as' e ⟨u, v, w, rfl⟩
    have dl : done.length ≤ 1000 := by
      have := days_len hb hk hf i
      rw [e, List.length_append] at this
      omega
    have sl := steps_len (b := b) (k := k) (f := f) (i := i) done (0, [])
    rw [List.foldl_append]
    generalize done.foldl (rowsStep b k f i) (0, []) = s at sl ⊢
    refine ⟨_, _, gt_name, q_asg1 (e_I0 (e_call (a_cons (e_var rfl) (a_cons (e_var rfl) (a_consR (r_varL rfl) (a_cons (e_var rfl) (a_cons (e_var rfl) a_nil))))) ⟨b, k, f, i, d, ⟨hb, hk, hf⟩, rfl, rfl⟩) (e_call (a_cons (e_var rfl) (a_cons (e_var rfl) (a_cons (e_var rfl) a_nil))) ⟨b.length, k, i, d, ⟨hk, hi⟩, rfl, rfl⟩))
      (q_asg1 (e_call (a_cons (e_var rfl) (a_cons (e_ixT (e_ixT (e_var rfl) (e_var rfl) (item_at hi)) e_int rfl) a_nil)) ⟨_, _, ⟨by have := io.good; omega, by have := io.good; omega⟩, rfl, rfl⟩) ?_)⟩
    refine tr_if1 (b_test (e_B0 (e_var rfl) (e_var rfl))) (fun c => ?_) (fun c => ?_)
    · refine q_asg1 (e_var rfl) (tr_app1 (x := eRow (d - (itemAt b i).lead, ceilDiv (taken b k f i d - supplied k i d) (itemAt b i).good)) rfl (e_tup (vs_cons (e_I0 (e_var rfl) (e_ixT (e_ixT (e_var rfl) (e_var rfl) (item_at hi)) e_int rfl)) (vs_cons (e_var rfl) vs_nil))) ?_ ⟨.t (.int d), .t (.int (taken b k f i d - supplied k i d)), .t (.int (ceilDiv (taken b k f i d - supplied k i d) (itemAt b i).good)), ?_⟩)
      · rw [List.length_map]
        have : s.2.length ≤ 0 + done.length := sl
        omega
      · show _ = [_, _, _, _, A.o l ((rowsStep b k f i s d).2.map eRow), A.t (.int (rowsStep b k f i s d).1), _, _, _]
        unfold rowsStep
        dsimp only
        rw [if_pos (of_decide_eq_true c), List.map_append]
        rfl
    · refine tr_next ⟨.t (.int d), .t (.int (taken b k f i d - supplied k i d)), .t (.int (ceilDiv (taken b k f i d - supplied k i d) (itemAt b i).good)), ?_⟩
      show _ = [_, _, _, _, A.o l ((rowsStep b k f i s d).2.map eRow), A.t (.int (rowsStep b k f i s d).1), _, _, _]
      unfold rowsStep
      dsimp only
      rw [if_neg (of_decide_eq_false c)]
      rfl
  · rintro as' ⟨u, v, w, rfl⟩
    exact ⟨u, v, w, rfl⟩
  · rintro as' ⟨u, v, w, rfl⟩
    exact tr_ret1 (e_tuple (r_varO rfl)) rfl
def R_needed : List Arg → (Res → Prop) → Prop := fun args Pr => ∃ (b : Bill) (k : Books), (BillOk b ∧ BooksOk b.length k) ∧ args = [.t (eBill b), .t (eBooks k)] ∧ Pr = fun r => r = .t (eNeeds (needed b k))
theorem len_needed : ∀ args Pr, R_needed args Pr → args.length = 2 := fun args Pr h => by
  obtain ⟨_, _, _, rfl, _⟩ := h
  rfl
theorem ok_needed {P : Program} {w : World} {K : PySem.W.Frag} {mg : Str → Option Value} {base : Heap} (T : Txt K mg) : FnOk P w K mg base CX0 5 T.needed.a T.needed.fd ["bill", "books"] (spF K R_needed) := by
  refine fn_tr T.needed.F sc_needed (len_needed) (fun cdv Ar outer s H E hr => ⟨_, 
    (pss_cons (ps_set (i := 2) sc_needed.nd rfl (Or.inl rfl) (pe_op op_rep (pe_lst (pa_cons (pe_tup pa_nil) pa_nil)) (pe_callB (call_lenK K) (by rfl) T.z_len PySem.boot_len (pa_cons (pv 0) pa_nil))))
    (pss_cons (ps_for PassesOwn.never rfl (pi_tupK K (pe_call (ok_parents_first T) (hr.mono (by decide)) (by rfl) T.parents_first.m T.parents_first.F.kp T.parents_first.b .nil pass0 (pa_cons (pv 0) pa_nil))) (pg_name (i := 3) sc_needed.nd rfl (Or.inl rfl)) 
      (pss_one (ps_asg (pe_call (ok_rows_of T) (hr.mono (by decide)) (by rfl) T.rows_of.m T.rows_of.F.kp T.rows_of.b .nil pass0 (pa_cons (pv 0) (pa_cons (pv 1) (pa_cons (pv 2) (pa_cons (pv 3) pa_nil))))) (pg_sub (pv 2) (pv 3) set_list))))
    (pss_one (ps_ret (pe_callTy (call_tupleK K) (by rfl) T.z_tuple (by decide +kernel) (pa_cons (pv 2) pa_nil)))))), fun bx args Pr h => ?_⟩)
  obtain ⟨b, k, ⟨hb, hk⟩, rfl, rfl⟩ := h
  have n6 := hb.n6
  refine q_asgN1 (n_rep (m := b.length) (x := eRows []) (n_lst (vs_cons (e_tup vs_nil) vs_nil) (fun ts e => by rw [e]; simp)) ((e_lenT (e_var rfl)).cast (by rw [List.length_map])) (by omega)) fun l => ?_
  refine tr_seq (M := fun as' => ∃ u, as' = [.t (eBill b), .t (eBooks k), .o l ((needed b k).map eRows), u]) (tr_forT (enc := eNat) (xs := order b) (e_call (a_cons (e_var rfl) a_nil) ⟨b, hb, rfl, rfl⟩)
    (fun done as' => ∃ u, as' = [.t (eBill b), .t (eBooks k), .o l ((needTo b k done).map eRows), u]) ⟨.x, ?_⟩ ?_ ?_) ?_
  · show _ = [_, _, A.o l ((List.replicate b.length []).map eRows), _]
    rw [List.map_replicate]
    rfl
  · rintro done i rest as' e ⟨u, rfl⟩
    obtain ⟨h1, h2, h3⟩ := order_mem hb e
    have hf : FOk b (needTo b k done) := fok_done hb hk e
    refine ⟨_, _, gt_name, tr_setI (m := i) rfl (e_call (a_cons (e_var rfl) (a_cons (e_var rfl) (a_consR (r_varO rfl) (a_cons (e_var rfl) a_nil)))) ⟨b, k, needTo b k done, i, ⟨hb, hk, hf, h1⟩, rfl, rfl⟩) (e_var rfl) (by rw [List.length_map, hf.len]; exact h1) ⟨.t (eNat i), ?_⟩⟩
    rw [needTo_app, List.map_set]
    rfl
  · rintro as' ⟨u, rfl⟩
    exact ⟨u, rfl⟩
  · rintro as' ⟨u, rfl⟩
    exact tr_ret1 (e_tuple (r_varO rfl)) rfl
def R_can_work : List Arg → (Res → Prop) → Prop := fun args Pr => ∃ (b : Bill) (k : Books), (BillOk b ∧ BooksOk b.length k) ∧ args = [.t (eBill b), .t (eBooks k)] ∧ Pr = fun r => r = .t (.bl (!(late k (needed b k))))
theorem len_can_work : ∀ args Pr, R_can_work args Pr → args.length = 2 := fun args Pr h => by
  obtain ⟨_, _, _, rfl, _⟩ := h
  rfl
theorem late_test {K : PySem.W.Frag} {bx : BX} {as : List A} {i j : Nat} {k : Books} {r : Rows} (h1 : as[i]? = some (.t (eRows r))) (h2 : as[j]? = some (.t (eBooks k))) :
    EvB1 K bx (tAnd (tTest (tOp (rI0 fun i j => .bl (decide (j < i))) (tCB (rLenS K) (tCons (tVar i) tNil)) (tC (.int 0)))) (tTest (tOp (rI0 fun i j => .bl (decide (i < j))) (tOp (rIxT K) (tOp (rIxT K) (tVar i) (tC (.int 0))) (tC (.int 0))) (tOp (rIxT K) (tVar j) (tC (.int 0)))))) as (lateRows k r) := by
  cases r with
  | nil => exact (b_and (b := true) (b_test (e_B0 (e_lenT (e_var h1)) e_int)) fun c => by simp at c).cast (by simp [lateRows])
  | cons x r => exact (b_and (b := decide (x.1 < k.today)) (b_test (e_B0 (e_lenT (e_var h1)) e_int)) fun c => b_test (e_B0 (e_ixT (e_ixT (x := eRow x) (e_var h1) e_int (show atI ((x :: r).map eRow) ((0 : Nat) : Int) = some (eRow x) from atI_nat rfl)) e_int rfl) (e_ixT (e_var h2) e_int rfl))).cast (by
      have e : decide ((0 : Int) < (((x :: r).map eRow).length : Nat)) = true := decide_eq_true (by simp)
      rw [e, Bool.true_and]
      rfl)
theorem ok_can_work {P : Program} {w : World} {K : PySem.W.Frag} {mg : Str → Option Value} {base : Heap} (T : Txt K mg) : FnOk P w K mg base CX0 6 T.can_work.a T.can_work.fd ["bill", "books"] (spF K R_can_work) := by
  refine fn_tr T.can_work.F sc_can_work (len_can_work) (fun cdv Ar outer s H E hr => ⟨_, 
    (pss_cons (ps_for PassesOwn.never rfl (pi_tupK K (pe_call (ok_needed T) (hr.mono (by decide)) (by rfl) T.needed.m T.needed.F.kp T.needed.b .nil pass0 (pa_cons (pv 0) (pa_cons (pv 1) pa_nil)))) (pg_name (i := 2) sc_can_work.nd rfl (Or.inl rfl)) 
      (pss_one (ps_if (PW.pt (pw_and (pt_cmpR op_gt (pe_callB (call_lenK K) (by rfl) T.z_len PySem.boot_len (pa_cons (pv 2) pa_nil)) pe_int (nomark _)) (pw_and1 (pt_cmpR op_lt (pe_ix (ix_tupK K) (pe_ix (ix_tupK K) (pv 2) pe_int (fun _ _ => rfl)) pe_int (fun _ _ => rfl)) (pe_ix (ix_tupK K) (pv 1) pe_int (fun _ _ => rfl)) (nomark _))))) 
        (pss_one (ps_ret pe_bl)) pss_nil)))
    (pss_one (ps_ret pe_bl))), fun bx args Pr h => ?_⟩)
  obtain ⟨b, k, ⟨hb, hk⟩, rfl, rfl⟩ := h
  refine tr_seq (M := fun as' => ∃ u, as' = [.t (eBill b), .t (eBooks k), u] ∧ late k (needed b k) = false) (tr_forT (enc := eRows) (xs := needed b k) (e_call (a_cons (e_var rfl) (a_cons (e_var rfl) a_nil)) ⟨b, k, ⟨hb, hk⟩, rfl, rfl⟩)
    (fun done as' => ∃ u, as' = [.t (eBill b), .t (eBooks k), u] ∧ late k done = false) ⟨.x, rfl, rfl⟩ ?_ ?_) ?_
  · rintro done r rest as' e ⟨u, rfl, hn⟩
    refine ⟨_, _, gt_name, tr_if1 (late_test rfl rfl) (fun c => ?_) (fun c => ?_)⟩
    · refine tr_ret1 e_bl ?_
      show Res.t _ = _
      have : late k (needed b k) = true := by
        unfold late
        rw [List.any_eq_true]
        exact ⟨r, by rw [e]; simp, c⟩
      rw [this]
      rfl
    · refine tr_next ⟨_, rfl, ?_⟩
      unfold late at hn ⊢
      rw [List.any_append, hn, List.any_cons, c]
      rfl
  · rintro as' ⟨u, rfl, h⟩
    exact ⟨u, rfl, h⟩
  · rintro as' ⟨u, rfl, h⟩
    refine tr_ret1 e_bl ?_
    show Res.t _ = _
    rw [h]
    rfl
end K12
namespace K12
open PySem L2 Evl

/-! ### the law's own reckoning -/
def R__law_users : List Arg → (Res → Prop) → Prop := fun args Pr => ∃ (b : Bill) (i : Nat), BillOk b ∧ args = [.t (eBill b), .t (.int (i : Int))] ∧ Pr = fun r => r = .n ((users b i).map ePair)
theorem len__law_users : ∀ args Pr, R__law_users args Pr → args.length = 2 := fun args Pr h => by
  obtain ⟨_, _, _, rfl, _⟩ := h
  rfl
theorem ok__law_users {P : Program} {w : World} {K : PySem.W.Frag} {mg : Str → Option Value} {base : Heap} (T : Txt K mg) : FnOk P w K mg base CX0 1 T._law_users.a T._law_users.fd ["_law_bill_here", "_law_item"] (spF K R__law_users) := by
  refine fn_tr T._law_users.F sc__law_users (len__law_users) (fun cdv Ar outer s H E hr => ⟨_, 
    (pss_cons (ps_set (i := 2) sc__law_users.nd rfl (Or.inl rfl) (pe_lst pa_nil))
    (pss_cons (ps_for PassesOwn.never rfl (pi_range1 (by rfl) T.z_range (pa_cons (pe_callB (call_lenK K) (by rfl) T.z_len PySem.boot_len (pa_cons (pv 0) pa_nil)) pa_nil)) (pg_name (i := 3) sc__law_users.nd rfl (Or.inl rfl)) 
      (pss_cons (ps_set (i := 4) sc__law_users.nd rfl (Or.inl rfl) (pe_callB (cr_sumK K rfl) (by rfl) T.z_sum (by decide +kernel) (pa_cons (pe_lc (own := [("_law_part", 5)]) (g := gName 5) rfl sc__law_users.nd (pi_tupK K (pe_ix (ix_tupK K) (pe_ix (ix_tupK K) (pv 0) (pv 3) (fun _ _ => rfl)) pe_int (fun _ _ => rfl))) (blkOk_by (own := [("_law_part", 5)]) (N := N__law_users) (sc := defScope s__law_users) (by decide +kernel)) (fun _ _ _ _ _ => (pg_name (i := 5) sc__law_users.nd rfl (Or.inl rfl))) (fun _ _ _ _ _ => (pts_one (pt_cmpR op_eq (pe_ix (ix_tupK K) (pv 5) pe_int (fun _ _ => rfl)) (pv 1) (nomark _)))) (fun _ _ _ _ _ => (pe_ix (ix_tupK K) (pv 5) pe_int (fun _ _ => rfl)))) pa_nil)))
      (pss_one (ps_if (pt_cmpR op_gt (pv 4) pe_int (nomark _)) 
        (pss_one (ps_expr (pe_bmK K (pe_bm PySem.F.plainAttrs_list PySem.F.slot_list_append PySem.F.type_list_append mt_append (pv 2) (pa_cons (pe_tup (pa_cons (pv 3) (pa_cons (pv 4) pa_nil))) pa_nil))))) pss_nil))))
    (pss_one (ps_ret (pv 2))))), fun bx args Pr h => ?_⟩)
  obtain ⟨b, i, hb, rfl, rfl⟩ := h
  refine q_asgN1 n_nil fun l => ?_
  refine tr_seq (M := fun as' => ∃ u v, as' = [.t (eBill b), .t (.int (i : Int)), .o l ((users b i).map ePair), u, v, .x]) (tr_rangeD (n := b.length) (vs_cons ((e_lenT (e_var rfl)).cast (by rw [List.length_map])) vs_nil) (by have := hb.n6; omega)
    (fun m as' => ∃ u v, as' = [.t (eBill b), .t (.int (i : Int)), .o l ((usersTo b i m).map ePair), u, v, .x]) ⟨_, _, rfl⟩ ?_ ?_) ?_
  · rintro m as' hm ⟨u, v, rfl⟩
    refine q_asg1 (x := .int (qty b m i)) (e_sum (EvN.rd (EvN1.cast (lcT_det (enc := ePart) (xs := (itemAt b m).parts) (fun q => decide ((q.1 : Int) = i)) (fun q => .int q.2) (e_ixT (e_ixT (e_var rfl) (e_var rfl) (item_at hm)) e_int rfl) (by have := (hb.at_ hm).few; omega) (by simp)
      fun r _ => ⟨_, gt_name, b_test (e_eqI (e_ixT (e_var rfl) e_int rfl) (e_var rfl)), fun _ => e_ixT (e_var rfl) e_int rfl⟩) (by rw [List.map_map]; rfl)))) ?_
    refine tr_if1 (b_test (e_B0 (e_var rfl) e_int)) (fun c => ?_) (fun c => ?_)
    · refine tr_app1 (x := ePair (m, qty b m i)) rfl (e_tup (vs_cons (e_var rfl) (vs_cons (e_var rfl) vs_nil))) ?_ ⟨.t (.int (m : Int)), .t (.int (qty b m i)), ?_⟩
      · have := usersTo_len b i m; have := hb.n6; rw [List.length_map]; omega
      · rw [usersTo_succ, if_pos (of_decide_eq_true c), List.map_append]; rfl
    · refine tr_next ⟨.t (.int (m : Int)), .t (.int (qty b m i)), ?_⟩
      rw [usersTo_succ, if_neg (of_decide_eq_false c)]; rfl
  · rintro as' ⟨u, v, rfl⟩
    exact ⟨u, v, rfl⟩
  · rintro as' ⟨u, v, rfl⟩
    exact tr_retO rfl rfl
def R__law_first : List Arg → (Res → Prop) → Prop := fun args Pr => ∃ (b : Bill), BillOk b ∧ args = [.t (eBill b)] ∧ Pr = fun r => r = .n ((order b).map eNat)
theorem len__law_first : ∀ args Pr, R__law_first args Pr → args.length = 1 := fun args Pr h => by
  obtain ⟨_, _, rfl, _⟩ := h
  rfl
theorem wait_none (us : List (Nat × Int)) (taken : List Nat) : decide (((us.filter fun u => !(taken.contains u.1)).length : Int) = 0) = us.all fun u => taken.contains u.1 := by
  induction us with
  | nil => rfl
  | cons u us ih =>
    rw [List.filter_cons, List.all_cons]
    by_cases h : taken.contains u.1 = true
    · rw [h, ← ih]
      rfl
    · have h2 : taken.contains u.1 = false := by simpa using h
      rw [h2, if_pos (by rfl), List.length_cons, Bool.false_and]
      exact decide_eq_false (by omega)
theorem ok__law_first {P : Program} {w : World} {K : PySem.W.Frag} {mg : Str → Option Value} {base : Heap} (T : Txt K mg) : FnOk P w K mg base CX0 2 T._law_first.a T._law_first.fd ["_law_bill_here"] (spF K R__law_first) := by
  refine fn_tr T._law_first.F sc__law_first (len__law_first) (fun cdv Ar outer s H E hr => ⟨_, 
    (pss_cons (ps_set (i := 1) sc__law_first.nd rfl (Or.inr rfl) (pe_lst pa_nil))
    (pss_cons (ps_for PassesOwn.never rfl (pi_range1 (by rfl) T.z_range (pa_cons (pe_callB (call_lenK K) (by rfl) T.z_len PySem.boot_len (pa_cons (pv 0) pa_nil)) pa_nil)) (pg_name (i := 2) sc__law_first.nd rfl (Or.inl rfl)) 
      (pss_one (ps_for PassesOwn.never rfl (pi_range1 (by rfl) T.z_range (pa_cons (pe_callB (call_lenK K) (by rfl) T.z_len PySem.boot_len (pa_cons (pv 0) pa_nil)) pa_nil)) (pg_name (i := 3) sc__law_first.nd rfl (Or.inl rfl)) 
        (pss_cons (ps_setLc (i := 4) (own := [("_law_pair", 5)]) (g := gName 5) rfl sc__law_first.nd rfl rfl (sw_true rfl rfl rfl (by decide +kernel)) (pi_listK K (pe_call (ok__law_users T) (hr.mono (by decide)) (by rfl) T._law_users.m T._law_users.F.kp T._law_users.b .nil pass0 (pa_cons (pv 0) (pa_cons (pv 3) pa_nil)))) (blkOk_by (own := [("_law_pair", 5)]) (N := N__law_first) (sc := defScope s__law_first) (by decide +kernel)) (fun _ _ _ _ _ => (pg_name (i := 5) sc__law_first.nd rfl (Or.inl rfl))) (fun _ _ _ _ _ => (pts_one (pt_cmpR (op_notIn_seqK K) (pe_ix (ix_tupK K) (pv 5) pe_int (fun _ _ => rfl)) (pv 1) (by rfl)))) (fun _ _ _ _ _ => (pv 5)))
        (pss_one (ps_if (PW.pt (pw_and (pt_cmpR (op_notIn_seqK K) (pv 3) (pv 1) (by rfl)) (pw_and1 (pt_cmpR op_eq (pe_callB (call_lenK K) (by rfl) T.z_len PySem.boot_len (pa_cons (pv 4) pa_nil)) pe_int (nomark _))))) 
          (pss_cons (ps_expr (pe_bmK K (pe_bm PySem.F.plainAttrs_list PySem.F.slot_list_append PySem.F.type_list_append mt_append (pv 1) (pa_cons (pv 3) pa_nil))))
          (pss_one ps_break)) pss_nil))))))
    (pss_one (ps_ret (pv 1))))), fun bx args Pr h => ?_⟩)
  obtain ⟨b, hb, rfl, rfl⟩ := h
  have n6 := hb.n6
  refine q_asgN1 n_nil fun l => ?_
  refine tr_seq (M := fun as' => ∃ u v w, as' = [.t (eBill b), .o l ((order b).map eNat), u, v, w, .x]) (tr_rangeD (n := b.length) (vs_cons ((e_lenT (e_var rfl)).cast (by rw [List.length_map])) vs_nil) (by omega)
    (fun m as' => ∃ u v w, as' = [.t (eBill b), .o l ((orderN b m).map eNat), u, v, w, .x]) ⟨_, _, _, rfl⟩ ?_ ?_) ?_
  · rintro j as' hj ⟨u, v, w, rfl⟩
    have hl := orderN_len hb j (by omega)
    refine tr_rangeD (n := b.length) (vs_cons ((e_lenT (e_var rfl)).cast (by rw [List.length_map])) vs_nil) (by omega) (fun q as' => ∃ u v w, as' = [.t (eBill b), .o l ((orderN b j).map eNat), u, v, w, .x] ∧ ∀ z, z < q → nextOk b (orderN b j) z = false) ⟨_, _, _, rfl, fun z hz => absurd hz (Nat.not_lt_zero z)⟩ ?_ ?_
    · rintro q as' hq ⟨u, v, w, rfl, h0⟩
      have ul := users_len b q
      refine q_asgN1 (ts := ((users b q).filter fun u => !((orderN b j).contains u.1)).map ePair) (lcR_det (enc := ePair) (xs := users b q) (fun u => !((orderN b j).contains u.1)) ePair (EvN.rd (n_call1 (a_cons (e_var rfl) (a_cons (e_var rfl) a_nil)) ⟨b, q, hb, rfl, rfl⟩)) (by omega) (by simp)
        fun u _ => ⟨_, gt_name, b_test (e_inN (neg := true) (e_ixT (e_var rfl) e_int rfl) (r_varO rfl)), fun _ => e_var rfl⟩) fun wl => ?_
      refine tr_if1 (b := nextOk b (orderN b j) q) ((b_and (b := (users b q).all fun u => (orderN b j).contains u.1) (b_test (e_inN (neg := true) (e_var rfl) (r_varO rfl)))
          (fun _ => b_test ((e_eqI (e_len (r_varO rfl)) e_int).cast (by rw [List.length_map, wait_none])))).cast rfl) (fun c => ?_) (fun c => ?_)
      · have e : nextItem b (orderN b j) = some q := find_range c h0 _ hq
        refine tr_seq (M := fun as' => ∃ u v w, as' = [.t (eBill b), .o l ((orderN b (j + 1)).map eNat), u, v, w, .x]) (tr_app1 (x := eNat q) rfl (e_var rfl) (by rw [List.length_map, hl]; omega) ⟨u, .t (.int (q : Int)), .o wl (((users b q).filter fun u => !((orderN b j).contains u.1)).map ePair), ?_⟩) ?_
        · rw [orderN_succ e, List.map_append]; rfl
        · rintro as' ⟨u, v, w, rfl⟩
          exact tr_break ⟨u, v, w, rfl⟩
      · refine tr_next ⟨u, .t (.int (q : Int)), .o wl (((users b q).filter fun u => !((orderN b j).contains u.1)).map ePair), rfl, fun z hz => ?_⟩
        by_cases e : z = q
        · rw [e]; exact c
        · exact h0 z (by omega)
    · rintro as' ⟨u, v, w, rfl, h0⟩
      obtain ⟨i, e⟩ := next_some hb (taken := orderN b j) (by omega)
      have ok := List.find?_some (show (List.range b.length).find? (nextOk b (orderN b j)) = some i from e)
      rw [h0 i (next_ok e).1] at ok
      cases ok
  · rintro as' ⟨u, v, w, rfl⟩
    exact ⟨u, v, w, rfl⟩
  · rintro as' ⟨u, v, w, rfl⟩
    exact tr_retO rfl rfl
def R__law_supplied : List Arg → (Res → Prop) → Prop := fun args Pr => ∃ (n : Nat) (k : Books) (i : Nat) (d : Int), (BooksOk n k ∧ i < n) ∧ args = [.t (eBooks k), .t (.int (i : Int)), .t (.int d)] ∧ Pr = fun r => r = .t (.int (supplied k i d))
theorem len__law_supplied : ∀ args Pr, R__law_supplied args Pr → args.length = 3 := fun args Pr h => by
  obtain ⟨_, _, _, _, _, rfl, _⟩ := h
  rfl
theorem sum_one {α : Type} (g : α → Int) (P : α → Bool) (l : List α) (x : α) : (((l ++ [x]).filter P).map g).sum = if P x = true then ((l.filter P).map g).sum + g x else ((l.filter P).map g).sum := by
  rw [List.filter_append, List.map_append, List.sum_append, List.filter_cons]
  by_cases h : P x = true
  · rw [if_pos h, if_pos h, List.filter_nil, List.map_cons, List.map_nil, List.sum_cons, List.sum_nil, Int.add_zero]
  · rw [if_neg h, if_neg h, List.filter_nil, List.map_nil, List.sum_nil, Int.add_zero]
theorem ok__law_supplied {P : Program} {w : World} {K : PySem.W.Frag} {mg : Str → Option Value} {base : Heap} (T : Txt K mg) : FnOk P w K mg base CX0 1 T._law_supplied.a T._law_supplied.fd ["_law_books_here", "_law_item", "_law_day"] (spF K R__law_supplied) := by
  refine fn_tr T._law_supplied.F sc__law_supplied (len__law_supplied) (fun cdv Ar outer s H E hr => ⟨_, 
    (pss_cons (ps_set (i := 3) sc__law_supplied.nd rfl (Or.inl rfl) (pe_ix (ix_tupK K) (pe_ix (ix_tupK K) (pv 0) pe_int (fun _ _ => rfl)) (pv 1) (fun _ _ => rfl)))
    (pss_cons (ps_for PassesOwn.never rfl (pi_tupK K (pe_ix (ix_tupK K) (pv 0) pe_int (fun _ _ => rfl))) (pg_name (i := 4) sc__law_supplied.nd rfl (Or.inl rfl)) 
      (pss_one (ps_if (PW.pt (pw_and (pt_cmpR op_eq (pe_ix (ix_tupK K) (pv 4) pe_int (fun _ _ => rfl)) (pv 1) (nomark _)) (pw_and1 (pt_cmpR op_le (pe_ix (ix_tupK K) (pv 4) pe_int (fun _ _ => rfl)) (pv 2) (nomark _))))) 
        (pss_one (ps_set (i := 3) sc__law_supplied.nd rfl (Or.inl rfl) (pe_op op_add (pv 3) (pe_ix (ix_tupK K) (pv 4) pe_int (fun _ _ => rfl))))) pss_nil)))
    (pss_one (ps_ret (pv 3))))), fun bx args Pr h => ?_⟩)
  obtain ⟨n, k, i, d, ⟨hk, hi⟩, rfl, rfl⟩ := h
  refine q_asg1 (e_ixT (e_ixT (e_var rfl) e_int rfl) (e_var rfl) (stock_at hk hi)) ?_
  refine tr_seq (M := fun as' => ∃ u, as' = [.t (eBooks k), .t (.int (i : Int)), .t (.int d), .t (.int (supplied k i d)), u]) (tr_forT (enc := eRec) (xs := k.recs) (e_ixT (e_var rfl) e_int rfl)
    (fun done as' => ∃ u, as' = [.t (eBooks k), .t (.int (i : Int)), .t (.int d), .t (.int (k.stock.getD i 0 + ((done.filter fun r => decide ((r.1 : Int) = i) && decide (r.2.1 ≤ d)).map fun r => r.2.2).sum)), u]) ⟨.x, ?_⟩ ?_ ?_) ?_
  · rw [List.filter_nil, List.map_nil, List.sum_nil, Int.add_zero]; rfl
  · rintro done r rest as' e ⟨u, rfl⟩
    refine ⟨_, _, gt_name, tr_if1 (b := decide ((r.1 : Int) = i) && decide (r.2.1 ≤ d)) (b_and (b_test (e_eqI (e_ixT (e_var rfl) e_int rfl) (e_var rfl))) (fun _ => b_test (e_B0 (e_ixT (e_var rfl) e_int rfl) (e_var rfl)))) (fun c => ?_) (fun c => ?_)⟩
    · refine tr_asg1 (e_I0 (e_var rfl) (e_ixT (e_var rfl) e_int rfl)) ⟨.t (eRec r), ?_⟩
      rw [sum_one, if_pos c, ← Int.add_assoc]; rfl
    · refine tr_next ⟨.t (eRec r), ?_⟩
      rw [sum_one, if_neg (by rw [c]; decide)]; rfl
  · rintro as' ⟨u, rfl⟩
    exact ⟨u, rfl⟩
  · rintro as' ⟨u, rfl⟩
    exact tr_ret1 (e_var rfl) rfl
def R__law_ordered : List Arg → (Res → Prop) → Prop := fun args Pr => ∃ (n : Nat) (k : Books) (i : Nat) (d : Int), BooksOk n k ∧ args = [.t (eBooks k), .t (.int (i : Int)), .t (.int d)] ∧ Pr = fun r => r = .t (.int (ordered k i d))
theorem len__law_ordered : ∀ args Pr, R__law_ordered args Pr → args.length = 3 := fun args Pr h => by
  obtain ⟨_, _, _, _, _, rfl, _⟩ := h
  rfl
theorem ok__law_ordered {P : Program} {w : World} {K : PySem.W.Frag} {mg : Str → Option Value} {base : Heap} (T : Txt K mg) : FnOk P w K mg base CX0 1 T._law_ordered.a T._law_ordered.fd ["_law_books_here", "_law_item", "_law_day"] (spF K R__law_ordered) := by
  refine fn_tr T._law_ordered.F sc__law_ordered (len__law_ordered) (fun cdv Ar outer s H E hr => ⟨_, 
    (pss_cons (ps_set (i := 3) sc__law_ordered.nd rfl (Or.inl rfl) pe_int)
    (pss_cons (ps_for PassesOwn.never rfl (pi_tupK K (pe_ix (ix_tupK K) (pv 0) pe_int (fun _ _ => rfl))) (pg_name (i := 4) sc__law_ordered.nd rfl (Or.inl rfl)) 
      (pss_one (ps_if (PW.pt (pw_and (pt_cmpR op_eq (pe_ix (ix_tupK K) (pv 4) pe_int (fun _ _ => rfl)) (pv 1) (nomark _)) (pw_and1 (pt_cmpR op_le (pe_ix (ix_tupK K) (pv 4) pe_int (fun _ _ => rfl)) (pv 2) (nomark _))))) 
        (pss_one (ps_set (i := 3) sc__law_ordered.nd rfl (Or.inl rfl) (pe_op op_add (pv 3) (pe_ix (ix_tupK K) (pv 4) pe_int (fun _ _ => rfl))))) pss_nil)))
    (pss_one (ps_ret (pv 3))))), fun bx args Pr h => ?_⟩)
  obtain ⟨n, k, i, d, hk, rfl, rfl⟩ := h
  refine q_asg1 e_int ?_
  refine tr_seq (M := fun as' => ∃ u, as' = [.t (eBooks k), .t (.int (i : Int)), .t (.int d), .t (.int (ordered k i d)), u]) (tr_forT (enc := eOrd) (xs := k.ords) (e_ixT (e_var rfl) e_int rfl)
    (fun done as' => ∃ u, as' = [.t (eBooks k), .t (.int (i : Int)), .t (.int d), .t (.int (((done.filter fun o => decide ((o.2.1 : Int) = i) && decide (o.2.2.2 ≤ d)).map fun o => o.2.2.1).sum)), u]) ⟨_, rfl⟩ ?_ ?_) ?_
  · rintro done r rest as' e ⟨u, rfl⟩
    refine ⟨_, _, gt_name, tr_if1 (b := decide ((r.2.1 : Int) = i) && decide (r.2.2.2 ≤ d)) (b_and (b_test (e_eqI (e_ixT (e_var rfl) e_int rfl) (e_var rfl))) (fun _ => b_test (e_B0 (e_ixT (e_var rfl) e_int rfl) (e_var rfl)))) (fun c => ?_) (fun c => ?_)⟩
    · refine tr_asg1 (e_I0 (e_var rfl) (e_ixT (e_var rfl) e_int rfl)) ⟨.t (eOrd r), ?_⟩
      rw [sum_one, if_pos c]; rfl
    · refine tr_next ⟨.t (eOrd r), ?_⟩
      rw [sum_one, if_neg (by rw [c]; decide)]; rfl
  · rintro as' ⟨u, rfl⟩
    exact ⟨u, rfl⟩
  · rintro as' ⟨u, rfl⟩
    exact tr_ret1 (e_var rfl) rfl
def R__law_lots : List Arg → (Res → Prop) → Prop := fun args Pr => ∃ (r : Rows) (d : Int), True ∧ args = [.r (r.map eRow), .t (.int d)] ∧ Pr = fun z => z = .t (.int (lotsAt r d))
theorem len__law_lots : ∀ args Pr, R__law_lots args Pr → args.length = 2 := fun args Pr h => by
  obtain ⟨_, _, _, rfl, _⟩ := h
  rfl
theorem ok__law_lots {P : Program} {w : World} {K : PySem.W.Frag} {mg : Str → Option Value} {base : Heap} (T : Txt K mg) : FnOk P w K mg base CX0 1 T._law_lots.a T._law_lots.fd ["_law_rows", "_law_day"] (spF K R__law_lots) := by
  refine fn_tr T._law_lots.F sc__law_lots (len__law_lots) (fun cdv Ar outer s H E hr => ⟨_, 
    (pss_cons (ps_set (i := 2) sc__law_lots.nd rfl (Or.inl rfl) pe_int)
    (pss_cons (ps_for PassesOwn.never rfl (pi_listK K (pv 0)) (pg_name (i := 3) sc__law_lots.nd rfl (Or.inl rfl)) 
      (pss_one (ps_if (pt_cmpR op_le (pe_ix (ix_tupK K) (pv 3) pe_int (fun _ _ => rfl)) (pv 1) (nomark _)) 
        (pss_one (ps_set (i := 2) sc__law_lots.nd rfl (Or.inl rfl) (pe_ix (ix_tupK K) (pv 3) pe_int (fun _ _ => rfl)))) pss_nil)))
    (pss_one (ps_ret (pv 2))))), fun bx args Pr h => ?_⟩)
  obtain ⟨r, d, _, rfl, rfl⟩ := h
  refine q_asg1 e_int ?_
  refine tr_seq (M := fun as' => ∃ u, as' = [.l (r.map eRow), .t (.int d), .t (.int (lotsAt r d)), u]) (tr_forL (enc := eRow) (xs := r) rfl (fun done as' => ∃ u, as' = [.l (r.map eRow), .t (.int d), .t (.int (lotsAt done d)), u]) ⟨_, rfl⟩ ?_ ?_) ?_
  · rintro done x rest as' _ ⟨u, rfl⟩
    refine ⟨_, _, gt_name, tr_if1 (b_test (e_B0 (e_ixT (x := .int x.1) (e_var rfl) e_int rfl) (e_var rfl))) (fun c => ?_) (fun c => ?_)⟩
    · refine tr_asg1 (e_ixT (x := .int x.2) (e_var rfl) e_int rfl) ⟨.t (eRow x), ?_⟩
      rw [lotsAt_app, if_pos (of_decide_eq_true c)]; rfl
    · refine tr_next ⟨.t (eRow x), ?_⟩
      rw [lotsAt_app, if_neg (of_decide_eq_false c)]; rfl
  · rintro as' ⟨u, rfl⟩
    exact ⟨u, rfl⟩
  · rintro as' ⟨u, rfl⟩
    exact tr_ret1 (e_var rfl) rfl
def R__law_needed : List Arg → (Res → Prop) → Prop := fun args Pr => ∃ (b : Bill) (k : Books), (BillOk b ∧ BooksOk b.length k) ∧ args = [.t (eBill b), .t (eBooks k)] ∧ Pr = fun r => r = .t (eNeeds (lawNeeded b k))
theorem len__law_needed : ∀ args Pr, R__law_needed args Pr → args.length = 2 := fun args Pr h => by
  obtain ⟨_, _, _, rfl, _⟩ := h
  rfl
theorem fget {f : List Rows} {p : Nat} (hp : p < f.length) : (f.map fun r : Rows => r.map eRow)[p]? = some ((f.getD p []).map eRow) := by
  rw [List.getElem?_map, List.getElem?_eq_getElem hp, List.getD_eq_getElem?_getD, List.getElem?_eq_getElem hp]
  rfl
theorem fset (f : List Rows) (i : Nat) (r : Rows) (x : Int × Int) : (f.map fun r : Rows => r.map eRow).set i (r.map eRow ++ [eRow x]) = (f.set i (r ++ [x])).map fun r : Rows => r.map eRow := by
  rw [List.map_set, List.map_append]
  rfl
theorem part_mul {b : Bill} (hb : BillOk b) {p : Nat} (hp : p < b.length) {q : Nat × Int} (hq : q ∈ (itemAt b p).parts) : CMul q.2 (itemAt b p).lot ∧ ∀ z, CMul (q.2 * (itemAt b p).lot) z := by
  have io := hb.at_ hp
  obtain ⟨h1, h2, h3⟩ := io.parts q hq
  obtain ⟨l1, l2⟩ := io.lot
  have m1 : 0 ≤ q.2 * (itemAt b p).lot := Int.mul_nonneg (by omega) (by omega)
  have m2 : q.2 * (itemAt b p).lot ≤ 20 * 50 := Int.mul_le_mul h3 l2 (by omega) (by omega)
  exact ⟨.inl ⟨by omega, by omega⟩, fun z => .inl ⟨by omega, by omega⟩⟩
theorem lawStep_len {b : Bill} {k : Books} {i : Nat} {s : Int × List Rows} {d : Int} : (lawStep b k i s d).2.length = s.2.length ∧ ((lawStep b k i s d).2.getD i []).length ≤ (s.2.getD i []).length + 1 := by
  unfold lawStep
  dsimp only
  split
  · refine ⟨List.length_set, ?_⟩
    by_cases h : i < s.2.length
    · rw [getD_set_self h, List.length_append]; exact Nat.le_refl _
    · rw [List.getD_eq_getElem?_getD, List.getElem?_eq_none (by rw [List.length_set]; omega)]
      exact Nat.zero_le _
  · exact ⟨rfl, by omega⟩
theorem lawFold_len {b : Bill} {k : Books} {i : Nat} {f : List Rows} : ∀ m, ((List.range m).foldl (fun s j => lawStep b k i s (dayAt k j)) (0, f)).2.length = f.length ∧ (((List.range m).foldl (fun s j => lawStep b k i s (dayAt k j)) (0, f)).2.getD i []).length ≤ (f.getD i []).length + m
  | 0 => ⟨rfl, Nat.le_refl _⟩
  | m + 1 => by
    obtain ⟨h1, h2⟩ := lawFold_len (b := b) (k := k) (i := i) (f := f) m
    rw [List.range_succ, List.foldl_append]
    obtain ⟨h3, h4⟩ := lawStep_len (b := b) (k := k) (i := i) (s := (List.range m).foldl (fun s j => lawStep b k i s (dayAt k j)) (0, f)) (d := dayAt k m)
    exact ⟨h3.trans h1, by show ((lawStep b k i _ (dayAt k m)).2.getD i []).length ≤ _; omega⟩
theorem map_tup (f : List Rows) : (f.map fun r : Rows => r.map eRow).map T.tup = f.map eRows := by
  rw [List.map_map]
  rfl
theorem ok__law_needed {P : Program} {w : World} {K : PySem.W.Frag} {mg : Str → Option Value} {base : Heap} (T : Txt K mg) : FnOk P w K mg base CX0 3 T._law_needed.a T._law_needed.fd ["_law_bill_here", "_law_books_here"] (spF K R__law_needed) := by
  refine fn_tr T._law_needed.F sc__law_needed (len__law_needed) (fun cdv Ar outer s H E hr => ⟨_, 
    (pss_cons (ps_setLc (i := 2) (own := [("_law_item", 3)]) (g := gName 3) (tt := tYes) rfl sc__law_needed.nd rfl rfl (sw_true rfl rfl rfl (by decide +kernel)) (pi_tupK K (pv 0)) (blkOk_by (own := [("_law_item", 3)]) (N := N__law_needed) (sc := defScope s__law_needed) (by decide +kernel)) (fun _ _ _ _ _ => (pg_name (i := 3) sc__law_needed.nd rfl (Or.inl rfl))) (fun _ _ _ _ _ => pts_nil) (fun _ _ _ _ _ => (pe_lst pa_nil)))
    (pss_cons (ps_for PassesOwn.never rfl (pi_listK K (pe_call (ok__law_first T) (hr.mono (by decide)) (by rfl) T._law_first.m T._law_first.F.kp T._law_first.b .nil pass0 (pa_cons (pv 0) pa_nil))) (pg_name (i := 3) sc__law_needed.nd rfl (Or.inl rfl)) 
      (pss_cons (ps_set (i := 4) sc__law_needed.nd rfl (Or.inl rfl) pe_int)
      (pss_one (ps_for PassesOwn.never rfl (pi_range2 (by rfl) T.z_range (pa_cons (pe_op op_sub (pe_ix (ix_tupK K) (pv 1) pe_int (fun _ _ => rfl)) pe_int) (pa_cons (pe_op op_add (pe_ix (ix_tupK K) (pv 1) pe_int (fun _ _ => rfl)) pe_int) pa_nil))) (pg_name (i := 5) sc__law_needed.nd rfl (Or.inl rfl)) 
        (pss_cons (ps_set (i := 6) sc__law_needed.nd rfl (Or.inl rfl) (pe_op op_sub (pe_call (ok__law_ordered T) (hr.mono (by decide)) (by rfl) T._law_ordered.m T._law_ordered.F.kp T._law_ordered.b .nil pass0 (pa_cons (pv 1) (pa_cons (pv 3) (pa_cons (pv 5) pa_nil)))) (pe_call (ok__law_supplied T) (hr.mono (by decide)) (by rfl) T._law_supplied.m T._law_supplied.F.kp T._law_supplied.b .nil pass0 (pa_cons (pv 1) (pa_cons (pv 3) (pa_cons (pv 5) pa_nil))))))
        (pss_cons (ps_for PassesOwn.never rfl (pi_range1 (by rfl) T.z_range (pa_cons (pe_callB (call_lenK K) (by rfl) T.z_len PySem.boot_len (pa_cons (pv 0) pa_nil)) pa_nil)) (pg_name (i := 7) sc__law_needed.nd rfl (Or.inl rfl)) 
          (pss_one (ps_for PassesOwn.never rfl (pi_tupK K (pe_ix (ix_tupK K) (pe_ix (ix_tupK K) (pv 0) (pv 7) (fun _ _ => rfl)) pe_int (fun _ _ => rfl))) (pg_name (i := 8) sc__law_needed.nd rfl (Or.inl rfl)) 
            (pss_one (ps_if (pt_cmpR op_eq (pe_ix (ix_tupK K) (pv 8) pe_int (fun _ _ => rfl)) (pv 3) (nomark _)) 
              (pss_one (ps_set (i := 6) sc__law_needed.nd rfl (Or.inl rfl) (pe_op op_add (pv 6) (pe_op op_mul (pe_op op_mul (pe_ix (ix_tupK K) (pv 8) pe_int (fun _ _ => rfl)) (pe_ix (ix_tupK K) (pe_ix (ix_tupK K) (pv 0) (pv 7) (fun _ _ => rfl)) pe_int (fun _ _ => rfl))) (pe_call (ok__law_lots T) (hr.mono (by decide)) (by rfl) T._law_lots.m T._law_lots.F.kp T._law_lots.b .nil pass0 (pa_cons (pe_ix (ix_listK K) (pv 2) (pv 7) (fun _ _ => rfl)) (pa_cons (pv 5) pa_nil))))))) pss_nil)))))
        (pss_one (ps_if (pt_cmpR op_gt (pv 6) (pe_op op_mul (pv 4) (pe_ix (ix_tupK K) (pe_ix (ix_tupK K) (pv 0) (pv 3) (fun _ _ => rfl)) pe_int (fun _ _ => rfl))) (nomark _)) 
          (pss_cons (ps_set (i := 4) sc__law_needed.nd rfl (Or.inl rfl) (pe_op op_fdiv (pe_op op_sub (pe_op op_add (pv 6) (pe_ix (ix_tupK K) (pe_ix (ix_tupK K) (pv 0) (pv 3) (fun _ _ => rfl)) pe_int (fun _ _ => rfl))) pe_int) (pe_ix (ix_tupK K) (pe_ix (ix_tupK K) (pv 0) (pv 3) (fun _ _ => rfl)) pe_int (fun _ _ => rfl))))
          (pss_one (ps_expr (pe_bmK K (pe_bm PySem.F.plainAttrs_list PySem.F.slot_list_append PySem.F.type_list_append mt_append (pe_ix (ix_listK K) (pv 2) (pv 3) (fun _ _ => rfl)) (pa_cons (pe_tup (pa_cons (pe_op op_sub (pv 5) (pe_ix (ix_tupK K) (pe_ix (ix_tupK K) (pv 0) (pv 3) (fun _ _ => rfl)) pe_int (fun _ _ => rfl))) (pa_cons (pv 4) pa_nil))) pa_nil)))))) pss_nil))))))))
    (pss_one (ps_ret (pe_callTy (call_tupleK K) (by rfl) T.z_tuple (by decide +kernel) (pa_cons (pe_lc (own := [("_law_rows", 9)]) (g := gName 9) (tt := tYes) rfl sc__law_needed.nd (pi_listK K (pv 2)) (blkOk_by (own := [("_law_rows", 9)]) (N := N__law_needed) (sc := defScope s__law_needed) (by decide +kernel)) (fun _ _ _ _ _ => (pg_name (i := 9) sc__law_needed.nd rfl (Or.inl rfl))) (fun _ _ _ _ _ => pts_nil) (fun _ _ _ _ _ => (pe_callTy (call_tupleK K) (by rfl) T.z_tuple (by decide +kernel) (pa_cons (pv 9) pa_nil)))) pa_nil)))))), fun bx args Pr h => ?_⟩)
  obtain ⟨b, k, ⟨hb, hk⟩, rfl, rfl⟩ := h
  have n6 := hb.n6
  obtain ⟨t1, t2⟩ := hk.today
  refine q_newO (ts := b.map eItem) (e_var rfl) rfl (by rw [List.length_map]; omega) (by simp) fun a bs hbs => ?_
  refine tr_seq (M := fun as' => ∃ u1 u2 u3 u4 u5 u6, as' = [.t (eBill b), .t (eBooks k), .oo a bs ((lawNeeded b k).map fun r : Rows => r.map eRow), u1, u2, u3, u4, u5, u6, .x]) (tr_forN (enc := eNat) (xs := order b) (n_call1 (a_cons (e_var rfl) a_nil) ⟨b, hb, rfl, rfl⟩)
    (fun done as' => ∃ u1 u2 u3 u4 u5 u6, as' = [.t (eBill b), .t (eBooks k), .oo a bs ((lawTo b k done).map fun r : Rows => r.map eRow), u1, u2, u3, u4, u5, u6, .x]) ⟨.x, .x, .x, .x, .x, .x, ?_⟩ ?_ ?_) ?_
  · show _ = [_, _, A.oo a bs ((List.replicate b.length ([] : Rows)).map fun r : Rows => r.map eRow), _, _, _, _, _, _, _]
    rw [List.map_replicate, List.length_map]
    rfl
  · rintro done i rest as' e ⟨u1, u2, u3, u4, u5, u6, rfl⟩
    obtain ⟨hi, h2, h3⟩ := order_mem hb e
    have io := hb.at_ hi
    have hf : FOk b (lawTo b k done) := by rw [law_done hb hk e]; exact fok_done hb hk e
    rw [lawTo_app]
    generalize lawTo b k done = f at hf
    refine ⟨_, _, gt_name, q_asg1 e_int ?_⟩
    refine tr_range2 (vs_cons (e_I0 (e_ixT (e_var rfl) e_int rfl) e_int) (vs_cons (e_I0 (e_ixT (e_var rfl) e_int rfl) e_int) vs_nil)) (by omega)
      (fun m as' => ∃ u3 u4 u5 u6, as' = [.t (eBill b), .t (eBooks k), .oo a bs (((List.range m).foldl (fun s j => lawStep b k i s (dayAt k j)) (0, f)).2.map fun r : Rows => r.map eRow), .t (.int (i : Int)), .t (.int ((List.range m).foldl (fun s j => lawStep b k i s (dayAt k j)) (0, f)).1), u3, u4, u5, u6, .x]) ⟨_, _, _, _, rfl⟩ ?_ ?_
    · rintro m as' hm ⟨u3, u4, u5, u6, rfl⟩
      have hm2 : m < 130 := by omega
      obtain ⟨fl1, fl2⟩ := lawFold_len (b := b) (k := k) (i := i) (f := f) m
      have few := hf.few i
      rw [List.range_succ, List.foldl_append]
      generalize (List.range m).foldl (fun s j => lawStep b k i s (dayAt k j)) (0, f) = s at fl1 fl2
      have sl : s.2.length = b.length := fl1.trans hf.len
      refine q_asg1 (x := .int (ordered k i (dayAt k m) - supplied k i (dayAt k m))) (e_I0 (e_call (a_cons (e_var rfl) (a_cons (e_var rfl) (a_cons (e_var rfl) a_nil))) ⟨b.length, k, i, _, hk, rfl, rfl⟩) (e_call (a_cons (e_var rfl) (a_cons (e_var rfl) (a_cons (e_var rfl) a_nil))) ⟨b.length, k, i, _, ⟨hk, hi⟩, rfl, rfl⟩)) ?_
      refine tr_seq (M := fun as' => ∃ u5 u6, as' = [.t (eBill b), .t (eBooks k), .oo a bs (s.2.map fun r : Rows => r.map eRow), .t (.int (i : Int)), .t (.int s.1), .t (.int (dayAt k m)), .t (.int (lawMiss b k s.2 i (dayAt k m))), u5, u6, .x])
        (tr_rangeD (n := b.length) (vs_cons ((e_lenT (e_var rfl)).cast (by rw [List.length_map])) vs_nil) (by omega)
        (fun z as' => ∃ u5 u6, as' = [.t (eBill b), .t (eBooks k), .oo a bs (s.2.map fun r : Rows => r.map eRow), .t (.int (i : Int)), .t (.int s.1), .t (.int (dayAt k m)), .t (.int ((List.range z).foldl (fun m' p => (itemAt b p).parts.foldl (lawPart b s.2 i (dayAt k m) p) m') (ordered k i (dayAt k m) - supplied k i (dayAt k m)))), u5, u6, .x]) ⟨_, _, rfl⟩ ?_ ?_) ?_
      · rintro p as' hp ⟨u5, u6, rfl⟩
        rw [List.range_succ, List.foldl_append]
        generalize (List.range p).foldl (fun m' p => (itemAt b p).parts.foldl (lawPart b s.2 i (dayAt k m) p) m') (ordered k i (dayAt k m) - supplied k i (dayAt k m)) = m0
        refine tr_forT (enc := ePart) (xs := (itemAt b p).parts) (e_ixT (e_ixT (e_var rfl) (e_var rfl) (item_at hp)) e_int rfl)
          (fun done as' => ∃ u6, as' = [.t (eBill b), .t (eBooks k), .oo a bs (s.2.map fun r : Rows => r.map eRow), .t (.int (i : Int)), .t (.int s.1), .t (.int (dayAt k m)), .t (.int (done.foldl (lawPart b s.2 i (dayAt k m) p) m0)), .t (.int (p : Int)), u6, .x]) ⟨_, rfl⟩ ?_ ?_
        · rintro done q rest as' e2 ⟨u6, rfl⟩
          have hq : q ∈ (itemAt b p).parts := by rw [e2]; simp
          obtain ⟨c1, c2⟩ := part_mul hb hp hq
          rw [List.foldl_append]
          generalize done.foldl (lawPart b s.2 i (dayAt k m) p) m0 = m1
          refine ⟨_, _, gt_name, tr_if1 (b := decide ((q.1 : Int) = i)) (b_test (e_eqI (e_ixT (e_var rfl) e_int rfl) (e_var rfl))) (fun c => ?_) (fun c => ?_)⟩
          · refine tr_asg1 (e_I0 (e_var rfl) (e_I (e_I (e_ixT (x := .int q.2) (e_var rfl) e_int rfl) (e_ixT (e_ixT (e_var rfl) (e_var rfl) (item_at hp)) e_int rfl) c1)
              (e_call (a_consR (r_oo rfl (e_var rfl) (fget (by rw [sl]; exact hp))) (a_cons (e_var rfl) a_nil)) ⟨s.2.getD p [], dayAt k m, trivial, rfl, rfl⟩) (c2 _))) ⟨.t (ePart q), ?_⟩
            show _ = [_, _, _, _, _, _, A.t (.int (lawPart b s.2 i (dayAt k m) p m1 q)), _, _, _]
            unfold lawPart
            rw [if_pos (of_decide_eq_true c)]
            rfl
          · refine tr_next ⟨.t (ePart q), ?_⟩
            show _ = [_, _, _, _, _, _, A.t (.int (lawPart b s.2 i (dayAt k m) p m1 q)), _, _, _]
            unfold lawPart
            rw [if_neg (of_decide_eq_false c)]
            rfl
        · rintro as' ⟨u6, rfl⟩
          exact ⟨_, u6, rfl⟩
      · rintro as' ⟨u5, u6, rfl⟩
        exact ⟨u5, u6, rfl⟩
      · rintro as' ⟨u5, u6, rfl⟩
        have gg := io.good
        refine tr_if1 (b := decide (s.1 * (itemAt b i).good < lawMiss b k s.2 i (dayAt k m))) (b_test (e_B0 (e_var rfl) (e_I (e_var rfl) (e_ixT (e_ixT (e_var rfl) (e_var rfl) (item_at hi)) e_int rfl) (.inr ⟨by omega, by omega⟩)))) (fun c => ?_) (fun c => ?_)
        · refine q_asg1 (e_I (e_I0 (e_I0 (e_var rfl) (e_ixT (x := .int (itemAt b i).good) (e_ixT (e_var rfl) (e_var rfl) (item_at hi)) e_int rfl)) e_int) (e_ixT (x := .int (itemAt b i).good) (e_ixT (e_var rfl) (e_var rfl) (item_at hi)) e_int rfl) ⟨by omega, by omega⟩) ?_
          refine tr_appO (x := eRow (dayAt k m - (itemAt b i).lead, (lawMiss b k s.2 i (dayAt k m) + (itemAt b i).good - 1) / (itemAt b i).good)) rfl (e_var rfl) (fget (by rw [sl]; exact hi)) (e_tup (vs_cons (e_I0 (e_var rfl) (e_ixT (x := .int (itemAt b i).lead) (e_ixT (e_var rfl) (e_var rfl) (item_at hi)) e_int rfl)) (vs_cons (e_var rfl) vs_nil))) (by rw [List.length_map]; omega) ⟨.t (.int (dayAt k m)), .t (.int (lawMiss b k s.2 i (dayAt k m))), u5, u6, ?_⟩
          rw [fset]
          show _ = [_, _, A.oo a bs ((lawStep b k i s (dayAt k m)).2.map fun r : Rows => r.map eRow), _, A.t (.int (lawStep b k i s (dayAt k m)).1), _, _, _, _, _]
          unfold lawStep
          dsimp only
          rw [if_pos (of_decide_eq_true c)]
          rfl
        · refine tr_next ⟨.t (.int (dayAt k m)), .t (.int (lawMiss b k s.2 i (dayAt k m))), u5, u6, ?_⟩
          show _ = [_, _, A.oo a bs ((lawStep b k i s (dayAt k m)).2.map fun r : Rows => r.map eRow), _, A.t (.int (lawStep b k i s (dayAt k m)).1), _, _, _, _, _]
          unfold lawStep
          dsimp only
          rw [if_neg (of_decide_eq_false c)]
    · rintro as' ⟨u3, u4, u5, u6, rfl⟩
      rw [show (k.today + 40 - (k.today - 90)).toNat = 130 by omega]
      exact ⟨_, _, u3, u4, u5, u6, rfl⟩
  · rintro as' ⟨u1, u2, u3, u4, u5, u6, rfl⟩
    exact ⟨u1, u2, u3, u4, u5, u6, rfl⟩
  · rintro as' ⟨u1, u2, u3, u4, u5, u6, rfl⟩
    refine tr_ret1 (e_tuple (EvN.rd (n_tupsO (a := a) (bs := bs) (tss := (lawNeeded b k).map fun r : Rows => r.map eRow) rfl (by simp) (by simp) rfl ?_))) ?_
    · rw [List.length_map, law_needed hb hk, (fok_needed hb hk).len]; omega
    · show Res.t (.tup _) = _
      rw [map_tup]
      rfl
end K12
namespace K12
open PySem L2 Evl

/-! ### balances, shortages, sameness -/
def R__law_started : List Arg → (Res → Prop) → Prop := fun args Pr => ∃ (pl : List Start) (i : Nat) (d : Int), True ∧ args = [.t (ePlan pl), .t (.int (i : Int)), .t (.int d)] ∧ Pr = fun r => r = .t (.int (started pl i d))
theorem len__law_started : ∀ args Pr, R__law_started args Pr → args.length = 3 := fun args Pr h => by
  obtain ⟨_, _, _, _, rfl, _⟩ := h
  rfl
theorem ok__law_started {P : Program} {w : World} {K : PySem.W.Frag} {mg : Str → Option Value} {base : Heap} (T : Txt K mg) : FnOk P w K mg base CX0 1 T._law_started.a T._law_started.fd ["_law_plan", "_law_item", "_law_day"] (spF K R__law_started) := by
  refine fn_tr T._law_started.F sc__law_started (len__law_started) (fun cdv Ar outer s H E hr => ⟨_, 
    (pss_cons (ps_set (i := 3) sc__law_started.nd rfl (Or.inl rfl) pe_int)
    (pss_cons (ps_for PassesOwn.never rfl (pi_tupK K (pv 0)) (pg_name (i := 4) sc__law_started.nd rfl (Or.inl rfl)) 
      (pss_one (ps_if (PW.pt (pw_and (pt_cmpR op_eq (pe_ix (ix_tupK K) (pv 4) pe_int (fun _ _ => rfl)) (pv 1) (nomark _)) (pw_and1 (pt_cmpR op_le (pe_ix (ix_tupK K) (pv 4) pe_int (fun _ _ => rfl)) (pv 2) (nomark _))))) 
        (pss_one (ps_set (i := 3) sc__law_started.nd rfl (Or.inl rfl) (pe_op op_add (pv 3) (pe_ix (ix_tupK K) (pv 4) pe_int (fun _ _ => rfl))))) pss_nil)))
    (pss_one (ps_ret (pv 3))))), fun bx args Pr h => ?_⟩)
  obtain ⟨pl, i, d, _, rfl, rfl⟩ := h
  refine q_asg1 e_int ?_
  refine tr_seq (M := fun as' => ∃ u, as' = [.t (ePlan pl), .t (.int (i : Int)), .t (.int d), .t (.int (started pl i d)), u]) (tr_forT (enc := eStart) (xs := pl) (e_var rfl)
    (fun done as' => ∃ u, as' = [.t (ePlan pl), .t (.int (i : Int)), .t (.int d), .t (.int (started done i d)), u]) ⟨.x, rfl⟩ ?_ ?_) ?_
  · rintro done s rest as' e ⟨u, rfl⟩
    refine ⟨_, _, gt_name, tr_if1 (b := decide ((s.1 : Int) = i) && decide (s.2.1 ≤ d)) (b_and (b_test (e_eqI (e_ixT (e_var rfl) e_int rfl) (e_var rfl))) (fun _ => b_test (e_B0 (e_ixT (e_var rfl) e_int rfl) (e_var rfl)))) (fun c => ?_) (fun c => ?_)⟩
    · refine tr_asg1 (e_I0 (e_var rfl) (e_ixT (e_var rfl) e_int rfl)) ⟨.t (eStart s), ?_⟩
      rw [Bool.and_eq_true, decide_eq_true_eq, decide_eq_true_eq] at c
      rw [started_app, if_pos c]; rfl
    · refine tr_next ⟨.t (eStart s), ?_⟩
      rw [started_app, if_neg (fun q => by rw [decide_eq_true q.1, decide_eq_true q.2] at c; cases c)]; rfl
  · rintro as' ⟨u, rfl⟩
    exact ⟨u, rfl⟩
  · rintro as' ⟨u, rfl⟩
    exact tr_ret1 (e_var rfl) rfl
def R__law_balance : List Arg → (Res → Prop) → Prop := fun args Pr => ∃ (b : Bill) (k : Books) (pl : List Start) (i : Nat) (d : Int), (BillOk b ∧ BooksOk b.length k ∧ i < b.length) ∧ args = [.t (eBill b), .t (eBooks k), .t (ePlan pl), .t (.int (i : Int)), .t (.int d)] ∧ Pr = fun r => r = .t (.int (balance b k pl i d))
theorem len__law_balance : ∀ args Pr, R__law_balance args Pr → args.length = 5 := fun args Pr h => by
  obtain ⟨_, _, _, _, _, _, rfl, _⟩ := h
  rfl
theorem ok__law_balance {P : Program} {w : World} {K : PySem.W.Frag} {mg : Str → Option Value} {base : Heap} (T : Txt K mg) : FnOk P w K mg base CX0 2 T._law_balance.a T._law_balance.fd ["_law_bill_here", "_law_books_here", "_law_plan", "_law_item", "_law_day"] (spF K R__law_balance) := by
  refine fn_tr T._law_balance.F sc__law_balance (len__law_balance) (fun cdv Ar outer s H E hr => ⟨_, 
    (pss_cons (ps_set (i := 5) sc__law_balance.nd rfl (Or.inl rfl) (pe_op op_sub (pe_call (ok__law_supplied T) (hr.mono (by decide)) (by rfl) T._law_supplied.m T._law_supplied.F.kp T._law_supplied.b .nil pass0 (pa_cons (pv 1) (pa_cons (pv 3) (pa_cons (pv 4) pa_nil)))) (pe_call (ok__law_ordered T) (hr.mono (by decide)) (by rfl) T._law_ordered.m T._law_ordered.F.kp T._law_ordered.b .nil pass0 (pa_cons (pv 1) (pa_cons (pv 3) (pa_cons (pv 4) pa_nil))))))
    (pss_cons (ps_set (i := 5) sc__law_balance.nd rfl (Or.inl rfl) (pe_op op_add (pv 5) (pe_op op_mul (pe_ix (ix_tupK K) (pe_ix (ix_tupK K) (pv 0) (pv 3) (fun _ _ => rfl)) pe_int (fun _ _ => rfl)) (pe_call (ok__law_started T) (hr.mono (by decide)) (by rfl) T._law_started.m T._law_started.F.kp T._law_started.b .nil pass0 (pa_cons (pv 2) (pa_cons (pv 3) (pa_cons (pe_op op_sub (pv 4) (pe_ix (ix_tupK K) (pe_ix (ix_tupK K) (pv 0) (pv 3) (fun _ _ => rfl)) pe_int (fun _ _ => rfl))) pa_nil)))))))
    (pss_cons (ps_for PassesOwn.never rfl (pi_range1 (by rfl) T.z_range (pa_cons (pe_callB (call_lenK K) (by rfl) T.z_len PySem.boot_len (pa_cons (pv 0) pa_nil)) pa_nil)) (pg_name (i := 6) sc__law_balance.nd rfl (Or.inl rfl)) 
      (pss_one (ps_for PassesOwn.never rfl (pi_tupK K (pe_ix (ix_tupK K) (pe_ix (ix_tupK K) (pv 0) (pv 6) (fun _ _ => rfl)) pe_int (fun _ _ => rfl))) (pg_name (i := 7) sc__law_balance.nd rfl (Or.inl rfl)) 
        (pss_one (ps_if (pt_cmpR op_eq (pe_ix (ix_tupK K) (pv 7) pe_int (fun _ _ => rfl)) (pv 3) (nomark _)) 
          (pss_one (ps_set (i := 5) sc__law_balance.nd rfl (Or.inl rfl) (pe_op op_sub (pv 5) (pe_op op_mul (pe_op op_mul (pe_ix (ix_tupK K) (pv 7) pe_int (fun _ _ => rfl)) (pe_ix (ix_tupK K) (pe_ix (ix_tupK K) (pv 0) (pv 6) (fun _ _ => rfl)) pe_int (fun _ _ => rfl))) (pe_call (ok__law_started T) (hr.mono (by decide)) (by rfl) T._law_started.m T._law_started.F.kp T._law_started.b .nil pass0 (pa_cons (pv 2) (pa_cons (pv 6) (pa_cons (pv 4) pa_nil)))))))) pss_nil)))))
    (pss_one (ps_ret (pv 5)))))), fun bx args Pr h => ?_⟩)
  obtain ⟨b, k, pl, i, d, ⟨hb, hk, hi⟩, rfl, rfl⟩ := h
  have n6 := hb.n6
  have io := hb.at_ hi
  have gg := io.good
  refine q_asg1 (x := .int (supplied k i d - ordered k i d)) (e_I0 (e_call (a_cons (e_var rfl) (a_cons (e_var rfl) (a_cons (e_var rfl) a_nil))) ⟨b.length, k, i, d, ⟨hk, hi⟩, rfl, rfl⟩) (e_call (a_cons (e_var rfl) (a_cons (e_var rfl) (a_cons (e_var rfl) a_nil))) ⟨b.length, k, i, d, hk, rfl, rfl⟩)) ?_
  refine q_asg1 (x := .int (supplied k i d - ordered k i d + (itemAt b i).good * started pl i (d - (itemAt b i).lead))) (e_I0 (e_var rfl) (e_I (e_ixT (x := .int (itemAt b i).good) (e_ixT (e_var rfl) (e_var rfl) (item_at hi)) e_int rfl)
    (e_call (a_cons (e_var rfl) (a_cons (e_var rfl) (a_cons (e_I0 (e_var rfl) (e_ixT (x := .int (itemAt b i).lead) (e_ixT (e_var rfl) (e_var rfl) (item_at hi)) e_int rfl)) a_nil))) ⟨pl, i, _, trivial, rfl, rfl⟩) (.inl ⟨by omega, by omega⟩))) ?_
  refine tr_seq (M := fun as' => ∃ u v, as' = [.t (eBill b), .t (eBooks k), .t (ePlan pl), .t (.int (i : Int)), .t (.int d), .t (.int (balance b k pl i d)), u, v]) (tr_rangeD (n := b.length) (vs_cons ((e_lenT (e_var rfl)).cast (by rw [List.length_map])) vs_nil) (by omega)
    (fun z as' => ∃ u v, as' = [.t (eBill b), .t (eBooks k), .t (ePlan pl), .t (.int (i : Int)), .t (.int d), .t (.int ((List.range z).foldl (fun m p => (itemAt b p).parts.foldl (balPart b pl i d p) m) (supplied k i d - ordered k i d + (itemAt b i).good * started pl i (d - (itemAt b i).lead)))), u, v]) ⟨.x, .x, rfl⟩ ?_ ?_) ?_
  · rintro p as' hp ⟨u, v, rfl⟩
    rw [List.range_succ, List.foldl_append]
    generalize (List.range p).foldl (fun m p => (itemAt b p).parts.foldl (balPart b pl i d p) m) (supplied k i d - ordered k i d + (itemAt b i).good * started pl i (d - (itemAt b i).lead)) = m0
    refine tr_forT (enc := ePart) (xs := (itemAt b p).parts) (e_ixT (e_ixT (e_var rfl) (e_var rfl) (item_at hp)) e_int rfl)
      (fun done as' => ∃ v, as' = [.t (eBill b), .t (eBooks k), .t (ePlan pl), .t (.int (i : Int)), .t (.int d), .t (.int (done.foldl (balPart b pl i d p) m0)), .t (.int (p : Int)), v]) ⟨v, rfl⟩ ?_ ?_
    · rintro done q rest as' e2 ⟨v, rfl⟩
      have hq : q ∈ (itemAt b p).parts := by rw [e2]; simp
      obtain ⟨c1, c2⟩ := part_mul hb hp hq
      rw [List.foldl_append]
      generalize done.foldl (balPart b pl i d p) m0 = m1
      refine ⟨_, _, gt_name, tr_if1 (b := decide ((q.1 : Int) = i)) (b_test (e_eqI (e_ixT (e_var rfl) e_int rfl) (e_var rfl))) (fun c => ?_) (fun c => ?_)⟩
      · refine tr_asg1 (e_I0 (e_var rfl) (e_I (e_I (e_ixT (x := .int q.2) (e_var rfl) e_int rfl) (e_ixT (e_ixT (e_var rfl) (e_var rfl) (item_at hp)) e_int rfl) c1)
          (e_call (a_cons (e_var rfl) (a_cons (e_var rfl) (a_cons (e_var rfl) a_nil))) ⟨pl, p, d, trivial, rfl, rfl⟩) (c2 _))) ⟨.t (ePart q), ?_⟩
        show _ = [_, _, _, _, _, A.t (.int (balPart b pl i d p m1 q)), _, _]
        unfold balPart
        rw [if_pos (of_decide_eq_true c)]
        rfl
      · refine tr_next ⟨.t (ePart q), ?_⟩
        show _ = [_, _, _, _, _, A.t (.int (balPart b pl i d p m1 q)), _, _]
        unfold balPart
        rw [if_neg (of_decide_eq_false c)]
        rfl
    · rintro as' ⟨v, rfl⟩
      exact ⟨_, v, rfl⟩
  · rintro as' ⟨u, v, rfl⟩
    exact ⟨u, v, rfl⟩
  · rintro as' ⟨u, v, rfl⟩
    exact tr_ret1 (e_var rfl) rfl
def PlanOk (b : Bill) (k : Books) (pl : List Start) : Prop := ∀ s ∈ pl, s.1 < b.length ∧ s.2.1 ≤ k.today + 29
def R__law_last : List Arg → (Res → Prop) → Prop := fun args Pr => ∃ (b : Bill) (k : Books) (pl : List Start), (BillOk b ∧ BooksOk b.length k ∧ PlanOk b k pl) ∧ args = [.t (eBill b), .t (eBooks k), .t (ePlan pl)] ∧ Pr = fun r => ∃ m : Int, r = .t (.int m) ∧ 0 ≤ m ∧ m ≤ 1000
theorem len__law_last : ∀ args Pr, R__law_last args Pr → args.length = 3 := fun args Pr h => by
  obtain ⟨_, _, _, _, rfl, _⟩ := h
  rfl
theorem ok__law_last {P : Program} {w : World} {K : PySem.W.Frag} {mg : Str → Option Value} {base : Heap} (T : Txt K mg) : FnOk P w K mg base CX0 1 T._law_last.a T._law_last.fd ["_law_bill_here", "_law_books_here", "_law_plan"] (spF K R__law_last) := by
  refine fn_tr T._law_last.F sc__law_last (len__law_last) (fun cdv Ar outer s H E hr => ⟨_, 
    (pss_cons (ps_set (i := 3) sc__law_last.nd rfl (Or.inl rfl) (pe_ix (ix_tupK K) (pv 1) pe_int (fun _ _ => rfl)))
    (pss_cons (ps_for PassesOwn.never rfl (pi_tupK K (pe_ix (ix_tupK K) (pv 1) pe_int (fun _ _ => rfl))) (pg_name (i := 4) sc__law_last.nd rfl (Or.inl rfl)) 
      (pss_one (ps_set (i := 3) sc__law_last.nd rfl (Or.inl rfl) (pe_callB (call_max2 rfl) (by rfl) T.z_max (by decide +kernel) (pa_cons (pv 3) (pa_cons (pe_ix (ix_tupK K) (pv 4) pe_int (fun _ _ => rfl)) pa_nil))))))
    (pss_cons (ps_for PassesOwn.never rfl (pi_tupK K (pe_ix (ix_tupK K) (pv 1) pe_int (fun _ _ => rfl))) (pg_name (i := 4) sc__law_last.nd rfl (Or.inl rfl)) 
      (pss_one (ps_set (i := 3) sc__law_last.nd rfl (Or.inl rfl) (pe_callB (call_max2 rfl) (by rfl) T.z_max (by decide +kernel) (pa_cons (pv 3) (pa_cons (pe_ix (ix_tupK K) (pv 4) pe_int (fun _ _ => rfl)) pa_nil))))))
    (pss_cons (ps_for PassesOwn.never rfl (pi_tupK K (pv 2)) (pg_name (i := 5) sc__law_last.nd rfl (Or.inl rfl)) 
      (pss_one (ps_set (i := 3) sc__law_last.nd rfl (Or.inl rfl) (pe_callB (call_max2 rfl) (by rfl) T.z_max (by decide +kernel) (pa_cons (pv 3) (pa_cons (pe_op op_add (pe_ix (ix_tupK K) (pv 5) pe_int (fun _ _ => rfl)) (pe_ix (ix_tupK K) (pe_ix (ix_tupK K) (pv 0) (pe_ix (ix_tupK K) (pv 5) pe_int (fun _ _ => rfl)) (fun _ _ => rfl)) pe_int (fun _ _ => rfl))) pa_nil))))))
    (pss_one (ps_ret (pv 3))))))), fun bx args Pr h => ?_⟩)
  obtain ⟨b, k, pl, ⟨hb, hk, hp⟩, rfl, rfl⟩ := h
  obtain ⟨t1, t2⟩ := hk.today
  refine q_asg1 (x := .int k.today) (e_ixT (e_var rfl) e_int rfl) ?_
  refine tr_seq (M := fun as' => ∃ m u v, as' = [.t (eBill b), .t (eBooks k), .t (ePlan pl), .t (.int m), u, v] ∧ 0 ≤ m ∧ m ≤ 1000) (tr_forT (enc := eRec) (xs := k.recs) (e_ixT (e_var rfl) e_int rfl)
    (fun done as' => ∃ m u v, as' = [.t (eBill b), .t (eBooks k), .t (ePlan pl), .t (.int m), u, v] ∧ 0 ≤ m ∧ m ≤ 1000) ⟨k.today, .x, .x, rfl, t1, by omega⟩ ?_ (fun _ h => h)) ?_
  · rintro done r rest as' e ⟨m, u, v, rfl, h1, h2⟩
    have hr := hk.recs r (by rw [e]; simp)
    refine ⟨_, _, gt_name, tr_asg1 (e_max2 (e_var rfl) (e_ixT (x := .int r.2.1) (e_var rfl) e_int rfl)) ⟨_, .t (eRec r), v, rfl, ?_, ?_⟩⟩
    · split <;> omega
    · split <;> omega
  rintro as' ⟨m, u, v, rfl, h1, h2⟩
  refine tr_seq (M := fun as' => ∃ m u v, as' = [.t (eBill b), .t (eBooks k), .t (ePlan pl), .t (.int m), u, v] ∧ 0 ≤ m ∧ m ≤ 1000) (tr_forT (enc := eOrd) (xs := k.ords) (e_ixT (e_var rfl) e_int rfl)
    (fun done as' => ∃ m u v, as' = [.t (eBill b), .t (eBooks k), .t (ePlan pl), .t (.int m), u, v] ∧ 0 ≤ m ∧ m ≤ 1000) ⟨m, u, v, rfl, h1, h2⟩ ?_ (fun _ h => h)) ?_
  · rintro done r rest as' e ⟨m, u, v, rfl, h1, h2⟩
    have hr := hk.ords r (by rw [e]; simp)
    refine ⟨_, _, gt_name, tr_asg1 (e_max2 (e_var rfl) (e_ixT (x := .int r.2.2.2) (e_var rfl) e_int rfl)) ⟨_, .t (eOrd r), v, rfl, ?_, ?_⟩⟩
    · split <;> omega
    · split <;> omega
  rintro as' ⟨m, u, v, rfl, h1, h2⟩
  refine tr_seq (M := fun as' => ∃ m u v, as' = [.t (eBill b), .t (eBooks k), .t (ePlan pl), .t (.int m), u, v] ∧ 0 ≤ m ∧ m ≤ 1000) (tr_forT (enc := eStart) (xs := pl) (e_var rfl)
    (fun done as' => ∃ m u v, as' = [.t (eBill b), .t (eBooks k), .t (ePlan pl), .t (.int m), u, v] ∧ 0 ≤ m ∧ m ≤ 1000) ⟨m, u, v, rfl, h1, h2⟩ ?_ (fun _ h => h)) ?_
  · rintro done s rest as' e ⟨m, u, v, rfl, h1, h2⟩
    obtain ⟨hs1, hs2⟩ := hp s (by rw [e]; simp)
    have io := (hb.at_ hs1).lead
    refine ⟨_, _, gt_name, tr_asg1 (e_max2 (e_var rfl) (e_I0 (e_ixT (x := .int s.2.1) (e_var rfl) e_int rfl) (e_ixT (x := .int (itemAt b s.1).lead) (e_ixT (e_var rfl) (e_ixT (x := .int (s.1 : Int)) (e_var rfl) e_int rfl) (item_at hs1)) e_int rfl))) ⟨_, u, .t (eStart s), rfl, ?_, ?_⟩⟩
    · split <;> omega
    · split <;> omega
  rintro as' ⟨m, u, v, rfl, h1, h2⟩
  exact tr_ret1 (e_var rfl) ⟨m, rfl, h1, h2⟩
def R__law_shortages : List Arg → (Res → Prop) → Prop := fun args Pr => ∃ (b : Bill) (k : Books) (pl : List Start), (BillOk b ∧ BooksOk b.length k ∧ PlanOk b k pl ∧ ∀ i, i < b.length → ∀ d, k.today ≤ d → 0 ≤ balance b k pl i d) ∧ args = [.t (eBill b), .t (eBooks k), .t (ePlan pl)] ∧ Pr = fun r => r = .n []
theorem len__law_shortages : ∀ args Pr, R__law_shortages args Pr → args.length = 3 := fun args Pr h => by
  obtain ⟨_, _, _, _, rfl, _⟩ := h
  rfl
theorem ok__law_shortages {P : Program} {w : World} {K : PySem.W.Frag} {mg : Str → Option Value} {base : Heap} (T : Txt K mg) : FnOk P w K mg base CX0 3 T._law_shortages.a T._law_shortages.fd ["_law_bill_here", "_law_books_here", "_law_plan"] (spF K R__law_shortages) := by
  refine fn_tr T._law_shortages.F sc__law_shortages (len__law_shortages) (fun cdv Ar outer s H E hr => ⟨_, 
    (pss_cons (ps_set (i := 3) sc__law_shortages.nd rfl (Or.inl rfl) (pe_lst pa_nil))
    (pss_cons (ps_for PassesOwn.never rfl (pi_range2 (by rfl) T.z_range (pa_cons (pe_ix (ix_tupK K) (pv 1) pe_int (fun _ _ => rfl)) (pa_cons (pe_op op_add (pe_call (ok__law_last T) (hr.mono (by decide)) (by rfl) T._law_last.m T._law_last.F.kp T._law_last.b .nil pass0 (pa_cons (pv 0) (pa_cons (pv 1) (pa_cons (pv 2) pa_nil)))) pe_int) pa_nil))) (pg_name (i := 4) sc__law_shortages.nd rfl (Or.inl rfl)) 
      (pss_one (ps_for PassesOwn.never rfl (pi_range1 (by rfl) T.z_range (pa_cons (pe_callB (call_lenK K) (by rfl) T.z_len PySem.boot_len (pa_cons (pv 0) pa_nil)) pa_nil)) (pg_name (i := 5) sc__law_shortages.nd rfl (Or.inl rfl)) 
        (pss_cons (ps_set (i := 6) sc__law_shortages.nd rfl (Or.inl rfl) (pe_call (ok__law_balance T) (hr.mono (by decide)) (by rfl) T._law_balance.m T._law_balance.F.kp T._law_balance.b .nil pass0 (pa_cons (pv 0) (pa_cons (pv 1) (pa_cons (pv 2) (pa_cons (pv 5) (pa_cons (pv 4) pa_nil)))))))
        (pss_one (ps_if (PW.pt (pw_and (pt_cmpR op_lt (pv 6) pe_int (nomark _)) (pw_and1 (PW.pt (pw_or (pt_cmpR op_eq (pv 4) (pe_ix (ix_tupK K) (pv 1) pe_int (fun _ _ => rfl)) (nomark _)) (pw_or1 (pt_cmpR op_ge (pe_call (ok__law_balance T) (hr.mono (by decide)) (by rfl) T._law_balance.m T._law_balance.F.kp T._law_balance.b .nil pass0 (pa_cons (pv 0) (pa_cons (pv 1) (pa_cons (pv 2) (pa_cons (pv 5) (pa_cons (pe_op op_sub (pv 4) pe_int) pa_nil)))))) pe_int (nomark _)))))))) 
          (pss_one (ps_expr (pe_bmK K (pe_bm PySem.F.plainAttrs_list PySem.F.slot_list_append PySem.F.type_list_append mt_append (pv 3) (pa_cons (pe_tup (pa_cons (pv 4) (pa_cons (pv 5) (pa_cons (pe_op op_sub pe_int (pv 6)) pa_nil)))) pa_nil))))) pss_nil))))))
    (pss_one (ps_ret (pv 3))))), fun bx args Pr h => ?_⟩)
  obtain ⟨b, k, pl, ⟨hb, hk, hp, hbal⟩, rfl, rfl⟩ := h
  obtain ⟨t1, t2⟩ := hk.today
  have n6 := hb.n6
  refine q_asgN1 n_nil fun l => ?_
  refine tr_seq (M := fun as' => ∃ u v w, as' = [.t (eBill b), .t (eBooks k), .t (ePlan pl), .o l [], u, v, w]) (tr_range2N (q := fun lo hi => lo = k.today ∧ 0 ≤ hi ∧ hi ≤ 1001)
    (vs_consN (Ev1.pi (i := k.today) (e_ixT (e_var rfl) e_int rfl)) (vs_consN (R := fun r => r = []) (R' := fun r => ∃ m : Int, r = [.int m] ∧ 0 ≤ m ∧ m ≤ 1001) (n_I0 (p := fun m => 0 ≤ m ∧ m ≤ 1000) (n_callT (a_cons (e_var rfl) (a_cons (e_var rfl) (a_cons (e_var rfl) a_nil))) (fun args e => ⟨_, ⟨b, k, pl, ⟨hb, hk, hp⟩, e, rfl⟩, fun r ⟨m, e, h1, h2⟩ => ⟨_, e, m, rfl, h1, h2⟩⟩)) (Ev1.pi e_int)) vs_nil
      (fun x r ⟨m, ex, i, j, hi, hj, hm⟩ er => ⟨m, by rw [ex, er], by omega, by omega⟩)) (fun x r ⟨m, ex, hm⟩ ⟨z, er, h1, h2⟩ => ⟨m, z, by rw [ex, er], hm, h1, h2⟩)) (fun lo hi h => by omega)
    (fun lo hi m as' => ∃ u v w, as' = [.t (eBill b), .t (eBooks k), .t (ePlan pl), .o l [], u, v, w]) (fun _ _ _ => ⟨.x, .x, .x, rfl⟩) ?_ (fun _ _ _ _ h => h)) ?_
  · rintro lo hi m as' ⟨hlo, h1, h2⟩ hm ⟨u, v, w, rfl⟩
    subst hlo
    refine tr_rangeD (n := b.length) (vs_cons ((e_lenT (e_var rfl)).cast (by rw [List.length_map])) vs_nil) (by omega) (fun z as' => ∃ v w, as' = [.t (eBill b), .t (eBooks k), .t (ePlan pl), .o l [], .t (.int (k.today + (m : Int))), v, w]) ⟨v, w, rfl⟩ ?_ ?_
    · rintro i as' hi2 ⟨v, w, rfl⟩
      have hb0 := hbal i hi2 (k.today + (m : Int)) (by omega)
      refine q_asg1 (x := .int (balance b k pl i (k.today + (m : Int)))) (e_call (a_cons (e_var rfl) (a_cons (e_var rfl) (a_cons (e_var rfl) (a_cons (e_var rfl) (a_cons (e_var rfl) a_nil))))) ⟨b, k, pl, i, _, ⟨hb, hk, hi2⟩, rfl, rfl⟩) ?_
      refine tr_if1 (b := false) ((b_and (b := false) (b_test (e_B0 (e_var rfl) e_int)) (fun c => absurd (of_decide_eq_true c) (by omega))).cast (Bool.and_false _)) (fun c => by cases c) (fun _ => tr_next ⟨_, _, rfl⟩)
    · rintro as' ⟨v, w, rfl⟩
      exact ⟨_, v, w, rfl⟩
  · rintro as' ⟨u, v, w, rfl⟩
    exact tr_retO rfl rfl
end K12
namespace K12
open PySem L2 Evl

/-! ### sameness -/
section
variable {K : PySem.W.Frag} {bx : BX} {H0 : Hp} {as : List A} {p : Ps} {ta tb te tl : TE} {t : TT} {s u : TS} {x y : T} {i j : Nat}
theorem q_skip (h : EvB1 K bx t as false) (k : Tr K bx H0 u as p) : Tr K bx H0 (tSeq (tIfS t s tNext) u) as p :=
  tr_seq (M := fun a => a = as) (tr_if1 h (fun c => by cases c) fun _ => tr_next rfl) fun a e => by rw [e]; exact k
theorem q_take (h : EvB1 K bx t as true) (k : Tr K bx H0 s as { p with nx := fun _ => False }) : Tr K bx H0 (tSeq (tIfS t s tNext) u) as p :=
  tr_seq (M := fun _ => False) (tr_if1 h (fun _ => k) fun c => by cases c) fun a e => e.elim
theorem e_notV {a : Bool} (h1 : Ev1 K bx ta as (.bl a)) : Ev1 K bx (tNotV ta) as (.bl (!a)) := fun F H0 H σ S Q q => h1 F H0 H σ S _ fun x v H1 e e1 r1 => by
  subst e
  exact ⟨a, rep_bl.mp r1, q _ _ H1 rfl e1 (rep_bl.mpr rfl)⟩
end
/-- data that the law compares, by depth -/
def Dat : Nat → T → Prop
  | 0, _ => False
  | d + 1, x => (∃ i, x = .int i) ∨ (∃ c, x = .bl c) ∨ ∃ ts, x = .tup ts ∧ (∀ t ∈ ts, Dat d t) ∧ ts.length ≤ 100000
def R_same : Nat → List Arg → (Res → Prop) → Prop
  | 0 => fun _ _ => False
  | d + 1 => fun args Pr => ((∃ x, Dat (d + 1) x ∧ args = [.t x, .t x]) ∨ ∃ ts, (∀ t ∈ ts, Dat d t) ∧ ts.length ≤ 100000 ∧ args = [.r ts, .r ts]) ∧ Pr = fun r => r = .t (.bl true)
theorem len_same (d : Nat) : ∀ args Pr, R_same d args Pr → args.length = 2 := fun args Pr h => by
  cases d with
  | zero => exact h.elim
  | succ d =>
    obtain ⟨h | h, _⟩ := h
    · obtain ⟨_, _, rfl⟩ := h; rfl
    · obtain ⟨_, _, _, rfl⟩ := h; rfl
theorem k_int_list : kitB "int" "list" = some false := by decide +kernel
theorem k_int_tuple : kitB "int" "tuple" = some false := by decide +kernel
theorem k_int_bool : kitB "int" "bool" = some false := by decide +kernel
theorem k_int_str : kitB "int" "str" = some false := by decide +kernel
theorem k_int_int : kitB "int" "int" = some true := by decide +kernel
theorem k_bool_list : kitB "bool" "list" = some false := by decide +kernel
theorem k_bool_tuple : kitB "bool" "tuple" = some false := by decide +kernel
theorem k_bool_bool : kitB "bool" "bool" = some true := by decide +kernel
theorem k_tuple_list : kitB "tuple" "list" = some false := by decide +kernel
theorem k_tuple_tuple : kitB "tuple" "tuple" = some true := by decide +kernel
theorem k_list_list : kitB "list" "list" = some true := by decide +kernel
theorem k_list_tuple : kitB "list" "tuple" = some false := by decide +kernel
theorem at_mem {ts : List T} {m : Nat} (h : m < ts.length) : ∃ x, atI ts (m : Int) = some x ∧ x ∈ ts := ⟨ts[m], atI_nat (List.getElem?_eq_getElem h), List.getElem_mem h⟩
theorem same_zero {P : Program} {w : World} {K : PySem.W.Frag} {mg : Str → Option Value} {base : Heap} (T : Txt K mg) : FnOk P w K mg base CX0 0 T._law_same.a T._law_same.fd ["_law_actual", "_law_due"] (spF K (R_same 0)) :=
  ⟨fun vs H Q E h => by
    obtain ⟨_, _, _, h, _⟩ := h
    exact h.elim, fun A outer s H ag us vs Q E hr he hb hv h => by
    obtain ⟨_, _, _, h, _⟩ := h
    exact h.elim⟩
theorem same_succ {P : Program} {w : World} {K : PySem.W.Frag} {mg : Str → Option Value} {base : Heap} (T : Txt K mg) (d : Nat) (ih : FnOk P w K mg base CX0 d T._law_same.a T._law_same.fd ["_law_actual", "_law_due"] (spF K (R_same d))) : FnOk P w K mg base CX0 (d + 1) T._law_same.a T._law_same.fd ["_law_actual", "_law_due"] (spF K (R_same (d + 1))) := by
  refine fn_tr T._law_same.F sc__law_same (len_same (d + 1)) (fun cdv Ar outer s H E hr => ⟨_,

    (pss_cons (ps_if (PW.pt (pw_or (pt_val (pe_callB (call_isiK2 K) (by rfl) T.z_isinstance (by decide +kernel) (pa_cons (pv 1) (pa_cons (pe_bltn (v := .ty "list") (by rfl) T.z_list (by decide +kernel) rfl) pa_nil)))) (pw_or1 (pt_val (pe_callB (call_isiK2 K) (by rfl) T.z_isinstance (by decide +kernel) (pa_cons (pv 1) (pa_cons (pe_bltn (v := .ty "tuple") (by rfl) T.z_tuple (by decide +kernel) rfl) pa_nil))))))) 
      (pss_cons (ps_if (PW.pt (pw_or (pt_cmpR op_ne (pe_callB (call_isiK2 K) (by rfl) T.z_isinstance (by decide +kernel) (pa_cons (pv 1) (pa_cons (pe_bltn (v := .ty "list") (by rfl) T.z_list (by decide +kernel) rfl) pa_nil))) (pe_callB (call_isiK2 K) (by rfl) T.z_isinstance (by decide +kernel) (pa_cons (pv 0) (pa_cons (pe_bltn (v := .ty "list") (by rfl) T.z_list (by decide +kernel) rfl) pa_nil))) (nomark _)) (pw_or1 (pt_cmpR op_ne (pe_callB (call_isiK2 K) (by rfl) T.z_isinstance (by decide +kernel) (pa_cons (pv 1) (pa_cons (pe_bltn (v := .ty "tuple") (by rfl) T.z_tuple (by decide +kernel) rfl) pa_nil))) (pe_callB (call_isiK2 K) (by rfl) T.z_isinstance (by decide +kernel) (pa_cons (pv 0) (pa_cons (pe_bltn (v := .ty "tuple") (by rfl) T.z_tuple (by decide +kernel) rfl) pa_nil))) (nomark _))))) 
        (pss_one (ps_ret pe_bl)) pss_nil)
      (pss_cons (ps_if (pt_cmpR op_ne (pe_callB (call_lenK K) (by rfl) T.z_len PySem.boot_len (pa_cons (pv 0) pa_nil)) (pe_callB (call_lenK K) (by rfl) T.z_len PySem.boot_len (pa_cons (pv 1) pa_nil)) (nomark _)) 
        (pss_one (ps_ret pe_bl)) pss_nil)
      (pss_cons (ps_for PassesOwn.never rfl (pi_range1 (by rfl) T.z_range (pa_cons (pe_callB (call_lenK K) (by rfl) T.z_len PySem.boot_len (pa_cons (pv 1) pa_nil)) pa_nil)) (pg_name (i := 2) sc__law_same.nd rfl (Or.inl rfl)) 
        (pss_one (ps_if (pt_not (pt_val (pe_call ih hr (by rfl) T._law_same.m T._law_same.F.kp T._law_same.b .nil pass0 (pa_cons (pe_ix (ix_seqK K) (pv 0) (pv 2) (fun _ _ => rfl)) (pa_cons (pe_ix (ix_seqK K) (pv 1) (pv 2) (fun _ _ => rfl)) pa_nil))))) 
          (pss_one (ps_ret pe_bl)) pss_nil)))
      (pss_one (ps_ret pe_bl))))) pss_nil)
    (pss_cons (ps_if (pt_cmp (pc_isN (pv 1)) rfl) 
      (pss_one (ps_ret (pe_cmp (pc_isN (pv 0)) rfl))) pss_nil)
    (pss_cons (ps_if (pt_val (pe_callB (call_isiK2 K) (by rfl) T.z_isinstance (by decide +kernel) (pa_cons (pv 1) (pa_cons (pe_bltn (v := .ty "bool") (by rfl) T.z_bool (by decide +kernel) rfl) pa_nil)))) 
      (pss_one (ps_ret (pe_and (pe_callB (call_isiK2 K) (by rfl) T.z_isinstance (by decide +kernel) (pa_cons (pv 0) (pa_cons (pe_bltn (v := .ty "bool") (by rfl) T.z_bool (by decide +kernel) rfl) pa_nil))) (pe_one (pe_cmpR op_eq (pv 0) (pv 1) (nomark _)))))) pss_nil)
    (pss_cons (ps_if (pt_val (pe_callB (call_isiK2 K) (by rfl) T.z_isinstance (by decide +kernel) (pa_cons (pv 1) (pa_cons (pe_bltn (v := .ty "str") (by rfl) T.z_str (by decide +kernel) rfl) pa_nil)))) 
      (pss_one (ps_ret (pe_and (pe_callB (call_isiK2 K) (by rfl) T.z_isinstance (by decide +kernel) (pa_cons (pv 0) (pa_cons (pe_bltn (v := .ty "str") (by rfl) T.z_str (by decide +kernel) rfl) pa_nil))) (pe_one (pe_cmpR op_eq (pv 0) (pv 1) (nomark _)))))) pss_nil)
    (pss_one (ps_ret (pe_and (pe_callB (call_isiK2 K) (by rfl) T.z_isinstance (by decide +kernel) (pa_cons (pv 0) (pa_cons (pe_bltn (v := .ty "int") (by rfl) T.z_int (by decide +kernel) rfl) pa_nil))) (pe_and (pe_not (pe_callB (call_isiK2 K) (by rfl) T.z_isinstance (by decide +kernel) (pa_cons (pv 0) (pa_cons (pe_bltn (v := .ty "bool") (by rfl) T.z_bool (by decide +kernel) rfl) pa_nil)))) (pe_one (pe_cmpR op_eq (pv 0) (pv 1) (nomark _)))))))))))
    , fun bx args Pr h => ?_⟩)
  obtain ⟨h | h, rfl⟩ := h
  · obtain ⟨x, hx, rfl⟩ := h
    rcases hx with ⟨i, rfl⟩ | ⟨c, rfl⟩ | ⟨ts, rfl, hts, hl⟩
    · refine q_skip (EvB1.cast (b_or (b_B (e_isi (e_var rfl) k_int_list)) (fun _ => b_B (e_isi (e_var rfl) k_int_tuple))) rfl) ?_
      refine q_skip (EvB1.cast (b_B (e_isN (e_var rfl))) rfl) (q_skip (EvB1.cast (b_B (e_isi (e_var rfl) k_int_bool)) rfl) (q_skip (EvB1.cast (b_B (e_isi (e_var rfl) k_int_str)) rfl) ?_))
      exact tr_ret1 (Ev1.cast (e_andV (e_isi (e_var rfl) k_int_int) (fun _ => e_andV (e_notV (e_isi (e_var rfl) k_int_bool)) (fun _ => e_eqI (e_var rfl) (e_var rfl)))) (y := .bl true) (by simp)) rfl
    · refine q_skip (EvB1.cast (b_or (b_B (e_isi (e_var rfl) k_bool_list)) (fun _ => b_B (e_isi (e_var rfl) k_bool_tuple))) rfl) ?_
      refine q_skip (EvB1.cast (b_B (e_isN (e_var rfl))) rfl) (q_take (EvB1.cast (b_B (e_isi (e_var rfl) k_bool_bool)) rfl) ?_)
      exact tr_ret1 (Ev1.cast (e_andV (e_isi (e_var rfl) k_bool_bool) (fun _ => e_eqB (e_var rfl) (e_var rfl))) (y := .bl true) (by simp)) rfl
    · refine q_take (EvB1.cast (b_or (b_B (e_isi (e_var rfl) k_tuple_list)) (fun _ => b_B (e_isi (e_var rfl) k_tuple_tuple))) rfl) ?_
      refine q_skip (EvB1.cast (b_or (b_test (e_neB (e_isi (e_var rfl) k_tuple_list) (e_isi (e_var rfl) k_tuple_list))) (fun _ => b_test (e_neB (e_isi (e_var rfl) k_tuple_tuple) (e_isi (e_var rfl) k_tuple_tuple)))) rfl) ?_
      refine q_skip (EvB1.cast (b_test (e_neI (e_lenT (e_var rfl)) (e_lenT (e_var rfl)))) (by simp)) ?_
      refine tr_seq (M := fun as' => ∃ u, as' = [.t (.tup ts), .t (.tup ts), u]) (tr_rangeD (n := ts.length) (vs_cons (e_lenT (e_var rfl)) vs_nil) hl (fun m as' => ∃ u, as' = [.t (.tup ts), .t (.tup ts), u]) ⟨_, rfl⟩ ?_ (fun _ h => h)) ?_
      · rintro m as' hm ⟨u, rfl⟩
        obtain ⟨x, hx, hm2⟩ := at_mem hm
        refine tr_if1 (b := false) (EvB1.cast (b_not (b_B (e_call (x := .bl true) (a_cons (e_ixST (e_var rfl) (e_var rfl) hx) (a_cons (e_ixST (e_var rfl) (e_var rfl) hx) a_nil)) ?_))) rfl) (fun c => by cases c) (fun _ => tr_next ⟨_, rfl⟩)
        cases d with
        | zero => exact (hts x hm2).elim
        | succ d => exact ⟨.inl ⟨x, hts x hm2, rfl⟩, rfl⟩
      · rintro as' ⟨u, rfl⟩
        exact tr_ret1 e_bl rfl
  · obtain ⟨ts, hts, hl, rfl⟩ := h
    refine q_take (EvB1.cast (b_or (b := false) (b_B (e_isiL (r_varL rfl) k_list_list)) (fun c => by cases c)) rfl) ?_
    refine q_skip (EvB1.cast (b_or (b_test (e_neB (e_isiL (r_varL rfl) k_list_list) (e_isiL (r_varL rfl) k_list_list))) (fun _ => b_test (e_neB (e_isiL (r_varL rfl) k_list_tuple) (e_isiL (r_varL rfl) k_list_tuple)))) rfl) ?_
    refine q_skip (EvB1.cast (b_test (e_neI (e_len (r_varL rfl)) (e_len (r_varL rfl)))) (by simp)) ?_
    refine tr_seq (M := fun as' => ∃ u, as' = [.l ts, .l ts, u]) (tr_rangeD (n := ts.length) (vs_cons (e_len (r_varL rfl)) vs_nil) hl (fun m as' => ∃ u, as' = [.l ts, .l ts, u]) ⟨_, rfl⟩ ?_ (fun _ h => h)) ?_
    · rintro m as' hm ⟨u, rfl⟩
      obtain ⟨x, hx, hm2⟩ := at_mem hm
      refine tr_if1 (b := false) (EvB1.cast (b_not (b_B (e_call (x := .bl true) (a_cons (e_ixSL (r_varL rfl) (e_var rfl) hx) (a_cons (e_ixSL (r_varL rfl) (e_var rfl) hx) a_nil)) ?_))) rfl) (fun c => by cases c) (fun _ => tr_next ⟨_, rfl⟩)
      cases d with
      | zero => exact (hts x hm2).elim
      | succ d => exact ⟨.inl ⟨x, hts x hm2, rfl⟩, rfl⟩
    · rintro as' ⟨u, rfl⟩
      exact tr_ret1 e_bl rfl
theorem ok_same {P : Program} {w : World} {K : PySem.W.Frag} {mg : Str → Option Value} {base : Heap} (T : Txt K mg) : ∀ d, FnOk P w K mg base CX0 d T._law_same.a T._law_same.fd ["_law_actual", "_law_due"] (spF K (R_same d))
  | 0 => same_zero T
  | d + 1 => same_succ T d (ok_same T d)
end K12
namespace K12
open PySem L2 Evl

/-! ### the plan, what starts today, and the tries around them -/
/-- a promise over data of a def that may raise NoPlan -/
def spX (K : PySem.W.Frag) (C : Addr) (R : List Arg → (Res → Prop) → Prop → Prop) : Sp := fun vs H Q E => ∃ (bx : BX) (args : List Arg) (Pr : Res → Prop) (lt : Prop), R args Pr lt ∧ BoxOk bx H ∧ ArgsOk K bx H args vs ∧
  (∀ r v H', Pr r → JB bx H H' → ResOk H H' r v → Q v H') ∧ (lt → ∀ H', JB bx H H' → E (.ref C) none H')
theorem fn_trX {P : Program} {w : World} {K : PySem.W.Frag} {mg : Str → Option Value} {base : Heap} {C : Addr} {x qual : Str} {st : Stmt} {f : Addr} {fd : FuncData} {N ps : List Str} {k : Nat} {R : List Arg → (Res → Prop) → Prop → Prop} (F : Fun K x qual st f fd) (S : FnScope N ps (defScope st)) (len : ∀ args Pr lt, R args Pr lt → args.length = ps.length)
    (hb : ∀ (cdv : Value) (Ar : Around) (outer : List Env) (s : Shared) (H : Hp) (E : XK), Room k (Ar.deeper (PyProof.Rows.envOfC qual (defScope st) s.heap.objs.size f cdv)) →
      ∃ t, PSs (cxOf (L2.CX P w) P w K mg base N qual (defScope st) f cdv Ar outer s H E) (defBody st) t ∧ ∀ bx args Pr lt, R args Pr lt → (lt → ∀ H', JB bx H H' → E (.ref C) none H') → Tr K bx H t (args.map Arg.toA ++ List.replicate (N.length - ps.length) A.x) { rt := Pr }) :
    FnOk P w K mg base (L2.CX P w) (k + 1) f fd ps (spX K C R) := by
  refine F.okX S (fun vs H Q E h => ?_) (fun cdv A outer s H vs Q E hr h => ?_)
  · obtain ⟨bx, args, Pr, lt, hR, _, ha, _⟩ := h
    rw [ha.len, len args Pr lt hR]
  · obtain ⟨t, hp, ht⟩ := hb cdv A outer s H E hr
    obtain ⟨bx, args, Pr, lt, hR, hbx, ha, q, qe⟩ := h
    refine ⟨t, hp, ht bx args Pr lt hR qe [] H _ _ ⟨JB.refl H, hbx, ?_, fun i x e => ?_, fun i j x y a e1 _ m _ => (toA_own e1 m).elim, fun _ h => nomatch h⟩ (fun _ _ _ h => h.elim) (fun r v H' pr e ok => q r v H' pr e ok) (fun _ _ _ h => h.elim) (fun _ _ _ h => h.elim)⟩
    · unfold L2.start
      rw [List.length_append, List.length_append, List.length_map, List.length_map, List.length_replicate, List.length_replicate, ha.len, len args Pr lt hR]
    · unfold L2.start
      have h := si_start ha (N.length - ps.length) i x e
      rw [ha.len, len args Pr lt hR]
      exact h
section
variable {K : PySem.W.Frag} {bx : BX} {H0 : Hp} {as : List A} {p : Ps} {ta : TA} {C : Addr} {R : List Arg → (Res → Prop) → Prop → Prop} {args : List Arg} {Pr : Res → Prop} {lt : Prop}
theorem tr_raise {E : XK} (h : ∀ H', JB bx H0 H' → E (.ref C) none H') : Tr K bx H0 (fun _ _ H => E (.ref C) none H) as p := fun F H σ D S k1 k2 k3 k4 => h H S.ev
/-- a call that does not raise -/
theorem e_callX {E : L2.St → XK} {x : T} (h : EvAs1 K bx ta as args) (k : R args Pr lt) (hl : ¬ lt) (hx : ∀ r, Pr r → r = .t x) : Ev1 K bx (tCallS (spX K C R) E ta) as x := fun F H0 H σ S Q q =>
  h F H0 H σ S _ fun rs vs H1 e e1 r1 => by
    subst e
    refine ⟨bx, rs, Pr, lt, k, e1.box S.boxH, r1, fun r v H2 pr e2 ok => ?_, fun z => absurd z hl⟩
    have := hx r pr
    subst this
    exact q x v H2 rfl (e1.trans e2) ok
theorem n_callX {E : L2.St → XK} {x : List T} (h : EvAs1 K bx ta as args) (k : R args Pr lt) (hl : ¬ lt) (hx : ∀ r, Pr r → r = .n x) : EvN1 K bx (tCallS (spX K C R) E ta) as x := fun F H0 H σ S Q q =>
  h F H0 H σ S _ fun rs vs H1 e e1 r1 => by
    subst e
    refine ⟨bx, rs, Pr, lt, k, e1.box S.boxH, r1, fun r v H2 pr e2 ok => ?_, fun z => absurd z hl⟩
    have := hx r pr
    subst this
    obtain ⟨a, xs, rfl, ha, hx2, rr⟩ := ok
    exact q x a xs H2 rfl (e1.trans e2) (e1.back S.boxH ha) hx2 rr
/-- a call that raises -/
theorem x_callX {E : L2.St → XK} {F : List (Addr × List V)} {H : Hp} {σ : L2.St} {Q : VK} (S : SI K bx F H0 H as σ) (h : EvAs1 K bx ta as args) (k : R args Pr lt) (hn : ∀ r, ¬ Pr r) (hE : ∀ H', JB bx H H' → E σ (.ref C) none H') : tCallS (spX K C R) E ta σ H Q :=
  h F H0 H σ S _ fun rs vs H1 e e1 r1 => by
    subst e
    exact ⟨bx, rs, Pr, lt, k, e1.box S.boxH, r1, fun r v H2 pr e2 ok => absurd pr (hn r), fun _ H2 e2 => hE H2 (e1.trans e2)⟩
end
def R_latest_plan : List Arg → (Res → Prop) → Prop → Prop := fun args Pr lt => ∃ (b : Bill) (k : Books), (BillOk b ∧ BooksOk b.length k) ∧ args = [.t (eBill b), .t (eBooks k)] ∧ (Pr = fun r => late k (needed b k) = false ∧ r = .t (ePlan (planOf (needed b k)))) ∧ lt = (late k (needed b k) = true)
theorem len_latest_plan : ∀ args Pr lt, R_latest_plan args Pr lt → args.length = 2 := fun args Pr lt h => by
  obtain ⟨_, _, _, rfl, _⟩ := h
  rfl
theorem planItem_len (i : Nat) : ∀ (r : Rows) (s : Int × List Start), (r.foldl (planStep i) s).2.length = s.2.length + r.length
  | [], s => rfl
  | x :: r, s => by
    rw [List.foldl_cons, planItem_len i r]
    show (s.2 ++ [_]).length + r.length = _
    rw [List.length_append, List.length_singleton, List.length_cons]
    omega
theorem planTo_len {b : Bill} {f : List Rows} (hf : FOk b f) : ∀ n, (planTo f n).length ≤ 130 * n
  | 0 => Nat.zero_le _
  | n + 1 => by
    have := planTo_len hf n
    have := hf.few n
    show ((f.getD n []).foldl (planStep n) (0, planTo f n)).2.length ≤ _
    rw [planItem_len]
    show (planTo f n).length + _ ≤ _
    omega
theorem getD_done {xs done rest : List Rows} {x : Rows} (h : xs = done ++ x :: rest) : xs.getD done.length [] = x := by
  rw [h, List.getD_eq_getElem?_getD, List.getElem?_append_right (Nat.le_refl _), Nat.sub_self]
  rfl
theorem ok_latest_plan {P : Program} {w : World} {K : PySem.W.Frag} {mg : Str → Option Value} {base : Heap} (T : Txt K mg) : FnOk P w K mg base (L2.CX P w) 6 T.latest_plan.a T.latest_plan.fd ["bill", "books"] (spX K T.np.C R_latest_plan) := by
  refine fn_trX T.latest_plan.F sc_latest_plan len_latest_plan (fun cdv Ar outer s H E hr => ⟨_,

    (pss_cons (ps_set (i := 2) sc_latest_plan.nd rfl (Or.inl rfl) (pe_lst pa_nil))
    (pss_cons (ps_for (passes_of rfl) rfl (pi_enumT (by rfl) T.z_enumerate (pa_cons (pe_call (ok_needed T) (hr.mono (by decide)) (by rfl) T.needed.m T.needed.F.kp T.needed.b .nil pass0 (pa_cons (pv 0) (pa_cons (pv 1) pa_nil))) pa_nil)) (pg_tupK K (by rfl) (pgs_cons (pg_name (i := 3) sc_latest_plan.nd rfl (Or.inl rfl)) (pgs_cons (pg_name (i := 4) sc_latest_plan.nd rfl (Or.inl rfl)) pgs_nil))) 
      (pss_cons (ps_set (i := 5) sc_latest_plan.nd rfl (Or.inl rfl) pe_int)
      (pss_one (ps_for (passes_of rfl) rfl (pi_tupK K (pv 4)) (pg_tupK K (by rfl) (pgs_cons (pg_name (i := 6) sc_latest_plan.nd rfl (Or.inl rfl)) (pgs_cons (pg_name (i := 7) sc_latest_plan.nd rfl (Or.inl rfl)) pgs_nil))) 
        (pss_cons (ps_if (pt_cmpR op_lt (pv 6) (pe_ix (ix_tupK K) (pv 1) pe_int (fun _ _ => rfl)) (nomark _)) 
          (pss_one (ps_raiseC rfl (takes_of rfl rfl rfl rfl) T.np (by rfl))) pss_nil)
        (pss_cons (ps_expr (pe_bmK K (pe_bm PySem.F.plainAttrs_list PySem.F.slot_list_append PySem.F.type_list_append mt_append (pv 2) (pa_cons (pe_tup (pa_cons (pv 3) (pa_cons (pv 6) (pa_cons (pe_op op_sub (pv 7) (pv 5)) pa_nil)))) pa_nil))))
        (pss_one (ps_set (i := 5) sc_latest_plan.nd rfl (Or.inl rfl) (pv 7)))))))))
    (pss_one (ps_ret (pe_callTy (call_tupleK K) (by rfl) T.z_tuple (by decide +kernel) (pa_cons (pv 2) pa_nil))))))
    , fun bx args Pr lt h hE => ?_⟩)
  obtain ⟨b, k, ⟨hb, hk⟩, rfl, rfl, rfl⟩ := h
  have n6 := hb.n6
  have hf := fok_needed hb hk
  have N := needs_ok hb hk
  refine q_asgN1 n_nil fun l => ?_
  refine tr_seq (M := fun as' => ∃ u1 u2 u3 u4 u5, as' = [.t (eBill b), .t (eBooks k), .o l ((planOf (needed b k)).map eStart), u1, u2, u3, u4, u5] ∧ ∀ r ∈ needed b k, ∀ x ∈ r, k.today ≤ x.1) (tr_enumT (enc := eRows) (xs := needed b k) (e_call (a_cons (e_var rfl) (a_cons (e_var rfl) a_nil)) ⟨b, k, ⟨hb, hk⟩, rfl, rfl⟩)
    (fun done as' => ∃ u1 u2 u3 u4 u5, as' = [.t (eBill b), .t (eBooks k), .o l ((planTo (needed b k) done.length).map eStart), u1, u2, u3, u4, u5] ∧ ∀ r ∈ done, ∀ x ∈ r, k.today ≤ x.1) ⟨.x, .x, .x, .x, .x, rfl, fun _ h => nomatch h⟩ ?_ ?_) ?_
  · rintro done r rest as' e ⟨u1, u2, u3, u4, u5, rfl, h0⟩
    have hd : done.length < b.length := by
      have := hf.len
      rw [e, List.length_append, List.length_cons] at this
      omega
    have hr1 := getD_done e
    have pl := planTo_len hf done.length
    have few := hf.few done.length
    rw [hr1] at few
    refine ⟨_, _, gt_tup (gts_cons (gts_cons gts_nil)), q_asg1 e_int ?_⟩
    refine tr_forT (enc := eRow) (xs := r) (e_var rfl) (fun d' as' => ∃ u4 u5, as' = [.t (eBill b), .t (eBooks k), .o l ((d'.foldl (planStep done.length) (0, planTo (needed b k) done.length)).2.map eStart), .t (.int (done.length : Int)), .t (eRows r), .t (.int (d'.foldl (planStep done.length) (0, planTo (needed b k) done.length)).1), u4, u5] ∧ ∀ x ∈ d', k.today ≤ x.1) ⟨_, _, rfl, fun _ h => nomatch h⟩ ?_ ?_
    · rintro d' x rest2 as' e2 ⟨u4, u5, rfl, h1⟩
      have sl := planItem_len done.length d' (0, planTo (needed b k) done.length)
      have dl : d'.length ≤ 130 := by rw [e2, List.length_append] at few; omega
      rw [List.foldl_append]
      generalize d'.foldl (planStep done.length) (0, planTo (needed b k) done.length) = st at sl ⊢
      refine ⟨_, _, gt_tup (gts_cons (gts_cons gts_nil)), tr_seq (M := fun as' => k.today ≤ x.1 ∧ as' = [.t (eBill b), .t (eBooks k), .o l (st.2.map eStart), .t (.int (done.length : Int)), .t (eRows r), .t (.int st.1), .t (.int x.1), .t (.int x.2)]) (tr_if1 (b := decide (x.1 < k.today)) (b_test (e_B0 (e_var rfl) (e_ixT (e_var rfl) e_int rfl))) (fun c => ?_) (fun c => ?_)) ?_⟩
      · refine tr_raise (hE ?_)
        show late k (needed b k) = true
        refine (late_iff N).mpr ⟨done.length, hd, x, ?_, of_decide_eq_true c⟩
        rw [hr1, e2]
        simp
      · have := of_decide_eq_false c
        exact tr_next ⟨by omega, rfl⟩
      · rintro as' ⟨hx, rfl⟩
        refine tr_seq (M := fun as' => as' = [.t (eBill b), .t (eBooks k), .o l ((st.2 ++ [(done.length, x.1, x.2 - st.1)]).map eStart), .t (.int (done.length : Int)), .t (eRows r), .t (.int st.1), .t (.int x.1), .t (.int x.2)]) (tr_app1 (x := eStart (done.length, x.1, x.2 - st.1)) rfl (e_tup (vs_cons (e_var rfl) (vs_cons (e_var rfl) (vs_cons (e_I0 (e_var rfl) (e_var rfl)) vs_nil)))) ?_ ?_) ?_
        · rw [List.length_map, sl]
          show (planTo (needed b k) done.length).length + d'.length < 100000
          omega
        · show _ = [_, _, A.o l ((st.2 ++ [_]).map eStart), _, _, _, _, _]
          rw [List.map_append]; rfl
        · rintro as' rfl
          refine tr_asg1 (e_var rfl) ⟨.t (.int x.1), .t (.int x.2), rfl, fun y hy => ?_⟩
          rcases List.mem_append.mp hy with z | z
          · exact h1 y z
          · have : y = x := by simpa using z
            rw [this]; exact hx
    · rintro as' ⟨u4, u5, rfl, h1⟩
      have ep : planTo (needed b k) (done ++ [r]).length = (r.foldl (planStep done.length) (0, planTo (needed b k) done.length)).2 := by
        rw [List.length_append, List.length_singleton]
        show planItem (planTo (needed b k) done.length) done.length ((needed b k).getD done.length []) = _
        rw [hr1]
        rfl
      have h2 : ∀ r' ∈ done ++ [r], ∀ x ∈ r', k.today ≤ x.1 := fun r' hr' x hx => by
        rcases List.mem_append.mp hr' with z | z
        · exact h0 r' z x hx
        · have : r' = r := by simpa using z
          exact h1 x (this ▸ hx)
      show ∃ u1 u2 u3 u4 u5, _ = [A.t (eBill b), A.t (eBooks k), A.o l ((planTo (needed b k) (done ++ [r]).length).map eStart), u1, u2, u3, u4, u5] ∧ ∀ r' ∈ done ++ [r], ∀ x ∈ r', k.today ≤ x.1
      rw [ep]
      exact ⟨_, _, _, u4, u5, rfl, h2⟩
  · rintro as' ⟨u1, u2, u3, u4, u5, rfl, h⟩
    exact ⟨u1, u2, u3, u4, u5, rfl, h⟩
  · rintro as' ⟨u1, u2, u3, u4, u5, rfl, h⟩
    refine tr_ret1 (e_tuple (r_varO rfl)) ⟨?_, rfl⟩
    cases c : late k (needed b k) with
    | false => rfl
    | true =>
      obtain ⟨i, hi, x, hx, hlt⟩ := (late_iff N).mp c
      have hil : i < (needed b k).length := by rw [hf.len]; exact hi
      have hm : (needed b k).getD i [] ∈ needed b k := by
        rw [List.getD_eq_getElem?_getD, List.getElem?_eq_getElem hil]
        exact List.getElem_mem hil
      have := h _ hm x hx
      omega
/-! starts_today -/
def R_starts_today : List Arg → (Res → Prop) → Prop → Prop := fun args Pr lt => ∃ (b : Bill) (k : Books), (BillOk b ∧ BooksOk b.length k) ∧ args = [.t (eBill b), .t (eBooks k)] ∧ (Pr = fun r => late k (needed b k) = false ∧ r = .n ((todayOf k (planOf (needed b k))).map ePair)) ∧ lt = (late k (needed b k) = true)
theorem len_starts_today : ∀ args Pr lt, R_starts_today args Pr lt → args.length = 2 := fun args Pr lt h => by
  obtain ⟨_, _, _, rfl, _⟩ := h
  rfl
theorem ok_starts_today {P : Program} {w : World} {K : PySem.W.Frag} {mg : Str → Option Value} {base : Heap} (T : Txt K mg) : FnOk P w K mg base (L2.CX P w) 7 T.starts_today.a T.starts_today.fd ["bill", "books"] (spX K T.np.C R_starts_today) := by
  refine fn_trX T.starts_today.F sc_starts_today len_starts_today (fun cdv Ar outer s H E hr => ⟨_,

    (pss_one (ps_ret (pe_lc (own := [("item", 2), ("day", 3), ("lots", 4)]) (g := gTup K 3 (gCons (gName 2) (gCons (gName 3) (gCons (gName 4) gNil)))) rfl sc_starts_today.nd (pi_tupK K (pe_callS (ok_latest_plan T) (hr.mono (by decide)) (by rfl) T.latest_plan.m T.latest_plan.F.kp T.latest_plan.b (fun s => passAt (takes_of rfl rfl rfl rfl) s) (pa_cons (pv 0) (pa_cons (pv 1) pa_nil)))) (blkOk_by (own := [("item", 2), ("day", 3), ("lots", 4)]) (N := N_starts_today) (sc := defScope s_starts_today) (by decide +kernel)) (fun _ _ _ _ _ => (pg_tupK K (by rfl) (pgs_cons (pg_name (i := 2) sc_starts_today.nd rfl (Or.inl rfl)) (pgs_cons (pg_name (i := 3) sc_starts_today.nd rfl (Or.inl rfl)) (pgs_cons (pg_name (i := 4) sc_starts_today.nd rfl (Or.inl rfl)) pgs_nil))))) (fun _ _ _ _ _ => (pts_one (pt_cmpR op_eq (pv 3) (pe_ix (ix_tupK K) (pv 1) pe_int (fun _ _ => rfl)) (nomark _)))) (fun _ _ _ _ _ => (pe_tup (pa_cons (pv 2) (pa_cons (pv 4) pa_nil)))))))
    , fun bx args Pr lt h hE => ?_⟩)
  obtain ⟨b, k, ⟨hb, hk⟩, rfl, rfl, rfl⟩ := h
  have n6 := hb.n6
  have hf := fok_needed hb hk
  have pl := planTo_len hf (needed b k).length
  have hl := hf.len
  cases c : late k (needed b k) with
  | false =>
    refine tr_retN (P := fun ts => ts = (todayOf k (planOf (needed b k))).map ePair) (EvN1.cast (lcT_det (enc := eStart) (xs := planOf (needed b k)) (fun s => decide (s.2.1 = k.today)) (fun s => ePair (s.1, s.2.2))
      (e_callX (a_cons (e_var rfl) (a_cons (e_var rfl) a_nil)) ⟨b, k, ⟨hb, hk⟩, rfl, rfl, rfl⟩ (by rw [c]; decide) (fun r h => h.2)) (by show (planTo (needed b k) (needed b k).length).length < 50000; omega) (by simp)
      fun s _ => ⟨_, gt_tup (gts_cons (gts_cons (gts_cons gts_nil))), b_test (e_eqI (e_var rfl) (e_ixT (e_var rfl) e_int rfl)), fun _ => e_tup (vs_cons (e_var rfl) (vs_cons (e_var rfl) vs_nil))⟩) ?_) (fun ts e => ⟨rfl, by rw [e]⟩)
    unfold todayOf
    rw [List.map_map]
    rfl
  | true =>
    intro F H1 σ D S k1 k2 k3 k4
    exact x_callX S (a_cons (e_var rfl) (a_cons (e_var rfl) a_nil)) ⟨b, k, ⟨hb, hk⟩, rfl, rfl, rfl⟩ (fun r h => by rw [c] at h; cases h.1) fun H2 e2 => hE c H2 (S.ev.trans e2)
/-! the law's two tries -/
def R__law_told : List Arg → (Res → Prop) → Prop := fun args Pr => ∃ (b : Bill) (k : Books), (BillOk b ∧ BooksOk b.length k) ∧ args = [.t (eBill b), .t (eBooks k)] ∧ Pr = fun r => (late k (needed b k) = false ∧ r = .t (ePlan (planOf (needed b k)))) ∨ (late k (needed b k) = true ∧ r = .t .non)
theorem len__law_told : ∀ args Pr, R__law_told args Pr → args.length = 2 := fun args Pr h => by
  obtain ⟨_, _, _, rfl, _⟩ := h
  rfl
theorem ok__law_told {P : Program} {w : World} {K : PySem.W.Frag} {mg : Str → Option Value} {base : Heap} (T : Txt K mg) : FnOk P w K mg base CX0 7 T._law_told.a T._law_told.fd ["_law_bill_here", "_law_books_here"] (spF K R__law_told) := by
  refine fn_tr T._law_told.F sc__law_told len__law_told (fun cdv Ar outer s H E hr => ⟨_,
    pss_one (ps_try_as (i := 2) rfl rfl sc__law_told.nd rfl rfl ⟨rfl, by decide, .inl T.np.gC⟩ takes0 (fun W pn xe tk _ => pss_one (ps_ret (pe_callS (ok_latest_plan T) (hr.mono (by decide)) (by rfl) T.latest_plan.m T.latest_plan.F.kp T.latest_plan.b (fun s => passAt tk s) (pa_cons (pv 0) (pa_cons (pv 1) pa_nil))))) (fun a oe cls d pn hz hf => pss_one (ps_ret pe_non)))
    , fun bx args Pr h => ?_⟩)
  obtain ⟨b, k, ⟨hb, hk⟩, rfl, rfl⟩ := h
  cases c : late k (needed b k) with
  | false =>
    intro F H1 σ D S k1 k2 k3 k4
    exact tr_ret1 (K := K) (bx := bx) (H0 := H) (p := { rt := fun r => r = .t (ePlan (planOf (needed b k))) }) (e_callX (a_cons (e_var rfl) (a_cons (e_var rfl) a_nil)) ⟨b, k, ⟨hb, hk⟩, rfl, rfl, rfl⟩ (by rw [c]; decide) (fun r h => h.2)) rfl F H1 σ D S (fun _ _ _ h => h.elim) (fun r v H' e => k2 r v H' (.inl ⟨rfl, e⟩)) (fun _ _ _ h => h.elim) (fun _ _ _ h => h.elim)
  | true =>
    intro F H1 σ D S k1 k2 k3 k4
    refine x_callX S (a_cons (e_var rfl) (a_cons (e_var rfl) a_nil)) ⟨b, k, ⟨hb, hk⟩, rfl, rfl, rfl⟩ (fun r h => by rw [c] at h; cases h.1) fun H2 e2 => ?_
    exact ⟨true, T.np.eC, fun _ a ha => k2 (.t .non) .non H2 (.inr ⟨rfl, rfl⟩) (S.ev.trans e2) (rep_non (H := H2).mpr rfl), fun q => Bool.noConfusion q⟩
def R__law_today : List Arg → (Res → Prop) → Prop := fun args Pr => ∃ (b : Bill) (k : Books), (BillOk b ∧ BooksOk b.length k) ∧ args = [.t (eBill b), .t (eBooks k)] ∧ Pr = fun r => (late k (needed b k) = false ∧ r = .n ((todayOf k (planOf (needed b k))).map ePair)) ∨ (late k (needed b k) = true ∧ r = .t .non)
theorem len__law_today : ∀ args Pr, R__law_today args Pr → args.length = 2 := fun args Pr h => by
  obtain ⟨_, _, _, rfl, _⟩ := h
  rfl
theorem ok__law_today {P : Program} {w : World} {K : PySem.W.Frag} {mg : Str → Option Value} {base : Heap} (T : Txt K mg) : FnOk P w K mg base CX0 8 T._law_today.a T._law_today.fd ["_law_bill_here", "_law_books_here"] (spF K R__law_today) := by
  refine fn_tr T._law_today.F sc__law_today len__law_today (fun cdv Ar outer s H E hr => ⟨_,
    pss_one (ps_try_as (i := 2) rfl rfl sc__law_today.nd rfl rfl ⟨rfl, by decide, .inl T.np.gC⟩ takes0 (fun W pn xe tk _ => pss_one (ps_ret (pe_callS (ok_starts_today T) (hr.mono (by decide)) (by rfl) T.starts_today.m T.starts_today.F.kp T.starts_today.b (fun s => passAt tk s) (pa_cons (pv 0) (pa_cons (pv 1) pa_nil))))) (fun a oe cls d pn hz hf => pss_one (ps_ret pe_non)))
    , fun bx args Pr h => ?_⟩)
  obtain ⟨b, k, ⟨hb, hk⟩, rfl, rfl⟩ := h
  cases c : late k (needed b k) with
  | false =>
    intro F H1 σ D S k1 k2 k3 k4
    exact tr_retN (K := K) (bx := bx) (H0 := H) (P := fun ts => ts = (todayOf k (planOf (needed b k))).map ePair) (p := { rt := fun r => r = .n ((todayOf k (planOf (needed b k))).map ePair) }) (n_callX (a_cons (e_var rfl) (a_cons (e_var rfl) a_nil)) ⟨b, k, ⟨hb, hk⟩, rfl, rfl, rfl⟩ (by rw [c]; decide) (fun r h => h.2)) (fun ts e => by rw [e]) F H1 σ D S (fun _ _ _ h => h.elim) (fun r v H' e => k2 r v H' (.inl ⟨rfl, e⟩)) (fun _ _ _ h => h.elim) (fun _ _ _ h => h.elim)
  | true =>
    intro F H1 σ D S k1 k2 k3 k4
    refine x_callX S (a_cons (e_var rfl) (a_cons (e_var rfl) a_nil)) ⟨b, k, ⟨hb, hk⟩, rfl, rfl, rfl⟩ (fun r h => by rw [c] at h; cases h.1) fun H2 e2 => ?_
    exact ⟨true, T.np.eC, fun _ a ha => k2 (.t .non) .non H2 (.inr ⟨rfl, rfl⟩) (S.ev.trans e2) (rep_non (H := H2).mpr rfl), fun q => Bool.noConfusion q⟩
end K12
namespace K12
open PySem L2 Evl

/-! ### the law's makers: cells, digits, draws, texts, names, bills, books -/
def R__law_cell : List Arg → (Res → Prop) → Prop := fun args Pr => ∃ (ns : List Int) (k : Nat), True ∧ args = [.r (ns.map .int), .t (.int (k : Int))] ∧ Pr = fun r => ∃ i : Int, r = .t (.int i)
theorem len__law_cell : ∀ args Pr, R__law_cell args Pr → args.length = 2 := fun args Pr h => by
  obtain ⟨_, _, _, rfl, _⟩ := h
  rfl
theorem ok__law_cell {P : Program} {w : World} {K : PySem.W.Frag} {mg : Str → Option Value} {base : Heap} (T : Txt K mg) : FnOk P w K mg base CX0 1 T._law_cell.a T._law_cell.fd ["_law_script", "_law_k"] (spF K R__law_cell) := by
  refine fn_tr T._law_cell.F sc__law_cell (len__law_cell) (fun cdv Ar outer s H E hr => ⟨_, 
    (pss_cons (ps_if (pt_cmpR op_lt (pv 1) (pe_callB (call_lenK K) (by rfl) T.z_len PySem.boot_len (pa_cons (pv 0) pa_nil)) (nomark _)) 
      (pss_one (ps_ret (pe_ix (ix_listK K) (pv 0) (pv 1) (fun _ _ => rfl)))) pss_nil)
    (pss_one (ps_ret pe_int))), fun bx args Pr h => ?_⟩)
  obtain ⟨ns, k, _, rfl, rfl⟩ := h
  have e1 : EvB1 K bx (tTest (tOp (rI0 fun i j => .bl (decide (i < j))) (tVar 1) (tCB (rLenS K) (tCons (tVar 0) tNil)))) [.l (ns.map .int), .t (.int (k : Int))] (decide ((k : Int) < ((ns.map K12.T.int).length : Nat))) := b_test (e_B0 (e_var rfl) (e_len (r_varL rfl)))
  by_cases c : k < ns.length
  · refine q_take (EvB1.cast e1 (decide_eq_true (by rw [List.length_map]; omega))) ?_
    exact tr_ret1 (e_ixL (x := .int ns[k]) (r_varL rfl) (e_var rfl) (atI_nat (by rw [List.getElem?_map, List.getElem?_eq_getElem c]; rfl))) ⟨_, rfl⟩
  · refine q_skip (EvB1.cast e1 (decide_eq_false (by rw [List.length_map]; omega))) ?_
    exact tr_ret1 e_int ⟨_, rfl⟩
def R__law_digits : List Arg → (Res → Prop) → Prop := fun args Pr => ∃ (ns : List Int), True ∧ args = [.r (ns.map .int), .t (.int 0), .t (.int 63)] ∧ Pr = fun r => ∃ ds : List Int, r = .n (ds.map .int)
theorem len__law_digits : ∀ args Pr, R__law_digits args Pr → args.length = 3 := fun args Pr h => by
  obtain ⟨_, _, rfl, _⟩ := h
  rfl
theorem ok__law_digits {P : Program} {w : World} {K : PySem.W.Frag} {mg : Str → Option Value} {base : Heap} (T : Txt K mg) : FnOk P w K mg base CX0 2 T._law_digits.a T._law_digits.fd ["_law_script", "_law_first_here", "_law_last_here"] (spF K R__law_digits) := by
  refine fn_tr T._law_digits.F sc__law_digits (len__law_digits) (fun cdv Ar outer s H E hr => ⟨_, 
    (pss_cons (ps_set (i := 3) sc__law_digits.nd rfl (Or.inl rfl) (pe_lst pa_nil))
    (pss_cons (ps_for PassesOwn.never rfl (pi_range2 (by rfl) T.z_range (pa_cons (pv 1) (pa_cons (pv 2) pa_nil))) (pg_name (i := 4) sc__law_digits.nd rfl (Or.inl rfl)) 
      (pss_cons (ps_set (i := 5) sc__law_digits.nd rfl (Or.inl rfl) (pe_call (ok__law_cell T) (hr.mono (by decide)) (by rfl) T._law_cell.m T._law_cell.F.kp T._law_cell.b .nil pass0 (pa_cons (pv 0) (pa_cons (pv 4) pa_nil))))
      (pss_cons (ps_if (pt_cmpR op_lt (pv 5) pe_int (nomark _)) 
        (pss_one (ps_set (i := 5) sc__law_digits.nd rfl (Or.inl rfl) (pe_op op_sub pe_int (pe_op op_mul pe_int (pv 5))))) pss_nil)
      (pss_one (ps_if (pt_cmpR op_ge (pv 5) (pe_op op_pow pe_int pe_int) (nomark _)) 
        (pss_one (ps_for PassesOwn.never rfl (pi_range1 (by rfl) T.z_range (pa_cons pe_int pa_nil)) (pg_name (i := 6) sc__law_digits.nd rfl (Or.inl rfl)) 
          (pss_one (ps_if (pt_cmpR op_gt (pv 5) pe_int (nomark _)) 
            (pss_cons (ps_expr (pe_bmK K (pe_bm PySem.F.plainAttrs_list PySem.F.slot_list_append PySem.F.type_list_append mt_append (pv 3) (pa_cons (pe_op op_mod (pe_callTy call_int1 (by rfl) T.z_int (by decide +kernel) (pa_cons (pv 5) pa_nil)) pe_int) pa_nil))))
            (pss_one (ps_set (i := 5) sc__law_digits.nd rfl (Or.inl rfl) (pe_op op_fdiv (pv 5) pe_int)))) pss_nil)))) 
        (pss_cons (ps_set (i := 7) sc__law_digits.nd rfl (Or.inl rfl) (pe_op op_mod (pe_callTy call_int1 (by rfl) T.z_int (by decide +kernel) (pa_cons (pe_op op_add (pe_op op_add (pe_op op_mul (pv 5) pe_int) (pe_op op_mul (pv 4) pe_int)) pe_int) pa_nil)) pe_int))
        (pss_one (ps_for PassesOwn.never rfl (pi_range1 (by rfl) T.z_range (pa_cons pe_int pa_nil)) (pg_name (i := 6) sc__law_digits.nd rfl (Or.inl rfl)) 
          (pss_cons (ps_set (i := 7) sc__law_digits.nd rfl (Or.inl rfl) (pe_op op_mod (pe_callTy call_int1 (by rfl) T.z_int (by decide +kernel) (pa_cons (pe_op op_add (pe_op op_add (pe_op op_mul (pv 7) pe_int) (pe_op op_mul pe_int (pv 6))) pe_int) pa_nil)) pe_int))
          (pss_one (ps_expr (pe_bmK K (pe_bm PySem.F.plainAttrs_list PySem.F.slot_list_append PySem.F.type_list_append mt_append (pv 3) (pa_cons (pe_op op_mod (pe_callTy call_int1 (by rfl) T.z_int (by decide +kernel) (pa_cons (pe_op op_fdiv (pv 7) pe_int) pa_nil)) pe_int) pa_nil))))))))))))))
    (pss_one (ps_ret (pv 3))))), fun bx args Pr h => ?_⟩)
  obtain ⟨ns, _, rfl, rfl⟩ := h
  refine q_asgN1 n_nil fun l => ?_
  refine tr_seq (M := fun as' => ∃ (ds : List Int) (u1 u2 u3 u4 : A), as' = [.l (ns.map .int), .t (.int 0), .t (.int 63), .o l (ds.map .int), u1, u2, u3, u4]) (tr_range2 (vs_cons (e_var rfl) (vs_cons (e_var rfl) vs_nil)) (by omega)
    (fun m as' => ∃ (ds : List Int) (u1 u2 u3 u4 : A), as' = [.l (ns.map .int), .t (.int 0), .t (.int 63), .o l (ds.map .int), u1, u2, u3, u4] ∧ ds.length ≤ 60 * m) ⟨[], .x, .x, .x, .x, rfl, Nat.zero_le _⟩ ?_ ?_) ?_
  · rintro m as' hm ⟨ds, u1, u2, u3, u4, rfl, hl⟩
    have hm2 : m < 63 := hm
    refine q_asg (P := fun x => ∃ i : Int, x = .int i) (n_callT (a_consR (r_varL rfl) (a_cons (e_var rfl) a_nil)) (fun args e => ⟨_, ⟨ns, m, trivial, by rw [e, Int.zero_add], rfl⟩, fun r ⟨i, e⟩ => ⟨_, e, i, rfl⟩⟩)) ?_
    rintro x ⟨c, rfl⟩
    refine tr_seq (M := fun as' => ∃ c : Int, as' = [.l (ns.map .int), .t (.int 0), .t (.int 63), .o l (ds.map .int), .t (.int (0 + (m : Int))), .t (.int c), u3, u4]) (tr_if1 (b := decide (c < 0)) (b_test (e_B0 (e_var rfl) e_int)) (fun _ => ?_) (fun _ => tr_next ⟨c, rfl⟩)) ?_
    · exact tr_asg1 (e_I0 e_int (e_I e_int (e_var rfl) (.inl ⟨by omega, by omega⟩))) ⟨_, rfl⟩
    rintro as' ⟨c, rfl⟩
    refine tr_if1 (b_test (e_B0 (e_var rfl) (e_I e_int e_int ⟨by omega, by omega, by decide⟩))) (fun _ => ?_) (fun _ => ?_)
    · refine tr_rangeD (n := 60) (vs_cons e_int vs_nil) (by omega) (fun z as' => ∃ (ds : List Int) (c : Int) (u3 : A), as' = [.l (ns.map .int), .t (.int 0), .t (.int 63), .o l (ds.map .int), .t (.int (0 + (m : Int))), .t (.int c), u3, u4] ∧ ds.length ≤ 60 * m + z) ⟨ds, c, u3, rfl, hl⟩ ?_ ?_
      · rintro z as' hz ⟨ds, c, u3, rfl, hl⟩
        refine tr_if1 (b_test (e_B0 (e_var rfl) e_int)) (fun _ => ?_) (fun _ => tr_next ⟨ds, c, _, rfl, by omega⟩)
        refine tr_seq (M := fun as' => as' = [.l (ns.map .int), .t (.int 0), .t (.int 63), .o l ((ds ++ [c % 1000]).map .int), .t (.int (0 + (m : Int))), .t (.int c), .t (.int (z : Int)), u4]) (tr_app1 (x := .int (c % 1000)) rfl (e_I (e_toInt (e_var rfl)) e_int (by show (0 : Int) < 1000; decide)) (by rw [List.length_map]; omega) (by rw [List.map_append]; rfl)) ?_
        rintro as' rfl
        refine tr_asg1 (e_I (e_var rfl) e_int ⟨by decide, by decide⟩) ⟨ds ++ [c % 1000], _, _, rfl, ?_⟩
        rw [List.length_append, List.length_singleton]; omega
      · rintro as' ⟨ds, c, u3, rfl, hl⟩
        exact ⟨ds, _, _, u3, u4, rfl, by omega⟩
    · refine q_asg1 (e_I (e_toInt (e_I0 (e_I0 (e_I (e_var rfl) e_int (.inr ⟨by omega, by omega⟩)) (e_I (e_var rfl) e_int (.inr ⟨by omega, by omega⟩))) e_int)) e_int (by show (0 : Int) < 2147483647; decide)) ?_
      refine tr_rangeD (n := 12) (vs_cons e_int vs_nil) (by omega) (fun z as' => ∃ (ds : List Int) (sd : Int) (u3 : A), as' = [.l (ns.map .int), .t (.int 0), .t (.int 63), .o l (ds.map .int), .t (.int (0 + (m : Int))), .t (.int c), u3, .t (.int sd)] ∧ ds.length ≤ 60 * m + z) ⟨ds, _, u3, rfl, hl⟩ ?_ ?_
      · rintro z as' hz ⟨ds, sd, u3, rfl, hl⟩
        refine q_asg (P := fun x => ∃ i : Int, x = .int i) (Ev1.any (e_I (e_toInt (e_I0 (e_I0 (e_I (e_var rfl) e_int (.inr ⟨by omega, by omega⟩)) (e_I e_int (e_var rfl) (.inl ⟨by omega, by omega⟩))) e_int)) e_int (by show (0 : Int) < 2147483647; decide)) ⟨_, rfl⟩) ?_
        rintro x ⟨sd2, rfl⟩
        refine tr_app1 (x := .int (sd2 / 997 % 1000)) rfl (e_I (e_toInt (e_I (e_var rfl) e_int ⟨by decide, by decide⟩)) e_int (by show (0 : Int) < 1000; decide)) (by rw [List.length_map]; omega) ⟨ds ++ [sd2 / 997 % 1000], sd2, .t (.int (z : Int)), ?_, ?_⟩
        · rw [List.map_append]; rfl
        · rw [List.length_append, List.length_singleton]; omega
      · rintro as' ⟨ds, sd, u3, rfl, hl⟩
        exact ⟨ds, _, _, u3, _, rfl, by omega⟩
  · rintro as' ⟨ds, u1, u2, u3, u4, rfl, hl⟩
    exact ⟨ds, u1, u2, u3, u4, rfl⟩
  · rintro as' ⟨ds, u1, u2, u3, u4, rfl⟩
    exact tr_retO rfl ⟨ds, rfl⟩
def R__law_draw : List Arg → (Res → Prop) → Prop := fun args Pr => ∃ (n : Int), 0 < n ∧ args = [.b, .t (.int n)] ∧ Pr = fun r => ∃ i : Int, r = .t (.int i) ∧ 0 ≤ i ∧ i < n
theorem len__law_draw : ∀ args Pr, R__law_draw args Pr → args.length = 2 := fun args Pr h => by
  obtain ⟨_, _, rfl, _⟩ := h
  rfl
theorem jb_box {bx : BX} {H : Hp} {b g : Addr} {j k : Nat} (hb : bx = some (b, g)) (B : BoxAt H b g) (h : H b = some (.lst [.ref g, .int (j : Int)])) : JB bx H (upd H b (.lst [.ref g, .int (k : Int)])) := by
  refine ⟨fun a o n e => by rw [upd_ne (n b g hb)]; exact e, fun _ b' g' e => ?_, fun a xs e => ?_⟩
  · rw [hb] at e
    cases e
    obtain ⟨ne, j', ds, h1, h2⟩ := B
    exact ⟨ne, k, ds, upd_same, by rw [upd_ne ne.symm]; exact h2⟩
  · rw [upd_ne (fun z => by rw [z, h] at e; cases e)]
    exact e
theorem ok__law_draw {P : Program} {w : World} {K : PySem.W.Frag} {mg : Str → Option Value} {base : Heap} (T : Txt K mg) : FnOk P w K mg base CX0 1 T._law_draw.a T._law_draw.fd ["_law_box", "_law_many"] (spF K R__law_draw) := by
  refine fn_tr T._law_draw.F sc__law_draw (len__law_draw) (fun cdv Ar outer s H E hr => ⟨_, 
    (pss_cons (ps_set (i := 2) sc__law_draw.nd rfl (Or.inl rfl) (pe_ix (ix_listK K) (pv 0) pe_int (fun _ _ => rfl)))
    (pss_cons (ps_asg (pe_op op_add (pv 2) pe_int) (pg_sub (pv 0) pe_int set_list))
    (pss_cons (ps_if (pt_cmpR op_lt (pv 2) (pe_callB (call_lenK K) (by rfl) T.z_len PySem.boot_len (pa_cons (pe_ix (ix_listK K) (pv 0) pe_int (fun _ _ => rfl)) pa_nil)) (nomark _)) 
      (pss_one (ps_ret (pe_op op_mod (pe_callTy call_int1 (by rfl) T.z_int (by decide +kernel) (pa_cons (pe_ix (ix_listK K) (pe_ix (ix_listK K) (pv 0) pe_int (fun _ _ => rfl)) (pv 2) (fun _ _ => rfl)) pa_nil)) (pv 1)))) pss_nil)
    (pss_one (ps_ret pe_int))))), fun bx args Pr h => ?_⟩)
  obtain ⟨n, hn, rfl, rfl⟩ := h
  intro F H1 σ D S k1 k2 k3 k4
  obtain ⟨o, s0, b, g, hbx, rfl⟩ := S.slot 0 .b rfl
  obtain ⟨v1, s1, r1⟩ := S.at_ (i := 1) (d := .int n) rfl
  rw [rep_int.mp r1] at s1
  have hl : σ.length = 3 := S.len
  have B := S.boxH b g hbx
  obtain ⟨ne, j, ds, hb, hg⟩ := id B
  have t0 : (σ.set 2 (some (.int (j : Int))))[0]? = some (some (.ref b)) := by rw [List.getElem?_set_ne (by decide)]; exact s0
  have t1 : (σ.set 2 (some (.int (j : Int))))[1]? = some (some (.int n)) := by rw [List.getElem?_set_ne (by decide)]; exact s1
  have t2 : (σ.set 2 (some (.int (j : Int))))[2]? = some (some (.int (j : Int))) := List.getElem?_set_self (by omega)
  refine ⟨.ref b, s0, b, _, 1, .int (j : Int), rfl, rfl, SqL.of hb, rfl, ?_⟩
  refine ⟨.int (j : Int), t2, (j : Int), 1, rfl, rfl, .ref b, t0, b, _, 1, 1, rfl, rfl, hb, rfl, ?_⟩
  have J : JB bx H1 (upd H1 b (.lst [.ref g, .int ((j + 1 : Nat) : Int)])) := jb_box hbx B hb
  have hgb : (upd H1 b (.lst [.ref g, .int ((j + 1 : Nat) : Int)])) g = some (.lst (ds.map V.int)) := by rw [upd_ne ne.symm]; exact hg
  refine ⟨.int (j : Int), t2, .ref b, t0, b, _, 0, .ref g, rfl, rfl, SqL.of upd_same, rfl, g, ds.map V.int, rfl, .inl (SqL.of hgb), (j : Int), _, rfl, rfl, _, rfl, ?_⟩
  have fin : ∀ i : Int, 0 ≤ i → i < n → D.rt (.int i) (upd H1 b (.lst [.ref g, .int ((j + 1 : Nat) : Int)])) := fun i h1 h2 => k2 (.t (.int i)) (.int i) _ ⟨i, rfl, h1, h2⟩ (S.ev.trans J) (rep_int (H := upd H1 b (.lst [.ref g, .int ((j + 1 : Nat) : Int)])).mpr rfl)
  by_cases c : j < ds.length
  · have hd : decide ((j : Int) < (((ds.map V.int).length : Nat) : Int)) = true := decide_eq_true (by rw [List.length_map]; omega)
    dsimp only
    rw [if_pos hd]
    refine ⟨.ref b, t0, b, _, 0, .ref g, rfl, rfl, SqL.of upd_same, rfl, .int (j : Int), t2, g, ds.map V.int, (j : Int), .int ds[j], rfl, rfl, SqL.of hgb, atI_nat (by rw [List.getElem?_map, List.getElem?_eq_getElem c]; rfl), .inl ⟨ds[j], rfl, .int n, t1, ds[j], n, rfl, rfl, hn, ?_⟩⟩
    exact fin _ (Int.emod_nonneg _ (by omega)) (Int.emod_lt_of_pos _ hn)
  · have hd : ¬ decide ((j : Int) < (((ds.map V.int).length : Nat) : Int)) = true := fun z => by
      have := of_decide_eq_true z
      rw [List.length_map] at this
      omega
    dsimp only
    rw [if_neg hd]
    exact fin 0 (Int.le_refl 0) hn
/-- a draw -/
theorem n_draw {K : PySem.W.Frag} {bx : BX} {as : List A} {te : TE} {i : Nat} {E : XK} {p : Int → Prop} (h : as[i]? = some .b) (he : EvT K bx te as (PI p)) (hp : ∀ n, p n → 0 < n) : EvT K bx (tCall (spF K R__law_draw) [] E (tCons (tVar i) (tCons te tNil))) as (PI fun k => ∃ n, p n ∧ 0 ≤ k ∧ k < n) :=
  n_callT (PA := fun args => ∃ n : Int, args = [.b, .t (.int n)] ∧ p n) (fun F H0 H σ S Q q => a_consB h (a_consN (R := fun z => z = []) (R' := fun z => ∃ n : Int, z = [.t (.int n)] ∧ p n) he a_nil fun x r ⟨n, e, pn⟩ er => ⟨n, by rw [e, er], pn⟩) F H0 H σ S Q fun rs vs H' ⟨r, e1, n, e2, pn⟩ => q rs vs H' ⟨n, by rw [e1, e2], pn⟩)
    fun args ⟨n, e, pn⟩ => ⟨_, ⟨n, hp n pn, e, rfl⟩, fun r ⟨k, e, h1, h2⟩ => ⟨_, e, k, rfl, n, pn, h1, h2⟩⟩
theorem n_drawC {K : PySem.W.Frag} {bx : BX} {as : List A} {te : TE} {i : Nat} {E : XK} {n : Int} (h : as[i]? = some .b) (he : Ev1 K bx te as (.int n)) (hp : 0 < n) : EvT K bx (tCall (spF K R__law_draw) [] E (tCons (tVar i) (tCons te tNil))) as (PI fun k => 0 ≤ k ∧ k < n) :=
  (n_draw h he.pi (fun m e => by omega)).ints fun k ⟨m, e, h1, h2⟩ => ⟨h1, by omega⟩
def R__law_run : List Arg → (Res → Prop) → Prop := fun args Pr => ∃ (m : Int) (z : Str), (0 ≤ m ∧ m ≤ 100 ∧ 0 < z.length ∧ z.length ≤ 1000) ∧ args = [.b, .t (.int m), .t (.str z)] ∧ Pr = fun r => ∃ x, r = .t x ∧ SL 100 x
theorem len__law_run : ∀ args Pr, R__law_run args Pr → args.length = 3 := fun args Pr h => by
  obtain ⟨_, _, _, rfl, _⟩ := h
  rfl
theorem ok__law_run {P : Program} {w : World} {K : PySem.W.Frag} {mg : Str → Option Value} {base : Heap} (T : Txt K mg) : FnOk P w K mg base CX0 2 T._law_run.a T._law_run.fd ["_law_box", "_law_many", "_law_chars"] (spF K R__law_run) := by
  refine fn_tr T._law_run.F sc__law_run (len__law_run) (fun cdv Ar outer s H E hr => ⟨_, 
    (pss_cons (ps_set (i := 3) sc__law_run.nd rfl (Or.inl rfl) pe_str)
    (pss_cons (ps_for PassesOwn.never rfl (pi_range1 (by rfl) T.z_range (pa_cons (pv 1) pa_nil)) (pg_name (i := 4) sc__law_run.nd rfl (Or.inl rfl)) 
      (pss_one (ps_set (i := 3) sc__law_run.nd rfl (Or.inl rfl) (pe_op op_add_str (pv 3) (pe_ix ix_str (pv 2) (pe_call (ok__law_draw T) (hr.mono (by decide)) (by rfl) T._law_draw.m T._law_draw.F.kp T._law_draw.b .nil pass0 (pa_cons (pv 0) (pa_cons (pe_callB call_len_str (by rfl) T.z_len PySem.boot_len (pa_cons (pv 2) pa_nil)) pa_nil))) (fun _ _ => rfl))))))
    (pss_one (ps_ret (pv 3))))), fun bx args Pr h => ?_⟩)
  obtain ⟨m, z, ⟨h1, h2, h3, h4⟩, rfl, rfl⟩ := h
  refine q_asg (P := SL 0) (Ev1.any e_str ⟨_, rfl, by decide +kernel⟩) ?_
  rintro x0 ⟨s0, rfl, l0⟩
  refine tr_seq (M := fun as' => ∃ (s : Str) (u : A), as' = [.b, .t (.int m), .t (.str z), .t (.str s), u] ∧ s.length ≤ 100) (tr_rangeD (n := m.toNat) (vs_cons ((e_var rfl).cast (congrArg K12.T.int (by omega))) vs_nil) (by omega) (fun k as' => ∃ (s : Str) (u : A), as' = [.b, .t (.int m), .t (.str z), .t (.str s), u] ∧ s.length ≤ k) ⟨s0, .x, rfl, l0⟩ ?_ ?_) ?_
  · rintro k as' hk ⟨s, u, rfl, hl⟩
    refine tr_asg (n_addS (m := k) (n := 1) (n_var (x := .str s) rfl ⟨s, rfl, hl⟩) (n_sign (e_var rfl) (by omega) (n_drawC rfl (e_lenS (e_var rfl) (by omega)) (by omega)) (fun i h => h)) (by omega)) ?_
    rintro x ⟨s2, rfl, hl2⟩
    exact ⟨s2, .t (.int (k : Int)), rfl, hl2⟩
  · rintro as' ⟨s, u, rfl, hl⟩
    exact ⟨s, u, rfl, by omega⟩
  · rintro as' ⟨s, u, rfl, hl⟩
    exact tr_ret1 (e_var rfl) ⟨_, rfl, s, rfl, hl⟩
def R__law_name : List Arg → (Res → Prop) → Prop := fun args Pr => ∃ (ss : List Str), True ∧ args = [.b, .r (ss.map .str)] ∧ Pr = fun r => ∃ s : Str, r = .t (.str s)
theorem len__law_name : ∀ args Pr, R__law_name args Pr → args.length = 2 := fun args Pr h => by
  obtain ⟨_, _, rfl, _⟩ := h
  rfl
theorem at8 {a1 a2 a3 a4 a5 a6 a7 a8 : T} {P : T → Prop} (h1 : P a1) (h2 : P a2) (h3 : P a3) (h4 : P a4) (h5 : P a5) (h6 : P a6) (h7 : P a7) (h8 : P a8) (i : Int) (hi : 0 ≤ i ∧ i < 8) : ∃ y, atI [a1, a2, a3, a4, a5, a6, a7, a8] i = some y ∧ P y := by
  have : i = 0 ∨ i = 1 ∨ i = 2 ∨ i = 3 ∨ i = 4 ∨ i = 5 ∨ i = 6 ∨ i = 7 := by omega
  rcases this with e | e | e | e | e | e | e | e <;> subst e
  · exact ⟨a1, rfl, h1⟩
  · exact ⟨a2, rfl, h2⟩
  · exact ⟨a3, rfl, h3⟩
  · exact ⟨a4, rfl, h4⟩
  · exact ⟨a5, rfl, h5⟩
  · exact ⟨a6, rfl, h6⟩
  · exact ⟨a7, rfl, h7⟩
  · exact ⟨a8, rfl, h8⟩
theorem sl_of {s : Str} {n : Nat} (h : s.length ≤ n) : SL n (.str s) := ⟨s, rfl, h⟩
theorem ok__law_name {P : Program} {w : World} {K : PySem.W.Frag} {mg : Str → Option Value} {base : Heap} (T : Txt K mg) : FnOk P w K mg base CX0 3 T._law_name.a T._law_name.fd ["_law_box", "_law_taken"] (spF K R__law_name) := by
  refine fn_tr T._law_name.F sc__law_name (len__law_name) (fun cdv Ar outer s H E hr => ⟨_, 
    (pss_cons (ps_set (i := 2) sc__law_name.nd rfl (Or.inl rfl) (pe_ix (ix_listK K) (pe_lst (pa_cons pe_str (pa_cons pe_str (pa_cons pe_str (pa_cons pe_str (pa_cons pe_str (pa_cons pe_str (pa_cons pe_str (pa_cons pe_str pa_nil))))))))) (pe_call (ok__law_draw T) (hr.mono (by decide)) (by rfl) T._law_draw.m T._law_draw.F.kp T._law_draw.b .nil pass0 (pa_cons (pv 0) (pa_cons pe_int pa_nil))) (fun _ _ => rfl)))
    (pss_cons (ps_if (pt_cmpR op_eq (pe_call (ok__law_draw T) (hr.mono (by decide)) (by rfl) T._law_draw.m T._law_draw.F.kp T._law_draw.b .nil pass0 (pa_cons (pv 0) (pa_cons pe_int pa_nil))) pe_int (nomark _)) 
      (pss_one (ps_set (i := 2) sc__law_name.nd rfl (Or.inl rfl) (pe_call (ok__law_run T) (hr.mono (by decide)) (by rfl) T._law_run.m T._law_run.F.kp T._law_run.b .nil pass0 (pa_cons (pv 0) (pa_cons (pe_op op_add pe_int (pe_call (ok__law_draw T) (hr.mono (by decide)) (by rfl) T._law_draw.m T._law_draw.F.kp T._law_draw.b .nil pass0 (pa_cons (pv 0) (pa_cons (pe_ix (ix_listK K) (pe_lst (pa_cons pe_int (pa_cons pe_int pa_nil))) (pe_call (ok__law_draw T) (hr.mono (by decide)) (by rfl) T._law_draw.m T._law_draw.F.kp T._law_draw.b .nil pass0 (pa_cons (pv 0) (pa_cons pe_int pa_nil))) (fun _ _ => rfl)) pa_nil)))) (pa_cons pe_str pa_nil)))))) pss_nil)
    (pss_cons (ps_for PassesOwn.never rfl (pi_range1 (by rfl) T.z_range (pa_cons pe_int pa_nil)) (pg_name (i := 3) sc__law_name.nd rfl (Or.inl rfl)) 
      (pss_one (ps_if (pt_cmpR (op_in_seqK K) (pv 2) (pv 1) (by rfl)) 
        (pss_one (ps_set (i := 2) sc__law_name.nd rfl (Or.inl rfl) (pe_op op_add_str (pe_slice sl_str (pv 2) po_none (po_some pe_int)) (pe_ix ix_str pe_str (pv 3) (fun _ _ => rfl))))) pss_nil)))
    (pss_one (ps_ret (pv 2)))))), fun bx args Pr h => ?_⟩)
  obtain ⟨ss, _, rfl, rfl⟩ := h
  refine q_asg (P := SL 100) (n_ixN (n_lst (vs_cons e_str (vs_cons e_str (vs_cons e_str (vs_cons e_str (vs_cons e_str (vs_cons e_str (vs_cons e_str (vs_cons e_str vs_nil)))))))) (fun ts e => by rw [e]; simp)) (n_drawC rfl e_int (by decide)) (fun ts i e hi => by
    subst e
    exact at8 (sl_of (by decide +kernel)) (sl_of (by decide +kernel)) (sl_of (by decide +kernel)) (sl_of (by decide +kernel)) (sl_of (by decide +kernel)) (sl_of (by decide +kernel)) (sl_of (by decide +kernel)) (sl_of (by decide +kernel)) i hi)) ?_
  rintro x0 ⟨s0, rfl, l0⟩
  refine tr_seq (M := fun as' => ∃ s : Str, as' = [.b, .l (ss.map .str), .t (.str s), .x] ∧ s.length ≤ 100) (tr_if (P := fun _ => True) (b_testN ((n_eqI (n_drawC rfl e_int (by decide)) e_int.pi).imp fun z ⟨c, e⟩ => ⟨c, e, trivial⟩)) (fun _ => ?_) (fun _ => tr_next ⟨s0, rfl, l0⟩)) ?_
  · refine tr_asg (P := SL 100) (n_callT (PA := fun args => ∃ m : Int, args = [.b, .t (.int m), .t (.str (PySem.Str.ofString "abcdefghijklmnopqrstuvwxyz"))] ∧ 0 ≤ m ∧ m ≤ 100)
      (fun F H0 H σ S Q q => a_consB rfl (a_consN (R' := fun z => ∃ m : Int, z = [.t (.int m), .t (.str (PySem.Str.ofString "abcdefghijklmnopqrstuvwxyz"))] ∧ 0 ≤ m ∧ m ≤ 100) (n_sum (r := fun m => 0 ≤ m ∧ m ≤ 100) e_int.pi (n_draw rfl (n_pick2 (P := PI fun m => 3 ≤ m ∧ m ≤ 9) e_int e_int (n_drawC rfl e_int (by decide)) (fun i h => by omega) (fun x e => ⟨3, e, by omega⟩) (fun x e => ⟨9, e, by omega⟩)) (fun m h => by omega)) (fun a b ha ⟨m, hm, h1, h2⟩ => by omega))
        (a_cons e_str a_nil) (fun x r ⟨m, e, h⟩ er => ⟨m, by rw [e, er], h⟩)) F H0 H σ S Q fun rs vs H' ⟨r, e1, m, e2, h⟩ => q rs vs H' ⟨m, by rw [e1, e2], h⟩)
      fun args ⟨m, e, h1, h2⟩ => ⟨_, ⟨m, _, ⟨h1, h2, by decide +kernel, by decide +kernel⟩, e, rfl⟩, fun r ⟨x, e, hx⟩ => ⟨x, e, hx⟩⟩) ?_
    rintro x ⟨s, rfl, hl⟩
    exact ⟨s, rfl, hl⟩
  rintro as' ⟨s, rfl, hl⟩
  refine tr_seq (M := fun as' => ∃ (s : Str) (u : A), as' = [.b, .l (ss.map .str), .t (.str s), u]) (tr_rangeD (n := 9) (vs_cons e_int vs_nil) (by omega) (fun k as' => ∃ (s : Str) (u : A), as' = [.b, .l (ss.map .str), .t (.str s), u] ∧ s.length ≤ 100 + k) ⟨s, _, rfl, hl⟩ ?_ ?_) ?_
  · rintro k as' hk ⟨s, u, rfl, hl⟩
    refine tr_if (P := fun _ => True) (b_testN (n_inS (P := SL 1000) (n_var (x := .str s) rfl ⟨s, rfl, by omega⟩) (fun x ⟨s, e, _⟩ => ⟨s, e⟩) (r_varL rfl))) (fun _ => ?_) (fun _ => tr_next ⟨s, _, rfl, by omega⟩)
    refine tr_asg (n_addS (m := 100 + k) (n := 1) (n_slS (n_var (x := .str s) rfl ⟨s, rfl, hl⟩) (by omega)) (n_sign e_str (by decide +kernel) (Ev1.pi (i := (k : Int)) (e_var rfl)) (fun i e => by
      have hz : (PySem.Str.ofString "abcdefghi").length = 9 := by decide +kernel
      show 0 ≤ i ∧ i < (((PySem.Str.ofString "abcdefghi").length : Nat) : Int)
      rw [hz]
      omega)) (by omega)) ?_
    rintro x ⟨s2, rfl, hl2⟩
    exact ⟨s2, _, rfl, by omega⟩
  · rintro as' ⟨s, u, rfl, _⟩
    exact ⟨s, u, rfl⟩
  · rintro as' ⟨s, u, rfl⟩
    exact tr_ret1 (e_var rfl) ⟨s, rfl⟩
end K12
namespace K12
open PySem L2 Evl

/-! ### the law's bills and books -/
/-- the place of x in a list, its length where x is not in it -/
def seat (x : Nat) : List Nat → Nat
  | [] => 0
  | y :: l => if x = y then 0 else seat x l + 1
theorem seat_take {x : Nat} : ∀ {l : List Nat} {j : Nat}, x ∈ l.take j → seat x l < j
  | [], j, h => by rw [List.take_nil] at h; cases h
  | y :: l, 0, h => by rw [List.take_zero] at h; cases h
  | y :: l, j + 1, h => by
    unfold seat
    by_cases c : x = y
    · rw [if_pos c]; omega
    · rw [if_neg c]
      have h2 : x ∈ l.take j := by
        rw [List.take_succ_cons] at h
        rcases List.mem_cons.mp h with e | e
        · exact absurd e c
        · exact e
      have := seat_take h2
      omega
theorem seat_at {x : Nat} : ∀ {l : List Nat} {j : Nat}, l.Nodup → l[j]? = some x → seat x l = j
  | [], j, _, h => by rw [List.getElem?_nil] at h; cases h
  | y :: l, 0, _, h => by
    rw [List.getElem?_cons_zero] at h
    cases h
    unfold seat
    rw [if_pos rfl]
  | y :: l, j + 1, nd, h => by
    rw [List.getElem?_cons_succ] at h
    obtain ⟨n1, n2⟩ := List.nodup_cons.mp nd
    unfold seat
    rw [if_neg (fun e : x = y => n1 (e ▸ List.mem_of_getElem? h)), seat_at n2 h]
theorem seat_lt {x : Nat} {l : List Nat} (h : x ∈ l) : seat x l < l.length := seat_take (by rw [List.take_length]; exact h)
section
variable {K : PySem.W.Frag} {bx : BX} {H0 : Hp} {as : List A} {p : Ps} {ta tb te : TE} {t : TT} {s u : TS} {x y : T} {i j : Nat}
theorem n_tuple {P : List T → Prop} (h : EvN K bx te as P) : EvT K bx (tCB (fun xs H Q => ∃ p ys, xs = [.ref p] ∧ ((SqL K H p ys ∧ ∀ l, H l = none → Q (.ref l) (upd H l (.tup ys))) ∨ (SqT K H p ys ∧ Q (.ref p) H))) (tCons te tNil)) as (fun z => ∃ ts, z = .tup ts ∧ P ts) := fun F H0 H σ S Q q =>
  h F H0 H σ S _ fun ts a xs H1 pt e1 ha hx r1 => ⟨a, xs, rfl, .inl ⟨SqL.of hx, fun l hl => q (.tup ts) _ _ ⟨ts, rfl, pt⟩ (e1.trans (JB.new hl)) (rep_tup.mpr ⟨l, xs, rfl, upd_same, RepL.tk (JB.new (bx := bx) hl).tk _ _ r1⟩)⟩⟩
theorem vs1 {q : Int → Prop} (h : EvT K bx te as (PI q)) : EvVs K bx (tCons te tNil) as (fun ts => ∃ n, ts = [.int n] ∧ q n) := vs_consN h vs_nil fun x r ⟨n, e, qn⟩ er => ⟨n, by rw [e, er], qn⟩
theorem e_lenO {a : Addr} {ts : List T} {n : Int} (h : as[i]? = some (.o a ts)) (e : ((ts.length : Nat) : Int) = n) : Ev1 K bx (tCB (rLenS K) (tCons (tVar i) tNil)) as (.int n) := (e_len (r_varO h)).cast (congrArg K12.T.int e)
end
def R__law_bill : List Arg → (Res → Prop) → Prop := fun args Pr => ∃ n : Unit, True ∧ args = [.b, .t (.int 6)] ∧ Pr = fun r => ∃ b, BillOk b ∧ r = .t (eBill b)
theorem len__law_bill : ∀ args Pr, R__law_bill args Pr → args.length = 2 := fun args Pr h => by
  obtain ⟨_, _, rfl, _⟩ := h
  rfl
theorem ok__law_bill {P : Program} {w : World} {K : PySem.W.Frag} {mg : Str → Option Value} {base : Heap} (T : Txt K mg) : FnOk P w K mg base CX0 4 T._law_bill.a T._law_bill.fd ["_law_box", "_law_most"] (spF K R__law_bill) := by
  refine fn_tr T._law_bill.F sc__law_bill (len__law_bill) (fun cdv Ar outer s H E hr => ⟨_, 
    (pss_cons (ps_set (i := 2) sc__law_bill.nd rfl (Or.inl rfl) (pe_op op_add pe_int (pe_call (ok__law_draw T) (hr.mono (by decide)) (by rfl) T._law_draw.m T._law_draw.F.kp T._law_draw.b .nil pass0 (pa_cons (pv 0) (pa_cons (pv 1) pa_nil)))))
    (pss_cons (ps_set (i := 3) sc__law_bill.nd rfl (Or.inl rfl) (pe_lst pa_nil))
    (pss_cons (ps_for PassesOwn.never rfl (pi_range1 (by rfl) T.z_range (pa_cons (pv 2) pa_nil)) (pg_name (i := 4) sc__law_bill.nd rfl (Or.inl rfl)) 
      (pss_one (ps_expr (pe_bmK K (pe_bm PySem.F.plainAttrs_list PySem.F.slot_list_append PySem.F.type_list_append mt_append (pv 3) (pa_cons (pe_call (ok__law_name T) (hr.mono (by decide)) (by rfl) T._law_name.m T._law_name.F.kp T._law_name.b .nil pass0 (pa_cons (pv 0) (pa_cons (pv 3) pa_nil))) pa_nil))))))
    (pss_cons (ps_set (i := 5) sc__law_bill.nd rfl (Or.inl rfl) (pe_lst pa_nil))
    (pss_cons (ps_for PassesOwn.never rfl (pi_range1 (by rfl) T.z_range (pa_cons (pv 2) pa_nil)) (pg_name (i := 4) sc__law_bill.nd rfl (Or.inl rfl)) 
      (pss_cons (ps_set (i := 6) sc__law_bill.nd rfl (Or.inl rfl) (pe_call (ok__law_draw T) (hr.mono (by decide)) (by rfl) T._law_draw.m T._law_draw.F.kp T._law_draw.b .nil pass0 (pa_cons (pv 0) (pa_cons (pe_op op_add (pe_callB (call_lenK K) (by rfl) T.z_len PySem.boot_len (pa_cons (pv 5) pa_nil)) pe_int) pa_nil))))
      (pss_one (ps_set (i := 5) sc__law_bill.nd rfl (Or.inl rfl) (pe_op op_cat (pe_op op_cat (pe_slice (sl_listK K) (pv 5) po_none (po_some (pv 6))) (pe_lst (pa_cons (pv 4) pa_nil))) (pe_slice (sl_listK K) (pv 5) (po_some (pv 6)) po_none))))))
    (pss_cons (ps_set (i := 7) sc__law_bill.nd rfl (Or.inl rfl) (pe_lst pa_nil))
    (pss_cons (ps_for PassesOwn.never rfl (pi_range1 (by rfl) T.z_range (pa_cons (pv 2) pa_nil)) (pg_name (i := 4) sc__law_bill.nd rfl (Or.inl rfl)) 
      (pss_cons (ps_set (i := 8) sc__law_bill.nd rfl (Or.inl rfl) (pe_slice (sl_listK K) (pv 5) po_none (po_some (pe_bmK K (pe_bm PySem.F.plainAttrs_list PySem.F.slot_list_index PySem.F.type_list_index (mt_indexK K) (pv 5) (pa_cons (pv 4) pa_nil))))))
      (pss_cons (ps_set (i := 9) sc__law_bill.nd rfl (Or.inl rfl) (pe_lst pa_nil))
      (pss_cons (ps_for PassesOwn.never rfl (pi_range1 (by rfl) T.z_range (pa_cons (pe_call (ok__law_draw T) (hr.mono (by decide)) (by rfl) T._law_draw.m T._law_draw.F.kp T._law_draw.b .nil pass0 (pa_cons (pv 0) (pa_cons pe_int pa_nil))) pa_nil)) (pg_name (i := 10) sc__law_bill.nd rfl (Or.inl rfl)) 
        (pss_one (ps_if (pt_cmpR op_gt (pe_callB (call_lenK K) (by rfl) T.z_len PySem.boot_len (pa_cons (pv 8) pa_nil)) pe_int (nomark _)) 
          (pss_cons (ps_set (i := 11) sc__law_bill.nd rfl (Or.inl rfl) (pe_op op_add pe_int (pe_call (ok__law_draw T) (hr.mono (by decide)) (by rfl) T._law_draw.m T._law_draw.F.kp T._law_draw.b .nil pass0 (pa_cons (pv 0) (pa_cons pe_int pa_nil)))))
          (pss_cons (ps_if (pt_cmpR op_eq (pe_call (ok__law_draw T) (hr.mono (by decide)) (by rfl) T._law_draw.m T._law_draw.F.kp T._law_draw.b .nil pass0 (pa_cons (pv 0) (pa_cons pe_int pa_nil))) pe_int (nomark _)) 
            (pss_one (ps_set (i := 11) sc__law_bill.nd rfl (Or.inl rfl) pe_int)) pss_nil)
          (pss_one (ps_expr (pe_bmK K (pe_bm PySem.F.plainAttrs_list PySem.F.slot_list_append PySem.F.type_list_append mt_append (pv 9) (pa_cons (pe_tup (pa_cons (pe_ix (ix_listK K) (pv 8) (pe_call (ok__law_draw T) (hr.mono (by decide)) (by rfl) T._law_draw.m T._law_draw.F.kp T._law_draw.b .nil pass0 (pa_cons (pv 0) (pa_cons (pe_callB (call_lenK K) (by rfl) T.z_len PySem.boot_len (pa_cons (pv 8) pa_nil)) pa_nil))) (fun _ _ => rfl)) (pa_cons (pv 11) pa_nil))) pa_nil))))))) pss_nil)))
      (pss_cons (ps_set (i := 12) sc__law_bill.nd rfl (Or.inl rfl) (pe_ix (ix_listK K) (pe_lst (pa_cons (pe_call (ok__law_draw T) (hr.mono (by decide)) (by rfl) T._law_draw.m T._law_draw.F.kp T._law_draw.b .nil pass0 (pa_cons (pv 0) (pa_cons pe_int pa_nil))) (pa_cons (pe_call (ok__law_draw T) (hr.mono (by decide)) (by rfl) T._law_draw.m T._law_draw.F.kp T._law_draw.b .nil pass0 (pa_cons (pv 0) (pa_cons pe_int pa_nil))) pa_nil))) (pe_op op_fdiv (pe_call (ok__law_draw T) (hr.mono (by decide)) (by rfl) T._law_draw.m T._law_draw.F.kp T._law_draw.b .nil pass0 (pa_cons (pv 0) (pa_cons pe_int pa_nil))) pe_int) (fun _ _ => rfl)))
      (pss_cons (ps_set (i := 13) sc__law_bill.nd rfl (Or.inl rfl) (pe_ix (ix_listK K) (pe_lst (pa_cons (pe_op op_add pe_int (pe_call (ok__law_draw T) (hr.mono (by decide)) (by rfl) T._law_draw.m T._law_draw.F.kp T._law_draw.b .nil pass0 (pa_cons (pv 0) (pa_cons pe_int pa_nil)))) (pa_cons (pe_op op_add pe_int (pe_call (ok__law_draw T) (hr.mono (by decide)) (by rfl) T._law_draw.m T._law_draw.F.kp T._law_draw.b .nil pass0 (pa_cons (pv 0) (pa_cons pe_int pa_nil)))) pa_nil))) (pe_op op_fdiv (pe_call (ok__law_draw T) (hr.mono (by decide)) (by rfl) T._law_draw.m T._law_draw.F.kp T._law_draw.b .nil pass0 (pa_cons (pv 0) (pa_cons pe_int pa_nil))) pe_int) (fun _ _ => rfl)))
      (pss_one (ps_expr (pe_bmK K (pe_bm PySem.F.plainAttrs_list PySem.F.slot_list_append PySem.F.type_list_append mt_append (pv 7) (pa_cons (pe_tup (pa_cons (pe_ix (ix_listK K) (pv 3) (pv 4) (fun _ _ => rfl)) (pa_cons (pe_callTy (call_tupleK K) (by rfl) T.z_tuple (by decide +kernel) (pa_cons (pv 9) pa_nil)) (pa_cons (pv 12) (pa_cons (pv 13) (pa_cons (pe_op op_add pe_int (pe_call (ok__law_draw T) (hr.mono (by decide)) (by rfl) T._law_draw.m T._law_draw.F.kp T._law_draw.b .nil pass0 (pa_cons (pv 0) (pa_cons (pv 13) pa_nil)))) pa_nil)))))) pa_nil)))))))))))
    (pss_one (ps_ret (pe_callTy (call_tupleK K) (by rfl) T.z_tuple (by decide +kernel) (pa_cons (pv 7) pa_nil))))))))))), fun bx args Pr h => ?_⟩)
  obtain ⟨_, _, rfl, rfl⟩ := h
  refine q_asg (P := PI fun n => 1 ≤ n ∧ n ≤ 6) (n_sum e_int.pi (n_drawC rfl (e_var rfl) (by decide)) (fun a b e h => by omega)) ?_
  rintro x ⟨n0, rfl, h1, h6⟩
  obtain ⟨n, rfl⟩ : ∃ n : Nat, n0 = (n : Int) := ⟨n0.toNat, by omega⟩
  refine q_asgN1 n_nil fun lN => ?_
  refine tr_seq (M := fun as' => ∃ (ss : List Str) (u4 : A), ss.length = n ∧ as' = [.b, .t (.int 6), .t (.int (n : Int)), .o lN (ss.map .str), u4, .x, .x, .x, .x, .x, .x, .x, .x, .x]) (tr_rangeD (n := n) (vs_cons (e_var rfl) vs_nil) (by omega)
    (fun m as' => ∃ (ss : List Str) (u4 : A), ss.length = m ∧ as' = [.b, .t (.int 6), .t (.int (n : Int)), .o lN (ss.map .str), u4, .x, .x, .x, .x, .x, .x, .x, .x, .x]) ⟨[], .x, rfl, rfl⟩ ?_ (fun _ h => h)) ?_
  · rintro m as' hm ⟨ss, u4, hl, rfl⟩
    refine tr_app (P := fun z => ∃ s, z = .str s) rfl (n_callT (PA := fun args => args = [.b, .r (ss.map .str)]) (fun F H0 H σ S Q q => a_consB rfl (a_consR (r_varO rfl) a_nil) F H0 H σ S Q fun rs vs H' ⟨r, e1, e2⟩ => q rs vs H' (by rw [e1, e2])) (fun args e => ⟨_, ⟨ss, trivial, e, rfl⟩, fun r ⟨s, e⟩ => ⟨_, e, s, rfl⟩⟩)) (by rw [List.length_map]; omega) ?_
    rintro z ⟨s, rfl⟩
    refine ⟨ss ++ [s], .t (.int (m : Int)), by rw [List.length_append, List.length_singleton, hl], ?_⟩
    rw [List.map_append]; rfl
  rintro as' ⟨ss, u4, hss, rfl⟩
  refine q_asgN1 n_nil fun lR0 => ?_
  refine tr_seq (M := fun as' => ∃ (rs : List Nat) (lR : Addr) (u4 u6 : A), (rs.Nodup ∧ rs.length = n ∧ ∀ x, x ∈ rs ↔ x < n) ∧ as' = [.b, .t (.int 6), .t (.int (n : Int)), .o lN (ss.map .str), u4, .o lR (rs.map eNat), u6, .x, .x, .x, .x, .x, .x, .x]) (tr_rangeD (n := n) (vs_cons (e_var rfl) vs_nil) (by omega)
    (fun m as' => ∃ (rs : List Nat) (lR : Addr) (u4 u6 : A), (rs.Nodup ∧ rs.length = m ∧ ∀ x, x ∈ rs ↔ x < m) ∧ as' = [.b, .t (.int 6), .t (.int (n : Int)), .o lN (ss.map .str), u4, .o lR (rs.map eNat), u6, .x, .x, .x, .x, .x, .x, .x]) ⟨[], lR0, u4, .x, ⟨List.nodup_nil, rfl, fun x => by simp⟩, rfl⟩ ?_ (fun _ h => h)) ?_
  · rintro m as' hm ⟨rs, lR, u4, u6, ⟨nd, hl, hmem⟩, rfl⟩
    refine q_asg (P := PI fun k => 0 ≤ k ∧ k < (m : Int) + 1) (n_drawC rfl (e_I0 (e_lenO (n := (m : Int)) rfl (by rw [List.length_map, hl])) e_int) (by show (0 : Int) < (m : Int) + 1; omega)) ?_
    rintro x ⟨k0, rfl, k1, k2⟩
    obtain ⟨k, rfl⟩ : ∃ k : Nat, k0 = (k : Int) := ⟨k0.toNat, by omega⟩
    refine tr_asgN (P := fun us => us = (rs.take k ++ [m] ++ rs.drop k).map eNat) (n_cat (P1 := fun us => us = (rs.take k ++ [m]).map eNat) (P2 := fun us => us = (rs.drop k).map eNat) (n_cat (P1 := fun us => us = (rs.take k).map eNat) (P2 := fun us => us = [eNat m])
      ((n_slTo (r_varO rfl) (e_var rfl).pi (fun i e => by rw [e, List.length_map]; omega)).imp fun us ⟨j, e, e2⟩ => by
        have : j = k := by omega
        rw [e2, this, List.map_take]) (n_lst (vs_cons (e_var rfl) vs_nil) (fun ts e => by rw [e]; simp)) (fun a b ea eb => by rw [ea, eb, List.map_append]; exact ⟨rfl, by simp; omega⟩))
      ((n_slFrom (r_varO rfl) (e_var rfl).pi (fun i e => by rw [e, List.length_map]; omega)).imp fun us ⟨j, e, e2⟩ => by
        have : j = k := by omega
        rw [e2, this, List.map_drop]) (fun a b ea eb => by rw [ea, eb, ← List.map_append]; exact ⟨rfl, by simp; omega⟩)) ?_
    rintro ts a rfl
    have hnm : m ∉ rs := fun h => by have := (hmem m).mp h; omega
    have pm : (rs.take k ++ [m] ++ rs.drop k).Perm (m :: rs) := by
      rw [List.append_assoc]
      refine (List.perm_append_comm_assoc _ _ _).trans ?_
      rw [List.take_append_drop]
      exact List.Perm.refl _
    refine ⟨rs.take k ++ [m] ++ rs.drop k, a, .t (.int (m : Int)), .t (.int (k : Int)), ⟨pm.nodup_iff.mpr (List.nodup_cons.mpr ⟨hnm, nd⟩), by rw [pm.length_eq, List.length_cons, hl], fun x => ?_⟩, rfl⟩
    rw [pm.mem_iff, List.mem_cons, hmem]
    omega
  rintro as' ⟨rs, lR, u4, u6, ⟨nd, hrl, hmem⟩, rfl⟩
  refine q_asgN1 n_nil fun lI => ?_
  refine tr_seq (M := fun as' => ∃ (its : List Item) (u4 u8 u9 u10 u11 u12 u13 : A), (its.length = n ∧ (∀ it ∈ its, ItemOk n it) ∧ ∀ p it, its[p]? = some it → ∀ q ∈ it.parts, seat q.1 rs < seat p rs) ∧ as' = [.b, .t (.int 6), .t (.int (n : Int)), .o lN (ss.map .str), u4, .o lR (rs.map eNat), u6, .o lI (its.map eItem), u8, u9, u10, u11, u12, u13]) (tr_rangeD (n := n) (vs_cons (e_var rfl) vs_nil) (by omega)
    (fun m as' => ∃ (its : List Item) (u4 u8 u9 u10 u11 u12 u13 : A), (its.length = m ∧ (∀ it ∈ its, ItemOk n it) ∧ ∀ p it, its[p]? = some it → ∀ q ∈ it.parts, seat q.1 rs < seat p rs) ∧ as' = [.b, .t (.int 6), .t (.int (n : Int)), .o lN (ss.map .str), u4, .o lR (rs.map eNat), u6, .o lI (its.map eItem), u8, u9, u10, u11, u12, u13]) ⟨[], u4, .x, .x, .x, .x, .x, .x, ⟨rfl, (fun _ h => nomatch h), (fun p it h => by simp at h)⟩, rfl⟩ ?_ (fun _ h => h)) ?_
  · rintro m as' hm ⟨its, u4, u8, u9, u10, u11, u12, u13, ⟨il, iok, iac⟩, rfl⟩
    have hmr : m ∈ rs := (hmem m).mpr hm
    refine q_asgN (P := fun us => ∃ j : Nat, rs[j]? = some m ∧ us = (rs.take j).map eNat) ((n_slTo (r_varO rfl) (n_index (r_varO rfl) (e_var rfl) hmr) (fun i ⟨j, e, hj⟩ => by
      have := (List.getElem?_eq_some_iff.mp hj).1
      rw [e, List.length_map]; omega)).imp fun us ⟨j, ⟨j2, e, hj⟩, e2⟩ => by
        have : j = j2 := by omega
        subst this
        exact ⟨j, hj, by rw [e2, List.map_take]⟩) ?_
    rintro ts lB ⟨j, hj, rfl⟩
    have hjn : j < n := by have := (List.getElem?_eq_some_iff.mp hj).1; omega
    have tl : (rs.take j).length = j := by rw [List.length_take]; omega
    refine q_asgN1 n_nil fun lP => ?_
    refine tr_seq (M := fun as' => ∃ (ps : List (Nat × Int)) (u10 u11 : A), (ps.length ≤ 4 ∧ ∀ q ∈ ps, q.1 ∈ rs.take j ∧ 1 ≤ q.2 ∧ q.2 ≤ 20) ∧ as' = [.b, .t (.int 6), .t (.int (n : Int)), .o lN (ss.map .str), .t (.int (m : Int)), .o lR (rs.map eNat), u6, .o lI (its.map eItem), .o lB ((rs.take j).map eNat), .o lP (ps.map ePart), u10, u11, u12, u13]) (tr_range1 (q := fun k => 0 ≤ k ∧ k < 5) (vs1 (n_drawC rfl e_int (by decide))) (fun k h => by omega)
      (fun _ t as' => ∃ (ps : List (Nat × Int)) (u10 u11 : A), (ps.length ≤ t ∧ ∀ q ∈ ps, q.1 ∈ rs.take j ∧ 1 ≤ q.2 ∧ q.2 ≤ 20) ∧ as' = [.b, .t (.int 6), .t (.int (n : Int)), .o lN (ss.map .str), .t (.int (m : Int)), .o lR (rs.map eNat), u6, .o lI (its.map eItem), .o lB ((rs.take j).map eNat), .o lP (ps.map ePart), u10, u11, u12, u13]) (fun k h => ⟨[], u10, u11, ⟨Nat.zero_le _, fun _ h => nomatch h⟩, rfl⟩) ?_ ?_) ?_
    · rintro k t as' hk htk ⟨ps, u10, u11, ⟨pl, pok⟩, rfl⟩
      refine tr_if1 (b_test (e_B0 (e_lenO (n := (j : Int)) rfl (by rw [List.length_map, tl])) e_int)) (fun c => ?_) (fun _ => tr_next ⟨ps, _, u11, ⟨by omega, pok⟩, rfl⟩)
      have hj0 : (0 : Int) < j := of_decide_eq_true c
      refine q_asg (P := PI fun q => 1 ≤ q ∧ q ≤ 20) (n_sum e_int.pi (n_drawC rfl e_int (by decide)) (fun a b e h => by omega)) ?_
      rintro x ⟨q0, rfl, q1, q2⟩
      refine tr_seq (M := fun as' => ∃ q : Int, (1 ≤ q ∧ q ≤ 20) ∧ as' = [.b, .t (.int 6), .t (.int (n : Int)), .o lN (ss.map .str), .t (.int (m : Int)), .o lR (rs.map eNat), u6, .o lI (its.map eItem), .o lB ((rs.take j).map eNat), .o lP (ps.map ePart), .t (.int (t : Int)), .t (.int q), u12, u13]) (tr_if (P := fun _ => True) (b_testN ((n_eqI (n_drawC rfl e_int (by decide)) e_int.pi).imp fun z ⟨c, e⟩ => ⟨c, e, trivial⟩)) (fun _ => tr_asg1 e_int ⟨20, ⟨by decide, by decide⟩, rfl⟩) (fun _ => tr_next ⟨q0, ⟨q1, q2⟩, rfl⟩)) ?_
      rintro as' ⟨q, ⟨q1, q2⟩, rfl⟩
      refine tr_app (P := fun z => ∃ r : Nat, z = ePart (r, q) ∧ r ∈ rs.take j) rfl (e_tupN (vs2 (p1 := fun z => ∃ r : Nat, z = eNat r ∧ r ∈ rs.take j) (n_ixL (r_varO rfl) (n_drawC rfl (e_lenO (n := (j : Int)) rfl (by rw [List.length_map, tl])) hj0) (fun i hi => ?_)) (e_var rfl)) (fun ts ⟨a, b, e, ⟨r, ea, hr⟩, eb⟩ => by
        subst e ea eb
        exact ⟨by simp, r, rfl, hr⟩)) (by rw [List.length_map]; omega) ?_
      · obtain ⟨i, rfl⟩ : ∃ k : Nat, i = (k : Int) := ⟨i.toNat, by omega⟩
        have hi2 : i < (rs.take j).length := by omega
        exact ⟨eNat (rs.take j)[i], atI_nat (by rw [List.getElem?_map, List.getElem?_eq_getElem hi2]; rfl), _, rfl, List.getElem_mem hi2⟩
      · rintro z ⟨r, rfl, hr⟩
        refine ⟨ps ++ [(r, q)], .t (.int (t : Int)), .t (.int q), ⟨by rw [List.length_append, List.length_singleton]; omega, fun w hw => ?_⟩, ?_⟩
        · rcases List.mem_append.mp hw with h | h
          · exact pok w h
          · have : w = (r, q) := by simpa using h
            rw [this]
            exact ⟨hr, q1, q2⟩
        · rw [List.map_append]; rfl
    · rintro k as' hk ⟨ps, u10, u11, ⟨pl, pok⟩, rfl⟩
      exact ⟨ps, u10, u11, ⟨by omega, pok⟩, rfl⟩
    rintro as' ⟨ps, u10, u11, ⟨pl, pok⟩, rfl⟩
    refine q_asg (P := PI fun k => 0 ≤ k ∧ k ≤ 10) (n_pick2 (n_drawC rfl e_int (by decide)) (n_drawC rfl e_int (by decide)) (n_divC (r := fun k => k = 0 ∨ k = 1) (n_drawC rfl e_int (by decide)) (by omega) (fun a h => by omega)) (fun i h => h) (PI.imp fun k h => by omega) (PI.imp fun k h => by omega)) ?_
    rintro x ⟨ld, rfl, ld1, ld2⟩
    refine q_asg (P := PI fun k => 1 ≤ k ∧ k ≤ 50) (n_pick2 (n_sum (r := fun k => 1 ≤ k ∧ k ≤ 50) e_int.pi (n_drawC rfl e_int (by decide)) (fun a b e h => by omega)) (n_sum (r := fun k => 1 ≤ k ∧ k ≤ 50) e_int.pi (n_drawC rfl e_int (by decide)) (fun a b e h => by omega)) (n_divC (r := fun k => k = 0 ∨ k = 1) (n_drawC rfl e_int (by decide)) (by omega) (fun a h => by omega)) (fun i h => h) (fun _ h => h) (fun _ h => h)) ?_
    rintro x ⟨lt, rfl, lt1, lt2⟩
    refine tr_app (P := fun z => ∃ (nm : Str) (g : Int), z = eItem ⟨nm, ps, ld, lt, g⟩ ∧ 1 ≤ g ∧ g ≤ 50) rfl (e_tupN (vs_consN (R' := fun ts => ∃ (nm : Str) (g : Int), ts = [.str nm, .tup (ps.map ePart), .int ld, .int lt, .int g] ∧ 1 ≤ g ∧ g ≤ 50) (e_ixL (x := .str (ss[m]'(by omega))) (r_varO rfl) (e_var rfl) (atI_nat (by rw [List.getElem?_map, List.getElem?_eq_getElem (by omega)]; rfl)))
      (vs4 (e_tuple (r_varO rfl)) (e_var rfl) (e_var rfl) (n_sum (r := fun k => 1 ≤ k ∧ k ≤ 50) e_int.pi (n_drawC rfl (e_var rfl) (by omega)) (fun a b e h => by omega))) (fun x r ex ⟨a, b, c, d, er, ea, eb, ec, g, ed, hg⟩ => ⟨ss[m]'(by omega), g, by rw [er, ex, ea, eb, ec, ed], hg⟩)) (fun ts ⟨nm, g, e, hg⟩ => by
        subst e
        exact ⟨by simp, nm, g, rfl, hg⟩)) (by rw [List.length_map]; omega) ?_
    rintro z ⟨nm, g, rfl, g1, g2⟩
    refine ⟨its ++ [⟨nm, ps, ld, lt, g⟩], .t (.int (m : Int)), _, _, _, _, _, _, ⟨by rw [List.length_append, List.length_singleton, il], fun it hit => ?_, fun p it hp q hq => ?_⟩, by rw [List.map_append]; rfl⟩
    · rcases List.mem_append.mp hit with h | h
      · exact iok it h
      · have : it = ⟨nm, ps, ld, lt, g⟩ := by simpa using h
        subst this
        exact ⟨fun q hq => ⟨(hmem q.1).mp (List.mem_of_mem_take (pok q hq).1), (pok q hq).2⟩, pl, ⟨ld1, ld2⟩, ⟨lt1, lt2⟩, ⟨g1, g2⟩⟩
    · by_cases c : p < its.length
      · rw [List.getElem?_append_left c] at hp
        exact iac p it hp q hq
      · have hlt := (List.getElem?_eq_some_iff.mp hp).1
        rw [List.length_append, List.length_singleton] at hlt
        have hpm : p = its.length := by omega
        subst hpm
        rw [List.getElem?_append_right (Nat.le_refl _), Nat.sub_self] at hp
        cases hp
        rw [il, seat_at nd hj]
        exact seat_take (pok q hq).1
  · rintro as' ⟨its, u4, u8, u9, u10, u11, u12, u13, ⟨il, iok, iac⟩, rfl⟩
    refine tr_ret1 (e_tuple (r_varO rfl)) ⟨its, ⟨by omega, by omega, by rw [il]; exact iok, fun x => seat x rs, iac, fun p hp => ?_⟩, rfl⟩
    have := seat_lt ((hmem p).mpr (by omega))
    show seat p rs < 6
    omega
end K12
namespace K12
open PySem L2 Evl

theorem n_prod {K : PySem.W.Frag} {bx : BX} {as : List A} {ta tb : TE} {m n : Int} (hc : ∀ i j : Int, 0 ≤ i ∧ i < m → 0 ≤ j ∧ j < n → CMul i j) (h1 : EvT K bx ta as (PI fun k => 0 ≤ k ∧ k < m)) (h2 : EvT K bx tb as (PI fun k => 0 ≤ k ∧ k < n)) : EvT K bx (tOp (rI CMul fun i j => .int (i * j)) ta tb) as (PI fun k => 0 ≤ k) :=
  (n_I h1 h2 hc).ints fun z ⟨i, j, hi, hj, e⟩ => by rw [e]; exact Int.mul_nonneg hi.1 hj.1
def R__law_books : List Arg → (Res → Prop) → Prop := fun args Pr => ∃ b : Bill, BillOk b ∧ args = [.b, .t (eBill b)] ∧ Pr = fun r => ∃ k, BooksOk b.length k ∧ r = .t (eBooks k)
theorem len__law_books : ∀ args Pr, R__law_books args Pr → args.length = 2 := fun args Pr h => by
  obtain ⟨_, _, rfl, _⟩ := h
  rfl
theorem ok__law_books {P : Program} {w : World} {K : PySem.W.Frag} {mg : Str → Option Value} {base : Heap} (T : Txt K mg) : FnOk P w K mg base CX0 2 T._law_books.a T._law_books.fd ["_law_box", "_law_bill_here"] (spF K R__law_books) := by
  refine fn_tr T._law_books.F sc__law_books (len__law_books) (fun cdv Ar outer s H E hr => ⟨_, 
    (pss_cons (ps_set (i := 2) sc__law_books.nd rfl (Or.inl rfl) (pe_ix (ix_listK K) (pe_lst (pa_cons (pe_call (ok__law_draw T) (hr.mono (by decide)) (by rfl) T._law_draw.m T._law_draw.F.kp T._law_draw.b .nil pass0 (pa_cons (pv 0) (pa_cons pe_int pa_nil))) (pa_cons pe_int (pa_cons pe_int pa_nil)))) (pe_op op_fdiv (pe_call (ok__law_draw T) (hr.mono (by decide)) (by rfl) T._law_draw.m T._law_draw.F.kp T._law_draw.b .nil pass0 (pa_cons (pv 0) (pa_cons pe_int pa_nil))) pe_int) (fun _ _ => rfl)))
    (pss_cons (ps_set (i := 3) sc__law_books.nd rfl (Or.inl rfl) (pe_callTy (call_tupleK K) (by rfl) T.z_tuple (by decide +kernel) (pa_cons (pe_lc (own := [("_law_item", 8)]) (g := gName 8) (tt := tYes) rfl sc__law_books.nd (pi_tupK K (pv 1)) (blkOk_by (own := [("_law_item", 8)]) (N := N__law_books) (sc := defScope s__law_books) (by decide +kernel)) (fun _ _ _ _ _ => (pg_name (i := 8) sc__law_books.nd rfl (Or.inl rfl))) (fun _ _ _ _ _ => pts_nil) (fun _ _ _ _ _ => (pe_op op_mul (pe_call (ok__law_draw T) (hr.mono (by decide)) (by rfl) T._law_draw.m T._law_draw.F.kp T._law_draw.b .nil pass0 (pa_cons (pv 0) (pa_cons pe_int pa_nil))) (pe_call (ok__law_draw T) (hr.mono (by decide)) (by rfl) T._law_draw.m T._law_draw.F.kp T._law_draw.b .nil pass0 (pa_cons (pv 0) (pa_cons pe_int pa_nil)))))) pa_nil)))
    (pss_cons (ps_set (i := 4) sc__law_books.nd rfl (Or.inl rfl) (pe_lst pa_nil))
    (pss_cons (ps_for PassesOwn.never rfl (pi_range1 (by rfl) T.z_range (pa_cons (pe_call (ok__law_draw T) (hr.mono (by decide)) (by rfl) T._law_draw.m T._law_draw.F.kp T._law_draw.b .nil pass0 (pa_cons (pv 0) (pa_cons pe_int pa_nil))) pa_nil)) (pg_name (i := 5) sc__law_books.nd rfl (Or.inl rfl)) 
      (pss_one (ps_expr (pe_bmK K (pe_bm PySem.F.plainAttrs_list PySem.F.slot_list_append PySem.F.type_list_append mt_append (pv 4) (pa_cons (pe_tup (pa_cons (pe_call (ok__law_draw T) (hr.mono (by decide)) (by rfl) T._law_draw.m T._law_draw.F.kp T._law_draw.b .nil pass0 (pa_cons (pv 0) (pa_cons (pe_callB (call_lenK K) (by rfl) T.z_len PySem.boot_len (pa_cons (pv 1) pa_nil)) pa_nil))) (pa_cons (pe_op op_add (pv 2) (pe_call (ok__law_draw T) (hr.mono (by decide)) (by rfl) T._law_draw.m T._law_draw.F.kp T._law_draw.b .nil pass0 (pa_cons (pv 0) (pa_cons pe_int pa_nil)))) (pa_cons (pe_op op_add pe_int (pe_call (ok__law_draw T) (hr.mono (by decide)) (by rfl) T._law_draw.m T._law_draw.F.kp T._law_draw.b .nil pass0 (pa_cons (pv 0) (pa_cons pe_int pa_nil)))) pa_nil)))) pa_nil))))))
    (pss_cons (ps_set (i := 6) sc__law_books.nd rfl (Or.inl rfl) (pe_lst pa_nil))
    (pss_cons (ps_set (i := 7) sc__law_books.nd rfl (Or.inl rfl) pe_int)
    (pss_cons (ps_for PassesOwn.never rfl (pi_range1 (by rfl) T.z_range (pa_cons (pe_call (ok__law_draw T) (hr.mono (by decide)) (by rfl) T._law_draw.m T._law_draw.F.kp T._law_draw.b .nil pass0 (pa_cons (pv 0) (pa_cons pe_int pa_nil))) pa_nil)) (pg_name (i := 5) sc__law_books.nd rfl (Or.inl rfl)) 
      (pss_cons (ps_set (i := 7) sc__law_books.nd rfl (Or.inl rfl) (pe_op op_add (pe_op op_add (pv 7) pe_int) (pe_call (ok__law_draw T) (hr.mono (by decide)) (by rfl) T._law_draw.m T._law_draw.F.kp T._law_draw.b .nil pass0 (pa_cons (pv 0) (pa_cons pe_int pa_nil)))))
      (pss_one (ps_expr (pe_bmK K (pe_bm PySem.F.plainAttrs_list PySem.F.slot_list_append PySem.F.type_list_append mt_append (pv 6) (pa_cons (pe_tup (pa_cons (pv 7) (pa_cons (pe_call (ok__law_draw T) (hr.mono (by decide)) (by rfl) T._law_draw.m T._law_draw.F.kp T._law_draw.b .nil pass0 (pa_cons (pv 0) (pa_cons (pe_callB (call_lenK K) (by rfl) T.z_len PySem.boot_len (pa_cons (pv 1) pa_nil)) pa_nil))) (pa_cons (pe_op op_add pe_int (pe_call (ok__law_draw T) (hr.mono (by decide)) (by rfl) T._law_draw.m T._law_draw.F.kp T._law_draw.b .nil pass0 (pa_cons (pv 0) (pa_cons pe_int pa_nil)))) (pa_cons (pe_op op_add (pv 2) (pe_call (ok__law_draw T) (hr.mono (by decide)) (by rfl) T._law_draw.m T._law_draw.F.kp T._law_draw.b .nil pass0 (pa_cons (pv 0) (pa_cons pe_int pa_nil)))) pa_nil))))) pa_nil)))))))
    (pss_one (ps_ret (pe_tup (pa_cons (pv 2) (pa_cons (pv 3) (pa_cons (pe_callTy (call_tupleK K) (by rfl) T.z_tuple (by decide +kernel) (pa_cons (pv 4) pa_nil)) (pa_cons (pe_callTy (call_tupleK K) (by rfl) T.z_tuple (by decide +kernel) (pa_cons (pv 6) pa_nil)) pa_nil)))))))))))))), fun bx args Pr h => ?_⟩)
  obtain ⟨b, hb, rfl, rfl⟩ := h
  have n1 := hb.n1
  have n6 := hb.n6
  refine q_asg (P := PI fun k => 0 ≤ k ∧ k ≤ 150) (n_pick3 (n_drawC rfl e_int (by decide)) e_int.pi e_int.pi (n_divC (r := fun k => k = 0 ∨ k = 1 ∨ k = 2) (n_drawC rfl e_int (by decide)) (by omega) (fun a h => by omega)) (fun i h => h) (PI.imp fun k h => by omega) (PI.imp fun k h => by omega) (PI.imp fun k h => by omega)) ?_
  rintro x ⟨td, rfl, td1, td2⟩
  refine q_asg (P := fun z => ∃ zs : List Int, z = .tup (zs.map .int) ∧ zs.length = b.length ∧ ∀ z ∈ zs, 0 ≤ z) (EvT.imp (n_tuple (n_lcT (enc := eItem) (xs := b) (js := [8]) (e_var rfl) (by omega) (by simp) (fun done ts => ∃ zs : List Int, ts = zs.map .int ∧ zs.length = done.length ∧ ∀ z ∈ zs, 0 ≤ z) ⟨[], rfl, rfl, fun _ h => nomatch h⟩ (fun done x rest e => ?_))) fun z ⟨ts, e, zs, e2, h1, h2⟩ => ⟨zs, by rw [e, e2], h1, h2⟩) ?_
  · refine ⟨_, fun c => c = true, PI fun k => 0 ≤ k, gt_name, b_yes, fun _ => n_prod (fun i j h1 h2 => .inl ⟨by omega, by omega⟩) (n_drawC (n := 30) rfl e_int (by decide)) (n_drawC (n := 2) rfl e_int (by decide)), ?_, fun ts h => by cases h⟩
    rintro y ts _ ⟨k, rfl, hk⟩ ⟨zs, rfl, h1, h2⟩
    refine ⟨zs ++ [k], by rw [List.map_append]; rfl, by rw [List.length_append, List.length_append, h1]; rfl, fun w hw => ?_⟩
    rcases List.mem_append.mp hw with h | h
    · exact h2 w h
    · have : w = k := by simpa using h
      rw [this]; exact hk
  rintro x ⟨st, rfl, st1, st2⟩
  refine q_asgN1 n_nil fun lC => ?_
  refine tr_seq (M := fun as' => ∃ (rs : List (Nat × Int × Int)) (u5 : A), (rs.length ≤ 4 ∧ ∀ r ∈ rs, r.1 < b.length ∧ td ≤ r.2.1 ∧ r.2.1 ≤ td + 24 ∧ 0 ≤ r.2.2) ∧ as' = [.b, .t (eBill b), .t (.int td), .t (.tup (st.map .int)), .o lC (rs.map eRec), u5, .x, .x, .x]) (tr_range1 (q := fun k => 0 ≤ k ∧ k < 5) (vs1 (n_drawC rfl e_int (by decide))) (fun k h => by omega)
    (fun _ t as' => ∃ (rs : List (Nat × Int × Int)) (u5 : A), (rs.length ≤ t ∧ ∀ r ∈ rs, r.1 < b.length ∧ td ≤ r.2.1 ∧ r.2.1 ≤ td + 24 ∧ 0 ≤ r.2.2) ∧ as' = [.b, .t (eBill b), .t (.int td), .t (.tup (st.map .int)), .o lC (rs.map eRec), u5, .x, .x, .x]) (fun k h => ⟨[], .x, ⟨Nat.zero_le _, fun _ h => nomatch h⟩, rfl⟩) ?_ ?_) ?_
  · rintro k t as' hk ht ⟨rs, u5, ⟨rl, rok⟩, rfl⟩
    refine tr_app (P := fun z => ∃ r : Nat × Int × Int, z = eRec r ∧ r.1 < b.length ∧ td ≤ r.2.1 ∧ r.2.1 ≤ td + 24 ∧ 0 ≤ r.2.2) rfl (e_tupN (vs3 (n_drawC (n := (b.length : Int)) rfl ((e_lenT (e_var rfl)).cast (by rw [List.length_map])) (by omega)) (n_sum (r := fun k => td ≤ k ∧ k ≤ td + 24) (e_var rfl).pi (n_drawC rfl e_int (by decide)) (fun a b e h => by omega)) (n_sum (r := fun k => 0 ≤ k) e_int.pi (n_drawC rfl e_int (by decide)) (fun a b e h => by omega))) (fun ts ⟨x, y, z, e, ⟨i, ex, i1, i2⟩, ⟨d, ey, d1, d2⟩, ⟨q, ez, q1⟩⟩ => ?_)) (by rw [List.length_map]; omega) ?_
    · subst e ex ey ez
      refine ⟨by simp, (i.toNat, d, q), ?_, by show i.toNat < b.length; omega, d1, d2, q1⟩
      show K12.T.tup [.int i, .int d, .int q] = .tup [.int ((i.toNat : Nat) : Int), .int d, .int q]
      rw [show ((i.toNat : Nat) : Int) = i by omega]
    · rintro z ⟨r, rfl, hr⟩
      refine ⟨rs ++ [r], _, ⟨by rw [List.length_append, List.length_singleton]; omega, fun w hw => ?_⟩, by rw [List.map_append]; rfl⟩
      rcases List.mem_append.mp hw with h | h
      · exact rok w h
      · have : w = r := by simpa using h
        rw [this]; exact hr
  · rintro k as' hk ⟨rs, u5, ⟨rl, rok⟩, rfl⟩
    exact ⟨rs, u5, ⟨by omega, rok⟩, rfl⟩
  rintro as' ⟨rs, u5, ⟨rl, rok⟩, rfl⟩
  refine q_asgN1 n_nil fun lO => ?_
  refine q_asg1 e_int ?_
  refine tr_seq (M := fun as' => ∃ (os : List (Int × Nat × Int × Int)) (u5 u7 : A), (os.length ≤ 4 ∧ ∀ o ∈ os, o.2.1 < b.length ∧ td ≤ o.2.2.2 ∧ o.2.2.2 ≤ td + 29 ∧ 0 ≤ o.2.2.1) ∧ as' = [.b, .t (eBill b), .t (.int td), .t (.tup (st.map .int)), .o lC (rs.map eRec), u5, .o lO (os.map eOrd), u7, .x]) (tr_range1 (q := fun k => 0 ≤ k ∧ k < 5) (vs1 (n_drawC rfl e_int (by decide))) (fun k h => by omega)
    (fun _ t as' => ∃ (os : List (Int × Nat × Int × Int)) (u5 : A) (z : Int), (os.length ≤ t ∧ ∀ o ∈ os, o.2.1 < b.length ∧ td ≤ o.2.2.2 ∧ o.2.2.2 ≤ td + 29 ∧ 0 ≤ o.2.2.1) ∧ as' = [.b, .t (eBill b), .t (.int td), .t (.tup (st.map .int)), .o lC (rs.map eRec), u5, .o lO (os.map eOrd), .t (.int z), .x]) (fun k h => ⟨[], u5, 0, ⟨Nat.zero_le _, fun _ h => nomatch h⟩, rfl⟩) ?_ ?_) ?_
  · rintro k t as' hk ht ⟨os, u5, z, ⟨ol, ook⟩, rfl⟩
    refine q_asg (P := PI fun _ => True) (n_sum (n_sum (r := fun _ => True) (e_var rfl).pi e_int.pi (fun _ _ _ _ => trivial)) (n_drawC rfl e_int (by decide)) (fun _ _ _ _ => trivial)) ?_
    rintro x ⟨z2, rfl, _⟩
    refine tr_app (P := fun z => ∃ o : Int × Nat × Int × Int, z = eOrd o ∧ o.2.1 < b.length ∧ td ≤ o.2.2.2 ∧ o.2.2.2 ≤ td + 29 ∧ 0 ≤ o.2.2.1) rfl (e_tupN (vs4 (e_var rfl) (n_drawC (n := (b.length : Int)) rfl ((e_lenT (e_var rfl)).cast (by rw [List.length_map])) (by omega)) (n_sum (r := fun k => 0 ≤ k) e_int.pi (n_drawC rfl e_int (by decide)) (fun a b e h => by omega)) (n_sum (r := fun k => td ≤ k ∧ k ≤ td + 29) (e_var rfl).pi (n_drawC rfl e_int (by decide)) (fun a b e h => by omega))) (fun ts ⟨w, x, y, z, e, ew, ⟨i, ex, i1, i2⟩, ⟨q, ey, q1⟩, ⟨d, ez, d1, d2⟩⟩ => ?_)) (by rw [List.length_map]; omega) ?_
    · subst e ew ex ey ez
      refine ⟨by simp, (z2, i.toNat, q, d), ?_, by show i.toNat < b.length; omega, d1, d2, q1⟩
      show K12.T.tup [.int z2, .int i, .int q, .int d] = .tup [.int z2, .int ((i.toNat : Nat) : Int), .int q, .int d]
      rw [show ((i.toNat : Nat) : Int) = i by omega]
    · rintro z ⟨o, rfl, ho⟩
      refine ⟨os ++ [o], _, z2, ⟨by rw [List.length_append, List.length_singleton]; omega, fun w hw => ?_⟩, by rw [List.map_append]; rfl⟩
      rcases List.mem_append.mp hw with h | h
      · exact ook w h
      · have : w = o := by simpa using h
        rw [this]; exact ho
  · rintro k as' hk ⟨os, u5, z, ⟨ol, ook⟩, rfl⟩
    exact ⟨os, u5, _, ⟨by omega, ook⟩, rfl⟩
  rintro as' ⟨os, u5, u7, ⟨ol, ook⟩, rfl⟩
  exact tr_ret1 (e_tup (vs_cons (e_var rfl) (vs_cons (e_var rfl) (vs_cons (e_tuple (r_varO rfl)) (vs_cons (e_tuple (r_varO rfl)) vs_nil))))) ⟨⟨td, st, rs, os⟩, ⟨st1, st2, ⟨td1, td2⟩, rok, rl, ook, ol⟩, rfl⟩
end K12
namespace K12
open PySem L2 Evl

/-! ### the law -/
theorem plan_of_item (i : Nat) : ∀ (r : Rows) (z : Int × List Start) (s : Start), s ∈ (r.foldl (planStep i) z).2 → s ∈ z.2 ∨ (s.1 = i ∧ ∃ x ∈ r, s.2.1 = x.1)
  | [], z, s, h => .inl h
  | x :: r, z, s, h => by
    rw [List.foldl_cons] at h
    rcases plan_of_item i r _ s h with h | ⟨h1, y, hy, h2⟩
    · rcases List.mem_append.mp (show s ∈ z.2 ++ [(i, x.1, x.2 - z.1)] from h) with h | h
      · exact .inl h
      · have e : s = (i, x.1, x.2 - z.1) := by simpa using h
        rw [e]
        exact .inr ⟨rfl, x, by simp, rfl⟩
    · exact .inr ⟨h1, y, List.mem_cons_of_mem _ hy, h2⟩
theorem planTo_ok {b : Bill} {k : Books} {n : List Rows} (N : NeedsOk b k n) : ∀ m, m ≤ b.length → PlanOk b k (planTo n m)
  | 0, _ => fun _ h => nomatch h
  | m + 1, hm => fun s h => by
    rcases plan_of_item m _ _ s h with h | ⟨h1, x, hx, h2⟩
    · exact planTo_ok N m (by omega) s h
    · exact ⟨by omega, by rw [h2]; exact N.hi m (by omega) x hx⟩
theorem planOf_ok {b : Bill} {k : Books} {n : List Rows} (N : NeedsOk b k n) : PlanOk b k (planOf n) := planTo_ok N _ (Nat.le_of_eq N.len)
theorem late_none {k : Books} {n : List Rows} (c : late k n = false) : n.filter (lateRows k) = [] := by
  refine List.filter_eq_nil_iff.mpr fun r hr h => ?_
  have : late k n = true := List.any_eq_true.mpr ⟨r, hr, h⟩
  rw [c] at this
  cases this
theorem late_some {k : Books} {n : List Rows} (c : late k n = true) : 0 < (n.filter (lateRows k)).length := by
  obtain ⟨r, hr, h⟩ := List.any_eq_true.mp c
  exact List.length_pos_of_mem (List.mem_filter.mpr ⟨hr, h⟩)
theorem dat_start (s : Start) : Dat 2 (eStart s) := .inr (.inr ⟨_, rfl, fun t h => by
  have : t = .int (s.1 : Int) ∨ t = .int s.2.1 ∨ t = .int s.2.2 := by simpa using h
  rcases this with e | e | e <;> exact .inl ⟨_, e⟩, by simp⟩)
theorem dat_pair (s : Nat × Int) : Dat 2 (ePair s) := .inr (.inr ⟨_, rfl, fun t h => by
  have : t = .int (s.1 : Int) ∨ t = .int s.2 := by simpa using h
  rcases this with e | e <;> exact .inl ⟨_, e⟩, by simp⟩)
section
variable {K : PySem.W.Frag} {bx : BX} {H0 : Hp} {as : List A} {p : Ps} {ta tb te : TE} {b : Bill} {k : Books} {i j : Nat} {E : XK}
theorem e_told {x : T} (h1 : as[i]? = some (.t (eBill b))) (h2 : as[j]? = some (.t (eBooks k))) (hb : BillOk b) (hk : BooksOk b.length k) (hx : x = if late k (needed b k) then .non else ePlan (planOf (needed b k))) :
    Ev1 K bx (tCall (spF K R__law_told) [] E (tCons (tVar i) (tCons (tVar j) tNil))) as x :=
  n_callT (a_cons (e_var h1) (a_cons (e_var h2) a_nil)) fun args e => ⟨_, ⟨b, k, ⟨hb, hk⟩, e, rfl⟩, fun r h => by
    rcases h with ⟨c, h⟩ | ⟨c, h⟩
    · exact ⟨_, h, by rw [hx, c]; rfl⟩
    · exact ⟨_, h, by rw [hx, c]; rfl⟩⟩
theorem e_todayN (h1 : as[i]? = some (.t (eBill b))) (h2 : as[j]? = some (.t (eBooks k))) (hb : BillOk b) (hk : BooksOk b.length k) (hc : late k (needed b k) = true) :
    Ev1 K bx (tCall (spF K R__law_today) [] E (tCons (tVar i) (tCons (tVar j) tNil))) as .non :=
  n_callT (a_cons (e_var h1) (a_cons (e_var h2) a_nil)) fun args e => ⟨_, ⟨b, k, ⟨hb, hk⟩, e, rfl⟩, fun r h => by
    rcases h with ⟨c, h⟩ | ⟨c, h⟩
    · rw [hc] at c; cases c
    · exact ⟨_, h, rfl⟩⟩
theorem n_todayL (h1 : as[i]? = some (.t (eBill b))) (h2 : as[j]? = some (.t (eBooks k))) (hb : BillOk b) (hk : BooksOk b.length k) (hc : late k (needed b k) = false) :
    EvN1 K bx (tCall (spF K R__law_today) [] E (tCons (tVar i) (tCons (tVar j) tNil))) as ((todayOf k (planOf (needed b k))).map ePair) :=
  n_callN (a_cons (e_var h1) (a_cons (e_var h2) a_nil)) fun args e => ⟨_, ⟨b, k, ⟨hb, hk⟩, e, rfl⟩, fun r h => by
    rcases h with ⟨c, h⟩ | ⟨c, h⟩
    · exact ⟨_, h, rfl⟩
    · rw [hc] at c; cases c⟩
/-- the two same things are the same -/
theorem e_same {x : T} (h1 : Ev1 K bx ta as x) (h2 : Ev1 K bx tb as x) (hx : Dat 3 x) : Ev1 K bx (tCall (spF K (R_same 3)) [] E (tCons ta (tCons tb tNil))) as (.bl true) :=
  e_call (a_cons h1 (a_cons h2 a_nil)) ⟨.inl ⟨x, hx, rfl⟩, rfl⟩
theorem e_sameL {ts : List T} (h1 : EvR K bx ta as ts) (h2 : EvR K bx tb as ts) (hx : ∀ t ∈ ts, Dat 2 t) (hl : ts.length ≤ 100000) : Ev1 K bx (tCall (spF K (R_same 3)) [] E (tCons ta (tCons tb tNil))) as (.bl true) :=
  e_call (a_consR h1 (a_consR h2 a_nil)) ⟨.inr ⟨ts, hx, hl, rfl⟩, rfl⟩
/-- the box is made -/
theorem tr_box {H : Hp} {σ : L2.St} {D : Ends} (S : SI K none [] H0 H as σ) (h : EvN K none te as (fun ts => ∃ ds : List Int, ts = ds.map .int)) {u : TS}
    (k : ∀ b g H', BoxOk (some (b, g)) H' → u D (σ.set i (some (.ref b))) H') : tSeq (tAsg (tLst (tCons te (tCons (tC (.int 0)) tNil))) (gName i)) u D σ H :=
  h [] H0 H σ S _ fun ts g xs H1 ⟨ds, e⟩ e1 hg hx r => by
    subst e
    have ex := r.ints
    subst ex
    refine ⟨sz_of (by simp), fun b hb => k b g _ fun b' g' e => ?_⟩
    cases e
    have ne : b ≠ g := fun q => by rw [q, hx] at hb; cases hb
    exact ⟨ne, 0, ds, upd_same, by rw [upd_ne ne.symm]; exact hx⟩
end
def spLaw (K : PySem.W.Frag) : Sp := fun vs H Q _ => ∃ (a : Addr) (ns : List Int), vs = [.ref a] ∧ SqL K H a (ns.map V.int) ∧ ns.length ≤ 63 ∧ ∀ H', Q (.bl true) H'
def R__law_same := R_same 3
theorem ok__law_same {P : Program} {w : World} {K : PySem.W.Frag} {mg : Str → Option Value} {base : Heap} (T : Txt K mg) : FnOk P w K mg base CX0 3 T._law_same.a T._law_same.fd ["_law_actual", "_law_due"] (spF K (R_same 3)) := ok_same T 3
theorem ok_law {P : Program} {w : World} {K : PySem.W.Frag} {mg : Str → Option Value} {base : Heap} (T : Txt K mg) : FnOk P w K mg base CX0 9 T.law.a T.law.fd ["_law_script"] (spLaw K) := by
  refine T.law.F.ok sc_law (fun vs H Q E h => ?_) (fun cdv Ar outer s H vs Q E hr h => ?_)
  · obtain ⟨a, ns, rfl, _⟩ := h
    rfl
  · obtain ⟨a, ns, rfl, hS, hlen, kk⟩ := h
    refine ⟨_,

    (pss_cons (ps_set (i := 1) sc_law.nd rfl (Or.inl rfl) (pe_lst (pa_cons (pe_call (ok__law_digits T) (hr.mono (by decide)) (by rfl) T._law_digits.m T._law_digits.F.kp T._law_digits.b .nil pass0 (pa_cons (pv 0) (pa_cons pe_int (pa_cons pe_int pa_nil)))) (pa_cons pe_int pa_nil))))
    (pss_cons (ps_set (i := 2) sc_law.nd rfl (Or.inl rfl) (pe_call (ok__law_bill T) (hr.mono (by decide)) (by rfl) T._law_bill.m T._law_bill.F.kp T._law_bill.b .nil pass0 (pa_cons (pv 1) (pa_cons pe_int pa_nil))))
    (pss_cons (ps_set (i := 3) sc_law.nd rfl (Or.inr rfl) (pe_call (ok__law_books T) (hr.mono (by decide)) (by rfl) T._law_books.m T._law_books.F.kp T._law_books.b .nil pass0 (pa_cons (pv 1) (pa_cons (pv 2) pa_nil))))
    (pss_cons (ps_set (i := 4) sc_law.nd rfl (Or.inl rfl) (pe_call (ok__law_needed T) (hr.mono (by decide)) (by rfl) T._law_needed.m T._law_needed.F.kp T._law_needed.b .nil pass0 (pa_cons (pv 2) (pa_cons (pv 3) pa_nil))))
    (pss_cons (ps_setLc (i := 5) (own := [("_law_rows", 12)]) (g := gName 12) rfl sc_law.nd rfl rfl (sw_true rfl rfl rfl (by decide +kernel)) (pi_tupK K (pv 4)) (blkOk_by (own := [("_law_rows", 12)]) (N := N_law) (sc := defScope s_law) (by decide +kernel)) (fun _ _ _ _ _ => (pg_name (i := 12) sc_law.nd rfl (Or.inl rfl))) (fun _ _ _ _ _ => (pts_one (PW.pt (pw_and (pt_cmpR op_gt (pe_callB (call_lenK K) (by rfl) T.z_len PySem.boot_len (pa_cons (pv 12) pa_nil)) pe_int (nomark _)) (pw_and1 (pt_cmpR op_lt (pe_ix (ix_tupK K) (pe_ix (ix_tupK K) (pv 12) pe_int (fun _ _ => rfl)) pe_int (fun _ _ => rfl)) (pe_ix (ix_tupK K) (pv 3) pe_int (fun _ _ => rfl)) (nomark _))))))) (fun _ _ _ _ _ => (pv 12)))
    (pss_cons (ps_if (pt_not (pt_val (pe_call (ok__law_same T) (hr.mono (by decide)) (by rfl) T._law_same.m T._law_same.F.kp T._law_same.b .nil pass0 (pa_cons (pe_call (ok_can_work T) (hr.mono (by decide)) (by rfl) T.can_work.m T.can_work.F.kp T.can_work.b .nil pass0 (pa_cons (pv 2) (pa_cons (pv 3) pa_nil))) (pa_cons (pe_cmpR op_eq (pe_callB (call_lenK K) (by rfl) T.z_len PySem.boot_len (pa_cons (pv 5) pa_nil)) pe_int (nomark _)) pa_nil))))) 
      (pss_one (ps_ret pe_bl)) pss_nil)
    (pss_cons (ps_if (pt_cmpR op_gt (pe_callB (call_lenK K) (by rfl) T.z_len PySem.boot_len (pa_cons (pv 5) pa_nil)) pe_int (nomark _)) 
      (pss_one (ps_ret (pe_and (pe_cmp (pc_isN (pe_call (ok__law_told T) (hr.mono (by decide)) (by rfl) T._law_told.m T._law_told.F.kp T._law_told.b .nil pass0 (pa_cons (pv 2) (pa_cons (pv 3) pa_nil)))) rfl) (pe_one (pe_cmp (pc_isN (pe_call (ok__law_today T) (hr.mono (by decide)) (by rfl) T._law_today.m T._law_today.F.kp T._law_today.b .nil pass0 (pa_cons (pv 2) (pa_cons (pv 3) pa_nil)))) rfl))))) pss_nil)
    (pss_cons (ps_set (i := 6) sc_law.nd rfl (Or.inl rfl) (pe_lst pa_nil))
    (pss_cons (ps_for PassesOwn.never rfl (pi_range1 (by rfl) T.z_range (pa_cons (pe_callB (call_lenK K) (by rfl) T.z_len PySem.boot_len (pa_cons (pv 2) pa_nil)) pa_nil)) (pg_name (i := 7) sc_law.nd rfl (Or.inl rfl)) 
      (pss_cons (ps_set (i := 8) sc_law.nd rfl (Or.inl rfl) pe_int)
      (pss_one (ps_for PassesOwn.never rfl (pi_tupK K (pe_ix (ix_tupK K) (pv 4) (pv 7) (fun _ _ => rfl))) (pg_tupK K (by rfl) (pgs_cons (pg_name (i := 9) sc_law.nd rfl (Or.inl rfl)) (pgs_cons (pg_name (i := 10) sc_law.nd rfl (Or.inl rfl)) pgs_nil))) 
        (pss_cons (ps_expr (pe_bmK K (pe_bm PySem.F.plainAttrs_list PySem.F.slot_list_append PySem.F.type_list_append mt_append (pv 6) (pa_cons (pe_tup (pa_cons (pv 7) (pa_cons (pv 9) (pa_cons (pe_op op_sub (pv 10) (pv 8)) pa_nil)))) pa_nil))))
        (pss_one (ps_set (i := 8) sc_law.nd rfl (Or.inl rfl) (pv 10))))))))
    (pss_cons (ps_if (pt_not (pt_val (pe_call (ok__law_same T) (hr.mono (by decide)) (by rfl) T._law_same.m T._law_same.F.kp T._law_same.b .nil pass0 (pa_cons (pe_call (ok__law_told T) (hr.mono (by decide)) (by rfl) T._law_told.m T._law_told.F.kp T._law_told.b .nil pass0 (pa_cons (pv 2) (pa_cons (pv 3) pa_nil))) (pa_cons (pe_callTy (call_tupleK K) (by rfl) T.z_tuple (by decide +kernel) (pa_cons (pv 6) pa_nil)) pa_nil))))) 
      (pss_one (ps_ret pe_bl)) pss_nil)
    (pss_cons (ps_setLc (i := 11) (own := [("_law_start", 13)]) (g := gName 13) rfl sc_law.nd rfl rfl (sw_true rfl rfl rfl (by decide +kernel)) (pi_listK K (pv 6)) (blkOk_by (own := [("_law_start", 13)]) (N := N_law) (sc := defScope s_law) (by decide +kernel)) (fun _ _ _ _ _ => (pg_name (i := 13) sc_law.nd rfl (Or.inl rfl))) (fun _ _ _ _ _ => (pts_one (pt_cmpR op_eq (pe_ix (ix_tupK K) (pv 13) pe_int (fun _ _ => rfl)) (pe_ix (ix_tupK K) (pv 3) pe_int (fun _ _ => rfl)) (nomark _)))) (fun _ _ _ _ _ => (pe_tup (pa_cons (pe_ix (ix_tupK K) (pv 13) pe_int (fun _ _ => rfl)) (pa_cons (pe_ix (ix_tupK K) (pv 13) pe_int (fun _ _ => rfl)) pa_nil)))))
    (pss_one (ps_ret (pe_and (pe_call (ok__law_same T) (hr.mono (by decide)) (by rfl) T._law_same.m T._law_same.F.kp T._law_same.b .nil pass0 (pa_cons (pe_call (ok__law_today T) (hr.mono (by decide)) (by rfl) T._law_today.m T._law_today.F.kp T._law_today.b .nil pass0 (pa_cons (pv 2) (pa_cons (pv 3) pa_nil))) (pa_cons (pv 11) pa_nil))) (pe_one (pe_cmpR op_eq (pe_callB (call_lenK K) (by rfl) T.z_len PySem.boot_len (pa_cons (pe_call (ok__law_shortages T) (hr.mono (by decide)) (by rfl) T._law_shortages.m T._law_shortages.F.kp T._law_shortages.b .nil pass0 (pa_cons (pv 2) (pa_cons (pv 3) (pa_cons (pe_callTy (call_tupleK K) (by rfl) T.z_tuple (by decide +kernel) (pa_cons (pv 6) pa_nil)) pa_nil)))) pa_nil)) pe_int (nomark _)))))))))))))))))
      , ?_⟩
    have S0 : SI K none [] H H ([Arg.r (ns.map .int)].map Arg.toA ++ List.replicate 13 A.x) (L2.start N_law [.ref a]) := by
      refine ⟨JB.refl H, BoxOk.no, rfl, fun i x e => ?_, fun i j x y a e1 _ m _ => (toA_own e1 m).elim, fun _ h => nomatch h⟩
      exact si_start (args := [Arg.r (ns.map .int)]) (vs := [.ref a]) ⟨_, _, rfl, ⟨a, _, rfl, NB.no, hS, repL_ints⟩, rfl⟩ 13 i x e
    refine tr_box S0 (n_callN (a_consR (r_varL rfl) (a_cons e_int (a_cons e_int a_nil))) (fun args e => ⟨_, ⟨ns, trivial, e, rfl⟩, fun r ⟨ds, e⟩ => ⟨_, e, ds, rfl⟩⟩)) fun b0 g0 H1 hbx => ?_
    have S1 : SI K (some (b0, g0)) [] H1 H1 [.x, .b, .x, .x, .x, .x, .x, .x, .x, .x, .x, .x, .x, .x] ((L2.start N_law [.ref a]).set 1 (some (.ref b0))) := by
      refine ⟨JB.refl H1, hbx, rfl, fun i x e => ?_, fun i j x y a e1 _ m _ => ?_, fun _ h => nomatch h⟩
      · match i, e with
        | 0, e => cases e; exact ⟨_, rfl, trivial⟩
        | 1, e => cases e; exact ⟨_, rfl, b0, g0, rfl, rfl⟩
        | 2, e => cases e; exact ⟨_, rfl, trivial⟩
        | 3, e => cases e; exact ⟨_, rfl, trivial⟩
        | 4, e => cases e; exact ⟨_, rfl, trivial⟩
        | 5, e => cases e; exact ⟨_, rfl, trivial⟩
        | 6, e => cases e; exact ⟨_, rfl, trivial⟩
        | 7, e => cases e; exact ⟨_, rfl, trivial⟩
        | 8, e => cases e; exact ⟨_, rfl, trivial⟩
        | 9, e => cases e; exact ⟨_, rfl, trivial⟩
        | 10, e => cases e; exact ⟨_, rfl, trivial⟩
        | 11, e => cases e; exact ⟨_, rfl, trivial⟩
        | 12, e => cases e; exact ⟨_, rfl, trivial⟩
        | 13, e => cases e; exact ⟨_, rfl, trivial⟩
        | i + 14, e => cases e
      · have h := List.mem_of_getElem? e1
        have : x = .x ∨ x = .b ∨ x = .x := by simpa using h
        rcases this with q | q | q <;> subst q <;> simp [A.own] at m
    refine (show Tr K (some (b0, g0)) H1 _ _ { rt := fun r => r = .t (.bl true) } from ?_) [] H1 _ _ S1 (fun _ _ _ h => h.elim) (fun r v H' e _ ok => ?_) (fun _ _ _ h => h.elim) (fun _ _ _ h => h.elim)
    case refine_2 =>
      subst e
      rw [show v = .bl true from (rep_bl (H := H')).mp ok]
      exact kk H'
    refine q_asg (P := fun z => ∃ b, BillOk b ∧ z = eBill b) (n_callT (PA := fun args => args = [.b, .t (.int 6)]) (fun F H0 H σ S Q q => a_consB rfl (a_cons e_int a_nil) F H0 H σ S Q fun rs vs H' ⟨r, e1, e2⟩ => q rs vs H' (by rw [e1, e2])) (fun args e => ⟨_, ⟨(), trivial, e, rfl⟩, fun r ⟨b, hb, e⟩ => ⟨_, e, b, hb, rfl⟩⟩)) ?_
    rintro x ⟨b, hb, rfl⟩
    refine q_asg (P := fun z => ∃ k, BooksOk b.length k ∧ z = eBooks k) (n_callT (PA := fun args => args = [.b, .t (eBill b)]) (fun F H0 H σ S Q q => a_consB rfl (a_cons (e_var rfl) a_nil) F H0 H σ S Q fun rs vs H' ⟨r, e1, e2⟩ => q rs vs H' (by rw [e1, e2])) (fun args e => ⟨_, ⟨b, hb, e, rfl⟩, fun r ⟨k, hk, e⟩ => ⟨_, e, k, hk, rfl⟩⟩)) ?_
    rintro x ⟨k, hk, rfl⟩
    have n1 := hb.n1
    have n6 := hb.n6
    have hf := fok_needed hb hk
    have hnl := hf.len
    have N := needs_ok hb hk
    refine q_asg1 (x := eNeeds (needed b k)) (Ev1.cast (e_call (a_cons (e_var rfl) (a_cons (e_var rfl) a_nil)) ⟨b, k, ⟨hb, hk⟩, rfl, rfl⟩) (congrArg eNeeds (law_needed hb hk))) ?_
    refine q_asgN1 (ts := ((needed b k).filter (lateRows k)).map eRows) (lcT_det (enc := eRows) (xs := needed b k) (lateRows k) eRows (e_var rfl) (by omega) (by simp) fun r _ => ⟨_, gt_name, late_test rfl rfl, fun _ => e_var rfl⟩) fun lL => ?_
    cases c : late k (needed b k) with
    | true =>
      have hl := late_some c
      refine q_skip (EvB1.cast (b_not (b_B (e_same (x := .bl false) (Ev1.cast (e_call (a_cons (e_var rfl) (a_cons (e_var rfl) a_nil)) ⟨b, k, ⟨hb, hk⟩, rfl, rfl⟩) (by rw [c]; rfl)) (Ev1.cast (e_eqI (e_len (r_varO rfl)) e_int) (congrArg K12.T.bl (decide_eq_false (by rw [List.length_map]; omega)))) (.inr (.inl ⟨_, rfl⟩))))) rfl) ?_
      refine q_take (EvB1.cast (b_test (e_B0 (e_len (r_varO rfl)) e_int)) (decide_eq_true (by rw [List.length_map]; omega))) ?_
      exact tr_ret1 (Ev1.cast (e_andV (e_isN (e_told (x := .non) rfl rfl hb hk (by rw [c]; rfl))) (fun _ => e_isN (e_todayN rfl rfl hb hk c))) rfl) rfl
    | false =>
      rw [late_none c]
      refine q_skip (EvB1.cast (b_not (b_B (e_same (x := .bl true) (Ev1.cast (e_call (a_cons (e_var rfl) (a_cons (e_var rfl) a_nil)) ⟨b, k, ⟨hb, hk⟩, rfl, rfl⟩) (by rw [c]; rfl)) (Ev1.cast (e_eqI (e_len (r_varO rfl)) e_int) rfl) (.inr (.inl ⟨_, rfl⟩))))) rfl) ?_
      refine q_skip (EvB1.cast (b_test (e_B0 (e_len (r_varO rfl)) e_int)) rfl) ?_
      refine q_asgN1 n_nil fun lP => ?_
      refine tr_seq (M := fun as' => ∃ u7 u8 u9 u10, as' = [.x, .b, .t (eBill b), .t (eBooks k), .t (eNeeds (needed b k)), .o lL [], .o lP ((planOf (needed b k)).map eStart), u7, u8, u9, u10, .x, .x, .x]) (tr_rangeD (n := b.length) (vs_cons ((e_lenT (e_var rfl)).cast (by rw [List.length_map])) vs_nil) (by omega)
        (fun m as' => ∃ u7 u8 u9 u10, as' = [.x, .b, .t (eBill b), .t (eBooks k), .t (eNeeds (needed b k)), .o lL [], .o lP ((planTo (needed b k) m).map eStart), u7, u8, u9, u10, .x, .x, .x]) ⟨.x, .x, .x, .x, rfl⟩ ?_ ?_) ?_
      · rintro m as' hm ⟨u7, u8, u9, u10, rfl⟩
        have pl := planTo_len hf m
        have few := hf.few m
        refine q_asg1 e_int ?_
        refine tr_forT (enc := eRow) (xs := (needed b k).getD m []) (e_ixT (e_var rfl) (e_var rfl) (rows_at hf hm)) (fun d' as' => ∃ u9 u10, as' = [.x, .b, .t (eBill b), .t (eBooks k), .t (eNeeds (needed b k)), .o lL [], .o lP ((d'.foldl (planStep m) (0, planTo (needed b k) m)).2.map eStart), .t (.int (m : Int)), .t (.int (d'.foldl (planStep m) (0, planTo (needed b k) m)).1), u9, u10, .x, .x, .x]) ⟨u9, u10, rfl⟩ ?_ ?_
        · rintro d' x rest as' e2 ⟨u9, u10, rfl⟩
          have sl := planItem_len m d' (0, planTo (needed b k) m)
          have dl : d'.length ≤ 130 := by rw [e2, List.length_append] at few; omega
          rw [List.foldl_append]
          generalize d'.foldl (planStep m) (0, planTo (needed b k) m) = st at sl ⊢
          refine ⟨_, _, gt_tup (gts_cons (gts_cons gts_nil)), ?_⟩
          refine tr_seq (M := fun as' => as' = [.x, .b, .t (eBill b), .t (eBooks k), .t (eNeeds (needed b k)), .o lL [], .o lP ((st.2 ++ [(m, x.1, x.2 - st.1)]).map eStart), .t (.int (m : Int)), .t (.int st.1), .t (.int x.1), .t (.int x.2), .x, .x, .x]) (tr_app1 (x := eStart (m, x.1, x.2 - st.1)) rfl (e_tup (vs_cons (e_var rfl) (vs_cons (e_var rfl) (vs_cons (e_I0 (e_var rfl) (e_var rfl)) vs_nil)))) ?_ ?_) ?_
          · rw [List.length_map, sl]
            show (planTo (needed b k) m).length + d'.length < 100000
            omega
          · show _ = [_, _, _, _, _, _, A.o lP ((st.2 ++ [_]).map eStart), _, _, _, _, _, _, _]
            rw [List.map_append]; rfl
          · rintro as' rfl
            exact tr_asg1 (e_var rfl) ⟨.t (.int x.1), .t (.int x.2), rfl⟩
        · rintro as' ⟨u9, u10, rfl⟩
          exact ⟨_, _, u9, u10, rfl⟩
      · rintro as' ⟨u7, u8, u9, u10, rfl⟩
        refine ⟨u7, u8, u9, u10, ?_⟩
        unfold planOf
        rw [hnl]
      rintro as' ⟨u7, u8, u9, u10, rfl⟩
      have pl : (planOf (needed b k)).length ≤ 1000 := by
        have := planTo_len hf (needed b k).length
        show (planTo (needed b k) (needed b k).length).length ≤ 1000
        omega
      refine q_skip (EvB1.cast (b_not (b_B (e_same (x := ePlan (planOf (needed b k))) (e_told rfl rfl hb hk (by rw [c]; rfl)) (e_tuple (r_varO rfl)) (.inr (.inr ⟨_, rfl, fun t ht => ?_, by rw [List.length_map]; omega⟩))))) rfl) ?_
      · obtain ⟨s, _, rfl⟩ := List.mem_map.mp ht
        exact dat_start s
      refine q_asgN1 (ts := (todayOf k (planOf (needed b k))).map ePair) (EvN1.cast (lcR_det (enc := eStart) (xs := planOf (needed b k)) (fun s => decide (s.2.1 = k.today)) (fun s => ePair (s.1, s.2.2)) (r_varO rfl) (by omega) (by simp)
        fun s _ => ⟨_, gt_name, b_test (e_eqI (e_ixT (x := .int s.2.1) (e_var rfl) e_int rfl) (e_ixT (x := .int k.today) (e_var rfl) e_int rfl)), fun _ => e_tup (vs_cons (e_ixT (x := .int (s.1 : Int)) (e_var rfl) e_int rfl) (vs_cons (e_ixT (x := .int s.2.2) (e_var rfl) e_int rfl) vs_nil))⟩) (by unfold todayOf; rw [List.map_map]; rfl)) fun lD => ?_
      refine tr_ret1 (Ev1.cast (e_andV (a := true) (b := true) (e_sameL (ts := (todayOf k (planOf (needed b k))).map ePair) (EvN.rd (n_todayL rfl rfl hb hk c)) (r_varO rfl) (fun t ht => ?_) ?_) (fun _ => Ev1.cast (e_eqI (e_len (EvN.rd (n_call1 (ts := []) (a_cons (e_var rfl) (a_cons (e_var rfl) (a_cons (e_tuple (r_varO rfl)) a_nil))) ⟨b, k, planOf (needed b k), ⟨hb, hk, planOf_ok N, fun i hi d hd => balance_nonneg hb N hi hd⟩, rfl, rfl⟩))) e_int) rfl)) rfl) rfl
      · obtain ⟨s, _, rfl⟩ := List.mem_map.mp ht
        exact dat_pair s
      · rw [List.length_map]
        unfold todayOf
        rw [List.length_map]
        have := List.length_filter_le (fun s : Start => decide (s.2.1 = k.today)) (planOf (needed b k))
        omega
end K12
namespace K12
open PySem L2 Evl

/-! ### the end: what the top has written -/
theorem exm_own {K : PySem.W.Frag} {S : Addr} (hb : PySem.W.subIn K (.ref S) (.type "BaseException") = some true) (hi : PySem.W.isClsIn K S = true) (ht : PySem.W.typeIn K (.ref S) = some (.type "type")) (hs : PySem.W.subIn K (.ref S) (.ref S) = some true) : PySem.W.exmOne K (.ref S) (.ref S) = some true := by
  have hc : (PySem.W.clsIn K S).isSome = true := hi
  simp [PySem.W.exmOne, PySem.W.kitCls, hb, ht, hs, hc]
def Fn.of {K : PySem.W.Frag} {h : Heap} {mg : Str → Option Value} {x : Str} {st : Stmt} {ps : List Str} {a : Addr} {fd : FuncData} (X : K.In h) (G : h.Ns mainGlobals mg) (e : PySem.W.nsIn K mainGlobals x = some (some (.ref a))) (F : Fun K x x st a fd) (b : Binds K fd ps []) : Fn K mg x st ps := ⟨a, fd, F, PySem.W.mg_of X G e, b⟩
theorem all_mk {P : Program} {w : World} {K : PySem.W.Frag} {h : Heap} {mg : Str → Option Value} {fa C f0 f1 f2 f3 f4 f5 f6 f7 f8 f9 f10 f11 f12 f13 f14 f15 f16 f17 f18 f19 f20 f21 f22 f23 f24 f25 f26 f27 f28 f29 f30 f31 f32 f33 f34 : Addr} (X : K.In h) (G : h.Ns mainGlobals mg) (hfa : mg "law" = some (.ref fa))
    {od0 an0 od1 an1 od2 an2 od3 an3 od4 an4 od5 an5 od6 an6 od7 an7 od8 an8 od9 an9 od10 an10 od11 an11 od12 an12 od13 an13 od14 an14 od15 an15 od16 an16 od17 an17 od18 an18 od19 an19 od20 an20 od21 an21 od22 an22 od23 an23 od24 an24 od25 an25 od26 an26 od27 an27 od28 an28 od29 an29 od30 an30 od31 an31 od32 an32 od33 an33 od34 an34 : Option Addr} {sl0 sl1 sl2 sl3 sl4 sl5 sl6 sl7 sl8 sl9 sl10 sl11 sl12 sl13 sl14 sl15 sl16 sl17 sl18 sl19 sl20 sl21 sl22 sl23 sl24 sl25 sl26 sl27 sl28 sl29 sl30 sl31 sl32 sl33 sl34 : Array (Option Value)} {oc0 kV0 dc0 pm0 cd0 ct0 oc1 kV1 dc1 pm1 cd1 ct1 oc2 kV2 dc2 pm2 cd2 ct2 oc3 kV3 dc3 pm3 cd3 ct3 oc4 kV4 dc4 pm4 cd4 ct4 oc5 kV5 dc5 pm5 cd5 ct5 oc6 kV6 dc6 pm6 cd6 ct6 oc7 kV7 dc7 pm7 cd7 ct7 oc8 kV8 dc8 pm8 cd8 ct8 oc9 kV9 dc9 pm9 cd9 ct9 oc10 kV10 dc10 pm10 cd10 ct10 oc11 kV11 dc11 pm11 cd11 ct11 oc12 kV12 dc12 pm12 cd12 ct12 oc13 kV13 dc13 pm13 cd13 ct13 oc14 kV14 dc14 pm14 cd14 ct14 oc15 kV15 dc15 pm15 cd15 ct15 oc16 kV16 dc16 pm16 cd16 ct16 oc17 kV17 dc17 pm17 cd17 ct17 oc18 kV18 dc18 pm18 cd18 ct18 oc19 kV19 dc19 pm19 cd19 ct19 oc20 kV20 dc20 pm20 cd20 ct20 oc21 kV21 dc21 pm21 cd21 ct21 oc22 kV22 dc22 pm22 cd22 ct22 oc23 kV23 dc23 pm23 cd23 ct23 oc24 kV24 dc24 pm24 cd24 ct24 oc25 kV25 dc25 pm25 cd25 ct25 oc26 kV26 dc26 pm26 cd26 ct26 oc27 kV27 dc27 pm27 cd27 ct27 oc28 kV28 dc28 pm28 cd28 ct28 oc29 kV29 dc29 pm29 cd29 ct29 oc30 kV30 dc30 pm30 cd30 ct30 oc31 kV31 dc31 pm31 cd31 ct31 oc32 kV32 dc32 pm32 cd32 ct32 oc33 kV33 dc33 pm33 cd33 ct33 oc34 kV34 dc34 pm34 cd34 ct34 : Value}
    (a0 : PySem.W.nsIn K mainGlobals "supplied" = some (some (.ref f0))) (l0 : K.lookup f0 = some ⟨oc0, od0, .func (PySem.W.fnOf "supplied" "supplied" (defArgs s_supplied) (defBody s_supplied) (defScope s_supplied) .none kV0 dc0 pm0 an0 cd0 ct0), sl0⟩) (c0 : PySem.W.codeIn K cd0 "supplied" = true) (k0 : PySem.W.keepIn K (.ref f0) = true)
    (a1 : PySem.W.nsIn K mainGlobals "ordered" = some (some (.ref f1))) (l1 : K.lookup f1 = some ⟨oc1, od1, .func (PySem.W.fnOf "ordered" "ordered" (defArgs s_ordered) (defBody s_ordered) (defScope s_ordered) .none kV1 dc1 pm1 an1 cd1 ct1), sl1⟩) (c1 : PySem.W.codeIn K cd1 "ordered" = true) (k1 : PySem.W.keepIn K (.ref f1) = true)
    (a2 : PySem.W.nsIn K mainGlobals "quantity_in" = some (some (.ref f2))) (l2 : K.lookup f2 = some ⟨oc2, od2, .func (PySem.W.fnOf "quantity_in" "quantity_in" (defArgs s_quantity_in) (defBody s_quantity_in) (defScope s_quantity_in) .none kV2 dc2 pm2 an2 cd2 ct2), sl2⟩) (c2 : PySem.W.codeIn K cd2 "quantity_in" = true) (k2 : PySem.W.keepIn K (.ref f2) = true)
    (a3 : PySem.W.nsIn K mainGlobals "used_by" = some (some (.ref f3))) (l3 : K.lookup f3 = some ⟨oc3, od3, .func (PySem.W.fnOf "used_by" "used_by" (defArgs s_used_by) (defBody s_used_by) (defScope s_used_by) .none kV3 dc3 pm3 an3 cd3 ct3), sl3⟩) (c3 : PySem.W.codeIn K cd3 "used_by" = true) (k3 : PySem.W.keepIn K (.ref f3) = true)
    (a4 : PySem.W.nsIn K mainGlobals "parents_first" = some (some (.ref f4))) (l4 : K.lookup f4 = some ⟨oc4, od4, .func (PySem.W.fnOf "parents_first" "parents_first" (defArgs s_parents_first) (defBody s_parents_first) (defScope s_parents_first) .none kV4 dc4 pm4 an4 cd4 ct4), sl4⟩) (c4 : PySem.W.codeIn K cd4 "parents_first" = true) (k4 : PySem.W.keepIn K (.ref f4) = true)
    (a5 : PySem.W.nsIn K mainGlobals "rounded_up" = some (some (.ref f5))) (l5 : K.lookup f5 = some ⟨oc5, od5, .func (PySem.W.fnOf "rounded_up" "rounded_up" (defArgs s_rounded_up) (defBody s_rounded_up) (defScope s_rounded_up) .none kV5 dc5 pm5 an5 cd5 ct5), sl5⟩) (c5 : PySem.W.codeIn K cd5 "rounded_up" = true) (k5 : PySem.W.keepIn K (.ref f5) = true)
    (a6 : PySem.W.nsIn K mainGlobals "_lots_at" = some (some (.ref f6))) (l6 : K.lookup f6 = some ⟨oc6, od6, .func (PySem.W.fnOf "_lots_at" "_lots_at" (defArgs s__lots_at) (defBody s__lots_at) (defScope s__lots_at) .none kV6 dc6 pm6 an6 cd6 ct6), sl6⟩) (c6 : PySem.W.codeIn K cd6 "_lots_at" = true) (k6 : PySem.W.keepIn K (.ref f6) = true)
    (a7 : PySem.W.nsIn K mainGlobals "_days_of" = some (some (.ref f7))) (l7 : K.lookup f7 = some ⟨oc7, od7, .func (PySem.W.fnOf "_days_of" "_days_of" (defArgs s__days_of) (defBody s__days_of) (defScope s__days_of) .none kV7 dc7 pm7 an7 cd7 ct7), sl7⟩) (c7 : PySem.W.codeIn K cd7 "_days_of" = true) (k7 : PySem.W.keepIn K (.ref f7) = true)
    (a8 : PySem.W.nsIn K mainGlobals "_taken" = some (some (.ref f8))) (l8 : K.lookup f8 = some ⟨oc8, od8, .func (PySem.W.fnOf "_taken" "_taken" (defArgs s__taken) (defBody s__taken) (defScope s__taken) .none kV8 dc8 pm8 an8 cd8 ct8), sl8⟩) (c8 : PySem.W.codeIn K cd8 "_taken" = true) (k8 : PySem.W.keepIn K (.ref f8) = true)
    (a9 : PySem.W.nsIn K mainGlobals "rows_of" = some (some (.ref f9))) (l9 : K.lookup f9 = some ⟨oc9, od9, .func (PySem.W.fnOf "rows_of" "rows_of" (defArgs s_rows_of) (defBody s_rows_of) (defScope s_rows_of) .none kV9 dc9 pm9 an9 cd9 ct9), sl9⟩) (c9 : PySem.W.codeIn K cd9 "rows_of" = true) (k9 : PySem.W.keepIn K (.ref f9) = true)
    (a10 : PySem.W.nsIn K mainGlobals "needed" = some (some (.ref f10))) (l10 : K.lookup f10 = some ⟨oc10, od10, .func (PySem.W.fnOf "needed" "needed" (defArgs s_needed) (defBody s_needed) (defScope s_needed) .none kV10 dc10 pm10 an10 cd10 ct10), sl10⟩) (c10 : PySem.W.codeIn K cd10 "needed" = true) (k10 : PySem.W.keepIn K (.ref f10) = true)
    (a11 : PySem.W.nsIn K mainGlobals "can_work" = some (some (.ref f11))) (l11 : K.lookup f11 = some ⟨oc11, od11, .func (PySem.W.fnOf "can_work" "can_work" (defArgs s_can_work) (defBody s_can_work) (defScope s_can_work) .none kV11 dc11 pm11 an11 cd11 ct11), sl11⟩) (c11 : PySem.W.codeIn K cd11 "can_work" = true) (k11 : PySem.W.keepIn K (.ref f11) = true)
    (a12 : PySem.W.nsIn K mainGlobals "latest_plan" = some (some (.ref f12))) (l12 : K.lookup f12 = some ⟨oc12, od12, .func (PySem.W.fnOf "latest_plan" "latest_plan" (defArgs s_latest_plan) (defBody s_latest_plan) (defScope s_latest_plan) .none kV12 dc12 pm12 an12 cd12 ct12), sl12⟩) (c12 : PySem.W.codeIn K cd12 "latest_plan" = true) (k12 : PySem.W.keepIn K (.ref f12) = true)
    (a13 : PySem.W.nsIn K mainGlobals "starts_today" = some (some (.ref f13))) (l13 : K.lookup f13 = some ⟨oc13, od13, .func (PySem.W.fnOf "starts_today" "starts_today" (defArgs s_starts_today) (defBody s_starts_today) (defScope s_starts_today) .none kV13 dc13 pm13 an13 cd13 ct13), sl13⟩) (c13 : PySem.W.codeIn K cd13 "starts_today" = true) (k13 : PySem.W.keepIn K (.ref f13) = true)
    (a14 : PySem.W.nsIn K mainGlobals "_law_cell" = some (some (.ref f14))) (l14 : K.lookup f14 = some ⟨oc14, od14, .func (PySem.W.fnOf "_law_cell" "_law_cell" (defArgs s__law_cell) (defBody s__law_cell) (defScope s__law_cell) .none kV14 dc14 pm14 an14 cd14 ct14), sl14⟩) (c14 : PySem.W.codeIn K cd14 "_law_cell" = true) (k14 : PySem.W.keepIn K (.ref f14) = true)
    (a15 : PySem.W.nsIn K mainGlobals "_law_digits" = some (some (.ref f15))) (l15 : K.lookup f15 = some ⟨oc15, od15, .func (PySem.W.fnOf "_law_digits" "_law_digits" (defArgs s__law_digits) (defBody s__law_digits) (defScope s__law_digits) .none kV15 dc15 pm15 an15 cd15 ct15), sl15⟩) (c15 : PySem.W.codeIn K cd15 "_law_digits" = true) (k15 : PySem.W.keepIn K (.ref f15) = true)
    (a16 : PySem.W.nsIn K mainGlobals "_law_draw" = some (some (.ref f16))) (l16 : K.lookup f16 = some ⟨oc16, od16, .func (PySem.W.fnOf "_law_draw" "_law_draw" (defArgs s__law_draw) (defBody s__law_draw) (defScope s__law_draw) .none kV16 dc16 pm16 an16 cd16 ct16), sl16⟩) (c16 : PySem.W.codeIn K cd16 "_law_draw" = true) (k16 : PySem.W.keepIn K (.ref f16) = true)
    (a17 : PySem.W.nsIn K mainGlobals "_law_same" = some (some (.ref f17))) (l17 : K.lookup f17 = some ⟨oc17, od17, .func (PySem.W.fnOf "_law_same" "_law_same" (defArgs s__law_same) (defBody s__law_same) (defScope s__law_same) .none kV17 dc17 pm17 an17 cd17 ct17), sl17⟩) (c17 : PySem.W.codeIn K cd17 "_law_same" = true) (k17 : PySem.W.keepIn K (.ref f17) = true)
    (a18 : PySem.W.nsIn K mainGlobals "_law_run" = some (some (.ref f18))) (l18 : K.lookup f18 = some ⟨oc18, od18, .func (PySem.W.fnOf "_law_run" "_law_run" (defArgs s__law_run) (defBody s__law_run) (defScope s__law_run) .none kV18 dc18 pm18 an18 cd18 ct18), sl18⟩) (c18 : PySem.W.codeIn K cd18 "_law_run" = true) (k18 : PySem.W.keepIn K (.ref f18) = true)
    (a19 : PySem.W.nsIn K mainGlobals "_law_name" = some (some (.ref f19))) (l19 : K.lookup f19 = some ⟨oc19, od19, .func (PySem.W.fnOf "_law_name" "_law_name" (defArgs s__law_name) (defBody s__law_name) (defScope s__law_name) .none kV19 dc19 pm19 an19 cd19 ct19), sl19⟩) (c19 : PySem.W.codeIn K cd19 "_law_name" = true) (k19 : PySem.W.keepIn K (.ref f19) = true)
    (a20 : PySem.W.nsIn K mainGlobals "_law_bill" = some (some (.ref f20))) (l20 : K.lookup f20 = some ⟨oc20, od20, .func (PySem.W.fnOf "_law_bill" "_law_bill" (defArgs s__law_bill) (defBody s__law_bill) (defScope s__law_bill) .none kV20 dc20 pm20 an20 cd20 ct20), sl20⟩) (c20 : PySem.W.codeIn K cd20 "_law_bill" = true) (k20 : PySem.W.keepIn K (.ref f20) = true)
    (a21 : PySem.W.nsIn K mainGlobals "_law_books" = some (some (.ref f21))) (l21 : K.lookup f21 = some ⟨oc21, od21, .func (PySem.W.fnOf "_law_books" "_law_books" (defArgs s__law_books) (defBody s__law_books) (defScope s__law_books) .none kV21 dc21 pm21 an21 cd21 ct21), sl21⟩) (c21 : PySem.W.codeIn K cd21 "_law_books" = true) (k21 : PySem.W.keepIn K (.ref f21) = true)
    (a22 : PySem.W.nsIn K mainGlobals "_law_users" = some (some (.ref f22))) (l22 : K.lookup f22 = some ⟨oc22, od22, .func (PySem.W.fnOf "_law_users" "_law_users" (defArgs s__law_users) (defBody s__law_users) (defScope s__law_users) .none kV22 dc22 pm22 an22 cd22 ct22), sl22⟩) (c22 : PySem.W.codeIn K cd22 "_law_users" = true) (k22 : PySem.W.keepIn K (.ref f22) = true)
    (a23 : PySem.W.nsIn K mainGlobals "_law_first" = some (some (.ref f23))) (l23 : K.lookup f23 = some ⟨oc23, od23, .func (PySem.W.fnOf "_law_first" "_law_first" (defArgs s__law_first) (defBody s__law_first) (defScope s__law_first) .none kV23 dc23 pm23 an23 cd23 ct23), sl23⟩) (c23 : PySem.W.codeIn K cd23 "_law_first" = true) (k23 : PySem.W.keepIn K (.ref f23) = true)
    (a24 : PySem.W.nsIn K mainGlobals "_law_supplied" = some (some (.ref f24))) (l24 : K.lookup f24 = some ⟨oc24, od24, .func (PySem.W.fnOf "_law_supplied" "_law_supplied" (defArgs s__law_supplied) (defBody s__law_supplied) (defScope s__law_supplied) .none kV24 dc24 pm24 an24 cd24 ct24), sl24⟩) (c24 : PySem.W.codeIn K cd24 "_law_supplied" = true) (k24 : PySem.W.keepIn K (.ref f24) = true)
    (a25 : PySem.W.nsIn K mainGlobals "_law_ordered" = some (some (.ref f25))) (l25 : K.lookup f25 = some ⟨oc25, od25, .func (PySem.W.fnOf "_law_ordered" "_law_ordered" (defArgs s__law_ordered) (defBody s__law_ordered) (defScope s__law_ordered) .none kV25 dc25 pm25 an25 cd25 ct25), sl25⟩) (c25 : PySem.W.codeIn K cd25 "_law_ordered" = true) (k25 : PySem.W.keepIn K (.ref f25) = true)
    (a26 : PySem.W.nsIn K mainGlobals "_law_lots" = some (some (.ref f26))) (l26 : K.lookup f26 = some ⟨oc26, od26, .func (PySem.W.fnOf "_law_lots" "_law_lots" (defArgs s__law_lots) (defBody s__law_lots) (defScope s__law_lots) .none kV26 dc26 pm26 an26 cd26 ct26), sl26⟩) (c26 : PySem.W.codeIn K cd26 "_law_lots" = true) (k26 : PySem.W.keepIn K (.ref f26) = true)
    (a27 : PySem.W.nsIn K mainGlobals "_law_needed" = some (some (.ref f27))) (l27 : K.lookup f27 = some ⟨oc27, od27, .func (PySem.W.fnOf "_law_needed" "_law_needed" (defArgs s__law_needed) (defBody s__law_needed) (defScope s__law_needed) .none kV27 dc27 pm27 an27 cd27 ct27), sl27⟩) (c27 : PySem.W.codeIn K cd27 "_law_needed" = true) (k27 : PySem.W.keepIn K (.ref f27) = true)
    (a28 : PySem.W.nsIn K mainGlobals "_law_started" = some (some (.ref f28))) (l28 : K.lookup f28 = some ⟨oc28, od28, .func (PySem.W.fnOf "_law_started" "_law_started" (defArgs s__law_started) (defBody s__law_started) (defScope s__law_started) .none kV28 dc28 pm28 an28 cd28 ct28), sl28⟩) (c28 : PySem.W.codeIn K cd28 "_law_started" = true) (k28 : PySem.W.keepIn K (.ref f28) = true)
    (a29 : PySem.W.nsIn K mainGlobals "_law_balance" = some (some (.ref f29))) (l29 : K.lookup f29 = some ⟨oc29, od29, .func (PySem.W.fnOf "_law_balance" "_law_balance" (defArgs s__law_balance) (defBody s__law_balance) (defScope s__law_balance) .none kV29 dc29 pm29 an29 cd29 ct29), sl29⟩) (c29 : PySem.W.codeIn K cd29 "_law_balance" = true) (k29 : PySem.W.keepIn K (.ref f29) = true)
    (a30 : PySem.W.nsIn K mainGlobals "_law_last" = some (some (.ref f30))) (l30 : K.lookup f30 = some ⟨oc30, od30, .func (PySem.W.fnOf "_law_last" "_law_last" (defArgs s__law_last) (defBody s__law_last) (defScope s__law_last) .none kV30 dc30 pm30 an30 cd30 ct30), sl30⟩) (c30 : PySem.W.codeIn K cd30 "_law_last" = true) (k30 : PySem.W.keepIn K (.ref f30) = true)
    (a31 : PySem.W.nsIn K mainGlobals "_law_shortages" = some (some (.ref f31))) (l31 : K.lookup f31 = some ⟨oc31, od31, .func (PySem.W.fnOf "_law_shortages" "_law_shortages" (defArgs s__law_shortages) (defBody s__law_shortages) (defScope s__law_shortages) .none kV31 dc31 pm31 an31 cd31 ct31), sl31⟩) (c31 : PySem.W.codeIn K cd31 "_law_shortages" = true) (k31 : PySem.W.keepIn K (.ref f31) = true)
    (a32 : PySem.W.nsIn K mainGlobals "_law_told" = some (some (.ref f32))) (l32 : K.lookup f32 = some ⟨oc32, od32, .func (PySem.W.fnOf "_law_told" "_law_told" (defArgs s__law_told) (defBody s__law_told) (defScope s__law_told) .none kV32 dc32 pm32 an32 cd32 ct32), sl32⟩) (c32 : PySem.W.codeIn K cd32 "_law_told" = true) (k32 : PySem.W.keepIn K (.ref f32) = true)
    (a33 : PySem.W.nsIn K mainGlobals "_law_today" = some (some (.ref f33))) (l33 : K.lookup f33 = some ⟨oc33, od33, .func (PySem.W.fnOf "_law_today" "_law_today" (defArgs s__law_today) (defBody s__law_today) (defScope s__law_today) .none kV33 dc33 pm33 an33 cd33 ct33), sl33⟩) (c33 : PySem.W.codeIn K cd33 "_law_today" = true) (k33 : PySem.W.keepIn K (.ref f33) = true)
    (a34 : PySem.W.nsIn K mainGlobals "law" = some (some (.ref f34))) (l34 : K.lookup f34 = some ⟨oc34, od34, .func (PySem.W.fnOf "law" "law" (defArgs s_law) (defBody s_law) (defScope s_law) .none kV34 dc34 pm34 an34 cd34 ct34), sl34⟩) (c34 : PySem.W.codeIn K cd34 "law" = true) (k34 : PySem.W.keepIn K (.ref f34) = true)
    (z_len : PySem.W.nsIn K mainGlobals "len" = some none)
    (z_range : PySem.W.nsIn K mainGlobals "range" = some none)
    (z_sum : PySem.W.nsIn K mainGlobals "sum" = some none)
    (z_sorted : PySem.W.nsIn K mainGlobals "sorted" = some none)
    (z_tuple : PySem.W.nsIn K mainGlobals "tuple" = some none)
    (z_enumerate : PySem.W.nsIn K mainGlobals "enumerate" = some none)
    (z_all : PySem.W.nsIn K mainGlobals "all" = some none)
    (z_max : PySem.W.nsIn K mainGlobals "max" = some none)
    (z_int : PySem.W.nsIn K mainGlobals "int" = some none)
    (z_isinstance : PySem.W.nsIn K mainGlobals "isinstance" = some none)
    (z_list : PySem.W.nsIn K mainGlobals "list" = some none)
    (z_bool : PySem.W.nsIn K mainGlobals "bool" = some none)
    (z_str : PySem.W.nsIn K mainGlobals "str" = some none)
    (gC : PySem.W.nsIn K mainGlobals "NoPlan" = some (some (.ref C))) (xC : PySem.W.excIn K C [.type "ValueError", .type "Exception", .type "BaseException", .type "object"] "ValueError.__new__" = true)
    (kC : PySem.W.keepIn K (.ref C) = true) (bC : PySem.W.subIn K (.ref C) (.type "BaseException") = some true) (tC : PySem.W.typeIn K (.ref C) = some (.type "type")) (iC : PySem.W.isClsIn K C = true) (sC : PySem.W.subIn K (.ref C) (.ref C) = some true) :
    ∃ fd : FuncData, (∀ (s : Shared) (v : Value), BindsTo s fd ⟨[v], []⟩ [("_law_script", v)]) ∧ ∀ base : Heap, K.In base → base.Ns mainGlobals mg → FnOk P w K mg base CX0 9 fa fd ["_law_script"] (spLaw K) := by
  cases hfa.symm.trans (PySem.W.mg_of X G a34)
  have F0 := fun_mk (st := s_supplied) l0 c0 k0
  have b0 := F0.binds (ps := ["books", "item", "day"]) fun _ _ _ _ _ _ us hl => match us, hl with | [_, _, _], _ => rfl
  have F1 := fun_mk (st := s_ordered) l1 c1 k1
  have b1 := F1.binds (ps := ["books", "item", "day"]) fun _ _ _ _ _ _ us hl => match us, hl with | [_, _, _], _ => rfl
  have F2 := fun_mk (st := s_quantity_in) l2 c2 k2
  have b2 := F2.binds (ps := ["bill", "parent", "item"]) fun _ _ _ _ _ _ us hl => match us, hl with | [_, _, _], _ => rfl
  have F3 := fun_mk (st := s_used_by) l3 c3 k3
  have b3 := F3.binds (ps := ["bill", "item"]) fun _ _ _ _ _ _ us hl => match us, hl with | [_, _], _ => rfl
  have F4 := fun_mk (st := s_parents_first) l4 c4 k4
  have b4 := F4.binds (ps := ["bill"]) fun _ _ _ _ _ _ us hl => match us, hl with | [_], _ => rfl
  have F5 := fun_mk (st := s_rounded_up) l5 c5 k5
  have b5 := F5.binds (ps := ["number", "divisor"]) fun _ _ _ _ _ _ us hl => match us, hl with | [_, _], _ => rfl
  have F6 := fun_mk (st := s__lots_at) l6 c6 k6
  have b6 := F6.binds (ps := ["rows", "day"]) fun _ _ _ _ _ _ us hl => match us, hl with | [_, _], _ => rfl
  have F7 := fun_mk (st := s__days_of) l7 c7 k7
  have b7 := F7.binds (ps := ["bill", "books", "found", "item"]) fun _ _ _ _ _ _ us hl => match us, hl with | [_, _, _, _], _ => rfl
  have F8 := fun_mk (st := s__taken) l8 c8 k8
  have b8 := F8.binds (ps := ["bill", "books", "found", "item", "day"]) fun _ _ _ _ _ _ us hl => match us, hl with | [_, _, _, _, _], _ => rfl
  have F9 := fun_mk (st := s_rows_of) l9 c9 k9
  have b9 := F9.binds (ps := ["bill", "books", "found", "item"]) fun _ _ _ _ _ _ us hl => match us, hl with | [_, _, _, _], _ => rfl
  have F10 := fun_mk (st := s_needed) l10 c10 k10
  have b10 := F10.binds (ps := ["bill", "books"]) fun _ _ _ _ _ _ us hl => match us, hl with | [_, _], _ => rfl
  have F11 := fun_mk (st := s_can_work) l11 c11 k11
  have b11 := F11.binds (ps := ["bill", "books"]) fun _ _ _ _ _ _ us hl => match us, hl with | [_, _], _ => rfl
  have F12 := fun_mk (st := s_latest_plan) l12 c12 k12
  have b12 := F12.binds (ps := ["bill", "books"]) fun _ _ _ _ _ _ us hl => match us, hl with | [_, _], _ => rfl
  have F13 := fun_mk (st := s_starts_today) l13 c13 k13
  have b13 := F13.binds (ps := ["bill", "books"]) fun _ _ _ _ _ _ us hl => match us, hl with | [_, _], _ => rfl
  have F14 := fun_mk (st := s__law_cell) l14 c14 k14
  have b14 := F14.binds (ps := ["_law_script", "_law_k"]) fun _ _ _ _ _ _ us hl => match us, hl with | [_, _], _ => rfl
  have F15 := fun_mk (st := s__law_digits) l15 c15 k15
  have b15 := F15.binds (ps := ["_law_script", "_law_first_here", "_law_last_here"]) fun _ _ _ _ _ _ us hl => match us, hl with | [_, _, _], _ => rfl
  have F16 := fun_mk (st := s__law_draw) l16 c16 k16
  have b16 := F16.binds (ps := ["_law_box", "_law_many"]) fun _ _ _ _ _ _ us hl => match us, hl with | [_, _], _ => rfl
  have F17 := fun_mk (st := s__law_same) l17 c17 k17
  have b17 := F17.binds (ps := ["_law_actual", "_law_due"]) fun _ _ _ _ _ _ us hl => match us, hl with | [_, _], _ => rfl
  have F18 := fun_mk (st := s__law_run) l18 c18 k18
  have b18 := F18.binds (ps := ["_law_box", "_law_many", "_law_chars"]) fun _ _ _ _ _ _ us hl => match us, hl with | [_, _, _], _ => rfl
  have F19 := fun_mk (st := s__law_name) l19 c19 k19
  have b19 := F19.binds (ps := ["_law_box", "_law_taken"]) fun _ _ _ _ _ _ us hl => match us, hl with | [_, _], _ => rfl
  have F20 := fun_mk (st := s__law_bill) l20 c20 k20
  have b20 := F20.binds (ps := ["_law_box", "_law_most"]) fun _ _ _ _ _ _ us hl => match us, hl with | [_, _], _ => rfl
  have F21 := fun_mk (st := s__law_books) l21 c21 k21
  have b21 := F21.binds (ps := ["_law_box", "_law_bill_here"]) fun _ _ _ _ _ _ us hl => match us, hl with | [_, _], _ => rfl
  have F22 := fun_mk (st := s__law_users) l22 c22 k22
  have b22 := F22.binds (ps := ["_law_bill_here", "_law_item"]) fun _ _ _ _ _ _ us hl => match us, hl with | [_, _], _ => rfl
  have F23 := fun_mk (st := s__law_first) l23 c23 k23
  have b23 := F23.binds (ps := ["_law_bill_here"]) fun _ _ _ _ _ _ us hl => match us, hl with | [_], _ => rfl
  have F24 := fun_mk (st := s__law_supplied) l24 c24 k24
  have b24 := F24.binds (ps := ["_law_books_here", "_law_item", "_law_day"]) fun _ _ _ _ _ _ us hl => match us, hl with | [_, _, _], _ => rfl
  have F25 := fun_mk (st := s__law_ordered) l25 c25 k25
  have b25 := F25.binds (ps := ["_law_books_here", "_law_item", "_law_day"]) fun _ _ _ _ _ _ us hl => match us, hl with | [_, _, _], _ => rfl
  have F26 := fun_mk (st := s__law_lots) l26 c26 k26
  have b26 := F26.binds (ps := ["_law_rows", "_law_day"]) fun _ _ _ _ _ _ us hl => match us, hl with | [_, _], _ => rfl
  have F27 := fun_mk (st := s__law_needed) l27 c27 k27
  have b27 := F27.binds (ps := ["_law_bill_here", "_law_books_here"]) fun _ _ _ _ _ _ us hl => match us, hl with | [_, _], _ => rfl
  have F28 := fun_mk (st := s__law_started) l28 c28 k28
  have b28 := F28.binds (ps := ["_law_plan", "_law_item", "_law_day"]) fun _ _ _ _ _ _ us hl => match us, hl with | [_, _, _], _ => rfl
  have F29 := fun_mk (st := s__law_balance) l29 c29 k29
  have b29 := F29.binds (ps := ["_law_bill_here", "_law_books_here", "_law_plan", "_law_item", "_law_day"]) fun _ _ _ _ _ _ us hl => match us, hl with | [_, _, _, _, _], _ => rfl
  have F30 := fun_mk (st := s__law_last) l30 c30 k30
  have b30 := F30.binds (ps := ["_law_bill_here", "_law_books_here", "_law_plan"]) fun _ _ _ _ _ _ us hl => match us, hl with | [_, _, _], _ => rfl
  have F31 := fun_mk (st := s__law_shortages) l31 c31 k31
  have b31 := F31.binds (ps := ["_law_bill_here", "_law_books_here", "_law_plan"]) fun _ _ _ _ _ _ us hl => match us, hl with | [_, _, _], _ => rfl
  have F32 := fun_mk (st := s__law_told) l32 c32 k32
  have b32 := F32.binds (ps := ["_law_bill_here", "_law_books_here"]) fun _ _ _ _ _ _ us hl => match us, hl with | [_, _], _ => rfl
  have F33 := fun_mk (st := s__law_today) l33 c33 k33
  have b33 := F33.binds (ps := ["_law_bill_here", "_law_books_here"]) fun _ _ _ _ _ _ us hl => match us, hl with | [_, _], _ => rfl
  have F34 := fun_mk (st := s_law) l34 c34 k34
  have b34 := F34.binds (ps := ["_law_script"]) fun _ _ _ _ _ _ us hl => match us, hl with | [_], _ => rfl
  refine ⟨_, fun s v => ?bind, fun base _ _ => ok_law (P := P) (w := w) (base := base) (T := { supplied := Fn.of X G a0 F0 b0, ordered := Fn.of X G a1 F1 b1, quantity_in := Fn.of X G a2 F2 b2, used_by := Fn.of X G a3 F3 b3, parents_first := Fn.of X G a4 F4 b4, rounded_up := Fn.of X G a5 F5 b5, _lots_at := Fn.of X G a6 F6 b6, _days_of := Fn.of X G a7 F7 b7, _taken := Fn.of X G a8 F8 b8, rows_of := Fn.of X G a9 F9 b9, needed := Fn.of X G a10 F10 b10, can_work := Fn.of X G a11 F11 b11, latest_plan := Fn.of X G a12 F12 b12, starts_today := Fn.of X G a13 F13 b13, _law_cell := Fn.of X G a14 F14 b14, _law_digits := Fn.of X G a15 F15 b15, _law_draw := Fn.of X G a16 F16 b16, _law_same := Fn.of X G a17 F17 b17, _law_run := Fn.of X G a18 F18 b18, _law_name := Fn.of X G a19 F19 b19, _law_bill := Fn.of X G a20 F20 b20, _law_books := Fn.of X G a21 F21 b21, _law_users := Fn.of X G a22 F22 b22, _law_first := Fn.of X G a23 F23 b23, _law_supplied := Fn.of X G a24 F24 b24, _law_ordered := Fn.of X G a25 F25 b25, _law_lots := Fn.of X G a26 F26 b26, _law_needed := Fn.of X G a27 F27 b27, _law_started := Fn.of X G a28 F28 b28, _law_balance := Fn.of X G a29 F29 b29, _law_last := Fn.of X G a30 F30 b30, _law_shortages := Fn.of X G a31 F31 b31, _law_told := Fn.of X G a32 F32 b32, _law_today := Fn.of X G a33 F33 b33, law := Fn.of X G a34 F34 b34, z_len := PySem.W.mg_none_of X G z_len, z_range := PySem.W.mg_none_of X G z_range, z_sum := PySem.W.mg_none_of X G z_sum, z_sorted := PySem.W.mg_none_of X G z_sorted, z_tuple := PySem.W.mg_none_of X G z_tuple, z_enumerate := PySem.W.mg_none_of X G z_enumerate, z_all := PySem.W.mg_none_of X G z_all, z_max := PySem.W.mg_none_of X G z_max, z_int := PySem.W.mg_none_of X G z_int, z_isinstance := PySem.W.mg_none_of X G z_isinstance, z_list := PySem.W.mg_none_of X G z_list, z_bool := PySem.W.mg_none_of X G z_bool, z_str := PySem.W.mg_none_of X G z_str, np := ⟨C, PySem.W.mg_of X G gC, xC, kC, bC, tC, exm_own bC iC tC sC, sC⟩ })⟩
  case bind => exact .of_eq rfl
theorem walk {l : PySem.W.OpenLaw} {q : Program} {loose : List Str} {XP : (Str → Option Value) → Heap → Prop} {YP : World → Heap → Prop} {d : DefRec} {K : Params → PySem.W.Frag} (hn : l.most = some 63) (hdf : d.params.defaults = []) (hY : ∀ (w : World) (h : Heap), YP w h → (K w.params).In h)
    (F : ∀ (w : World) (mg : Str → Option Value) (fa : Addr) (h : Heap), (K w.params).In h → h.Ns mainGlobals mg → mg d.name = some (.ref fa) → ∃ fd : FuncData, (∀ (s : Shared) (u : Value), BindsTo s fd ⟨[u], []⟩ [("_law_script", u)]) ∧ ∀ base : Heap, (K w.params).In base → base.Ns mainGlobals mg → FnOk l.prog w (K w.params) mg base CX0 9 fa fd ["_law_script"] (spLaw (K w.params))) : PySem.W.WalkO q loose XP YP l.row.toRowW d [] (fun f vs => PySem.call f vs) :=
  L2.walk_of (n := 63) (k := 9) (x := "_law_script") (CX := fun _ => CX0) (sp := fun w => spLaw (K w.params)) hn (by decide) hdf ⟨rfl, by decide, by decide⟩ hY F (fun _ _ a ns hl _ hS => ⟨a, ns, rfl, hS, hl, fun _ => rfl⟩) fun _ _ _ _ _ z => z
end K12
open PySem PySem.W PyProof.Rows in
set_option maxRecDepth 100000 in
set_option maxHeartbeats 0 in
theorem PySem.Challenge.cw_latestart_k12_whole_latest_plans_work_holds : PySem.Challenge.rw_latestart_k12_whole_latest_plans_work.Holds := by
  w_on; o_law; k_head; (case hw => w_witness2)
  k_fill
  refine K12.walk (l := PySem.Challenge.rw_latestart_k12_whole_latest_plans_work) rfl rfl (fun w h Y => PySem.W.kIn_of Y) ?F
  case F =>
    intro w mg fa h KX G hmg
    refine' K12.all_mk KX G hmg ?a0 ?l0 ?c0 ?k0 ?a1 ?l1 ?c1 ?k1 ?a2 ?l2 ?c2 ?k2 ?a3 ?l3 ?c3 ?k3 ?a4 ?l4 ?c4 ?k4 ?a5 ?l5 ?c5 ?k5 ?a6 ?l6 ?c6 ?k6 ?a7 ?l7 ?c7 ?k7 ?a8 ?l8 ?c8 ?k8 ?a9 ?l9 ?c9 ?k9 ?a10 ?l10 ?c10 ?k10 ?a11 ?l11 ?c11 ?k11 ?a12 ?l12 ?c12 ?k12 ?a13 ?l13 ?c13 ?k13 ?a14 ?l14 ?c14 ?k14 ?a15 ?l15 ?c15 ?k15 ?a16 ?l16 ?c16 ?k16 ?a17 ?l17 ?c17 ?k17 ?a18 ?l18 ?c18 ?k18 ?a19 ?l19 ?c19 ?k19 ?a20 ?l20 ?c20 ?k20 ?a21 ?l21 ?c21 ?k21 ?a22 ?l22 ?c22 ?k22 ?a23 ?l23 ?c23 ?k23 ?a24 ?l24 ?c24 ?k24 ?a25 ?l25 ?c25 ?k25 ?a26 ?l26 ?c26 ?k26 ?a27 ?l27 ?c27 ?k27 ?a28 ?l28 ?c28 ?k28 ?a29 ?l29 ?c29 ?k29 ?a30 ?l30 ?c30 ?k30 ?a31 ?l31 ?c31 ?k31 ?a32 ?l32 ?c32 ?k32 ?a33 ?l33 ?c33 ?k33 ?a34 ?l34 ?c34 ?k34 ?z_len ?z_range ?z_sum ?z_sorted ?z_tuple ?z_enumerate ?z_all ?z_max ?z_int ?z_isinstance ?z_list ?z_bool ?z_str ?gC ?xC ?kC ?bC ?tC ?iC ?sC
    (case a0 => k_is)
    (case l0 => k_is)
    (case c0 => k_is)
    (case k0 => k_is)
    (case a1 => k_is)
    (case l1 => k_is)
    (case c1 => k_is)
    (case k1 => k_is)
    (case a2 => k_is)
    (case l2 => k_is)
    (case c2 => k_is)
    (case k2 => k_is)
    (case a3 => k_is)
    (case l3 => k_is)
    (case c3 => k_is)
    (case k3 => k_is)
    (case a4 => k_is)
    (case l4 => k_is)
    (case c4 => k_is)
    (case k4 => k_is)
    (case a5 => k_is)
    (case l5 => k_is)
    (case c5 => k_is)
    (case k5 => k_is)
    (case a6 => k_is)
    (case l6 => k_is)
    (case c6 => k_is)
    (case k6 => k_is)
    (case a7 => k_is)
    (case l7 => k_is)
    (case c7 => k_is)
    (case k7 => k_is)
    (case a8 => k_is)
    (case l8 => k_is)
    (case c8 => k_is)
    (case k8 => k_is)
    (case a9 => k_is)
    (case l9 => k_is)
    (case c9 => k_is)
    (case k9 => k_is)
    (case a10 => k_is)
    (case l10 => k_is)
    (case c10 => k_is)
    (case k10 => k_is)
    (case a11 => k_is)
    (case l11 => k_is)
    (case c11 => k_is)
    (case k11 => k_is)
    (case a12 => k_is)
    (case l12 => k_is)
    (case c12 => k_is)
    (case k12 => k_is)
    (case a13 => k_is)
    (case l13 => k_is)
    (case c13 => k_is)
    (case k13 => k_is)
    (case a14 => k_is)
    (case l14 => k_is)
    (case c14 => k_is)
    (case k14 => k_is)
    (case a15 => k_is)
    (case l15 => k_is)
    (case c15 => k_is)
    (case k15 => k_is)
    (case a16 => k_is)
    (case l16 => k_is)
    (case c16 => k_is)
    (case k16 => k_is)
    (case a17 => k_is)
    (case l17 => k_is)
    (case c17 => k_is)
    (case k17 => k_is)
    (case a18 => k_is)
    (case l18 => k_is)
    (case c18 => k_is)
    (case k18 => k_is)
    (case a19 => k_is)
    (case l19 => k_is)
    (case c19 => k_is)
    (case k19 => k_is)
    (case a20 => k_is)
    (case l20 => k_is)
    (case c20 => k_is)
    (case k20 => k_is)
    (case a21 => k_is)
    (case l21 => k_is)
    (case c21 => k_is)
    (case k21 => k_is)
    (case a22 => k_is)
    (case l22 => k_is)
    (case c22 => k_is)
    (case k22 => k_is)
    (case a23 => k_is)
    (case l23 => k_is)
    (case c23 => k_is)
    (case k23 => k_is)
    (case a24 => k_is)
    (case l24 => k_is)
    (case c24 => k_is)
    (case k24 => k_is)
    (case a25 => k_is)
    (case l25 => k_is)
    (case c25 => k_is)
    (case k25 => k_is)
    (case a26 => k_is)
    (case l26 => k_is)
    (case c26 => k_is)
    (case k26 => k_is)
    (case a27 => k_is)
    (case l27 => k_is)
    (case c27 => k_is)
    (case k27 => k_is)
    (case a28 => k_is)
    (case l28 => k_is)
    (case c28 => k_is)
    (case k28 => k_is)
    (case a29 => k_is)
    (case l29 => k_is)
    (case c29 => k_is)
    (case k29 => k_is)
    (case a30 => k_is)
    (case l30 => k_is)
    (case c30 => k_is)
    (case k30 => k_is)
    (case a31 => k_is)
    (case l31 => k_is)
    (case c31 => k_is)
    (case k31 => k_is)
    (case a32 => k_is)
    (case l32 => k_is)
    (case c32 => k_is)
    (case k32 => k_is)
    (case a33 => k_is)
    (case l33 => k_is)
    (case c33 => k_is)
    (case k33 => k_is)
    (case a34 => k_is)
    (case l34 => k_is)
    (case c34 => k_is)
    (case k34 => k_is)
    (case z_len => k_is)
    (case z_range => k_is)
    (case z_sum => k_is)
    (case z_sorted => k_is)
    (case z_tuple => k_is)
    (case z_enumerate => k_is)
    (case z_all => k_is)
    (case z_max => k_is)
    (case z_int => k_is)
    (case z_isinstance => k_is)
    (case z_list => k_is)
    (case z_bool => k_is)
    (case z_str => k_is)
    (case gC => k_is)
    (case xC => k_exc)
    (case kC => k_is)
    (case bC => k_is)
    (case tC => k_is)
    (case iC => k_is)
    (case sC => first | rfl | k_is)
#print axioms PySem.Challenge.cw_latestart_k12_whole_latest_plans_work_holds
