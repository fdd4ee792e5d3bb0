import PyProof.Rows.All
import Wide.All
import OpenK.AllK
import Wide.FinOn
import HandS.ForMost
import HandS.Base
import HandS.Call
import HandS.List
import HandS.Comp
import HandS.Ends
import HandS.Dict
import HandS.Iter
import HandS.Text
import HandS.Words
import HandS.Exc
import HandS.Walk
import HandS.Evl
import HandS.Conv
import HandS.TupAny
import HandS.Codes
import HandS.IsInst
import HandS.Property
import HandS.WordsExc
import HandS.StrMore
import PyProof.ListStr
import KE.GoesMore
import HandS.Zip
import HandS.ClsMeth
import HandS.Defaults
import HandS.Replace
import HandS.Star
import KE.KUnpackStar
import HandS.StrSplit
import PySem.Challenge.RW_marqueeletters_k15_texts_of_seasons
set_option Elab.async false
set_option linter.all false
set_option maxRecDepth 100000
set_option maxHeartbeats 4000000
/-! A layer of our own over HandS: values as deep data, the heap as a frozen part and owned objects. -/
namespace AL
open PySem L2
abbrev Frg := PySem.W.Frag
abbrev Ex : Hp → Hp → Prop := Evl.Ex
theorem Ex.refl {H : Hp} : Ex H H := Evl.Ex.refl H
theorem Ex.trans {H H1 H2 : Hp} (a : Ex H H1) (b : Ex H1 H2) : Ex H H2 := Evl.Ex.trans a b

/-- deep data -/
inductive D where
  | non | bl (b : Bool) | int (i : Int) | str (x : Str) | ref (a : Addr) | ty (n : String)
  | tup (ds : List D) | lst (ds : List D) | rdl (ds : List D) | dic (kvs : List (Key × D))

mutual
inductive Rep (K : Frg) (F : Hp) : D → V → Prop
  | non : Rep K F .non .non
  | bl (b : Bool) : Rep K F (.bl b) (.bl b)
  | int (i : Int) : Rep K F (.int i) (.int i)
  | str (x : Str) : Rep K F (.str x) (.str x)
  | ref (a : Addr) : Rep K F (.ref a) (.ref a)
  | ty (n : String) : Rep K F (.ty n) (.ty n)
  | tup {a : Addr} {xs : List V} {ds : List D} : SqT K F a xs → RepL K F ds xs → Rep K F (.tup ds) (.ref a)
  | lst {a : Addr} {xs : List V} {ds : List D} : F a = some (.lst xs) → RepL K F ds xs → Rep K F (.lst ds) (.ref a)
  | rdl {a : Addr} {xs : List V} {ds : List D} : SqL K F a xs → RepL K F ds xs → Rep K F (.rdl ds) (.ref a)
  | dic {a : Addr} {xs : List (Key × V)} {ds : List (Key × D)} : F a = some (.dK xs) → RepK K F ds xs → Rep K F (.dic ds) (.ref a)
inductive RepL (K : Frg) (F : Hp) : List D → List V → Prop
  | nil : RepL K F [] []
  | cons {d : D} {v : V} {ds : List D} {vs : List V} : Rep K F d v → RepL K F ds vs → RepL K F (d :: ds) (v :: vs)
inductive RepK (K : Frg) (F : Hp) : List (Key × D) → List (Key × V) → Prop
  | nil : RepK K F [] []
  | cons {k : Key} {d : D} {v : V} {ds : List (Key × D)} {vs : List (Key × V)} : Rep K F d v → RepK K F ds vs → RepK K F ((k, d) :: ds) ((k, v) :: vs)
end
theorem ex_t {K : Frg} {H H' : Hp} {a : Addr} {xs : List V} (e : Ex H H') (h : SqT K H a xs) : SqT K H' a xs := Evl.ex_t e h
theorem ex_l {K : Frg} {H H' : Hp} {a : Addr} {xs : List V} (e : Ex H H') (h : SqL K H a xs) : SqL K H' a xs := Evl.ex_l e h
section
variable {K : Frg} {F F' : Hp}
mutual
theorem Rep.mono (e : Ex F F') : ∀ {d : D} {v : V}, Rep K F d v → Rep K F' d v
  | _, _, .non => .non
  | _, _, .bl b => .bl b
  | _, _, .int i => .int i
  | _, _, .str x => .str x
  | _, _, .ref a => .ref a
  | _, _, .ty n => .ty n
  | _, _, .tup h r => .tup (ex_t e h) (RepL.mono e r)
  | _, _, .lst h r => .lst (e _ _ h) (RepL.mono e r)
  | _, _, .rdl h r => .rdl (ex_l e h) (RepL.mono e r)
  | _, _, .dic h r => .dic (e _ _ h) (RepK.mono e r)
theorem RepL.mono (e : Ex F F') : ∀ {ds : List D} {vs : List V}, RepL K F ds vs → RepL K F' ds vs
  | _, _, .nil => .nil
  | _, _, .cons h r => .cons (Rep.mono e h) (RepL.mono e r)
theorem RepK.mono (e : Ex F F') : ∀ {ds : List (Key × D)} {vs : List (Key × V)}, RepK K F ds vs → RepK K F' ds vs
  | _, _, .nil => .nil
  | _, _, .cons h r => .cons (Rep.mono e h) (RepK.mono e r)
end
theorem RepL.len : ∀ {ds : List D} {vs : List V}, RepL K F ds vs → ds.length = vs.length
  | _, _, .nil => rfl
  | _, _, .cons _ r => by rw [List.length_cons, List.length_cons, RepL.len r]
theorem RepL.get : ∀ {ds : List D} {vs : List V} {i : Nat} {v : V}, RepL K F ds vs → vs[i]? = some v → ∃ d, ds[i]? = some d ∧ Rep K F d v
  | _, _, _, _, .nil, h => by simp at h
  | _, _, 0, _, .cons h _, e => by simp at e; subst e; exact ⟨_, rfl, h⟩
  | _, _, i + 1, _, .cons _ r, e => by simp at e; obtain ⟨d, h1, h2⟩ := RepL.get r e; exact ⟨d, by simpa using h1, h2⟩
theorem RepL.getD : ∀ {ds : List D} {vs : List V} {i : Nat} {d : D}, RepL K F ds vs → ds[i]? = some d → ∃ v, vs[i]? = some v ∧ Rep K F d v
  | _, _, _, _, .nil, h => by simp at h
  | _, _, 0, _, .cons h _, e => by simp at e; subst e; exact ⟨_, rfl, h⟩
  | _, _, i + 1, _, .cons _ r, e => by simp at e; obtain ⟨d, h1, h2⟩ := RepL.getD r e; exact ⟨d, by simpa using h1, h2⟩
theorem RepL.append : ∀ {ds es : List D} {vs ws : List V}, RepL K F ds vs → RepL K F es ws → RepL K F (ds ++ es) (vs ++ ws)
  | _, _, _, _, .nil, s => s
  | _, _, _, _, .cons h r, s => .cons h (RepL.append r s)
theorem RepL.one {d : D} {v : V} (h : Rep K F d v) : RepL K F [d] [v] := .cons h .nil
theorem RepL.set {d : D} {v : V} (h : Rep K F d v) : ∀ {ds : List D} {vs : List V} (i : Nat), RepL K F ds vs → RepL K F (ds.set i d) (vs.set i v)
  | _, _, _, .nil => .nil
  | _, _, 0, .cons _ r => .cons h r
  | _, _, i + 1, .cons q r => .cons q (RepL.set h i r)
theorem RepL.take : ∀ {ds : List D} {vs : List V} (n : Nat), RepL K F ds vs → RepL K F (ds.take n) (vs.take n)
  | _, _, 0, _ => .nil
  | _, _, _ + 1, .nil => .nil
  | _, _, n + 1, .cons h r => .cons h (RepL.take n r)
theorem RepL.drop : ∀ {ds : List D} {vs : List V} (n : Nat), RepL K F ds vs → RepL K F (ds.drop n) (vs.drop n)
  | _, _, 0, r => r
  | _, _, _ + 1, .nil => .nil
  | _, _, n + 1, .cons _ r => RepL.drop n r
theorem RepL.eraseIdx : ∀ {ds : List D} {vs : List V} (n : Nat), RepL K F ds vs → RepL K F (ds.eraseIdx n) (vs.eraseIdx n)
  | _, _, _, .nil => .nil
  | _, _, 0, .cons _ r => r
  | _, _, n + 1, .cons h r => .cons h (RepL.eraseIdx n r)
theorem RepK.len : ∀ {ds : List (Key × D)} {vs : List (Key × V)}, RepK K F ds vs → ds.length = vs.length
  | _, _, .nil => rfl
  | _, _, .cons _ r => by rw [List.length_cons, List.length_cons, RepK.len r]
theorem RepK.append : ∀ {ds es : List (Key × D)} {vs ws : List (Key × V)}, RepK K F ds vs → RepK K F es ws → RepK K F (ds ++ es) (vs ++ ws)
  | _, _, _, _, .nil, s => s
  | _, _, _, _, .cons h r, s => .cons h (RepK.append r s)
end

/-! ### owned objects -/
inductive MO where
  | lst (ds : List D) | dic (kvs : List (Key × D)) | ins (C : Addr) (fs : List (Str × D)) | raw (o : HO)
inductive RepF (K : Frg) (F : Hp) : List (Str × D) → List (Str × V) → Prop
  | nil : RepF K F [] []
  | cons {k : Str} {d : D} {v : V} {ds : List (Str × D)} {vs : List (Str × V)} : Rep K F d v → RepF K F ds vs → RepF K F ((k, d) :: ds) ((k, v) :: vs)
def MRep (K : Frg) (F H : Hp) (a : Addr) : MO → Prop
  | .lst ds => ∃ vs, H a = some (.lst vs) ∧ RepL K F ds vs
  | .dic ds => ∃ vs, H a = some (.dK vs) ∧ RepK K F ds vs
  | .ins C fs => ∃ dx gs, H a = some (.ins C dx gs) ∧ F dx = some (.own a) ∧ RepF K F fs gs
  | .raw o => H a = some o
abbrev Ms := List (Addr × MO)
structure Hold (K : Frg) (F : Hp) (ms : Ms) (H : Hp) : Prop where
  ex : Ex F H
  own : ∀ p ∈ ms, F p.1 = none ∧ MRep K F H p.1 p.2
  nd : (ms.map Prod.fst).Nodup
section
variable {K : Frg} {F F' H : Hp} {ms : Ms}
theorem RepF.mono (e : Ex F F') : ∀ {ds : List (Str × D)} {vs : List (Str × V)}, RepF K F ds vs → RepF K F' ds vs
  | _, _, .nil => .nil
  | _, _, .cons h r => .cons (h.mono e) (RepF.mono e r)
theorem RepF.look : ∀ {ds : List (Str × D)} {vs : List (Str × V)} {f : Str} {d : D}, RepF K F ds vs → ds.lookup f = some d → ∃ v, vs.lookup f = some v ∧ Rep K F d v
  | _, _, _, _, .nil, h => by simp at h
  | _, _, f, d, .cons (k := k) h r, e => by
    rw [List.lookup_cons] at e ⊢
    cases q : f == k with
    | true => rw [q] at e; cases e; exact ⟨_, rfl, h⟩
    | false => rw [q] at e; exact RepF.look r e
theorem RepF.lookN : ∀ {ds : List (Str × D)} {vs : List (Str × V)} {f : Str}, RepF K F ds vs → ds.lookup f = none → vs.lookup f = none
  | _, _, _, .nil, h => rfl
  | _, _, f, .cons (k := k) h r, e => by
    rw [List.lookup_cons] at e ⊢
    cases q : f == k with
    | true => rw [q] at e; cases e
    | false => rw [q] at e; exact RepF.lookN r e
theorem RepF.len : ∀ {ds : List (Str × D)} {vs : List (Str × V)}, RepF K F ds vs → ds.length = vs.length
  | _, _, .nil => rfl
  | _, _, .cons _ r => by rw [List.length_cons, List.length_cons, RepF.len r]
def putD (f : Str) (d : D) : List (Str × D) → List (Str × D)
  | [] => [(f, d)]
  | (g, e) :: r => if g = f then (f, d) :: r else (g, e) :: putD f d r
theorem RepF.put {f : Str} {d : D} {v : V} (h : Rep K F d v) : ∀ {ds : List (Str × D)} {vs : List (Str × V)}, RepF K F ds vs → RepF K F (putD f d ds) (putF f v vs)
  | _, _, .nil => .cons h .nil
  | _, _, .cons (k := k) q r => by
    unfold putD putF
    split
    · rename_i e; subst e; exact .cons h r
    · exact .cons q (RepF.put h r)
theorem MRep.mono (e : Ex F F') : ∀ {m : MO} {a : Addr}, MRep K F H a m → MRep K F' H a m
  | .lst _, _, ⟨vs, h, r⟩ => ⟨vs, h, r.mono e⟩
  | .dic _, _, ⟨vs, h, r⟩ => ⟨vs, h, r.mono e⟩
  | .ins _ _, _, ⟨dx, gs, h, q, r⟩ => ⟨dx, gs, h, e _ _ q, r.mono e⟩
  | .raw _, _, h => h
theorem MRep.there : ∀ {m : MO} {a : Addr}, MRep K F H a m → ∃ o, H a = some o
  | .lst _, _, ⟨_, h, _⟩ => ⟨_, h⟩
  | .dic _, _, ⟨_, h, _⟩ => ⟨_, h⟩
  | .ins _ _, _, ⟨_, _, h, _⟩ => ⟨_, h⟩
  | .raw _, _, h => ⟨_, h⟩
theorem MRep.at {H' : Hp} : ∀ {m : MO} {a : Addr}, MRep K F H a m → H' a = H a → MRep K F H' a m
  | .lst _, _, ⟨vs, h, r⟩, e => ⟨vs, e.trans h, r⟩
  | .dic _, _, ⟨vs, h, r⟩, e => ⟨vs, e.trans h, r⟩
  | .ins _ _, _, ⟨dx, gs, h, q, r⟩, e => ⟨dx, gs, e.trans h, q, r⟩
  | .raw _, _, h, e => Eq.trans e h
theorem free_of (e : Ex F H) {p : Addr} (h : H p = none) : F p = none := Evl.fresh_back e h
theorem Hold.free (h : Hold K F ms H) {p : Addr} (hp : H p = none) : F p = none := free_of h.ex hp
theorem Hold.ne (h : Hold K F ms H) {p : Addr} (hp : H p = none) : ∀ q ∈ ms, q.1 ≠ p := fun q hq e => by
  obtain ⟨o, ho⟩ := (h.own q hq).2.there
  rw [e, hp] at ho
  cases ho
/-- a new frozen object -/
theorem Hold.laid (h : Hold K F ms H) {p : Addr} (o : HO) (hp : H p = none) : Ex F (upd F p o) ∧ Hold K (upd F p o) ms (upd H p o) := by
  have e : Ex F (upd F p o) := Evl.Ex.new (h.free hp)
  refine ⟨e, fun a u q => ?_, fun q hq => ?_, h.nd⟩
  · by_cases ha : a = p
    · subst ha; rw [upd_same] at q ⊢; exact q
    · rw [upd_ne ha] at q ⊢; exact h.ex _ _ q
  · have ne := h.ne hp q hq
    refine ⟨by rw [upd_ne ne]; exact (h.own q hq).1, ((h.own q hq).2.mono e).at (upd_ne ne)⟩
/-- a new owned object -/
theorem Hold.made (h : Hold K F ms H) {p : Addr} {o : HO} {m : MO} (hp : H p = none) (hm : MRep K F (upd H p o) p m) : Hold K F ((p, m) :: ms) (upd H p o) := by
  refine ⟨h.ex.trans (Evl.Ex.new hp), fun q hq => ?_, ?_⟩
  · rcases List.mem_cons.mp hq with rfl | hq
    · exact ⟨h.free hp, hm⟩
    · exact ⟨(h.own q hq).1, (h.own q hq).2.at (upd_ne (h.ne hp q hq))⟩
  · rw [List.map_cons]
    refine List.nodup_cons.mpr ⟨fun hm' => ?_, h.nd⟩
    obtain ⟨q, hq, e⟩ := List.mem_map.mp hm'
    exact h.ne hp q hq e
theorem Hold.at (h : Hold K F ms H) {i : Nat} {l : Addr} {m : MO} (hi : ms[i]? = some (l, m)) : F l = none ∧ MRep K F H l m := h.own (l, m) (List.mem_of_getElem? hi)
theorem map_fst_set {i : Nat} {l : Addr} {m m' : MO} : ∀ {ms : Ms} {i : Nat}, ms[i]? = some (l, m) → (ms.set i (l, m')).map Prod.fst = ms.map Prod.fst
  | [], _, h => by simp at h
  | _ :: _, 0, h => by simp at h; subst h; rfl
  | _ :: r, i + 1, h => by
    show _ :: (r.set i (l, m')).map Prod.fst = _ :: r.map Prod.fst
    rw [map_fst_set (i := i) (by simpa using h)]
/-- an owned object is changed -/
theorem Hold.set (h : Hold K F ms H) {i : Nat} {l : Addr} {m m' : MO} {o : HO} (hi : ms[i]? = some (l, m)) (hm : MRep K F (upd H l o) l m') : Hold K F (ms.set i (l, m')) (upd H l o) := by
  have hl := h.at hi
  refine ⟨Evl.Ex.mut h.ex hl.1, fun q hq => ?_, by rw [map_fst_set (i := i) hi]; exact h.nd⟩
  obtain ⟨j, hj⟩ := List.getElem?_of_mem hq
  by_cases e : j = i
  · subst e
    have hlt : j < ms.length := (List.getElem?_eq_some_iff.mp hi).1
    rw [List.getElem?_set_self hlt] at hj
    cases hj
    exact ⟨hl.1, hm⟩
  · rw [List.getElem?_set_ne (Ne.symm e)] at hj
    have hq' := h.own q (List.mem_of_getElem? hj)
    refine ⟨hq'.1, hq'.2.at (upd_ne fun z => e ?_)⟩
    have h1 : (ms.map Prod.fst)[j]? = some q.1 := by rw [List.getElem?_map, hj]; rfl
    have h2 : (ms.map Prod.fst)[i]? = some q.1 := by rw [List.getElem?_map, hi, z]; rfl
    exact nodup_ix' h.nd h1 h2
where
  nodup_ix' {N : List Addr} (hN : N.Nodup) {i j : Nat} {x : Addr} (a : N[i]? = some x) (b : N[j]? = some x) : i = j := by
    obtain ⟨h1, e1⟩ := List.getElem?_eq_some_iff.mp a
    obtain ⟨h2, e2⟩ := List.getElem?_eq_some_iff.mp b
    exact (List.getElem_inj hN).mp (e1.trans e2.symm)
theorem Hold.drop (h : Hold K F ms H) (i : Nat) : Hold K F (ms.eraseIdx i) H :=
  ⟨h.ex, fun q hq => h.own q (List.mem_of_mem_eraseIdx hq), by
    have e : (ms.eraseIdx i).map Prod.fst = (ms.map Prod.fst).eraseIdx i := map_erase _ _
    rw [e]
    exact h.nd.sublist (List.eraseIdx_sublist _ _)⟩
where
  map_erase : ∀ (l : Ms) (i : Nat), (l.eraseIdx i).map Prod.fst = (l.map Prod.fst).eraseIdx i
    | [], _ => rfl
    | _ :: _, 0 => rfl
    | p :: r, i + 1 => by
      show p.1 :: (r.eraseIdx i).map Prod.fst = p.1 :: (r.map Prod.fst).eraseIdx i
      rw [map_erase r i]
theorem Hold.tl {p : Addr × MO} (h : Hold K F (p :: ms) H) : Hold K F ms H := h.drop 0
/-- an owned object freezes -/
theorem Hold.freeze (h : Hold K F ms H) {i : Nat} {l : Addr} {m : MO} (hi : ms[i]? = some (l, m)) : ∃ o, H l = some o ∧ Ex F (upd F l o) ∧ Hold K (upd F l o) (ms.eraseIdx i) H := by
  have hl := h.at hi
  obtain ⟨o, ho⟩ := hl.2.there
  have e : Ex F (upd F l o) := Evl.Ex.new hl.1
  have d := h.drop i
  refine ⟨o, ho, e, fun a u q => ?_, fun q hq => ?_, d.nd⟩
  · by_cases ha : a = l
    · subst ha; rw [upd_same] at q; rw [← q]; exact ho
    · rw [upd_ne ha] at q; exact h.ex _ _ q
  · have hq' := d.own q hq
    have ne : q.1 ≠ l := fun z => by
      obtain ⟨j, hj⟩ := List.getElem?_of_mem hq
      rw [List.getElem?_eraseIdx] at hj
      have two : ∀ k, ms[k]? = some q → k = i := fun k hk => by
        have h1 : (ms.map Prod.fst)[k]? = some q.1 := by rw [List.getElem?_map, hk]; rfl
        have h2 : (ms.map Prod.fst)[i]? = some q.1 := by rw [List.getElem?_map, hi, z]; rfl
        exact Hold.set.nodup_ix' h.nd h1 h2
      split at hj
      · have := two _ hj; omega
      · have := two _ hj; omega
    exact ⟨by rw [upd_ne ne]; exact hq'.1, hq'.2.mono e⟩
end

/-! ### the slots -/
abbrev Sg := List (Option D)
def SRep (K : Frg) (F : Hp) (S : Sg) (σ : St) : Prop := S.length = σ.length ∧ ∀ (i : Nat) (d : D), S[i]? = some (some d) → ∃ v, σ[i]? = some (some v) ∧ Rep K F d v
section
variable {K : Frg} {F F' : Hp} {S : Sg} {σ : St}
theorem SRep.mono (e : Ex F F') (h : SRep K F S σ) : SRep K F' S σ := ⟨h.1, fun i d q => by
  obtain ⟨v, h1, h2⟩ := h.2 i d q
  exact ⟨v, h1, h2.mono e⟩⟩
theorem SRep.set (h : SRep K F S σ) {i : Nat} {d : D} {v : V} (r : Rep K F d v) : SRep K F (S.set i (some d)) (σ.set i (some v)) := by
  refine ⟨by rw [List.length_set, List.length_set]; exact h.1, fun j e q => ?_⟩
  by_cases hj : j = i
  · subst hj
    by_cases hl : j < S.length
    · rw [List.getElem?_set_self hl] at q
      cases q
      exact ⟨v, by rw [List.getElem?_set_self (by rw [← h.1]; exact hl)], r⟩
    · rw [List.getElem?_eq_none (by rw [List.length_set]; omega)] at q
      cases q
  · rw [List.getElem?_set_ne (Ne.symm hj)] at q ⊢
    exact h.2 j e q
theorem SRep.setN (h : SRep K F S σ) {i : Nat} : SRep K F (S.set i none) (σ.set i none) := by
  refine ⟨by rw [List.length_set, List.length_set]; exact h.1, fun j e q => ?_⟩
  by_cases hj : j = i
  · subst hj
    by_cases hl : j < S.length
    · rw [List.getElem?_set_self hl] at q
      cases q
    · rw [List.getElem?_eq_none (by rw [List.length_set]; omega)] at q
      cases q
  · rw [List.getElem?_set_ne (Ne.symm hj)] at q ⊢
    exact h.2 j e q
/-- another datum for the value in a slot -/
theorem SRep.re (h : SRep K F S σ) {i : Nat} {d : D} (r : ∀ v, σ[i]? = some (some v) → Rep K F d v) {d0 : D} (h0 : S[i]? = some (some d0)) : SRep K F (S.set i (some d)) σ := by
  refine ⟨by rw [List.length_set]; exact h.1, fun j e q => ?_⟩
  by_cases hj : j = i
  · subst hj
    have hl : j < S.length := (List.getElem?_eq_some_iff.mp h0).1
    rw [List.getElem?_set_self hl] at q
    cases q
    obtain ⟨v, h1, _⟩ := h.2 j d0 h0
    exact ⟨v, h1, r v h1⟩
  · rw [List.getElem?_set_ne (Ne.symm hj)] at q
    exact h.2 j e q
def wipeS (S : Sg) : List Nat → Sg
  | [] => S
  | v :: vs => (wipeS S vs).set v none
theorem SRep.wipe (h : SRep K F S σ) : ∀ vs : List Nat, SRep K F (wipeS S vs) (L2.wipe σ vs)
  | [] => h
  | v :: vs => SRep.setN (SRep.wipe h vs)
theorem SRep.weak (h : SRep K F S σ) {S' : Sg} (hl : S'.length = S.length) (hw : ∀ (i : Nat) d, S'[i]? = some (some d) → S[i]? = some (some d)) : SRep K F S' σ :=
  ⟨hl.trans h.1, fun i d q => h.2 i d (hw i d q)⟩
end

/-! ### the judgements -/
abbrev QE := Hp → Ms → D → Prop
/-- what is wanted of an exception: its class, its attributes -/
abbrev XA := Addr → List (Str × D) → Hp → Ms → Prop
/-- where one stands: the written part, what is wanted of an exception (concretely, abstractly) -/
structure Cg where
  K : Frg
  E : XK
  Ea : XA
/-- the attributes of an exception: its own dict -/
def XDat (K : Frg) (F H : Hp) (dx : Option Addr) (fs : List (Str × D)) : Prop := (dx = none ∧ fs = []) ∨ ∃ d gs, dx = some d ∧ H d = some (.xd gs) ∧ RepF K F fs gs
def XLe (Γ : Cg) (R : Ms) (F : Hp) : Prop := ∀ F' ms' C dx fs H', Ex F F' → Hold Γ.K F' (ms' ++ R) H' → XDat Γ.K F' H' dx fs → Γ.Ea C fs F' ms' → Γ.E (.ref C) dx H'
theorem XLe.ex {Γ : Cg} {R : Ms} {F F' : Hp} (x : XLe Γ R F) (e : Ex F F') : XLe Γ R F' := fun F2 ms' C dx fs H' e2 => x F2 ms' C dx fs H' (e.trans e2)
abbrev QS := Hp → Ms → Sg → Prop
def AE (Γ : Cg) (te : TE) (F : Hp) (ms : Ms) (S : Sg) (Q : QE) : Prop := ∀ (R : Ms) σ H (Qc : VK), SRep Γ.K F S σ → Hold Γ.K F (ms ++ R) H → XLe Γ R F → (∀ F' ms' d v H', Ex F F' → Hold Γ.K F' (ms' ++ R) H' → Rep Γ.K F' d v → Q F' ms' d → Qc v H') → te σ H Qc
def AA (Γ : Cg) (ta : TA) (F : Hp) (ms : Ms) (S : Sg) (Q : Hp → Ms → List D → Prop) : Prop := ∀ (R : Ms) σ H (Qc : List V → Hp → Prop), SRep Γ.K F S σ → Hold Γ.K F (ms ++ R) H → XLe Γ R F → (∀ F' ms' ds vs H', Ex F F' → Hold Γ.K F' (ms' ++ R) H' → RepL Γ.K F' ds vs → Q F' ms' ds → Qc vs H') → ta σ H Qc
def AT (Γ : Cg) (tt : TT) (F : Hp) (ms : Ms) (S : Sg) (Q : Hp → Ms → Bool → Prop) : Prop := ∀ (R : Ms) σ H (Qc : Bool → Hp → Prop), SRep Γ.K F S σ → Hold Γ.K F (ms ++ R) H → XLe Γ R F → (∀ F' ms' b H', Ex F F' → Hold Γ.K F' (ms' ++ R) H' → Q F' ms' b → Qc b H') → tt σ H Qc
def AR (K : Frg) (r : R2) (x y : D) (F : Hp) (ms : Ms) (Q : QE) : Prop := ∀ (R : Ms) u v H (Qc : VK), Rep K F x u → Rep K F y v → Hold K F (ms ++ R) H → (∀ F' ms' d v H', Ex F F' → Hold K F' (ms' ++ R) H' → Rep K F' d v → Q F' ms' d → Qc v H') → r u v H Qc
def AC (K : Frg) (r : List V → Hp → VK → Prop) (ds : List D) (F : Hp) (ms : Ms) (Q : QE) : Prop := ∀ (R : Ms) vs H (Qc : VK), RepL K F ds vs → Hold K F (ms ++ R) H → (∀ F' ms' d v H', Ex F F' → Hold K F' (ms' ++ R) H' → Rep K F' d v → Q F' ms' d → Qc v H') → r vs H Qc
/-- a method of a built-in type: the receiver, the arguments -/
def AM (K : Frg) (T : String) (r : V → List V → Hp → VK → Prop) (x : D) (ds : List D) (F : Hp) (ms : Ms) (Q : QE) : Prop := ∀ (R : Ms) u vs H (Qc : VK), Rep K F x u → RepL K F ds vs → Hold K F (ms ++ R) H → (∀ F' ms' d v H', Ex F F' → Hold K F' (ms' ++ R) H' → Rep K F' d v → Q F' ms' d → Qc v H') → r u vs H Qc
structure AEnds where
  nx : QS
  rt : QE
  bk : QS := fun _ _ _ => False
  ct : QS := fun _ _ _ => False
structure Le (Γ : Cg) (R : Ms) (F : Hp) (A : AEnds) (E : Ends) : Prop where
  xe : XLe Γ R F
  nx : ∀ F' ms' S' σ' H', Ex F F' → SRep Γ.K F' S' σ' → Hold Γ.K F' (ms' ++ R) H' → A.nx F' ms' S' → E.nx σ' H'
  rt : ∀ F' ms' d v H', Ex F F' → Hold Γ.K F' (ms' ++ R) H' → Rep Γ.K F' d v → A.rt F' ms' d → E.rt v H'
  bk : ∀ F' ms' S' σ' H', Ex F F' → SRep Γ.K F' S' σ' → Hold Γ.K F' (ms' ++ R) H' → A.bk F' ms' S' → E.bk σ' H'
  ct : ∀ F' ms' S' σ' H', Ex F F' → SRep Γ.K F' S' σ' → Hold Γ.K F' (ms' ++ R) H' → A.ct F' ms' S' → E.ct σ' H'
def AS (Γ : Cg) (ts : TS) (F : Hp) (ms : Ms) (S : Sg) (A : AEnds) : Prop := ∀ (R : Ms) (E : Ends) σ H, SRep Γ.K F S σ → Hold Γ.K F (ms ++ R) H → Le Γ R F A E → ts E σ H
theorem Le.ex {Γ : Cg} {R : Ms} {F F' : Hp} {A : AEnds} {E : Ends} (l : Le Γ R F A E) (e : Ex F F') : Le Γ R F' A E :=
  ⟨l.xe.ex e, fun F'' ms' S' σ' H' x => l.nx F'' ms' S' σ' H' (e.trans x), fun F'' ms' d v H' x => l.rt F'' ms' d v H' (e.trans x), fun F'' ms' S' σ' H' x => l.bk F'' ms' S' σ' H' (e.trans x), fun F'' ms' S' σ' H' x => l.ct F'' ms' S' σ' H' (e.trans x)⟩

section
variable {Γ : Cg} {K : Frg} {F : Hp} {ms : Ms} {S : Sg} {Q : QE} {ta tb te tx : TE} {t u : TT} {r : R2}
/-! ### expressions -/
theorem ae_var {i : Nat} {d : D} (h : S[i]? = some (some d)) (q : Q F ms d) : AE Γ (tVar i) F ms S Q := fun R σ H Qc hs hh x k => by
  obtain ⟨v, h1, h2⟩ := hs.2 i d h
  exact ⟨v, h1, k F ms d v H Ex.refl hh h2 q⟩
theorem ae_int {i : Int} (q : Q F ms (.int i)) : AE Γ (tC (.int i)) F ms S Q := fun R σ H Qc hs hh x k => k F ms _ _ H Ex.refl hh (.int i) q
theorem ae_bl {i : Bool} (q : Q F ms (.bl i)) : AE Γ (tC (.bl i)) F ms S Q := fun R σ H Qc hs hh x k => k F ms _ _ H Ex.refl hh (.bl i) q
theorem ae_str {i : Str} (q : Q F ms (.str i)) : AE Γ (tC (.str i)) F ms S Q := fun R σ H Qc hs hh x k => k F ms _ _ H Ex.refl hh (.str i) q
theorem ae_non (q : Q F ms .non) : AE Γ (tC .non) F ms S Q := fun R σ H Qc hs hh x k => k F ms _ _ H Ex.refl hh .non q
theorem ae_ty {n : String} (q : Q F ms (.ty n)) : AE Γ (tC (.ty n)) F ms S Q := fun R σ H Qc hs hh x k => k F ms _ _ H Ex.refl hh (.ty n) q
theorem ae_ref {a : Addr} (q : Q F ms (.ref a)) : AE Γ (tC (.ref a)) F ms S Q := fun R σ H Qc hs hh x k => k F ms _ _ H Ex.refl hh (.ref a) q
theorem AE.mono {Q' : QE} (h : AE Γ te F ms S Q) (m : ∀ F' ms' d, Ex F F' → Q F' ms' d → Q' F' ms' d) : AE Γ te F ms S Q' := fun R σ H Qc hs hh x k => h R σ H Qc hs hh x fun F' ms' d v H' e ho hr q => k F' ms' d v H' e ho hr (m F' ms' d e q)
theorem AS.mono {ts : TS} {A A' : AEnds} (h : AS Γ ts F ms S A) (m1 : ∀ F' ms' S', Ex F F' → A.nx F' ms' S' → A'.nx F' ms' S') (m2 : ∀ F' ms' d, Ex F F' → A.rt F' ms' d → A'.rt F' ms' d)
    (m3 : ∀ F' ms' S', Ex F F' → A.bk F' ms' S' → A'.bk F' ms' S') (m4 : ∀ F' ms' S', Ex F F' → A.ct F' ms' S' → A'.ct F' ms' S') : AS Γ ts F ms S A' := fun R E σ H hs hh l =>
  h R E σ H hs hh ⟨l.xe, fun F' ms' S' σ' H' e a b q => l.nx F' ms' S' σ' H' e a b (m1 _ _ _ e q), fun F' ms' d v H' e a b q => l.rt F' ms' d v H' e a b (m2 _ _ _ e q), fun F' ms' S' σ' H' e a b q => l.bk F' ms' S' σ' H' e a b (m3 _ _ _ e q), fun F' ms' S' σ' H' e a b q => l.ct F' ms' S' σ' H' e a b (m4 _ _ _ e q)⟩
theorem ae_op (h : AE Γ ta F ms S fun F1 ms1 x => AE Γ tb F1 ms1 S fun F2 ms2 y => AR Γ.K r x y F2 ms2 Q) : AE Γ (tOp r ta tb) F ms S Q := fun R σ H Qc hs hh x k =>
  h R σ H _ hs hh x fun F1 ms1 x1 v1 H1 e1 h1 r1 q1 => q1 R σ H1 _ (hs.mono e1) h1 (x.ex e1) fun F2 ms2 y v2 H2 e2 h2 r2 q2 => q2 R v1 v2 H2 Qc (r1.mono e2) r2 h2 fun F3 ms3 d v3 H3 e3 h3 r3 q3 => k F3 ms3 d v3 H3 ((e1.trans e2).trans e3) h3 r3 q3
theorem ae_un {r1 : V → Hp → VK → Prop} (h : AE Γ ta F ms S fun F1 ms1 x => ∀ (R : Ms) u H (Qc : VK), Rep Γ.K F1 x u → Hold Γ.K F1 (ms1 ++ R) H → (∀ F' ms' d v H', Ex F1 F' → Hold Γ.K F' (ms' ++ R) H' → Rep Γ.K F' d v → Q F' ms' d → Qc v H') → r1 u H Qc) : AE Γ (tUn r1 ta) F ms S Q := fun R σ H Qc hs hh x k =>
  h R σ H _ hs hh x fun F1 ms1 x1 v1 H1 e1 h1 r1 q1 => q1 R v1 H1 Qc r1 h1 fun F3 ms3 d v3 H3 e3 h3 r3 q3 => k F3 ms3 d v3 H3 (e1.trans e3) h3 r3 q3
theorem ae_neg {f : Int → V} {g : Int → Int} (hf : ∀ i, f i = .int (g i)) (h : AE Γ ta F ms S fun F1 ms1 x => ∃ i, x = .int i ∧ Q F1 ms1 (.int (g i))) : AE Γ (tUn (rU f) ta) F ms S Q := ae_un (AE.mono h fun F1 ms1 x e ⟨i, hx, q⟩ R u H Qc hr hh k => by
  subst hx
  cases hr
  refine ⟨i, rfl, ?_⟩
  rw [hf]
  exact k F1 ms1 _ _ H Ex.refl hh (.int _) q)
theorem aa_nil {Q : Hp → Ms → List D → Prop} (q : Q F ms []) : AA Γ tNil F ms S Q := fun R σ H Qc hs hh x k => k F ms [] [] H Ex.refl hh .nil q
theorem aa_cons {tr : TA} {Q : Hp → Ms → List D → Prop} (h : AE Γ te F ms S fun F1 ms1 x => AA Γ tr F1 ms1 S fun F2 ms2 xs => Q F2 ms2 (x :: xs)) : AA Γ (tCons te tr) F ms S Q := fun R σ H Qc hs hh x k =>
  h R σ H _ hs hh x fun F1 ms1 x1 v1 H1 e1 h1 r1 q1 => q1 R σ H1 _ (hs.mono e1) h1 (x.ex e1) fun F2 ms2 xs vs H2 e2 h2 r2 q2 => k F2 ms2 (x1 :: xs) (v1 :: vs) H2 (e1.trans e2) h2 (.cons (r1.mono e2) r2) q2
theorem ae_tup {ta : TA} (h : AA Γ ta F ms S fun F1 ms1 xs => xs.length ≤ 100000 ∧ ∀ F2, Ex F1 F2 → Q F2 ms1 (.tup xs)) : AE Γ (tTup ta) F ms S Q := fun R σ H Qc hs hh x k =>
  h R σ H _ hs hh x fun F1 ms1 xs vs H1 e1 h1 r1 q1 => ⟨Evl.sz_of (by rw [← r1.len]; exact q1.1), fun p hp => by
    obtain ⟨e2, h2⟩ := h1.laid (.tup vs) hp
    exact k _ ms1 (.tup xs) _ _ (e1.trans e2) h2 (.tup (SqT.of upd_same) (r1.mono e2)) (q1.2 _ e2)⟩
/-- a displayed list, frozen -/
theorem ae_lstF {ta : TA} (h : AA Γ ta F ms S fun F1 ms1 xs => xs.length ≤ 100000 ∧ ∀ F2, Ex F1 F2 → Q F2 ms1 (.lst xs)) : AE Γ (tLst ta) F ms S Q := fun R σ H Qc hs hh x k =>
  h R σ H _ hs hh x fun F1 ms1 xs vs H1 e1 h1 r1 q1 => ⟨Evl.sz_of (by rw [← r1.len]; exact q1.1), fun p hp => by
    obtain ⟨e2, h2⟩ := h1.laid (.lst vs) hp
    exact k _ ms1 (.lst xs) _ _ (e1.trans e2) h2 (.lst upd_same (r1.mono e2)) (q1.2 _ e2)⟩
/-- a displayed list, owned -/
theorem ae_lstO {ta : TA} (h : AA Γ ta F ms S fun F1 ms1 xs => xs.length ≤ 100000 ∧ ∀ l, Q F1 ((l, .lst xs) :: ms1) (.ref l)) : AE Γ (tLst ta) F ms S Q := fun R σ H Qc hs hh x k =>
  h R σ H _ hs hh x fun F1 ms1 xs vs H1 e1 h1 r1 q1 => ⟨Evl.sz_of (by rw [← r1.len]; exact q1.1), fun p hp =>
    k _ _ (.ref p) _ _ e1 (h1.made (m := .lst xs) hp ⟨vs, upd_same, r1⟩) (.ref p) (q1.2 p)⟩
theorem ae_dnewO (h : ∀ l, Q F ((l, .dic []) :: ms) (.ref l)) : AE Γ tDNewK F ms S Q := fun R σ H Qc hs hh x k p hp => k _ _ (.ref p) _ _ Ex.refl (hh.made (m := .dic []) hp ⟨[], upd_same, .nil⟩) (.ref p) (h p)
theorem ae_call1 {rc : List V → Hp → VK → Prop} {ta : TA} (h : AA Γ ta F ms S fun F1 ms1 xs => AC Γ.K rc xs F1 ms1 Q) : AE Γ (tCB rc ta) F ms S Q := fun R σ H Qc hs hh x k =>
  h R σ H _ hs hh x fun F1 ms1 xs vs H1 e1 h1 r1 q1 => q1 R vs H1 Qc r1 h1 fun F2 ms2 d v H2 e2 h2 r2 q2 => k F2 ms2 d v H2 (e1.trans e2) h2 r2 q2
theorem ae_if (h : AT Γ t F ms S fun F1 ms1 b => (b = true → AE Γ ta F1 ms1 S Q) ∧ (b = false → AE Γ tb F1 ms1 S Q)) : AE Γ (tIf t ta tb) F ms S Q := fun R σ H Qc hs hh x k =>
  h R σ H _ hs hh x fun F1 ms1 b H1 e1 h1 q1 => by
    cases b with
    | true => exact q1.1 rfl R σ H1 Qc (hs.mono e1) h1 (x.ex e1) fun F2 ms2 d v H2 e2 h2 r2 q2 => k F2 ms2 d v H2 (e1.trans e2) h2 r2 q2
    | false => exact q1.2 rfl R σ H1 Qc (hs.mono e1) h1 (x.ex e1) fun F2 ms2 d v H2 e2 h2 r2 q2 => k F2 ms2 d v H2 (e1.trans e2) h2 r2 q2
theorem ae_andV (h : AE Γ ta F ms S fun F1 ms1 x => ∃ b, x = .bl b ∧ (b = true → AE Γ tb F1 ms1 S Q) ∧ (b = false → Q F1 ms1 (.bl false))) : AE Γ (tAndV ta tb) F ms S Q := fun R σ H Qc hs hh x k =>
  h R σ H _ hs hh x fun F1 ms1 x1 v1 H1 e1 h1 r1 ⟨b, hx, p1, p2⟩ => by
    subst hx
    cases r1
    refine ⟨b, rfl, ?_⟩
    cases b with
    | true => exact p1 rfl R σ H1 Qc (hs.mono e1) h1 (x.ex e1) fun F2 ms2 d v H2 e2 h2 r2 q2 => k F2 ms2 d v H2 (e1.trans e2) h2 r2 q2
    | false => exact k F1 ms1 _ _ H1 e1 h1 (.bl false) (p2 rfl)
theorem ae_orV (h : AE Γ ta F ms S fun F1 ms1 x => ∃ b, x = .bl b ∧ (b = false → AE Γ tb F1 ms1 S Q) ∧ (b = true → Q F1 ms1 (.bl true))) : AE Γ (tOrV ta tb) F ms S Q := fun R σ H Qc hs hh x k =>
  h R σ H _ hs hh x fun F1 ms1 x1 v1 H1 e1 h1 r1 ⟨b, hx, p1, p2⟩ => by
    subst hx
    cases r1
    refine ⟨b, rfl, ?_⟩
    cases b with
    | false => exact p1 rfl R σ H1 Qc (hs.mono e1) h1 (x.ex e1) fun F2 ms2 d v H2 e2 h2 r2 q2 => k F2 ms2 d v H2 (e1.trans e2) h2 r2 q2
    | true => exact k F1 ms1 _ _ H1 e1 h1 (.bl true) (p2 rfl)
theorem ae_notV (h : AE Γ ta F ms S fun F1 ms1 x => ∃ b, x = .bl b ∧ Q F1 ms1 (.bl (!b))) : AE Γ (tNotV ta) F ms S Q := fun R σ H Qc hs hh x k =>
  h R σ H _ hs hh x fun F1 ms1 x1 v1 H1 e1 h1 r1 ⟨b, hx, p1⟩ => by
    subst hx
    cases r1
    exact ⟨b, rfl, k F1 ms1 _ _ H1 e1 h1 (.bl _) p1⟩
/-! ### tests -/
variable {QT : Hp → Ms → Bool → Prop}
theorem at_test (h : AE Γ ta F ms S fun F1 ms1 x => ∃ b, x = .bl b ∧ QT F1 ms1 b) : AT Γ (tTest ta) F ms S QT := fun R σ H Qc hs hh x k =>
  h R σ H _ hs hh x fun F1 ms1 x1 v1 H1 e1 h1 r1 ⟨b, hx, p1⟩ => by
    subst hx
    cases r1
    exact ⟨b, rfl, k F1 ms1 b H1 e1 h1 p1⟩
theorem at_B (h : AE Γ ta F ms S fun F1 ms1 x => ∃ b, x = .bl b ∧ QT F1 ms1 b) : AT Γ (tB ta) F ms S QT := fun R σ H Qc hs hh x k =>
  h R σ H _ hs hh x fun F1 ms1 x1 v1 H1 e1 h1 r1 ⟨b, hx, p1⟩ => by
    subst hx
    cases r1
    exact ⟨b, rfl, k F1 ms1 b H1 e1 h1 p1⟩
theorem at_and (h : AT Γ t F ms S fun F1 ms1 b => (b = true → AT Γ u F1 ms1 S QT) ∧ (b = false → QT F1 ms1 false)) : AT Γ (tAnd t u) F ms S QT := fun R σ H Qc hs hh x k =>
  h R σ H _ hs hh x fun F1 ms1 b H1 e1 h1 q1 => by
    cases b with
    | true => exact q1.1 rfl R σ H1 Qc (hs.mono e1) h1 (x.ex e1) fun F2 ms2 d H2 e2 h2 q2 => k F2 ms2 d H2 (e1.trans e2) h2 q2
    | false => exact k F1 ms1 _ H1 e1 h1 (q1.2 rfl)
theorem at_or (h : AT Γ t F ms S fun F1 ms1 b => (b = false → AT Γ u F1 ms1 S QT) ∧ (b = true → QT F1 ms1 true)) : AT Γ (tOr t u) F ms S QT := fun R σ H Qc hs hh x k =>
  h R σ H _ hs hh x fun F1 ms1 b H1 e1 h1 q1 => by
    cases b with
    | false => exact q1.1 rfl R σ H1 Qc (hs.mono e1) h1 (x.ex e1) fun F2 ms2 d H2 e2 h2 q2 => k F2 ms2 d H2 (e1.trans e2) h2 q2
    | true => exact k F1 ms1 _ H1 e1 h1 (q1.2 rfl)
theorem at_not (h : AT Γ t F ms S fun F1 ms1 b => QT F1 ms1 (!b)) : AT Γ (tNot t) F ms S QT := fun R σ H Qc hs hh x k =>
  h R σ H _ hs hh x fun F1 ms1 b H1 e1 h1 q1 => k F1 ms1 _ H1 e1 h1 q1
theorem at_yes (q : QT F ms true) : AT Γ tYes F ms S QT := fun R σ H Qc hs hh x k => k F ms true H Ex.refl hh q
theorem AT.mono {Q' : Hp → Ms → Bool → Prop} (h : AT Γ t F ms S QT) (m : ∀ F' ms' d, Ex F F' → QT F' ms' d → Q' F' ms' d) : AT Γ t F ms S Q' := fun R σ H Qc hs hh x k => h R σ H Qc hs hh x fun F' ms' d H' e ho q => k F' ms' d H' e ho (m F' ms' d e q)

/-! ### operators -/
theorem ar_I0 {g : Int → Int → V} {f : Int → Int → D} (hg : ∀ F i j, Rep K F (f i j) (g i j)) {i j : Int} (q : Q F ms (f i j)) : AR K (rI0 g) (.int i) (.int j) F ms Q := fun R u v H Qc hu hv hh k => by
  cases hu; cases hv
  exact ⟨i, j, rfl, rfl, k F ms _ _ H Ex.refl hh (hg F i j) q⟩
theorem ar_I {C : Int → Int → Prop} {g : Int → Int → V} {f : Int → Int → D} (hg : ∀ F i j, Rep K F (f i j) (g i j)) {i j : Int} (c : C i j) (q : Q F ms (f i j)) : AR K (rI C g) (.int i) (.int j) F ms Q := fun R u v H Qc hu hv hh k => by
  cases hu; cases hv
  exact ⟨i, j, rfl, rfl, c, k F ms _ _ H Ex.refl hh (hg F i j) q⟩
theorem ar_addI {i j : Int} (q : Q F ms (.int (i + j))) : AR K (rI0 fun i j => .int (i + j)) (.int i) (.int j) F ms Q := ar_I0 (f := fun i j => .int (i + j)) (fun _ _ _ => .int _) q
theorem ar_subI {i j : Int} (q : Q F ms (.int (i - j))) : AR K (rI0 fun i j => .int (i - j)) (.int i) (.int j) F ms Q := ar_I0 (f := fun i j => .int (i - j)) (fun _ _ _ => .int _) q
theorem ar_mulI {i j : Int} (c : CMul i j) (q : Q F ms (.int (i * j))) : AR K (rI CMul fun i j => .int (i * j)) (.int i) (.int j) F ms Q := ar_I (f := fun i j => .int (i * j)) (fun _ _ _ => .int _) c q
theorem ar_modI {i j : Int} (c : 0 < j) (q : Q F ms (.int (i % j))) : AR K (rI (fun _ j => 0 < j) fun i j => .int (i % j)) (.int i) (.int j) F ms Q := ar_I (f := fun i j => .int (i % j)) (fun _ _ _ => .int _) c q
theorem ar_divI {i j : Int} (c : CDiv i j) (q : Q F ms (.int (i / j))) : AR K (rI CDiv fun i j => .int (i / j)) (.int i) (.int j) F ms Q := ar_I (f := fun i j => .int (i / j)) (fun _ _ _ => .int _) c q
theorem ar_powI {i j : Int} (c : CPow i j) (q : Q F ms (.int (i ^ j.toNat))) : AR K (rI CPow fun i j => .int (i ^ j.toNat)) (.int i) (.int j) F ms Q := ar_I (f := fun i j => .int (i ^ j.toNat)) (fun _ _ _ => .int _) c q
theorem ar_ltI {i j : Int} (q : Q F ms (.bl (decide (i < j)))) : AR K (rI0 fun i j => .bl (decide (i < j))) (.int i) (.int j) F ms Q := ar_I0 (f := fun i j => .bl (decide (i < j))) (fun _ _ _ => .bl _) q
theorem ar_leI {i j : Int} (q : Q F ms (.bl (decide (i ≤ j)))) : AR K (rI0 fun i j => .bl (decide (i ≤ j))) (.int i) (.int j) F ms Q := ar_I0 (f := fun i j => .bl (decide (i ≤ j))) (fun _ _ _ => .bl _) q
theorem ar_gtI {i j : Int} (q : Q F ms (.bl (decide (j < i)))) : AR K (rI0 fun i j => .bl (decide (j < i))) (.int i) (.int j) F ms Q := ar_I0 (f := fun i j => .bl (decide (j < i))) (fun _ _ _ => .bl _) q
theorem ar_geI {i j : Int} (q : Q F ms (.bl (decide (j ≤ i)))) : AR K (rI0 fun i j => .bl (decide (j ≤ i))) (.int i) (.int j) F ms Q := ar_I0 (f := fun i j => .bl (decide (j ≤ i))) (fun _ _ _ => .bl _) q
theorem ar_eqI {i j : Int} (q : Q F ms (.bl (decide (i = j)))) : AR K rEq (.int i) (.int j) F ms Q := fun R u v H Qc hu hv hh k => by
  cases hu; cases hv
  refine ⟨rfl, k F ms (.bl (decide (i = j))) _ H Ex.refl hh ?_ q⟩
  have e : decide (V.int i = V.int j) = decide (i = j) := by rw [dec_int]; by_cases z : i = j <;> simp [z]
  rw [e]
  exact .bl _
theorem ar_eqS {i j : Str} (q : Q F ms (.bl (decide (i = j)))) : AR K rEq (.str i) (.str j) F ms Q := fun R u v H Qc hu hv hh k => by
  cases hu; cases hv
  refine ⟨rfl, k F ms (.bl (decide (i = j))) _ H Ex.refl hh ?_ q⟩
  have e : decide (V.str i = V.str j) = decide (i = j) := by by_cases z : i = j <;> simp [z]
  rw [e]
  exact .bl _
theorem ar_eqB {i j : Bool} (q : Q F ms (.bl (decide (i = j)))) : AR K rEq (.bl i) (.bl j) F ms Q := fun R u v H Qc hu hv hh k => by
  cases hu; cases hv
  refine ⟨rfl, k F ms (.bl (decide (i = j))) _ H Ex.refl hh ?_ q⟩
  have e : decide (V.bl i = V.bl j) = decide (i = j) := by by_cases z : i = j <;> simp [z]
  rw [e]
  exact .bl _
theorem ar_neI {i j : Int} (q : Q F ms (.bl (!decide (i = j)))) : AR K rNe (.int i) (.int j) F ms Q := fun R u v H Qc hu hv hh k => by
  cases hu; cases hv
  refine ⟨rfl, k F ms (.bl (!decide (i = j))) _ H Ex.refl hh ?_ q⟩
  have e : decide (V.int i = V.int j) = decide (i = j) := by rw [dec_int]; by_cases z : i = j <;> simp [z]
  rw [e]
  exact .bl _
theorem ar_neS {i j : Str} (q : Q F ms (.bl (!decide (i = j)))) : AR K rNe (.str i) (.str j) F ms Q := fun R u v H Qc hu hv hh k => by
  cases hu; cases hv
  refine ⟨rfl, k F ms (.bl (!decide (i = j))) _ H Ex.refl hh ?_ q⟩
  have e : decide (V.str i = V.str j) = decide (i = j) := by by_cases z : i = j <;> simp [z]
  rw [e]
  exact .bl _
end
end AL

set_option Elab.async false
set_option linter.all false
set_option maxRecDepth 100000
set_option maxHeartbeats 4000000
namespace AL
open PySem L2
section
variable {K : Frg} {F : Hp} {ms : Ms} {S : Sg} {Q : QE} {ta tb te tx : TE} {t u : TT} {r : R2}
/-! ### operators by the kinds of their data: one rule a sign -/
theorem ar_inl {r r' : R2} {x y : D} (h : AR K r x y F ms Q) : AR K (fun x y H Q => r x y H Q ∨ r' x y H Q) x y F ms Q := fun R u v H Qc hu hv hh k => .inl (h R u v H Qc hu hv hh k)
theorem ar_inr {r r' : R2} {x y : D} (h : AR K r' x y F ms Q) : AR K (fun x y H Q => r x y H Q ∨ r' x y H Q) x y F ms Q := fun R u v H Qc hu hv hh k => .inr (h R u v H Qc hu hv hh k)
def rAddS' : R2 := fun x y H Q => ∃ i j, x = .str i ∧ y = .str j ∧ i.length + j.length ≤ sizeLine ∧ Q (.str (i ++ j)) H
/-- + -/
def rADD (K : Frg) : R2 := fun x y H Q => (rI0 fun i j => .int (i + j)) x y H Q ∨ (rAddS' x y H Q ∨ (rCat x y H Q ∨ rCatA K x y H Q))
theorem op_ADD {X : Cx} : OpR X (binaryOp .Add) (rADD X.K) := op_add.or (op_add_str.or (op_cat.or op_catA))
theorem ar_ADDi {i j : Int} (q : Q F ms (.int (i + j))) : AR K (rADD K) (.int i) (.int j) F ms Q := ar_inl (ar_addI q)
theorem ar_ADDs {i j : Str} (h : i.length + j.length ≤ 100000) (q : Q F ms (.str (i ++ j))) : AR K (rADD K) (.str i) (.str j) F ms Q := ar_inr (ar_inl fun R u v H Qc hu hv hh k => by
  cases hu; cases hv
  exact ⟨i, j, rfl, rfl, Evl.sz_of h, k F ms _ _ H Ex.refl hh (.str _) q⟩)
/-- two frozen lists: a new frozen one -/
theorem ar_ADDl {xs ys : List D} (h : xs.length + ys.length ≤ 100000) (q : ∀ F', Ex F F' → Q F' ms (.lst (xs ++ ys))) : AR K (rADD K) (.lst xs) (.lst ys) F ms Q := ar_inr (ar_inr (ar_inl fun R u v H Qc hu hv hh k => by
  cases hu with
  | lst h1 r1 =>
    cases hv with
    | lst h2 r2 =>
      refine ⟨_, _, _, _, rfl, rfl, hh.ex _ _ h1, hh.ex _ _ h2, Evl.sz_of (by rw [← r1.len, ← r2.len]; exact h), fun p hp => ?_⟩
      obtain ⟨e, hh'⟩ := hh.laid (.lst _) hp
      exact k _ ms _ _ _ e hh' (.lst upd_same ((r1.append r2).mono e)) (q _ e)))
/-- .. a new owned one -/
theorem ar_ADDlo {xs ys : List D} (h : xs.length + ys.length ≤ 100000) (q : ∀ l, Q F ((l, .lst (xs ++ ys)) :: ms) (.ref l)) : AR K (rADD K) (.lst xs) (.lst ys) F ms Q := ar_inr (ar_inr (ar_inl fun R u v H Qc hu hv hh k => by
  cases hu with
  | lst h1 r1 =>
    cases hv with
    | lst h2 r2 =>
      refine ⟨_, _, _, _, rfl, rfl, hh.ex _ _ h1, hh.ex _ _ h2, Evl.sz_of (by rw [← r1.len, ← r2.len]; exact h), fun p hp => ?_⟩
      exact k F ((p, .lst (xs ++ ys)) :: ms) (.ref p) _ _ Ex.refl (hh.made (m := .lst (xs ++ ys)) hp ⟨_, upd_same, r1.append r2⟩) (.ref p) (q p)))
theorem ar_ADDt {xs ys : List D} (h : xs.length + ys.length ≤ 100000) (q : ∀ F', Ex F F' → Q F' ms (.tup (xs ++ ys))) : AR K (rADD K) (.tup xs) (.tup ys) F ms Q := ar_inr (ar_inr (ar_inr fun R u v H Qc hu hv hh k => by
  cases hu with
  | tup h1 r1 =>
    cases hv with
    | tup h2 r2 =>
      refine ⟨_, _, _, _, rfl, rfl, ex_t hh.ex h1, ex_t hh.ex h2, Evl.sz_of (by rw [← r1.len, ← r2.len]; exact h), fun e => ?_, fun _ e => ?_, fun _ _ p hp => ?_⟩
      · subst e
        cases r1
        exact k F ms (.tup ys) _ H Ex.refl hh (.tup h2 r2) (q F Ex.refl)
      · subst e
        cases r2
        have q' := q F Ex.refl
        rw [List.append_nil] at q'
        exact k F ms (.tup xs) _ H Ex.refl hh (.tup h1 r1) q'
      · obtain ⟨e, hh'⟩ := hh.laid (.tup _) hp
        exact k _ ms _ _ _ e hh' (.tup (SqT.of upd_same) ((r1.append r2).mono e)) (q _ e)))
theorem ar_SUB {i j : Int} (q : Q F ms (.int (i - j))) : AR K (rI0 fun i j => .int (i - j)) (.int i) (.int j) F ms Q := ar_subI q
/-- text * int -/
def mulS (z : Str) (n : Int) : Str := ⟨(List.replicate n.toNat z.cps.toList).flatten.toArray⟩
def rRepS : R2 := fun x y H Q => ∃ z n, x = .str z ∧ y = .int n ∧ n ≤ 100000 ∧ -100000 ≤ n ∧ z.length * n.toNat ≤ 100000 ∧ Q (.str (mulS z n)) H
theorem foldl_rep (a : Array Nat) : ∀ (n : Nat) (b : Array Nat), (List.replicate n a).foldl (· ++ ·) b = b ++ (List.replicate n a.toList).flatten.toArray
  | 0, b => by simp
  | n + 1, b => by
    rw [List.replicate_succ, List.foldl_cons, foldl_rep a n, List.replicate_succ, List.flatten_cons]
    apply Array.ext'
    simp [Array.append_assoc]
theorem len_flat {α : Type} (l : List α) : ∀ n : Nat, (List.replicate n l).flatten.length = l.length * n
  | 0 => by simp
  | n + 1 => by
    rw [List.replicate_succ, List.flatten_cons, List.length_append, len_flat l n, Nat.mul_succ, Nat.add_comm]
theorem op_repS {X : Cx} : OpR X (binaryOp .Mult) rRepS := by
  intro pins s σ H x y v u Q I rx ry h
  obtain ⟨z, n, rfl, rfl, h1, h2, h3, q⟩ := h
  obtain ⟨t, rfl⟩ := rx
  obtain ⟨t', rfl⟩ := ry
  have hz : z.length * n.toNat ≤ sizeLine := Evl.sz_of h3
  refine PySem.P.mul_str ?_ (fun a b => ?_) (fun a b => ?_) ?_
  · have e1 : decide (n < -(2 ^ 63 : Int)) = false := decide_eq_false (by omega)
    have e2 : decide (n ≥ (2 ^ 63 : Int)) = false := decide_eq_false (by omega)
    rw [e1, e2]; rfl
  · have hn : 0 < n := by omega
    have hb : (z.length : Int) ≤ 100000 := by
      have : z.length * 1 ≤ z.length * n.toNat := Nat.mul_le_mul_left _ (by omega)
      omega
    have : (2 ^ 63 - 1 : Int) / n ≥ (2 ^ 63 - 1) / 100000 := by
      apply (Int.le_ediv_iff_mul_le hn).mpr
      have h5 : (2 ^ 63 - 1 : Int) / 100000 = 92233720368547 := by decide
      rw [h5]
      omega
    have h6 : (2 ^ 63 - 1 : Int) / 100000 = 92233720368547 := by decide
    rw [h6] at this
    omega
  · exact decide_eq_false (by omega)
  · have fin : ∀ (w : Str) (tk : Tok) (s' : Shared), w = mulS z n → Inv X pins σ H s' → EP X pins σ Q (.str w tk) s' := fun w tk s' e I' => ⟨.str w, H, I', ⟨tk, rfl⟩, by rw [e]; exact q⟩
    by_cases hn : n < 1
    · rw [if_pos hn]
      refine ⟨by decide, fin _ _ _ ?_ (I.tok _)⟩
      have e : n.toNat = 0 := by omega
      unfold mulS
      rw [e]; rfl
    · rw [if_neg hn]
      by_cases hc : (n == 1 || z.length == 0) = true
      · rw [if_pos hc]
        refine fin _ _ _ ?_ I
        unfold mulS
        rcases Bool.or_eq_true _ _ ▸ hc with h5 | h5
        · have e : n = 1 := by simpa using h5
          subst e
          show z = ⟨(List.replicate 1 z.cps.toList).flatten.toArray⟩
          simp [List.replicate_succ]
        · have e : z.cps = #[] := by
            have h6 : z.cps.size = 0 := by
              have h7 : z.length = 0 := by simpa using h5
              exact h7
            exact Array.eq_empty_of_size_eq_zero h6
          obtain ⟨c⟩ := z
          have e : c = #[] := e
          subst e
          simp
      · rw [if_neg hc]
        have e : (⟨(List.replicate n.toNat z.cps).foldl (· ++ ·) #[]⟩ : Str) = mulS z n := by
          unfold mulS
          rw [foldl_rep]
          simp
        have hl : (mulS z n).length ≤ sizeLine := by
          show (List.replicate n.toNat z.cps.toList).flatten.toArray.size ≤ sizeLine
          rw [List.size_toArray, len_flat]
          have : z.cps.toList.length = z.length := by simp [Str.length]
          rw [this]
          exact hz
        rw [e]
        exact ⟨hl, fin _ _ _ rfl (I.tok _)⟩
/-- * -/
def rMUL (K : Frg) : R2 := fun x y H Q => (rI CMul fun i j => .int (i * j)) x y H Q ∨ (rRepS x y H Q ∨ rRep x y H Q)
theorem op_MUL {X : Cx} : OpR X (binaryOp .Mult) (rMUL X.K) := op_mul.or (op_repS.or op_rep)
theorem ar_MULi {i j : Int} (c : CMul i j) (q : Q F ms (.int (i * j))) : AR K (rMUL K) (.int i) (.int j) F ms Q := ar_inl (ar_mulI c q)
theorem ar_MULs {z : Str} {n : Int} (h1 : n ≤ 100000) (h2 : -100000 ≤ n) (h3 : z.length * n.toNat ≤ 100000) (q : Q F ms (.str (mulS z n))) : AR K (rMUL K) (.str z) (.int n) F ms Q := ar_inr (ar_inl fun R u v H Qc hu hv hh k => by
  cases hu; cases hv
  exact ⟨z, n, rfl, rfl, h1, h2, h3, k F ms _ _ H Ex.refl hh (.str _) q⟩)
theorem repL_rep {xs : List D} {vs : List V} (r : RepL K F xs vs) : ∀ n : Nat, RepL K F (List.replicate n xs).flatten (List.replicate n vs).flatten
  | 0 => .nil
  | n + 1 => by
    rw [List.replicate_succ, List.replicate_succ, List.flatten_cons, List.flatten_cons]
    exact r.append (repL_rep r n)
theorem ar_MULl {xs : List D} {n : Int} (h1 : n ≤ 100000) (h2 : -100000 ≤ n) (h3 : xs.length * n.toNat ≤ 100000) (q : ∀ F', Ex F F' → Q F' ms (.lst (List.replicate n.toNat xs).flatten)) : AR K (rMUL K) (.lst xs) (.int n) F ms Q := ar_inr (ar_inr fun R u v H Qc hu hv hh k => by
  cases hv
  cases hu with
  | lst ha r1 =>
    refine ⟨_, n, _, rfl, rfl, hh.ex _ _ ha, by omega, by omega, Evl.sz_of (by rw [← r1.len]; exact h3), fun p hp => ?_⟩
    obtain ⟨e, hh'⟩ := hh.laid (.lst _) hp
    exact k _ ms _ _ _ e hh' (.lst upd_same ((repL_rep r1 _).mono e)) (q _ e))

/-! ### an item -/
theorem at_rep {ds : List D} {vs : List V} {i : Int} {d : D} (r : RepL K F ds vs) (h : atI ds i = some d) : ∃ v, atI vs i = some v ∧ Rep K F d v := by
  unfold atI at h ⊢
  rw [← r.len]
  cases e : ixN ds.length i with
  | none => rw [e] at h; cases h
  | some j => rw [e] at h; exact r.getD h
theorem ar_ixL {ds : List D} {i : Int} {d : D} (h : atI ds i = some d) (q : Q F ms d) : AR K (rIx K) (.lst ds) (.int i) F ms Q := fun R u v H Qc hu hv hh k => by
  cases hv
  cases hu with
  | lst ha r1 =>
    obtain ⟨w, hw, rw'⟩ := at_rep r1 h
    exact .inl ⟨_, _, i, w, rfl, rfl, SqL.of (hh.ex _ _ ha), hw, k F ms d w H Ex.refl hh rw' q⟩
theorem ar_ixR {ds : List D} {i : Int} {d : D} (h : atI ds i = some d) (q : Q F ms d) : AR K (rIx K) (.rdl ds) (.int i) F ms Q := fun R u v H Qc hu hv hh k => by
  cases hv
  cases hu with
  | rdl ha r1 =>
    obtain ⟨w, hw, rw'⟩ := at_rep r1 h
    exact .inl ⟨_, _, i, w, rfl, rfl, ex_l hh.ex ha, hw, k F ms d w H Ex.refl hh rw' q⟩
theorem get_app {i : Nat} {p : Addr × MO} {R : Ms} (h : ms[i]? = some p) : (ms ++ R)[i]? = some p := by
  rw [List.getElem?_append_left (List.getElem?_eq_some_iff.mp h).1]
  exact h
theorem set_app {i : Nat} {p p' : Addr × MO} {R : Ms} (h : ms[i]? = some p) : (ms ++ R).set i p' = ms.set i p' ++ R := List.set_append_left _ _ (List.getElem?_eq_some_iff.mp h).1
theorem ar_ixO {l : Addr} {ds : List D} {i : Int} {d : D} (n : Nat) (hn : ms[n]? = some (l, .lst ds)) (h : atI ds i = some d) (q : Q F ms d) : AR K (rIx K) (.ref l) (.int i) F ms Q := fun R u v H Qc hu hv hh k => by
  cases hv
  cases hu with
  | ref =>
    obtain ⟨_, vs, hl, r1⟩ := hh.at (get_app hn)
    obtain ⟨w, hw, rw'⟩ := at_rep r1 h
    exact .inl ⟨_, _, i, w, rfl, rfl, SqL.of hl, hw, k F ms d w H Ex.refl hh rw' q⟩
theorem ar_ixT {ds : List D} {i : Int} {d : D} (h : atI ds i = some d) (q : Q F ms d) : AR K (rIx K) (.tup ds) (.int i) F ms Q := fun R u v H Qc hu hv hh k => by
  cases hv
  cases hu with
  | tup ha r1 =>
    obtain ⟨w, hw, rw'⟩ := at_rep r1 h
    exact .inr (.inl ⟨_, _, i, w, rfl, rfl, ex_t hh.ex ha, hw, k F ms d w H Ex.refl hh rw' q⟩)
def sg (c : Nat) : Str := ⟨#[c]⟩
theorem ar_ixS {z : Str} {i : Int} {c : Nat} (hz : z.length ≤ 100000) (h : atI z.cps.toList i = some c) (q : Q F ms (.str (sg c))) : AR K (rIx K) (.str z) (.int i) F ms Q := fun R u v H Qc hu hv hh k => by
  cases hv
  cases hu with
  | str => exact .inr (.inr ⟨z, i, c, rfl, rfl, Evl.sz_of hz, h, k F ms _ _ H Ex.refl hh (.str _) q⟩)

/-! ### calls of built-ins -/
def rLEN (K : Frg) : List V → Hp → VK → Prop := fun xs H Q => ∃ x n, xs = [x] ∧ LenV K x H n ∧ Q (.int n) H
theorem call_LEN {X : Cx} : CallR X (.builtin "len") (rLEN X.K) := call_len
theorem ac1 {rc : List V → Hp → VK → Prop} {d : D} (h : ∀ (R : Ms) v H (Qc : VK), Rep K F d v → Hold K F (ms ++ R) H → (∀ F' ms' d v H', Ex F F' → Hold K F' (ms' ++ R) H' → Rep K F' d v → Q F' ms' d → Qc v H') → rc [v] H Qc) : AC K rc [d] F ms Q := fun R vs H Qc hv hh k => by
  cases hv with
  | cons h1 h2 =>
    cases h2
    exact h R _ H Qc h1 hh k
theorem ac_lenS {z : Str} (hz : z.length ≤ 100000) (q : Q F ms (.int z.length)) : AC K (rLEN K) [.str z] F ms Q := ac1 fun R v H Qc hv hh k => by
  cases hv
  exact ⟨_, z.length, rfl, ⟨Evl.sz_of hz, rfl⟩, k F ms _ _ H Ex.refl hh (.int _) q⟩
theorem ac_lenL {ds : List D} (q : Q F ms (.int ds.length)) : AC K (rLEN K) [.lst ds] F ms Q := ac1 fun R v H Qc hv hh k => by
  cases hv with
  | lst ha r => exact ⟨_, ds.length, rfl, .inl ⟨_, SqL.of (hh.ex _ _ ha), r.len⟩, k F ms _ _ H Ex.refl hh (.int _) q⟩
theorem ac_lenR {ds : List D} (q : Q F ms (.int ds.length)) : AC K (rLEN K) [.rdl ds] F ms Q := ac1 fun R v H Qc hv hh k => by
  cases hv with
  | rdl ha r => exact ⟨_, ds.length, rfl, .inl ⟨_, ex_l hh.ex ha, r.len⟩, k F ms _ _ H Ex.refl hh (.int _) q⟩
theorem ac_lenT {ds : List D} (q : Q F ms (.int ds.length)) : AC K (rLEN K) [.tup ds] F ms Q := ac1 fun R v H Qc hv hh k => by
  cases hv with
  | tup ha r => exact ⟨_, ds.length, rfl, .inr ⟨_, ex_t hh.ex ha, r.len⟩, k F ms _ _ H Ex.refl hh (.int _) q⟩
theorem ac_lenO {l : Addr} {ds : List D} (n : Nat) (hn : ms[n]? = some (l, .lst ds)) (q : Q F ms (.int ds.length)) : AC K (rLEN K) [.ref l] F ms Q := ac1 fun R v H Qc hv hh k => by
  cases hv with
  | ref =>
    obtain ⟨_, vs, hl, r⟩ := hh.at (get_app hn)
    exact ⟨_, ds.length, rfl, .inl ⟨_, SqL.of hl, r.len⟩, k F ms _ _ H Ex.refl hh (.int _) q⟩
end
end AL

set_option Elab.async false
set_option linter.all false
set_option maxRecDepth 100000
set_option maxHeartbeats 4000000
namespace AL
open PySem L2
theorem Hold.perm {K : Frg} {F H : Hp} {ms ms' : Ms} (h : Hold K F ms H) (p : ms'.Perm ms) : Hold K F ms' H :=
  ⟨h.ex, fun q hq => h.own q (p.mem_iff.mp hq), (p.map Prod.fst).nodup_iff.mpr h.nd⟩
section
variable {Γ : Cg} {K : Frg} {F : Hp} {ms : Ms} {S : Sg} {Q : QE} {ta tb te tx : TE} {t u : TT} {r : R2} {ts tu tw : TS} {A : AEnds}
/-! ### statements -/
theorem as_seq (h : AS Γ ts F ms S { A with nx := fun F' ms' S' => AS Γ tu F' ms' S' A }) : AS Γ (tSeq ts tu) F ms S A := fun R E σ H hs hh l =>
  h R { E with nx := tu E } σ H hs hh ⟨l.xe, fun F' ms' S' σ' H' e a b q => q R E σ' H' a b (l.ex e), l.rt, l.bk, l.ct⟩
theorem as_next (q : A.nx F ms S) : AS Γ tNext F ms S A := fun R E σ H hs hh l => l.nx F ms S σ H Ex.refl hs hh q
theorem as_break (q : A.bk F ms S) : AS Γ tBreak F ms S A := fun R E σ H hs hh l => l.bk F ms S σ H Ex.refl hs hh q
theorem as_cont (q : A.ct F ms S) : AS Γ tCont F ms S A := fun R E σ H hs hh l => l.ct F ms S σ H Ex.refl hs hh q
theorem as_drop (h : AE Γ te F ms S fun F' ms' _ => A.nx F' ms' S) : AS Γ (tDrop te) F ms S A := fun R E σ H hs hh l =>
  h R σ H _ hs hh l.xe fun F' ms' d v H' e ho hr q => l.nx F' ms' S σ H' e (hs.mono e) ho q
theorem as_ret (h : AE Γ te F ms S A.rt) : AS Γ (tRet te) F ms S A := fun R E σ H hs hh l => h R σ H _ hs hh l.xe fun F' ms' d v H' e ho hr q => l.rt F' ms' d v H' e ho hr q
theorem as_retN (q : A.rt F ms .non) : AS Γ tRetN F ms S A := fun R E σ H hs hh l => l.rt F ms .non .non H Ex.refl hh .non q
theorem as_if (h : AT Γ t F ms S fun F' ms' b => (b = true → AS Γ tu F' ms' S A) ∧ (b = false → AS Γ tw F' ms' S A)) : AS Γ (tIfS t tu tw) F ms S A := fun R E σ H hs hh l =>
  h R σ H _ hs hh l.xe fun F' ms' b H' e ho q => by
    cases b with
    | true => exact q.1 rfl R E σ H' (hs.mono e) ho (l.ex e)
    | false => exact q.2 rfl R E σ H' (hs.mono e) ho (l.ex e)
/-! ### targets -/
def AG (Γ : Cg) (g : TG) (d : D) (F : Hp) (ms : Ms) (S : Sg) (N : QS) : Prop := ∀ (R : Ms) v σ H (Nc : St → Hp → Prop), Rep Γ.K F d v → SRep Γ.K F S σ → Hold Γ.K F (ms ++ R) H → XLe Γ R F → (∀ F' ms' S' σ' H', Ex F F' → SRep Γ.K F' S' σ' → Hold Γ.K F' (ms' ++ R) H' → N F' ms' S' → Nc σ' H') → g v σ H Nc
def AGs (Γ : Cg) (g : TGs) (ds : List D) (F : Hp) (ms : Ms) (S : Sg) (N : QS) : Prop := ∀ (R : Ms) vs σ H (Nc : St → Hp → Prop), RepL Γ.K F ds vs → SRep Γ.K F S σ → Hold Γ.K F (ms ++ R) H → XLe Γ R F → (∀ F' ms' S' σ' H', Ex F F' → SRep Γ.K F' S' σ' → Hold Γ.K F' (ms' ++ R) H' → N F' ms' S' → Nc σ' H') → g vs σ H Nc
variable {g : TG} {gs : TGs} {N : QS}
theorem ag_name {i : Nat} {d : D} (q : N F ms (S.set i (some d))) : AG Γ (gName i) d F ms S N := fun R v σ H Nc hv hs hh x k => k F ms _ _ H Ex.refl (hs.set hv) hh q
theorem ags_nil (q : N F ms S) : AGs Γ gNil [] F ms S N := fun R vs σ H Nc hv hs hh x k => by
  cases hv
  exact ⟨rfl, k F ms S σ H Ex.refl hs hh q⟩
theorem ags_cons {d : D} {ds : List D} (h : AG Γ g d F ms S fun F' ms' S' => AGs Γ gs ds F' ms' S' N) : AGs Γ (gCons g gs) (d :: ds) F ms S N := fun R vs σ H Nc hv hs hh x k => by
  cases hv with
  | cons h1 h2 =>
    exact ⟨_, _, rfl, h R _ σ H _ h1 hs hh x fun F' ms' S' σ' H' e a b q => q R _ σ' H' Nc (h2.mono e) a b (x.ex e) fun F2 ms2 S2 σ2 H2 e2 a2 b2 q2 => k F2 ms2 S2 σ2 H2 (e.trans e2) a2 b2 q2⟩
theorem ag_tup {n : Nat} {ds : List D} (hn : ds.length = n) (h : AGs Γ gs ds F ms S N) : AG Γ (gTup Γ.K n gs) (.tup ds) F ms S N := fun R v σ H Nc hv hs hh x k => by
  cases hv with
  | tup h1 r1 => exact ⟨_, _, rfl, ex_t hh.ex h1, by rw [← r1.len]; exact hn, h R _ σ H Nc r1 hs hh x k⟩
theorem as_asgG (h : AE Γ te F ms S fun F' ms' d => AG Γ g d F' ms' S A.nx) : AS Γ (tAsg te g) F ms S A := fun R E σ H hs hh l =>
  h R σ H _ hs hh l.xe fun F' ms' d v H' e ho hr q => q R v σ H' _ hr (hs.mono e) ho (l.xe.ex e) fun F2 ms2 S2 σ2 H2 e2 a b q2 => l.nx F2 ms2 S2 σ2 H2 (e.trans e2) a b q2
theorem as_asg {i : Nat} (h : AE Γ te F ms S fun F' ms' d => A.nx F' ms' (S.set i (some d))) : AS Γ (tAsg te (gName i)) F ms S A := as_asgG (h.mono fun _ _ _ _ q => ag_name q)
theorem as_par {i j : Nat} {ta : TA} (h : AA Γ ta F ms S fun F' ms' ds => ∃ x y, ds = [x, y] ∧ A.nx F' ms' ((S.set i (some x)).set j (some y))) : AS Γ (tPar i j ta) F ms S A := fun R E σ H hs hh l =>
  h R σ H _ hs hh l.xe fun F' ms' ds vs H' e ho hr ⟨x, y, hd, q⟩ => by
    subst hd
    cases hr with
    | cons h1 h2 =>
      cases h2 with
      | cons h3 h4 =>
        cases h4
        exact ⟨_, _, rfl, l.nx F' ms' _ _ H' e (((hs.mono e).set h1).set h3) ho q⟩
theorem as_aug {i : Nat} {f : Int → Int → Int} {a : Int} (h0 : S[i]? = some (some (.int a))) (h : AE Γ te F ms S fun F' ms' d => ∃ b, d = .int b ∧ A.nx F' ms' (S.set i (some (.int (f a b))))) : AS Γ (tAug i te (ipI f)) F ms S A := fun R E σ H hs hh l => by
  obtain ⟨v, h1, h2⟩ := hs.2 i _ h0
  cases h2
  refine ⟨_, h1, h R σ H _ hs hh l.xe fun F' ms' d v H' e ho hr ⟨b, hd, q⟩ => ?_⟩
  subst hd
  cases hr
  exact ⟨a, b, rfl, rfl, l.nx F' ms' _ _ H' e ((hs.mono e).set (.int _)) ho q⟩
/-- an owned list's item is set -/
theorem ag_subO {to ti : TE} {d : D} (h : AE Γ to F ms S fun F1 ms1 o => AE Γ ti F1 ms1 S fun F2 ms2 i => ∃ (n : Nat) (l : Addr) (ds : List D) (z : Int) (j : Nat), o = .ref l ∧ i = .int z ∧ ms2[n]? = some (l, .lst ds) ∧ ixN ds.length z = some j ∧ N F2 (ms2.set n (l, .lst (ds.set j d))) S) :
    AG Γ (gSub to ti rSetL) d F ms S N := fun R v σ H Nc hv hs hh x k =>
  h R σ H _ hs hh x fun F1 ms1 o ov H1 e1 h1 r1 q1 => q1 R σ H1 _ (hs.mono e1) h1 (x.ex e1) fun F2 ms2 i iv H2 e2 h2 r2 ⟨n, l, ds, z, j, ho, hi, hn, hj, q⟩ => by
    subst ho hi
    cases r2
    cases r1
    obtain ⟨_, vs, hl, r⟩ := h2.at (get_app hn)
    refine ⟨l, vs, z, j, rfl, rfl, hl, by rw [← r.len]; exact hj, k F2 (ms2.set n (l, .lst (ds.set j d))) S σ _ (e1.trans e2) (hs.mono (e1.trans e2)) ?_ q⟩
    rw [← set_app hn]
    exact h2.set (get_app hn) ⟨_, upd_same, r.set (hv.mono (e1.trans e2)) j⟩
/-! ### owned things are dropped or freeze -/
theorem as_dropm (n : Nat) (h : AS Γ ts F (ms.eraseIdx n) S A) (hn : n < ms.length) : AS Γ ts F ms S A := fun R E σ H hs hh l => h R E σ H hs (by
  have := hh.drop n
  rw [List.eraseIdx_append_of_lt_length hn] at this
  exact this) l
theorem as_drop1 {p : Addr × MO} (h : AS Γ ts F ms S A) : AS Γ ts F (p :: ms) S A := as_dropm 0 h (Nat.zero_lt_succ _)
/-- the owned list of slot i freezes -/
theorem as_frz {i : Nat} {l : Addr} {ds : List D} (n : Nat) (hn : ms[n]? = some (l, .lst ds)) (hi : S[i]? = some (some (.ref l))) (h : ∀ F', Ex F F' → AS Γ ts F' (ms.eraseIdx n) (S.set i (some (.lst ds))) A) : AS Γ ts F ms S A := fun R E σ H hs hh k => by
  obtain ⟨_, vs, hl, r⟩ := hh.at (get_app hn)
  obtain ⟨o, ho, e, h2⟩ := hh.freeze (get_app hn)
  rw [hl] at ho
  cases ho
  rw [List.eraseIdx_append_of_lt_length (List.getElem?_eq_some_iff.mp hn).1] at h2
  refine h _ e R E σ H ((hs.mono e).re (fun v hv => ?_) hi) h2 (k.ex e)
  obtain ⟨v', h3, h4⟩ := hs.2 i _ hi
  rw [hv] at h3
  cases h3
  cases h4
  exact .lst upd_same (r.mono e)
/-- the owned dict of slot i freezes -/
theorem as_frzd {i : Nat} {l : Addr} {ds : List (Key × D)} (n : Nat) (hn : ms[n]? = some (l, .dic ds)) (hi : S[i]? = some (some (.ref l))) (h : ∀ F', Ex F F' → AS Γ ts F' (ms.eraseIdx n) (S.set i (some (.dic ds))) A) : AS Γ ts F ms S A := fun R E σ H hs hh k => by
  obtain ⟨_, vs, hl, r⟩ := hh.at (get_app hn)
  obtain ⟨o, ho, e, h2⟩ := hh.freeze (get_app hn)
  rw [hl] at ho
  cases ho
  rw [List.eraseIdx_append_of_lt_length (List.getElem?_eq_some_iff.mp hn).1] at h2
  refine h _ e R E σ H ((hs.mono e).re (fun v hv => ?_) hi) h2 (k.ex e)
  obtain ⟨v', h3, h4⟩ := hs.2 i _ hi
  rw [hv] at h3
  cases h3
  cases h4
  exact .dic upd_same (r.mono e)
/-- at a value: the list that is handed on freezes -/
theorem ae_frz (h : AE Γ te F ms S fun F' ms' d => ∃ (n : Nat) (l : Addr) (ds : List D), d = .ref l ∧ ms'[n]? = some (l, .lst ds) ∧ ∀ F2, Ex F' F2 → Q F2 (ms'.eraseIdx n) (.lst ds)) : AE Γ te F ms S Q := fun R σ H Qc hs hh x k =>
  h R σ H _ hs hh x fun F' ms' d v H' e ho hr ⟨n, l, ds, hd, hn, q⟩ => by
    subst hd
    cases hr
    obtain ⟨_, vs, hl, r⟩ := ho.at (get_app hn)
    obtain ⟨o, ho', e2, h2⟩ := ho.freeze (get_app hn)
    rw [hl] at ho'
    cases ho'
    rw [List.eraseIdx_append_of_lt_length (List.getElem?_eq_some_iff.mp hn).1] at h2
    exact k _ _ (.lst ds) _ H' (e.trans e2) h2 (.lst upd_same (r.mono e2)) (q _ e2)
theorem ae_frzd (h : AE Γ te F ms S fun F' ms' d => ∃ (n : Nat) (l : Addr) (ds : List (Key × D)), d = .ref l ∧ ms'[n]? = some (l, .dic ds) ∧ ∀ F2, Ex F' F2 → Q F2 (ms'.eraseIdx n) (.dic ds)) : AE Γ te F ms S Q := fun R σ H Qc hs hh x k =>
  h R σ H _ hs hh x fun F' ms' d v H' e ho hr ⟨n, l, ds, hd, hn, q⟩ => by
    subst hd
    cases hr
    obtain ⟨_, vs, hl, r⟩ := ho.at (get_app hn)
    obtain ⟨o, ho', e2, h2⟩ := ho.freeze (get_app hn)
    rw [hl] at ho'
    cases ho'
    rw [List.eraseIdx_append_of_lt_length (List.getElem?_eq_some_iff.mp hn).1] at h2
    exact k _ _ (.dic ds) _ H' (e.trans e2) h2 (.dic upd_same (r.mono e2)) (q _ e2)
/-- .. and owned things are dropped behind a value -/
theorem ae_dropm (h : AE Γ te F ms S fun F' ms' d => ∃ n, n < ms'.length ∧ Q F' (ms'.eraseIdx n) d) : AE Γ te F ms S Q := fun R σ H Qc hs hh x k =>
  h R σ H _ hs hh x fun F' ms' d v H' e ho hr ⟨n, hn, q⟩ => k F' (ms'.eraseIdx n) d v H' e (by
    have := ho.drop n
    rw [List.eraseIdx_append_of_lt_length hn] at this
    exact this) hr q
/-! ### frames: what a call does not see -/
theorem ae_framed {ms1 ms2 : Ms} {Ea : XA} (hE : ∀ C fs F' ms', Ea C fs F' ms' → Γ.Ea C fs F' (ms' ++ ms2)) (h : AE { Γ with Ea := Ea } te F ms1 S fun F' ms' d => Q F' (ms' ++ ms2) d) : AE Γ te F (ms1 ++ ms2) S Q := fun R σ H Qc hs hh x k =>
  h (ms2 ++ R) σ H Qc hs (by rw [← List.append_assoc]; exact hh) (fun F' ms' C dx fs H' e ho hx he => x F' (ms' ++ ms2) C dx fs H' e (by rw [List.append_assoc]; exact ho) hx (hE C fs F' ms' he)) fun F' ms' d v H' e ho hr q => k F' (ms' ++ ms2) d v H' e (by rw [List.append_assoc]; exact ho) hr q

/-! ### what is walked -/
structure ItD (K : Frg) (J : It) (F : Hp) (G : Ms → Prop) (ds : List D) : Prop where
  goes : ∀ (R : Ms) i H F' ms', i < ds.length → Ex F F' → Hold K F' (ms' ++ R) H → G ms' → J.go i H
  stops : ∀ (R : Ms) H F' ms', Ex F F' → Hold K F' (ms' ++ R) H → G ms' → J.stop ds.length H
  yields : ∀ (R : Ms) i H x H' F' ms', i < ds.length → Ex F F' → Hold K F' (ms' ++ R) H → G ms' → J.yld i H x H' → ∃ F'' d, Ex F' F'' ∧ Hold K F'' (ms' ++ R) H' ∧ ds[i]? = some d ∧ Rep K F'' d x
def AI (Γ : Cg) (wi : TI) (F : Hp) (ms : Ms) (S : Sg) (P : Hp → Ms → List D → (Ms → Prop) → Prop) : Prop := ∀ (R : Ms) σ H (Rc : It → Hp → Prop), SRep Γ.K F S σ → Hold Γ.K F (ms ++ R) H → XLe Γ R F →
  (∀ F' ms' ds G J H', Ex F F' → Hold Γ.K F' (ms' ++ R) H' → ItD Γ.K J F' G ds → P F' ms' ds G → Rc J H') → wi σ H Rc
theorem as_for {wi : TI} (h : AI Γ wi F ms S fun F1 ms1 ds G => ∃ I : Nat → Hp → Ms → Sg → Prop, I 0 F1 ms1 S ∧ (∀ i F' ms' S', Ex F1 F' → I i F' ms' S' → G ms') ∧
    (∀ i d F' ms' S', Ex F1 F' → ds[i]? = some d → I i F' ms' S' → ∀ F'', Ex F' F'' → AG Γ g d F'' ms' S' fun F2 ms2 S2 => AS Γ tu F2 ms2 S2 { A with nx := I (i + 1), ct := I (i + 1), bk := A.nx }) ∧
    (∀ F' ms' S', Ex F1 F' → I ds.length F' ms' S' → A.nx F' ms' S')) : AS Γ (tFor wi g tu) F ms S A := fun R E σ H hs hh l =>
  h R σ H _ hs hh l.xe fun F1 ms1 ds G J H1 e1 h1 it ⟨I, i0, iG, ib, ie⟩ => by
    refine ⟨fun i m σ' H' => m = ds.length - i ∧ i ≤ ds.length ∧ ∃ F' ms' S', Ex F1 F' ∧ SRep Γ.K F' S' σ' ∧ Hold Γ.K F' (ms' ++ R) H' ∧ I i F' ms' S', ⟨_, rfl, Nat.zero_le _, F1, ms1, S, Ex.refl, hs.mono e1, h1, i0⟩, ?_⟩
    rintro i m σ' H' ⟨rfl, hi, F', ms', S', e', hs', hh', p⟩
    have hG := iG i F' ms' S' e' p
    by_cases hlt : i < ds.length
    · refine .inr ⟨it.goes R i H' F' ms' hlt e' hh' hG, fun σ2 H2 => ∃ F2 ms2 S2, Ex F1 F2 ∧ SRep Γ.K F2 S2 σ2 ∧ Hold Γ.K F2 (ms2 ++ R) H2 ∧ I (i + 1) F2 ms2 S2, fun σ2 H2 ⟨F2, ms2, S2, e2, a2, b2, q2⟩ => ⟨ds.length - (i + 1), by omega, rfl, hlt, F2, ms2, S2, e2, a2, b2, q2⟩, fun x H2 y => ?_⟩
      obtain ⟨F2, d, e2, hh2, hd, hr⟩ := it.yields R i H' x H2 F' ms' hlt e' hh' hG y
      refine ib i d F' ms' S' e' hd p F2 e2 R x σ' H2 _ hr (hs'.mono e2) hh2 (l.xe.ex ((e1.trans e').trans e2)) fun F3 ms3 S3 σ3 H3 e3 a3 b3 q3 => ?_
      refine q3 R _ σ3 H3 a3 b3 ⟨l.xe.ex (((e1.trans e').trans e2).trans e3), fun F4 ms4 S4 σ4 H4 e4 a4 b4 q4 => ⟨F4, ms4, S4, ((e'.trans e2).trans e3).trans e4, a4, b4, q4⟩, fun F4 ms4 d4 v4 H4 e4 b4 r4 q4 => l.rt F4 ms4 d4 v4 H4 ((((e1.trans e').trans e2).trans e3).trans e4) b4 r4 q4,
        fun F4 ms4 S4 σ4 H4 e4 a4 b4 q4 => l.nx F4 ms4 S4 σ4 H4 ((((e1.trans e').trans e2).trans e3).trans e4) a4 b4 q4, fun F4 ms4 S4 σ4 H4 e4 a4 b4 q4 => ⟨F4, ms4, S4, ((e'.trans e2).trans e3).trans e4, a4, b4, q4⟩⟩
    · have ei : i = ds.length := by omega
      subst ei
      exact .inl ⟨it.stops R H' F' ms' e' hh' hG, l.nx F' ms' S' σ' H' (e1.trans e') hs' hh' (ie F' ms' S' e' p)⟩
theorem as_while (I : Nat → Hp → Ms → Sg → Prop) (m0 : Nat) (h0 : I m0 F ms S) (hb : ∀ m F' ms' S', Ex F F' → I m F' ms' S' → AT Γ t F' ms' S' fun F2 ms2 b => (b = true → AS Γ tu F2 ms2 S' { A with nx := fun F3 ms3 S3 => ∃ m', m' < m ∧ I m' F3 ms3 S3, ct := fun F3 ms3 S3 => ∃ m', m' < m ∧ I m' F3 ms3 S3, bk := A.nx }) ∧ (b = false → A.nx F2 ms2 S')) :
    AS Γ (tWhile t tu) F ms S A := fun R E σ H hs hh l => by
  refine ⟨fun m σ' H' => ∃ F' ms' S', Ex F F' ∧ SRep Γ.K F' S' σ' ∧ Hold Γ.K F' (ms' ++ R) H' ∧ I m F' ms' S', ⟨m0, F, ms, S, Ex.refl, hs, hh, h0⟩, ?_⟩
  rintro m σ' H' ⟨F', ms', S', e', hs', hh', p⟩
  refine hb m F' ms' S' e' p R σ' H' _ hs' hh' (l.xe.ex e') fun F2 ms2 b H2 e2 hh2 q => ?_
  cases b with
  | true =>
    refine ⟨fun σ3 H3 => ∃ m', m' < m ∧ ∃ F' ms' S', Ex F F' ∧ SRep Γ.K F' S' σ3 ∧ Hold Γ.K F' (ms' ++ R) H3 ∧ I m' F' ms' S', fun σ3 H3 z => z, ?_⟩
    exact q.1 rfl R _ σ' H2 (hs'.mono e2) hh2 ⟨l.xe.ex (e'.trans e2), fun F4 ms4 S4 σ4 H4 e4 a4 b4 ⟨m', lt, q4⟩ => ⟨m', lt, F4, ms4, S4, (e'.trans e2).trans e4, a4, b4, q4⟩, fun F4 ms4 d4 v4 H4 e4 b4 r4 q4 => l.rt F4 ms4 d4 v4 H4 ((e'.trans e2).trans e4) b4 r4 q4,
      fun F4 ms4 S4 σ4 H4 e4 a4 b4 q4 => l.nx F4 ms4 S4 σ4 H4 ((e'.trans e2).trans e4) a4 b4 q4, fun F4 ms4 S4 σ4 H4 e4 a4 b4 ⟨m', lt, q4⟩ => ⟨m', lt, F4, ms4, S4, (e'.trans e2).trans e4, a4, b4, q4⟩⟩
  | false => exact l.nx F2 ms2 S' σ' H2 (e'.trans e2) (hs'.mono e2) hh2 (q.2 rfl)
variable {P : Hp → Ms → List D → (Ms → Prop) → Prop}
/-- over a list: frozen, the script, or an owned one -/
theorem ai_list {tl : TE} (h : AE Γ tl F ms S fun F1 ms1 d => (∃ ds : List D, (d = .lst ds ∨ d = .rdl ds) ∧ P F1 ms1 ds fun _ => True) ∨ ∃ (n : Nat) (l : Addr) (ds : List D), d = .ref l ∧ ms1[n]? = some (l, MO.lst ds) ∧ P F1 ms1 ds fun ms' => ∃ n : Nat, ms'[n]? = some (l, MO.lst ds)) : AI Γ (iList Γ.K tl) F ms S P := fun R σ H Rc hs hh x k =>
  h R σ H _ hs hh x fun F1 ms1 d v H1 e1 h1 r1 q => by
    rcases q with ⟨ds, hd, p⟩ | ⟨n, l, ds, hd, hn, p⟩
    · obtain ⟨a, xs, rfl, hq, rl⟩ : ∃ a xs, v = .ref a ∧ SqL Γ.K F1 a xs ∧ RepL Γ.K F1 ds xs := by
        rcases hd with rfl | rfl
        · cases r1 with
          | lst ha r => exact ⟨_, _, rfl, SqL.of ha, r⟩
        · cases r1 with
          | rdl ha r => exact ⟨_, _, rfl, ha, r⟩
      refine ⟨a, rfl, ⟨xs, ex_l h1.ex hq⟩, k F1 ms1 ds (fun _ => True) _ H1 e1 h1 ⟨fun _ i H' F' ms' hi e' hh' _ => ?_, fun _ H' F' ms' e' hh' _ => ?_, fun _ i H' x H2 F' ms' hi e' hh' _ y => ?_⟩ p⟩
      · exact ⟨xs, xs[i]'(by rw [← rl.len]; exact hi), ex_l hh'.ex (ex_l e' hq), by simp [show i < xs.length by rw [← rl.len]; exact hi]⟩
      · exact ⟨xs, ex_l hh'.ex (ex_l e' hq), by rw [rl.len]; exact Nat.le_refl _⟩
      · obtain ⟨y1, y2⟩ := y
        subst y1
        obtain ⟨d, hd, rd⟩ := rl.get (y2 xs (ex_l hh'.ex (ex_l e' hq)))
        exact ⟨F', d, Ex.refl, hh', hd, rd.mono e'⟩
    · subst hd
      cases r1
      obtain ⟨_, xs, hl, rl⟩ := h1.at (get_app hn)
      refine ⟨l, rfl, ⟨xs, SqL.of hl⟩, k F1 ms1 ds _ _ H1 e1 h1 ⟨fun _ i H' F' ms' hi e' hh' ⟨n', hn'⟩ => ?_, fun _ H' F' ms' e' hh' ⟨n', hn'⟩ => ?_, fun _ i H' x H2 F' ms' hi e' hh' ⟨n', hn'⟩ y => ?_⟩ p⟩
      · obtain ⟨_, xs', hl', rl'⟩ := hh'.at (get_app hn')
        exact ⟨xs', xs'[i]'(by rw [← rl'.len]; exact hi), SqL.of hl', by simp [show i < xs'.length by rw [← rl'.len]; exact hi]⟩
      · obtain ⟨_, xs', hl', rl'⟩ := hh'.at (get_app hn')
        exact ⟨xs', SqL.of hl', by rw [rl'.len]; exact Nat.le_refl _⟩
      · obtain ⟨_, xs', hl', rl'⟩ := hh'.at (get_app hn')
        obtain ⟨y1, y2⟩ := y
        subst y1
        obtain ⟨d, hd, rd⟩ := rl'.get (y2 xs' (SqL.of hl'))
        exact ⟨F', d, Ex.refl, hh', hd, rd⟩
theorem ai_tup {tl : TE} (h : AE Γ tl F ms S fun F1 ms1 d => ∃ ds, d = .tup ds ∧ P F1 ms1 ds fun _ => True) : AI Γ (iTup Γ.K tl) F ms S P := fun R σ H Rc hs hh x k =>
  h R σ H _ hs hh x fun F1 ms1 d v H1 e1 h1 r1 ⟨ds, hd, p⟩ => by
    subst hd
    cases r1 with
    | @tup a xs _ hq rl =>
      refine ⟨a, rfl, ⟨xs, ex_t h1.ex hq⟩, k F1 ms1 ds (fun _ => True) _ H1 e1 h1 ⟨fun _ i H' F' ms' hi e' hh' _ => ?_, fun _ H' F' ms' e' hh' _ => ?_, fun _ i H' x H2 F' ms' hi e' hh' _ y => ?_⟩ p⟩
      · exact ⟨xs, xs[i]'(by rw [← rl.len]; exact hi), ex_t hh'.ex (ex_t e' hq), by simp [show i < xs.length by rw [← rl.len]; exact hi]⟩
      · exact ⟨xs, ex_t hh'.ex (ex_t e' hq), by rw [rl.len]; exact Nat.le_refl _⟩
      · obtain ⟨y1, y2⟩ := y
        subst y1
        obtain ⟨d, hd, rd⟩ := rl.get (y2 xs (ex_t hh'.ex (ex_t e' hq)))
        exact ⟨F', d, Ex.refl, hh', hd, rd.mono e'⟩
def rangeD (lo : Int) (n : Nat) : List D := (List.range n).map fun i => .int (lo + (i : Nat))
theorem rangeD_len (lo : Int) (n : Nat) : (rangeD lo n).length = n := by unfold rangeD; rw [List.length_map, List.length_range]
theorem rangeD_get {lo : Int} {n i : Nat} (h : i < n) : (rangeD lo n)[i]? = some (.int (lo + (i : Nat))) := by
  unfold rangeD
  rw [List.getElem?_map, List.getElem?_range h]
  rfl
theorem it_range {lo : Int} {n : Nat} {F1 : Hp} : ItD K (Itr lo n) F1 (fun _ => True) (rangeD lo n) where
  goes := fun _ i H F' ms' hi _ _ _ => by rw [rangeD_len] at hi; exact hi
  stops := fun _ H F' ms' _ _ _ => by rw [rangeD_len]; exact Nat.le_refl _
  yields := fun _ i H x H' F' ms' hi _ hh' _ y => by
    rw [rangeD_len] at hi
    obtain ⟨y1, y2⟩ := y
    subst y1 y2
    exact ⟨F', _, Ex.refl, hh', rangeD_get hi, .int _⟩
theorem ai_rng1 {ta : TA} (h : AA Γ ta F ms S fun F1 ms1 ds => ∃ n : Int, ds = [.int n] ∧ n < 2 ^ 62 ∧ -(2 ^ 62) ≤ n ∧ P F1 ms1 (rangeD 0 n.toNat) fun _ => True) : AI Γ (iRng1 ta) F ms S P := fun R σ H Rc hs hh x k =>
  h R σ H _ hs hh x fun F1 ms1 ds vs H1 e1 h1 r1 ⟨n, hd, n1, n2, p⟩ => by
    subst hd
    cases r1 with
    | cons a b =>
      cases b
      cases a
      exact ⟨n, rfl, n2, n1, k F1 ms1 _ _ _ H1 e1 h1 it_range p⟩
theorem ai_rng2 {ta : TA} (h : AA Γ ta F ms S fun F1 ms1 ds => ∃ m n : Int, ds = [.int m, .int n] ∧ (-(2 ^ 62) ≤ m ∧ m < 2 ^ 62 ∧ -(2 ^ 62) ≤ n ∧ n < 2 ^ 62) ∧ P F1 ms1 (rangeD m (n - m).toNat) fun _ => True) : AI Γ (iRng2 ta) F ms S P := fun R σ H Rc hs hh x k =>
  h R σ H _ hs hh x fun F1 ms1 ds vs H1 e1 h1 r1 ⟨m, n, hd, n1, p⟩ => by
    subst hd
    cases r1 with
    | cons a b =>
      cases b with
      | cons b c =>
        cases c
        cases a
        cases b
        exact ⟨m, n, rfl, n1, k F1 ms1 _ _ _ H1 e1 h1 it_range p⟩
def charsD (z : Str) : List D := z.cps.toList.map fun c => .str (sg c)
theorem ai_str {te : TE} (h : AE Γ te F ms S fun F1 ms1 d => ∃ z, d = .str z ∧ P F1 ms1 (charsD z) fun _ => True) : AI Γ (iStr te) F ms S P := fun R σ H Rc hs hh x k =>
  h R σ H _ hs hh x fun F1 ms1 d v H1 e1 h1 r1 ⟨z, hd, p⟩ => by
    subst hd
    cases r1
    have hl : (charsD z).length = z.cps.size := by unfold charsD; rw [List.length_map, Array.length_toList]
    refine ⟨z, rfl, k F1 ms1 (charsD z) (fun _ => True) _ H1 e1 h1 ⟨fun _ i H' F' ms' hi e' hh' _ => by rw [hl] at hi; exact hi, fun _ H' F' ms' e' hh' _ => by rw [hl]; exact Nat.le_refl _, fun _ i H' x H2 F' ms' hi e' hh' _ y => ?_⟩ p⟩
    obtain ⟨y1, c, y2, y3⟩ := y
    subst y1 y3
    refine ⟨F', _, Ex.refl, hh', ?_, .str _⟩
    unfold charsD
    rw [List.getElem?_map, Array.getElem?_toList, y2]
    rfl
end
end AL

set_option Elab.async false
set_option linter.all false
set_option maxRecDepth 100000
set_option maxHeartbeats 4000000
namespace AL
open PySem L2
/-! ### comprehensions -/
theorem wipe_get (σ : St) (j : Nat) : ∀ vs : List Nat, (L2.wipe σ vs)[j]? = if j ∈ vs then σ[j]?.map (fun _ => none) else σ[j]?
  | [] => by simp [L2.wipe]
  | v :: vs => by
    unfold L2.wipe
    by_cases h : v = j
    · subst h
      rw [List.getElem?_set]
      simp only [if_true, List.mem_cons, true_or, wipe_length]
      by_cases hl : v < σ.length
      · rw [if_pos hl, List.getElem?_eq_getElem hl]; rfl
      · rw [if_neg hl, List.getElem?_eq_none (by omega)]; rfl
    · rw [List.getElem?_set_ne h, wipe_get σ j vs]
      have e : (j ∈ v :: vs) ↔ j ∈ vs := by simp [Ne.symm h]
      simp only [e]
theorem wipe_set {σ : St} {i : Nat} {x : Option V} {vs : List Nat} (h : i ∈ vs) : L2.wipe (σ.set i x) vs = L2.wipe σ vs := by
  apply List.ext_getElem?
  intro j
  rw [wipe_get, wipe_get]
  by_cases e : i = j
  · subst e
    rw [if_pos h, if_pos h, List.getElem?_set]
    simp only [if_true]
    by_cases hl : i < σ.length
    · rw [if_pos hl, List.getElem?_eq_getElem hl]; rfl
    · rw [if_neg hl, List.getElem?_eq_none (by omega)]
  · rw [List.getElem?_set_ne e]
theorem wipe_wipe (σ : St) (vs : List Nat) : L2.wipe (L2.wipe σ vs) vs = L2.wipe σ vs := by
  apply List.ext_getElem?
  intro j
  rw [wipe_get, wipe_get]
  split
  · cases σ[j]? <;> rfl
  · rfl
/-- a target that stores in the block's own slots alone -/
def GW (g : TG) (vs : List Nat) : Prop := ∀ v σ H N τ, L2.wipe σ vs = τ → g v σ H N → g v σ H fun σ2 H2 => N σ2 H2 ∧ L2.wipe σ2 vs = τ
def GWs (g : TGs) (vs : List Nat) : Prop := ∀ xs σ H N τ, L2.wipe σ vs = τ → g xs σ H N → g xs σ H fun σ2 H2 => N σ2 H2 ∧ L2.wipe σ2 vs = τ
theorem gw_name {i : Nat} {vs : List Nat} (h : i ∈ vs) : GW (gName i) vs := fun v σ H N τ e q => ⟨q, by rw [wipe_set h]; exact e⟩
theorem gws_nil {vs : List Nat} : GWs gNil vs := fun xs σ H N τ e q => ⟨q.1, q.2, e⟩
theorem gws_cons {g : TG} {gs : TGs} {vs : List Nat} (gm : ∀ v σ H N N', (∀ σ2 H2, N σ2 H2 → N' σ2 H2) → g v σ H N → g v σ H N') (h : GW g vs) (hs : GWs gs vs) : GWs (gCons g gs) vs := fun xs σ H N τ e ⟨v, r, hx, q⟩ =>
  ⟨v, r, hx, gm v σ H _ _ (fun σ2 H2 ⟨a, b⟩ => hs r σ2 H2 N τ b a) (h v σ H _ τ e q)⟩
theorem gm_name {i : Nat} : ∀ v σ H N N', (∀ σ2 H2, N σ2 H2 → N' σ2 H2) → gName i v σ H N → gName i v σ H N' := fun v σ H N N' m q => m _ _ q
theorem gms_nil : ∀ v σ H N N', (∀ σ2 H2, N σ2 H2 → N' σ2 H2) → gNil v σ H N → gNil v σ H N' := fun v σ H N N' m q => ⟨q.1, m _ _ q.2⟩
theorem gms_cons {g : TG} {gs : TGs} (gm : ∀ v σ H N N', (∀ σ2 H2, N σ2 H2 → N' σ2 H2) → g v σ H N → g v σ H N') (gsm : ∀ v σ H N N', (∀ σ2 H2, N σ2 H2 → N' σ2 H2) → gs v σ H N → gs v σ H N') : ∀ v σ H N N', (∀ σ2 H2, N σ2 H2 → N' σ2 H2) → gCons g gs v σ H N → gCons g gs v σ H N' :=
  fun v σ H N N' m ⟨x, r, hx, q⟩ => ⟨x, r, hx, gm x σ H _ _ (fun σ2 H2 q2 => gsm r σ2 H2 N N' m q2) q⟩
theorem gm_tup {K : Frg} {n : Nat} {gs : TGs} (gsm : ∀ v σ H N N', (∀ σ2 H2, N σ2 H2 → N' σ2 H2) → gs v σ H N → gs v σ H N') : ∀ v σ H N N', (∀ σ2 H2, N σ2 H2 → N' σ2 H2) → gTup K n gs v σ H N → gTup K n gs v σ H N' :=
  fun v σ H N N' m ⟨a, xs, e, h1, h2, q⟩ => ⟨a, xs, e, h1, h2, gsm xs σ H N N' m q⟩
theorem gw_tup {K : Frg} {n : Nat} {gs : TGs} {vs : List Nat} (h : GWs gs vs) : GW (gTup K n gs) vs := fun v σ H N τ e ⟨a, xs, hv, h1, h2, q⟩ => ⟨a, xs, hv, h1, h2, h xs σ H N τ e q⟩
/-- nothing may be raised -/
abbrev Cg.nox (Γ : Cg) : Cg := { Γ with E := E0, Ea := fun _ _ _ _ => False }
theorem xle0 {Γ : Cg} {R : Ms} {F : Hp} : XLe Γ.nox R F := fun _ _ _ _ _ _ _ _ _ h => h.elim
section
variable {Γ : Cg} {K : Frg} {F : Hp} {ms : Ms} {S : Sg} {Q : QE} {ta tb te tx : TE} {t u tt : TT} {r : R2} {ts tu tw : TS} {A : AEnds} {g : TG} {wi : TI} {vs : List Nat}
theorem mid_get {ms R : Ms} {p : Addr × MO} : (ms ++ p :: R)[ms.length]? = some p := by rw [List.getElem?_append_right (Nat.le_refl _), Nat.sub_self]; rfl
theorem mid_erase {ms R : Ms} {p : Addr × MO} : (ms ++ p :: R).eraseIdx ms.length = ms ++ R := by rw [List.eraseIdx_append_of_length_le (Nat.le_refl _), Nat.sub_self]; rfl
theorem mid_set {ms R : Ms} {p q : Addr × MO} : (ms ++ p :: R).set ms.length q = ms ++ q :: R := by rw [List.set_append_right _ _ (Nat.le_refl _), Nat.sub_self]; rfl
theorem ae_lc (hg : GW g vs) (gm : ∀ v σ H N N', (∀ σ2 H2, N σ2 H2 → N' σ2 H2) → g v σ H N → g v σ H N') (h : AI Γ wi F ms S fun F1 ms1 ds G => ∃ I : Nat → Hp → Ms → List D → Prop, I 0 F1 ms1 [] ∧ (∀ i F' ms' acc, Ex F1 F' → I i F' ms' acc → G ms') ∧
    (∀ i d F' ms' acc, Ex F1 F' → ds[i]? = some d → I i F' ms' acc → ∀ F'', Ex F' F'' → AG Γ.nox g d F'' ms' (wipeS S vs) fun F2 ms2 S2 => AT Γ.nox tt F2 ms2 S2 fun F3 ms3 b => (b = true → AE Γ.nox te F3 ms3 S2 fun F4 ms4 y => acc.length < 100000 ∧ I (i + 1) F4 ms4 (acc ++ [y])) ∧ (b = false → I (i + 1) F3 ms3 acc)) ∧
    (∀ F' ms' acc, Ex F1 F' → I ds.length F' ms' acc → ∀ F'', Ex F' F'' → Q F'' ms' (.lst acc))) : AE Γ (tLc wi g tt te vs) F ms S Q := fun R σ H Qc hs hh x k =>
  h R σ H _ hs hh x fun F1 ms1 ds G J H1 e1 h1 it ⟨I, i0, iG, ib, ie⟩ => by
    intro D hD
    refine ⟨fun i m H' => m = ds.length - i ∧ i ≤ ds.length ∧ ∃ F' ms' acc, Ex F1 F' ∧ Hold Γ.K F' (ms' ++ (D, .lst acc) :: R) H' ∧ I i F' ms' acc, ⟨_, rfl, Nat.zero_le _, F1, ms1, [], Ex.refl, ?_, i0⟩, ?_⟩
    · exact (h1.made (m := .lst []) hD ⟨[], upd_same, .nil⟩).perm List.perm_middle
    rintro i m H' ⟨rfl, hi, F', ms', acc, e', hh', p⟩
    have hG := iG i F' ms' acc e' p
    by_cases hlt : i < ds.length
    · refine .inr ⟨it.goes _ i H' F' ms' hlt e' hh' hG, fun H2 => ∃ F2 ms2 acc2, Ex F1 F2 ∧ Hold Γ.K F2 (ms2 ++ (D, .lst acc2) :: R) H2 ∧ I (i + 1) F2 ms2 acc2, fun H2 ⟨F2, ms2, acc2, e2, b2, q2⟩ => ⟨ds.length - (i + 1), by omega, rfl, hlt, F2, ms2, acc2, e2, b2, q2⟩, fun x H2 y => ?_⟩
      obtain ⟨F2, d, e2, hh2, hd, hr⟩ := it.yields _ i H' x H2 F' ms' hlt e' hh' hG y
      refine gm x _ H2 _ _ (fun σ2 H3 z => ⟨z.2, z.1⟩) (hg x _ H2 _ _ (wipe_wipe σ vs) ?_)
      refine ib i d F' ms' acc e' hd p F2 e2 _ x (L2.wipe σ vs) H2 _ hr (((hs.mono e1).mono (e'.trans e2)).wipe vs) hh2 xle0 fun F3 ms3 S3 σ3 H3 e3 a3 b3 q3 => ?_
      refine q3 _ σ3 H3 _ a3 b3 xle0 fun F4 ms4 b H4 e4 b4 q4 => ?_
      cases b with
      | true =>
        refine q4.1 rfl _ σ3 H4 _ (a3.mono e4) b4 xle0 fun F5 ms5 d5 v5 H5 e5 b5 r5 q5 => ?_
        obtain ⟨_, vs5, hl, rl⟩ := b5.at mid_get
        refine ⟨vs5, hl, Evl.sz_lt (by rw [← rl.len]; exact q5.1), F5, ms5, acc ++ [d5], (((e'.trans e2).trans e3).trans e4).trans e5, ?_, q5.2⟩
        have := b5.set (m' := .lst (acc ++ [d5])) (o := .lst (vs5 ++ [v5])) mid_get ⟨_, upd_same, rl.append (RepL.one r5)⟩
        rw [mid_set] at this
        exact this
      | false => exact ⟨F4, ms4, acc, ((e'.trans e2).trans e3).trans e4, b4, q4.2 rfl⟩
    · have ei : i = ds.length := by omega
      subst ei
      refine .inl ⟨it.stops _ H' F' ms' e' hh' hG, ?_⟩
      obtain ⟨_, vsD, hl, rl⟩ := hh'.at mid_get
      obtain ⟨o, ho, e2, h2⟩ := hh'.freeze mid_get
      rw [hl] at ho
      cases ho
      rw [mid_erase] at h2
      exact k _ ms' (.lst acc) _ H' ((e1.trans e').trans e2) h2 (.lst upd_same (rl.mono e2)) (ie F' ms' acc e' p _ e2)

/-! ### defs -/
abbrev ASp := List D → Hp → Ms → QE → XA → Prop
def toSp (K : Frg) (sp : ASp) : Sp := fun vs H Q E => ∃ F ms R ds Qa Ea, Hold K F (ms ++ R) H ∧ RepL K F ds vs ∧ sp ds F ms Qa Ea ∧ (∀ F' ms' d v H', Ex F F' → Hold K F' (ms' ++ R) H' → Rep K F' d v → Qa F' ms' d → Q v H') ∧ XLe ⟨K, E, Ea⟩ R F
theorem ae_call {sp : ASp} {ta : TA} (h : AA Γ ta F ms S fun F1 ms1 ds => sp ds F1 ms1 Q Γ.Ea) : AE Γ (tCall (toSp Γ.K sp) [] Γ.E ta) F ms S Q := fun R σ H Qc hs hh x k =>
  h R σ H _ hs hh x fun F1 ms1 ds vs H1 e1 h1 r1 q1 => by
    show toSp Γ.K sp (vs ++ []) H1 Qc Γ.E
    rw [List.append_nil]
    exact ⟨F1, ms1, R, ds, Q, Γ.Ea, h1, r1, q1, fun F' ms' d v H' e => k F' ms' d v H' (e1.trans e), x.ex e1⟩
/-- with defaults -/
theorem ae_callD {sp : ASp} {ta : TA} {dvs : List V} {dds : List D} (hd : ∀ F, RepL Γ.K F dds dvs) (h : AA Γ ta F ms S fun F1 ms1 ds => sp (ds ++ dds) F1 ms1 Q Γ.Ea) : AE Γ (tCall (toSp Γ.K sp) dvs Γ.E ta) F ms S Q := fun R σ H Qc hs hh x k =>
  h R σ H _ hs hh x fun F1 ms1 ds vs H1 e1 h1 r1 q1 => ⟨F1, ms1, R, ds ++ dds, Q, Γ.Ea, h1, r1.append (hd F1), q1, fun F' ms' d v H' e => k F' ms' d v H' (e1.trans e), x.ex e1⟩
/-- an instance: frozen or owned -/
def InsF (K : Frg) (F : Hp) (a C : Addr) (fs : List (Str × D)) : Prop := ∃ dx gs, F a = some (.ins C dx gs) ∧ F dx = some (.own a) ∧ RepF K F fs gs
theorem InsF.mono {F' : Hp} {a C : Addr} {fs : List (Str × D)} (e : Ex F F') : InsF K F a C fs → InsF K F' a C fs := fun ⟨dx, gs, h1, h2, h3⟩ => ⟨dx, gs, e _ _ h1, e _ _ h2, h3.mono e⟩
def InsA (K : Frg) (F : Hp) (ms : Ms) (a C : Addr) (fs : List (Str × D)) : Prop := InsF K F a C fs ∨ ∃ n : Nat, ms[n]? = some (a, MO.ins C fs)
theorem InsA.to {a C : Addr} {fs : List (Str × D)} {R : Ms} {H : Hp} (i : InsA K F ms a C fs) (hh : Hold K F (ms ++ R) H) : ∃ dx gs, H a = some (.ins C dx gs) ∧ F dx = some (.own a) ∧ RepF K F fs gs := by
  rcases i with ⟨dx, gs, h1, h2, h3⟩ | ⟨n, hn⟩
  · exact ⟨dx, gs, hh.ex _ _ h1, h2, h3⟩
  · exact (hh.at (get_app hn)).2
theorem ae_fld {f : Str} (h : AE Γ ta F ms S fun F1 ms1 x => ∃ a C fs d, x = .ref a ∧ InsA Γ.K F1 ms1 a C fs ∧ Cls Γ.K C ∧ NoAttr Γ.K C f ∧ fs.lookup f = some d ∧ Q F1 ms1 d) : AE Γ (tFld Γ.K ta f) F ms S Q := fun R σ H Qc hs hh x k =>
  h R σ H _ hs hh x fun F1 ms1 d1 v1 H1 e1 h1 r1 ⟨a, C, fs, d, hx, hi, hc, hn, hl, q⟩ => by
    subst hx
    cases r1
    obtain ⟨dx, gs, i1, i2, i3⟩ := hi.to h1
    obtain ⟨v, hv, rv⟩ := i3.look hl
    exact ⟨a, C, dx, gs, v, rfl, i1, hc, hn, hv, k F1 ms1 d v H1 e1 h1 rv q⟩
theorem as_fld {f : Str} {tv : TE} (h : AE Γ tv F ms S fun F1 ms1 y => AE Γ ta F1 ms1 S fun F2 ms2 x => ∃ (n : Nat) (a C : Addr) (fs : List (Str × D)), x = .ref a ∧ ms2[n]? = some (a, .ins C fs) ∧ Cls Γ.K C ∧ NoAttr Γ.K C f ∧ fs.length < 1000 ∧ A.nx F2 (ms2.set n (a, .ins C (putD f y fs))) S) :
    AS Γ (sFld Γ.K ta tv f) F ms S A := fun R E σ H hs hh l =>
  h R σ H _ hs hh l.xe fun F1 ms1 y vy H1 e1 h1 r1 q1 => q1 R σ H1 _ (hs.mono e1) h1 (l.xe.ex e1) fun F2 ms2 x2 v2 H2 e2 h2 r2 ⟨n, a, C, fs, hx, hn, hc, hna, hl, q⟩ => by
    subst hx
    cases r2
    obtain ⟨_, dx, gs, i1, i2, i3⟩ := h2.at (get_app hn)
    refine ⟨a, C, dx, gs, rfl, i1, hc, hna, by rw [← i3.len]; exact hl, l.nx F2 (ms2.set n (a, .ins C (putD f y fs))) S σ _ (e1.trans e2) (hs.mono (e1.trans e2)) ?_ q⟩
    rw [← set_app hn]
    exact h2.set (get_app hn) ⟨dx, _, upd_same, i2, i3.put (r1.mono e2)⟩
theorem ae_meth {C : Addr} {m : Str} {sp : ASp} {ta' : TA} (h : AE Γ ta F ms S fun F1 ms1 x => ∃ a fs, x = .ref a ∧ InsA Γ.K F1 ms1 a C fs ∧ fs.lookup m = none ∧ AA Γ ta' F1 ms1 S fun F2 ms2 ds => sp (.ref a :: ds) F2 ms2 Q Γ.Ea) :
    AE Γ (tMeth C m (toSp Γ.K sp) [] Γ.E ta ta') F ms S Q := fun R σ H Qc hs hh x k =>
  h R σ H _ hs hh x fun F1 ms1 d1 v1 H1 e1 h1 r1 ⟨a, fs, hx, hi, hl, q⟩ => by
    subst hx
    cases r1
    obtain ⟨dx, gs, i1, i2, i3⟩ := hi.to h1
    refine ⟨a, dx, gs, rfl, i1, i3.lookN hl, q R σ H1 _ (hs.mono e1) h1 (x.ex e1) fun F2 ms2 ds vs H2 e2 h2 r2 q2 => ?_⟩
    show toSp Γ.K sp (V.ref a :: (vs ++ [])) H2 Qc Γ.E
    rw [List.append_nil]
    exact ⟨F2, ms2, R, .ref a :: ds, Q, Γ.Ea, h2, .cons (.ref a) r2, q2, fun F' ms' d v H' e => k F' ms' d v H' ((e1.trans e2).trans e), x.ex (e1.trans e2)⟩
theorem ae_prop {C : Addr} {sp : ASp} (h : AE Γ ta F ms S fun F1 ms1 x => ∃ a fs, x = .ref a ∧ InsA Γ.K F1 ms1 a C fs ∧ sp [.ref a] F1 ms1 Q Γ.Ea) : AE Γ (tProp C (toSp Γ.K sp) [] Γ.E ta) F ms S Q := fun R σ H Qc hs hh x k =>
  h R σ H _ hs hh x fun F1 ms1 d1 v1 H1 e1 h1 r1 ⟨a, fs, hx, hi, q⟩ => by
    subst hx
    cases r1
    obtain ⟨dx, gs, i1, i2, i3⟩ := hi.to h1
    exact ⟨a, dx, gs, rfl, i1, F1, ms1, R, [.ref a], Q, Γ.Ea, h1, .cons (.ref a) .nil, q, fun F' ms' d v H' e => k F' ms' d v H' (e1.trans e), x.ex e1⟩
theorem ae_make {C : Addr} {sp : ASp} {ta' : TA} {dvs : List V} {dds : List D} (hd : ∀ F, RepL Γ.K F dds dvs) (h : AA Γ ta' F ms S fun F1 ms1 ds => ∀ x F2, Ex F1 F2 → sp (.ref x :: (ds ++ dds)) F2 ((x, .ins C []) :: ms1) (fun F' ms' d => d = .non ∧ Q F' ms' (.ref x)) Γ.Ea) :
    AE Γ (tMake C (toSp Γ.K sp) dvs Γ.E ta') F ms S Q := fun R σ H Qc hs hh x k =>
  h R σ H _ hs hh x fun F1 ms1 ds vs H1 e1 h1 r1 q1 => by
    intro a dx na ndx ne
    obtain ⟨e2, h2⟩ := h1.laid (.own a) ndx
    have na2 : upd H1 dx (.own a) a = none := by rw [upd_ne ne.symm]; exact na
    have h3 := h2.made (m := .ins C []) (o := .ins C dx []) na2 ⟨dx, [], upd_same, upd_same, .nil⟩
    refine ⟨_, (a, .ins C []) :: ms1, R, .ref a :: (ds ++ dds), _, Γ.Ea, h3, .cons (.ref a) ((r1.mono e2).append (hd _)), q1 a _ e2, fun F' ms' d v H' e ho hr ⟨hdn, q⟩ => ?_, x.ex (e1.trans e2)⟩
    subst hdn
    cases hr
    exact ⟨rfl, k F' ms' (.ref a) _ H' ((e1.trans e2).trans e) ho (.ref a) q⟩
end
def startS (N : List Str) (ds : List D) : Sg := ds.map some ++ List.replicate (N.length - ds.length) none
theorem start_rep {K : Frg} {F : Hp} {N : List Str} : ∀ {ds : List D} {vs : List V}, RepL K F ds vs → SRep K F (startS N ds) (L2.start N vs) := fun {ds vs} r => by
  unfold startS L2.start
  refine ⟨by simp [r.len], fun i d h => ?_⟩
  by_cases hi : i < ds.length
  · rw [List.getElem?_append_left (by simpa using hi), List.getElem?_map] at h
    cases e : ds[i]? with
    | none => rw [e] at h; cases h
    | some d' =>
      rw [e] at h
      cases h
      obtain ⟨v, hv, rv⟩ := r.getD e
      refine ⟨v, ?_, rv⟩
      rw [List.getElem?_append_left (by rw [List.length_map, ← r.len]; exact hi), List.getElem?_map, hv]
      rfl
  · rw [List.getElem?_append_right (by simpa using hi), List.getElem?_replicate] at h
    split at h <;> cases h
section
variable {P : Program} {w : World} {K : Frg} {mg : Str → Option Value} {base : Heap}
/-- a def that raises nothing -/
theorem fn_ok {x qual : Str} {st : Stmt} {f : Addr} {fd : FuncData} {N ps : List Str} {k : Nat} {sp : ASp} (F : Fun K x qual st f fd) (Sc : FnScope N ps (defScope st)) (len : ∀ ds F ms Q E, sp ds F ms Q E → ds.length = ps.length)
    (hbody : ∀ (cdv : Value) (A : Around) (outer : List Env) (s : Shared) (H : Hp) (E : XK), Room k (A.deeper (PyProof.Rows.envOfC qual (defScope st) s.heap.objs.size f cdv)) → ∃ t, PSs (cxOf CX0 P w K mg base N qual (defScope st) f cdv A outer s H E).nox (defBody st) t ∧
      ∀ ds F ms Q Ea, sp ds F ms Q Ea → AS ⟨K, E0, fun _ _ _ _ => False⟩ t F ms (startS N ds) { nx := fun F' ms' _ => Q F' ms' .non, rt := Q }) : FnOk P w K mg base CX0 (k + 1) f fd ps (toSp K sp) := by
  refine F.ok Sc (fun vs H Q E h => ?_) (fun cdv A outer s H vs Q E hr h => ?_)
  · obtain ⟨F0, ms, R, ds, Qa, Ea, h1, h2, h3, _⟩ := h
    rw [← h2.len]
    exact len _ _ _ _ _ h3
  · obtain ⟨F0, ms, R, ds, Qa, Ea, h1, h2, h3, h4, h5⟩ := h
    obtain ⟨t, ht, q⟩ := hbody cdv A outer s H E hr
    refine ⟨t, ht, q ds F0 ms Qa Ea h3 R _ _ H (start_rep h2) h1 ⟨fun _ _ _ _ _ _ _ _ _ z => z.elim, fun F' ms' S' σ' H' e a b q' => h4 F' ms' .non .non H' e b .non q', fun F' ms' d v H' e b r q' => h4 F' ms' d v H' e b r q', fun _ _ _ _ _ _ _ _ z => z.elim, fun _ _ _ _ _ _ _ _ z => z.elim⟩⟩
/-- a def that may raise -/
theorem fn_okX {x qual : Str} {st : Stmt} {f : Addr} {fd : FuncData} {N ps : List Str} {k : Nat} {sp : ASp} (F : Fun K x qual st f fd) (Sc : FnScope N ps (defScope st)) (len : ∀ ds F ms Q E, sp ds F ms Q E → ds.length = ps.length)
    (hbody : ∀ (cdv : Value) (A : Around) (outer : List Env) (s : Shared) (H : Hp) (E : XK), Room k (A.deeper (PyProof.Rows.envOfC qual (defScope st) s.heap.objs.size f cdv)) → ∃ t, PSs (cxOf (L2.CX P w) P w K mg base N qual (defScope st) f cdv A outer s H E) (defBody st) t ∧
      ∀ ds F ms Q Ea, sp ds F ms Q Ea → AS ⟨K, E, Ea⟩ t F ms (startS N ds) { nx := fun F' ms' _ => Q F' ms' .non, rt := Q }) : FnOk P w K mg base (L2.CX P w) (k + 1) f fd ps (toSp K sp) := by
  refine F.okX Sc (fun vs H Q E h => ?_) (fun cdv A outer s H vs Q E hr h => ?_)
  · obtain ⟨F0, ms, R, ds, Qa, Ea, h1, h2, h3, _⟩ := h
    rw [← h2.len]
    exact len _ _ _ _ _ h3
  · obtain ⟨F0, ms, R, ds, Qa, Ea, h1, h2, h3, h4, h5⟩ := h
    obtain ⟨t, ht, q⟩ := hbody cdv A outer s H E hr
    exact ⟨t, ht, q ds F0 ms Qa Ea h3 R _ _ H (start_rep h2) h1 ⟨h5, fun F' ms' S' σ' H' e a b q' => h4 F' ms' .non .non H' e b .non q', fun F' ms' d v H' e b r q' => h4 F' ms' d v H' e b r q', fun _ _ _ _ _ _ _ _ z => z.elim, fun _ _ _ _ _ _ _ _ z => z.elim⟩⟩
end
end AL

set_option Elab.async false
set_option linter.all false
set_option maxRecDepth 100000
set_option maxHeartbeats 4000000
namespace AL
open PySem L2
/-! ### two more built-ins at the library's level: list(text), min of texts -/
theorem richCmp_lt_str {prog : Program} {w : World} {A : Around} {E Q : Value → Shared → Prop} {s : Shared} {x y : Str} {t u : Tok} (h : Q (.bool (decide (x.cps.toList < y.cps.toList))) s) : wpAny (model prog w) A (richCompare .Lt (.str x t) (.str y u)) Q E s :=
  wpAny_richCompare_same (op := .Lt) (T := "str") (typeIs_str s x t) (typeIs_str s y u) PyProof.Rows.slot_str_lt
    (wpAny_call_entry PyProof.Rows.slot_str_lt (typeIs_str s x t) PyProof.Rows.entry_str_lt (show wpAny _ _ (ret (.bool (x.cps.toList < y.cps.toList))) _ _ s from wpAny_pure ⟨_, rfl, by simp, h⟩) (PyProof.Rows.args_str_lt _ _))
theorem cmp_strs {prog : Program} {w : World} {A : Around} {P : Nat → Value → Prop} (val : Nat → Str) (hval : ∀ i v, P i v → ∃ t, v = .str (val i) t) :
    CmpOf prog w A .Lt P (fun i j => decide ((val i).cps.toList < (val j).cps.toList)) := fun i j vi vj s Q E hi hj h => by
  obtain ⟨t, rfl⟩ := hval i vi hi
  obtain ⟨u, rfl⟩ := hval j vj hj
  exact richCmp_lt_str h
section
variable {X : Cx}
def minS (x y : Str) : Str := if y.cps.toList < x.cps.toList then y else x
/-- min(a, b) of texts -/
def rMinS : List V → Hp → VK → Prop := fun xs H Q => ∃ x y, xs = [.str x, .str y] ∧ Q (.str (minS x y)) H
theorem call_minS (hc : X.calm = true) : CallR X (.builtin "min") rMinS := by
  intro pins s σ H xs us Q I r h
  obtain ⟨x, y, rfl, q⟩ := h
  obtain ⟨u, w', rfl, ⟨t, rfl⟩, ⟨t', rfl⟩⟩ := vals2 r
  have hT : (s.heap.push { cls := .type "tuple", data := .seq #[Value.str x t, Value.str y t'] }).IsTuple s.heap.objs.size #[Value.str x t, Value.str y t'] := ⟨_, Heap.get?_push_size _ rfl, rfl, 0, rfl⟩
  refine call_min_two (wpAny_pyIter_tuple hT ?_)
  have hsz : (s.heap.push { cls := .type "tuple", data := .seq #[Value.str x t, Value.str y t'] }).objs.size = s.heap.objs.size + 1 := Heap.size_push ..
  refine ⟨_, [_, s.heap.objs.size], [_], _, _, _, _, rfl, Walks.tuple (A := X.A.in1) (I.ok.hd hc) _ s.heap.objs.size (by rw [hsz]; exact Nat.ne_of_lt (Nat.lt_succ_self _)) #[Value.str x t, Value.str y t'],
    ⟨⟨_, Heap.get?_push_size _ rfl, rfl, rfl⟩, hT.push _⟩, fun c hcm => ?_, by simp, cmp_strs (fun i => if i = 0 then x else y) (fun i v hv => ?_), fun v h' tk hP hk => ?_⟩
  · show c < ((s.heap.push _).push _).objs.size
    rw [Heap.size_push, hsz]
    rcases List.mem_cons.mp hcm with rfl | hcm
    · rw [hsz]; exact Nat.lt_succ_self _
    · rcases List.mem_cons.mp hcm with rfl | hcm
      · exact Nat.lt_succ_of_lt (Nat.lt_succ_self _)
      · cases hcm
  · match i, hv with
    | 0, hv => simp at hv; exact ⟨t, by simp [hv]⟩
    | 1, hv => simp at hv; exact ⟨t', by simp [hv]⟩
    | n + 2, hv => simp at hv
  · have hold : ∀ c o, s.heap.get? c = some o → h'.get? c = some o := fun c o e => by
      refine hk c o (fun hm => ?_) (Heap.get?_push_of_some _ (Heap.get?_push_of_some _ e))
      rcases List.mem_cons.mp hm with e1 | hm
      · have := Heap.lt_size e; rw [e1, hsz] at this; exact Nat.lt_irrefl _ (Nat.lt_of_succ_lt this)
      · cases hm
    refine ⟨.str (minS x y), H, I.kept hold, ?_, q⟩
    have hsz2 : (#[Value.str x t, Value.str y t'] : Array Value).size - 1 = 1 := by simp
    rw [hsz2] at hP
    unfold minS
    by_cases hba : y.cps.toList < x.cps.toList
    · have e : argBest (fun i j => decide ((if i = 0 then x else y).cps.toList < (if j = 0 then x else y).cps.toList)) 1 = 1 := by simp [argBest, hba]
      rw [e] at hP
      rw [if_pos hba]
      have : v = .str y t' := by simpa using hP.symm
      exact ⟨t', this⟩
    · have e : argBest (fun i j => decide ((if i = 0 then x else y).cps.toList < (if j = 0 then x else y).cps.toList)) 1 = 0 := by simp [argBest, hba]
      rw [e] at hP
      rw [if_neg hba]
      have : v = .str x t := by simpa using hP.symm
      exact ⟨t, this⟩
/-- min of a text of two signs -/
def rMinT : List V → Hp → VK → Prop := fun xs H Q => ∃ a b : Nat, xs = [.str ⟨#[a, b]⟩] ∧ Q (.str (minS (sg a) (sg b))) H
theorem call_minT (hc : X.calm = true) : CallR X (.builtin "min") rMinT := by
  intro pins s σ H xs us Q I r h
  obtain ⟨a, b, rfl, q⟩ := h
  obtain ⟨u, rfl, t, rfl⟩ := vals1 r
  refine call_min_walk (wpAny_pyIter_str fun o St W st => ?_)
  have hsz : (s.heap.push o).objs.size = s.heap.objs.size + 1 := Heap.size_push ..
  refine ⟨_, _, _, _, _, _, _, rfl, W X.A.in1 (I.ok.hd hc), st, fun c hcm => ?_, by simp, cmp_strs (fun i => if i = 0 then sg a else sg b) (fun i v hv => ?_), fun v h' tk hP hk => ?_⟩
  · rcases List.mem_cons.mp hcm with rfl | hcm
    · show s.heap.objs.size < (s.heap.push o).objs.size
      rw [hsz]; exact Nat.lt_succ_self _
    · cases hcm
  · obtain ⟨c, u, h1, h2⟩ := hv
    match i, h1 with
    | 0, h1 => simp at h1; exact ⟨u, by rw [h2, ← h1]; rfl⟩
    | 1, h1 => simp at h1; exact ⟨u, by rw [h2, ← h1]; rfl⟩
    | n + 2, h1 => simp at h1
  · have hold : ∀ c o, s.heap.get? c = some o → h'.get? c = some o := fun c o e => by
      refine hk c o (fun hm => ?_) (Heap.get?_push_of_some _ e)
      rcases List.mem_cons.mp hm with e1 | hm
      · have := Heap.lt_size e; rw [e1] at this; exact Nat.lt_irrefl _ this
      · cases hm
    refine ⟨.str (minS (sg a) (sg b)), H, I.kept hold, ?_, q⟩
    have hsz2 : (⟨#[a, b]⟩ : Str).cps.size - 1 = 1 := by simp
    rw [hsz2] at hP
    unfold minS
    by_cases hba : (sg b).cps.toList < (sg a).cps.toList
    · have e : argBest (fun i j => decide ((if i = 0 then sg a else sg b).cps.toList < (if j = 0 then sg a else sg b).cps.toList)) 1 = 1 := by simp [argBest, hba]
      rw [e] at hP
      rw [if_pos hba]
      obtain ⟨c, u, h1, h2⟩ := hP
      simp at h1
      exact ⟨u, by rw [h2, ← h1]; rfl⟩
    · have e : argBest (fun i j => decide ((if i = 0 then sg a else sg b).cps.toList < (if j = 0 then sg a else sg b).cps.toList)) 1 = 0 := by simp [argBest, hba]
      rw [e] at hP
      rw [if_neg hba]
      obtain ⟨c, u, h1, h2⟩ := hP
      simp at h1
      exact ⟨u, by rw [h2, ← h1]; rfl⟩
def rListT : List V → Hp → VK → Prop := fun xs H Q => ∃ z : Str, xs = [.str z] ∧ z.cps.size ≤ sizeLine ∧ ∀ l, H l = none → Q (.ref l) (upd H l (.lst (z.cps.toList.map fun c => V.str (sg c))))
theorem call_list_T (hc : X.calm = true) : CallR X (.type "list") rListT := by
  intro pins s σ H xs us Q I r h
  obtain ⟨z, rfl, hz, q⟩ := h
  obtain ⟨u, rfl, t, rfl⟩ := vals1 r
  refine call_list_str (I.ok.hd hc) z t (fun h' tk acc' c' hk hS hacc => ?_) hz
  refine ⟨.ref s.heap.objs.size, _, I.laid hk (Nat.le_refl _) (show ObjOk X.prog X.w _ h' _ (.lst (z.cps.toList.map fun c => V.str (sg c))) from ⟨?_, acc'.toList, c', ?_, ?_⟩), rfl, q _ (I.hok.fresh (Nat.le_refl _))⟩
  · rw [List.length_map, Array.length_toList]; exact hz
  · have el : acc'.toList.length = acc'.size := by simp
    refine vals_of_at (by rw [List.length_map, Array.length_toList, el, hacc.1]) fun j x w h1 h2 => ?_
    obtain ⟨c, u, h3, h4⟩ := hacc.2 j w (by rw [← Array.getElem?_toList]; exact h2)
    rw [List.getElem?_map, Array.getElem?_toList, h3] at h1
    cases h1
    exact ⟨u, h4⟩
  · rw [Array.toArray_toList]; exact hS
def rListS' (K : Frg) : List V → Hp → VK → Prop := fun xs H Q => ∃ p ys, xs = [.ref p] ∧ (SqL K H p ys ∨ SqT K H p ys) ∧ ∀ l, H l = none → Q (.ref l) (upd H l (.lst ys))
def rLIST (K : Frg) : List V → Hp → VK → Prop := fun xs H Q => rListS' K xs H Q ∨ rListT xs H Q
theorem cor {f : Value} {r r' : List V → Hp → VK → Prop} (h : CallR X f r) (h' : CallR X f r') : CallR X f fun xs H Q => r xs H Q ∨ r' xs H Q := by
  intro pins s σ H xs us Q I rs q
  rcases q with q | q
  · exact h pins s σ H xs us Q I rs q
  · exact h' pins s σ H xs us Q I rs q
theorem call_LIST (hc : X.calm = true) : CallR X (.type "list") (rLIST X.K) := cor call_list_of (call_list_T hc)
def rMinI : List V → Hp → VK → Prop := fun xs H Q => ∃ i j, xs = [.int i, .int j] ∧ Q (.int (if j < i then j else i)) H
def rMIN : List V → Hp → VK → Prop := fun xs H Q => rMinI xs H Q ∨ (rMinS xs H Q ∨ rMinT xs H Q)
theorem call_MIN (hc : X.calm = true) : CallR X (.builtin "min") rMIN := cor (call_min2 hc) (cor (call_minS hc) (call_minT hc))
def rMaxI : List V → Hp → VK → Prop := fun xs H Q => ∃ i j, xs = [.int i, .int j] ∧ Q (.int (if j > i then j else i)) H
theorem call_MAX2 (hc : X.calm = true) : CallR X (.builtin "max") rMaxI := call_max2 hc
def rABS : List V → Hp → VK → Prop := fun xs H Q => ∃ i, xs = [.int i] ∧ Q (.int (if i < 0 then -i else i)) H
theorem call_ABS : CallR X (.builtin "abs") rABS := call_abs
def rTUPLE (K : Frg) : List V → Hp → VK → Prop := fun xs H Q => ∃ p ys, xs = [.ref p] ∧ ((SqL K H p ys ∧ ∀ l, H l = none → Q (.ref l) (upd H l (.tup ys))) ∨ (SqT K H p ys ∧ Q (.ref p) H))
theorem call_TUPLE : CallR X (.type "tuple") (rTUPLE X.K) := call_tuple_of
def rSTRI : List V → Hp → VK → Prop := fun xs H Q => ∃ i, xs = [.int i] ∧ i.natAbs.log2 < 1920 ∧ Q (.str (toString i)) H
theorem call_STRI : CallR X (.type "str") rSTRI := call_str_int
def rINT : List V → Hp → VK → Prop := fun xs H Q => ((∃ i, xs = [.int i] ∧ Q (.int i) H) ∨ ∃ k, xs = [.bl k] ∧ Q (.int (if k then 1 else 0)) H) ∨ ∃ a n, xs = [.str a] ∧ PySem.intText? a = some n ∧ a.length ≤ 640 ∧ Q (.int n) H
theorem call_INT : CallR X (.type "int") rINT := cor call_int1 call_int_str
end
section
variable {Γ : Cg} {K : Frg} {F : Hp} {ms : Ms} {S : Sg} {Q : QE} {ta tb te tx : TE} {t u tt : TT} {r : R2} {ts tu tw : TS} {A : AEnds}
theorem rep_l {d : D} {a : Addr} {H : Hp} {ds : List D} (hd : d = .lst ds ∨ d = .rdl ds) {v : V} (r : Rep K F d v) (e : Ex F H) : ∃ p ys, v = .ref p ∧ SqL K H p ys ∧ RepL K F ds ys := by
  rcases hd with rfl | rfl
  · cases r with
    | lst h r => exact ⟨_, _, rfl, SqL.of (e _ _ h), r⟩
  · cases r with
    | rdl h r => exact ⟨_, _, rfl, ex_l e h, r⟩
theorem ac2 {rc : List V → Hp → VK → Prop} {d d2 : D} (h : ∀ (R : Ms) v v2 H (Qc : VK), Rep K F d v → Rep K F d2 v2 → Hold K F (ms ++ R) H → (∀ F' ms' d v H', Ex F F' → Hold K F' (ms' ++ R) H' → Rep K F' d v → Q F' ms' d → Qc v H') → rc [v, v2] H Qc) : AC K rc [d, d2] F ms Q := fun R vs H Qc hv hh k => by
  cases hv with
  | cons h1 h2 =>
    cases h2 with
    | cons h2 h3 =>
      cases h3
      exact h R _ _ H Qc h1 h2 hh k
theorem AC.or1 {rc rc' : List V → Hp → VK → Prop} {ds : List D} (h : AC K rc ds F ms Q) : AC K (fun xs H Q => rc xs H Q ∨ rc' xs H Q) ds F ms Q := fun R vs H Qc hv hh k => .inl (h R vs H Qc hv hh k)
theorem AC.or2 {rc rc' : List V → Hp → VK → Prop} {ds : List D} (h : AC K rc' ds F ms Q) : AC K (fun xs H Q => rc xs H Q ∨ rc' xs H Q) ds F ms Q := fun R vs H Qc hv hh k => .inr (h R vs H Qc hv hh k)
theorem ac_abs {i : Int} (q : Q F ms (.int (if i < 0 then -i else i))) : AC K rABS [.int i] F ms Q := ac1 fun R v H Qc hv hh k => by
  cases hv
  exact ⟨i, rfl, k F ms _ _ H Ex.refl hh (.int _) q⟩
/-- list(x): a new list, frozen or owned -/
theorem ac_listF {d : D} {ds : List D} (hd : (d = .lst ds ∨ d = .rdl ds) ∨ d = .tup ds) (q : ∀ F', Ex F F' → Q F' ms (.lst ds)) : AC K (rLIST K) [d] F ms Q := AC.or1 (ac1 fun R v H Qc hv hh k => by
  have : ∃ p ys, v = .ref p ∧ (SqL K H p ys ∨ SqT K H p ys) ∧ RepL K F ds ys := by
    rcases hd with hd | rfl
    · obtain ⟨p, ys, h1, h2, h3⟩ := rep_l (a := 0) hd hv hh.ex
      exact ⟨p, ys, h1, .inl h2, h3⟩
    · cases hv with
      | tup h r => exact ⟨_, _, rfl, .inr (ex_t hh.ex h), r⟩
  obtain ⟨p, ys, rfl, h2, h3⟩ := this
  refine ⟨p, ys, rfl, h2, fun l hl => ?_⟩
  obtain ⟨e, hh'⟩ := hh.laid (.lst ys) hl
  exact k _ ms (.lst ds) _ _ e hh' (.lst upd_same (h3.mono e)) (q _ e))
theorem ac_listO {d : D} {ds : List D} (hd : (d = .lst ds ∨ d = .rdl ds) ∨ d = .tup ds) (q : ∀ l, Q F ((l, .lst ds) :: ms) (.ref l)) : AC K (rLIST K) [d] F ms Q := AC.or1 (ac1 fun R v H Qc hv hh k => by
  have : ∃ p ys, v = .ref p ∧ (SqL K H p ys ∨ SqT K H p ys) ∧ RepL K F ds ys := by
    rcases hd with hd | rfl
    · obtain ⟨p, ys, h1, h2, h3⟩ := rep_l (a := 0) hd hv hh.ex
      exact ⟨p, ys, h1, .inl h2, h3⟩
    · cases hv with
      | tup h r => exact ⟨_, _, rfl, .inr (ex_t hh.ex h), r⟩
  obtain ⟨p, ys, rfl, h2, h3⟩ := this
  refine ⟨p, ys, rfl, h2, fun l hl => ?_⟩
  exact k F ((l, .lst ds) :: ms) (.ref l) _ _ Ex.refl (hh.made (m := .lst ds) hl ⟨ys, upd_same, h3⟩) (.ref l) (q l))
theorem ac_listOo {l0 : Addr} {ds : List D} (n : Nat) (hn : ms[n]? = some (l0, .lst ds)) (q : ∀ l, Q F ((l, .lst ds) :: ms) (.ref l)) : AC K (rLIST K) [.ref l0] F ms Q := AC.or1 (ac1 fun R v H Qc hv hh k => by
  cases hv
  obtain ⟨_, ys, hl, h3⟩ := hh.at (get_app hn)
  refine ⟨l0, ys, rfl, .inl (SqL.of hl), fun l hl => ?_⟩
  exact k F ((l, .lst ds) :: ms) (.ref l) _ _ Ex.refl (hh.made (m := .lst ds) hl ⟨ys, upd_same, h3⟩) (.ref l) (q l))
theorem repL_chars (z : Str) : RepL K F (charsD z) (z.cps.toList.map fun c => V.str (sg c)) := by
  unfold charsD
  induction z.cps.toList with
  | nil => exact .nil
  | cons c r ih => exact .cons (.str _) ih
theorem ac_listT {z : Str} (hz : z.length ≤ 100000) (q : ∀ F', Ex F F' → Q F' ms (.lst (charsD z))) : AC K (rLIST K) [.str z] F ms Q := AC.or2 (ac1 fun R v H Qc hv hh k => by
  cases hv
  refine ⟨z, rfl, Evl.sz_of hz, fun l hl => ?_⟩
  obtain ⟨e, hh'⟩ := hh.laid (.lst (z.cps.toList.map fun c => V.str (sg c))) hl
  exact k _ ms (.lst (charsD z)) _ _ e hh' (.lst upd_same (repL_chars z)) (q _ e))
theorem ac_tupleL {d : D} {ds : List D} (hd : d = .lst ds ∨ d = .rdl ds) (q : ∀ F', Ex F F' → Q F' ms (.tup ds)) : AC K (rTUPLE K) [d] F ms Q := ac1 fun R v H Qc hv hh k => by
  obtain ⟨p, ys, rfl, h2, h3⟩ := rep_l (a := 0) hd hv hh.ex
  refine ⟨p, ys, rfl, .inl ⟨h2, fun l hl => ?_⟩⟩
  obtain ⟨e, hh'⟩ := hh.laid (.tup ys) hl
  exact k _ ms (.tup ds) _ _ e hh' (.tup (SqT.of upd_same) (h3.mono e)) (q _ e)
theorem ac_tupleT {ds : List D} (q : Q F ms (.tup ds)) : AC K (rTUPLE K) [.tup ds] F ms Q := ac1 fun R v H Qc hv hh k => by
  cases hv with
  | tup h r => exact ⟨_, _, rfl, .inr ⟨ex_t hh.ex h, k F ms (.tup ds) _ _ Ex.refl hh (.tup h r) q⟩⟩
theorem ac_minI {i j : Int} (q : Q F ms (.int (if j < i then j else i))) : AC K rMIN [.int i, .int j] F ms Q := AC.or1 (ac2 fun R v v2 H Qc hv hv2 hh k => by
  cases hv; cases hv2
  exact ⟨i, j, rfl, k F ms _ _ H Ex.refl hh (.int _) q⟩)
theorem ac_minS {i j : Str} (q : Q F ms (.str (minS i j))) : AC K rMIN [.str i, .str j] F ms Q := AC.or2 (AC.or1 (ac2 fun R v v2 H Qc hv hv2 hh k => by
  cases hv; cases hv2
  exact ⟨i, j, rfl, k F ms _ _ H Ex.refl hh (.str _) q⟩))
theorem ac_minT {a b : Nat} (q : Q F ms (.str (minS (sg a) (sg b)))) : AC K rMIN [.str ⟨#[a, b]⟩] F ms Q := AC.or2 (AC.or2 (ac1 fun R v H Qc hv hh k => by
  cases hv
  exact ⟨a, b, rfl, k F ms _ _ H Ex.refl hh (.str _) q⟩))
theorem ac_maxI {i j : Int} (q : Q F ms (.int (if j > i then j else i))) : AC K rMaxI [.int i, .int j] F ms Q := ac2 fun R v v2 H Qc hv hv2 hh k => by
  cases hv; cases hv2
  exact ⟨i, j, rfl, k F ms _ _ H Ex.refl hh (.int _) q⟩
theorem ac_strI {i : Int} (hi : i.natAbs < 1000000) (q : Q F ms (.str (toString i))) : AC K rSTRI [.int i] F ms Q := ac1 fun R v H Qc hv hh k => by
  cases hv
  refine ⟨i, rfl, ?_, k F ms _ _ H Ex.refl hh (.str _) q⟩
  by_cases h0 : i.natAbs = 0
  · rw [h0]; decide
  · have h1 : i.natAbs.log2 < 20 := (Nat.log2_lt h0).mpr (by omega)
    omega
theorem ac_intI {i : Int} (q : Q F ms (.int i)) : AC K rINT [.int i] F ms Q := AC.or1 (AC.or1 (ac1 fun R v H Qc hv hh k => by
  cases hv
  exact ⟨i, rfl, k F ms _ _ H Ex.refl hh (.int _) q⟩))
theorem ac_intB {b : Bool} (q : Q F ms (.int (if b then 1 else 0))) : AC K rINT [.bl b] F ms Q := AC.or1 (AC.or2 (ac1 fun R v H Qc hv hh k => by
  cases hv
  exact ⟨b, rfl, k F ms _ _ H Ex.refl hh (.int _) q⟩))
theorem ac_intS {z : Str} {n : Int} (h : PySem.intText? z = some n) (hz : z.length ≤ 640) (q : Q F ms (.int n)) : AC K rINT [.str z] F ms Q := AC.or2 (ac1 fun R v H Qc hv hh k => by
  cases hv
  exact ⟨z, n, rfl, h, hz, k F ms _ _ H Ex.refl hh (.int _) q⟩)
/-! ### isinstance -/
def kindD : D → String
  | .non => "NoneType" | .bl _ => "bool" | .int _ => "int" | .str _ => "str" | .tup _ => "tuple" | .lst _ => "list" | .rdl _ => "list" | .dic _ => "dict" | .ref _ => "" | .ty _ => ""
theorem ty_of {d : D} {v : V} {H : Hp} (r : Rep K F d v) (e : Ex F H) (hd : kindD d ≠ "") (hr : ∀ ds, d ≠ .rdl ds) : TyX K H v (.type (kindD d)) := by
  cases r with
  | non => exact .base .non
  | bl b => exact .base (.bl b)
  | int i => exact .base (.int i)
  | str x => exact .base (.str x)
  | ref a => exact absurd rfl hd
  | ty n => exact absurd rfl hd
  | tup h r =>
    rcases ex_t e h with (h | ⟨o, h⟩) | ⟨o, _, _, h, hc, _⟩
    · exact .base (.tup h)
    · exact .fTuple h
    · exact .kTuple h hc
  | lst h r => exact .base (.lst (e _ _ h))
  | rdl h r => exact absurd rfl (hr _)
  | dic h r => exact .base (.dK (e _ _ h))
theorem ac_isi {d : D} {n : String} (hd : kindD d ≠ "" := by decide) (hr : ∀ ds, d ≠ .rdl ds := by (intro ds h; cases h)) {b : Bool} (hk : kitB (kindD d) n = some b) (q : Q F ms (.bl b)) : AC K (rIsi K) [d, .ty n] F ms Q := ac2 fun R v v2 H Qc hv hv2 hh k => by
  cases hv2
  exact ⟨v, .ty n, _, _, b, rfl, .ty n, ty_of hv hh.ex hd hr, kit_ty hk, k F ms _ _ H Ex.refl hh (.bl _) q⟩
/-- an owned list -/
theorem ac_isiO {l : Addr} {ds : List D} {n : String} (j : Nat) (hj : ms[j]? = some (l, .lst ds)) {b : Bool} (hk : kitB "list" n = some b) (q : Q F ms (.bl b)) : AC K (rIsi K) [.ref l, .ty n] F ms Q := ac2 fun R v v2 H Qc hv hv2 hh k => by
  cases hv2; cases hv
  obtain ⟨_, vs, hl, _⟩ := hh.at (get_app hj)
  exact ⟨_, .ty n, _, _, b, rfl, .ty n, .base (.lst hl), kit_ty hk, k F ms _ _ H Ex.refl hh (.bl _) q⟩
end
end AL

set_option Elab.async false
set_option linter.all false
set_option maxRecDepth 100000
set_option maxHeartbeats 4000000
namespace AL
open PySem L2
/-! ### plain data, == -/
mutual
def toPy : D → PyData
  | .non => .none
  | .bl b => .bool b
  | .int i => .int i
  | .str x => .str x
  | .tup ds => .tuple (toPyL ds)
  | .lst ds => .list (toPyL ds)
  | .rdl ds => .list (toPyL ds)
  | .ref _ => .none
  | .ty _ => .none
  | .dic _ => .none
def toPyL : List D → List PyData
  | [] => []
  | d :: ds => toPy d :: toPyL ds
end
mutual
/-- no objects in it, its texts of plain signs -/
def okD : D → Bool
  | .non => true
  | .bl _ => true
  | .int _ => true
  | .str x => PyData.strOk x
  | .tup ds => okL ds
  | .lst ds => okL ds
  | .rdl ds => okL ds
  | .ref _ => false
  | .ty _ => false
  | .dic _ => false
def okL : List D → Bool
  | [] => true
  | d :: ds => okD d && okL ds
end
mutual
def dep : D → Nat
  | .tup ds => depL ds + 1
  | .lst ds => depL ds + 1
  | .rdl ds => depL ds + 1
  | .non => 0
  | .bl _ => 0
  | .int _ => 0
  | .str _ => 0
  | .ref _ => 0
  | .ty _ => 0
  | .dic _ => 0
def depL : List D → Nat
  | [] => 0
  | d :: ds => max (dep d) (depL ds)
end
def eqvD (d e : D) : Bool := PyData.eqv (toPy d) (toPy e)
mutual
theorem lay_ok : ∀ d : D, okD d = true → (toPy d).canLay0 = true
  | .non, _ => rfl
  | .bl _, _ => rfl
  | .int _, _ => rfl
  | .str x, h => by
    unfold okD at h
    unfold toPy PyData.canLay0
    exact h
  | .tup ds, h => by
    unfold okD at h
    unfold toPy PyData.canLay0
    exact layL_ok ds h
  | .lst ds, h => by
    unfold okD at h
    unfold toPy PyData.canLay0
    exact layL_ok ds h
  | .rdl ds, h => by
    unfold okD at h
    unfold toPy PyData.canLay0
    exact layL_ok ds h
  | .ref _, h => by unfold okD at h; cases h
  | .ty _, h => by unfold okD at h; cases h
  | .dic _, h => by unfold okD at h; cases h
theorem layL_ok : ∀ ds : List D, okL ds = true → PyData.canLayAll0 (toPyL ds) = true
  | [], _ => rfl
  | d :: ds, h => by
    unfold okL at h
    rw [Bool.and_eq_true] at h
    unfold toPyL PyData.canLayAll0
    rw [lay_ok d h.1, layL_ok ds h.2]
    rfl
end
mutual
theorem dep_ok : ∀ d : D, (toPy d).depth = dep d
  | .non => rfl
  | .bl _ => rfl
  | .int _ => rfl
  | .str x => rfl
  | .tup ds => by unfold toPy PyData.depth dep; rw [depL_ok ds]
  | .lst ds => by unfold toPy PyData.depth dep; rw [depL_ok ds]
  | .rdl ds => by unfold toPy PyData.depth dep; rw [depL_ok ds]
  | .ref _ => rfl
  | .ty _ => rfl
  | .dic _ => rfl
theorem depL_ok : ∀ ds : List D, PyData.depthAll (toPyL ds) = depL ds
  | [] => rfl
  | d :: ds => by unfold toPyL PyData.depthAll depL; rw [dep_ok d, depL_ok ds]
end
theorem shaped_ok {d : D} (h : okD d = true) (h2 : dep d ≤ 64) : SeqAt.shaped (toPy d) = true := by
  unfold SeqAt.shaped
  rw [lay_ok d h, dep_ok d, decide_eq_true h2]
  rfl
section
variable {K : Frg} {F H : Hp}
mutual
theorem dp_of (e : Ex F H) : ∀ {d : D} {v : V}, okD d = true → Rep K F d v → Dp K H v (toPy d)
  | _, _, _, .non => by unfold toPy; exact .non
  | _, _, _, .bl b => by unfold toPy; exact .bl b
  | _, _, _, .int i => by unfold toPy; exact .int i
  | _, _, _, .str x => by unfold toPy; exact .str x
  | .ref _, _, h, _ => by unfold okD at h; cases h
  | .ty _, _, h, _ => by unfold okD at h; cases h
  | _, _, h, .tup q r => by unfold okD at h; unfold toPy; exact .tup (ex_t e q) (dpL_of e h r)
  | _, _, h, .lst q r => by unfold okD at h; unfold toPy; exact .lst (SqL.of (e _ _ q)) (dpL_of e h r)
  | _, _, h, .rdl q r => by unfold okD at h; unfold toPy; exact .lst (ex_l e q) (dpL_of e h r)
  | .dic _, _, h, _ => by unfold okD at h; cases h
theorem dpL_of (e : Ex F H) : ∀ {ds : List D} {vs : List V}, okL ds = true → RepL K F ds vs → DpAll K H vs (toPyL ds)
  | _, _, _, .nil => by unfold toPyL; exact .nil
  | _, _, h, .cons q r => by
    unfold okL at h
    rw [Bool.and_eq_true] at h
    unfold toPyL
    exact .cons (dp_of e h.1 q) (dpL_of e h.2 r)
end
end
theorem eqv_self : ∀ d : D, okD d = true → eqvD d d = true := fun d h => by
  unfold eqvD
  exact SeqAt.eqv_refl _ (lay_ok d h)
/-- ==, != -/
def rEQ (K : Frg) : R2 := fun x y H Q => rEq x y H Q ∨ rEqD K x y H Q
def rNE (K : Frg) : R2 := fun x y H Q => rNe x y H Q ∨ rNeD K x y H Q
theorem op_EQ {X : Cx} (hu : X.A.units + 64 < cLine) : OpR X (compareOp .Eq) (rEQ X.K) := op_eq.or (op_eqD hu)
theorem op_NE {X : Cx} (hu : X.A.units + 64 < cLine) : OpR X (compareOp .NotEq) (rNE X.K) := op_ne.or (op_neD hu)
section
variable {Γ : Cg} {K : Frg} {F : Hp} {ms : Ms} {S : Sg} {Q : QE} {ta tb te tx : TE} {t u tt : TT} {r : R2} {ts tu tw : TS} {A : AEnds}
theorem ar_EQi {i j : Int} (q : Q F ms (.bl (decide (i = j)))) : AR K (rEQ K) (.int i) (.int j) F ms Q := ar_inl (ar_eqI q)
theorem ar_EQs {i j : Str} (q : Q F ms (.bl (decide (i = j)))) : AR K (rEQ K) (.str i) (.str j) F ms Q := ar_inl (ar_eqS q)
theorem ar_EQb {i j : Bool} (q : Q F ms (.bl (decide (i = j)))) : AR K (rEQ K) (.bl i) (.bl j) F ms Q := ar_inl (ar_eqB q)
theorem ar_NEi {i j : Int} (q : Q F ms (.bl (!decide (i = j)))) : AR K (rNE K) (.int i) (.int j) F ms Q := ar_inl (ar_neI q)
theorem ar_NEs {i j : Str} (q : Q F ms (.bl (!decide (i = j)))) : AR K (rNE K) (.str i) (.str j) F ms Q := ar_inl (ar_neS q)
theorem ar_EQd {d e : D} (h1 : okD d = true) (h2 : okD e = true) (h3 : dep d ≤ 64) (h4 : dep e ≤ 64) (q : Q F ms (.bl (eqvD d e))) : AR K (rEQ K) d e F ms Q := ar_inr fun R u v H Qc hu hv hh k =>
  ⟨toPy d, toPy e, dp_of hh.ex h1 hu, dp_of hh.ex h2 hv, shaped_ok h1 h3, shaped_ok h2 h4, k F ms _ _ H Ex.refl hh (.bl _) q⟩
theorem ar_NEd {d e : D} (h1 : okD d = true) (h2 : okD e = true) (h3 : dep d ≤ 64) (h4 : dep e ≤ 64) (q : Q F ms (.bl (!eqvD d e))) : AR K (rNE K) d e F ms Q := ar_inr fun R u v H Qc hu hv hh k =>
  ⟨toPy d, toPy e, dp_of hh.ex h1 hu, dp_of hh.ex h2 hv, shaped_ok h1 h3, shaped_ok h2 h4, k F ms _ _ H Ex.refl hh (.bl _) q⟩
/-- an owned list of plain data, compared -/
theorem ar_EQo {l : Addr} {ds : List D} {e : D} (n : Nat) (hn : ms[n]? = some (l, .lst ds)) (h1 : okL ds = true) (h2 : okD e = true) (h3 : depL ds < 64) (h4 : dep e ≤ 64) (q : Q F ms (.bl (eqvD (.lst ds) e))) : AR K (rEQ K) (.ref l) e F ms Q := ar_inr fun R u v H Qc hu hv hh k => by
  cases hu
  obtain ⟨_, vs, hl, r⟩ := hh.at (get_app hn)
  have hd : okD (.lst ds) = true := by unfold okD; exact h1
  have hd2 : dep (.lst ds) ≤ 64 := by unfold dep; omega
  exact ⟨toPy (.lst ds), toPy e, by unfold toPy; exact .lst (SqL.of hl) (dpL_of hh.ex h1 r), dp_of hh.ex h2 hv, shaped_ok hd hd2, shaped_ok h2 h4, k F ms _ _ H Ex.refl hh (.bl _) q⟩
theorem ar_NEo {l : Addr} {ds : List D} {e : D} (n : Nat) (hn : ms[n]? = some (l, .lst ds)) (h1 : okL ds = true) (h2 : okD e = true) (h3 : depL ds < 64) (h4 : dep e ≤ 64) (q : Q F ms (.bl (!eqvD (.lst ds) e))) : AR K (rNE K) (.ref l) e F ms Q := ar_inr fun R u v H Qc hu hv hh k => by
  cases hu
  obtain ⟨_, vs, hl, r⟩ := hh.at (get_app hn)
  have hd : okD (.lst ds) = true := by unfold okD; exact h1
  have hd2 : dep (.lst ds) ≤ 64 := by unfold dep; omega
  exact ⟨toPy (.lst ds), toPy e, by unfold toPy; exact .lst (SqL.of hl) (dpL_of hh.ex h1 r), dp_of hh.ex h2 hv, shaped_ok hd hd2, shaped_ok h2 h4, k F ms _ _ H Ex.refl hh (.bl _) q⟩
/-! ### is -/
def rISN : R2 := fun x y H Q => y = .non ∧ Q (.bl (decide (x = .non))) H
def rNOTN : R2 := fun x y H Q => y = .non ∧ Q (.bl (!decide (x = .non))) H
theorem op_ISN {X : Cx} : OpR X (compareOp .Is) rISN := op_isN
theorem op_NOTN {X : Cx} : OpR X (compareOp .IsNot) rNOTN := op_notN
def isN : D → Bool
  | .non => true
  | _ => false
theorem isN_v {d : D} {v : V} (r : Rep K F d v) : decide (v = .non) = isN d := by
  cases r <;> first | rfl | exact decide_eq_false (fun h => by cases h)
theorem ar_isN {d : D} (q : Q F ms (.bl (isN d))) : AR K rISN d .non F ms Q := fun R u v H Qc hu hv hh k => by
  cases hv
  refine ⟨rfl, ?_⟩
  rw [isN_v hu]
  exact k F ms _ _ H Ex.refl hh (.bl _) q
theorem ar_notN {d : D} (q : Q F ms (.bl (!isN d))) : AR K rNOTN d .non F ms Q := fun R u v H Qc hu hv hh k => by
  cases hv
  refine ⟨rfl, ?_⟩
  rw [isN_v hu]
  exact k F ms _ _ H Ex.refl hh (.bl _) q
/-! ### in -/
def rInS1 : R2 := fun x y H Q => ∃ (c : Nat) (z : Str), x = .str ⟨#[c]⟩ ∧ y = .str z ∧ Q (.bl (decide (c ∈ z.cps.toList))) H
def rNotInS1 : R2 := fun x y H Q => ∃ (c : Nat) (z : Str), x = .str ⟨#[c]⟩ ∧ y = .str z ∧ Q (.bl (!decide (c ∈ z.cps.toList))) H
def rIN (K : Frg) : R2 := fun x y H Q => rInS1 x y H Q ∨ rIn K false x y H Q
def rNOTIN (K : Frg) : R2 := fun x y H Q => rNotInS1 x y H Q ∨ rIn K true x y H Q
theorem op_INN {X : Cx} : OpR X (compareOp .In) (rIN X.K) := op_in_sign.or op_in_seq
theorem op_NOTINN {X : Cx} : OpR X (compareOp .NotIn) (rNOTIN X.K) := op_notIn_sign.or op_notIn_seq
theorem ar_INs {c : Nat} {z : Str} (q : Q F ms (.bl (decide (c ∈ z.cps.toList)))) : AR K (rIN K) (.str (sg c)) (.str z) F ms Q := ar_inl fun R u v H Qc hu hv hh k => by
  cases hu; cases hv
  exact ⟨c, z, rfl, rfl, k F ms _ _ H Ex.refl hh (.bl _) q⟩
theorem ar_NOTINs {c : Nat} {z : Str} (q : Q F ms (.bl (!decide (c ∈ z.cps.toList)))) : AR K (rNOTIN K) (.str (sg c)) (.str z) F ms Q := ar_inl fun R u v H Qc hu hv hh k => by
  cases hu; cases hv
  exact ⟨c, z, rfl, rfl, k F ms _ _ H Ex.refl hh (.bl _) q⟩
end
end AL

set_option Elab.async false
set_option linter.all false
set_option maxRecDepth 100000
set_option maxHeartbeats 4000000
namespace AL
open PySem L2
def keyD : D → Option Key
  | .int i => some (.inl i)
  | .str x => some (.inr x)
  | _ => none
theorem key_rep {K : Frg} {F : Hp} {d : D} {v : V} {k : Key} (r : Rep K F d v) (h : keyD d = some k) : v = kV k := by
  cases r <;> first | (unfold keyD at h; cases h; done) | (unfold keyD at h; cases h; rfl)
def valD (kvs : List (Key × D)) (k : Key) : Option D := (kvs.find? fun kv => decide (kv.1 = k)).map (·.2)
def putKD (kvs : List (Key × D)) (k : Key) (d : D) : List (Key × D) := if kvs.any (fun kv => decide (kv.1 = k)) then kvs.map (fun kv => if kv.1 = k then (kv.1, d) else kv) else kvs ++ [(k, d)]
section
variable {K : Frg} {F : Hp}
theorem RepK.val : ∀ {ds : List (Key × D)} {vs : List (Key × V)} (k : Key), RepK K F ds vs → (valD ds k = none ∧ valV vs k = none) ∨ ∃ d v, valD ds k = some d ∧ valV vs k = some v ∧ Rep K F d v
  | _, _, k, .nil => .inl ⟨rfl, rfl⟩
  | _, _, k, .cons (k := k') (d := d) (v := v) h r => by
    by_cases e : k' = k
    · refine .inr ⟨d, v, ?_, ?_, h⟩
      · unfold valD; rw [List.find?_cons]; simp [e]
      · exact valV_pos e
    · rcases RepK.val k r with ⟨a, b⟩ | ⟨d', v', a, b, c⟩
      · refine .inl ⟨?_, by rw [valV_neg e]; exact b⟩
        unfold valD at a ⊢; rw [List.find?_cons]; simp only [decide_eq_false e]; exact a
      · refine .inr ⟨d', v', ?_, by rw [valV_neg e]; exact b, c⟩
        unfold valD at a ⊢; rw [List.find?_cons]; simp only [decide_eq_false e]; exact a
theorem RepK.any : ∀ {ds : List (Key × D)} {vs : List (Key × V)} (k : Key), RepK K F ds vs → (ds.any fun kv => decide (kv.1 = k)) = (vs.any fun kv => decide (kv.1 = k))
  | _, _, k, .nil => rfl
  | _, _, k, .cons h r => by rw [List.any_cons, List.any_cons, RepK.any k r]
theorem RepK.repl {d : D} {v : V} (h0 : Rep K F d v) (k : Key) : ∀ {ds : List (Key × D)} {vs : List (Key × V)}, RepK K F ds vs → RepK K F (ds.map fun kv => if kv.1 = k then (kv.1, d) else kv) (vs.map fun kv => if kv.1 = k then (kv.1, v) else kv)
  | _, _, .nil => .nil
  | _, _, .cons (k := k') h r => by
    rw [List.map_cons, List.map_cons]
    by_cases e : k' = k
    · rw [if_pos e, if_pos e]; exact .cons h0 (RepK.repl h0 k r)
    · rw [if_neg e, if_neg e]; exact .cons h (RepK.repl h0 k r)
theorem RepK.put {d : D} {v : V} (h0 : Rep K F d v) (k : Key) {ds : List (Key × D)} {vs : List (Key × V)} (r : RepK K F ds vs) : RepK K F (putKD ds k d) (putK vs k v) := by
  unfold putKD putK
  rw [r.any k]
  split
  · exact r.repl h0 k
  · exact r.append (.cons h0 .nil)
end
def cutL {α : Type} (xs : List α) (lo hi : Option Int) : List α := (xs.drop (HT.sIx xs.length 0 lo)).take (HT.sIx xs.length xs.length hi - HT.sIx xs.length 0 lo)
section
variable {Γ : Cg} {K : Frg} {F : Hp} {ms : Ms} {S : Sg} {Q : QE} {ta tb te tx : TE} {t u tt : TT} {r : R2} {ts tu tw : TS} {A : AEnds}
/-- x is a dict of these pairs: frozen or owned -/
def DicA (K : Frg) (F : Hp) (ms : Ms) (x : D) (kvs : List (Key × D)) : Prop := x = .dic kvs ∨ ∃ (n : Nat) (l : Addr), x = .ref l ∧ ms[n]? = some (l, MO.dic kvs)
theorem DicA.to {x : D} {kvs : List (Key × D)} {R : Ms} {H : Hp} {v : V} (i : DicA K F ms x kvs) (hh : Hold K F (ms ++ R) H) (r : Rep K F x v) : ∃ a vs, v = .ref a ∧ H a = some (.dK vs) ∧ RepK K F kvs vs := by
  rcases i with rfl | ⟨n, l, rfl, hn⟩
  · cases r with
    | dic h q => exact ⟨_, _, rfl, hh.ex _ _ h, q⟩
  · cases r
    obtain ⟨_, vs, h, q⟩ := hh.at (get_app hn)
    exact ⟨l, vs, rfl, h, q⟩
theorem ae_dget {td ty : TE} (h : AE Γ td F ms S fun F1 ms1 x => AE Γ ty F1 ms1 S fun F2 ms2 y => ∃ k kvs d, keyD y = some k ∧ DicA Γ.K F2 ms2 x kvs ∧ valD kvs k = some d ∧ Q F2 ms2 d) : AE Γ (tDGet td ty) F ms S Q := fun R σ H Qc hs hh x k =>
  h R σ H _ hs hh x fun F1 ms1 d1 v1 H1 e1 h1 r1 q1 => q1 R σ H1 _ (hs.mono e1) h1 (x.ex e1) fun F2 ms2 y vy H2 e2 h2 r2 ⟨key, kvs, d, hk, hd, hv, q⟩ => by
    obtain ⟨a, vs, rfl, ha, rk⟩ := hd.to h2 (r1.mono e2)
    have ey := key_rep r2 hk
    subst ey
    rcases rk.val key with ⟨z, _⟩ | ⟨d', v', z1, z2, z3⟩
    · rw [hv] at z; cases z
    · rw [hv] at z1
      cases z1
      exact ⟨a, v', rfl, by rw [← z2]; exact DGet.k ha, k F2 ms2 d v' H2 (e1.trans e2) h2 z3 q⟩
theorem ae_din {td ty : TE} (h : AE Γ ty F ms S fun F1 ms1 y => AE Γ td F1 ms1 S fun F2 ms2 x => ∃ k kvs, keyD y = some k ∧ DicA Γ.K F2 ms2 x kvs ∧ Q F2 ms2 (.bl (valD kvs k).isSome)) : AE Γ (tDIn ty td) F ms S Q := fun R σ H Qc hs hh x k =>
  h R σ H _ hs hh x fun F1 ms1 y vy H1 e1 h1 r1 q1 => q1 R σ H1 _ (hs.mono e1) h1 (x.ex e1) fun F2 ms2 d1 v1 H2 e2 h2 r2 ⟨key, kvs, hk, hd, q⟩ => by
    obtain ⟨a, vs, rfl, ha, rk⟩ := hd.to h2 r2
    have ey := key_rep (r1.mono e2) hk
    subst ey
    refine ⟨a, _, rfl, DGet.k ha, k F2 ms2 _ _ H2 (e1.trans e2) h2 ?_ q⟩
    rcases rk.val key with ⟨z1, z2⟩ | ⟨d', v', z1, z2, _⟩
    · rw [z1, z2]; exact .bl false
    · rw [z1, z2]; exact .bl true
theorem ae_dnotin {td ty : TE} (h : AE Γ ty F ms S fun F1 ms1 y => AE Γ td F1 ms1 S fun F2 ms2 x => ∃ k kvs, keyD y = some k ∧ DicA Γ.K F2 ms2 x kvs ∧ Q F2 ms2 (.bl (!(valD kvs k).isSome))) : AE Γ (tDNotIn ty td) F ms S Q := fun R σ H Qc hs hh x k =>
  h R σ H _ hs hh x fun F1 ms1 y vy H1 e1 h1 r1 q1 => q1 R σ H1 _ (hs.mono e1) h1 (x.ex e1) fun F2 ms2 d1 v1 H2 e2 h2 r2 ⟨key, kvs, hk, hd, q⟩ => by
    obtain ⟨a, vs, rfl, ha, rk⟩ := hd.to h2 r2
    have ey := key_rep (r1.mono e2) hk
    subst ey
    refine ⟨a, _, rfl, DGet.k ha, k F2 ms2 _ _ H2 (e1.trans e2) h2 ?_ q⟩
    rcases rk.val key with ⟨z1, z2⟩ | ⟨d', v', z1, z2, _⟩
    · rw [z1, z2]; exact .bl true
    · rw [z1, z2]; exact .bl false
theorem ae_dget2 {td ty : TE} (h : AE Γ td F ms S fun F1 ms1 x => ∃ kvs, DicA Γ.K F1 ms1 x kvs ∧ AE Γ ty F1 ms1 S fun F2 ms2 y => AE Γ tx F2 ms2 S fun F3 ms3 z => ∃ k, keyD y = some k ∧ DicA Γ.K F3 ms3 x kvs ∧ Q F3 ms3 ((valD kvs k).getD z)) : AE Γ (tDGet2 td ty tx) F ms S Q := fun R σ H Qc hs hh x k =>
  h R σ H _ hs hh x fun F1 ms1 d1 v1 H1 e1 h1 r1 ⟨kvs, hd0, q1⟩ => by
    obtain ⟨a, vs, rfl, ha, rk⟩ := hd0.to h1 r1
    refine ⟨a, rfl, .inl ⟨vs, .inl ha⟩, q1 R σ H1 _ (hs.mono e1) h1 (x.ex e1) fun F2 ms2 y vy H2 e2 h2 r2 q2 => q2 R σ H2 _ (hs.mono (e1.trans e2)) h2 (x.ex (e1.trans e2)) fun F3 ms3 z vz H3 e3 h3 r3 ⟨key, hk, hd, q⟩ => ?_⟩
    obtain ⟨a', vs', ea, ha', rk'⟩ := hd.to h3 (r1.mono (e2.trans e3))
    cases ea
    have ey := key_rep (r2.mono e3) hk
    subst ey
    refine ⟨_, DGet.k ha', k F3 ms3 _ _ H3 ((e1.trans e2).trans e3) h3 ?_ q⟩
    rcases rk'.val key with ⟨z1, z2⟩ | ⟨d', v', z1, z2, z3⟩
    · rw [z1, z2]; exact r3
    · rw [z1, z2]; exact z3
theorem length_putKD (kvs : List (Key × D)) (k : Key) (d : D) : (putKD kvs k d).length ≤ kvs.length + 1 := by
  unfold putKD
  split
  · rw [List.length_map]; exact Nat.le_succ _
  · rw [List.length_append, List.length_singleton]; exact Nat.le_refl _
theorem as_dput {td ty tv : TE} (h : AE Γ tv F ms S fun F1 ms1 v => AE Γ td F1 ms1 S fun F2 ms2 x => AE Γ ty F2 ms2 S fun F3 ms3 y => ∃ (n : Nat) (l : Addr) (kvs : List (Key × D)) (k : Key), x = .ref l ∧ ms3[n]? = some (l, .dic kvs) ∧ keyD y = some k ∧ kvs.length < 100000 ∧ A.nx F3 (ms3.set n (l, .dic (putKD kvs k v))) S) :
    AS Γ (sDPut td ty tv) F ms S A := fun R E σ H hs hh l =>
  h R σ H _ hs hh l.xe fun F1 ms1 v vv H1 e1 h1 r1 q1 => q1 R σ H1 _ (hs.mono e1) h1 (l.xe.ex e1) fun F2 ms2 x2 v2 H2 e2 h2 r2 q2 => q2 R σ H2 _ (hs.mono (e1.trans e2)) h2 (l.xe.ex (e1.trans e2)) fun F3 ms3 y vy H3 e3 h3 r3 ⟨n, a, kvs, key, hx, hn, hk, hz, q⟩ => by
    subst hx
    cases r2
    have ey := key_rep r3 hk
    subst ey
    obtain ⟨_, vs, ha, rk⟩ := h3.at (get_app hn)
    refine ⟨a, _, rfl, DPut.k ha (Evl.sz_lt (by rw [← rk.len]; exact hz)), l.nx F3 (ms3.set n (a, .dic (putKD kvs key v))) S σ _ ((e1.trans e2).trans e3) (hs.mono ((e1.trans e2).trans e3)) ?_ q⟩
    rw [← set_app hn]
    exact h3.set (get_app hn) ⟨_, upd_same, rk.put (r1.mono (e2.trans e3)) key⟩
/-! ### methods of built-in types -/
theorem ae_bmS {rm : V → List V → Hp → VK → Prop} {to : TE} {ta : TA} (h : AE Γ to F ms S fun F1 ms1 x => ∃ z, x = .str z ∧ AA Γ ta F1 ms1 S fun F2 ms2 ds => AM Γ.K "str" rm (.str z) ds F2 ms2 Q) : AE Γ (tBM Γ.K "str" rm to ta) F ms S Q := fun R σ H Qc hs hh x k =>
  h R σ H _ hs hh x fun F1 ms1 d1 v1 H1 e1 h1 r1 ⟨z, hz, q1⟩ => by
    subst hz
    cases r1
    exact ⟨rfl, q1 R σ H1 _ (hs.mono e1) h1 (x.ex e1) fun F2 ms2 ds vs H2 e2 h2 r2 q2 => q2 R _ vs H2 Qc (.str z) r2 h2 fun F3 ms3 d v H3 e3 h3 r3 q3 => k F3 ms3 d v H3 ((e1.trans e2).trans e3) h3 r3 q3⟩
theorem ae_bmS0 {rm : V → List V → Hp → VK → Prop} {to : TE} (h : AE Γ to F ms S fun F1 ms1 x => ∃ z, x = .str z ∧ AM Γ.K "str" rm (.str z) [] F1 ms1 Q) : AE Γ (tBM0 Γ.K "str" rm to) F ms S Q := fun R σ H Qc hs hh x k =>
  h R σ H _ hs hh x fun F1 ms1 d1 v1 H1 e1 h1 r1 ⟨z, hz, q1⟩ => by
    subst hz
    cases r1
    exact ⟨rfl, q1 R _ [] H1 Qc (.str z) .nil h1 fun F3 ms3 d v H3 e3 h3 r3 q3 => k F3 ms3 d v H3 (e1.trans e3) h3 r3 q3⟩
/-- a list: frozen or owned, with its items -/
def LstA (F : Hp) (ms : Ms) (x : D) (ds : List D) : Prop := (x = .lst ds ∨ x = .rdl ds) ∨ ∃ (n : Nat) (l : Addr), x = .ref l ∧ ms[n]? = some (l, MO.lst ds)
theorem LstA.to {x : D} {ds : List D} {R : Ms} {H : Hp} {v : V} (i : LstA F ms x ds) (hh : Hold K F (ms ++ R) H) (r : Rep K F x v) : ∃ a vs, v = .ref a ∧ SqL K H a vs ∧ RepL K F ds vs := by
  rcases i with hd | ⟨n, l, rfl, hn⟩
  · exact rep_l (a := 0) hd r hh.ex
  · cases r
    obtain ⟨_, vs, h, q⟩ := hh.at (get_app hn)
    exact ⟨l, vs, rfl, SqL.of h, q⟩
theorem ae_bmL {rm : V → List V → Hp → VK → Prop} {to : TE} {ta : TA} (h : AE Γ to F ms S fun F1 ms1 x => ∃ ds0, LstA F1 ms1 x ds0 ∧ AA Γ ta F1 ms1 S fun F2 ms2 ds => AM Γ.K "list" rm x ds F2 ms2 Q) : AE Γ (tBM Γ.K "list" rm to ta) F ms S Q := fun R σ H Qc hs hh x k =>
  h R σ H _ hs hh x fun F1 ms1 d1 v1 H1 e1 h1 r1 ⟨ds0, hl, q1⟩ => by
    obtain ⟨a, vs0, rfl, ha, _⟩ := hl.to h1 r1
    exact ⟨.inl ⟨rfl, _, ha⟩, q1 R σ H1 _ (hs.mono e1) h1 (x.ex e1) fun F2 ms2 ds vs H2 e2 h2 r2 q2 => q2 R _ vs H2 Qc (r1.mono e2) r2 h2 fun F3 ms3 d v H3 e3 h3 r3 q3 => k F3 ms3 d v H3 ((e1.trans e2).trans e3) h3 r3 q3⟩
theorem ae_bmL0 {rm : V → List V → Hp → VK → Prop} {to : TE} (h : AE Γ to F ms S fun F1 ms1 x => ∃ ds0, LstA F1 ms1 x ds0 ∧ AM Γ.K "list" rm x [] F1 ms1 Q) : AE Γ (tBM0 Γ.K "list" rm to) F ms S Q := fun R σ H Qc hs hh x k =>
  h R σ H _ hs hh x fun F1 ms1 d1 v1 H1 e1 h1 r1 ⟨ds0, hl, q1⟩ => by
    obtain ⟨a, vs0, rfl, ha, _⟩ := hl.to h1 r1
    exact ⟨.inl ⟨rfl, _, ha⟩, q1 R _ [] H1 Qc r1 .nil h1 fun F3 ms3 d v H3 e3 h3 r3 q3 => k F3 ms3 d v H3 (e1.trans e3) h3 r3 q3⟩
theorem am_append {l : Addr} {xs : List D} {d : D} (n : Nat) (hn : ms[n]? = some (l, .lst xs)) (hz : xs.length < 100000) (q : Q F (ms.set n (l, .lst (xs ++ [d]))) .non) : AM K "list" rAppend (.ref l) [d] F ms Q := fun R u vs H Qc hu hv hh k => by
  cases hu
  cases hv with
  | cons h1 h2 =>
    cases h2
    obtain ⟨_, ys, hl, r⟩ := hh.at (get_app hn)
    refine ⟨l, ys, _, rfl, rfl, hl, Evl.sz_lt (by rw [← r.len]; exact hz), k F (ms.set n (l, .lst (xs ++ [d]))) .non _ _ Ex.refl ?_ .non q⟩
    rw [← set_app hn]
    exact hh.set (get_app hn) ⟨_, upd_same, r.append (RepL.one h1)⟩
theorem am_popAt {l : Addr} {xs : List D} {z : Int} {j : Nat} {d : D} (n : Nat) (hn : ms[n]? = some (l, .lst xs)) (hz : z = (j : Int)) (hx : xs.length ≤ 100000) (hj : xs[j]? = some d) (q : Q F (ms.set n (l, .lst (xs.eraseIdx j))) d) : AM K "list" rPopAt (.ref l) [.int z] F ms Q := fun R u vs H Qc hu hv hh k => by
  cases hu
  cases hv with
  | cons h1 h2 =>
    cases h2
    cases h1
    obtain ⟨_, ys, hl, r⟩ := hh.at (get_app hn)
    obtain ⟨v, hv, rv⟩ := r.getD hj
    have hlt : j < ys.length := (List.getElem?_eq_some_iff.mp hv).1
    have := r.len
    subst hz
    refine ⟨l, ys, (j : Int), j, v, rfl, rfl, hl, by omega, by omega, ?_, hv, k F (ms.set n (l, .lst (xs.eraseIdx j))) d v _ Ex.refl ?_ rv q⟩
    · unfold seqIndex?
      simp
      omega
    · rw [← set_app hn]
      exact hh.set (get_app hn) ⟨_, upd_same, r.eraseIdx j⟩
def rJOIN (K : Frg) : V → List V → Hp → VK → Prop := fun x xs H Q => ∃ a p, ∃ ys : List Str, x = .str a ∧ xs = [.ref p] ∧ (SqL K H p (ys.map V.str) ∨ SqT K H p (ys.map V.str)) ∧ (ys.map (·.length)).sum + ys.length * a.length ≤ 16777216 ∧ Q (.str (Txt.join a ys)) H
theorem mt_JOIN {X : Cx} : MtR X "str.join" (rJOIN X.K) := mt_join
theorem strs_rep : ∀ {ys : List Str} {vs : List V}, RepL K F (ys.map D.str) vs → vs = ys.map V.str
  | [], _, .nil => rfl
  | y :: ys, _, .cons h r => by
    cases h
    rw [strs_rep r]
    rfl
theorem am_join {a : Str} {ys : List Str} {x : D} (hx : (x = .lst (ys.map D.str) ∨ x = .rdl (ys.map D.str)) ∨ x = .tup (ys.map D.str)) (hz : (ys.map (·.length)).sum + ys.length * a.length ≤ 1000000) (q : Q F ms (.str (Txt.join a ys))) : AM K "str" (rJOIN K) (.str a) [x] F ms Q := fun R u vs H Qc hu hv hh k => by
  cases hu
  cases hv with
  | @cons _ v1 _ _ h1 h2 =>
    cases h2
    suffices hs : ∃ p, v1 = V.ref p ∧ (SqL K H p (ys.map V.str) ∨ SqT K H p (ys.map V.str)) by
      obtain ⟨p, e, hp⟩ := hs
      exact ⟨a, p, ys, rfl, by rw [e], hp, by omega, k F ms _ _ H Ex.refl hh (.str _) q⟩
    rcases hx with hx | rfl
    · obtain ⟨p, zs, e, h3, h4⟩ := rep_l (a := 0) hx h1 hh.ex
      rw [strs_rep h4] at h3
      exact ⟨p, e, .inl h3⟩
    · cases h1 with
      | tup h3 h4 =>
        rw [strs_rep h4] at h3
        exact ⟨_, rfl, .inr (ex_t hh.ex h3)⟩
/-! ### slices -/
def AO (Γ : Cg) (to : TO) (F : Hp) (ms : Ms) (S : Sg) (Q : Hp → Ms → Option Int → Prop) : Prop := ∀ (R : Ms) σ H (Qc : Option Int → Hp → Prop), SRep Γ.K F S σ → Hold Γ.K F (ms ++ R) H → XLe Γ R F → (∀ F' ms' o H', Ex F F' → Hold Γ.K F' (ms' ++ R) H' → Q F' ms' o → Qc o H') → to σ H Qc
theorem ao_none {Q : Hp → Ms → Option Int → Prop} (q : Q F ms none) : AO Γ tNoPart F ms S Q := fun R σ H Qc hs hh x k => k F ms none H Ex.refl hh q
theorem ao_some {Q : Hp → Ms → Option Int → Prop} (h : AE Γ te F ms S fun F' ms' d => ∃ i, d = .int i ∧ Q F' ms' (some i)) : AO Γ (tPart te) F ms S Q := fun R σ H Qc hs hh x k =>
  h R σ H _ hs hh x fun F1 ms1 d1 v1 H1 e1 h1 r1 ⟨i, hi, q⟩ => by
    subst hi
    cases r1
    exact ⟨i, rfl, k F1 ms1 (some i) H1 e1 h1 q⟩
def ASl (K : Frg) (r : V → Option Int → Option Int → Hp → VK → Prop) (x : D) (lo hi : Option Int) (F : Hp) (ms : Ms) (Q : QE) : Prop := ∀ (R : Ms) u H (Qc : VK), Rep K F x u → Hold K F (ms ++ R) H → (∀ F' ms' d v H', Ex F F' → Hold K F' (ms' ++ R) H' → Rep K F' d v → Q F' ms' d → Qc v H') → r u lo hi H Qc
theorem ae_sl {r : V → Option Int → Option Int → Hp → VK → Prop} {tl th : TO} (h : AE Γ te F ms S fun F1 ms1 x => AO Γ tl F1 ms1 S fun F2 ms2 lo => AO Γ th F2 ms2 S fun F3 ms3 hi => ASl Γ.K r x lo hi F3 ms3 Q) : AE Γ (tSl r te tl th) F ms S Q := fun R σ H Qc hs hh x k =>
  h R σ H _ hs hh x fun F1 ms1 d1 v1 H1 e1 h1 r1 q1 => q1 R σ H1 _ (hs.mono e1) h1 (x.ex e1) fun F2 ms2 lo H2 e2 h2 q2 => q2 R σ H2 _ (hs.mono (e1.trans e2)) h2 (x.ex (e1.trans e2)) fun F3 ms3 hi H3 e3 h3 q3 =>
    q3 R v1 H3 Qc (r1.mono (e2.trans e3)) h3 fun F4 ms4 d v H4 e4 h4 r4 q4 => k F4 ms4 d v H4 (((e1.trans e2).trans e3).trans e4) h4 r4 q4
def rSLC (K : Frg) : V → Option Int → Option Int → Hp → VK → Prop := fun x lo hi H Q => rSlL K x lo hi H Q ∨ (rSlA K x lo hi H Q ∨ rSlS x lo hi H Q)
theorem sl_SLC {X : Cx} : SlR X (rSLC X.K) := sl_list.or (sl_tupA.or sl_str)
theorem cut_rep {ds : List D} {vs : List V} (r : RepL K F ds vs) (lo hi : Option Int) : RepL K F (cutL ds lo hi) (cutV vs lo hi) := by
  unfold cutL cutV
  rw [r.len]
  exact (r.drop _).take _
theorem sl_L {x : D} {ds : List D} {lo hi : Option Int} (hx : LstA F ms x ds) (q : ∀ F', Ex F F' → Q F' ms (.lst (cutL ds lo hi))) : ASl K (rSLC K) x lo hi F ms Q := fun R u H Qc hu hh k => by
  obtain ⟨a, vs, rfl, ha, r⟩ := hx.to hh hu
  refine .inl ⟨a, vs, rfl, ha, fun p hp => ?_⟩
  obtain ⟨e, hh'⟩ := hh.laid (.lst (cutV vs lo hi)) hp
  exact k _ ms _ _ _ e hh' (.lst upd_same ((cut_rep r lo hi).mono e)) (q _ e)
theorem sl_Lo {x : D} {ds : List D} {lo hi : Option Int} (hx : LstA F ms x ds) (q : ∀ l, Q F ((l, .lst (cutL ds lo hi)) :: ms) (.ref l)) : ASl K (rSLC K) x lo hi F ms Q := fun R u H Qc hu hh k => by
  obtain ⟨a, vs, rfl, ha, r⟩ := hx.to hh hu
  refine .inl ⟨a, vs, rfl, ha, fun p hp => ?_⟩
  exact k F ((p, .lst (cutL ds lo hi)) :: ms) (.ref p) _ _ Ex.refl (hh.made (m := .lst (cutL ds lo hi)) hp ⟨_, upd_same, cut_rep r lo hi⟩) (.ref p) (q p)
theorem sIx_le (n d : Nat) (hd : d ≤ n) (o : Option Int) : True := trivial
theorem sl_T {ds : List D} {lo hi : Option Int} (q : ∀ F', Ex F F' → Q F' ms (.tup (cutL ds lo hi))) : ASl K (rSLC K) (.tup ds) lo hi F ms Q := fun R u H Qc hu hh k => by
  cases hu with
  | @tup a xs _ h r =>
    refine .inr (.inl ⟨a, xs, rfl, ex_t hh.ex h, fun hw => ?_, fun _ p hp => ?_⟩)
    · have q' := q F Ex.refl
      have e : cutL ds lo hi = ds := by
        unfold cutL
        rw [r.len, hw.1, hw.2, List.drop_zero, Nat.sub_zero, ← r.len, List.take_length]
      rw [e] at q'
      exact k F ms _ _ H Ex.refl hh (.tup h r) q'
    · obtain ⟨e, hh'⟩ := hh.laid (.tup (cutV xs lo hi)) hp
      exact k _ ms _ _ _ e hh' (.tup (SqT.of upd_same) ((cut_rep r lo hi).mono e)) (q _ e)
theorem sl_S {z : Str} {lo hi : Option Int} (hz : z.length ≤ 100000) (q : Q F ms (.str (cutS z lo hi))) : ASl K (rSLC K) (.str z) lo hi F ms Q := fun R u H Qc hu hh k => by
  cases hu
  exact .inr (.inr ⟨z, rfl, Evl.sz_of hz, k F ms _ _ H Ex.refl hh (.str _) q⟩)
end
end AL

set_option Elab.async false
set_option linter.all false
set_option maxRecDepth 100000
set_option maxHeartbeats 4000000
namespace AL
open PySem PySem.Spec PyProof.Rows L2
open AutoSeq1 (wpAny_loadPart')
/-! ### enumerate of a tuple, of a text -/
def IteT (K : Frg) (a : Addr) : It :=
  ⟨fun i H => ∃ (xs : List V) (x : V), SqT K H a xs ∧ xs[i]? = some x, fun i H v H' => ∃ T x, v = .ref T ∧ H T = none ∧ H' = upd H T (.tup [.int (i : Nat), x]) ∧ ∀ xs, SqT K H a xs → xs[i]? = some x, fun i H => ∃ xs : List V, SqT K H a xs ∧ xs.length = i⟩
theorem turn_enumT {P : Program} {w : World} {K : Frg} {elts : List Expr} {kk : Nat} {tpos : Pos} (a e it : Addr) :
    Turn P w K (.Tuple elts kk tpos) (IteT K a) [e, it] e (fun i h => (∃ old, IsEnum h e it ((i : Nat) : Int) old) ∧ h.IsTupleIter it a i ∧ e ≠ it) where
  mem := by simp
  obj := fun i h st b hb => by
    obtain ⟨⟨old, he⟩, ⟨o, ho, hc, hd⟩, _⟩ := st
    have e' : b = e ∨ b = it := by simpa using hb
    rcases e' with z | z
    · rw [z]; exact ⟨_, he, fun v q => nomatch q⟩
    · rw [z]; exact ⟨o, ho, fun v q => by rw [hd] at q; cases q⟩
  keep := fun i h h' st k => let ⟨⟨old, he⟩, hi, hne⟩ := st; ⟨⟨old, k e (by simp) _ he⟩, hi.at fun o q => k it (by simp) o q, hne⟩
  item := by
    intro X hP hw hK hc i pins s σ H E I hf st hg
    subst hP hw hK
    obtain ⟨⟨old, he⟩, hit, hne⟩ := st
    obtain ⟨xs, x, hq, hx⟩ := hg
    obtain ⟨its, rv, p, hz⟩ := I.tuple hq
    obtain ⟨u, hu, ru⟩ := rv.get hx
    have hel : e < s.heap.objs.size := Heap.lt_size he
    have hil : it < s.heap.objs.size := by obtain ⟨_, q, _⟩ := hit; exact Heap.lt_size q
    have ite : ∃ o, s.heap.get? it = some o ∧ o.cls = .type "tuple_iterator" := by obtain ⟨o, q, c, _⟩ := hit; exact ⟨o, q, c⟩
    have hta : a ≠ it := fun z => by
      obtain ⟨o, q, c⟩ := ite
      obtain ⟨o', q', c', _⟩ := id p
      rw [z, q] at q'; cases q'; rw [c] at c'; injection c' with z1; exact absurd z1 (by decide)
    have hea : e ≠ a := fun z => by
      obtain ⟨o', q', c', _⟩ := id p
      have he' := he
      rw [z] at he'
      rw [show s.heap.get? a = _ from he'] at q'
      cases q'
      injection c' with z1
      exact absurd z1 (by decide)
    have hx' : its.toArray[i]? = some u := by simpa using hu
    have hlt : i < its.toArray.size := (Array.getElem?_eq_some_iff.mp hx').1
    refine wpAny_pyNext_enum_itemD (Draws.tuple (A := X.A.in1) (I.ok.hd hc) it a hta its.toArray) he ⟨hit, p⟩ hlt hne (by simp [hne, hea]) fun y h' tk hy ho hit' hT hsz hk => ?_
    have ey : y = u := by
      have hy' : its.toArray[i]? = some y := hy
      rw [hx'] at hy'; cases hy'; rfl
    subst ey
    refine ⟨_, rfl, wpAny_letOwnedTupleGo_enum (s := { s with heap := h', toks := tk + 1 }) ho fun h'' he' sb => ?_⟩
    have hT2 : h''.get? s.heap.objs.size = some { cls := .type "tuple", data := .seq #[.int i tk, y] } := (sb.2 _ (Nat.ne_of_gt hel)).trans hT
    have new : ObjOk X.prog X.w (upd H s.heap.objs.size (.tup [.int (i : Nat), x])) h'' s.heap.objs.size (.tup [.int (i : Nat), x]) :=
      ⟨by show 2 ≤ sizeLine; decide, [.int i tk, y], .cons ⟨_, rfl⟩ (.cons ru .nil), ⟨_, hT2, rfl, _, rfl⟩⟩
    have I1 : Inv X pins σ (upd H s.heap.objs.size (.tup [.int (i : Nat), x])) { s with heap := h'', toks := tk + 1 } :=
      I.turnedNew (ch := [e, it]) (fun b ob hb q => (sb.2 b (fun z => hb (by simp [z]))).trans (hk b ob (fun z => hb (by simp [z])) (fun z => hb (by simp [z])) q)) hf (Nat.le_refl _) new
    refine ⟨.ref s.heap.objs.size, _, I1, rfl, ⟨_, x, rfl, I.hok.fresh (Nat.le_refl _), rfl, fun ys hy => by rw [I.tuple_inj hy hq]; exact hx⟩, ⟨⟨y, ?_⟩, hit'.1.at fun o q => (sb.2 it (Ne.symm hne)).trans q, hne⟩, fun b hb => ?_⟩
    · have e1 : ((i + 1 : Nat) : Int) = (i : Int) + 1 := by omega
      rw [e1]; exact he'
    · have hb' : b < s.heap.objs.size := by
        have e' : b = e ∨ b = it := by simpa using hb
        rcases e' with z | z
        · rw [z]; exact hel
        · rw [z]; exact hil
      rw [upd_ne (Nat.ne_of_lt hb')]
      exact (hf b hb).1
  done := by
    intro X hP hw hK hc i pins s σ H E I hf st hg
    subst hP hw hK
    obtain ⟨⟨old, he⟩, hit, hne⟩ := st
    obtain ⟨xs, hq, hx⟩ := hg
    obtain ⟨its, rv, p, hz⟩ := I.tuple hq
    obtain ⟨f0, f1, f2, f3, f4, f5⟩ := hf it (by simp)
    have hl := rv.length
    have hta : a ≠ it := fun z => by
      obtain ⟨o, q, c, _⟩ := hit
      obtain ⟨o', q', c', _⟩ := id p
      rw [z, q] at q'; cases q'; rw [c] at c'; injection c' with z1; exact absurd z1 (by decide)
    have hn : its.toArray.size = i := by simp; omega
    exact wpAny_pyNext_enum_endD (Draws.tuple (A := X.A.in1) (I.ok.hd hc) it a hta its.toArray) he ⟨by rw [hn]; exact hit, p⟩ fun h' eb => ⟨rfl, I.turned (t' := s.toks) (fun b o hb q => eb b o hb q) f0 f1 f3 f4 f5⟩
  self := fun A i s Q E st h => let ⟨⟨_, he⟩, _⟩ := st; wpAny_pyIter_enum he h
def IteS (z : Str) : It :=
  ⟨fun i H => i < z.cps.size, fun i H v H' => ∃ T c, v = .ref T ∧ H T = none ∧ H' = upd H T (.tup [.int (i : Nat), .str ⟨#[c]⟩]) ∧ z.cps[i]? = some c, fun i H => i = z.cps.size⟩
theorem turn_enumS {P : Program} {w : World} {K : Frg} {elts : List Expr} {kk : Nat} {tpos : Pos} (z : Str) (t : Tok) (e it : Addr) :
    Turn P w K (.Tuple elts kk tpos) (IteS z) [e, it] e (fun i h => (∃ old, IsEnum h e it ((i : Nat) : Int) old) ∧ h.IsStrIter it (strIterType z) z t i ∧ e ≠ it) where
  mem := by simp
  obj := fun i h st b hb => by
    obtain ⟨⟨old, he⟩, ⟨o, ho, hc, hd⟩, _⟩ := st
    have e' : b = e ∨ b = it := by simpa using hb
    rcases e' with z | z
    · rw [z]; exact ⟨_, he, fun v q => nomatch q⟩
    · rw [z]; exact ⟨o, ho, fun v q => by rw [hd] at q; cases q⟩
  keep := fun i h h' st k => let ⟨⟨old, he⟩, ⟨o, ho, r⟩, hne⟩ := st; ⟨⟨old, k e (by simp) _ he⟩, ⟨o, k it (by simp) o ho, r⟩, hne⟩
  item := by
    intro X hP hw hK hc i pins s σ H E I hf st hg
    subst hP hw hK
    obtain ⟨⟨old, he⟩, hit, hne⟩ := st
    have hel : e < s.heap.objs.size := Heap.lt_size he
    have hil : it < s.heap.objs.size := by obtain ⟨_, q, _⟩ := hit; exact Heap.lt_size q
    refine wpAny_pyNext_enum_itemD (Draws.text (A := X.A.in1) (I.ok.hd hc) it z t) he hit hg hne (by simp [hne]) fun y h' tk hy ho hit' hT hsz hk => ?_
    obtain ⟨c, u, hcx, ey⟩ := hy
    subst ey
    refine ⟨_, rfl, wpAny_letOwnedTupleGo_enum (s := { s with heap := h', toks := tk + 1 }) ho fun h'' he' sb => ?_⟩
    have hT2 : h''.get? s.heap.objs.size = some { cls := .type "tuple", data := .seq #[.int i tk, .str ⟨#[c]⟩ u] } := (sb.2 _ (Nat.ne_of_gt hel)).trans hT
    have new : ObjOk X.prog X.w (upd H s.heap.objs.size (.tup [.int (i : Nat), .str ⟨#[c]⟩])) h'' s.heap.objs.size (.tup [.int (i : Nat), .str ⟨#[c]⟩]) :=
      ⟨by show 2 ≤ sizeLine; decide, [.int i tk, .str ⟨#[c]⟩ u], .cons ⟨_, rfl⟩ (.cons ⟨_, rfl⟩ .nil), ⟨_, hT2, rfl, _, rfl⟩⟩
    have I1 : Inv X pins σ (upd H s.heap.objs.size (.tup [.int (i : Nat), .str ⟨#[c]⟩])) { s with heap := h'', toks := tk + 1 } :=
      I.turnedNew (ch := [e, it]) (fun b ob hb q => (sb.2 b (fun z => hb (by simp [z]))).trans (hk b ob (fun z => hb (by simp [z])) (fun z => hb (by simp [z])) q)) hf (Nat.le_refl _) new
    refine ⟨.ref s.heap.objs.size, _, I1, rfl, ⟨_, c, rfl, I.hok.fresh (Nat.le_refl _), rfl, hcx⟩, ⟨⟨.str ⟨#[c]⟩ u, ?_⟩, ?_, hne⟩, fun b hb => ?_⟩
    · have e1 : ((i + 1 : Nat) : Int) = (i : Int) + 1 := by omega
      rw [e1]; exact he'
    · obtain ⟨o, ho, r⟩ := hit'
      exact ⟨o, (sb.2 it (Ne.symm hne)).trans ho, r⟩
    · have hb' : b < s.heap.objs.size := by
        have e' : b = e ∨ b = it := by simpa using hb
        rcases e' with z | z
        · rw [z]; exact hel
        · rw [z]; exact hil
      rw [upd_ne (Nat.ne_of_lt hb')]
      exact (hf b hb).1
  done := by
    intro X hP hw hK hc i pins s σ H E I hf st hg
    subst hP hw hK
    obtain ⟨⟨old, he⟩, hit, hne⟩ := st
    have hg' : i = z.cps.size := hg
    subst hg'
    obtain ⟨f0, f1, f2, f3, f4, f5⟩ := hf it (by simp)
    exact wpAny_pyNext_enum_endD (Draws.text (A := X.A.in1) (I.ok.hd hc) it z t) he hit fun h' eb => ⟨rfl, I.turned (t' := s.toks) (fun b o hb q => eb b o hb q) f0 f1 f3 f4 f5⟩
  self := fun A i s Q E st h => let ⟨⟨_, he⟩, _⟩ := st; wpAny_pyIter_enum he h
set_option maxHeartbeats 1000000 in
theorem meets_enumerate_newB1 {v : Value} {o : Obj} {H : Heap → Prop} (B : Begins v o H) :
    Meets (Builtin.«enumerate.__new__» ⟨[.type "enumerate", v], []⟩) (fun _ R s => H s.heap ∧
      R (.ok (.ret (.ref (s.heap.push o).objs.size))) { s with heap := (s.heap.push o).push { cls := .type "enumerate", data := .fields #[.none, .bool false, .ref s.heap.objs.size, rawInt 0, .none, .none] } }) :=
  .of_wp fun prog w A R s h => by
    obtain ⟨hp, g, d, tk, os⟩ := s; obtain ⟨h1, h⟩ := h
    have hsub := sub_enumerate
    have q1 : ∀ {A' : Around} {E : Value → Shared → Prop} {Q : Value → Shared → Prop}, Q (.ref hp.objs.size) ⟨hp.push o, g, d, tk, os⟩ → wpAny (model prog w) A' (pyIter v) Q E ⟨hp, g, d, tk, os⟩ :=
      fun q => B.iter prog w _ _ ⟨hp, g, d, tk, os⟩ _ h1 q
    wp_walk using q1
    refine wpAny_stack_any fun st => wpAny_pure ?_
    split
    · rename_i c _ _ _ _ _
      cases (c == Value.type "enumerate")
      · wp_walk using q1
        exact ⟨_, rfl, h⟩
      · wp_walk using q1
        exact ⟨_, rfl, h⟩
    · wp_walk using q1
      exact ⟨_, rfl, h⟩
def iEnumA (K : Frg) (ta : TA) : TI := fun σ H R => ta σ H fun vs H1 => (∃ a xs, vs = [.ref a] ∧ SqL K H1 a xs ∧ R (Ite K a) H1) ∨ (∃ a xs, vs = [.ref a] ∧ SqT K H1 a xs ∧ R (IteT K a) H1) ∨ ∃ z, vs = [.str z] ∧ R (IteS z) H1
theorem pi_enumA {X : Cx} {e : Expr} {ta : TA} {p pos tpos : Pos} {elts : List Expr} {kk : Nat} (hg : Gl X "enumerate") (hm : X.mg "enumerate" = none) (ha : PA X [e] ta) (hs : starEach [e] X.env = [(false, eval e X.env)] := by rfl) :
    PI X (.Tuple elts kk tpos) (.Call (.Name "enumerate" p) [e] [] pos) (iEnumA X.K ta) := by
  refine ⟨fun pins s σ H R I h => ?_⟩
  refine Call_ (ld_blt I hg hm boot_enumerate (PyProof.Rows.callWith_type1 (thn (ha.run pos pins s σ H _ I h) fun us s1 ⟨vs, H1, I1, r1, q1⟩ => ?_) hs rfl))
  have fresh2 : ∀ b ∈ [s1.heap.objs.size + 1, s1.heap.objs.size], FpOk X pins H1 b := fun b hb => by
    have e' : b = s1.heap.objs.size + 1 ∨ b = s1.heap.objs.size := by simpa using hb
    have hle : s1.heap.objs.size ≤ b := by
      rcases e' with z | z
      · rw [z]; exact Nat.le_add_right _ _
      · rw [z]; exact Nat.le_refl _
    exact I1.fpOk hle (I1.hok.fresh hle)
  rcases q1 with ⟨a, xs, ex, hq, q⟩ | ⟨a, xs, ex, hq, q⟩ | ⟨z, ex, q⟩
  · subst ex
    cases r1 with
    | cons r rr =>
      cases rr
      cases r
      obtain ⟨its, rv, p', hz⟩ := I1.list hq
      refine call_enumerate_list p'.isList fun h' he hit hsz hk => wpAny_pyIter_enum he ?_
      have I2 : Inv X pins σ H1 { s1 with heap := h' } := I1.kept (t' := s1.toks) hk
      exact ⟨s1.heap.objs.size + 1, [s1.heap.objs.size + 1, s1.heap.objs.size], _, _, H1, rfl, I2, turn_enum a (s1.heap.objs.size + 1) s1.heap.objs.size, ⟨⟨.none, he⟩, hit, Nat.succ_ne_self _⟩, fresh2, q⟩
  · subst ex
    cases r1 with
    | cons r rr =>
      cases rr
      cases r
      obtain ⟨its, rv, p', hz⟩ := I1.tuple hq
      refine enumT p' fun h' he hit hk => wpAny_pyIter_enum he ?_
      have I2 : Inv X pins σ H1 { s1 with heap := h' } := I1.kept (t' := s1.toks) hk
      exact ⟨s1.heap.objs.size + 1, [s1.heap.objs.size + 1, s1.heap.objs.size], _, _, H1, rfl, I2, turn_enumT a (s1.heap.objs.size + 1) s1.heap.objs.size, ⟨⟨.none, he⟩, hit, Nat.succ_ne_self _⟩, fresh2, q⟩
  · subst ex
    cases r1 with
    | cons r rr =>
      cases rr
      obtain ⟨t, rfl⟩ := r
      refine call_enumerate_str fun h' he hit hsz hk => wpAny_pyIter_enum he ?_
      have I2 : Inv X pins σ H1 { s1 with heap := h' } := I1.kept (t' := s1.toks) hk
      exact ⟨s1.heap.objs.size + 1, [s1.heap.objs.size + 1, s1.heap.objs.size], _, _, H1, rfl, I2, turn_enumS z t (s1.heap.objs.size + 1) s1.heap.objs.size, ⟨⟨.none, he⟩, hit, Nat.succ_ne_self _⟩, fresh2, q⟩
where
  enumT {prog : Program} {w : World} {A : Around} {E : Value → Shared → Prop} {s : Shared} {l : Addr} {items : Array Value} {Q : Value → Shared → Prop} (hL : IsTup s.heap l items)
    (h : ∀ h', IsEnum h' (s.heap.objs.size + 1) s.heap.objs.size 0 .none → h'.IsTupleIter s.heap.objs.size l 0 → (∀ b o, s.heap.get? b = some o → h'.get? b = some o) → Q (.ref (s.heap.objs.size + 1)) { s with heap := h' }) :
    wpAny (model prog w) A (call (.type "enumerate") [.ref l]) Q E s := by
    have B := begins_tuple l items
    refine callType_new F.called_enumerate (by decide) (F.typeCall_enumerate_1 _) (F.newCall_enumerate_1 _) (fun obj => F.args_object_init_2 obj _) F.entry_enumerate_new
      (meets_enumerate_newB1 B) ⟨hL, ?_⟩
    have hz : (s.heap.push { cls := .type "tuple_iterator", data := .fields #[.ref l, .int 0 0] }).objs.size = s.heap.objs.size + 1 := Heap.size_push ..
    show _ ∧ _
    rw [hz]
    have he : IsEnum ((s.heap.push { cls := .type "tuple_iterator", data := .fields #[.ref l, .int 0 0] }).push { cls := .type "enumerate", data := .fields #[.none, .bool false, .ref s.heap.objs.size, rawInt 0, .none, .none] }) (s.heap.objs.size + 1) s.heap.objs.size 0 .none := by
      have := Heap.get?_push_size (s.heap.push { cls := .type "tuple_iterator", data := .fields #[.ref l, .int 0 0] }) (o := { cls := .type "enumerate", data := .fields #[.none, .bool false, .ref s.heap.objs.size, rawInt 0, .none, .none] }) rfl
      rw [hz] at this; exact this
    exact ⟨⟨_, he, rfl⟩, h _ he ⟨_, Heap.get?_push_of_some _ (Heap.get?_push_size _ rfl), rfl, rfl⟩ fun b o x => Heap.get?_push_of_some _ (Heap.get?_push_of_some _ x)⟩
end AL

set_option Elab.async false
set_option linter.all false
set_option maxRecDepth 100000
set_option maxHeartbeats 4000000
namespace AL
open PySem L2
def enumD (ds : List D) : List D := ds.zipIdx.map fun p => .tup [.int (p.2 : Nat), p.1]
theorem enumD_len (ds : List D) : (enumD ds).length = ds.length := by unfold enumD; rw [List.length_map, List.length_zipIdx]
theorem enumD_get {ds : List D} {i : Nat} {d : D} (h : ds[i]? = some d) : (enumD ds)[i]? = some (.tup [.int (i : Nat), d]) := by
  unfold enumD
  rw [List.getElem?_map, List.getElem?_zipIdx, h]
  simp
theorem enumD_inv {ds : List D} {i : Nat} {e : D} (h : (enumD ds)[i]? = some e) : ∃ d, ds[i]? = some d ∧ e = .tup [.int (i : Nat), d] := by
  unfold enumD at h
  rw [List.getElem?_map, List.getElem?_zipIdx] at h
  cases q : ds[i]? with
  | none => rw [q] at h; simp at h
  | some d => rw [q] at h; simp at h; exact ⟨d, rfl, h.symm⟩
section
variable {Γ : Cg} {K : Frg} {F : Hp} {ms : Ms} {S : Sg} {P : Hp → Ms → List D → (Ms → Prop) → Prop}
theorem pair_rep {R : Ms} {ms' : Ms} {F' H : Hp} {T : Addr} {d e : D} {v w : V} (hh : Hold K F' (ms' ++ R) H) (hT : H T = none) (r1 : Rep K F' d v) (r2 : Rep K F' e w) :
    ∃ F'', Ex F' F'' ∧ Hold K F'' (ms' ++ R) (upd H T (.tup [v, w])) ∧ Rep K F'' (.tup [d, e]) (.ref T) := by
  obtain ⟨e1, h1⟩ := hh.laid (.tup [v, w]) hT
  exact ⟨_, e1, h1, .tup (SqT.of upd_same) (.cons (r1.mono e1) (.cons (r2.mono e1) .nil))⟩
theorem ai_enum {ta : TA} (h : AA Γ ta F ms S fun F1 ms1 xs => (∃ ds : List D, xs = [.lst ds] ∧ P F1 ms1 (enumD ds) fun _ => True) ∨ (∃ ds : List D, xs = [.tup ds] ∧ P F1 ms1 (enumD ds) fun _ => True) ∨ ∃ z, xs = [.str z] ∧ P F1 ms1 (enumD (charsD z)) fun _ => True) : AI Γ (iEnumA Γ.K ta) F ms S P := fun R σ H Rc hs hh x k =>
  h R σ H _ hs hh x fun F1 ms1 xs vs H1 e1 h1 r1 q => by
    rcases q with ⟨ds, hx, p⟩ | ⟨ds, hx, p⟩ | ⟨z, hx, p⟩
    · subst hx
      cases r1 with
      | cons a b =>
        cases b
        cases a with
        | @lst a ys _ ha rl =>
          refine .inl ⟨a, ys, rfl, SqL.of (h1.ex _ _ ha), k F1 ms1 _ (fun _ => True) _ H1 e1 h1 ⟨fun _ i H' F' ms' hi e' hh' _ => ?_, fun _ H' F' ms' e' hh' _ => ?_, fun _ i H' x' H2 F' ms' hi e' hh' _ y => ?_⟩ p⟩
          · rw [enumD_len] at hi
            exact ⟨ys, ys[i]'(by rw [← rl.len]; exact hi), SqL.of (hh'.ex _ _ (e' _ _ ha)), by simp [show i < ys.length by rw [← rl.len]; exact hi]⟩
          · exact ⟨ys, SqL.of (hh'.ex _ _ (e' _ _ ha)), by rw [enumD_len, rl.len]; exact Nat.le_refl _⟩
          · obtain ⟨T, w, y1, y2, y3, y4⟩ := y
            subst y1 y3
            obtain ⟨d, hd, rd⟩ := rl.get (y4 ys (SqL.of (hh'.ex _ _ (e' _ _ ha))))
            obtain ⟨F'', e2, h2, r2⟩ := pair_rep hh' y2 (.int (i : Nat)) (rd.mono e')
            exact ⟨F'', _, e2, h2, enumD_get hd, r2⟩
    · subst hx
      cases r1 with
      | cons a b =>
        cases b
        cases a with
        | @tup a ys _ ha rl =>
          refine .inr (.inl ⟨a, ys, rfl, ex_t h1.ex ha, k F1 ms1 _ (fun _ => True) _ H1 e1 h1 ⟨fun _ i H' F' ms' hi e' hh' _ => ?_, fun _ H' F' ms' e' hh' _ => ?_, fun _ i H' x' H2 F' ms' hi e' hh' _ y => ?_⟩ p⟩)
          · rw [enumD_len] at hi
            exact ⟨ys, ys[i]'(by rw [← rl.len]; exact hi), ex_t hh'.ex (ex_t e' ha), by simp [show i < ys.length by rw [← rl.len]; exact hi]⟩
          · exact ⟨ys, ex_t hh'.ex (ex_t e' ha), by rw [enumD_len, rl.len]⟩
          · obtain ⟨T, w, y1, y2, y3, y4⟩ := y
            subst y1 y3
            obtain ⟨d, hd, rd⟩ := rl.get (y4 ys (ex_t hh'.ex (ex_t e' ha)))
            obtain ⟨F'', e2, h2, r2⟩ := pair_rep hh' y2 (.int (i : Nat)) (rd.mono e')
            exact ⟨F'', _, e2, h2, enumD_get hd, r2⟩
    · subst hx
      cases r1 with
      | cons a b =>
        cases b
        cases a
        have hl : (charsD z).length = z.cps.size := by unfold charsD; rw [List.length_map, Array.length_toList]
        refine .inr (.inr ⟨z, rfl, k F1 ms1 _ (fun _ => True) _ H1 e1 h1 ⟨fun _ i H' F' ms' hi e' hh' _ => ?_, fun _ H' F' ms' e' hh' _ => ?_, fun _ i H' x' H2 F' ms' hi e' hh' _ y => ?_⟩ p⟩)
        · rw [enumD_len, hl] at hi; exact hi
        · show (enumD (charsD z)).length = z.cps.size
          rw [enumD_len, hl]
        · obtain ⟨T, c, y1, y2, y3, y4⟩ := y
          subst y1 y3
          obtain ⟨F'', e2, h2, r2⟩ := pair_rep hh' y2 (.int (i : Nat)) (.str ⟨#[c]⟩)
          refine ⟨F'', _, e2, h2, enumD_get ?_, r2⟩
          unfold charsD
          rw [List.getElem?_map, Array.getElem?_toList, y4]
          rfl
end
/-! ### static methods -/
/-- C.m is a staticmethod: its record at p, its def at g -/
structure SMet (K : Frg) (C : Addr) (mc : Value) (m : Str) (p g : Addr) : Prop where
  rd : PySem.W.readsIn K C mc = true
  ga : PySem.W.specialIn K (.ref C) "__getattribute__" = some (some (.builtin "type.__getattribute__"))
  at_ : PySem.W.findCls K (.ref C) mc m = some (.get (.builtin "staticmethod.__get__") (.ref p) .none (.ref C))
  rc : ∃ rest, PySem.W.recIn K p "staticmethod" = some (.ref g :: rest)
/-- .. reached through an instance of C -/
structure SInst (K : Frg) (C : Addr) (m : Str) (p g : Addr) : Prop where
  pg : PySem.W.plainGet K C Str.empty = true
  ic : PySem.W.isClsIn K C = true
  at_ : PySem.W.findIn K (.ref C) m = some (some (.ref p))
  ty : PySem.W.typeIn K (.ref p) = some (.type "staticmethod")
  get : PySem.W.specialIn K (.ref p) "__get__" = some (some (.builtin "staticmethod.__get__"))
  tk : PySem.W.takesIn K (.ref p) = some false
  cp : PySem.W.copiedNames.contains m = false
  rc : ∃ rest, PySem.W.recIn K p "staticmethod" = some (.ref g :: rest)
/-- e.m(..), e the class at C, m a static method -/
def tSMeth (C : Addr) (sp : Sp) (E : XK) (ta : TE) (t : TA) : TE := fun σ H Q => ta σ H fun x H1 => x = .ref C ∧ t σ H1 fun vs H2 => sp vs H2 Q E
/-- o.m(..), o an instance of the class at C -/
def tSMethI (C : Addr) (m : Str) (sp : Sp) (E : XK) (ta : TE) (t : TA) : TE := fun σ H Q => ta σ H fun x H1 => ∃ a dx fs, x = .ref a ∧ H1 a = some (.ins C dx fs) ∧ fs.lookup m = none ∧ t σ H1 fun vs H2 => sp vs H2 Q E
section
variable {X : Cx} {CX : CXT} {k : Nat} {f C p g : Addr} {mc : Value} {fd : FuncData} {ps : List Str} {sp : Sp} {E : XK} {m : Str} {pos apos : Pos} {e o : Expr} {es : List Expr} {ta : TE} {t : TA}
theorem pe_smeth {pl : Sem Bool} (he : PE X o ta) (c : SMet X.K C mc m p g) (hk : PySem.W.keepIn X.K (.ref g) = true) (F : FnOk X.prog X.w X.K X.mg X.base CX k g fd ps sp) (hr : Room k X.A) (hb : Binds X.K fd ps []) (hx : Passes CX X E) (ha : PA X (e :: es) t)
    (hst : starEach (e :: es) X.env = (false, eval e X.env) :: starEach es X.env := by rfl) (hpl : (backTo pos (starEach es X.env)).any (·.1) = false := by rfl)
    (ht : eval (.Call (.Attribute o m apos) (e :: es) [] pos) X.env = (do
      let ov ← eval o X.env
      standAt apos.atName
      let (f, first) ← holding [ov] (getMethod ov m pl)
      callWith pos f first (backTo pos (starEach (e :: es) X.env)) (backToKw pos (keywordEach [] X.env))) := by rfl) :
    PE X (.Call (.Attribute o m apos) (e :: es) [] pos) (tSMeth C sp E ta t) := by
  refine ⟨fun pins s σ H Q I h => ?_⟩
  refine PySem.W.methodCall_KW (pl := pl) (thn (he.run pins s σ H _ I h) fun u s1 ⟨x, H1, I1, rx, ex, q⟩ => ?_) ht
  subst ex
  obtain rfl : u = Value.ref C := rx
  obtain ⟨rest, hp⟩ := c.rc
  refine PySem.W.method_cls I1.kIn c.ga (PySem.W.cls_bind I1.kIn c.rd c.at_ (wpAny_call (PySem.W.sm_get (s := { s1 with toks := s1.toks + 1 }) I1.kIn hp (PySem.W.handed_on rfl ?_))))
  have I2 := I1.tok (s1.toks + 1)
  refine PySem.W.callWith_K (first := []) (h₀ := X.base) I.ok.mod.kin hk (thn (ha.run pos pins _ σ H1 _ I2 q) fun us s2 ⟨vs, H2, I2, r, q2⟩ => ⟨I2.kIn, ?_⟩) hst hpl
  exact run_fn (us := us) (vs := vs) (dvs := []) (ds := []) F hr hb .nil hx I2 r (by rw [List.append_nil]; exact q2)
theorem pe_smethI {pl : Sem Bool} (he : PE X o ta) (c : SInst X.K C m p g) (hk : PySem.W.keepIn X.K (.ref g) = true) (F : FnOk X.prog X.w X.K X.mg X.base CX k g fd ps sp) (hr : Room k X.A) (hb : Binds X.K fd ps []) (hx : Passes CX X E) (ha : PA X (e :: es) t)
    (hst : starEach (e :: es) X.env = (false, eval e X.env) :: starEach es X.env := by rfl) (hpl : (backTo pos (starEach es X.env)).any (·.1) = false := by rfl)
    (ht : eval (.Call (.Attribute o m apos) (e :: es) [] pos) X.env = (do
      let ov ← eval o X.env
      standAt apos.atName
      let (f, first) ← holding [ov] (getMethod ov m pl)
      callWith pos f first (backTo pos (starEach (e :: es) X.env)) (backToKw pos (keywordEach [] X.env))) := by rfl) :
    PE X (.Call (.Attribute o m apos) (e :: es) [] pos) (tSMethI C m sp E ta t) := by
  refine ⟨fun pins s σ H Q I h => ?_⟩
  refine PySem.W.methodCall_KW (pl := pl) (thn (he.run pins s σ H _ I h) fun u s1 ⟨x, H1, I1, rx, a, dx, fs, ex, ea, l, q⟩ => ?_) ht
  subst ex
  obtain rfl : u = Value.ref a := rx
  obtain ⟨rest, hp⟩ := c.rc
  obtain ⟨mA, O, rel, _, _, _⟩ := ins_get I1.hok ea
  obtain ⟨od, J, hl⟩ := O.look
  have z : mA m = none := RelO.none_of (by have q := rel m; rw [l] at q; exact q)
  have hn : PySem.W.lookIn m od = some none := by rw [hl m, z]
  refine PySem.W.method_usual (r := some (.ref p)) I1.kIn J (PySem.W.plainGet_of (show PySem.W.plainGet X.K C m = true from c.pg)).1 (PySem.W.plainGet_of (show PySem.W.plainGet X.K C m = true from c.pg)).2 c.at_ ?_ ?_
  · show ((PySem.W.typeIn X.K (.ref p)).any fun t => t != .type "function" && t != .type "method_descriptor" && t != .type "wrapper_descriptor") = true
    rw [c.ty]
    first
    | rfl
    | decide +kernel
  · refine PySem.W.get_bind I1.kIn J (PySem.W.plainGet_of (show PySem.W.plainGet X.K C m = true from c.pg)).1 (ClX.find_cm c.ic c.at_ c.get c.tk c.cp hn) (PySem.W.plainGet_of (show PySem.W.plainGet X.K C m = true from c.pg)).2 ?_
    refine wpAny_call (PySem.W.sm_get (s := { s1 with toks := s1.toks + 1 }) I1.kIn hp (PySem.W.handed_on rfl ?_))
    have I2 := I1.tok (s1.toks + 1)
    refine PySem.W.callWith_K (first := []) (h₀ := X.base) I.ok.mod.kin hk (thn (ha.run pos pins _ σ H1 _ I2 q) fun us s2 ⟨vs, H2, I2, r, q2⟩ => ⟨I2.kIn, ?_⟩) hst hpl
    exact run_fn (us := us) (vs := vs) (dvs := []) (ds := []) F hr hb .nil hx I2 r (by rw [List.append_nil]; exact q2)
end
section
variable {Γ : Cg} {K : Frg} {F : Hp} {ms : Ms} {S : Sg} {Q : QE} {ta : TE} {ta' : TA} {C : Addr} {m : Str} {sp : ASp}
theorem ae_smeth (h : AE Γ ta F ms S fun F1 ms1 x => x = .ref C ∧ AA Γ ta' F1 ms1 S fun F2 ms2 ds => sp ds F2 ms2 Q Γ.Ea) : AE Γ (tSMeth C (toSp Γ.K sp) Γ.E ta ta') F ms S Q := fun R σ H Qc hs hh x k =>
  h R σ H _ hs hh x fun F1 ms1 d1 v1 H1 e1 h1 r1 ⟨hx, q⟩ => by
    subst hx
    cases r1
    exact ⟨rfl, q R σ H1 _ (hs.mono e1) h1 (x.ex e1) fun F2 ms2 ds vs H2 e2 h2 r2 q2 => ⟨F2, ms2, R, ds, Q, Γ.Ea, h2, r2, q2, fun F' ms' d v H' e => k F' ms' d v H' ((e1.trans e2).trans e), x.ex (e1.trans e2)⟩⟩
theorem ae_smethI (h : AE Γ ta F ms S fun F1 ms1 x => ∃ a fs, x = .ref a ∧ InsA Γ.K F1 ms1 a C fs ∧ fs.lookup m = none ∧ AA Γ ta' F1 ms1 S fun F2 ms2 ds => sp ds F2 ms2 Q Γ.Ea) : AE Γ (tSMethI C m (toSp Γ.K sp) Γ.E ta ta') F ms S Q := fun R σ H Qc hs hh x k =>
  h R σ H _ hs hh x fun F1 ms1 d1 v1 H1 e1 h1 r1 ⟨a, fs, hx, hi, hl, q⟩ => by
    subst hx
    cases r1
    obtain ⟨dx, gs, i1, i2, i3⟩ := hi.to h1
    exact ⟨a, dx, gs, rfl, i1, i3.lookN hl, q R σ H1 _ (hs.mono e1) h1 (x.ex e1) fun F2 ms2 ds vs H2 e2 h2 r2 q2 => ⟨F2, ms2, R, ds, Q, Γ.Ea, h2, r2, q2, fun F' ms' d v H' e => k F' ms' d v H' ((e1.trans e2).trans e), x.ex (e1.trans e2)⟩⟩
end
end AL

set_option Elab.async false
set_option linter.all false
set_option maxRecDepth 100000
set_option maxHeartbeats 4000000
/-! Rules whose reading names the fragment K outright (so they may stand under binders), and a few more. -/
namespace AL
open PySem L2 PyProof.Rows
section
variable {X : Cx} {K : Frg}
theorem kADD (h : X.K = K) : OpR X (binaryOp .Add) (rADD K) := h ▸ op_ADD
theorem kMUL (h : X.K = K) : OpR X (binaryOp .Mult) (rMUL K) := h ▸ op_MUL
theorem kEQ (h : X.K = K) (hu : X.A.units + 64 < cLine) : OpR X (compareOp .Eq) (rEQ K) := h ▸ op_EQ hu
theorem kNE (h : X.K = K) (hu : X.A.units + 64 < cLine) : OpR X (compareOp .NotEq) (rNE K) := h ▸ op_NE hu
theorem kIN (h : X.K = K) : OpR X (compareOp .In) (rIN K) := h ▸ op_INN
theorem kNOTIN (h : X.K = K) : OpR X (compareOp .NotIn) (rNOTIN K) := h ▸ op_NOTINN
theorem kIX (h : X.K = K) : IxR X (rIx K) := h ▸ ix_seq
theorem kSLC (h : X.K = K) : SlR X (rSLC K) := h ▸ sl_SLC
theorem kLEN (h : X.K = K) : CallR X (.builtin "len") (rLEN K) := h ▸ call_LEN
theorem kLIST (h : X.K = K) (hc : X.calm = true) : CallR X (.type "list") (rLIST K) := h ▸ call_LIST hc
theorem kTUPLE (h : X.K = K) : CallR X (.type "tuple") (rTUPLE K) := h ▸ call_TUPLE
theorem kALL (h : X.K = K) (hc : X.calm = true) : CallR X (.builtin "all") (rAll K) := h ▸ cr_all hc
theorem kISI (h : X.K = K) : CallR X (.builtin "isinstance") (rIsi K) := h ▸ call_isi
theorem kJOIN (h : X.K = K) : MtR X "str.join" (rJOIN K) := h ▸ mt_JOIN
variable {e o : Expr} {es : List Expr} {f name : Str} {pos apos cpos p2 : Pos} {ta te to : TE} {t : TA} {T id : String} {r : V → List V → Hp → VK → Prop} {tg : Expr}
theorem pe_fldk (h : X.K = K) (he : PE X e ta) (hb : attributeBase e f X.env (eval e X.env) = eval e X.env) : PE X (.Attribute e f pos) (tFld K ta f) := h ▸ pe_fld he hb
theorem pe_bmk (h : X.K = K) (pa : PlainAttrs T) (slot : Slot T name id) (hty : typeOf (.builtin id) = pure (.type "method_descriptor")) (hm : MtR X id r) (ho : PE X o to) (ha : PA X (e :: es) t)
    (hbase : attributeBase o name X.env (eval o X.env) = eval o X.env := by rfl)
    (hfew : ((backTo cpos (starEach (e :: es) X.env)).all (fun x => !x.1) && (backToKw cpos (keywordEach [] X.env)).all (fun x => x.1.isSome)
      && decide ((e :: es).length + ([] : List Keyword).length + (if ([] : List Keyword).isEmpty then 0 else 1) < 30)) = true := by rfl)
    (hline : (apos.endLine == cpos.line) = true := by rfl) (hs : starEach (e :: es) X.env = (false, eval e X.env) :: starEach es X.env := by rfl) (hplain : (backTo cpos (starEach es X.env)).any (·.1) = false := by rfl) :
    PE X (.Call (.Attribute o name apos) (e :: es) [] cpos) (tBM K T r to t) := h ▸ pe_bm pa slot hty hm ho ha hbase hfew hline hs hplain
theorem pi_listk (h : X.K = K) (he : PE X e ta) : PI X tg e (iList K ta) := h ▸ pi_list he
theorem pi_tupk (h : X.K = K) (he : PE X e ta) : PI X tg e (iTup K ta) := h ▸ pi_tup he
end
section
variable {Γ : Cg} {K : Frg} {F : Hp} {ms : Ms} {S : Sg} {Q : QE} {ta tb tc : TE} {r r' : R2}
theorem ae_chain (h : AE Γ ta F ms S fun F1 ms1 x => AE Γ tb F1 ms1 S fun F2 ms2 y => AR Γ.K r x y F2 ms2 fun F3 ms3 z => ∃ k, z = .bl k ∧ (k = true → AE Γ tc F3 ms3 S fun F4 ms4 w => AR Γ.K r' y w F4 ms4 Q) ∧ (k = false → Q F3 ms3 (.bl false))) :
    AE Γ (tChain r r' ta tb tc) F ms S Q := fun R σ H Qc hs hh x k =>
  h R σ H _ hs hh x fun F1 ms1 d1 v1 H1 e1 h1 r1 q1 => q1 R σ H1 _ (hs.mono e1) h1 (x.ex e1) fun F2 ms2 d2 v2 H2 e2 h2 r2 q2 =>
    q2 R v1 v2 H2 _ (r1.mono e2) r2 h2 fun F3 ms3 d3 v3 H3 e3 h3 r3 ⟨b, hb, qt, qf⟩ => by
      subst hb
      cases r3
      refine ⟨b, rfl, ?_⟩
      have e13 := (e1.trans e2).trans e3
      cases b with
      | true =>
        rw [if_pos rfl]
        exact qt rfl R σ H3 _ (hs.mono e13) h3 (x.ex e13) fun F4 ms4 d4 v4 H4 e4 h4 r4 q4 => q4 R v2 v4 H4 _ (r2.mono (e3.trans e4)) r4 h4 fun F5 ms5 d v H5 e5 => k F5 ms5 d v H5 ((e13.trans e4).trans e5)
      | false =>
        rw [if_neg (by decide)]
        exact k F3 ms3 _ _ H3 e13 h3 (.bl false) (qf rfl)
theorem ac_all {bs : List Bool} {d : D} (hd : d = .lst (bs.map D.bl)) (q : Q F ms (.bl (bs.all id))) : AC K (rAll K) [d] F ms Q := ac1 fun R v H Qc hv hh k => by
  subst hd
  obtain ⟨a, vs, rfl, hl, rl⟩ : ∃ a vs, v = .ref a ∧ F a = some (.lst vs) ∧ RepL K F (bs.map D.bl) vs := by
    cases hv with
    | lst h r => exact ⟨_, _, rfl, h, r⟩
  have hvs : vs = bs.map V.bl := by
    clear q hl hv hh k
    induction bs generalizing vs with
    | nil => cases rl; rfl
    | cons b bs ih =>
      cases rl with
      | cons h r => cases h; rw [ih _ r]; rfl
  subst hvs
  exact ⟨a, bs, rfl, SqL.of (hh.ex _ _ hl), k F ms _ _ H Ex.refl hh (.bl _) q⟩
end
/-- a def with defaults, that raises nothing -/
theorem fn_okD {P : Program} {w : World} {K : Frg} {mg : Str → Option Value} {base : Heap} {x qual : Str} {st : Stmt} {f : Addr} {fd : FuncData} {N ps : List Str} {dvs : List V} {kws : List (Str × V)} {k : Nat} {sp : ASp} (F : FunD K x qual (defArgs st) (defBody st) (defScope st) dvs kws f fd) (Sc : FnScope N ps (defScope st)) (len : ∀ ds F ms Q E, sp ds F ms Q E → ds.length = ps.length)
    (hbody : ∀ (cdv : Value) (A : Around) (outer : List Env) (s : Shared) (H : Hp) (E : XK), Room k (A.deeper (PyProof.Rows.envOfC qual (defScope st) s.heap.objs.size f cdv)) → ∃ t, PSs (cxOf CX0 P w K mg base N qual (defScope st) f cdv A outer s H E).nox (defBody st) t ∧
      ∀ ds F ms Q Ea, sp ds F ms Q Ea → AS ⟨K, E0, fun _ _ _ _ => False⟩ t F ms (startS N ds) { nx := fun F' ms' _ => Q F' ms' .non, rt := Q }) : FnOk P w K mg base CX0 (k + 1) f fd ps (toSp K sp) := by
  refine F.ok Sc (fun vs H Q E h => ?_) (fun cdv A outer s H vs Q E hr h => ?_)
  · obtain ⟨F0, ms, R, ds, Qa, Ea, h1, h2, h3, _⟩ := h
    rw [← h2.len]
    exact len _ _ _ _ _ h3
  · obtain ⟨F0, ms, R, ds, Qa, Ea, h1, h2, h3, h4, h5⟩ := h
    obtain ⟨t, ht, q⟩ := hbody cdv A outer s H E hr
    refine ⟨t, ht.nox, q ds F0 ms Qa Ea h3 R _ _ H (start_rep h2) h1 ⟨fun _ _ _ _ _ _ _ _ _ z => z.elim, fun F' ms' S' σ' H' e a b q' => h4 F' ms' .non .non H' e b .non q', fun F' ms' d v H' e b r q' => h4 F' ms' d v H' e b r q', fun _ _ _ _ _ _ _ _ z => z.elim, fun _ _ _ _ _ _ _ _ z => z.elim⟩⟩
end AL

set_option Elab.async false
set_option linter.all false
set_option maxRecDepth 100000
set_option maxHeartbeats 4000000
namespace AL
open PySem L2 PyProof.Rows
section
variable {Γ : Cg} {K : Frg} {F : Hp} {ms : Ms} {S : Sg} {Q : QE} {ta tb te tx : TE} {t u tt : TT} {r : R2} {ts tu tw : TS} {A : AEnds} {g : TG} {wi : TI} {vs : List Nat}
theorem isi_non_bool (q : Q F ms (.bl false)) : AC K (rIsi K) [.non, .ty "bool"] F ms Q := ac_isi (b := false) (by show ("NoneType" : String) ≠ ""; decide) (by intro ds h; cases h) (by show kitB "NoneType" "bool" = some false; decide +kernel) q
theorem isi_non_int (q : Q F ms (.bl false)) : AC K (rIsi K) [.non, .ty "int"] F ms Q := ac_isi (b := false) (by show ("NoneType" : String) ≠ ""; decide) (by intro ds h; cases h) (by show kitB "NoneType" "int" = some false; decide +kernel) q
theorem isi_non_str (q : Q F ms (.bl false)) : AC K (rIsi K) [.non, .ty "str"] F ms Q := ac_isi (b := false) (by show ("NoneType" : String) ≠ ""; decide) (by intro ds h; cases h) (by show kitB "NoneType" "str" = some false; decide +kernel) q
theorem isi_non_tuple (q : Q F ms (.bl false)) : AC K (rIsi K) [.non, .ty "tuple"] F ms Q := ac_isi (b := false) (by show ("NoneType" : String) ≠ ""; decide) (by intro ds h; cases h) (by show kitB "NoneType" "tuple" = some false; decide +kernel) q
theorem isi_non_list (q : Q F ms (.bl false)) : AC K (rIsi K) [.non, .ty "list"] F ms Q := ac_isi (b := false) (by show ("NoneType" : String) ≠ ""; decide) (by intro ds h; cases h) (by show kitB "NoneType" "list" = some false; decide +kernel) q
theorem isi_non_dict (q : Q F ms (.bl false)) : AC K (rIsi K) [.non, .ty "dict"] F ms Q := ac_isi (b := false) (by show ("NoneType" : String) ≠ ""; decide) (by intro ds h; cases h) (by show kitB "NoneType" "dict" = some false; decide +kernel) q
theorem isi_bl_bool {b0 : Bool} (q : Q F ms (.bl true)) : AC K (rIsi K) [.bl b0, .ty "bool"] F ms Q := ac_isi (b := true) (by show ("bool" : String) ≠ ""; decide) (by intro ds h; cases h) (by show kitB "bool" "bool" = some true; decide +kernel) q
theorem isi_bl_int {b0 : Bool} (q : Q F ms (.bl true)) : AC K (rIsi K) [.bl b0, .ty "int"] F ms Q := ac_isi (b := true) (by show ("bool" : String) ≠ ""; decide) (by intro ds h; cases h) (by show kitB "bool" "int" = some true; decide +kernel) q
theorem isi_bl_str {b0 : Bool} (q : Q F ms (.bl false)) : AC K (rIsi K) [.bl b0, .ty "str"] F ms Q := ac_isi (b := false) (by show ("bool" : String) ≠ ""; decide) (by intro ds h; cases h) (by show kitB "bool" "str" = some false; decide +kernel) q
theorem isi_bl_tuple {b0 : Bool} (q : Q F ms (.bl false)) : AC K (rIsi K) [.bl b0, .ty "tuple"] F ms Q := ac_isi (b := false) (by show ("bool" : String) ≠ ""; decide) (by intro ds h; cases h) (by show kitB "bool" "tuple" = some false; decide +kernel) q
theorem isi_bl_list {b0 : Bool} (q : Q F ms (.bl false)) : AC K (rIsi K) [.bl b0, .ty "list"] F ms Q := ac_isi (b := false) (by show ("bool" : String) ≠ ""; decide) (by intro ds h; cases h) (by show kitB "bool" "list" = some false; decide +kernel) q
theorem isi_bl_dict {b0 : Bool} (q : Q F ms (.bl false)) : AC K (rIsi K) [.bl b0, .ty "dict"] F ms Q := ac_isi (b := false) (by show ("bool" : String) ≠ ""; decide) (by intro ds h; cases h) (by show kitB "bool" "dict" = some false; decide +kernel) q
theorem isi_int_bool {i : Int} (q : Q F ms (.bl false)) : AC K (rIsi K) [.int i, .ty "bool"] F ms Q := ac_isi (b := false) (by show ("int" : String) ≠ ""; decide) (by intro ds h; cases h) (by show kitB "int" "bool" = some false; decide +kernel) q
theorem isi_int_int {i : Int} (q : Q F ms (.bl true)) : AC K (rIsi K) [.int i, .ty "int"] F ms Q := ac_isi (b := true) (by show ("int" : String) ≠ ""; decide) (by intro ds h; cases h) (by show kitB "int" "int" = some true; decide +kernel) q
theorem isi_int_str {i : Int} (q : Q F ms (.bl false)) : AC K (rIsi K) [.int i, .ty "str"] F ms Q := ac_isi (b := false) (by show ("int" : String) ≠ ""; decide) (by intro ds h; cases h) (by show kitB "int" "str" = some false; decide +kernel) q
theorem isi_int_tuple {i : Int} (q : Q F ms (.bl false)) : AC K (rIsi K) [.int i, .ty "tuple"] F ms Q := ac_isi (b := false) (by show ("int" : String) ≠ ""; decide) (by intro ds h; cases h) (by show kitB "int" "tuple" = some false; decide +kernel) q
theorem isi_int_list {i : Int} (q : Q F ms (.bl false)) : AC K (rIsi K) [.int i, .ty "list"] F ms Q := ac_isi (b := false) (by show ("int" : String) ≠ ""; decide) (by intro ds h; cases h) (by show kitB "int" "list" = some false; decide +kernel) q
theorem isi_int_dict {i : Int} (q : Q F ms (.bl false)) : AC K (rIsi K) [.int i, .ty "dict"] F ms Q := ac_isi (b := false) (by show ("int" : String) ≠ ""; decide) (by intro ds h; cases h) (by show kitB "int" "dict" = some false; decide +kernel) q
theorem isi_str_bool {z : Str} (q : Q F ms (.bl false)) : AC K (rIsi K) [.str z, .ty "bool"] F ms Q := ac_isi (b := false) (by show ("str" : String) ≠ ""; decide) (by intro ds h; cases h) (by show kitB "str" "bool" = some false; decide +kernel) q
theorem isi_str_int {z : Str} (q : Q F ms (.bl false)) : AC K (rIsi K) [.str z, .ty "int"] F ms Q := ac_isi (b := false) (by show ("str" : String) ≠ ""; decide) (by intro ds h; cases h) (by show kitB "str" "int" = some false; decide +kernel) q
theorem isi_str_str {z : Str} (q : Q F ms (.bl true)) : AC K (rIsi K) [.str z, .ty "str"] F ms Q := ac_isi (b := true) (by show ("str" : String) ≠ ""; decide) (by intro ds h; cases h) (by show kitB "str" "str" = some true; decide +kernel) q
theorem isi_str_tuple {z : Str} (q : Q F ms (.bl false)) : AC K (rIsi K) [.str z, .ty "tuple"] F ms Q := ac_isi (b := false) (by show ("str" : String) ≠ ""; decide) (by intro ds h; cases h) (by show kitB "str" "tuple" = some false; decide +kernel) q
theorem isi_str_list {z : Str} (q : Q F ms (.bl false)) : AC K (rIsi K) [.str z, .ty "list"] F ms Q := ac_isi (b := false) (by show ("str" : String) ≠ ""; decide) (by intro ds h; cases h) (by show kitB "str" "list" = some false; decide +kernel) q
theorem isi_str_dict {z : Str} (q : Q F ms (.bl false)) : AC K (rIsi K) [.str z, .ty "dict"] F ms Q := ac_isi (b := false) (by show ("str" : String) ≠ ""; decide) (by intro ds h; cases h) (by show kitB "str" "dict" = some false; decide +kernel) q
theorem isi_tup_bool {ds : List D} (q : Q F ms (.bl false)) : AC K (rIsi K) [.tup ds, .ty "bool"] F ms Q := ac_isi (b := false) (by show ("tuple" : String) ≠ ""; decide) (by intro ds h; cases h) (by show kitB "tuple" "bool" = some false; decide +kernel) q
theorem isi_tup_int {ds : List D} (q : Q F ms (.bl false)) : AC K (rIsi K) [.tup ds, .ty "int"] F ms Q := ac_isi (b := false) (by show ("tuple" : String) ≠ ""; decide) (by intro ds h; cases h) (by show kitB "tuple" "int" = some false; decide +kernel) q
theorem isi_tup_str {ds : List D} (q : Q F ms (.bl false)) : AC K (rIsi K) [.tup ds, .ty "str"] F ms Q := ac_isi (b := false) (by show ("tuple" : String) ≠ ""; decide) (by intro ds h; cases h) (by show kitB "tuple" "str" = some false; decide +kernel) q
theorem isi_tup_tuple {ds : List D} (q : Q F ms (.bl true)) : AC K (rIsi K) [.tup ds, .ty "tuple"] F ms Q := ac_isi (b := true) (by show ("tuple" : String) ≠ ""; decide) (by intro ds h; cases h) (by show kitB "tuple" "tuple" = some true; decide +kernel) q
theorem isi_tup_list {ds : List D} (q : Q F ms (.bl false)) : AC K (rIsi K) [.tup ds, .ty "list"] F ms Q := ac_isi (b := false) (by show ("tuple" : String) ≠ ""; decide) (by intro ds h; cases h) (by show kitB "tuple" "list" = some false; decide +kernel) q
theorem isi_tup_dict {ds : List D} (q : Q F ms (.bl false)) : AC K (rIsi K) [.tup ds, .ty "dict"] F ms Q := ac_isi (b := false) (by show ("tuple" : String) ≠ ""; decide) (by intro ds h; cases h) (by show kitB "tuple" "dict" = some false; decide +kernel) q
theorem isi_lst_bool {ds : List D} (q : Q F ms (.bl false)) : AC K (rIsi K) [.lst ds, .ty "bool"] F ms Q := ac_isi (b := false) (by show ("list" : String) ≠ ""; decide) (by intro ds h; cases h) (by show kitB "list" "bool" = some false; decide +kernel) q
theorem isi_lst_int {ds : List D} (q : Q F ms (.bl false)) : AC K (rIsi K) [.lst ds, .ty "int"] F ms Q := ac_isi (b := false) (by show ("list" : String) ≠ ""; decide) (by intro ds h; cases h) (by show kitB "list" "int" = some false; decide +kernel) q
theorem isi_lst_str {ds : List D} (q : Q F ms (.bl false)) : AC K (rIsi K) [.lst ds, .ty "str"] F ms Q := ac_isi (b := false) (by show ("list" : String) ≠ ""; decide) (by intro ds h; cases h) (by show kitB "list" "str" = some false; decide +kernel) q
theorem isi_lst_tuple {ds : List D} (q : Q F ms (.bl false)) : AC K (rIsi K) [.lst ds, .ty "tuple"] F ms Q := ac_isi (b := false) (by show ("list" : String) ≠ ""; decide) (by intro ds h; cases h) (by show kitB "list" "tuple" = some false; decide +kernel) q
theorem isi_lst_list {ds : List D} (q : Q F ms (.bl true)) : AC K (rIsi K) [.lst ds, .ty "list"] F ms Q := ac_isi (b := true) (by show ("list" : String) ≠ ""; decide) (by intro ds h; cases h) (by show kitB "list" "list" = some true; decide +kernel) q
theorem isi_lst_dict {ds : List D} (q : Q F ms (.bl false)) : AC K (rIsi K) [.lst ds, .ty "dict"] F ms Q := ac_isi (b := false) (by show ("list" : String) ≠ ""; decide) (by intro ds h; cases h) (by show kitB "list" "dict" = some false; decide +kernel) q
theorem isi_dic_bool {kv : List (Key × D)} (q : Q F ms (.bl false)) : AC K (rIsi K) [.dic kv, .ty "bool"] F ms Q := ac_isi (b := false) (by show ("dict" : String) ≠ ""; decide) (by intro ds h; cases h) (by show kitB "dict" "bool" = some false; decide +kernel) q
theorem isi_dic_int {kv : List (Key × D)} (q : Q F ms (.bl false)) : AC K (rIsi K) [.dic kv, .ty "int"] F ms Q := ac_isi (b := false) (by show ("dict" : String) ≠ ""; decide) (by intro ds h; cases h) (by show kitB "dict" "int" = some false; decide +kernel) q
theorem isi_dic_str {kv : List (Key × D)} (q : Q F ms (.bl false)) : AC K (rIsi K) [.dic kv, .ty "str"] F ms Q := ac_isi (b := false) (by show ("dict" : String) ≠ ""; decide) (by intro ds h; cases h) (by show kitB "dict" "str" = some false; decide +kernel) q
theorem isi_dic_tuple {kv : List (Key × D)} (q : Q F ms (.bl false)) : AC K (rIsi K) [.dic kv, .ty "tuple"] F ms Q := ac_isi (b := false) (by show ("dict" : String) ≠ ""; decide) (by intro ds h; cases h) (by show kitB "dict" "tuple" = some false; decide +kernel) q
theorem isi_dic_list {kv : List (Key × D)} (q : Q F ms (.bl false)) : AC K (rIsi K) [.dic kv, .ty "list"] F ms Q := ac_isi (b := false) (by show ("dict" : String) ≠ ""; decide) (by intro ds h; cases h) (by show kitB "dict" "list" = some false; decide +kernel) q
theorem isi_dic_dict {kv : List (Key × D)} (q : Q F ms (.bl true)) : AC K (rIsi K) [.dic kv, .ty "dict"] F ms Q := ac_isi (b := true) (by show ("dict" : String) ≠ ""; decide) (by intro ds h; cases h) (by show kitB "dict" "dict" = some true; decide +kernel) q
theorem isiO_bool {l : Addr} {ds : List D} (n : Nat) (hn : ms[n]? = some (l, .lst ds)) (q : Q F ms (.bl false)) : AC K (rIsi K) [.ref l, .ty "bool"] F ms Q := ac_isiO n hn (b := false) (by decide +kernel) q
theorem isiO_int {l : Addr} {ds : List D} (n : Nat) (hn : ms[n]? = some (l, .lst ds)) (q : Q F ms (.bl false)) : AC K (rIsi K) [.ref l, .ty "int"] F ms Q := ac_isiO n hn (b := false) (by decide +kernel) q
theorem isiO_str {l : Addr} {ds : List D} (n : Nat) (hn : ms[n]? = some (l, .lst ds)) (q : Q F ms (.bl false)) : AC K (rIsi K) [.ref l, .ty "str"] F ms Q := ac_isiO n hn (b := false) (by decide +kernel) q
theorem isiO_tuple {l : Addr} {ds : List D} (n : Nat) (hn : ms[n]? = some (l, .lst ds)) (q : Q F ms (.bl false)) : AC K (rIsi K) [.ref l, .ty "tuple"] F ms Q := ac_isiO n hn (b := false) (by decide +kernel) q
theorem isiO_list {l : Addr} {ds : List D} (n : Nat) (hn : ms[n]? = some (l, .lst ds)) (q : Q F ms (.bl true)) : AC K (rIsi K) [.ref l, .ty "list"] F ms Q := ac_isiO n hn (b := true) (by decide +kernel) q
theorem isiO_dict {l : Addr} {ds : List D} (n : Nat) (hn : ms[n]? = some (l, .lst ds)) (q : Q F ms (.bl false)) : AC K (rIsi K) [.ref l, .ty "dict"] F ms Q := ac_isiO n hn (b := false) (by decide +kernel) q

theorem ar_neB {i j : Bool} (q : Q F ms (.bl (!decide (i = j)))) : AR K rNe (.bl i) (.bl j) F ms Q := fun R u v H Qc hu hv hh k => by
  cases hu; cases hv
  refine ⟨rfl, k F ms (.bl (!decide (i = j))) _ H Ex.refl hh ?_ q⟩
  have e : decide (V.bl i = V.bl j) = decide (i = j) := by cases i <;> cases j <;> simp
  rw [e]
  exact .bl _
theorem ar_NEb {i j : Bool} (q : Q F ms (.bl (!decide (i = j)))) : AR K (rNE K) (.bl i) (.bl j) F ms Q := ar_inl (ar_neB q)
theorem and_T {A B : Prop} (h : A) : (true = true → A) ∧ (true = false → B) := ⟨fun _ => h, fun z => Bool.noConfusion z⟩
theorem and_F {A B : Prop} (h : B) : (false = true → A) ∧ (false = false → B) := ⟨fun z => Bool.noConfusion z, fun _ => h⟩
theorem and_T' {A B : Prop} (h : A) : (true = false → B) ∧ (true = true → A) := ⟨fun z => Bool.noConfusion z, fun _ => h⟩
theorem and_F' {A B : Prop} (h : B) : (false = false → B) ∧ (false = true → A) := ⟨fun _ => h, fun z => Bool.noConfusion z⟩
/-- a comprehension whose list is owned -/
theorem ae_lcO (hg : GW g vs) (gm : ∀ v σ H N N', (∀ σ2 H2, N σ2 H2 → N' σ2 H2) → g v σ H N → g v σ H N') (h : AI Γ wi F ms S fun F1 ms1 ds G => ∃ I : Nat → Hp → Ms → List D → Prop, I 0 F1 ms1 [] ∧ (∀ i F' ms' acc, Ex F1 F' → I i F' ms' acc → G ms') ∧
    (∀ i d F' ms' acc, Ex F1 F' → ds[i]? = some d → I i F' ms' acc → ∀ F'', Ex F' F'' → AG Γ.nox g d F'' ms' (wipeS S vs) fun F2 ms2 S2 => AT Γ.nox tt F2 ms2 S2 fun F3 ms3 b => (b = true → AE Γ.nox te F3 ms3 S2 fun F4 ms4 y => acc.length < 100000 ∧ I (i + 1) F4 ms4 (acc ++ [y])) ∧ (b = false → I (i + 1) F3 ms3 acc)) ∧
    (∀ F' ms' acc, Ex F1 F' → I ds.length F' ms' acc → ∀ l, Q F' ((l, .lst acc) :: ms') (.ref l))) : AE Γ (tLc wi g tt te vs) F ms S Q := fun R σ H Qc hs hh x k =>
  h R σ H _ hs hh x fun F1 ms1 ds G J H1 e1 h1 it ⟨I, i0, iG, ib, ie⟩ => by
    intro D hD
    refine ⟨fun i m H' => m = ds.length - i ∧ i ≤ ds.length ∧ ∃ F' ms' acc, Ex F1 F' ∧ Hold Γ.K F' (ms' ++ (D, .lst acc) :: R) H' ∧ I i F' ms' acc, ⟨_, rfl, Nat.zero_le _, F1, ms1, [], Ex.refl, ?_, i0⟩, ?_⟩
    · exact (h1.made (m := .lst []) hD ⟨[], upd_same, .nil⟩).perm List.perm_middle
    rintro i m H' ⟨rfl, hi, F', ms', acc, e', hh', p⟩
    have hG := iG i F' ms' acc e' p
    by_cases hlt : i < ds.length
    · refine .inr ⟨it.goes _ i H' F' ms' hlt e' hh' hG, fun H2 => ∃ F2 ms2 acc2, Ex F1 F2 ∧ Hold Γ.K F2 (ms2 ++ (D, .lst acc2) :: R) H2 ∧ I (i + 1) F2 ms2 acc2, fun H2 ⟨F2, ms2, acc2, e2, b2, q2⟩ => ⟨ds.length - (i + 1), by omega, rfl, hlt, F2, ms2, acc2, e2, b2, q2⟩, fun x H2 y => ?_⟩
      obtain ⟨F2, d, e2, hh2, hd, hr⟩ := it.yields _ i H' x H2 F' ms' hlt e' hh' hG y
      refine gm x _ H2 _ _ (fun σ2 H3 z => ⟨z.2, z.1⟩) (hg x _ H2 _ _ (wipe_wipe σ vs) ?_)
      refine ib i d F' ms' acc e' hd p F2 e2 _ x (L2.wipe σ vs) H2 _ hr (((hs.mono e1).mono (e'.trans e2)).wipe vs) hh2 xle0 fun F3 ms3 S3 σ3 H3 e3 a3 b3 q3 => ?_
      refine q3 _ σ3 H3 _ a3 b3 xle0 fun F4 ms4 b H4 e4 b4 q4 => ?_
      cases b with
      | true =>
        refine q4.1 rfl _ σ3 H4 _ (a3.mono e4) b4 xle0 fun F5 ms5 d5 v5 H5 e5 b5 r5 q5 => ?_
        obtain ⟨_, vs5, hl, rl⟩ := b5.at mid_get
        refine ⟨vs5, hl, Evl.sz_lt (by rw [← rl.len]; exact q5.1), F5, ms5, acc ++ [d5], (((e'.trans e2).trans e3).trans e4).trans e5, ?_, q5.2⟩
        have := b5.set (m' := .lst (acc ++ [d5])) (o := .lst (vs5 ++ [v5])) mid_get ⟨_, upd_same, rl.append (RepL.one r5)⟩
        rw [mid_set] at this
        exact this
      | false => exact ⟨F4, ms4, acc, ((e'.trans e2).trans e3).trans e4, b4, q4.2 rfl⟩
    · have ei : i = ds.length := by omega
      subst ei
      refine .inl ⟨it.stops _ H' F' ms' e' hh' hG, ?_⟩
      exact k F' ((D, .lst acc) :: ms') (.ref D) _ H' (e1.trans e') (hh'.perm List.perm_middle.symm) (.ref D) (ie F' ms' acc e' p D)
end
/-! ### the start of a law -/
theorem start_law {K : Frg} {H : Hp} {a : Addr} {ns : List Int} {sp : ASp} (hS : SqL K H a (ns.map V.int)) (hq : ∀ F ms, sp [.rdl (ns.map D.int)] F ms (fun _ _ d => d = .bl true) fun _ _ _ _ => False) : toSp K sp [.ref a] H (fun v _ => v = .bl true) fun _ _ _ => False := by
  refine ⟨H, [], [], [.rdl (ns.map D.int)], _, _, ⟨Ex.refl, fun p hp => (List.not_mem_nil hp).elim, List.nodup_nil⟩, .cons (.rdl hS ?_) .nil, hq H [], fun F' ms' d v H' _ _ r e => ?_, fun _ _ _ _ _ _ _ _ _ z => z.elim⟩
  · clear hS hq
    induction ns with
    | nil => exact .nil
    | cons i ns ih => exact .cons (.int i) ih
  · subst e
    cases r
    rfl
end AL

set_option Elab.async false
set_option linter.all false
set_option maxRecDepth 100000
set_option maxHeartbeats 4000000
namespace AL
open PySem L2 PyProof.Rows
section
variable {Γ : Cg} {K : Frg} {F : Hp} {ms : Ms} {S : Sg} {Q : QE} {ta tb te tx : TE} {t u tt : TT} {r : R2} {ts tu tw : TS} {A : AEnds} {g : TG} {wi : TI} {vs : List Nat}
theorem as_cut (P : QS) (h1 : AS Γ ts F ms S { A with nx := P }) (h2 : ∀ F' ms' S', Ex F F' → P F' ms' S' → AS Γ tu F' ms' S' A) : AS Γ (tSeq ts tu) F ms S A :=
  as_seq (h1.mono (fun F' ms' S' e q => h2 F' ms' S' e q) (fun _ _ _ _ q => q) (fun _ _ _ _ q => q) (fun _ _ _ _ q => q))
theorem ae_cut (P : QE) (h1 : AE Γ te F ms S P) (h2 : ∀ F' ms' d, Ex F F' → P F' ms' d → Q F' ms' d) : AE Γ te F ms S Q := h1.mono fun F' ms' d e q => h2 F' ms' d e q
theorem ex_par' {a b : D} {P : D → D → Prop} (h : P a b) : ∃ x y, [a, b] = [x, y] ∧ P x y := ⟨_, _, rfl, h⟩
/-- own[i] = value -/
theorem as_subO {to ti : TE} (h : AE Γ te F ms S fun F0 ms0 d => AE Γ to F0 ms0 S fun F1 ms1 o => AE Γ ti F1 ms1 S fun F2 ms2 i => ∃ (n : Nat) (l : Addr) (ds : List D) (z : Int) (j : Nat), o = .ref l ∧ i = .int z ∧ ms2[n]? = some (l, .lst ds) ∧ ixN ds.length z = some j ∧ A.nx F2 (ms2.set n (l, .lst (ds.set j d))) S) :
    AS Γ (tAsg te (gSub to ti rSetL)) F ms S A := as_asgG (h.mono fun F0 ms0 d e q => ag_subO q)
end
theorem ixN_of {n j : Nat} {z : Int} (hz : z = (j : Int)) (h : j < n) : ixN n z = some j := by
  subst hz
  unfold ixN
  rw [if_pos (by omega), if_pos (by omega)]
  simp
theorem atI_of {α : Type} {xs : List α} {j : Nat} {z : Int} {d : α} (hz : z = (j : Int)) (h : xs[j]? = some d) : atI xs z = some d := by
  unfold atI
  rw [ixN_of hz (List.getElem?_eq_some_iff.mp h).1]
  exact h
theorem ixN_neg {n j : Nat} {z : Int} (hz : z + (n : Int) = (j : Int)) (h : j < n) (h0 : z < 0) : ixN n z = some j := by
  unfold ixN
  rw [if_neg (by omega), if_pos (by omega), hz]
  simp
theorem atI_neg {α : Type} {xs : List α} {j : Nat} {z : Int} {d : α} (hz : z + (xs.length : Int) = (j : Int)) (h : xs[j]? = some d) (h0 : z < 0) : atI xs z = some d := by
  unfold atI
  rw [ixN_neg hz (List.getElem?_eq_some_iff.mp h).1 h0]
  exact h
theorem set_get {ms : Ms} {k : Nat} {p : Addr × MO} (h : k < ms.length) : (ms.set k p)[k]? = some p := by rw [List.getElem?_set_self h]
theorem set_set {ms : Ms} {k : Nat} {p q : Addr × MO} : (ms.set k p).set k q = ms.set k q := by simp
theorem set_same {ms : Ms} {k : Nat} {p : Addr × MO} (h : ms[k]? = some p) : ms.set k p = ms := by
  apply List.ext_getElem?
  intro j
  rw [List.getElem?_set]
  by_cases e : k = j
  · subst e; rw [if_pos rfl, h]; rw [if_pos (List.getElem?_eq_some_iff.mp h).1]
  · rw [if_neg e]
end AL

set_option Elab.async false
set_option linter.all false
set_option maxRecDepth 100000
set_option maxHeartbeats 4000000
namespace AL
open PySem L2 PyProof.Rows StX
section
variable {Γ : Cg} {K : Frg} {F : Hp} {ms : Ms} {S : Sg} {Q : QE} {ta tb te tx tv : TE} {t u tt : TT} {r : R2} {ts tu tw : TS} {A : AEnds} {g : TG} {wi : TI} {vs : List Nat}
theorem am_extend {l : Addr} {xs zs : List D} (n : Nat) (hn : ms[n]? = some (l, .lst xs)) (hz : xs.length + zs.length ≤ 100000) (q : Q F (ms.set n (l, .lst (xs ++ zs))) .non) : AM K "list" rExtend (.ref l) [.lst zs] F ms Q := fun R u vs H Qc hu hv hh k => by
  cases hu
  cases hv with
  | cons h1 h2 =>
    cases h2
    cases h1 with
    | lst hb rb =>
      obtain ⟨_, ys, hl, r⟩ := hh.at (get_app hn)
      refine ⟨l, _, ys, _, rfl, rfl, hl, hh.ex _ _ hb, Evl.sz_of (by rw [← r.len, ← rb.len]; exact hz), k F (ms.set n (l, .lst (xs ++ zs))) .non _ _ Ex.refl ?_ .non q⟩
      rw [← set_app hn]
      exact hh.set (get_app hn) ⟨_, upd_same, r.append rb⟩
def rSIX : V → List V → Hp → VK → Prop := fun x xs H Q => ∃ a b i rest, x = .str a ∧ xs = [.str b] ∧ Builtin.Str.occurrences a b 0 a.length 1 = i :: rest ∧ Q (.int (i : Nat)) H
theorem mt_SIX {X : Cx} : MtR X "str.index" rSIX := mt_sindex
theorem am_sindex {a b : Str} {i : Nat} {rest : List Nat} (h : Builtin.Str.occurrences a b 0 a.length 1 = i :: rest) (q : Q F ms (.int (i : Nat))) : AM K "str" rSIX (.str a) [.str b] F ms Q := fun R u vs H Qc hu hv hh k => by
  cases hu
  cases hv with
  | cons h1 h2 =>
    cases h2
    cases h1
    exact ⟨a, b, i, rest, rfl, rfl, h, k F ms _ _ H Ex.refl hh (.int _) q⟩
theorem rep_ints {ns : List Int} {vs : List V} (h : RepL K F (ns.map D.int) vs) : vs = ns.map V.int := by
  induction ns generalizing vs with
  | nil => cases h; rfl
  | cons n ns ih =>
    cases h with
    | cons a b => cases a; rw [ih b]; rfl
theorem rep_strs {ns : List Str} {vs : List V} (h : RepL K F (ns.map D.str) vs) : vs = ns.map V.str := by
  induction ns generalizing vs with
  | nil => cases h; rfl
  | cons n ns ih =>
    cases h with
    | cons a b => cases a; rw [ih b]; rfl
theorem kSUM {X : Cx} (h : X.K = K) (hc : X.calm = true) : CallR X (.builtin "sum") (rSum K) := h ▸ cr_sum hc
theorem ac_sumL {ns : List Int} (q : Q F ms (.int ns.sum)) : AC K (rSum K) [.lst (ns.map D.int)] F ms Q := ac1 fun R v H Qc hv hh k => by
  cases hv with
  | lst h r =>
    have e := rep_ints r
    subst e
    exact ⟨_, ns, rfl, SqL.of (hh.ex _ _ h), k F ms _ _ H Ex.refl hh (.int _) q⟩
theorem ac_sumO {ns : List Int} {l : Addr} (n : Nat) (hn : ms[n]? = some (l, .lst (ns.map D.int))) (q : Q F ms (.int ns.sum)) : AC K (rSum K) [.ref l] F ms Q := ac1 fun R v H Qc hv hh k => by
  cases hv
  obtain ⟨_, ys, hl, r⟩ := hh.at (get_app hn)
  have e := rep_ints r
  subst e
  exact ⟨_, ns, rfl, SqL.of hl, k F ms _ _ H Ex.refl hh (.int _) q⟩
/-- [*e, ..] -/
theorem aa_star {tr : TA} {Q : Hp → Ms → List D → Prop} (h : AE Γ te F ms S fun F1 ms1 x => ∃ ds, (LstA F1 ms1 x ds ∨ x = .tup ds) ∧ AA Γ tr F1 ms1 S fun F2 ms2 ys => Q F2 ms2 (ds ++ ys)) : AA Γ (tStar Γ.K te tr) F ms S Q := fun R σ H Qc hs hh x k =>
  h R σ H _ hs hh x fun F1 ms1 d1 v1 H1 e1 h1 r1 ⟨ds, hd, q1⟩ => by
    obtain ⟨p, xs, rfl, hsq, rl⟩ : ∃ p xs, v1 = .ref p ∧ (SqT Γ.K H1 p xs ∨ SqL Γ.K H1 p xs) ∧ RepL Γ.K F1 ds xs := by
      rcases hd with hl | rfl
      · obtain ⟨a, vs0, rfl, ha, r⟩ := hl.to h1 r1
        exact ⟨a, vs0, rfl, .inr ha, r⟩
      · cases r1 with
        | tup hq r => exact ⟨_, _, rfl, .inl (ex_t h1.ex hq), r⟩
    exact ⟨p, xs, rfl, hsq, q1 R σ H1 _ (hs.mono e1) h1 (x.ex e1) fun F2 ms2 ys vs2 H2 e2 h2 r2 q2 => k F2 ms2 (ds ++ ys) (xs ++ vs2) H2 (e1.trans e2) h2 ((rl.mono e2).append r2) q2⟩
theorem pa_stark {X : Cx} {e : Expr} {es : List Expr} {tr : TA} {p : Pos} (h : X.K = K) (he : PE X e te) (hr : PA X es tr) (hs : starEach (.Starred e p :: es) X.env = (true, eval e X.env) :: starEach es X.env := by rfl) : PA X (.Starred e p :: es) (tStar K te tr) := h ▸ pa_star he hr hs
theorem ps_fldaugk {X : Cx} {o value : Expr} {f : Str} {tpos pos : Pos} {op : Operator} {rd : V → V → Hp → VK → Prop} (h : X.K = K) (ha : PE X o ta) (hv : PE X value tv) (hop : InOp X op rd) : PS X (.AugAssign (.Attribute o f tpos) op value pos) (sFldAug K ta tv rd f) := h ▸ ps_fldaug ha hv hop
/-- o.f += int -/
theorem as_fldaug {f : Str} (h : AE Γ ta F ms S fun F1 ms1 x => ∃ (n : Nat) (a C : Addr) (fs : List (Str × D)) (i : Int), x = .ref a ∧ ms1[n]? = some (a, .ins C fs) ∧ Cls Γ.K C ∧ NoAttr Γ.K C f ∧ fs.lookup f = some (.int i) ∧
    AE Γ tv F1 ms1 S fun F2 ms2 y => ∃ (j : Int) (n2 : Nat) (fs2 : List (Str × D)), y = .int j ∧ ms2[n2]? = some (a, .ins C fs2) ∧ fs2.length < 1000 ∧ A.nx F2 (ms2.set n2 (a, .ins C (putD f (.int (i + j)) fs2))) S) :
    AS Γ (sFldAug Γ.K ta tv (rI0 fun i j => .int (i + j)) f) F ms S A := fun R E σ H hs hh l =>
  h R σ H _ hs hh l.xe fun F1 ms1 x1 v1 H1 e1 h1 r1 ⟨n, a, C, fs, i, hx, hn, hc, hna, hl, q⟩ => by
    subst hx
    cases r1
    obtain ⟨_, dx, gs, i1, i2, i3⟩ := h1.at (get_app hn)
    obtain ⟨v, hv, rv⟩ := i3.look hl
    refine ⟨a, C, dx, gs, v, rfl, i1, hc, hna, hv, q R σ H1 _ (hs.mono e1) h1 (l.xe.ex e1) fun F2 ms2 y vy H2 e2 h2 r2 ⟨j, n2, fs2, hy, hn2, hlen, q2⟩ => ?_⟩
    subst hy
    cases r2
    cases rv
    obtain ⟨_, dx2, gs2, j1, j2, j3⟩ := h2.at (get_app hn2)
    refine ⟨i, j, rfl, rfl, dx2, gs2, j1, by rw [← j3.len]; exact hlen, l.nx F2 (ms2.set n2 (a, .ins C (putD f (.int (i + j)) fs2))) S σ _ (e1.trans e2) (hs.mono (e1.trans e2)) ?_ q2⟩
    rw [← set_app hn2]
    exact h2.set (get_app hn2) ⟨dx2, _, upd_same, j2, j3.put (.int _)⟩
/-- s in an owned list of texts -/
theorem ar_INo {l : Addr} {x : Str} {xs : List Str} (n : Nat) (hn : ms[n]? = some (l, .lst (xs.map D.str))) (q : Q F ms (.bl (decide (x ∈ xs)))) : AR K (rIN K) (.str x) (.ref l) F ms Q := ar_inr fun R u v H Qc hu hv hh k => by
  cases hu; cases hv
  obtain ⟨_, ys, hl, r⟩ := hh.at (get_app hn)
  have e := rep_strs r
  subst e
  have hin : inV (.str x) (xs.map V.str) = decide (x ∈ xs) := by
    unfold inV
    rw [List.any_map]
    by_cases h : x ∈ xs
    · rw [decide_eq_true h]
      exact List.any_eq_true.mpr ⟨x, h, by simp [eqV]⟩
    · rw [decide_eq_false h]
      rw [List.any_eq_false]
      intro y hy z
      simp [eqV] at z
      exact h (z ▸ hy)
  refine ⟨l, _, rfl, .inl (SqL.of hl), rfl, ?_, ?_⟩
  · rw [List.all_map]
    exact List.all_eq_true.mpr fun y _ => rfl
  · show Qc (.bl (inV (.str x) (xs.map V.str))) H
    rw [hin]
    exact k F ms _ _ H Ex.refl hh (.bl _) q
/-- an owned list + a list: a new owned one -/
theorem ar_ADDoo {l : Addr} {xs ys : List D} (n : Nat) (hn : ms[n]? = some (l, .lst xs)) (h : xs.length + ys.length ≤ 100000) (q : ∀ l2, Q F ((l2, .lst (xs ++ ys)) :: ms) (.ref l2)) : AR K (rADD K) (.ref l) (.lst ys) F ms Q := ar_inr (ar_inr (ar_inl fun R u v H Qc hu hv hh k => by
  cases hu
  obtain ⟨_, vs, hl, r⟩ := hh.at (get_app hn)
  cases hv with
  | lst hb rb =>
    refine ⟨_, _, _, _, rfl, rfl, hl, hh.ex _ _ hb, Evl.sz_of (by rw [← r.len, ← rb.len]; exact h), fun p hp => ?_⟩
    exact k F ((p, .lst (xs ++ ys)) :: ms) (.ref p) _ _ Ex.refl (hh.made (m := .lst (xs ++ ys)) hp ⟨_, upd_same, r.append rb⟩) (.ref p) (q p)))
def rangeC (lo c : Int) (n : Nat) : List D := (List.range n).map fun i => .int (lo + (i : Nat) * c)
theorem ai_rng3 {ta : TA} (h : AA Γ ta F ms S fun F1 ms1 ds => ∃ (i j c : Int) (n : Nat), ds = [.int i, .int j, .int c] ∧ RgC i j c n ∧ P F1 ms1 (rangeC i c n) fun _ => True) : AI Γ (iRng3 ta) F ms S P := fun R σ H Rc hs hh x k =>
  h R σ H _ hs hh x fun F1 ms1 ds vs H1 e1 h1 r1 ⟨i, j, c, n, hd, n1, p⟩ => by
    subst hd
    cases r1 with
    | cons a b =>
      cases b with
      | cons b d =>
        cases d with
        | cons d e =>
          cases e
          cases a
          cases b
          cases d
          refine ⟨i, j, c, n, rfl, n1, k F1 ms1 _ (fun _ => True) _ H1 e1 h1 ⟨fun _ i H F' ms' hi _ _ _ => ?_, fun _ H F' ms' _ _ _ => ?_, fun _ m H x H' F' ms' hi _ hh' _ y => ?_⟩ p⟩
          · unfold rangeC at hi; rw [List.length_map, List.length_range] at hi; exact hi
          · show n ≤ (rangeC i c n).length; unfold rangeC; rw [List.length_map, List.length_range]; exact Nat.le_refl _
          · unfold rangeC at hi; rw [List.length_map, List.length_range] at hi
            obtain ⟨y1, y2⟩ := y
            subst y1 y2
            refine ⟨F', .int (i + (m : Nat) * c), Ex.refl, hh', ?_, .int _⟩
            unfold rangeC
            rw [List.getElem?_map, List.getElem?_range hi]
            rfl
end
theorem rangeC_at {lo c : Int} {n i : Nat} {d : D} (h : (rangeC lo c n)[i]? = some d) : i < n ∧ d = .int (lo + (i : Nat) * c) := by
  have hi := (List.getElem?_eq_some_iff.mp h).1
  unfold rangeC at hi h
  rw [List.length_map, List.length_range] at hi
  rw [List.getElem?_map, List.getElem?_range hi] at h
  exact ⟨hi, (Option.some.inj h).symm⟩
theorem rangeC_len {lo c : Int} {n : Nat} : (rangeC lo c n).length = n := by unfold rangeC; rw [List.length_map, List.length_range]
theorem rgc2 {m : Nat} (h : m ≤ 10) : RgC 0 (2 * (m : Int)) 2 m := by
  have : ∀ m ∈ List.range 11, Builtin.Range.small 0 (2 * (m : Int)) 2 = true ∧ Builtin.Range.rangeSize 0 (2 * (m : Int)) 2 = m := by decide +kernel
  have q := this m (List.mem_range.mpr (by omega))
  exact ⟨by decide, by decide, q.1, q.2⟩
end AL

set_option Elab.async false
set_option linter.all false
set_option maxRecDepth 100000
set_option maxHeartbeats 4000000
namespace AL
open PySem L2 PyProof.Rows
/-! ### a, *b = a list -/
def gStar (K : Frg) (t : TGs) : TG := fun v σ H Q => ∃ l x xs, v = .ref l ∧ SqL K H l (x :: xs) ∧ xs.length ≤ 10000 ∧ ∀ p, H p = none → t [x, .ref p] σ (upd H p (.lst xs)) Q
theorem pg_starL {X : Cx} {K : Frg} {a b : Expr} {k : Nat} {sp pos : Pos} {t : TGs} (hK : X.K = K) (hc : X.calm = true) (h : PGs X [a, b] t)
    (h1 : (assignEach [a, .Starred b sp] X.env).map (·.2) = (assignEach [a, b] X.env).map (·.2) := by rfl) (h2 : (assignEach [a, .Starred b sp] X.env).length = 2 := by rfl) (h3 : (assignEach [a, .Starred b sp] X.env).findIdx? (·.1) = some 1 := by rfl) :
    PG X (.Tuple [a, .Starred b sp] k pos) (gStar K t) := by
  subst hK
  refine ⟨fun pins s σ H v u Q I r hw => ?_⟩
  obtain ⟨l, x, xs, e1, hq, hz, hw⟩ := hw
  subst e1
  cases r
  obtain ⟨its, rv, pl, hz2⟩ := I.list hq
  have hl : s.heap.IsList l its.toArray := pl.isList
  cases rv with
  | @cons _ u0 _ us r0 rr =>
  rw [assign_Tuple]
  refine wpAny_bind (wpAny_standAt ?_)
  unfold unpack
  rw [h2, h3, h1]
  refine wpAny_bind (wpAny_holding ?_)
  have hh := I.ok.hd hc
  have hlen : us.length = xs.length := rr.length.symm
  have hsz : (u0 :: us).toArray.size = us.length + 1 := by simp
  have hlt : l ≠ s.heap.objs.size := by obtain ⟨o, ho, _⟩ := hl; exact Nat.ne_of_lt (Heap.lt_size ho)
  unfold unpackItems
  refine wpAny_bind ?_
  unfold notIterableAtAll
  refine wpAny_bind (wpAny_specialOf hl.typeIs PySem.F.slot_list_iter.lookup ?_)
  refine wpAny_pure ?_
  simp only [Bool.false_eq_true, if_false]
  refine wpAny_bind (wpAny_holding (wpAny_pyIter_list hl ?_))
  refine wpAny_bind (wpAny_holding (PySem.W.kun_draw hlt 1 0 _ _ ⟨_, Heap.get?_push_size _ rfl, rfl, rfl⟩ (hl.push _) (by rw [hsz]; omega) fun h₁ hit₁ hs₁ => ?_))
  have hl₁ : h₁.IsList l (u0 :: us).toArray := (hl.push _).extBut hs₁.extBut hlt
  rw [Nat.zero_add] at hit₁
  have hit₁' := hit₁
  obtain ⟨oi, hoi, _⟩ := hit₁'
  have hl₁' := hl₁
  obtain ⟨ol, hol, _⟩ := hl₁'
  have ht : ((u0 :: us).toArray.toList.drop 0).take 1 = [u0] := rfl
  rw [ht]
  rw [if_neg (show ¬ ([u0].length < 1) from Nat.lt_irrefl 1)]
  refine wpAny_bind (wpAny_holding (PySem.W.kun_collect (s := { s with heap := h₁ }) (T := "list_iterator") (.inr (.inr (.inl rfl))) (PySem.Walks.list (A := X.A.in1) hh s.heap.objs.size l hlt (u0 :: us).toArray) (fun j u st => st.1.typeIs) (k := 1) (by rw [hsz]; omega) ⟨hit₁, hl₁⟩ (Heap.lt_size hoi) (Heap.lt_size hol) (fun h₂ tk hk => ?_) (by rw [hsz]; exact Evl.sz_of (by omega))))
  have hd : (u0 :: us).toArray.toList.drop 1 = us := rfl
  rw [hd]
  show wpAny _ _ (if us.length < 0 then _ else _) _ _ _
  rw [if_neg (Nat.not_lt_zero _)]
  show wpAny _ _ (newList (us.take us.length) >>= fun d => pure ([u0] ++ [d] ++ us.drop us.length)) _ _ _
  rw [List.take_length, List.drop_length]
  have he : ∀ b o, s.heap.get? b = some o → h₂.get? b = some o := fun b o e => hk b o (Nat.ne_of_lt (Heap.lt_size e)) (hs₁.extBut b o (Nat.ne_of_lt (Heap.lt_size e)) (Heap.get?_push_of_some _ e))
  have I2 : Inv X pins σ H { s with heap := h₂, toks := tk } := I.kept (t' := tk) he
  refine wpAny_bind (wpAny_newList ?_)
  refine wpAny_pure ?_
  have hf : H h₂.objs.size = none := I2.hok.fresh (Nat.le_refl _)
  have I3 : Inv X pins σ (upd H h₂.objs.size (.lst xs)) { s with heap := h₂.push { cls := .type "list", data := .seq us.toArray }, toks := tk } := I2.laid (t' := tk) (fun b u e => Heap.get?_push_of_some _ e) (Nat.le_refl _) ⟨Evl.sz_of (by omega), us, 0, rr, Heap.get?_push_size _ rfl⟩
  exact h.run pins _ σ _ [x, .ref h₂.objs.size] [u0, .ref h₂.objs.size] Q I3 (.cons r0 (.cons rfl .nil)) (hw _ hf)
section
variable {Γ : Cg} {K : Frg} {F : Hp} {ms : Ms} {S : Sg} {Q : QE} {ta tb te tx tv : TE} {t u tt : TT} {r : R2} {ts tu tw : TS} {A : AEnds} {g : TG} {gs : TGs} {wi : TI} {vs : List Nat}
theorem ag_star {d : D} {ds : List D} {N : QS} (hz : ds.length ≤ 10000) (h : ∀ F', Ex F F' → AGs Γ gs [d, .lst ds] F' ms S N) : AG Γ (gStar Γ.K gs) (.lst (d :: ds)) F ms S N := fun R v σ H Nc hv hs hh x k => by
  cases hv with
  | lst hl rl =>
    cases rl with
    | @cons _ v0 _ vs r0 rr =>
      refine ⟨_, v0, vs, rfl, SqL.of (hh.ex _ _ hl), by rw [← rr.len]; exact hz, fun p hp => ?_⟩
      obtain ⟨e, hh'⟩ := hh.laid (.lst vs) hp
      exact h _ e R [v0, .ref p] σ _ Nc (.cons (r0.mono e) (.cons (.lst upd_same (rr.mono e)) .nil)) (hs.mono e) hh' (x.ex e) fun F' ms' S' σ' H' e2 => k F' ms' S' σ' H' (e.trans e2)
end
end AL

set_option Elab.async false
set_option linter.all false
set_option maxRecDepth 100000
set_option maxHeartbeats 4000000
namespace AL
open PySem L2 PyProof.Rows
open PySem.Builtin.Str PySem.StrLaws RZ
/-! ### split at one sign, at most twice -/
theorem subAt_one (s : Str) (c i : Nat) : subAt s (sg c) i = decide (s.cps.toList[i]? = some c) := by
  unfold subAt
  have e : (s.cps.extract i (i + (sg c).length)).toList = (s.cps.toList.drop i).take 1 := by
    rw [Array.toList_extract, List.extract_eq_drop_take]
    show ((s.cps.toList.drop i).take (i + 1 - i)) = _
    rw [show i + 1 - i = 1 by omega]
  have b : (s.cps.extract i (i + (sg c).length) == (sg c).cps) = decide ((s.cps.toList.drop i).take 1 = [c]) := by
    rw [← e]
    by_cases h : s.cps.extract i (i + (sg c).length) = (sg c).cps
    · rw [h]
      simp [sg]
    · have h2 : ¬ (s.cps.extract i (i + (sg c).length)).toList = [c] := fun z => h (Array.toList_inj.mp z)
      rw [decide_eq_false h2]
      exact beq_eq_false_iff_ne.mpr h
  rw [b, ← List.head?_drop]
  cases s.cps.toList.drop i with
  | nil => simp
  | cons a l => simp
def ostep (s sub : Str) (hi limit : Nat) (st : Array Nat × Nat) (i : Nat) : Array Nat × Nat :=
  if ((st.fst.size < limit ∧ st.snd ≤ i) ∧ i + sub.length ≤ hi) ∧ subAt s sub i = true then (st.fst.push i, i + sub.length) else (st.fst, st.snd)
theorem occ_fold (s sub : Str) (lo hi limit : Nat) : occurrences s sub lo hi limit = ((List.range' lo (hi + 1 - lo)).foldl (ostep s sub hi limit) (#[], lo)).fst.toList := by
  rw [occ_eq]
  have e : occBody s sub hi limit = fun i st => pure (.yield (ostep s sub hi limit st i)) := by
    funext i st
    unfold occBody ostep
    split <;> rfl
  rw [e, List.forIn_pure_yield_eq_foldl]
  rfl
theorem ostep_skip {s sub : Str} {hi limit : Nat} {st : Array Nat × Nat} : ∀ {l : List Nat}, (∀ i ∈ l, subAt s sub i = false ∨ limit ≤ st.fst.size) → l.foldl (ostep s sub hi limit) st = st
  | [], _ => rfl
  | i :: l, h => by
    have e : ostep s sub hi limit st i = st := by
      unfold ostep
      rw [if_neg]
      rintro ⟨⟨⟨a, _⟩, _⟩, b⟩
      rcases h i (List.mem_cons_self ..) with z | z
      · rw [z] at b; cases b
      · omega
    rw [List.foldl_cons, e]
    exact ostep_skip fun j hj => h j (List.mem_cons_of_mem _ hj)
theorem ostep_hit {s sub : Str} {hi limit : Nat} {st : Array Nat × Nat} {i : Nat} (h1 : st.fst.size < limit) (h2 : st.snd ≤ i) (h3 : i + sub.length ≤ hi) (h4 : subAt s sub i = true) : ostep s sub hi limit st i = (st.fst.push i, i + sub.length) := by
  unfold ostep
  rw [if_pos ⟨⟨⟨h1, h2⟩, h3⟩, h4⟩]
theorem range_cut (a m n : Nat) : List.range' a (m + 1 + n) = List.range' a m ++ (a + m) :: List.range' (a + m + 1) n := by
  have e1 := List.range'_append_1 (s := a) (m := m) (n := 1 + n)
  rw [show m + 1 + n = m + (1 + n) by omega, ← e1, show 1 + n = n + 1 by omega, List.range'_succ]
theorem splitMax2 {x : Str} {P Q R : List Nat} {c : Nat} (hc : c < 256) (hx : x.cps.toList = P ++ c :: (Q ++ c :: R)) (hP : c ∉ P) (hQ : c ∉ Q) : Txt.splitMax x (sg c) 2 = [⟨P.toArray⟩, ⟨Q.toArray⟩, ⟨R.toArray⟩] := by
  have hlen : x.length = P.length + 1 + (Q.length + 1 + R.length) := by
    show x.cps.size = _
    rw [← Array.length_toList, hx]
    simp
    omega
  have hocc : occurrences x (sg c) 0 x.length 2 = [P.length, P.length + 1 + Q.length] := by
    have s1 : (List.range' 0 P.length).foldl (ostep x (sg c) x.length 2) (#[], 0) = (#[], 0) := ostep_skip fun i hi => by
      left
      rw [List.mem_range'_1] at hi
      rw [subAt_one]
      refine decide_eq_false fun z => ?_
      rw [hx, List.getElem?_append_left (by omega)] at z
      exact hP (List.mem_of_getElem? z)
    have s2 : ostep x (sg c) x.length 2 (#[], 0) (0 + P.length) = (#[P.length], P.length + 1) := by
      rw [ostep_hit (by simp) (Nat.zero_le _) (by show _ + 1 ≤ _; omega) (by
        rw [subAt_one]
        refine decide_eq_true ?_
        rw [hx, Nat.zero_add, List.getElem?_append_right (Nat.le_refl _), Nat.sub_self]
        rfl)]
      simp [sg, Str.length]
    have s3 : (List.range' (0 + P.length + 1) Q.length).foldl (ostep x (sg c) x.length 2) (#[P.length], P.length + 1) = (#[P.length], P.length + 1) := ostep_skip fun i hi => by
      left
      rw [List.mem_range'_1] at hi
      rw [subAt_one]
      refine decide_eq_false fun z => ?_
      rw [hx, List.getElem?_append_right (by omega), show i - P.length = (i - P.length - 1) + 1 by omega, List.getElem?_cons_succ, List.getElem?_append_left (by omega)] at z
      exact hQ (List.mem_of_getElem? z)
    have s4 : ostep x (sg c) x.length 2 (#[P.length], P.length + 1) (0 + P.length + 1 + Q.length) = (#[P.length, P.length + 1 + Q.length], P.length + 1 + Q.length + 1) := by
      rw [ostep_hit (by simp) (by show P.length + 1 ≤ _; omega) (by show _ + 1 ≤ _; omega) (by
        rw [subAt_one]
        refine decide_eq_true ?_
        rw [hx, List.getElem?_append_right (by omega), show 0 + P.length + 1 + Q.length - P.length = Q.length + 1 by omega, List.getElem?_cons_succ, List.getElem?_append_right (Nat.le_refl _), Nat.sub_self]
        rfl)]
      simp [sg, Str.length]
    have s5 : (List.range' (0 + P.length + 1 + Q.length + 1) (R.length + 1)).foldl (ostep x (sg c) x.length 2) (#[P.length, P.length + 1 + Q.length], P.length + 1 + Q.length + 1) = (#[P.length, P.length + 1 + Q.length], P.length + 1 + Q.length + 1) := ostep_skip fun i hi => .inr (by simp)
    rw [occ_fold, Nat.sub_zero, show x.length + 1 = P.length + 1 + (Q.length + 1 + (R.length + 1)) by omega, range_cut, List.foldl_append, s1, List.foldl_cons, s2, range_cut, List.foldl_append, s3, List.foldl_cons, s4, s5]
  have k1 : Builtin.Str.strKind (sg c) = 1 := by
    unfold Builtin.Str.strKind sg
    rw [if_pos]
    simp [hc]
  have k2 : ¬ Builtin.Str.strKind x < Builtin.Str.strKind (sg c) := by
    rw [k1]
    unfold Builtin.Str.strKind
    split
    · omega
    · split <;> omega
  have hl : limitOf x 2 = 2 := by
    first
    | rfl
    | (unfold limitOf; simp)
  unfold Txt.splitMax
  rw [hl, hocc, if_neg, if_neg]
  · unfold partsBetween
    show [strSub x 0 P.length, strSub x (P.length + 1) (P.length + 1 + Q.length), strSub x (P.length + 1 + Q.length + 1) x.length] = _
    have ex : ∀ i j, strSub x i j = ⟨((x.cps.toList.take j).drop i).toArray⟩ := fun i j => by
      unfold strSub
      congr 1
      apply Array.toList_inj.mp
      rw [Array.toList_extract, List.extract_eq_drop_take, List.drop_take]
    rw [ex, ex, ex, hx]
    refine List.cons_eq_cons.mpr ⟨?_, List.cons_eq_cons.mpr ⟨?_, List.cons_eq_cons.mpr ⟨?_, rfl⟩⟩⟩
    · simp
    · rw [List.drop_take]
      simp
    · rw [List.drop_take]
      have e1 : List.drop (P.length + 1 + Q.length + 1) (P ++ c :: (Q ++ c :: R)) = R := by
        rw [show P.length + 1 + Q.length + 1 = P.length + (1 + (Q.length + 1)) by omega, ← List.drop_drop, List.drop_left, ← List.drop_drop, List.drop_succ_cons, List.drop_zero, ← List.drop_drop, List.drop_left]
        rfl
      rw [e1, List.take_of_length_le (by omega)]
  · exact fun z => Bool.noConfusion z
  · rw [Bool.not_eq_true, Bool.or_eq_false_iff]
    refine ⟨decide_eq_false ?_, decide_eq_false k2⟩
    show ¬ x.length < 1
    omega
section
variable {Γ : Cg} {K : Frg} {F : Hp} {ms : Ms} {S : Sg} {Q : QE} {ta tb te tx tv : TE} {A : AEnds} {P : Hp → Ms → List D → (Ms → Prop) → Prop}
def rSPL : V → List V → Hp → VK → Prop := fun x xs H Q => ∃ a b, x = .str a ∧ xs = [.str b] ∧ (b.length == 0) = false ∧ a.length + 2 ≤ sizeLine ∧ rNewStrs (Txt.split a b) H Q
def rSPM : V → List V → Hp → VK → Prop := fun x xs H Q => ∃ (a b : Str) (k : Int), x = .str a ∧ xs = [.str b, .int k] ∧ (b.length == 0) = false ∧ -(2 ^ 63) ≤ k ∧ k < 2 ^ 63 ∧ a.length + 2 ≤ sizeLine ∧ rNewStrs (Txt.splitMax a b k) H Q
theorem mt_SPL {X : Cx} : MtR X "str.split" rSPL := mt_split
theorem mt_SPM {X : Cx} : MtR X "str.split" rSPM := mt_splitMax
theorem rep_strl (ys : List Str) : RepL K F (ys.map D.str) (ys.map V.str) := by
  induction ys with
  | nil => exact .nil
  | cons y ys ih => exact .cons (.str y) ih
theorem am_split {a b : Str} (hb : (b.length == 0) = false) (hz : a.length ≤ 99998) (q : ∀ F', Ex F F' → Q F' ms (.lst ((Txt.split a b).map D.str))) : AM K "str" rSPL (.str a) [.str b] F ms Q := fun R u vs H Qc hu hv hh k => by
  cases hu
  cases hv with
  | cons h1 h2 =>
    cases h2
    cases h1
    refine ⟨a, b, rfl, rfl, hb, Evl.sz_of (by omega), fun p hp => ?_⟩
    obtain ⟨e, hh'⟩ := hh.laid (.lst ((Txt.split a b).map V.str)) hp
    exact k _ ms _ _ _ e hh' (.lst upd_same (rep_strl _)) (q _ e)
theorem am_splitMax {a b : Str} {n : Int} (hb : (b.length == 0) = false) (h1 : -(2 ^ 63) ≤ n) (h2 : n < 2 ^ 63) (hz : a.length ≤ 99998) (q : ∀ F', Ex F F' → Q F' ms (.lst ((Txt.splitMax a b n).map D.str))) : AM K "str" rSPM (.str a) [.str b, .int n] F ms Q := fun R u vs H Qc hu hv hh k => by
  cases hu
  cases hv with
  | cons g1 g2 =>
    cases g2 with
    | cons g2 g3 =>
      cases g3
      cases g1
      cases g2
      refine ⟨a, b, n, rfl, rfl, hb, h1, h2, Evl.sz_of (by omega), fun p hp => ?_⟩
      obtain ⟨e, hh'⟩ := hh.laid (.lst ((Txt.splitMax a b n).map V.str)) hp
      exact k _ ms _ _ _ e hh' (.lst upd_same (rep_strl _)) (q _ e)
theorem kANY {X : Cx} (h : X.K = K) (hc : X.calm = true) : CallR X (.builtin "any") (rAny K) := h ▸ cr_any hc
theorem ac_any {bs : List Bool} {d : D} (hd : d = .lst (bs.map D.bl)) (q : Q F ms (.bl (bs.any id))) : AC K (rAny K) [d] F ms Q := ac1 fun R v H Qc hv hh k => by
  subst hd
  obtain ⟨a, vs, rfl, hl, rl⟩ : ∃ a vs, v = .ref a ∧ F a = some (.lst vs) ∧ RepL K F (bs.map D.bl) vs := by
    cases hv with
    | lst h r => exact ⟨_, _, rfl, h, r⟩
  have hvs : vs = bs.map V.bl := by
    clear q hl hv hh k
    induction bs generalizing vs with
    | nil => cases rl; rfl
    | cons b bs ih =>
      cases rl with
      | cons h r => cases h; rw [ih _ r]; rfl
  subst hvs
  exact ⟨a, bs, rfl, SqL.of (hh.ex _ _ hl), k F ms _ _ H Ex.refl hh (.bl _) q⟩
/-- zip of two tuples of one length -/
def zipD (xs ys : List D) : List D := (xs.zip ys).map fun p => .tup [p.1, p.2]
theorem zipD_len {xs ys : List D} (h : xs.length = ys.length) : (zipD xs ys).length = xs.length := by unfold zipD; rw [List.length_map, List.length_zip, h, Nat.min_self]
theorem zipD_get {xs ys : List D} {i : Nat} {d e : D} (h1 : xs[i]? = some d) (h2 : ys[i]? = some e) : (zipD xs ys)[i]? = some (.tup [d, e]) := by
  unfold zipD
  have e2 : (xs.zip ys)[i]? = some (d, e) := List.getElem?_zip_eq_some.mpr ⟨h1, h2⟩
  rw [List.getElem?_map, e2]
  rfl
theorem zipD_inv {xs ys : List D} {i : Nat} {e : D} (h : (zipD xs ys)[i]? = some e) : ∃ a b, xs[i]? = some a ∧ ys[i]? = some b ∧ e = .tup [a, b] := by
  unfold zipD at h
  rw [List.getElem?_map] at h
  cases q : (xs.zip ys)[i]? with
  | none => rw [q] at h; cases h
  | some p =>
    rw [q] at h
    obtain ⟨h1, h2⟩ := List.getElem?_zip_eq_some.mp q
    exact ⟨_, _, h1, h2, (Option.some.inj h).symm⟩
theorem ai_zipT {ta : TA} (h : AA Γ ta F ms S fun F1 ms1 ds => ∃ xs ys : List D, ds = [.tup xs, .tup ys] ∧ xs.length = ys.length ∧ P F1 ms1 (zipD xs ys) fun _ => True) : AI Γ (iZipA Γ.K ta) F ms S P := fun R σ H Rc hs hh x k =>
  h R σ H _ hs hh x fun F1 ms1 ds vs H1 e1 h1 r1 ⟨xs, ys, hd, hl, p⟩ => by
    subst hd
    cases r1 with
    | cons a b =>
      cases b with
      | cons b c =>
        cases c
        cases a with
        | @tup a us _ ha ra =>
          cases b with
          | @tup b ws _ hb rb =>
            refine ⟨a, b, us, ws, rfl, .inr ⟨ex_t h1.ex ha, ex_t h1.ex hb, k F1 ms1 _ (fun _ => True) _ H1 e1 h1 ⟨fun _ i H' F' ms' hi e' hh' _ => ?_, fun _ H' F' ms' e' hh' _ => ?_, fun _ i H' x' H2 F' ms' hi e' hh' _ y => ?_⟩ p⟩⟩
            · rw [zipD_len hl] at hi
              exact ⟨us, ws, us[i]'(by rw [← ra.len]; exact hi), ws[i]'(by rw [← rb.len, ← hl]; exact hi), ex_t hh'.ex (ex_t e' ha), ex_t hh'.ex (ex_t e' hb), by simp [show i < us.length by rw [← ra.len]; exact hi], by simp [show i < ws.length by rw [← rb.len, ← hl]; exact hi]⟩
            · exact ⟨us, ws, ex_t hh'.ex (ex_t e' ha), ex_t hh'.ex (ex_t e' hb), .inl (by rw [zipD_len hl, ra.len]; exact Nat.le_refl _)⟩
            · obtain ⟨T, u, w, y1, y2, y3, y4, y5⟩ := y
              subst y1 y3
              obtain ⟨d, hd, rd⟩ := ra.get (y4 us (ex_t hh'.ex (ex_t e' ha)))
              obtain ⟨e, he, re⟩ := rb.get (y5 ws (ex_t hh'.ex (ex_t e' hb)))
              obtain ⟨F'', e2, h2, r2⟩ := pair_rep hh' y2 (rd.mono e') (re.mono e')
              exact ⟨F'', _, e2, h2, zipD_get hd he, r2⟩
end
theorem pi_zipk {X : Cx} {K : Frg} {e e2 : Expr} {ta : TA} {p pos tpos : Pos} {elts : List Expr} {kk : Nat} (h : X.K = K) (hg : Gl X "zip") (hm : X.mg "zip" = none) (ha : PA X [e, e2] ta)
    (hs : starEach [e, e2] X.env = (false, eval e X.env) :: starEach [e2] X.env := by rfl) (hpl : (backTo pos (starEach [e2] X.env)).any (·.1) = false := by rfl) :
    PI X (.Tuple elts kk tpos) (.Call (.Name "zip" p) [e, e2] [] pos) (iZipA K ta) := h ▸ pi_zipA hg hm ha hs hpl
theorem pg_tupk {X : Cx} {K : Frg} {es : List Expr} {k : Nat} {t : TGs} {n : Nat} {pos : Pos} (hK : X.K = K) (hc : X.calm = true) (h : PGs X es t)
    (hn : (assignEach es X.env).length = n := by rfl) (hst : (assignEach es X.env).findIdx? (·.1) = none := by rfl) : PG X (.Tuple es k pos) (gTup K n t) := hK ▸ pg_tup hc h hn hst
end AL

set_option Elab.async false
set_option linter.all false
set_option maxRecDepth 100000
set_option maxHeartbeats 4000000
namespace AL
open PySem L2 PyProof.Rows
section
variable {Γ : Cg} {K : Frg} {F : Hp} {ms : Ms} {S : Sg} {Q : QE}
theorem ac_tupleO {l : Addr} {ds : List D} (n : Nat) (hn : ms[n]? = some (l, .lst ds)) (q : ∀ F', Ex F F' → Q F' ms (.tup ds)) : AC K (rTUPLE K) [.ref l] F ms Q := ac1 fun R v H Qc hv hh k => by
  cases hv
  obtain ⟨_, ys, hl, r⟩ := hh.at (get_app hn)
  refine ⟨l, ys, rfl, .inl ⟨SqL.of hl, fun p hp => ?_⟩⟩
  obtain ⟨e, hh'⟩ := hh.laid (.tup ys) hp
  exact k _ ms _ _ _ e hh' (.tup (SqT.of upd_same) (r.mono e)) (q _ e)
end
end AL

set_option Elab.async false
set_option linter.all false
set_option maxRecDepth 100000
set_option maxHeartbeats 4000000
namespace K15
open PySem L2 PyProof.Rows AL
def top (i : Nat) : Stmt := PySem.Challenge.pw_marqueeletters_k15_texts_of_seasons.main.body.getD i (.Pass ⟨0, 0, 0, 0⟩)
abbrev s_is_int_in : Stmt := top 13
abbrev s_is_pair : Stmt := top 14
abbrev s_Sign___init__ : Stmt := inClass (top 15) 0
abbrev s_Sign_is_text : Stmt := inClass (top 15) 7
abbrev s_Sign_check_texts : Stmt := inClass (top 15) 8
abbrev s_check_offsets : Stmt := top 17
abbrev s_read_number : Stmt := top 23
abbrev s_format_season : Stmt := top 24
abbrev s_parse_season : Stmt := top 25
abbrev s__law_random : Stmt := top 27
abbrev s__law_below : Stmt := top 28
abbrev s__law_shuffled : Stmt := top 29
abbrev s__law_pairs : Stmt := top 30
abbrev s__law_text : Stmt := top 31
abbrev s__law_texts : Stmt := top 32
abbrev s__law_equal : Stmt := top 33
abbrev s_law : Stmt := top 34
abbrev N_is_int_in : List Str := ["value", "low", "high"]
theorem sc_is_int_in : FnScope N_is_int_in ["value", "low", "high"] (defScope s_is_int_in) := ⟨rfl, rfl, rfl, by decide +kernel, rfl, by decide +kernel, by decide +kernel⟩
abbrev N_is_pair : List Str := ["value"]
theorem sc_is_pair : FnScope N_is_pair ["value"] (defScope s_is_pair) := ⟨rfl, rfl, rfl, by decide +kernel, rfl, by decide +kernel, by decide +kernel⟩
abbrev N_Sign___init__ : List Str := ["self", "width", "pairs", "index", "pair"]
theorem sc_Sign___init__ : FnScope N_Sign___init__ ["self", "width", "pairs"] (defScope s_Sign___init__) := ⟨rfl, rfl, rfl, by decide +kernel, rfl, by decide +kernel, by decide +kernel⟩
abbrev N_Sign_is_text : List Str := ["self", "value", "letter"]
theorem sc_Sign_is_text : FnScope N_Sign_is_text ["self", "value"] (defScope s_Sign_is_text) := ⟨rfl, rfl, rfl, by decide +kernel, rfl, by decide +kernel, by decide +kernel⟩
abbrev N_Sign_check_texts : List Str := ["self", "texts", "index", "text"]
theorem sc_Sign_check_texts : FnScope N_Sign_check_texts ["self", "texts"] (defScope s_Sign_check_texts) := ⟨rfl, rfl, rfl, by decide +kernel, rfl, by decide +kernel, by decide +kernel⟩
abbrev N_check_offsets : List Str := ["sign", "texts", "offsets", "index", "offset"]
theorem sc_check_offsets : FnScope N_check_offsets ["sign", "texts", "offsets"] (defScope s_check_offsets) := ⟨rfl, rfl, rfl, by decide +kernel, rfl, by decide +kernel, by decide +kernel⟩
abbrev N_read_number : List Str := ["word", "digit"]
theorem sc_read_number : FnScope N_read_number ["word"] (defScope s_read_number) := ⟨rfl, rfl, rfl, by decide +kernel, rfl, by decide +kernel, by decide +kernel⟩
abbrev N_format_season : List Str := ["sign", "texts", "offsets", "lines", "text", "offset"]
theorem sc_format_season : FnScope N_format_season ["sign", "texts", "offsets"] (defScope s_format_season) := ⟨rfl, rfl, rfl, by decide +kernel, rfl, by decide +kernel, by decide +kernel⟩
abbrev N_parse_season : List Str := ["text", "lines", "words", "width", "texts", "offsets", "line", "word", "rest", "offset", "sign"]
theorem sc_parse_season : FnScope N_parse_season ["text"] (defScope s_parse_season) := ⟨rfl, rfl, rfl, by decide +kernel, rfl, by decide +kernel, by decide +kernel⟩
abbrev N__law_random : List Str := ["_law_script", "_law_salt", "_law_seed", "_law_cell"]
theorem sc__law_random : FnScope N__law_random ["_law_script", "_law_salt"] (defScope s__law_random) := ⟨rfl, rfl, rfl, by decide +kernel, rfl, by decide +kernel, by decide +kernel⟩
abbrev N__law_below : List Str := ["_law_d", "_law_limit", "_law_result"]
theorem sc__law_below : FnScope N__law_below ["_law_d", "_law_limit"] (defScope s__law_below) := ⟨rfl, rfl, rfl, by decide +kernel, rfl, by decide +kernel, by decide +kernel⟩
abbrev N__law_shuffled : List Str := ["_law_d", "_law_items", "_law_pool", "_law_result"]
theorem sc__law_shuffled : FnScope N__law_shuffled ["_law_d", "_law_items"] (defScope s__law_shuffled) := ⟨rfl, rfl, rfl, by decide +kernel, rfl, by decide +kernel, by decide +kernel⟩
abbrev N__law_pairs : List Str := ["_law_d", "_law_letters", "_law_shuffled_here", "_law_many", "_law_k"]
theorem sc__law_pairs : FnScope N__law_pairs ["_law_d", "_law_letters"] (defScope s__law_pairs) := ⟨rfl, rfl, rfl, by decide +kernel, rfl, by decide +kernel, by decide +kernel⟩
abbrev N__law_text : List Str := ["_law_d", "_law_most", "_law_letters", "_law_length", "_law_signs", "_law_inner", "_law_k", "_law_first", "_law_last"]
theorem sc__law_text : FnScope N__law_text ["_law_d", "_law_most", "_law_letters"] (defScope s__law_text) := ⟨rfl, rfl, rfl, by decide +kernel, rfl, by decide +kernel, by decide +kernel⟩
abbrev N__law_texts : List Str := ["_law_d", "_law_most", "_law_width", "_law_letters", "_law_k"]
theorem sc__law_texts : FnScope N__law_texts ["_law_d", "_law_most", "_law_width", "_law_letters"] (defScope s__law_texts) := ⟨rfl, rfl, rfl, by decide +kernel, rfl, by decide +kernel, by decide +kernel⟩
abbrev N__law_equal : List Str := ["_law_actual", "_law_expected", "_law_k"]
theorem sc__law_equal : FnScope N__law_equal ["_law_actual", "_law_expected"] (defScope s__law_equal) := ⟨rfl, rfl, rfl, by decide +kernel, rfl, by decide +kernel, by decide +kernel⟩
abbrev N_law : List Str := ["_law_script", "_law_d", "_law_step", "_law_width", "_law_letters", "_law_pairs_here", "_law_texts_here", "_law_offsets", "_law_text_here", "_law_lines", "_law_k", "_law_sign", "_law_some", "_law_places"]
theorem sc_law : FnScope N_law ["_law_script"] (defScope s_law) := ⟨rfl, rfl, rfl, by decide +kernel, rfl, by decide +kernel, by decide +kernel⟩
structure Txt (K : Frg) (mg : Str → Option Value) where
  c_Sign : Addr
  m_Sign : mg "Sign" = some (.ref c_Sign)
  k_Sign : Cls K c_Sign
  n_Sign_width : NoAttr K c_Sign "width"
  n_Sign_pairs : NoAttr K c_Sign "pairs"
  n_Sign_mates : NoAttr K c_Sign "mates"
  a_is_int_in : Addr
  d_is_int_in : FuncData
  F_is_int_in : Fun K "is_int_in" "is_int_in" s_is_int_in a_is_int_in d_is_int_in
  b_is_int_in : Binds K d_is_int_in ["value", "low", "high"] []
  m_is_int_in : mg "is_int_in" = some (.ref a_is_int_in)
  a_is_pair : Addr
  d_is_pair : FuncData
  F_is_pair : Fun K "is_pair" "is_pair" s_is_pair a_is_pair d_is_pair
  b_is_pair : Binds K d_is_pair ["value"] []
  m_is_pair : mg "is_pair" = some (.ref a_is_pair)
  a_Sign___init__ : Addr
  d_Sign___init__ : FuncData
  z_Sign___init__ : List V
  F_Sign___init__ : FunD K "__init__" "Sign.__init__" (defArgs s_Sign___init__) (defBody s_Sign___init__) (defScope s_Sign___init__) z_Sign___init__ [] a_Sign___init__ d_Sign___init__
  zr_Sign___init__ : ∀ F : Hp, RepL K F [.tup []] z_Sign___init__
  e_Sign___init__ : List Value
  vd_Sign___init__ : Vals z_Sign___init__ e_Sign___init__
  bd_Sign___init__ : Binds K d_Sign___init__ ["self", "width", "pairs"] e_Sign___init__
  b_Sign___init__ : Binds K d_Sign___init__ ["self", "width", "pairs"] []
  M_Sign : Mk K c_Sign a_Sign___init__
  a_Sign_is_text : Addr
  d_Sign_is_text : FuncData
  F_Sign_is_text : Fun K "is_text" "Sign.is_text" s_Sign_is_text a_Sign_is_text d_Sign_is_text
  b_Sign_is_text : Binds K d_Sign_is_text ["self", "value"] []
  Me_Sign_is_text : Meth K c_Sign "is_text" a_Sign_is_text
  a_Sign_check_texts : Addr
  d_Sign_check_texts : FuncData
  F_Sign_check_texts : Fun K "check_texts" "Sign.check_texts" s_Sign_check_texts a_Sign_check_texts d_Sign_check_texts
  b_Sign_check_texts : Binds K d_Sign_check_texts ["self", "texts"] []
  Me_Sign_check_texts : Meth K c_Sign "check_texts" a_Sign_check_texts
  a_check_offsets : Addr
  d_check_offsets : FuncData
  F_check_offsets : Fun K "check_offsets" "check_offsets" s_check_offsets a_check_offsets d_check_offsets
  b_check_offsets : Binds K d_check_offsets ["sign", "texts", "offsets"] []
  m_check_offsets : mg "check_offsets" = some (.ref a_check_offsets)
  a_read_number : Addr
  d_read_number : FuncData
  F_read_number : Fun K "read_number" "read_number" s_read_number a_read_number d_read_number
  b_read_number : Binds K d_read_number ["word"] []
  m_read_number : mg "read_number" = some (.ref a_read_number)
  a_format_season : Addr
  d_format_season : FuncData
  F_format_season : Fun K "format_season" "format_season" s_format_season a_format_season d_format_season
  b_format_season : Binds K d_format_season ["sign", "texts", "offsets"] []
  m_format_season : mg "format_season" = some (.ref a_format_season)
  a_parse_season : Addr
  d_parse_season : FuncData
  F_parse_season : Fun K "parse_season" "parse_season" s_parse_season a_parse_season d_parse_season
  b_parse_season : Binds K d_parse_season ["text"] []
  m_parse_season : mg "parse_season" = some (.ref a_parse_season)
  a__law_random : Addr
  d__law_random : FuncData
  F__law_random : Fun K "_law_random" "_law_random" s__law_random a__law_random d__law_random
  b__law_random : Binds K d__law_random ["_law_script", "_law_salt"] []
  m__law_random : mg "_law_random" = some (.ref a__law_random)
  a__law_below : Addr
  d__law_below : FuncData
  F__law_below : Fun K "_law_below" "_law_below" s__law_below a__law_below d__law_below
  b__law_below : Binds K d__law_below ["_law_d", "_law_limit"] []
  m__law_below : mg "_law_below" = some (.ref a__law_below)
  a__law_shuffled : Addr
  d__law_shuffled : FuncData
  F__law_shuffled : Fun K "_law_shuffled" "_law_shuffled" s__law_shuffled a__law_shuffled d__law_shuffled
  b__law_shuffled : Binds K d__law_shuffled ["_law_d", "_law_items"] []
  m__law_shuffled : mg "_law_shuffled" = some (.ref a__law_shuffled)
  a__law_pairs : Addr
  d__law_pairs : FuncData
  F__law_pairs : Fun K "_law_pairs" "_law_pairs" s__law_pairs a__law_pairs d__law_pairs
  b__law_pairs : Binds K d__law_pairs ["_law_d", "_law_letters"] []
  m__law_pairs : mg "_law_pairs" = some (.ref a__law_pairs)
  a__law_text : Addr
  d__law_text : FuncData
  F__law_text : Fun K "_law_text" "_law_text" s__law_text a__law_text d__law_text
  b__law_text : Binds K d__law_text ["_law_d", "_law_most", "_law_letters"] []
  m__law_text : mg "_law_text" = some (.ref a__law_text)
  a__law_texts : Addr
  d__law_texts : FuncData
  F__law_texts : Fun K "_law_texts" "_law_texts" s__law_texts a__law_texts d__law_texts
  b__law_texts : Binds K d__law_texts ["_law_d", "_law_most", "_law_width", "_law_letters"] []
  m__law_texts : mg "_law_texts" = some (.ref a__law_texts)
  a__law_equal : Addr
  d__law_equal : FuncData
  F__law_equal : Fun K "_law_equal" "_law_equal" s__law_equal a__law_equal d__law_equal
  b__law_equal : Binds K d__law_equal ["_law_actual", "_law_expected"] []
  m__law_equal : mg "_law_equal" = some (.ref a__law_equal)
  a_law : Addr
  d_law : FuncData
  F_law : Fun K "law" "law" s_law a_law d_law
  b_law : Binds K d_law ["_law_script"] []
  m_law : mg "law" = some (.ref a_law)
  g_abs : mg "abs" = none
  g_all : mg "all" = none
  g_any : mg "any" = none
  g_bool : mg "bool" = none
  g_enumerate : mg "enumerate" = none
  g_int : mg "int" = none
  g_isinstance : mg "isinstance" = none
  g_len : mg "len" = none
  g_list : mg "list" = none
  g_min : mg "min" = none
  g_range : mg "range" = none
  g_str : mg "str" = none
  g_tuple : mg "tuple" = none
  g_zip : mg "zip" = none
  u_BLANK : Value
  m_BLANK : mg "BLANK" = some u_BLANK
  r_BLANK : RelV (.str " ") u_BLANK
  u_DIGITS : Value
  m_DIGITS : mg "DIGITS" = some u_DIGITS
  r_DIGITS : RelV (.str "0123456789") u_DIGITS
  u_LETTERS : Value
  m_LETTERS : mg "LETTERS" = some u_LETTERS
  r_LETTERS : RelV (.str "ABCDEFGHIJKLMNOPQRSTUVWXYZ0123456789") u_LETTERS
  u_MAX_DIGITS : Value
  m_MAX_DIGITS : mg "MAX_DIGITS" = some u_MAX_DIGITS
  r_MAX_DIGITS : RelV (.int 2) u_MAX_DIGITS
  u_MAX_PAIRS : Value
  m_MAX_PAIRS : mg "MAX_PAIRS" = some u_MAX_PAIRS
  r_MAX_PAIRS : RelV (.int 10) u_MAX_PAIRS
  u_MAX_TEXTS : Value
  m_MAX_TEXTS : mg "MAX_TEXTS" = some u_MAX_TEXTS
  r_MAX_TEXTS : RelV (.int 12) u_MAX_TEXTS
  u_MAX_WIDTH : Value
  m_MAX_WIDTH : mg "MAX_WIDTH" = some u_MAX_WIDTH
  r_MAX_WIDTH : RelV (.int 24) u_MAX_WIDTH
  u_SHOW : Value
  m_SHOW : mg "SHOW" = some u_SHOW
  r_SHOW : RelV (.str "show") u_SHOW
  u_SIGN : Value
  m_SIGN : mg "SIGN" = some u_SIGN
  r_SIGN : RelV (.str "sign") u_SIGN
theorem ex_bl {b : Bool} {P : Bool → Prop} (h : P b) : ∃ b', D.bl b = .bl b' ∧ P b' := ⟨_, rfl, h⟩
theorem ex_int {b : Int} {P : Int → Prop} (h : P b) : ∃ b', D.int b = .int b' ∧ P b' := ⟨_, rfl, h⟩
theorem ex_str {b : Str} {P : Str → Prop} (h : P b) : ∃ b', D.str b = .str b' ∧ P b' := ⟨_, rfl, h⟩
theorem ex_par {a b : D} {P : D → D → Prop} (h : P a b) : ∃ x y, [a, b] = [x, y] ∧ P x y := ⟨_, _, rfl, h⟩
theorem and_nT {A B : Prop} (h : B) : ((!true) = true → A) ∧ ((!true) = false → B) := ⟨fun z => Bool.noConfusion z, fun _ => h⟩
theorem and_nF {A B : Prop} (h : A) : ((!false) = true → A) ∧ ((!false) = false → B) := ⟨fun _ => h, fun z => Bool.noConfusion z⟩
theorem and_nT' {A B : Prop} (h : B) : ((!true) = false → B) ∧ ((!true) = true → A) := ⟨fun _ => h, fun z => Bool.noConfusion z⟩
theorem and_nF' {A B : Prop} (h : A) : ((!false) = false → B) ∧ ((!false) = true → A) := ⟨fun z => Bool.noConfusion z, fun _ => h⟩
theorem and_dT {p A B : Prop} [Decidable p] (hp : p) (h : A) : (decide p = true → A) ∧ (decide p = false → B) := ⟨fun _ => h, fun z => absurd hp (of_decide_eq_false z)⟩
theorem and_dF {p A B : Prop} [Decidable p] (hp : ¬ p) (h : B) : (decide p = true → A) ∧ (decide p = false → B) := ⟨fun z => absurd (of_decide_eq_true z) hp, fun _ => h⟩
theorem and_dT' {p A B : Prop} [Decidable p] (hp : p) (h : A) : (decide p = false → B) ∧ (decide p = true → A) := ⟨fun z => absurd hp (of_decide_eq_false z), fun _ => h⟩
theorem and_dF' {p A B : Prop} [Decidable p] (hp : ¬ p) (h : B) : (decide p = false → B) ∧ (decide p = true → A) := ⟨fun _ => h, fun z => absurd (of_decide_eq_true z) hp⟩
theorem and_ndT {p A B : Prop} [Decidable p] (hp : p) (h : B) : ((!decide p) = true → A) ∧ ((!decide p) = false → B) := by rw [decide_eq_true hp]; exact and_nT h
theorem and_ndF {p A B : Prop} [Decidable p] (hp : ¬ p) (h : A) : ((!decide p) = true → A) ∧ ((!decide p) = false → B) := by rw [decide_eq_false hp]; exact and_nF h
theorem and_ndT' {p A B : Prop} [Decidable p] (hp : p) (h : B) : ((!decide p) = false → B) ∧ ((!decide p) = true → A) := by rw [decide_eq_true hp]; exact and_nT' h
theorem and_ndF' {p A B : Prop} [Decidable p] (hp : ¬ p) (h : A) : ((!decide p) = false → B) ∧ ((!decide p) = true → A) := by rw [decide_eq_false hp]; exact and_nF' h
section
variable {K : Frg} {F : Hp} {ms : Ms} {Q : QE}
theorem isN_bl {b : Bool} (q : Q F ms (.bl false)) : AR K rISN (.bl b) .non F ms Q := ar_isN q
theorem notN_bl {b : Bool} (q : Q F ms (.bl true)) : AR K rNOTN (.bl b) .non F ms Q := ar_notN q
theorem isN_int {i : Int} (q : Q F ms (.bl false)) : AR K rISN (.int i) .non F ms Q := ar_isN q
theorem notN_int {i : Int} (q : Q F ms (.bl true)) : AR K rNOTN (.int i) .non F ms Q := ar_notN q
theorem isN_str {z : Str} (q : Q F ms (.bl false)) : AR K rISN (.str z) .non F ms Q := ar_isN q
theorem notN_str {z : Str} (q : Q F ms (.bl true)) : AR K rNOTN (.str z) .non F ms Q := ar_notN q
theorem isN_tup {ds : List D} (q : Q F ms (.bl false)) : AR K rISN (.tup ds) .non F ms Q := ar_isN q
theorem notN_tup {ds : List D} (q : Q F ms (.bl true)) : AR K rNOTN (.tup ds) .non F ms Q := ar_notN q
theorem isN_lst {ds : List D} (q : Q F ms (.bl false)) : AR K rISN (.lst ds) .non F ms Q := ar_isN q
theorem notN_lst {ds : List D} (q : Q F ms (.bl true)) : AR K rNOTN (.lst ds) .non F ms Q := ar_notN q
theorem isN_ref {l : Addr} (q : Q F ms (.bl false)) : AR K rISN (.ref l) .non F ms Q := ar_isN q
theorem notN_ref {l : Addr} (q : Q F ms (.bl true)) : AR K rNOTN (.ref l) .non F ms Q := ar_notN q
theorem isN_non (q : Q F ms (.bl true)) : AR K rISN .non .non F ms Q := ar_isN q
theorem notN_non (q : Q F ms (.bl false)) : AR K rNOTN .non .non F ms Q := ar_notN q
end
/-! ### data -/
def LET : Str := "ABCDEFGHIJKLMNOPQRSTUVWXYZ0123456789"
def inL (c : Nat) : Prop := c ∈ LET.cps.toList
abbrev Pr := Nat × Nat
def pS (p : Pr) : Str := ⟨#[p.1, p.2]⟩
def pD (p : Pr) : D := .str (pS p)
def kS (c : Nat) : Key := .inr (sg c)
def kvsOf : List Pr → List (Key × D)
  | [] => []
  | p :: ps => (kS p.1, .str (sg p.2)) :: (kS p.2, .str (sg p.1)) :: kvsOf ps
def flat (ps : List Pr) : List Nat := ps.flatMap fun p => [p.1, p.2]
def pieceS (ps : List Pr) (c : Nat) : Str := match ps.find? (fun p => c = p.1 ∨ c = p.2) with
  | some p => minS (sg p.1) (sg p.2)
  | none => sg c
def St (st : List D) : Prop := ∃ (s c : Int) (rest : List Int), st = .int s :: .int c :: rest.map D.int ∧ 0 ≤ s ∧ s < 2147483647 ∧ 0 ≤ c ∧ (∀ x ∈ rest, 10 ^ 18 ≤ x) ∧ rest.length ≤ 64
def fldS (m : Addr) (w : Int) (ps : List Pr) : List (Str × D) := [("mates", .ref m), ("width", .int w), ("pairs", .tup (ps.map pD))]
/-- a sign stands at x -/
def Sgn (C : Addr) (ms : Ms) (x : Addr) (w : Int) (ps : List Pr) : Prop := ∃ (i j : Nat) (m : Addr), ms[i]? = some (x, .ins C (fldS m w ps)) ∧ ms[j]? = some (m, .dic (kvsOf ps))
def sp1 : Str := " "
def shown (w : Int) (t : Str) (o : Int) : Str := mulS sp1 o ++ t ++ mulS sp1 (w - o - t.length)
theorem str_len_add (a b : Str) : (a ++ b).length = a.length + b.length := Array.size_append ..
theorem mulS_len1 (n : Int) : (mulS sp1 n).length = n.toNat := by
  show (List.replicate n.toNat [32]).flatten.toArray.size = n.toNat
  rw [List.size_toArray, List.length_flatten]
  simp
theorem fld_no {f : Str} {m : Addr} {w : Int} {ps : List Pr} (h1 : (f == "mates") = false) (h2 : (f == "width") = false) (h3 : (f == "pairs") = false) : (fldS m w ps).lookup f = none := by
  unfold fldS
  rw [List.lookup_cons, h1, List.lookup_cons, h2, List.lookup_cons, h3]
  rfl
def textOk (w : Int) (t : Str) : Prop := 1 ≤ (t.length : Int) ∧ (t.length : Int) ≤ w ∧ (∀ c ∈ t.cps.toList, c = 32 ∨ inL c) ∧ (∃ a, t.cps.toList[0]? = some a ∧ inL a) ∧ ∃ b, t.cps.toList[t.length - 1]? = some b ∧ inL b
def okSeason (w : Int) (ps : List Pr) (ts : List Str) : Prop := 1 ≤ w ∧ w ≤ 24 ∧ ps.length ≤ 10 ∧ (∀ c ∈ flat ps, inL c) ∧ (flat ps).Nodup ∧ 1 ≤ ts.length ∧ ts.length ≤ 12 ∧ ∀ t ∈ ts, textOk w t
/-! ### promises -/
section
variable {K : Frg} {mg : Str → Option Value}
def sp_is_int_in (T : Txt K mg) : ASp := fun ds F ms Q _ => ∃ v lo hi : Int, ds = [.int v, .int lo, .int hi] ∧ Q F ms (.bl (decide (lo ≤ v) && decide (v ≤ hi)))
def sp_is_pair (T : Txt K mg) : ASp := fun ds F ms Q _ => ∃ p : Pr, ds = [pD p] ∧ p.1 ≠ p.2 ∧ inL p.1 ∧ inL p.2 ∧ Q F ms (.bl true)
def sp_Sign___init__ (T : Txt K mg) : ASp := fun ds F ms Q _ => ∃ (x : Addr) (w : Int) (ps : List Pr) (R : Ms), ds = [.ref x, .int w, .tup (ps.map pD)] ∧ 1 ≤ w ∧ w ≤ 24 ∧ ps.length ≤ 10 ∧ (∀ c ∈ flat ps, inL c) ∧ (flat ps).Nodup ∧ ms = (x, .ins T.c_Sign []) :: R ∧
  ∀ m F', Ex F F' → Q F' ((m, .dic (kvsOf ps)) :: (x, .ins T.c_Sign (fldS m w ps)) :: R) .non
def sp__law_random (T : Txt K mg) : ASp := fun ds F ms Q _ => ∃ ns : List Int, ds = [.rdl (ns.map D.int), .int 15] ∧ ns.length ≤ 63 ∧ ∀ F' l st, Ex F F' → St st → Q F' ((l, .lst st) :: ms) (.ref l)
def sp__law_below (T : Txt K mg) : ASp := fun ds F ms Q _ => ∃ (k : Nat) (l : Addr) (st : List D) (n : Int), ds = [.ref l, .int n] ∧ ms[k]? = some (l, .lst st) ∧ St st ∧ 0 < n ∧ n < 1000000 ∧ ∀ st' r, St st' → 0 ≤ r → r < n → Q F (ms.set k (l, .lst st')) (.int r)
def sp__law_shuffled (T : Txt K mg) : ASp := fun ds F ms Q _ => ∃ (k : Nat) (l : Addr) (st xs : List D), ds = [.ref l, .lst xs] ∧ ms[k]? = some (l, .lst st) ∧ St st ∧ xs.length ≤ 100 ∧ (∀ x ∈ xs, ∃ c, x = .str (sg c) ∧ c < 128) ∧
  ∀ st' F' ys, Ex F F' → St st' → ys.Perm xs → Q F' (ms.set k (l, .lst st')) (.lst ys)
def sp__law_pairs (T : Txt K mg) : ASp := fun ds F ms Q _ => ∃ (k : Nat) (l : Addr) (st : List D) (z : Str), ds = [.ref l, .str z] ∧ ms[k]? = some (l, .lst st) ∧ St st ∧ z.length ≤ 100 ∧ z.cps.toList.Nodup ∧ (∀ c ∈ z.cps.toList, inL c) ∧
  ∀ st' F' ps, Ex F F' → St st' → ps.length ≤ 3 → (∀ c ∈ flat ps, c ∈ z.cps.toList) → (flat ps).Nodup → Q F' (ms.set k (l, .lst st')) (.tup (ps.map pD))
/-- plain data: no more than n deep -/
def plainN : Nat → D → Prop
  | 0, d => d = .non ∨ (∃ b, d = .bl b) ∨ (∃ i, d = .int i) ∨ ∃ z, d = .str z
  | n + 1, d => (d = .non ∨ (∃ b, d = .bl b) ∨ (∃ i, d = .int i) ∨ ∃ z, d = .str z) ∨ ∃ ds, (d = .lst ds ∨ d = .tup ds) ∧ ds.length ≤ 10000 ∧ ∀ x ∈ ds, plainN n x
/-- an actual value that equals the expected one: the same data, an owned list, or a list of such -/
def ActN (ms : Ms) : Nat → D → D → Prop
  | 0, a, d => a = d ∧ plainN 0 d
  | n + 1, a, d => (a = d ∧ plainN (n + 1) d) ∨ (∃ (m : Nat) (l : Addr) (ds : List D), a = .ref l ∧ d = .lst ds ∧ ms[m]? = some (l, .lst ds) ∧ plainN (n + 1) d) ∨ ∃ as ds : List D, a = .lst as ∧ d = .lst ds ∧ as.length = ds.length ∧ ds.length ≤ 10000 ∧ ∀ (i : Nat) (x y : D), as[i]? = some x → ds[i]? = some y → ActN ms n x y
def spEqual (n : Nat) : ASp := fun ds F ms Q _ => ∃ a d, ds = [a, d] ∧ ActN ms n a d ∧ ∀ F', Ex F F' → Q F' ms (.bl true)
def sp__law_equal (T : Txt K mg) : ASp := spEqual 2
def sp__law_text (T : Txt K mg) : ASp := fun ds F ms Q _ => ∃ (k : Nat) (l : Addr) (st : List D) (w : Int) (z : Str), ds = [.ref l, .int w, .str z] ∧ ms[k]? = some (l, .lst st) ∧ St st ∧ 0 < w ∧ w ≤ 24 ∧ 0 < z.length ∧ z.length ≤ 100 ∧ (∀ c ∈ z.cps.toList, inL c) ∧
  ∀ st' F' (r : Str), Ex F F' → St st' → textOk w r → Q F' (ms.set k (l, .lst st')) (.str r)
def sp__law_texts (T : Txt K mg) : ASp := fun ds F ms Q _ => ∃ (k : Nat) (l : Addr) (st : List D) (w : Int) (z : Str), ds = [.ref l, .int 12, .int w, .str z] ∧ ms[k]? = some (l, .lst st) ∧ St st ∧ 0 < w ∧ w ≤ 24 ∧ 0 < z.length ∧ z.length ≤ 100 ∧ (∀ c ∈ z.cps.toList, inL c) ∧
  ∀ st' F' (ts : List Str), Ex F F' → St st' → 1 ≤ ts.length → ts.length ≤ 12 → (∀ t ∈ ts, textOk w t) → Q F' (ms.set k (l, .lst st')) (.tup (ts.map D.str))
def sp_Sign_is_text (T : Txt K mg) : ASp := fun ds F ms Q _ => ∃ x w ps t, ds = [.ref x, .str t] ∧ Sgn T.c_Sign ms x w ps ∧ w ≤ 24 ∧ textOk w t ∧ ∀ F', Ex F F' → Q F' ms (.bl true)
def sp_Sign_check_texts (T : Txt K mg) : ASp := fun ds F ms Q _ => ∃ x w ps ts, ds = [.ref x, .tup (List.map D.str ts)] ∧ Sgn T.c_Sign ms x w ps ∧ w ≤ 24 ∧ 1 ≤ ts.length ∧ ts.length ≤ 12 ∧ (∀ t ∈ ts, textOk w t) ∧ ∀ F', Ex F F' → Q F' ms .non
def okOff (w : Int) (ts : List Str) (os : List Int) : Prop := os.length = ts.length ∧ ∀ (i : Nat) (t : Str) (o : Int), ts[i]? = some t → os[i]? = some o → 0 ≤ o ∧ o + (t.length : Int) ≤ w
def sp_check_offsets (T : Txt K mg) : ASp := fun ds F ms Q _ => ∃ x w ps ts os, ds = [.ref x, .tup (List.map D.str ts), .tup (List.map D.int os)] ∧ Sgn T.c_Sign ms x w ps ∧ w ≤ 24 ∧ ts.length ≤ 12 ∧ (∀ t ∈ ts, textOk w t) ∧ okOff w ts os ∧ ∀ F', Ex F F' → Q F' ms .non
/-- the text of a number below 100 -/
def numS (n : Int) : Str := toString n
def sp_read_number (T : Txt K mg) : ASp := fun ds F ms Q _ => ∃ n : Int, ds = [.str (numS n)] ∧ 0 ≤ n ∧ n < 100 ∧ ∀ F', Ex F F' → Q F' ms (.int n)
def lineS (t : Str) (o : Int) : Str := Str.ofString "show" ++ Str.ofString " " ++ numS o ++ Str.ofString " " ++ t
def headS (w : Int) (ps : List Pr) : Str := Txt.join " " (Str.ofString "sign" :: numS w :: ps.map pS)
def linesS (w : Int) (ps : List Pr) (ts : List Str) (os : List Int) : List Str := headS w ps :: (ts.zip os).map fun p => lineS p.1 p.2
def seasonS (w : Int) (ps : List Pr) (ts : List Str) (os : List Int) : Str := Txt.join "\n" (linesS w ps ts os)
def sp_format_season (T : Txt K mg) : ASp := fun ds F ms Q _ => ∃ x w ps ts os, ds = [.ref x, .tup (List.map D.str ts), .tup (List.map D.int os)] ∧ Sgn T.c_Sign ms x w ps ∧ okSeason w ps ts ∧ okOff w ts os ∧ ∀ F', Ex F F' → Q F' ms (.str (seasonS w ps ts os))
def sp_parse_season (T : Txt K mg) : ASp := fun ds F ms Q _ => ∃ w ps ts os, ds = [.str (seasonS w ps ts os)] ∧ okSeason w ps ts ∧ okOff w ts os ∧
  ∀ F' x m R, Ex F F' → (∀ (k : Nat) p, ms[k]? = some p → ∃ k' : Nat, R[k']? = some p) → Q F' ((m, .dic (kvsOf ps)) :: (x, .ins T.c_Sign (fldS m w ps)) :: R) (.tup [.ref x, .tup (ts.map D.str), .tup (os.map D.int)])
end
def spLaw : ASp := fun ds _ _ Q _ => ∃ ns : List Int, ds = [.rdl (ns.map D.int)] ∧ ns.length ≤ 63 ∧ ∀ F ms, Q F ms (.bl true)
def sp_law {K : Frg} {mg : Str → Option Value} (T : Txt K mg) : ASp := spLaw
abbrev OK_is_int_in (P : Program) (w : World) (base : Heap) {K : Frg} {mg : Str → Option Value} (T : Txt K mg) : Prop := FnOk P w K mg base CX0 1 T.a_is_int_in T.d_is_int_in ["value", "low", "high"] (toSp K (sp_is_int_in T))
abbrev OK_is_pair (P : Program) (w : World) (base : Heap) {K : Frg} {mg : Str → Option Value} (T : Txt K mg) : Prop := FnOk P w K mg base CX0 1 T.a_is_pair T.d_is_pair ["value"] (toSp K (sp_is_pair T))
abbrev OK_Sign___init__ (P : Program) (w : World) (base : Heap) {K : Frg} {mg : Str → Option Value} (T : Txt K mg) : Prop := FnOk P w K mg base CX0 2 T.a_Sign___init__ T.d_Sign___init__ ["self", "width", "pairs"] (toSp K (sp_Sign___init__ T))
abbrev OK_Sign_is_text (P : Program) (w : World) (base : Heap) {K : Frg} {mg : Str → Option Value} (T : Txt K mg) : Prop := FnOk P w K mg base CX0 1 T.a_Sign_is_text T.d_Sign_is_text ["self", "value"] (toSp K (sp_Sign_is_text T))
abbrev OK_Sign_check_texts (P : Program) (w : World) (base : Heap) {K : Frg} {mg : Str → Option Value} (T : Txt K mg) : Prop := FnOk P w K mg base CX0 2 T.a_Sign_check_texts T.d_Sign_check_texts ["self", "texts"] (toSp K (sp_Sign_check_texts T))
abbrev OK_check_offsets (P : Program) (w : World) (base : Heap) {K : Frg} {mg : Str → Option Value} (T : Txt K mg) : Prop := FnOk P w K mg base CX0 2 T.a_check_offsets T.d_check_offsets ["sign", "texts", "offsets"] (toSp K (sp_check_offsets T))
abbrev OK_read_number (P : Program) (w : World) (base : Heap) {K : Frg} {mg : Str → Option Value} (T : Txt K mg) : Prop := FnOk P w K mg base CX0 1 T.a_read_number T.d_read_number ["word"] (toSp K (sp_read_number T))
abbrev OK_format_season (P : Program) (w : World) (base : Heap) {K : Frg} {mg : Str → Option Value} (T : Txt K mg) : Prop := FnOk P w K mg base CX0 3 T.a_format_season T.d_format_season ["sign", "texts", "offsets"] (toSp K (sp_format_season T))
abbrev OK_parse_season (P : Program) (w : World) (base : Heap) {K : Frg} {mg : Str → Option Value} (T : Txt K mg) : Prop := FnOk P w K mg base CX0 4 T.a_parse_season T.d_parse_season ["text"] (toSp K (sp_parse_season T))
abbrev OK__law_random (P : Program) (w : World) (base : Heap) {K : Frg} {mg : Str → Option Value} (T : Txt K mg) : Prop := FnOk P w K mg base CX0 1 T.a__law_random T.d__law_random ["_law_script", "_law_salt"] (toSp K (sp__law_random T))
abbrev OK__law_below (P : Program) (w : World) (base : Heap) {K : Frg} {mg : Str → Option Value} (T : Txt K mg) : Prop := FnOk P w K mg base CX0 1 T.a__law_below T.d__law_below ["_law_d", "_law_limit"] (toSp K (sp__law_below T))
abbrev OK__law_shuffled (P : Program) (w : World) (base : Heap) {K : Frg} {mg : Str → Option Value} (T : Txt K mg) : Prop := FnOk P w K mg base CX0 2 T.a__law_shuffled T.d__law_shuffled ["_law_d", "_law_items"] (toSp K (sp__law_shuffled T))
abbrev OK__law_pairs (P : Program) (w : World) (base : Heap) {K : Frg} {mg : Str → Option Value} (T : Txt K mg) : Prop := FnOk P w K mg base CX0 3 T.a__law_pairs T.d__law_pairs ["_law_d", "_law_letters"] (toSp K (sp__law_pairs T))
abbrev OK__law_text (P : Program) (w : World) (base : Heap) {K : Frg} {mg : Str → Option Value} (T : Txt K mg) : Prop := FnOk P w K mg base CX0 2 T.a__law_text T.d__law_text ["_law_d", "_law_most", "_law_letters"] (toSp K (sp__law_text T))
abbrev OK__law_texts (P : Program) (w : World) (base : Heap) {K : Frg} {mg : Str → Option Value} (T : Txt K mg) : Prop := FnOk P w K mg base CX0 3 T.a__law_texts T.d__law_texts ["_law_d", "_law_most", "_law_width", "_law_letters"] (toSp K (sp__law_texts T))
abbrev OK__law_equal (P : Program) (w : World) (base : Heap) {K : Frg} {mg : Str → Option Value} (T : Txt K mg) : Prop := FnOk P w K mg base CX0 3 T.a__law_equal T.d__law_equal ["_law_actual", "_law_expected"] (toSp K (sp__law_equal T))
abbrev OK_law (P : Program) (w : World) (base : Heap) {K : Frg} {mg : Str → Option Value} (T : Txt K mg) : Prop := FnOk P w K mg base CX0 5 T.a_law T.d_law ["_law_script"] (toSp K (sp_law T))
end K15


namespace K15
open PySem L2 PyProof.Rows AL
local macro_rules | `(tactic| walk_at "isi") => `(tactic| first | with_reducible refine isi_non_bool ?_ | with_reducible refine isi_non_int ?_ | with_reducible refine isi_non_str ?_ | with_reducible refine isi_non_tuple ?_ | with_reducible refine isi_non_list ?_ | with_reducible refine isi_non_dict ?_ | with_reducible refine isi_bl_bool ?_ | with_reducible refine isi_bl_int ?_ | with_reducible refine isi_bl_str ?_ | with_reducible refine isi_bl_tuple ?_ | with_reducible refine isi_bl_list ?_ | with_reducible refine isi_bl_dict ?_ | with_reducible refine isi_int_bool ?_ | with_reducible refine isi_int_int ?_ | with_reducible refine isi_int_str ?_ | with_reducible refine isi_int_tuple ?_ | with_reducible refine isi_int_list ?_ | with_reducible refine isi_int_dict ?_ | with_reducible refine isi_str_bool ?_ | with_reducible refine isi_str_int ?_ | with_reducible refine isi_str_str ?_ | with_reducible refine isi_str_tuple ?_ | with_reducible refine isi_str_list ?_ | with_reducible refine isi_str_dict ?_ | with_reducible refine isi_tup_bool ?_ | with_reducible refine isi_tup_int ?_ | with_reducible refine isi_tup_str ?_ | with_reducible refine isi_tup_tuple ?_ | with_reducible refine isi_tup_list ?_ | with_reducible refine isi_tup_dict ?_ | with_reducible refine isi_lst_bool ?_ | with_reducible refine isi_lst_int ?_ | with_reducible refine isi_lst_str ?_ | with_reducible refine isi_lst_tuple ?_ | with_reducible refine isi_lst_list ?_ | with_reducible refine isi_lst_dict ?_ | with_reducible refine isi_dic_bool ?_ | with_reducible refine isi_dic_int ?_ | with_reducible refine isi_dic_str ?_ | with_reducible refine isi_dic_tuple ?_ | with_reducible refine isi_dic_list ?_ | with_reducible refine isi_dic_dict ?_)
local macro_rules | `(tactic| walk_at "al1") => `(tactic| first
  | with_reducible refine as_seq ?_ | with_reducible refine as_ret ?_ | with_reducible refine as_retN ?_ | with_reducible refine as_if ?_ | with_reducible refine as_drop ?_ | with_reducible refine as_asg ?_ | with_reducible refine as_next ?_ | with_reducible refine as_break ?_ | with_reducible refine as_cont ?_ | with_reducible refine as_par ?_
  | ((with_reducible refine' ae_var ?_ ?_); rotate_left; exact rfl) | with_reducible refine ae_int ?_ | with_reducible refine ae_bl ?_ | with_reducible refine ae_str ?_ | with_reducible refine ae_non ?_ | with_reducible refine ae_ty ?_ | with_reducible refine ae_ref ?_ | with_reducible refine ae_op ?_ | with_reducible refine ae_call1 ?_ | with_reducible refine ae_call ?_ | with_reducible refine ae_notV ?_ | with_reducible refine ae_andV ?_ | with_reducible refine ae_orV ?_ | with_reducible refine ae_chain ?_ | with_reducible refine ae_if ?_ | with_reducible refine aa_cons ?_ | with_reducible refine aa_nil ?_ | with_reducible refine at_test ?_ | with_reducible refine at_B ?_ | with_reducible refine at_and ?_ | with_reducible refine at_or ?_ | with_reducible refine at_not ?_ | with_reducible refine at_yes ?_ | with_reducible refine ex_bl ?_ | with_reducible refine ex_int ?_ | with_reducible refine ex_str ?_ | with_reducible refine ex_par ?_ | with_reducible refine and_T ?_ | with_reducible refine and_F ?_ | with_reducible refine and_T' ?_ | with_reducible refine and_F' ?_ | with_reducible refine and_nT ?_ | with_reducible refine and_nF ?_ | with_reducible refine and_nT' ?_ | with_reducible refine and_nF' ?_ | with_reducible refine ar_ADDi ?_ | with_reducible refine ar_SUB ?_ | with_reducible refine ar_ltI ?_ | with_reducible refine ar_leI ?_ | with_reducible refine ar_gtI ?_ | with_reducible refine ar_geI ?_ | with_reducible refine ar_EQi ?_ | with_reducible refine ar_EQs ?_ | with_reducible refine ar_EQb ?_ | with_reducible refine ar_NEi ?_ | with_reducible refine ar_NEs ?_ | with_reducible refine ar_NEb ?_ | with_reducible refine isN_non ?_ | with_reducible refine isN_bl ?_ | with_reducible refine isN_int ?_ | with_reducible refine isN_str ?_ | with_reducible refine isN_tup ?_ | with_reducible refine isN_lst ?_ | with_reducible refine isN_ref ?_ | with_reducible refine notN_non ?_ | with_reducible refine notN_bl ?_ | with_reducible refine notN_int ?_ | with_reducible refine notN_str ?_ | with_reducible refine notN_tup ?_ | with_reducible refine notN_lst ?_ | with_reducible refine notN_ref ?_ | with_reducible refine ar_INs ?_ | with_reducible refine ar_NOTINs ?_ | with_reducible refine ac_abs ?_ | with_reducible refine ac_lenL ?_ | with_reducible refine ac_lenT ?_ | with_reducible refine ac_lenR ?_ | with_reducible refine ac_minI ?_ | with_reducible refine ac_maxI ?_ | with_reducible refine ac_minS ?_
  | walk_at "isi")
local macro_rules | `(tactic| walk_at "al") => `(tactic| repeat walk_at "al1")

theorem valD_cons (k' k : Key) (d : D) (l : List (Key × D)) : valD ((k', d) :: l) k = if k' = k then some d else valD l k := by
  unfold valD
  rw [List.find?_cons]
  by_cases h : k' = k
  · simp [h]
  · simp [h]
theorem kS_inj {a b : Nat} : kS a = kS b ↔ b = a := ⟨fun z => by simpa [kS, sg] using z.symm, fun z => by rw [z]⟩
theorem val_kvs (ps : List Pr) (c : Nat) : valD (kvsOf ps) (kS c) = (ps.find? fun p => c = p.1 ∨ c = p.2).map fun p => .str (sg (if c = p.1 then p.2 else p.1)) := by
  induction ps with
  | nil => rfl
  | cons p ps ih =>
    rw [kvsOf, valD_cons, valD_cons, ih, List.find?_cons]
    by_cases h1 : c = p.1
    · rw [if_pos (kS_inj.mpr h1)]
      simp [h1]
    · rw [if_neg (fun z => h1 (kS_inj.mp z))]
      by_cases h2 : c = p.2
      · rw [if_pos (kS_inj.mpr h2)]
        have h3 : ¬ p.2 = p.1 := fun z => h1 (h2.trans z)
        simp [h2, h3]
      · rw [if_neg (fun z => h2 (kS_inj.mp z))]
        simp [h1, h2]
theorem chars_at {z : Str} {i : Nat} {d : D} (h : (charsD z)[i]? = some d) : ∃ c, z.cps.toList[i]? = some c ∧ d = .str (sg c) := by
  unfold charsD at h
  rw [List.getElem?_map] at h
  cases e : z.cps.toList[i]? with
  | none => rw [e] at h; cases h
  | some c => rw [e] at h; exact ⟨c, rfl, (Option.some.inj h).symm⟩
theorem chars_len (z : Str) : (charsD z).length = z.length := by unfold charsD; rw [List.length_map]; rfl
theorem enum_at {ds : List D} {i : Nat} {d : D} (h : (enumD ds)[i]? = some d) : ∃ e, ds[i]? = some e ∧ d = .tup [.int (i : Nat), e] := by
  unfold enumD at h
  rw [List.getElem?_map, List.getElem?_zipIdx] at h
  cases e : ds[i]? with
  | none => rw [e] at h; cases h
  | some c => rw [e] at h; exact ⟨c, rfl, by simpa using (Option.some.inj h).symm⟩
theorem enum_len (ds : List D) : (enumD ds).length = ds.length := by unfold enumD; rw [List.length_map, List.length_zipIdx]
theorem pairs_at {ps : List Pr} {n : Nat} {d : D} (h : (ps.map pD)[n]? = some d) : ∃ p, ps[n]? = some p ∧ d = pD p := by
  rw [List.getElem?_map] at h
  cases e : ps[n]? with
  | none => rw [e] at h; cases h
  | some p => rw [e] at h; exact ⟨p, rfl, (Option.some.inj h).symm⟩
theorem and_oF {α : Type} {o : Option α} {A B : Prop} (hp : o = none) (h : B) : (o.isSome = true → A) ∧ (o.isSome = false → B) := by subst hp; exact and_F h
theorem and_oF' {α : Type} {o : Option α} {A B : Prop} (hp : o = none) (h : B) : (o.isSome = false → B) ∧ (o.isSome = true → A) := by subst hp; exact and_F' h
theorem putKD_new {kvs : List (Key × D)} {k : Key} {d : D} (h : valD kvs k = none) : putKD kvs k d = kvs ++ [(k, d)] := by
  unfold putKD
  rw [if_neg]
  unfold valD at h
  rw [Option.map_eq_none_iff, List.find?_eq_none] at h
  intro z
  rw [List.any_eq_true] at z
  obtain ⟨x, hx, e⟩ := z
  exact h x hx e
theorem val_none {ps : List Pr} {c : Nat} (h : c ∉ flat ps) : valD (kvsOf ps) (kS c) = none := by
  rw [val_kvs, Option.map_eq_none_iff, List.find?_eq_none]
  intro p hp z
  simp only [decide_eq_true_eq] at z
  refine h (List.mem_flatMap.mpr ⟨p, hp, ?_⟩)
  rcases z with z | z <;> simp [z]
theorem valD_app {a b : List (Key × D)} {k : Key} (h : valD a k = none) : valD (a ++ b) k = valD b k := by
  unfold valD at *
  rw [Option.map_eq_none_iff] at h
  rw [List.find?_append, h]
  rfl
theorem kvs_app (a : List Pr) (p : Pr) : kvsOf (a ++ [p]) = kvsOf a ++ [(kS p.1, .str (sg p.2)), (kS p.2, .str (sg p.1))] := by
  induction a with
  | nil => rfl
  | cons q a ih => rw [List.cons_append, kvsOf, ih, kvsOf]; rfl
theorem flat_split {ps : List Pr} {i : Nat} {p : Pr} (h : ps[i]? = some p) : flat ps = flat (ps.take i) ++ (p.1 :: p.2 :: flat (ps.drop (i + 1))) := by
  have hi := (List.getElem?_eq_some_iff.mp h)
  obtain ⟨hi, e⟩ := hi
  have : ps = ps.take i ++ p :: ps.drop (i + 1) := by
    rw [← e, List.getElem_cons_drop, List.take_append_drop]
  conv => lhs; rw [this]
  unfold flat
  rw [List.flatMap_append, List.flatMap_cons]
  rfl
theorem flat_new {ps : List Pr} {i : Nat} {p : Pr} (h : ps[i]? = some p) (nd : (flat ps).Nodup) : p.1 ∉ flat (ps.take i) ∧ p.2 ∉ flat (ps.take i) ∧ p.1 ≠ p.2 := by
  rw [flat_split h] at nd
  have h1 := List.nodup_append.mp nd
  refine ⟨fun z => h1.2.2 _ z _ (by simp) rfl, fun z => h1.2.2 _ z _ (by simp) rfl, fun z => ?_⟩
  have := h1.2.1
  rw [z] at this
  simp at this
theorem flat_mem {ps : List Pr} {i : Nat} {p : Pr} (h : ps[i]? = some p) : p.1 ∈ flat ps ∧ p.2 ∈ flat ps := by
  rw [flat_split h]
  simp
theorem putD_len (f : Str) (d : D) : ∀ fs : List (Str × D), (putD f d fs).length ≤ fs.length + 1
  | [] => Nat.le_refl _
  | (g, e) :: fs => by
    unfold putD
    split
    · simp
    · simp [putD_len f d fs]
theorem kvs_len (ps : List Pr) : (kvsOf ps).length = 2 * ps.length := by
  induction ps with
  | nil => rfl
  | cons p ps ih => rw [kvsOf, List.length_cons, List.length_cons, ih, List.length_cons]; omega
theorem eqv_nil (ds : List D) : eqvD (.lst ds) (.lst []) = ds.isEmpty := by
  cases ds with
  | nil => rfl
  | cons d ds => simp [eqvD, toPy, toPyL, PyData.eqv, PyData.eqvAll]
theorem chr_ok {xs : List D} (h : ∀ x ∈ xs, ∃ c, x = .str (sg c) ∧ c < 128) : okL xs = true ∧ depL xs = 0 := by
  induction xs with
  | nil => exact ⟨rfl, rfl⟩
  | cons x xs ih =>
    obtain ⟨c, rfl, hc⟩ := h x (List.mem_cons_self ..)
    obtain ⟨i1, i2⟩ := ih fun y hy => h y (List.mem_cons_of_mem _ hy)
    have e : okD (.str (sg c)) = true := by
      unfold okD PyData.strOk sg
      simp
      omega
    refine ⟨?_, ?_⟩
    · unfold okL; rw [e, i1]; rfl
    · unfold depL; rw [i2]; rfl
theorem inL_lt {c : Nat} (h : inL c) : c < 128 := by
  have : (LET.cps.toList.all fun c => decide (c < 128)) = true := by decide +kernel
  exact of_decide_eq_true (List.all_eq_true.mp this c h)
theorem perm_chars {ys : List D} {z : Str} (h : ys.Perm (charsD z)) : ∃ cs : List Nat, ys = cs.map (fun c => .str (sg c)) ∧ cs.Perm z.cps.toList := by
  have hall : ∀ y ∈ ys, ∃ c, y = D.str (sg c) := fun y hy => by
    obtain ⟨c, _, hc⟩ := List.mem_map.mp (h.mem_iff.mp hy)
    exact ⟨c, hc.symm⟩
  obtain ⟨cs, rfl⟩ : ∃ cs : List Nat, ys = cs.map (fun c => .str (sg c)) := by
    clear h
    induction ys with
    | nil => exact ⟨[], rfl⟩
    | cons y ys ih =>
      obtain ⟨c, rfl⟩ := hall y (List.mem_cons_self ..)
      obtain ⟨cs, rfl⟩ := ih fun z hz => hall z (List.mem_cons_of_mem _ hz)
      exact ⟨c :: cs, rfl⟩
  refine ⟨cs, rfl, ?_⟩
  have h2 := h.map (fun d => match d with
    | .str s => s.cps.toList.headD 0
    | _ => 0)
  unfold charsD at h2
  rw [List.map_map, List.map_map] at h2
  have hid : ((fun d => match d with
    | .str s => s.cps.toList.headD 0
    | _ => 0) ∘ fun c => D.str (sg c)) = (id : Nat → Nat) := rfl
  rw [hid, List.map_id, List.map_id] at h2
  exact h2
theorem range_at {lo : Int} {n i : Nat} {d : D} (h : (rangeD lo n)[i]? = some d) : i < n ∧ d = .int (lo + (i : Nat)) := by
  unfold rangeD at h
  rw [List.getElem?_map] at h
  cases e : (List.range n)[i]? with
  | none => rw [e] at h; cases h
  | some j =>
    rw [e] at h
    have h1 := List.getElem?_eq_some_iff.mp e
    obtain ⟨h1, h2⟩ := h1
    rw [List.length_range] at h1
    rw [List.getElem_range] at h2
    subst h2
    exact ⟨h1, (Option.some.inj h).symm⟩
theorem range_len {lo : Int} {n : Nat} : (rangeD lo n).length = n := by unfold rangeD; rw [List.length_map, List.length_range]
theorem cut_len {z : Str} (h : 2 ≤ z.length) : (cutS z (some 1) (some (-1))).length + 2 = z.length := by
  have e1 : HT.sIx z.length 0 (some 1) = 1 := by
    show (if (1 : Int) < 0 then ((1 : Int) + (z.length : Int)).toNat else min (1 : Int).toNat z.length) = 1
    rw [if_neg (by decide)]
    show min 1 z.length = 1
    omega
  have e2 : HT.sIx z.length z.length (some (-1)) = z.length - 1 := by
    show (if (-1 : Int) < 0 then (-1 + (z.length : Int)).toNat else min (-1 : Int).toNat z.length) = _
    rw [if_pos (by decide)]
    omega
  unfold cutS
  rw [e1, e2]
  have e4 : ∀ l : List Nat, (⟨l.toArray⟩ : Str).length = l.length := fun l => List.size_toArray ..
  have e3 : z.cps.toList.length = z.length := rfl
  rw [e4, List.length_take, List.length_drop, e3]
  omega
theorem sign_mem {z : Str} {n : Int} {c : Nat} (h : c ∈ (z ++ mulS sp1 n).cps.toList) : c = 32 ∨ c ∈ z.cps.toList := by
  have e : (z ++ mulS sp1 n).cps.toList = z.cps.toList ++ (mulS sp1 n).cps.toList := Array.toList_append
  rw [e] at h
  rcases List.mem_append.mp h with h | h
  · exact .inr h
  · left
    have : (mulS sp1 n).cps.toList = (List.replicate n.toNat [32]).flatten := rfl
    rw [this] at h
    obtain ⟨l, hl, hc⟩ := List.mem_flatten.mp h
    rw [List.eq_of_mem_replicate hl] at hc
    exact List.mem_singleton.mp hc
theorem sum_ones : ∀ r : List Nat, (r.map ((fun s : Str => s.length) ∘ sg)).sum = r.length
  | [] => rfl
  | c :: r => by rw [List.map_cons, List.sum_cons, sum_ones r, List.length_cons]; show 1 + r.length = _; omega
theorem join_sg0 : ∀ r : List Nat, (Str.join (Str.ofString "") (r.map sg)).cps.toList = r
  | [] => rfl
  | [c] => rfl
  | c :: d :: r => by
    have e : Str.join (Str.ofString "") ((c :: d :: r).map sg) = sg c ++ Str.ofString "" ++ Str.join (Str.ofString "") ((d :: r).map sg) := rfl
    have e2 : ∀ a b : Str, (a ++ b).cps.toList = a.cps.toList ++ b.cps.toList := fun a b => Array.toList_append
    rw [e, e2, e2, join_sg0 (d :: r)]
    rfl
theorem join_sg (r : List Nat) : Txt.join (Str.ofString "") (r.map sg) = ⟨r.toArray⟩ := by
  have e := join_sg0 r
  show Builtin.Str.glued (PySem.Str.ofString "") (r.map sg) = _
  rw [StrLaws.glued_eq_join]
  cases h : Str.join (Str.ofString "") (r.map sg) with
  | mk a =>
    rw [h] at e
    rw [← e]
theorem erase_perm {α : Type} : ∀ {l : List α} {j : Nat} (hj : j < l.length), ([l[j]] ++ l.eraseIdx j).Perm l
  | a :: l, 0, _ => List.Perm.refl _
  | a :: l, j + 1, hj => by
    have ih := erase_perm (l := l) (j := j) (by simpa using hj)
    have hj' : j < l.length := by simpa using hj
    show (l[j]'hj' :: a :: l.eraseIdx j).Perm (a :: l)
    exact (List.Perm.swap a _ _).trans (List.Perm.cons a ih)
theorem rep_map (n : Nat) : List.replicate n (D.bl true) = (List.replicate n true).map D.bl := by rw [List.map_replicate]
theorem all_rep (n : Nat) : (List.replicate n true).all id = true := by
  rw [List.all_eq_true]
  intro x hx
  exact List.eq_of_mem_replicate hx
theorem Sgn.cons {C : Addr} {ms : Ms} {x : Addr} {w : Int} {ps : List Pr} {p : Addr × MO} : Sgn C ms x w ps → Sgn C (p :: ms) x w ps := fun ⟨i, j, m, h1, h2⟩ => ⟨i + 1, j + 1, m, h1, h2⟩
theorem Sgn.setL {C : Addr} {ms : Ms} {x l : Addr} {w : Int} {ps : List Pr} {k : Nat} {st st' : List D} (hk : ms[k]? = some (l, .lst st)) : Sgn C ms x w ps → Sgn C (ms.set k (l, .lst st')) x w ps := fun ⟨i, j, m, h1, h2⟩ => by
  refine ⟨i, j, m, ?_, ?_⟩
  · rw [List.getElem?_set_ne]
    · exact h1
    · rintro rfl
      rw [hk] at h1
      cases h1
  · rw [List.getElem?_set_ne]
    · exact h2
    · rintro rfl
      rw [hk] at h2
      cases h2
def okZ (z : Str) : Prop := z.cps.toList.Nodup ∧ (∀ c ∈ z.cps.toList, inL c) ∧ 0 < z.length ∧ z.length ≤ 100
def ZS : List D := [.str "ABCDMW", .str "ABCDEFGHIJ6789", .str "0Z9A"]
theorem plain_str (n : Nat) (z : Str) : plainN n (.str z) := by cases n <;> simp [plainN]
theorem plain_int (n : Nat) (z : Int) : plainN n (.int z) := by cases n <;> simp [plainN]
section
variable {P : Program} {w : World} {K : Frg} {mg : Str → Option Value} {base : Heap}
theorem ok_is_int_in (T : Txt K mg) : OK_is_int_in P w base T := by
  refine fn_ok T.F_is_int_in sc_is_int_in (by rintro _ _ _ _ _ ⟨v, lo, hi, rfl, _⟩; rfl) (fun cdv A outer s H E hr => ?_)
  have hu64 := hr.units
  refine ⟨_, (pss_one (ps_ret (pe_and (pe_callB (kISI (K := K) rfl) (by rfl) T.g_isinstance boot_isinstance (pa_cons (pv 0) (pa_cons (pe_bltn (v := .ty "int") (by rfl) T.g_int boot_int rfl) pa_nil))) (pe_and (pe_not (pe_callB (kISI (K := K) rfl) (by rfl) T.g_isinstance boot_isinstance (pa_cons (pv 0) (pa_cons (pe_bltn (v := .ty "bool") (by rfl) T.g_bool boot_bool rfl) pa_nil)))) (pe_one (pe_chain op_le op_le (pv 1) (pv 0) (pv 2))))))), ?_⟩
  rintro _ F ms Q Ea ⟨v, lo, hi, rfl, q⟩
  walk_at "al"
  by_cases h : lo ≤ v
  · refine ⟨fun _ => ?_, fun z => by simp [h] at z⟩
    walk_at "al"
    simpa [h] using q
  · refine ⟨fun z => by simp [h] at z, fun _ => ?_⟩
    walk_at "al"
    simpa [h] using q
theorem ok_is_pair (T : Txt K mg) : OK_is_pair P w base T := by
  refine fn_ok T.F_is_pair sc_is_pair (by rintro _ _ _ _ _ ⟨v, rfl, _⟩; rfl) (fun cdv A outer s H E hr => ?_)
  have hu64 := hr.units
  refine ⟨_, (pss_cons (ps_if ((pw_or (pt_not (pt_val (pe_callB (kISI (K := K) rfl) (by rfl) T.g_isinstance boot_isinstance (pa_cons (pv 0) (pa_cons (pe_bltn (v := .ty "str") (by rfl) T.g_str boot_str rfl) pa_nil))))) (pw_or (pt_cmpR (kNE (K := K) rfl hu64) (pe_callB (kLEN (K := K) rfl) (by rfl) T.g_len boot_len (pa_cons (pv 0) pa_nil)) pe_int (nomark _)) (pw_or1 (pt_cmpR (kEQ (K := K) rfl hu64) (pe_ix (kIX (K := K) rfl) (pv 0) pe_int (fun _ _ => rfl)) (pe_ix (kIX (K := K) rfl) (pv 0) pe_int (fun _ _ => rfl)) (nomark _)))))).pt (pss_one (ps_ret pe_bl)) pss_nil)
      (pss_one (ps_ret (pe_and (pe_cmpR (kIN (K := K) rfl) (pe_ix (kIX (K := K) rfl) (pv 0) pe_int (fun _ _ => rfl)) (pe_glob (by rfl) T.m_LETTERS T.r_LETTERS) (by with_unfolding_all rfl)) (pe_one (pe_cmpR (kIN (K := K) rfl) (pe_ix (kIX (K := K) rfl) (pv 0) pe_int (fun _ _ => rfl)) (pe_glob (by rfl) T.m_LETTERS T.r_LETTERS) (by with_unfolding_all rfl))))))), ?_⟩
  rintro _ F ms Q Ea ⟨p, rfl, h1, h2, h3, q⟩
  have e1 : decide (((pS p).length : Int) = 2) = true := decide_eq_true rfl
  have e2 : decide (sg p.1 = sg p.2) = false := decide_eq_false fun z => h1 (by simpa [sg] using z)
  show AS _ _ _ _ [some (.str (pS p))] _
  walk_at "al"
  refine ac_lenS (z := pS p) (by show 2 ≤ 100000; decide) ?_
  walk_at "al"
  rw [e1]
  walk_at "al"
  refine ar_ixS (z := pS p) (c := p.1) (by show 2 ≤ 100000; decide) rfl ?_
  walk_at "al"
  refine ar_ixS (z := pS p) (c := p.2) (by show 2 ≤ 100000; decide) rfl ?_
  walk_at "al"
  rw [e2]
  walk_at "al"
  refine ar_ixS (z := pS p) (c := p.1) (by show 2 ≤ 100000; decide) rfl ?_
  walk_at "al"
  refine and_dT h2 ?_
  walk_at "al"
  refine ar_ixS (z := pS p) (c := p.2) (by show 2 ≤ 100000; decide) rfl ?_
  walk_at "al"
  have e3 : decide (p.2 ∈ LET.cps.toList) = true := decide_eq_true h3
  show Q F ms (.bl (decide (p.2 ∈ LET.cps.toList)))
  rw [e3]
  exact q
theorem ok__law_below (T : Txt K mg) : OK__law_below P w base T := by
  refine fn_ok T.F__law_below sc__law_below (by rintro _ _ _ _ _ ⟨k, l, st, n, rfl, _⟩; rfl) (fun cdv A outer s H E hr => ?_)
  have hu64 := hr.units
  refine ⟨_, (pss_cons (ps_if ((pw_and (pt_cmpR (kEQ (K := K) rfl hu64) (pe_ix (kIX (K := K) rfl) (pv 0) pe_int (fun _ _ => rfl)) pe_int (nomark _)) (pw_and1 (pt_cmpR op_gt (pe_callB (kLEN (K := K) rfl) (by rfl) T.g_len boot_len (pa_cons (pv 0) pa_nil)) pe_int (nomark _))))).pt (pss_one (ps_asg (pe_bmk (K := K) rfl PySem.F.plainAttrs_list PySem.F.slot_list_pop PySem.F.type_list_pop mt_popAt (pv 0) (pa_cons pe_int pa_nil)) (pg_sub (pv 0) pe_int set_list))) pss_nil)
      (pss_cons (ps_if (pt_cmpR op_gt (pe_ix (kIX (K := K) rfl) (pv 0) pe_int (fun _ _ => rfl)) pe_int (nomark _)) (pss_cons (ps_set (i := 2) sc__law_below.nd rfl (by first | exact Or.inl rfl | exact Or.inr rfl) (pe_op op_mod (pe_ix (kIX (K := K) rfl) (pv 0) pe_int (fun _ _ => rfl)) (pv 1)))
      (pss_cons (ps_asg (pe_op op_fdiv (pe_ix (kIX (K := K) rfl) (pv 0) pe_int (fun _ _ => rfl)) (pv 1)) (pg_sub (pv 0) pe_int set_list))
      (pss_one (ps_ret (pv 2))))) pss_nil)
      (pss_cons (ps_asg (pe_op op_mod (pe_op (kADD (K := K) rfl) (pe_op (kMUL (K := K) rfl) (pe_ix (kIX (K := K) rfl) (pv 0) pe_int (fun _ _ => rfl)) pe_int) pe_int) pe_int) (pg_sub (pv 0) pe_int set_list))
      (pss_one (ps_ret (pe_op op_mod (pe_op op_fdiv (pe_ix (kIX (K := K) rfl) (pv 0) pe_int (fun _ _ => rfl)) pe_int) (pv 1))))))), ?_⟩
  rintro _ F ms Q Ea ⟨k, l, _, n, rfl, hk, ⟨s0, c0, rest, rfl, hs0, hs1, hc0, hrest, hlen⟩, n0, n1, q⟩
  have hkl : k < ms.length := (List.getElem?_eq_some_iff.mp hk).1
  refine as_cut (fun F' ms' S' => F' = F ∧ S' = startS N__law_below [.ref l, .int n] ∧ ∃ (c : Int) (R' : List Int), ms' = ms.set k (l, .lst (.int s0 :: .int c :: R'.map D.int)) ∧ 0 ≤ c ∧ (∀ x ∈ R', 10 ^ 18 ≤ x) ∧ R'.length ≤ 64) ?_ ?_
  · walk_at "al"
    refine ar_ixO k hk (atI_of (j := 1) rfl rfl) ?_
    walk_at "al"
    by_cases hc : c0 = 0
    · refine and_dT hc ?_
      walk_at "al"
      refine ac_lenO k hk ?_
      walk_at "al"
      cases rest with
      | nil =>
        refine and_dF (by simp) ?_
        walk_at "al"
        exact ⟨rfl, rfl, c0, [], (set_same hk).symm, hc0, hrest, hlen⟩
      | cons r0 rest =>
        refine and_dT (by simp; omega) ?_
        refine as_subO ?_
        refine ae_bmL ?_
        walk_at "al"
        refine ⟨_, .inr ⟨k, l, rfl, hk⟩, ?_⟩
        walk_at "al"
        refine am_popAt k (j := 2) (d := .int r0) hk rfl (by simp; simp at hlen; omega) rfl ?_
        walk_at "al"
        refine ⟨k, l, _, 1, 1, rfl, rfl, set_get hkl, ixN_of rfl (by simp), ?_⟩
        refine ⟨rfl, rfl, r0, rest, ?_, ?_, fun x hx => hrest x (List.mem_cons_of_mem _ hx), ?_⟩
        · rw [set_set]; rfl
        · have := hrest r0 (List.mem_cons_self ..); omega
        · simp at hlen; omega
    · refine and_dF hc ?_
      walk_at "al"
      exact ⟨rfl, rfl, c0, rest, (set_same hk).symm, hc0, hrest, hlen⟩
  · rintro F' ms' S' eF ⟨rfl, rfl, c, R', rfl, hc0', hrest', hlen'⟩
    have hk' : (ms.set k (l, MO.lst (.int s0 :: .int c :: R'.map D.int)))[k]? = some (l, .lst (.int s0 :: .int c :: R'.map D.int)) := set_get hkl
    walk_at "al"
    refine ar_ixO k hk' (atI_of (j := 1) rfl rfl) ?_
    walk_at "al"
    by_cases hc : 0 < c
    · refine and_dT hc ?_
      walk_at "al"
      refine ar_ixO k hk' (atI_of (j := 1) rfl rfl) ?_
      walk_at "al"
      refine ar_modI n0 ?_
      walk_at "al"
      refine as_subO ?_
      walk_at "al"
      refine ar_ixO k hk' (atI_of (j := 1) rfl rfl) ?_
      walk_at "al"
      refine ar_divI ⟨n0, by omega⟩ ?_
      walk_at "al"
      refine ⟨k, l, _, 1, 1, rfl, rfl, hk', ixN_of rfl (by simp), ?_⟩
      walk_at "al"
      rw [set_set]
      exact q _ _ ⟨s0, c / n, R', rfl, hs0, hs1, Int.ediv_nonneg hc0' (by omega), hrest', hlen'⟩ (Int.emod_nonneg _ (by omega)) (Int.emod_lt_of_pos _ n0)
    · refine and_dF hc ?_
      walk_at "al"
      refine as_subO ?_
      walk_at "al"
      refine ar_ixO k hk' (atI_of (j := 0) rfl rfl) ?_
      walk_at "al"
      refine ar_MULi (.inr ⟨by decide, by decide⟩) ?_
      walk_at "al"
      refine ar_modI (by decide) ?_
      walk_at "al"
      refine ⟨k, l, _, 0, 0, rfl, rfl, hk', ixN_of rfl (by simp), ?_⟩
      walk_at "al"
      rw [set_set]
      refine ar_ixO k (set_get hkl) (atI_of (j := 0) rfl rfl) ?_
      walk_at "al"
      refine ar_divI ⟨by decide, by decide⟩ ?_
      walk_at "al"
      refine ar_modI n0 ?_
      exact q _ _ ⟨(s0 * 48271 + 11) % 2147483647, c, R', rfl, Int.emod_nonneg _ (by decide), Int.emod_lt_of_pos _ (by decide), hc0', hrest', hlen'⟩ (Int.emod_nonneg _ (by omega)) (Int.emod_lt_of_pos _ n0)
theorem ok__law_random (T : Txt K mg) : OK__law_random P w base T := by
  refine fn_ok T.F__law_random sc__law_random (by rintro _ _ _ _ _ ⟨ns, rfl, _⟩; rfl) (fun cdv A outer s H E hr => ?_)
  have hu64 := hr.units
  refine ⟨_, (pss_cons (ps_set (i := 2) sc__law_random.nd rfl (by first | exact Or.inl rfl | exact Or.inr rfl) (pv 1))
      (pss_cons (ps_for PassesOwn.never rfl (pi_listk (K := K) rfl (pv 0)) (pg_name (i := 3) sc__law_random.nd rfl (by first | exact Or.inl rfl | exact Or.inr rfl)) (pss_one (ps_set (i := 2) sc__law_random.nd rfl (by first | exact Or.inl rfl | exact Or.inr rfl) (pe_op op_mod (pe_op (kADD (K := K) rfl) (pe_op (kMUL (K := K) rfl) (pv 2) pe_int) (pe_callB call_ABS (by rfl) T.g_abs boot_abs (pa_cons (pv 3) pa_nil))) pe_int))))
      (pss_one (ps_ret (pe_op (kADD (K := K) rfl) (pe_lst (pa_cons (pv 2) (pa_cons pe_int pa_nil))) (pe_lc rfl sc__law_random.nd (pi_listk (K := K) rfl (pv 0)) (own := [("_law_cell", 3)]) (@BlkOk.mk N__law_random (defScope s__law_random) _ _ rfl (by decide +kernel) (by decide +kernel) (by decide +kernel) (by decide +kernel)) (fun _ _ _ _ _ => (pg_name (i := 3) sc__law_random.nd rfl (by first | exact Or.inl rfl | exact Or.inr rfl))) (fun _ _ _ _ _ => (pts_one (pt_cmpR op_ge (pv 3) (pe_op op_pow pe_int pe_int) (nomark _)))) (fun _ _ _ _ _ => (pv 3)))))))), ?_⟩
  rintro _ F ms Q Ea ⟨ns, rfl, hn, q⟩
  refine as_seq ?_
  walk_at "al"
  refine as_for ?_
  refine ai_list ?_
  walk_at "al"
  refine .inl ⟨_, .inr rfl, fun i F' ms' S' => ms' = ms ∧ ∃ (z : Int) (e : Option D), 0 ≤ z ∧ z < 2147483647 ∧ S' = [some (.rdl (ns.map D.int)), some (.int 15), some (.int z), e], ⟨rfl, 15, none, by decide, by decide, rfl⟩, fun _ _ _ _ _ _ => trivial, ?_, ?_⟩
  · rintro i d F' ms' S' e hd ⟨rfl, z, e', hz0, hz1, rfl⟩ F'' e''
    obtain ⟨x, rfl⟩ : ∃ x, d = .int x := by
      rw [List.getElem?_map] at hd
      cases h : ns[i]? with
      | none => rw [h] at hd; cases hd
      | some x => rw [h] at hd; exact ⟨x, (Option.some.inj hd).symm⟩
    refine ag_name ?_
    walk_at "al"
    refine ar_MULi (.inr ⟨by decide, by decide⟩) ?_
    walk_at "al"
    refine ar_modI (by decide) ?_
    walk_at "al"
    exact ⟨rfl, _, _, Int.emod_nonneg _ (by decide), Int.emod_lt_of_pos _ (by decide), rfl⟩
  · rintro F' ms' S' e ⟨rfl, z, e', hz0, hz1, rfl⟩
    walk_at "al"
    refine ae_lstF ?_
    walk_at "al"
    refine ⟨by simp, fun F2 e2 => ?_⟩
    refine ae_lc (gw_name (by simp)) gm_name ?_
    refine ai_list ?_
    walk_at "al"
    refine .inl ⟨_, .inr rfl, fun i F' ms1 acc => ms1 = ms' ∧ ∃ R' : List Int, acc = R'.map D.int ∧ (∀ x ∈ R', 10 ^ 18 ≤ x) ∧ R'.length ≤ i, ⟨rfl, [], rfl, fun _ h => (List.not_mem_nil h).elim, Nat.le_refl _⟩, fun _ _ _ _ _ _ => trivial, ?_, ?_⟩
    · rintro i d F3 ms3 acc e3 hd ⟨rfl, R', rfl, hR, hl⟩ F4 e4
      have hi : i < ns.length := by
        have := (List.getElem?_eq_some_iff.mp hd).1
        simpa using this
      obtain ⟨x, rfl⟩ : ∃ x, d = .int x := by
        rw [List.getElem?_map] at hd
        cases h : ns[i]? with
        | none => rw [h] at hd; cases hd
        | some x => rw [h] at hd; exact ⟨x, (Option.some.inj hd).symm⟩
      refine ag_name ?_
      walk_at "al"
      refine ar_powI ⟨by decide, by decide, by decide⟩ ?_
      walk_at "al"
      refine ⟨fun h => ?_, fun h => ?_⟩
      · walk_at "al"
        refine ⟨by rw [List.length_map]; omega, rfl, R' ++ [x], by rw [List.map_append]; rfl, ?_, by rw [List.length_append]; simp; omega⟩
        intro y hy
        rcases List.mem_append.mp hy with hy | hy
        · exact hR y hy
        · rw [List.mem_singleton.mp hy]
          exact of_decide_eq_true h
      · exact ⟨rfl, R', rfl, hR, by omega⟩
    · rintro F3 ms3 acc e3 ⟨rfl, R', rfl, hR, hl⟩ F4 e4
      rw [List.length_map] at hl
      refine ar_ADDlo (by rw [List.length_map]; simp; omega) fun l => ?_
      exact q F4 l _ ((((e.trans e2).trans e3).trans e4)) ⟨z, 0, R', rfl, hz0, hz1, by decide, hR, by omega⟩
theorem ok_Sign___init__ (T : Txt K mg) (G_is_int_in : OK_is_int_in P w base T) (G_is_pair : OK_is_pair P w base T) : OK_Sign___init__ P w base T := by
  refine fn_okD T.F_Sign___init__ sc_Sign___init__ (by rintro _ _ _ _ _ ⟨x, w, ps, R, rfl, _⟩; rfl) (fun cdv A outer s H E hr => ?_)
  have hu64 := hr.units
  refine ⟨_, (pss_cons (ps_if (pt_not (pt_val (pe_call G_is_int_in (hr.mono (by first | decide | omega)) (by rfl) T.m_is_int_in T.F_is_int_in.kp T.b_is_int_in .nil pass0 (pa_cons (pv 1) (pa_cons pe_int (pa_cons (pe_glob (by rfl) T.m_MAX_WIDTH T.r_MAX_WIDTH) pa_nil)))))) (pss_one ps_never) pss_nil)
      (pss_cons (ps_if (pt_not (pt_val (pe_callB (kISI (K := K) rfl) (by rfl) T.g_isinstance boot_isinstance (pa_cons (pv 2) (pa_cons (pe_bltn (v := .ty "tuple") (by rfl) T.g_tuple boot_tuple rfl) pa_nil))))) (pss_one ps_never) pss_nil)
      (pss_cons (ps_fld (pv 0) pe_dnewK (by rfl))
      (pss_cons (ps_for PassesOwn.never rfl (pi_enumA (by rfl) T.g_enumerate (pa_cons (pv 2) pa_nil)) (pg_tup rfl (pgs_cons (pg_name (i := 3) sc_Sign___init__.nd rfl (by first | exact Or.inl rfl | exact Or.inr rfl)) (pgs_cons (pg_name (i := 4) sc_Sign___init__.nd rfl (by first | exact Or.inl rfl | exact Or.inr rfl)) pgs_nil))) (pss_cons (ps_if ((pw_or (pt_cmpR (kEQ (K := K) rfl hu64) (pv 3) (pe_glob (by rfl) T.m_MAX_PAIRS T.r_MAX_PAIRS) (nomark _)) (pw_or (pt_not (pt_val (pe_call G_is_pair (hr.mono (by first | decide | omega)) (by rfl) T.m_is_pair T.F_is_pair.kp T.b_is_pair .nil pass0 (pa_cons (pv 4) pa_nil)))) (pw_or (pt_cmp (pc_din (hu_of hr) (pe_ix (kIX (K := K) rfl) (pv 4) pe_int (fun _ _ => rfl)) (pe_fldk (K := K) rfl (pv 0) (by rfl)))) (pw_or1 (pt_cmp (pc_din (hu_of hr) (pe_ix (kIX (K := K) rfl) (pv 4) pe_int (fun _ _ => rfl)) (pe_fldk (K := K) rfl (pv 0) (by rfl))))))))).pt (pss_one ps_never) pss_nil)
      (pss_cons (ps_dput (hu_of hr) (pe_fldk (K := K) rfl (pv 0) (by rfl)) (pe_ix (kIX (K := K) rfl) (pv 4) pe_int (fun _ _ => rfl)) (pe_ix (kIX (K := K) rfl) (pv 4) pe_int (fun _ _ => rfl)) (by rfl))
      (pss_one (ps_dput (hu_of hr) (pe_fldk (K := K) rfl (pv 0) (by rfl)) (pe_ix (kIX (K := K) rfl) (pv 4) pe_int (fun _ _ => rfl)) (pe_ix (kIX (K := K) rfl) (pv 4) pe_int (fun _ _ => rfl)) (by rfl))))))
      (pss_cons (ps_fld (pv 0) (pv 1) (by rfl))
      (pss_one (ps_fld (pv 0) (pv 2) (by rfl)))))))), ?_⟩
  rintro _ F _ Q Ea ⟨x, w, ps, R, rfl, w1, w2, hl, hL, hnd, rfl, q⟩
  walk_at "al"
  refine ⟨w, 1, 24, rfl, ?_⟩
  rw [decide_eq_true w1, decide_eq_true w2]
  walk_at "al"
  refine and_nT ?_
  walk_at "al"
  refine as_fld ?_
  refine ae_dnewO fun m => ?_
  walk_at "al"
  refine ⟨1, x, T.c_Sign, [], rfl, rfl, T.k_Sign, T.n_Sign_mates, by decide, ?_⟩
  walk_at "al"
  refine as_for ?_
  refine ai_enum ?_
  walk_at "al"
  refine .inr (.inl ⟨_, rfl, fun i F' ms' S' => ms' = (m, .dic (kvsOf (ps.take i))) :: (x, .ins T.c_Sign [("mates", .ref m)]) :: R ∧ ∃ a b, S' = [some (.ref x), some (.int w), some (.tup (ps.map pD)), a, b], ⟨rfl, none, none, rfl⟩, fun _ _ _ _ _ _ => trivial, ?_, ?_⟩)
  · rintro n d F' ms' S' e hd ⟨rfl, a, b, rfl⟩ F'' e''
    obtain ⟨_, h1, rfl⟩ := enum_at hd
    obtain ⟨p, hp, rfl⟩ := pairs_at h1
    obtain ⟨f1, f2, f3⟩ := flat_new hp hnd
    obtain ⟨g1, g2⟩ := flat_mem hp
    have hn : n < ps.length := (List.getElem?_eq_some_iff.mp hp).1
    refine ag_tup rfl ?_
    refine ags_cons (ag_name ?_)
    refine ags_cons (ag_name ?_)
    refine ags_nil ?_
    walk_at "al"
    refine and_dF' (by omega) ?_
    walk_at "al"
    refine ⟨p, rfl, f3, hL _ g1, hL _ g2, ?_⟩
    walk_at "al"
    refine ae_din ?_
    walk_at "al"
    refine ar_ixS (z := pS p) (c := p.1) (by show 2 ≤ 100000; decide) rfl ?_
    refine ae_fld ?_
    walk_at "al"
    refine ⟨x, T.c_Sign, [("mates", .ref m)], .ref m, rfl, .inr ⟨1, rfl⟩, T.k_Sign, T.n_Sign_mates, rfl, ?_⟩
    refine ⟨kS p.1, _, rfl, .inr ⟨0, m, rfl, rfl⟩, ?_⟩
    walk_at "al"
    refine and_oF' (val_none f1) ?_
    walk_at "al"
    refine ae_din ?_
    walk_at "al"
    refine ar_ixS (z := pS p) (c := p.2) (by show 2 ≤ 100000; decide) rfl ?_
    refine ae_fld ?_
    walk_at "al"
    refine ⟨x, T.c_Sign, [("mates", .ref m)], .ref m, rfl, .inr ⟨1, rfl⟩, T.k_Sign, T.n_Sign_mates, rfl, ?_⟩
    refine ⟨kS p.2, _, rfl, .inr ⟨0, m, rfl, rfl⟩, ?_⟩
    walk_at "al"
    refine and_oF (val_none f2) ?_
    walk_at "al"
    refine as_dput ?_
    walk_at "al"
    refine ar_ixS (z := pS p) (c := p.2) (by show 2 ≤ 100000; decide) rfl ?_
    refine ae_fld ?_
    walk_at "al"
    refine ⟨x, T.c_Sign, [("mates", .ref m)], .ref m, rfl, .inr ⟨1, rfl⟩, T.k_Sign, T.n_Sign_mates, rfl, ?_⟩
    walk_at "al"
    refine ar_ixS (z := pS p) (c := p.1) (by show 2 ≤ 100000; decide) rfl ?_
    have l1 := kvs_len (ps.take n)
    have l2 : (ps.take n).length ≤ 10 := by rw [List.length_take]; omega
    refine ⟨0, m, _, kS p.1, rfl, rfl, rfl, by omega, ?_⟩
    walk_at "al"
    refine as_dput ?_
    walk_at "al"
    refine ar_ixS (z := pS p) (c := p.1) (by show 2 ≤ 100000; decide) rfl ?_
    refine ae_fld ?_
    walk_at "al"
    refine ⟨x, T.c_Sign, [("mates", .ref m)], .ref m, rfl, .inr ⟨1, rfl⟩, T.k_Sign, T.n_Sign_mates, rfl, ?_⟩
    walk_at "al"
    refine ar_ixS (z := pS p) (c := p.2) (by show 2 ≤ 100000; decide) rfl ?_
    have l3 : (putKD (kvsOf (ps.take n)) (kS p.1) (.str (sg p.2))).length = (kvsOf (ps.take n)).length + 1 := by rw [putKD_new (val_none f1), List.length_append]; rfl
    refine ⟨0, m, _, kS p.2, rfl, rfl, rfl, by omega, ?_⟩
    refine ⟨?_, _, _, rfl⟩
    show (m, MO.dic (putKD (putKD (kvsOf (ps.take n)) (kS p.1) (.str (sg p.2))) (kS p.2) (.str (sg p.1)))) :: _ = _
    rw [putKD_new (val_none f1), putKD_new (by
      rw [valD_app (val_none f2), valD_cons, if_neg (fun z => f3 (kS_inj.mp z).symm)]
      rfl), List.take_succ, hp]
    show _ = (m, MO.dic (kvsOf (ps.take n ++ [p]))) :: _
    rw [kvs_app, List.append_assoc]
    rfl
  · rintro F' ms' S' e ⟨rfl, a, b, rfl⟩
    rw [enum_len, List.length_map, List.take_length]
    walk_at "al"
    refine as_fld ?_
    walk_at "al"
    refine ⟨1, x, T.c_Sign, _, rfl, rfl, T.k_Sign, T.n_Sign_width, by show 1 < 1000; decide, ?_⟩
    walk_at "al"
    refine as_fld ?_
    walk_at "al"
    refine ⟨1, x, T.c_Sign, _, rfl, rfl, T.k_Sign, T.n_Sign_pairs, Nat.lt_of_le_of_lt (putD_len _ _ _) (by show 2 < 1000; decide), ?_⟩
    exact q m F' e
theorem ok__law_shuffled (T : Txt K mg) (G__law_below : OK__law_below P w base T) : OK__law_shuffled P w base T := by
  refine fn_ok T.F__law_shuffled sc__law_shuffled (by rintro _ _ _ _ _ ⟨k, l, st, xs, rfl, _⟩; rfl) (fun cdv A outer s H E hr => ?_)
  have hu64 := hr.units
  refine ⟨_, (pss_cons (ps_set (i := 2) sc__law_shuffled.nd rfl (by first | exact Or.inl rfl | exact Or.inr rfl) (pe_callTy (kLIST (K := K) rfl rfl) (by rfl) T.g_list boot_list (pa_cons (pv 1) pa_nil)))
      (pss_cons (ps_set (i := 3) sc__law_shuffled.nd rfl (by first | exact Or.inl rfl | exact Or.inr rfl) (pe_lst pa_nil))
      (pss_cons (ps_while PassesOwn.never (pt_cmpR (kNE (K := K) rfl hu64) (pv 2) (pe_lst pa_nil) (nomark _)) (pss_one (ps_expr (pe_bmk (K := K) rfl PySem.F.plainAttrs_list PySem.F.slot_list_append PySem.F.type_list_append mt_append (pv 3) (pa_cons (pe_bmk (K := K) rfl PySem.F.plainAttrs_list PySem.F.slot_list_pop PySem.F.type_list_pop mt_popAt (pv 2) (pa_cons (pe_call G__law_below (hr.mono (by first | decide | omega)) (by rfl) T.m__law_below T.F__law_below.kp T.b__law_below .nil pass0 (pa_cons (pv 0) (pa_cons (pe_callB (kLEN (K := K) rfl) (by rfl) T.g_len boot_len (pa_cons (pv 2) pa_nil)) pa_nil))) pa_nil)) pa_nil)))))
      (pss_one (ps_ret (pv 3)))))), ?_⟩
  rintro _ F ms Q Ea ⟨k, l, st, xs, rfl, hk, hst, hx, hc, q⟩
  have hkl : k < ms.length := (List.getElem?_eq_some_iff.mp hk).1
  walk_at "al"
  refine ac_listO (.inl (.inl rfl)) fun l1 => ?_
  walk_at "al"
  refine ae_lstO ?_
  walk_at "al"
  refine ⟨by simp, fun l2 => ?_⟩
  walk_at "al"
  refine as_while (fun m F' ms' S' => ∃ (r p st' : List D), ms' = (l2, .lst r) :: (l1, .lst p) :: ms.set k (l, .lst st') ∧ St st' ∧ (r ++ p).Perm xs ∧ p.length = m ∧ S' = [some (.ref l), some (.lst xs), some (.ref l1), some (.ref l2)]) xs.length ⟨[], xs, st, by rw [set_same hk], hst, List.Perm.refl _, rfl, rfl⟩ ?_
  rintro m F' ms' S' e ⟨r, p, st', rfl, hst', hp, rfl, rfl⟩
  have hps : ∀ y ∈ r ++ p, ∃ c, y = .str (sg c) ∧ c < 128 := fun y hy => hc y (hp.mem_iff.mp hy)
  obtain ⟨o1, o2⟩ := chr_ok fun y hy => hps y (List.mem_append_right _ hy)
  have hlen := hp.length_eq
  rw [List.length_append] at hlen
  walk_at "al"
  refine ae_lstF ?_
  walk_at "al"
  refine ⟨by simp, fun F2 e2 => ?_⟩
  refine ar_NEo 1 (ds := p) rfl o1 rfl (by rw [o2]; decide) (by decide) ?_
  walk_at "al"
  rw [eqv_nil]
  cases p with
  | nil =>
    refine and_nT ?_
    refine as_ret (ae_dropm (ae_frz ?_))
    walk_at "al"
    refine ⟨0, l2, r, rfl, rfl, fun F3 e3 => ⟨0, Nat.zero_lt_succ _, ?_⟩⟩
    exact q st' F3 r ((e.trans e2).trans e3) hst' (by simpa using hp)
  | cons d0 p0 =>
    refine and_nF ?_
    walk_at "al"
    refine ae_bmL ?_
    walk_at "al"
    refine ⟨r, .inr ⟨0, l2, rfl, rfl⟩, ?_⟩
    walk_at "al"
    refine ae_bmL ?_
    walk_at "al"
    refine ⟨d0 :: p0, .inr ⟨1, l1, rfl, rfl⟩, ?_⟩
    walk_at "al"
    refine ac_lenO 1 (ds := d0 :: p0) rfl ?_
    walk_at "al"
    rw [List.length_cons] at hlen
    refine ⟨k + 2, l, st', _, rfl, set_get hkl, hst', by rw [List.length_cons]; omega, by rw [List.length_cons]; omega, fun st2 z hst2 z0 z1 => ?_⟩
    walk_at "al"
    obtain ⟨j, rfl⟩ : ∃ j : Nat, z = j := ⟨z.toNat, by omega⟩
    have hj : j < (d0 :: p0).length := by omega
    refine am_popAt 1 (l := l1) (xs := d0 :: p0) rfl rfl (by rw [List.length_cons]; omega) (List.getElem?_eq_getElem hj) ?_
    walk_at "al"
    refine am_append 0 (l := l2) (xs := r) rfl (by omega) ?_
    have he : (List.eraseIdx (d0 :: p0) j).length = p0.length := by rw [List.length_eraseIdx_of_lt hj]; rfl
    refine ⟨p0.length, by simp, r ++ [(d0 :: p0)[j]], List.eraseIdx (d0 :: p0) j, st2, ?_, hst2, ?_, he, rfl⟩
    · show (l2, MO.lst _) :: (l1, MO.lst _) :: (ms.set k (l, MO.lst st')).set k (l, MO.lst st2) = _
      rw [set_set]
    · rw [List.append_assoc]
      refine List.Perm.trans (List.Perm.append_left r ?_) hp
      exact erase_perm hj
theorem ok__law_pairs (T : Txt K mg) (G__law_below : OK__law_below P w base T) (G__law_shuffled : OK__law_shuffled P w base T) : OK__law_pairs P w base T := by
  refine fn_ok T.F__law_pairs sc__law_pairs (by rintro _ _ _ _ _ ⟨k, l, st, z, rfl, _⟩; rfl) (fun cdv A outer s H E hr => ?_)
  have hu64 := hr.units
  refine ⟨_, (pss_cons (ps_set (i := 2) sc__law_pairs.nd rfl (by first | exact Or.inl rfl | exact Or.inr rfl) (pe_call G__law_shuffled (hr.mono (by first | decide | omega)) (by rfl) T.m__law_shuffled T.F__law_shuffled.kp T.b__law_shuffled .nil pass0 (pa_cons (pv 0) (pa_cons (pe_callTy (kLIST (K := K) rfl rfl) (by rfl) T.g_list boot_list (pa_cons (pv 1) pa_nil)) pa_nil))))
      (pss_cons (ps_set (i := 3) sc__law_pairs.nd rfl (by first | exact Or.inl rfl | exact Or.inr rfl) (pe_call G__law_below (hr.mono (by first | decide | omega)) (by rfl) T.m__law_below T.F__law_below.kp T.b__law_below .nil pass0 (pa_cons (pv 0) (pa_cons (pe_op (kADD (K := K) rfl) pe_int (pe_callB (call_MIN rfl) (by rfl) T.g_min boot_min (pa_cons pe_int (pa_cons (pe_op op_fdiv (pe_callB (kLEN (K := K) rfl) (by rfl) T.g_len boot_len (pa_cons (pv 2) pa_nil)) pe_int) pa_nil)))) pa_nil))))
      (pss_one (ps_ret (pe_callTy (kTUPLE (K := K) rfl) (by rfl) T.g_tuple boot_tuple (pa_cons (pe_lc rfl sc__law_pairs.nd (pi_range1 (by rfl) T.g_range (pa_cons (pv 3) pa_nil)) (own := [("_law_k", 4)]) (@BlkOk.mk N__law_pairs (defScope s__law_pairs) _ _ rfl (by decide +kernel) (by decide +kernel) (by decide +kernel) (by decide +kernel)) (fun _ _ _ _ _ => (pg_name (i := 4) sc__law_pairs.nd rfl (by first | exact Or.inl rfl | exact Or.inr rfl))) (fun _ _ _ _ _ => pts_nil) (fun _ _ _ _ _ => (pe_op (kADD (K := K) rfl) (pe_ix (kIX (K := K) rfl) (pv 2) (pe_op (kMUL (K := K) rfl) pe_int (pv 4)) (fun _ _ => rfl)) (pe_ix (kIX (K := K) rfl) (pv 2) (pe_op (kADD (K := K) rfl) (pe_op (kMUL (K := K) rfl) pe_int (pv 4)) pe_int) (fun _ _ => rfl))))) pa_nil)))))), ?_⟩
  rintro _ F ms Q Ea ⟨k, l, st, z, rfl, hk, hst, hz, hnd, hL, q⟩
  have hkl : k < ms.length := (List.getElem?_eq_some_iff.mp hk).1
  walk_at "al"
  refine ac_listT (z := z) (by omega) fun F1 e1 => ?_
  walk_at "al"
  refine ⟨k, l, st, charsD z, rfl, hk, hst, by rw [chars_len]; exact hz, ?_, fun st1 F2 ys e2 hst1 hy => ?_⟩
  · intro x hx
    obtain ⟨i, hi⟩ := List.mem_iff_getElem?.mp hx
    obtain ⟨c, hc, rfl⟩ := chars_at hi
    exact ⟨c, rfl, inL_lt (hL c (List.mem_of_getElem? hc))⟩
  walk_at "al"
  refine ar_divI ⟨by decide, by decide⟩ ?_
  walk_at "al"
  obtain ⟨cs, rfl, hcs⟩ := perm_chars hy
  have hlc : cs.length ≤ 100 := by rw [hcs.length_eq]; exact hz
  refine ⟨k, l, st1, _, rfl, set_get hkl, hst1, by rw [List.length_map]; split <;> omega, by split <;> omega, fun st2 n hst2 n0 n1 => ?_⟩
  walk_at "al"
  refine ae_lc (gw_name (by simp)) gm_name ?_
  refine ai_rng1 ?_
  walk_at "al"
  rw [List.length_map] at n1
  have n2 : n ≤ 3 ∧ 2 * n ≤ cs.length := by
    split at n1 <;> omega
  rw [set_set]
  refine ⟨n, rfl, by omega, by omega, fun i F' ms' acc => ms' = ms.set k (l, .lst st2) ∧ ∃ ps : List Pr, acc = ps.map pD ∧ ps.length = i ∧ flat ps = cs.take (2 * i), ⟨rfl, [], rfl, rfl, rfl⟩, fun _ _ _ _ _ _ => trivial, ?_, ?_⟩
  · rintro i d F' ms' acc e hd ⟨rfl, ps, rfl, hl, hf⟩ F'' e''
    obtain ⟨hi, rfl⟩ := range_at hd
    have hi2 : i < n.toNat := hi
    refine ag_name ?_
    walk_at "al"
    refine ar_MULi (.inl ⟨by decide, by decide⟩) ?_
    have a1 : 2 * i < cs.length := by omega
    have a2 : 2 * i + 1 < cs.length := by omega
    refine ar_ixL (atI_of (j := 2 * i) (d := .str (sg cs[2 * i])) (by omega) (by rw [List.getElem?_map, List.getElem?_eq_getElem a1]; rfl)) ?_
    walk_at "al"
    refine ar_MULi (.inl ⟨by decide, by decide⟩) ?_
    walk_at "al"
    refine ar_ixL (atI_of (j := 2 * i + 1) (d := .str (sg cs[2 * i + 1])) (by omega) (by rw [List.getElem?_map, List.getElem?_eq_getElem a2]; rfl)) ?_
    refine ar_ADDs (by show 1 + 1 ≤ 100000; decide) ?_
    refine ⟨by rw [List.length_map]; omega, rfl, ps ++ [(cs[2 * i], cs[2 * i + 1])], by rw [List.map_append]; rfl, by rw [List.length_append, hl]; rfl, ?_⟩
    unfold flat at *
    rw [List.flatMap_append, hf, show 2 * (i + 1) = 2 * i + 1 + 1 by omega, List.take_succ, List.take_succ, List.getElem?_eq_getElem a1, List.getElem?_eq_getElem a2, List.append_assoc]
    rfl
  · rintro F' ms' acc e ⟨rfl, ps, rfl, hl, hf⟩ F'' e''
    rw [range_len] at hl hf
    walk_at "al"
    refine ac_tupleL (.inl rfl) fun F3 e3 => ?_
    have sub : ∀ c ∈ flat ps, c ∈ cs := fun c hc => List.mem_of_mem_take (hf ▸ hc)
    refine q st2 F3 ps ((((e1.trans e2).trans e).trans e'').trans e3) hst2 (by omega) (fun c hc => hcs.mem_iff.mp (sub c hc)) ?_
    rw [hf]
    exact (hcs.nodup_iff.mpr hnd).sublist (List.take_sublist _ _)
end

theorem inL_ne {c : Nat} (h : inL c) : c ≠ 32 := by
  rintro rfl
  have : decide (32 ∈ LET.cps.toList) = false := by decide +kernel
  exact of_decide_eq_false this h
theorem sg_ne {c : Nat} (h : c ≠ 32) : ¬ sg c = Str.ofString " " := fun q => by
  have e : [c] = [32] := congrArg (fun s : Str => s.cps.toList) q
  exact h (by simpa using e)
theorem cut_mem {r : List Nat} {c : Nat} {lo hi : Option Int} (h : c ∈ (cutS ⟨r.toArray⟩ lo hi).cps.toList) : c ∈ r := by
  unfold cutS at h
  exact List.mem_of_mem_drop (List.mem_of_mem_take h)
theorem app_l (a b : Str) : (a ++ b).cps.toList = a.cps.toList ++ b.cps.toList := Array.toList_append
theorem ok_ends {a b : Nat} {m : Str} {w : Int} (ha : inL a) (hb : inL b) (hm : ∀ c ∈ m.cps.toList, c = 32 ∨ inL c) (hw : (m.length : Int) + 2 ≤ w) : textOk w (sg a ++ m ++ sg b) := by
  have e : (sg a ++ m ++ sg b).cps.toList = a :: (m.cps.toList ++ [b]) := by rw [app_l, app_l]; rfl
  have l : (sg a ++ m ++ sg b).length = m.length + 2 := by
    rw [str_len_add, str_len_add]
    show 1 + m.length + 1 = _
    omega
  refine ⟨by rw [l]; omega, by rw [l]; omega, ?_, ⟨a, by rw [e]; rfl, ha⟩, ⟨b, ?_, hb⟩⟩
  · intro c hc
    rw [e] at hc
    simp only [List.mem_cons, List.mem_append, List.not_mem_nil, or_false] at hc
    rcases hc with rfl | hc | rfl
    · exact .inr ha
    · exact hm c hc
    · exact .inr hb
  · rw [e, l]
    show (a :: (m.cps.toList ++ [b]))[m.length + 1]? = some b
    have h : m.cps.toList.length = m.length := rfl
    rw [List.getElem?_cons_succ, ← h, List.getElem?_append_right (Nat.le_refl _), Nat.sub_self]
    rfl
theorem ok_one {a : Nat} {w : Int} (ha : inL a) (hw : 1 ≤ w) : textOk w (sg a) := ⟨by show (1 : Int) ≤ 1; omega, hw, fun c hc => .inr (List.mem_singleton.mp (show c ∈ [a] from hc) ▸ ha), ⟨a, rfl, ha⟩, ⟨a, rfl, ha⟩⟩
theorem strs_at {ts : List Str} {n : Nat} {d : D} (h : (ts.map D.str)[n]? = some d) : ∃ t, ts[n]? = some t ∧ d = .str t := by
  rw [List.getElem?_map] at h
  cases e : ts[n]? with
  | none => rw [e] at h; cases h
  | some p => rw [e] at h; exact ⟨p, rfl, (Option.some.inj h).symm⟩
theorem strs_ok {ts : List Str} {w : Int} (h : ∀ t ∈ ts, textOk w t) : okL (ts.map D.str) = true ∧ depL (ts.map D.str) = 0 ∧ (1 ≤ ts.length → eqvD (.tup (ts.map D.str)) (.tup []) = false) := by
  refine ⟨?_, ?_, ?_⟩
  · induction ts with
    | nil => rfl
    | cons t ts ih =>
      have h1 := (h t (List.mem_cons_self ..)).2.2.1
      have e : okD (.str t) = true := by
        show t.cps.all (· < 0x110000) = true
        rw [← Array.all_toList, List.all_eq_true]
        intro c hc
        rcases h1 c hc with rfl | h
        · decide
        · have := inL_lt h
          simp
          omega
      show (okD (.str t) && okL (ts.map D.str)) = true
      rw [e, ih fun y hy => h y (List.mem_cons_of_mem _ hy)]
      rfl
  · clear h
    induction ts with
    | nil => rfl
    | cons t ts ih => show max 0 (depL (ts.map D.str)) = 0; rw [ih]; rfl
  · intro hl
    cases ts with
    | nil => simp at hl
    | cons t ts => simp [eqvD, toPy, toPyL, PyData.eqv, PyData.eqvAll]
theorem plain_act (ms : Ms) : ∀ (n : Nat) {d : D}, plainN n d → ActN ms n d d
  | 0, _, h => ⟨rfl, h⟩
  | _ + 1, _, h => .inl ⟨rfl, h⟩
section
variable {P : Program} {w : World} {K : Frg} {mg : Str → Option Value} {base : Heap}
theorem ok_Sign_is_text (T : Txt K mg) : OK_Sign_is_text P w base T := by
  refine fn_ok T.F_Sign_is_text sc_Sign_is_text (by rintro _ _ _ _ _ ⟨x, w, ps, t, rfl, _⟩; rfl) (fun cdv A outer s H E hr => ?_)
  have hu64 := hr.units
  refine ⟨_, (pss_cons (ps_if ((pw_or (pt_not (pt_val (pe_callB (kISI (K := K) rfl) (by rfl) T.g_isinstance boot_isinstance (pa_cons (pv 1) (pa_cons (pe_bltn (v := .ty "str") (by rfl) T.g_str boot_str rfl) pa_nil))))) (pw_or1 (pt_not (pt_chain op_le op_le pe_int (pe_callB (kLEN (K := K) rfl) (by rfl) T.g_len boot_len (pa_cons (pv 1) pa_nil)) (pe_fldk (K := K) rfl (pv 0) (by rfl))))))).pt (pss_one (ps_ret pe_bl)) pss_nil)
      (pss_cons (ps_if ((pw_or (pt_cmpR (kEQ (K := K) rfl hu64) (pe_ix (kIX (K := K) rfl) (pv 1) pe_int (fun _ _ => rfl)) (pe_glob (by rfl) T.m_BLANK T.r_BLANK) (nomark _)) (pw_or1 (pt_cmpR (kEQ (K := K) rfl hu64) (pe_ix (kIX (K := K) rfl) (pv 1) (pe_un un_neg pe_int) (fun _ _ => rfl)) (pe_glob (by rfl) T.m_BLANK T.r_BLANK) (nomark _))))).pt (pss_one (ps_ret pe_bl)) pss_nil)
      (pss_one (ps_ret (pe_callB (kALL (K := K) rfl rfl) (by rfl) T.g_all boot_all (pa_cons (pe_lc rfl sc_Sign_is_text.nd (pi_str (pv 1)) (own := [("letter", 2)]) (@BlkOk.mk N_Sign_is_text (defScope s_Sign_is_text) _ _ rfl (by decide +kernel) (by decide +kernel) (by decide +kernel) (by decide +kernel)) (fun _ _ _ _ _ => (pg_name (i := 2) sc_Sign_is_text.nd rfl (by first | exact Or.inl rfl | exact Or.inr rfl))) (fun _ _ _ _ _ => pts_nil) (fun _ _ _ _ _ => (pe_or (pe_cmpR (kEQ (K := K) rfl hu64) (pv 2) (pe_glob (by rfl) T.m_BLANK T.r_BLANK) (nomark _)) (pe_one (pe_cmpR (kIN (K := K) rfl) (pv 2) (pe_glob (by rfl) T.m_LETTERS T.r_LETTERS) (by with_unfolding_all rfl)))))) pa_nil)))))), ?_⟩
  rintro _ F ms Q Ea ⟨x, w, ps, t, rfl, ⟨i, j, m, hi, hj⟩, hw, ⟨t1, t2, t3, ⟨a, ha, haL⟩, ⟨b, hb, hbL⟩⟩, q⟩
  walk_at "al"
  refine ac_lenS (z := t) (by omega) ?_
  walk_at "al"
  refine and_dT t1 ?_
  walk_at "al"
  refine ae_fld ?_
  walk_at "al"
  refine ⟨x, T.c_Sign, fldS m w ps, .int w, rfl, .inr ⟨i, hi⟩, T.k_Sign, T.n_Sign_width, rfl, ?_⟩
  walk_at "al"
  rw [decide_eq_true t2]
  walk_at "al"
  refine ar_ixS (z := t) (c := a) (by omega) (atI_of (j := 0) rfl ha) ?_
  walk_at "al"
  refine and_dF' (sg_ne (inL_ne haL)) ?_
  walk_at "al"
  refine ae_neg (g := fun i => -i) (fun _ => rfl) ?_
  walk_at "al"
  have tl : t.cps.toList.length = t.length := rfl
  refine ar_ixS (z := t) (c := b) (by omega) (atI_neg (j := t.length - 1) (by omega) hb (by omega)) ?_
  walk_at "al"
  refine and_dF (sg_ne (inL_ne hbL)) ?_
  walk_at "al"
  refine ae_lc (gw_name (by simp)) gm_name ?_
  refine ai_str ?_
  walk_at "al"
  refine ⟨fun i F' ms' acc => ms' = ms ∧ acc = List.replicate i (.bl true), ⟨rfl, rfl⟩, fun _ _ _ _ _ _ => trivial, ?_, ?_⟩
  · rintro n d F' ms' acc e1 hd ⟨rfl, rfl⟩ F'' e2
    obtain ⟨c, hc, rfl⟩ := chars_at hd
    have hn : n < t.cps.toList.length := (List.getElem?_eq_some_iff.mp hc).1
    refine ag_name ?_
    walk_at "al"
    have fin : (List.replicate n (D.bl true)).length < 100000 ∧ (fun i (F' : Hp) ms'_1 acc => ms'_1 = ms' ∧ acc = List.replicate i (D.bl true)) (n + 1) F'' ms' (List.replicate n (D.bl true) ++ [D.bl true]) := ⟨by rw [List.length_replicate]; omega, rfl, by rw [List.replicate_succ']⟩
    by_cases h32 : c = 32
    · subst h32
      refine and_dT' rfl ?_
      exact fin
    · refine and_dF' (sg_ne h32) ?_
      walk_at "al"
      rw [decide_eq_true (show c ∈ (Str.ofString "ABCDEFGHIJKLMNOPQRSTUVWXYZ0123456789").cps.toList from (t3 c (List.mem_of_getElem? hc)).resolve_left h32)]
      exact fin
  · rintro F' ms' acc e1 ⟨rfl, rfl⟩ F'' e2
    rw [chars_len]
    walk_at "al"
    refine ac_all (bs := List.replicate t.length true) (by rw [← rep_map]) ?_
    rw [all_rep]
    exact q _ (e1.trans e2)
theorem ok_Sign_check_texts (T : Txt K mg) (G_Sign_is_text : OK_Sign_is_text P w base T) : OK_Sign_check_texts P w base T := by
  refine fn_ok T.F_Sign_check_texts sc_Sign_check_texts (by rintro _ _ _ _ _ ⟨x, w, ps, t, rfl, _⟩; rfl) (fun cdv A outer s H E hr => ?_)
  have hu64 := hr.units
  refine ⟨_, (pss_cons (ps_if ((pw_or (pt_not (pt_val (pe_callB (kISI (K := K) rfl) (by rfl) T.g_isinstance boot_isinstance (pa_cons (pv 1) (pa_cons (pe_bltn (v := .ty "tuple") (by rfl) T.g_tuple boot_tuple rfl) pa_nil))))) (pw_or1 (pt_cmpR (kEQ (K := K) rfl hu64) (pv 1) (pe_tup pa_nil) (nomark _))))).pt (pss_one ps_never) pss_nil)
      (pss_one (ps_for PassesOwn.never rfl (pi_enumA (by rfl) T.g_enumerate (pa_cons (pv 1) pa_nil)) (pg_tup rfl (pgs_cons (pg_name (i := 2) sc_Sign_check_texts.nd rfl (by first | exact Or.inl rfl | exact Or.inr rfl)) (pgs_cons (pg_name (i := 3) sc_Sign_check_texts.nd rfl (by first | exact Or.inl rfl | exact Or.inr rfl)) pgs_nil))) (pss_one (ps_if ((pw_or (pt_cmpR (kEQ (K := K) rfl hu64) (pv 2) (pe_glob (by rfl) T.m_MAX_TEXTS T.r_MAX_TEXTS) (nomark _)) (pw_or1 (pt_not (pt_val (pe_meth (pv 0) T.k_Sign T.Me_Sign_is_text G_Sign_is_text (hr.mono (by first | decide | omega)) T.b_Sign_is_text .nil pass0 (pa_cons (pv 3) pa_nil))))))).pt (pss_one ps_never) pss_nil))))), ?_⟩
  rintro _ F ms Q Ea ⟨x, w, ps, ts, rfl, hS, hw, t1, t2, ht, q⟩
  obtain ⟨i, j, m, hi, hj⟩ := id hS
  walk_at "al"
  refine ae_tup ?_
  walk_at "al"
  refine ⟨by simp, fun F1 e1 => ?_⟩
  obtain ⟨o1, o2, o3⟩ := strs_ok ht
  refine ar_EQd (d := .tup (ts.map D.str)) (e := .tup []) o1 rfl (by show depL (ts.map D.str) + 1 ≤ 64; omega) (by decide) ?_
  rw [o3 (by omega)]
  walk_at "al"
  refine as_for ?_
  refine ai_enum ?_
  walk_at "al"
  refine .inr (.inl ⟨_, rfl, fun i F' ms' S' => ms' = ms ∧ ∃ a b, S' = [some (.ref x), some (.tup (ts.map D.str)), a, b], ⟨rfl, none, none, rfl⟩, fun _ _ _ _ _ _ => trivial, ?_, ?_⟩)
  · rintro n d F' ms' S' e hd ⟨rfl, a, b, rfl⟩ F'' e''
    obtain ⟨_, h1, rfl⟩ := enum_at hd
    obtain ⟨t, hp, rfl⟩ := strs_at h1
    have hn : n < ts.length := (List.getElem?_eq_some_iff.mp hp).1
    refine ag_tup rfl ?_
    refine ags_cons (ag_name ?_)
    refine ags_cons (ag_name ?_)
    refine ags_nil ?_
    walk_at "al"
    refine and_dF' (by omega) ?_
    walk_at "al"
    refine ae_meth ?_
    walk_at "al"
    refine ⟨x, fldS m w ps, rfl, .inr ⟨i, hi⟩, fld_no (by decide +kernel) (by decide +kernel) (by decide +kernel), ?_⟩
    walk_at "al"
    refine ⟨x, w, ps, t, rfl, hS, hw, ht t (List.mem_of_getElem? hp), fun F3 e3 => ?_⟩
    walk_at "al"
    exact ⟨rfl, _, _, rfl⟩
  · rintro F' ms' S' e ⟨rfl, a, b, rfl⟩
    exact q _ (e1.trans e)
theorem ok__law_text (T : Txt K mg) (G__law_below : OK__law_below P w base T) : OK__law_text P w base T := by
  refine fn_ok T.F__law_text sc__law_text (by rintro _ _ _ _ _ ⟨k, l, st, w, z, rfl, _⟩; rfl) (fun cdv A outer s H E hr => ?_)
  have hu64 := hr.units
  refine ⟨_, (pss_cons (ps_set (i := 3) sc__law_text.nd rfl (by first | exact Or.inl rfl | exact Or.inr rfl) (pe_op (kADD (K := K) rfl) pe_int (pe_call G__law_below (hr.mono (by first | decide | omega)) (by rfl) T.m__law_below T.F__law_below.kp T.b__law_below .nil pass0 (pa_cons (pv 0) (pa_cons (pv 1) pa_nil)))))
      (pss_cons (ps_set (i := 4) sc__law_text.nd rfl (by first | exact Or.inl rfl | exact Or.inr rfl) (pe_op (kADD (K := K) rfl) (pv 2) (pe_op (kMUL (K := K) rfl) pe_str (pe_call G__law_below (hr.mono (by first | decide | omega)) (by rfl) T.m__law_below T.F__law_below.kp T.b__law_below .nil pass0 (pa_cons (pv 0) (pa_cons pe_int pa_nil))))))
      (pss_cons (ps_set (i := 5) sc__law_text.nd rfl (by first | exact Or.inl rfl | exact Or.inr rfl) (pe_bmk (K := K) rfl PySem.F.plainAttrs_str PySem.F.slot_str_join PySem.F.type_str_join (kJOIN (K := K) rfl) pe_str (pa_cons (pe_lc rfl sc__law_text.nd (pi_range1 (by rfl) T.g_range (pa_cons (pv 3) pa_nil)) (own := [("_law_k", 6)]) (@BlkOk.mk N__law_text (defScope s__law_text) _ _ rfl (by decide +kernel) (by decide +kernel) (by decide +kernel) (by decide +kernel)) (fun _ _ _ _ _ => (pg_name (i := 6) sc__law_text.nd rfl (by first | exact Or.inl rfl | exact Or.inr rfl))) (fun _ _ _ _ _ => pts_nil) (fun _ _ _ _ _ => (pe_ix (kIX (K := K) rfl) (pv 4) (pe_call G__law_below (hr.mono (by first | decide | omega)) (by rfl) T.m__law_below T.F__law_below.kp T.b__law_below .nil pass0 (pa_cons (pv 0) (pa_cons (pe_callB (kLEN (K := K) rfl) (by rfl) T.g_len boot_len (pa_cons (pv 4) pa_nil)) pa_nil))) (fun _ _ => rfl)))) pa_nil)))
      (pss_cons (ps_par (i := 7) (j := 8) rfl sc__law_text.nd rfl rfl (by decide) rfl rfl (pa_cons (pe_ix (kIX (K := K) rfl) (pv 2) (pe_call G__law_below (hr.mono (by first | decide | omega)) (by rfl) T.m__law_below T.F__law_below.kp T.b__law_below .nil pass0 (pa_cons (pv 0) (pa_cons (pe_callB (kLEN (K := K) rfl) (by rfl) T.g_len boot_len (pa_cons (pv 2) pa_nil)) pa_nil))) (fun _ _ => rfl)) (pa_cons (pe_ix (kIX (K := K) rfl) (pv 2) (pe_call G__law_below (hr.mono (by first | decide | omega)) (by rfl) T.m__law_below T.F__law_below.kp T.b__law_below .nil pass0 (pa_cons (pv 0) (pa_cons (pe_callB (kLEN (K := K) rfl) (by rfl) T.g_len boot_len (pa_cons (pv 2) pa_nil)) pa_nil))) (fun _ _ => rfl)) pa_nil)) (by rfl))
      (pss_one (ps_ret (pe_ifExp (pt_cmpR (kEQ (K := K) rfl hu64) (pv 3) pe_int (nomark _)) (pv 7) (pe_op (kADD (K := K) rfl) (pe_op (kADD (K := K) rfl) (pv 7) (pe_slice (kSLC (K := K) rfl) (pv 5) (po_some pe_int) (po_some (pe_un un_neg pe_int)))) (pv 8))))))))), ?_⟩
  rintro _ F ms Q Ea ⟨k, l, st, w, z, rfl, hk, hst, w0, w1, hz0, hz1, hzL, q⟩
  have hkl : k < ms.length := (List.getElem?_eq_some_iff.mp hk).1
  walk_at "al"
  refine ⟨k, l, st, w, rfl, hk, hst, by omega, by omega, fun st0 m hst0 m0 m1 => ?_⟩
  walk_at "al"
  refine ⟨k, l, st0, 3, rfl, set_get hkl, hst0, by decide, by decide, fun st1 n hst1 n0 n1 => ?_⟩
  refine ar_MULs (z := sp1) (by omega) (by omega) (by show 1 * n.toNat ≤ 100000; omega) ?_
  have l1 := mulS_len1 n
  refine ar_ADDs (i := z) (j := mulS sp1 n) (by omega) ?_
  have l2 : (z ++ mulS sp1 n).length = z.length + n.toNat := by rw [str_len_add, l1]
  walk_at "al"
  refine ae_bmS ?_
  walk_at "al"
  refine ae_lc (gw_name (by simp)) gm_name ?_
  refine ai_rng1 ?_
  walk_at "al"
  rw [set_set]
  refine ⟨1 + m, rfl, by omega, by omega, fun i F' ms' acc => ∃ (st2 : List D) (r : List Nat), ms' = ms.set k (l, .lst st2) ∧ St st2 ∧ acc = r.map (fun c => .str (sg c)) ∧ r.length = i ∧ ∀ c ∈ r, c = 32 ∨ c ∈ z.cps.toList, ⟨st1, [], rfl, hst1, rfl, rfl, fun _ h => (List.not_mem_nil h).elim⟩, fun _ _ _ _ _ _ => trivial, ?_, ?_⟩
  · rintro i d F' ms' acc e hd ⟨st2, r, rfl, hst2, rfl, hl, hrm⟩ F'' e''
    obtain ⟨hi, rfl⟩ := range_at hd
    refine ag_name ?_
    walk_at "al"
    refine ac_lenS (z := z ++ mulS sp1 n) (by omega) ?_
    walk_at "al"
    refine ⟨k, l, st2, _, rfl, set_get hkl, hst2, by omega, by omega, fun st3 j hst3 j0 j1 => ?_⟩
    obtain ⟨j, rfl⟩ : ∃ j' : Nat, j = j' := ⟨j.toNat, by omega⟩
    have hj : j < (z ++ mulS sp1 n).cps.toList.length := by
      have : (z ++ mulS sp1 n).cps.toList.length = (z ++ mulS sp1 n).length := rfl
      omega
    refine ar_ixS (z := z ++ mulS sp1 n) (c := (z ++ mulS sp1 n).cps.toList[j]) (by omega) (atI_of rfl (List.getElem?_eq_getElem hj)) ?_
    exact ⟨by rw [List.length_map]; omega, st3, r ++ [(z ++ mulS sp1 n).cps.toList[j]], set_set, hst3, by rw [List.map_append]; rfl, by rw [List.length_append, hl]; rfl, fun c hc => by
      rcases List.mem_append.mp hc with hc | hc
      · exact hrm c hc
      · rw [List.mem_singleton.mp hc]
        exact sign_mem (List.getElem_mem hj)⟩
  · rintro F' ms' acc e ⟨st2, r, rfl, hst2, rfl, hl, hrm⟩ F'' e''
    rw [range_len] at hl
    walk_at "al"
    refine am_join (ys := r.map sg) (.inl (.inl (by rw [List.map_map]; rfl))) ?_ ?_
    · have : ((r.map sg).map (·.length)).sum = r.length := by
        rw [List.map_map]
        exact sum_ones r
      have e0 : (Str.ofString "").length = 0 := rfl
      rw [this, List.length_map, e0]
      omega
    rw [join_sg]
    walk_at "al"
    have pick : ∀ {st3 : List D} {Q : QE} {F3 : Hp}, St st3 → (∀ st4 c, St st4 → Q F3 (ms.set k (l, .lst st4)) (.str (sg c))) → True := fun _ _ => trivial
    refine ac_lenS (z := z) (by omega) ?_
    walk_at "al"
    refine ⟨k, l, st2, _, rfl, set_get hkl, hst2, by omega, by omega, fun st3 j hst3 j0 j1 => ?_⟩
    obtain ⟨j, rfl⟩ : ∃ j' : Nat, j = j' := ⟨j.toNat, by omega⟩
    have hj : j < z.cps.toList.length := by
      have : z.cps.toList.length = z.length := rfl
      omega
    refine ar_ixS (z := z) (c := z.cps.toList[j]) (by omega) (atI_of rfl (List.getElem?_eq_getElem hj)) ?_
    walk_at "al"
    refine ac_lenS (z := z) (by omega) ?_
    walk_at "al"
    rw [set_set]
    refine ⟨k, l, st3, _, rfl, set_get hkl, hst3, by omega, by omega, fun st4 i hst4 i0 i1 => ?_⟩
    obtain ⟨i, rfl⟩ : ∃ i' : Nat, i = i' := ⟨i.toNat, by omega⟩
    have hi : i < z.cps.toList.length := by
      have : z.cps.toList.length = z.length := rfl
      omega
    refine ar_ixS (z := z) (c := z.cps.toList[i]) (by omega) (atI_of rfl (List.getElem?_eq_getElem hi)) ?_
    walk_at "al"
    rw [set_set]
    have lr : (⟨r.toArray⟩ : Str).length = r.length := List.size_toArray ..
    by_cases hm : 1 + m = 1
    · refine and_dT hm ?_
      walk_at "al"
      exact q st4 F'' _ (e.trans e'') hst4 (ok_one (hzL _ (List.getElem_mem hj)) (by omega))
    · refine and_dF hm ?_
      walk_at "al"
      refine ae_sl ?_
      walk_at "al"
      refine ao_some ?_
      walk_at "al"
      refine ao_some ?_
      refine ae_neg (g := fun i => -i) (fun _ => rfl) ?_
      walk_at "al"
      refine sl_S (by omega) ?_
      have hcut := cut_len (z := ⟨r.toArray⟩) (by omega)
      refine ar_ADDs (i := sg _) (by show 1 + _ ≤ 100000; omega) ?_
      walk_at "al"
      have h3 : ∀ a : Nat, (sg a ++ cutS ⟨r.toArray⟩ (some 1) (some (-1))).length = 1 + (cutS ⟨r.toArray⟩ (some 1) (some (-1))).length := fun a => str_len_add _ _
      refine ar_ADDs (j := sg _) (by rw [h3]; show _ + 1 ≤ 100000; omega) ?_
      exact q st4 F'' _ (e.trans e'') hst4 (ok_ends (hzL _ (List.getElem_mem hj)) (hzL _ (List.getElem_mem hi)) (fun c hc => (hrm c (cut_mem hc)).imp id fun h => hzL c h) (by omega))
theorem ok__law_texts (T : Txt K mg) (G__law_below : OK__law_below P w base T) (G__law_text : OK__law_text P w base T) : OK__law_texts P w base T := by
  refine fn_ok T.F__law_texts sc__law_texts (by rintro _ _ _ _ _ ⟨k, l, st, w, z, rfl, _⟩; rfl) (fun cdv A outer s H E hr => ?_)
  have hu64 := hr.units
  refine ⟨_, (pss_one (ps_ret (pe_callTy (kTUPLE (K := K) rfl) (by rfl) T.g_tuple boot_tuple (pa_cons (pe_lc rfl sc__law_texts.nd (pi_range1 (by rfl) T.g_range (pa_cons (pe_op (kADD (K := K) rfl) pe_int (pe_call G__law_below (hr.mono (by first | decide | omega)) (by rfl) T.m__law_below T.F__law_below.kp T.b__law_below .nil pass0 (pa_cons (pv 0) (pa_cons (pv 1) pa_nil)))) pa_nil)) (own := [("_law_k", 4)]) (@BlkOk.mk N__law_texts (defScope s__law_texts) _ _ rfl (by decide +kernel) (by decide +kernel) (by decide +kernel) (by decide +kernel)) (fun _ _ _ _ _ => (pg_name (i := 4) sc__law_texts.nd rfl (by first | exact Or.inl rfl | exact Or.inr rfl))) (fun _ _ _ _ _ => pts_nil) (fun _ _ _ _ _ => (pe_call G__law_text (hr.mono (by first | decide | omega)) (by rfl) T.m__law_text T.F__law_text.kp T.b__law_text .nil pass0 (pa_cons (pv 0) (pa_cons (pv 2) (pa_cons (pv 3) pa_nil)))))) pa_nil)))), ?_⟩
  rintro _ F ms Q Ea ⟨k, l, st, w, z, rfl, hk, hst, w0, w1, hz0, hz1, hzL, q⟩
  have hkl : k < ms.length := (List.getElem?_eq_some_iff.mp hk).1
  walk_at "al"
  refine ae_lc (gw_name (by simp)) gm_name ?_
  refine ai_rng1 ?_
  walk_at "al"
  refine ⟨k, l, st, 12, rfl, hk, hst, by decide, by decide, fun st1 n hst1 n0 n1 => ?_⟩
  walk_at "al"
  refine ⟨1 + n, rfl, by omega, by omega, fun i F' ms' acc => ∃ (st2 : List D) (ts : List Str), ms' = ms.set k (l, .lst st2) ∧ St st2 ∧ acc = ts.map D.str ∧ ts.length = i ∧ ∀ t ∈ ts, textOk w t, ⟨st1, [], rfl, hst1, rfl, rfl, fun _ h => (List.not_mem_nil h).elim⟩, fun _ _ _ _ _ _ => trivial, ?_, ?_⟩
  · rintro i d F' ms' acc e hd ⟨st2, ts, rfl, hst2, rfl, hl, ht⟩ F'' e''
    obtain ⟨hi, rfl⟩ := range_at hd
    refine ag_name ?_
    walk_at "al"
    refine ⟨k, l, st2, w, z, rfl, set_get hkl, hst2, w0, w1, hz0, hz1, hzL, fun st3 F3 r e3 hst3 hr => ?_⟩
    rw [set_set]
    exact ⟨by rw [List.length_map]; omega, st3, ts ++ [r], rfl, hst3, by rw [List.map_append]; rfl, by rw [List.length_append, hl]; rfl, fun t h => by
      rcases List.mem_append.mp h with h | h
      · exact ht t h
      · rw [List.mem_singleton.mp h]; exact hr⟩
  · rintro F' ms' acc e ⟨st2, ts, rfl, hst2, rfl, hl, ht⟩ F'' e''
    rw [range_len] at hl
    walk_at "al"
    refine ac_tupleL (.inl rfl) fun F3 e3 => ?_
    exact q st2 F3 ts ((e.trans e'').trans e3) hst2 (by omega) (by omega) ht
theorem ok_equal (T : Txt K mg) : ∀ n, FnOk P w K mg base CX0 (n + 1) T.a__law_equal T.d__law_equal ["_law_actual", "_law_expected"] (toSp K (spEqual n))
  | 0 => by
    refine fn_ok T.F__law_equal sc__law_equal (by rintro _ _ _ _ _ ⟨a, d, rfl, _⟩; rfl) (fun cdv A outer s H E hr => ?_)
    have hu64 := hr.units
    refine ⟨_, (pss_cons (ps_if (pt_cmpR op_ISN (pv 1) pe_non (nomark _)) (pss_one (ps_ret (pe_cmpR op_ISN (pv 0) pe_non (nomark _)))) pss_nil)
      (pss_cons (ps_if (pt_val (pe_callB (kISI (K := K) rfl) (by rfl) T.g_isinstance boot_isinstance (pa_cons (pv 1) (pa_cons (pe_bltn (v := .ty "bool") (by rfl) T.g_bool boot_bool rfl) pa_nil)))) (pss_one (ps_ret (pe_and (pe_callB (kISI (K := K) rfl) (by rfl) T.g_isinstance boot_isinstance (pa_cons (pv 0) (pa_cons (pe_bltn (v := .ty "bool") (by rfl) T.g_bool boot_bool rfl) pa_nil))) (pe_one (pe_cmpR (kEQ (K := K) rfl hu64) (pv 0) (pv 1) (nomark _)))))) pss_nil)
      (pss_cons (ps_if (pt_val (pe_callB (kISI (K := K) rfl) (by rfl) T.g_isinstance boot_isinstance (pa_cons (pv 1) (pa_cons (pe_bltn (v := .ty "int") (by rfl) T.g_int boot_int rfl) pa_nil)))) (pss_one (ps_ret (pe_and (pe_callB (kISI (K := K) rfl) (by rfl) T.g_isinstance boot_isinstance (pa_cons (pv 0) (pa_cons (pe_bltn (v := .ty "int") (by rfl) T.g_int boot_int rfl) pa_nil))) (pe_and (pe_not (pe_callB (kISI (K := K) rfl) (by rfl) T.g_isinstance boot_isinstance (pa_cons (pv 0) (pa_cons (pe_bltn (v := .ty "bool") (by rfl) T.g_bool boot_bool rfl) pa_nil)))) (pe_one (pe_cmpR (kEQ (K := K) rfl hu64) (pv 0) (pv 1) (nomark _))))))) pss_nil)
      (pss_cons (ps_if (pt_val (pe_callB (kISI (K := K) rfl) (by rfl) T.g_isinstance boot_isinstance (pa_cons (pv 1) (pa_cons (pe_bltn (v := .ty "str") (by rfl) T.g_str boot_str rfl) pa_nil)))) (pss_one (ps_ret (pe_and (pe_callB (kISI (K := K) rfl) (by rfl) T.g_isinstance boot_isinstance (pa_cons (pv 0) (pa_cons (pe_bltn (v := .ty "str") (by rfl) T.g_str boot_str rfl) pa_nil))) (pe_one (pe_cmpR (kEQ (K := K) rfl hu64) (pv 0) (pv 1) (nomark _)))))) pss_nil)
      (pss_cons (ps_if (pt_cmpR (kNE (K := K) rfl hu64) (pe_callB (kISI (K := K) rfl) (by rfl) T.g_isinstance boot_isinstance (pa_cons (pv 1) (pa_cons (pe_bltn (v := .ty "tuple") (by rfl) T.g_tuple boot_tuple rfl) pa_nil))) (pe_callB (kISI (K := K) rfl) (by rfl) T.g_isinstance boot_isinstance (pa_cons (pv 0) (pa_cons (pe_bltn (v := .ty "tuple") (by rfl) T.g_tuple boot_tuple rfl) pa_nil))) (nomark _)) (pss_one (ps_ret pe_bl)) pss_nil)
      (pss_cons (ps_if (pt_cmpR (kNE (K := K) rfl hu64) (pe_callB (kISI (K := K) rfl) (by rfl) T.g_isinstance boot_isinstance (pa_cons (pv 1) (pa_cons (pe_bltn (v := .ty "list") (by rfl) T.g_list boot_list rfl) pa_nil))) (pe_callB (kISI (K := K) rfl) (by rfl) T.g_isinstance boot_isinstance (pa_cons (pv 0) (pa_cons (pe_bltn (v := .ty "list") (by rfl) T.g_list boot_list rfl) pa_nil))) (nomark _)) (pss_one (ps_ret pe_bl)) pss_nil)
      (pss_cons (ps_if (pt_cmpR (kNE (K := K) rfl hu64) (pe_callB (kLEN (K := K) rfl) (by rfl) T.g_len boot_len (pa_cons (pv 0) pa_nil)) (pe_callB (kLEN (K := K) rfl) (by rfl) T.g_len boot_len (pa_cons (pv 1) pa_nil)) (nomark _)) (pss_one (ps_ret pe_bl)) pss_nil)
      (pss_one ps_never)))))))), ?_⟩
    rintro _ F ms Q Ea ⟨a, d, rfl, ⟨had, hp⟩, q⟩
    have q0 := q F Ex.refl
    subst had
    rcases hp with rfl | ⟨b, rfl⟩ | ⟨i, rfl⟩ | ⟨z, rfl⟩
    · walk_at "al"
      exact q0
    · walk_at "al"
      simpa using q0
    · walk_at "al"
      simpa using q0
    · walk_at "al"
      simpa using q0
  | n + 1 => by
    have G__law_equal := ok_equal T n
    refine fn_ok T.F__law_equal sc__law_equal (by rintro _ _ _ _ _ ⟨a, d, rfl, _⟩; rfl) (fun cdv A outer s H E hr => ?_)
    have hu64 := hr.units
    refine ⟨_, (pss_cons (ps_if (pt_cmpR op_ISN (pv 1) pe_non (nomark _)) (pss_one (ps_ret (pe_cmpR op_ISN (pv 0) pe_non (nomark _)))) pss_nil)
      (pss_cons (ps_if (pt_val (pe_callB (kISI (K := K) rfl) (by rfl) T.g_isinstance boot_isinstance (pa_cons (pv 1) (pa_cons (pe_bltn (v := .ty "bool") (by rfl) T.g_bool boot_bool rfl) pa_nil)))) (pss_one (ps_ret (pe_and (pe_callB (kISI (K := K) rfl) (by rfl) T.g_isinstance boot_isinstance (pa_cons (pv 0) (pa_cons (pe_bltn (v := .ty "bool") (by rfl) T.g_bool boot_bool rfl) pa_nil))) (pe_one (pe_cmpR (kEQ (K := K) rfl hu64) (pv 0) (pv 1) (nomark _)))))) pss_nil)
      (pss_cons (ps_if (pt_val (pe_callB (kISI (K := K) rfl) (by rfl) T.g_isinstance boot_isinstance (pa_cons (pv 1) (pa_cons (pe_bltn (v := .ty "int") (by rfl) T.g_int boot_int rfl) pa_nil)))) (pss_one (ps_ret (pe_and (pe_callB (kISI (K := K) rfl) (by rfl) T.g_isinstance boot_isinstance (pa_cons (pv 0) (pa_cons (pe_bltn (v := .ty "int") (by rfl) T.g_int boot_int rfl) pa_nil))) (pe_and (pe_not (pe_callB (kISI (K := K) rfl) (by rfl) T.g_isinstance boot_isinstance (pa_cons (pv 0) (pa_cons (pe_bltn (v := .ty "bool") (by rfl) T.g_bool boot_bool rfl) pa_nil)))) (pe_one (pe_cmpR (kEQ (K := K) rfl hu64) (pv 0) (pv 1) (nomark _))))))) pss_nil)
      (pss_cons (ps_if (pt_val (pe_callB (kISI (K := K) rfl) (by rfl) T.g_isinstance boot_isinstance (pa_cons (pv 1) (pa_cons (pe_bltn (v := .ty "str") (by rfl) T.g_str boot_str rfl) pa_nil)))) (pss_one (ps_ret (pe_and (pe_callB (kISI (K := K) rfl) (by rfl) T.g_isinstance boot_isinstance (pa_cons (pv 0) (pa_cons (pe_bltn (v := .ty "str") (by rfl) T.g_str boot_str rfl) pa_nil))) (pe_one (pe_cmpR (kEQ (K := K) rfl hu64) (pv 0) (pv 1) (nomark _)))))) pss_nil)
      (pss_cons (ps_if (pt_cmpR (kNE (K := K) rfl hu64) (pe_callB (kISI (K := K) rfl) (by rfl) T.g_isinstance boot_isinstance (pa_cons (pv 1) (pa_cons (pe_bltn (v := .ty "tuple") (by rfl) T.g_tuple boot_tuple rfl) pa_nil))) (pe_callB (kISI (K := K) rfl) (by rfl) T.g_isinstance boot_isinstance (pa_cons (pv 0) (pa_cons (pe_bltn (v := .ty "tuple") (by rfl) T.g_tuple boot_tuple rfl) pa_nil))) (nomark _)) (pss_one (ps_ret pe_bl)) pss_nil)
      (pss_cons (ps_if (pt_cmpR (kNE (K := K) rfl hu64) (pe_callB (kISI (K := K) rfl) (by rfl) T.g_isinstance boot_isinstance (pa_cons (pv 1) (pa_cons (pe_bltn (v := .ty "list") (by rfl) T.g_list boot_list rfl) pa_nil))) (pe_callB (kISI (K := K) rfl) (by rfl) T.g_isinstance boot_isinstance (pa_cons (pv 0) (pa_cons (pe_bltn (v := .ty "list") (by rfl) T.g_list boot_list rfl) pa_nil))) (nomark _)) (pss_one (ps_ret pe_bl)) pss_nil)
      (pss_cons (ps_if (pt_cmpR (kNE (K := K) rfl hu64) (pe_callB (kLEN (K := K) rfl) (by rfl) T.g_len boot_len (pa_cons (pv 0) pa_nil)) (pe_callB (kLEN (K := K) rfl) (by rfl) T.g_len boot_len (pa_cons (pv 1) pa_nil)) (nomark _)) (pss_one (ps_ret pe_bl)) pss_nil)
      (pss_one (ps_ret (pe_callB (kALL (K := K) rfl rfl) (by rfl) T.g_all boot_all (pa_cons (pe_lc rfl sc__law_equal.nd (pi_range1 (by rfl) T.g_range (pa_cons (pe_callB (kLEN (K := K) rfl) (by rfl) T.g_len boot_len (pa_cons (pv 1) pa_nil)) pa_nil)) (own := [("_law_k", 2)]) (@BlkOk.mk N__law_equal (defScope s__law_equal) _ _ rfl (by decide +kernel) (by decide +kernel) (by decide +kernel) (by decide +kernel)) (fun _ _ _ _ _ => (pg_name (i := 2) sc__law_equal.nd rfl (by first | exact Or.inl rfl | exact Or.inr rfl))) (fun _ _ _ _ _ => pts_nil) (fun _ _ _ _ _ => (pe_call G__law_equal (hr.mono (by first | decide | omega)) (by rfl) T.m__law_equal T.F__law_equal.kp T.b__law_equal .nil pass0 (pa_cons (pe_ix (kIX (K := K) rfl) (pv 0) (pv 2) (fun _ _ => rfl)) (pa_cons (pe_ix (kIX (K := K) rfl) (pv 1) (pv 2) (fun _ _ => rfl)) pa_nil))))) pa_nil))))))))))), ?_⟩
    rintro _ F ms Q Ea ⟨a, d, rfl, ha, q⟩
    have q0 := q F Ex.refl
    have key : (a = d ∧ (d = .non ∨ (∃ b, d = .bl b) ∨ (∃ i, d = .int i) ∨ ∃ z, d = .str z)) ∨ (∃ (m : Nat) (l : Addr) (ds : List D), a = .ref l ∧ d = .lst ds ∧ ms[m]? = some (l, .lst ds) ∧ ds.length ≤ 10000 ∧ ∀ x ∈ ds, plainN n x) ∨
        (∃ as ds : List D, a = .lst as ∧ d = .lst ds ∧ as.length = ds.length ∧ ds.length ≤ 10000 ∧ ∀ (i : Nat) (x y : D), as[i]? = some x → ds[i]? = some y → ActN ms n x y) ∨ (∃ ds, a = .tup ds ∧ d = .tup ds ∧ ds.length ≤ 10000 ∧ ∀ x ∈ ds, plainN n x) := by
      rcases ha with ⟨rfl, hp⟩ | ⟨m, l, ds, rfl, rfl, hm, hp⟩ | h
      · rcases hp with hp | ⟨ds, rfl | rfl, h2, h3⟩
        · exact .inl ⟨rfl, hp⟩
        · refine .inr (.inr (.inl ⟨ds, ds, rfl, rfl, rfl, h2, fun i x y hx hy => ?_⟩))
          rw [hx] at hy
          cases hy
          exact plain_act ms n (h3 x (List.mem_of_getElem? hx))
        · exact .inr (.inr (.inr ⟨ds, rfl, rfl, h2, h3⟩))
      · rcases hp with hp | ⟨ds', h1, h2, h3⟩
        · rcases hp with h | ⟨_, h⟩ | ⟨_, h⟩ | ⟨_, h⟩ <;> cases h
        · rcases h1 with h1 | h1
          · cases h1
            exact .inr (.inl ⟨m, l, ds, rfl, rfl, hm, h2, h3⟩)
          · cases h1
      · exact .inr (.inr (.inl h))
    rcases key with ⟨rfl, hp⟩ | ⟨m, l, ds, rfl, rfl, hm, hlen, hx⟩ | ⟨as, ds, rfl, rfl, hla, hlen, hx⟩ | ⟨ds, rfl, rfl, hlen, hx⟩
    · rcases hp with rfl | ⟨b, rfl⟩ | ⟨i, rfl⟩ | ⟨z, rfl⟩
      · walk_at "al"
        exact q0
      · walk_at "al"
        simpa using q0
      · walk_at "al"
        simpa using q0
      · walk_at "al"
        simpa using q0
    · walk_at "al"
      refine isiO_tuple m hm ?_
      walk_at "al"
      refine and_ndT rfl ?_
      walk_at "al"
      refine isiO_list m hm ?_
      walk_at "al"
      refine and_ndT rfl ?_
      walk_at "al"
      refine ac_lenO m hm ?_
      walk_at "al"
      refine and_ndT rfl ?_
      walk_at "al"
      refine ae_lc (gw_name (by simp)) gm_name ?_
      refine ai_rng1 ?_
      walk_at "al"
      refine ⟨_, rfl, by omega, by omega, fun i F' ms' acc => ms' = ms ∧ acc = List.replicate i (.bl true), ⟨rfl, rfl⟩, fun _ _ _ _ _ _ => trivial, ?_, ?_⟩
      · rintro i d F' ms' acc e1 hd ⟨rfl, rfl⟩ F'' e2
        obtain ⟨hi, rfl⟩ := range_at hd
        have hi2 : i < ds.length := hi
        refine ag_name ?_
        walk_at "al"
        refine ar_ixO m hm (atI_of (j := i) (by omega) (List.getElem?_eq_getElem hi2)) ?_
        walk_at "al"
        refine ar_ixL (atI_of (j := i) (by omega) (List.getElem?_eq_getElem hi2)) ?_
        walk_at "al"
        refine ⟨ds[i], ds[i], rfl, plain_act _ n (hx _ (List.getElem_mem hi2)), fun F3 e3 => ?_⟩
        exact ⟨by rw [List.length_replicate]; omega, rfl, by rw [List.replicate_succ']⟩
      · rintro F' ms' acc e1 ⟨rfl, rfl⟩ F'' e2
        rw [range_len]
        walk_at "al"
        refine ac_all (bs := List.replicate ds.length true) (by rw [← rep_map]; rfl) ?_
        rw [all_rep]
        exact q _ (e1.trans e2)
    · walk_at "al"
      refine and_ndT rfl ?_
      walk_at "al"
      refine and_ndT rfl ?_
      walk_at "al"
      refine and_ndT (by rw [hla]) ?_
      walk_at "al"
      refine ae_lc (gw_name (by simp)) gm_name ?_
      refine ai_rng1 ?_
      walk_at "al"
      refine ⟨_, rfl, by omega, by omega, fun i F' ms' acc => ms' = ms ∧ acc = List.replicate i (.bl true), ⟨rfl, rfl⟩, fun _ _ _ _ _ _ => trivial, ?_, ?_⟩
      · rintro i d F' ms' acc e1 hd ⟨rfl, rfl⟩ F'' e2
        obtain ⟨hi, rfl⟩ := range_at hd
        have hi2 : i < ds.length := hi
        have hi3 : i < as.length := by omega
        refine ag_name ?_
        walk_at "al"
        refine ar_ixL (atI_of (j := i) (by omega) (List.getElem?_eq_getElem hi3)) ?_
        walk_at "al"
        refine ar_ixL (atI_of (j := i) (by omega) (List.getElem?_eq_getElem hi2)) ?_
        walk_at "al"
        refine ⟨as[i], ds[i], rfl, hx i _ _ (List.getElem?_eq_getElem hi3) (List.getElem?_eq_getElem hi2), fun F3 e3 => ?_⟩
        exact ⟨by rw [List.length_replicate]; omega, rfl, by rw [List.replicate_succ']⟩
      · rintro F' ms' acc e1 ⟨rfl, rfl⟩ F'' e2
        rw [range_len]
        walk_at "al"
        refine ac_all (bs := List.replicate ds.length true) (by rw [← rep_map]; rfl) ?_
        rw [all_rep]
        exact q _ (e1.trans e2)
    · walk_at "al"
      refine and_ndT rfl ?_
      walk_at "al"
      refine and_ndT rfl ?_
      walk_at "al"
      refine and_ndT rfl ?_
      walk_at "al"
      refine ae_lc (gw_name (by simp)) gm_name ?_
      refine ai_rng1 ?_
      walk_at "al"
      refine ⟨_, rfl, by omega, by omega, fun i F' ms' acc => ms' = ms ∧ acc = List.replicate i (.bl true), ⟨rfl, rfl⟩, fun _ _ _ _ _ _ => trivial, ?_, ?_⟩
      · rintro i d F' ms' acc e1 hd ⟨rfl, rfl⟩ F'' e2
        obtain ⟨hi, rfl⟩ := range_at hd
        have hi2 : i < ds.length := hi
        refine ag_name ?_
        walk_at "al"
        refine ar_ixT (atI_of (j := i) (by omega) (List.getElem?_eq_getElem hi2)) ?_
        walk_at "al"
        refine ar_ixT (atI_of (j := i) (by omega) (List.getElem?_eq_getElem hi2)) ?_
        walk_at "al"
        refine ⟨ds[i], ds[i], rfl, plain_act _ n (hx _ (List.getElem_mem hi2)), fun F3 e3 => ?_⟩
        exact ⟨by rw [List.length_replicate]; omega, rfl, by rw [List.replicate_succ']⟩
      · rintro F' ms' acc e1 ⟨rfl, rfl⟩ F'' e2
        rw [range_len]
        walk_at "al"
        refine ac_all (bs := List.replicate ds.length true) (by rw [← rep_map]; rfl) ?_
        rw [all_rep]
        exact q _ (e1.trans e2)
end

theorem num_1 : ∀ n ∈ List.range 100, 1 ≤ (numS (n : Int)).length ∧ (numS (n : Int)).length ≤ 2 := by decide +kernel
theorem num_2 : ∀ n ∈ List.range 100, PySem.intText? (numS (n : Int)) = some (n : Int) := by decide +kernel
theorem num_3 : ∀ n ∈ List.range 100, ((numS (n : Int)).cps.toList.all fun c => decide (c ∈ (Str.ofString "0123456789").cps.toList)) = true := by decide +kernel
theorem num_4 : ∀ n ∈ List.range 100, (numS (n : Int)).length ≤ 1 ∨ ((numS (n : Int)).cps.toList.head? ≠ some 48 ∧ (numS (n : Int)).cps.toList.head? ≠ none) := by decide +kernel
theorem num_5 : ∀ n ∈ List.range 100, 32 ∉ (numS (n : Int)).cps.toList ∧ 10 ∉ (numS (n : Int)).cps.toList := by decide +kernel
theorem nat_of {n : Int} (h0 : 0 ≤ n) (h1 : n < 100) : ∃ k ∈ List.range 100, n = (k : Nat) := ⟨n.toNat, List.mem_range.mpr (by omega), by omega⟩
theorem inL_10 {c : Nat} (h : c = 32 ∨ inL c) : c ≠ 10 := by
  rintro rfl
  rcases h with h | h
  · omega
  · have : decide (10 ∈ LET.cps.toList) = false := by decide +kernel
    exact of_decide_eq_false this h
theorem ints_at' {os : List Int} {n : Nat} {d : D} (h : (os.map D.int)[n]? = some d) : ∃ o, os[n]? = some o ∧ d = .int o := by
  rw [List.getElem?_map] at h
  cases e : os[n]? with
  | none => rw [e] at h; cases h
  | some p => rw [e] at h; exact ⟨p, rfl, (Option.some.inj h).symm⟩
theorem cutL_drop {α : Type} {xs : List α} {p : Nat} (h : p ≤ xs.length) : cutL xs (some (p : Int)) none = xs.drop p := by
  have e1 : HT.sIx xs.length xs.length none = xs.length := rfl
  have e2 : HT.sIx xs.length 0 (some (p : Int)) = p := by rw [HT.sIx_nat]; omega
  unfold cutL
  rw [e1, e2, List.take_of_length_le (by rw [List.length_drop]; omega)]
theorem words_split {w : Int} {ps : List Pr} (w1 : 1 ≤ w) (w2 : w ≤ 24) (hp : ∀ c ∈ flat ps, inL c) : Txt.split (headS w ps) (Str.ofString " ") = Str.ofString "sign" :: numS w :: ps.map pS := by
  refine TL.split_join (y := Str.ofString " ") (s := 32) (S := []) rfl (by decide +kernel) (by simp) ?_
  intro p hp2
  simp only [List.mem_cons, List.mem_map] at hp2
  rcases hp2 with rfl | rfl | ⟨q, hq, rfl⟩
  · decide
  · obtain ⟨k, hk, rfl⟩ := nat_of (by omega : 0 ≤ w) (by omega)
    exact (num_5 k hk).1
  · intro z
    have z2 : 32 ∈ [q.1, q.2] := z
    have : inL 32 := hp 32 (List.mem_flatMap.mpr ⟨q, hq, z2⟩)
    exact inL_ne this rfl
theorem line_at {ts : List Str} {os : List Int} {i : Nat} {t : Str} {o : Int} (h1 : ts[i]? = some t) (h2 : os[i]? = some o) : ((ts.zip os).map fun p => lineS p.1 p.2)[i]? = some (lineS t o) := by
  have e2 : (ts.zip os)[i]? = some (t, o) := List.getElem?_zip_eq_some.mpr ⟨h1, h2⟩
  rw [List.getElem?_map, e2]
  rfl
theorem line_list (t : Str) (o : Int) : (lineS t o).cps.toList = [115, 104, 111, 119] ++ 32 :: ((numS o).cps.toList ++ 32 :: t.cps.toList) := by
  unfold lineS
  rw [app_l, app_l, app_l, app_l]
  show ([115, 104, 111, 119] ++ [32] ++ (numS o).cps.toList ++ [32] ++ t.cps.toList) = _
  simp
theorem line_split {t : Str} {o : Int} (h0 : 0 ≤ o) (h1 : o < 100) : Txt.splitMax (lineS t o) (Str.ofString " ") 2 = [Str.ofString "show", numS o, t] := by
  obtain ⟨k, hk, rfl⟩ := nat_of h0 h1
  have e := splitMax2 (x := lineS t (k : Nat)) (P := [115, 104, 111, 119]) (Q := (numS (k : Nat)).cps.toList) (R := t.cps.toList) (c := 32) (by decide) (line_list _ _) (by decide) (num_5 k hk).1
  exact e
theorem join_no {y : Str} {c : Nat} (hy : c ∉ y.cps.toList) : ∀ {parts : List Str}, (∀ p ∈ parts, c ∉ p.cps.toList) → c ∉ (Str.join y parts).cps.toList
  | [], _ => by show c ∉ ([] : List Nat); simp
  | [p], h => h p (List.mem_singleton.mpr rfl)
  | p :: q :: r, h => by
    have e : Str.join y (p :: q :: r) = p ++ y ++ Str.join y (q :: r) := rfl
    rw [e, app_l, app_l]
    simp only [List.mem_append, not_or]
    exact ⟨⟨h p (List.mem_cons_self ..), hy⟩, join_no hy fun z hz => h z (List.mem_cons_of_mem _ hz)⟩
theorem join_gl (y : Str) (parts : List Str) : Txt.join y parts = Str.join y parts := StrLaws.glued_eq_join y parts
theorem head_no10 {w : Int} {ps : List Pr} (w1 : 1 ≤ w) (w2 : w ≤ 24) (hp : ∀ c ∈ flat ps, inL c) : 10 ∉ (headS w ps).cps.toList := by
  unfold headS
  rw [join_gl]
  refine join_no (by decide) ?_
  intro p hp2
  simp only [List.mem_cons, List.mem_map] at hp2
  rcases hp2 with rfl | rfl | ⟨q, hq, rfl⟩
  · decide
  · obtain ⟨k, hk, rfl⟩ := nat_of (by omega : 0 ≤ w) (by omega)
    exact (num_5 k hk).2
  · intro z
    have z2 : 10 ∈ [q.1, q.2] := z
    exact inL_10 (.inr (hp 10 (List.mem_flatMap.mpr ⟨q, hq, z2⟩))) rfl
theorem zip_mem {ts : List Str} {os : List Int} {w : Int} (h : okOff w ts os) {p : Str × Int} (hp : p ∈ ts.zip os) : p.1 ∈ ts ∧ 0 ≤ p.2 ∧ p.2 + (p.1.length : Int) ≤ w := by
  obtain ⟨i, hi⟩ := List.mem_iff_getElem?.mp hp
  obtain ⟨h1, h2⟩ := List.getElem?_zip_eq_some.mp hi
  exact ⟨List.mem_of_getElem? h1, h.2 i _ _ h1 h2⟩
theorem lines_split {w : Int} {ps : List Pr} {ts : List Str} {os : List Int} (hS : okSeason w ps ts) (hO : okOff w ts os) : Txt.split (seasonS w ps ts os) (Str.ofString "\n") = linesS w ps ts os := by
  obtain ⟨w1, w2, p1, p2, p3, t1, t2, ht⟩ := hS
  refine TL.split_join (y := Str.ofString "\n") (s := 10) (S := []) rfl (by decide +kernel) (by unfold linesS; simp) ?_
  intro p hp
  unfold linesS at hp
  rcases List.mem_cons.mp hp with rfl | hp
  · exact head_no10 w1 w2 p2
  · obtain ⟨q, hq, rfl⟩ := List.mem_map.mp hp
    obtain ⟨g1, g2, g3⟩ := zip_mem hO hq
    show 10 ∉ (lineS q.1 q.2).cps.toList
    rw [line_list]
    obtain ⟨k, hk, ek⟩ := nat_of g2 (by have := (ht _ g1).1; omega : q.2 < 100)
    rw [ek]
    simp only [List.mem_append, List.mem_cons, not_or]
    refine ⟨by decide, by decide, (num_5 k hk).2, by decide, fun z => inL_10 ((ht _ g1).2.2.1 10 z) rfl⟩
theorem num_len {n : Int} (h0 : 0 ≤ n) (h1 : n < 100) : (numS n).length ≤ 2 := by
  obtain ⟨k, hk, rfl⟩ := nat_of h0 h1
  exact (num_1 k hk).2
theorem line_len {t : Str} {o w : Int} (h0 : 0 ≤ o) (h1 : o + (t.length : Int) ≤ w) (h2 : w ≤ 24) (h3 : 1 ≤ (t.length : Int)) : (lineS t o).length ≤ 40 := by
  have := num_len h0 (by omega : o < 100)
  unfold lineS
  rw [str_len_add, str_len_add, str_len_add, str_len_add]
  have a : (Str.ofString "show").length = 4 := rfl
  have b : (Str.ofString " ").length = 1 := rfl
  omega
theorem join_len (y : Str) : ∀ parts : List Str, (Str.join y parts).length ≤ (parts.map (·.length)).sum + parts.length * y.length
  | [] => by show 0 ≤ _; omega
  | [p] => by show p.length ≤ p.length + 0 + 1 * y.length; omega
  | p :: q :: r => by
    have e : Str.join y (p :: q :: r) = p ++ y ++ Str.join y (q :: r) := rfl
    have ih := join_len y (q :: r)
    rw [e, str_len_add, str_len_add, List.map_cons, List.sum_cons, List.length_cons, Nat.succ_mul]
    omega
theorem sum_le {xs : List Str} {n : Nat} (h : ∀ x ∈ xs, x.length ≤ n) : (xs.map (·.length)).sum ≤ xs.length * n := by
  induction xs with
  | nil => simp
  | cons x xs ih =>
    have h1 := h x (List.mem_cons_self ..)
    have h2 := ih fun y hy => h y (List.mem_cons_of_mem _ hy)
    rw [List.map_cons, List.sum_cons, List.length_cons, Nat.succ_mul]
    omega
theorem head_sum {w : Int} {ps : List Pr} (w1 : 1 ≤ w) (w2 : w ≤ 24) (p1 : ps.length ≤ 10) : ((Str.ofString "sign" :: numS w :: ps.map pS).map (·.length)).sum ≤ 48 := by
  refine Nat.le_trans (sum_le (n := 4) ?_) (by simp; omega)
  intro x hx
  simp only [List.mem_cons, List.mem_map] at hx
  rcases hx with rfl | rfl | ⟨q, hq, rfl⟩
  · decide
  · have := num_len (by omega : 0 ≤ w) (by omega); omega
  · show 2 ≤ 4; decide
theorem head_len {w : Int} {ps : List Pr} (w1 : 1 ≤ w) (w2 : w ≤ 24) (p1 : ps.length ≤ 10) : (headS w ps).length ≤ 60 := by
  have := join_len (Str.ofString " ") (Str.ofString "sign" :: numS w :: ps.map pS)
  have h := head_sum w1 w2 p1
  unfold headS
  rw [join_gl]
  have b : (Str.ofString " ").length = 1 := rfl
  rw [b] at this
  simp only [List.length_cons, List.length_map] at this
  omega
theorem lines_sum {w : Int} {ps : List Pr} {ts : List Str} {os : List Int} (hS : okSeason w ps ts) (hO : okOff w ts os) : ((linesS w ps ts os).map (·.length)).sum ≤ 1000 ∧ (linesS w ps ts os).length = ts.length + 1 := by
  obtain ⟨w1, w2, p1, p2, p3, t1, t2, ht⟩ := hS
  have hl : (linesS w ps ts os).length = ts.length + 1 := by
    unfold linesS
    rw [List.length_cons, List.length_map, List.length_zip, hO.1, Nat.min_self]
  refine ⟨Nat.le_trans (sum_le (n := 60) ?_) (by rw [hl]; omega), hl⟩
  intro p hp
  unfold linesS at hp
  rcases List.mem_cons.mp hp with rfl | hp
  · exact head_len w1 w2 p1
  · obtain ⟨q, hq, rfl⟩ := List.mem_map.mp hp
    obtain ⟨g1, g2, g3⟩ := zip_mem hO hq
    have := line_len g2 g3 w2 (ht _ g1).1
    omega
theorem season_len {w : Int} {ps : List Pr} {ts : List Str} {os : List Int} (hS : okSeason w ps ts) (hO : okOff w ts os) : (seasonS w ps ts os).length ≤ 2000 := by
  obtain ⟨h1, h2⟩ := lines_sum hS hO
  have := join_len (Str.ofString "\n") (linesS w ps ts os)
  unfold seasonS
  rw [join_gl]
  have b : (Str.ofString "\n").length = 1 := rfl
  rw [b, h2] at this
  have := hS.2.2.2.2.2.2.1
  omega
section
variable {P : Program} {w : World} {K : Frg} {mg : Str → Option Value} {base : Heap}
theorem ok_check_offsets (T : Txt K mg) (G_is_int_in : OK_is_int_in P w base T) : OK_check_offsets P w base T := by
  refine fn_ok T.F_check_offsets sc_check_offsets (by rintro _ _ _ _ _ ⟨x, w, ps, ts, os, rfl, _⟩; rfl) (fun cdv A outer s H E hr => ?_)
  have hu64 := hr.units
  refine ⟨_, (pss_cons (ps_if (pt_not (pt_val (pe_callB (kISI (K := K) rfl) (by rfl) T.g_isinstance boot_isinstance (pa_cons (pv 2) (pa_cons (pe_bltn (v := .ty "tuple") (by rfl) T.g_tuple boot_tuple rfl) pa_nil))))) (pss_one ps_never) pss_nil)
      (pss_cons (ps_for PassesOwn.never rfl (pi_enumA (by rfl) T.g_enumerate (pa_cons (pv 2) pa_nil)) (pg_tup rfl (pgs_cons (pg_name (i := 3) sc_check_offsets.nd rfl (by first | exact Or.inl rfl | exact Or.inr rfl)) (pgs_cons (pg_name (i := 4) sc_check_offsets.nd rfl (by first | exact Or.inl rfl | exact Or.inr rfl)) pgs_nil))) (pss_one (ps_if ((pw_or (pt_cmpR (kEQ (K := K) rfl hu64) (pv 3) (pe_callB (kLEN (K := K) rfl) (by rfl) T.g_len boot_len (pa_cons (pv 1) pa_nil)) (nomark _)) (pw_or1 (pt_not (pt_val (pe_call G_is_int_in (hr.mono (by first | decide | omega)) (by rfl) T.m_is_int_in T.F_is_int_in.kp T.b_is_int_in .nil pass0 (pa_cons (pv 4) (pa_cons pe_int (pa_cons (pe_op op_sub (pe_fldk (K := K) rfl (pv 0) (by rfl)) (pe_callB (kLEN (K := K) rfl) (by rfl) T.g_len boot_len (pa_cons (pe_ix (kIX (K := K) rfl) (pv 1) (pv 3) (fun _ _ => rfl)) pa_nil))) pa_nil))))))))).pt (pss_one ps_never) pss_nil)))
      (pss_one (ps_if (pt_cmpR op_lt (pe_callB (kLEN (K := K) rfl) (by rfl) T.g_len boot_len (pa_cons (pv 2) pa_nil)) (pe_callB (kLEN (K := K) rfl) (by rfl) T.g_len boot_len (pa_cons (pv 1) pa_nil)) (nomark _)) (pss_one ps_never) pss_nil)))), ?_⟩
  rintro _ F ms Q Ea ⟨x, w, ps, ts, os, rfl, hS, hw, t2, ht, hO, q⟩
  obtain ⟨i, j, m, hi, hj⟩ := id hS
  have hl := hO.1
  walk_at "al"
  refine as_for ?_
  refine ai_enum ?_
  walk_at "al"
  refine .inr (.inl ⟨_, rfl, fun i F' ms' S' => ms' = ms ∧ ∃ a b, S' = [some (.ref x), some (.tup (ts.map D.str)), some (.tup (os.map D.int)), a, b], ⟨rfl, none, none, rfl⟩, fun _ _ _ _ _ _ => trivial, ?_, ?_⟩)
  · rintro n d F' ms' S' e hd ⟨rfl, a, b, rfl⟩ F'' e''
    obtain ⟨_, h1, rfl⟩ := enum_at hd
    obtain ⟨o, ho, rfl⟩ : ∃ o, os[n]? = some o ∧ _ = D.int o := by
      rw [List.getElem?_map] at h1
      cases e : os[n]? with
      | none => rw [e] at h1; cases h1
      | some p => rw [e] at h1; exact ⟨p, rfl, (Option.some.inj h1).symm⟩
    have hn : n < ts.length := by
      have := (List.getElem?_eq_some_iff.mp ho).1
      omega
    have ht1 : ts[n]? = some ts[n] := List.getElem?_eq_getElem hn
    obtain ⟨o1, o2⟩ := hO.2 n _ _ ht1 ho
    obtain ⟨g1, g2, _⟩ := ht _ (List.getElem_mem hn)
    refine ag_tup rfl ?_
    refine ags_cons (ag_name ?_)
    refine ags_cons (ag_name ?_)
    refine ags_nil ?_
    walk_at "al"
    rw [List.length_map]
    refine and_dF' (by omega) ?_
    walk_at "al"
    refine ae_fld ?_
    walk_at "al"
    refine ⟨x, T.c_Sign, fldS m w ps, .int w, rfl, .inr ⟨i, hi⟩, T.k_Sign, T.n_Sign_width, rfl, ?_⟩
    walk_at "al"
    refine ar_ixT (d := .str ts[n]) (atI_of (j := n) rfl (by rw [List.getElem?_map, ht1]; rfl)) ?_
    walk_at "al"
    refine ac_lenS (z := ts[n]) (by omega) ?_
    walk_at "al"
    refine ⟨o, 0, _, rfl, ?_⟩
    rw [decide_eq_true o1, decide_eq_true (by omega : o ≤ w - (ts[n].length : Int))]
    walk_at "al"
    refine and_nT ?_
    walk_at "al"
    exact ⟨rfl, _, _, rfl⟩
  · rintro F' ms' S' e ⟨rfl, a, b, rfl⟩
    walk_at "al"
    rw [List.length_map, List.length_map]
    refine and_dF (by omega) ?_
    walk_at "al"
    exact q _ e
theorem ok_read_number (T : Txt K mg) : OK_read_number P w base T := by
  refine fn_ok T.F_read_number sc_read_number (by rintro _ _ _ _ _ ⟨n, rfl, _⟩; rfl) (fun cdv A outer s H E hr => ?_)
  have hu64 := hr.units
  refine ⟨_, (pss_cons (ps_if ((pw_or (pt_not (pt_chain op_le op_le pe_int (pe_callB (kLEN (K := K) rfl) (by rfl) T.g_len boot_len (pa_cons (pv 0) pa_nil)) (pe_glob (by rfl) T.m_MAX_DIGITS T.r_MAX_DIGITS))) (pw_or1 (pt_val (pe_callB (kANY (K := K) rfl rfl) (by rfl) T.g_any boot_any (pa_cons (pe_lc rfl sc_read_number.nd (pi_str (pv 0)) (own := [("digit", 1)]) (@BlkOk.mk N_read_number (defScope s_read_number) _ _ rfl (by decide +kernel) (by decide +kernel) (by decide +kernel) (by decide +kernel)) (fun _ _ _ _ _ => (pg_name (i := 1) sc_read_number.nd rfl (by first | exact Or.inl rfl | exact Or.inr rfl))) (fun _ _ _ _ _ => pts_nil) (fun _ _ _ _ _ => (pe_cmpR (kNOTIN (K := K) rfl) (pv 1) (pe_glob (by rfl) T.m_DIGITS T.r_DIGITS) (by with_unfolding_all rfl)))) pa_nil)))))).pt (pss_one (ps_ret pe_non)) pss_nil)
      (pss_one (ps_ret (pe_ifExp ((pw_and (pt_cmpR op_gt (pe_callB (kLEN (K := K) rfl) (by rfl) T.g_len boot_len (pa_cons (pv 0) pa_nil)) pe_int (nomark _)) (pw_and1 (pt_cmpR (kEQ (K := K) rfl hu64) (pe_ix (kIX (K := K) rfl) (pv 0) pe_int (fun _ _ => rfl)) pe_str (nomark _))))).pt pe_non (pe_callTy call_INT (by rfl) T.g_int boot_int (pa_cons (pv 0) pa_nil)))))), ?_⟩
  rintro _ F ms Q Ea ⟨n, rfl, n0, n1, q⟩
  obtain ⟨k, hk, rfl⟩ := nat_of n0 n1
  obtain ⟨l1, l2⟩ := num_1 k hk
  have h2 := num_2 k hk
  have h3 := List.all_eq_true.mp (num_3 k hk)
  have h4 := num_4 k hk
  generalize numS (k : Nat) = z at *
  walk_at "al"
  refine ac_lenS (z := z) (by omega) ?_
  walk_at "al"
  refine and_dT (by omega) ?_
  walk_at "al"
  rw [decide_eq_true (by omega : (z.length : Int) ≤ 2)]
  walk_at "al"
  refine ae_lc (gw_name (by simp)) gm_name ?_
  refine ai_str ?_
  walk_at "al"
  refine ⟨fun i F' ms' acc => ms' = ms ∧ acc = List.replicate i (.bl false), ⟨rfl, rfl⟩, fun _ _ _ _ _ _ => trivial, ?_, ?_⟩
  · rintro n d F' ms' acc e1 hd ⟨rfl, rfl⟩ F'' e2
    obtain ⟨c, hc, rfl⟩ := chars_at hd
    have hn : n < z.cps.toList.length := (List.getElem?_eq_some_iff.mp hc).1
    have hn2 : z.cps.toList.length = z.length := rfl
    refine ag_name ?_
    walk_at "al"
    rw [h3 c (List.mem_of_getElem? hc)]
    exact ⟨by rw [List.length_replicate]; omega, rfl, by rw [List.replicate_succ']; rfl⟩
  · rintro F' ms' acc e1 ⟨rfl, rfl⟩ F'' e2
    rw [chars_len]
    walk_at "al"
    refine ac_any (bs := List.replicate z.length false) (by rw [List.map_replicate]) ?_
    have ea : (List.replicate z.length false).any id = false := by
      rw [List.any_eq_false]
      intro x hx
      rw [List.eq_of_mem_replicate hx]
      decide
    rw [ea]
    walk_at "al"
    refine ac_lenS (z := z) (by omega) ?_
    walk_at "al"
    by_cases hz : 1 < z.length
    · refine and_dT (by omega) ?_
      obtain ⟨h5, h6⟩ := h4.resolve_left (by omega)
      obtain ⟨a, ha⟩ := Option.ne_none_iff_exists'.mp h6
      walk_at "al"
      refine ar_ixS (z := z) (c := a) (by omega) (atI_of (j := 0) rfl (by rw [← List.head?_eq_getElem?]; exact ha)) ?_
      walk_at "al"
      refine and_dF (fun q => ?_) ?_
      · have e : [a] = [48] := congrArg (fun s : Str => s.cps.toList) q
        rw [ha] at h5
        exact h5 (by rw [show a = 48 by simpa using e])
      walk_at "al"
      refine ac_intS h2 (by omega) ?_
      exact q _ (e1.trans e2)
    · refine and_dF (by omega) ?_
      walk_at "al"
      refine ac_intS h2 (by omega) ?_
      exact q _ (e1.trans e2)
theorem ok_format_season (T : Txt K mg) (G_Sign_check_texts : OK_Sign_check_texts P w base T) (G_check_offsets : OK_check_offsets P w base T) : OK_format_season P w base T := by
  refine fn_ok T.F_format_season sc_format_season (by rintro _ _ _ _ _ ⟨x, w, ps, ts, os, rfl, _⟩; rfl) (fun cdv A outer s H E hr => ?_)
  have hu64 := hr.units
  refine ⟨_, (pss_cons (ps_expr (pe_meth (pv 0) T.k_Sign T.Me_Sign_check_texts G_Sign_check_texts (hr.mono (by first | decide | omega)) T.b_Sign_check_texts .nil pass0 (pa_cons (pv 1) pa_nil)))
      (pss_cons (ps_expr (pe_call G_check_offsets (hr.mono (by first | decide | omega)) (by rfl) T.m_check_offsets T.F_check_offsets.kp T.b_check_offsets .nil pass0 (pa_cons (pv 0) (pa_cons (pv 1) (pa_cons (pv 2) pa_nil)))))
      (pss_cons (ps_set (i := 3) sc_format_season.nd rfl (by first | exact Or.inl rfl | exact Or.inr rfl) (pe_lst (pa_cons (pe_bmk (K := K) rfl PySem.F.plainAttrs_str PySem.F.slot_str_join PySem.F.type_str_join (kJOIN (K := K) rfl) pe_str (pa_cons (pe_lst (pa_cons (pe_glob (by rfl) T.m_SIGN T.r_SIGN) (pa_cons (pe_callTy call_STRI (by rfl) T.g_str boot_str (pa_cons (pe_fldk (K := K) rfl (pv 0) (by rfl)) pa_nil)) (pa_stark (K := K) rfl (pe_fldk (K := K) rfl (pv 0) (by rfl)) pa_nil)))) pa_nil)) pa_nil)))
      (pss_cons (ps_expr (pe_bmk (K := K) rfl PySem.F.plainAttrs_list PySem.F.slot_list_extend PySem.F.type_list_extend mt_extend (pv 3) (pa_cons (pe_lc rfl sc_format_season.nd (pi_zipk (K := K) rfl (by rfl) T.g_zip (pa_cons (pv 1) (pa_cons (pv 2) pa_nil))) (own := [("text", 4), ("offset", 5)]) (@BlkOk.mk N_format_season (defScope s_format_season) _ _ rfl (by decide +kernel) (by decide +kernel) (by decide +kernel) (by decide +kernel)) (fun _ _ _ _ _ => (pg_tupk (K := K) (n := 2) rfl rfl (pgs_cons (pg_name (i := 4) sc_format_season.nd rfl (by first | exact Or.inl rfl | exact Or.inr rfl)) (pgs_cons (pg_name (i := 5) sc_format_season.nd rfl (by first | exact Or.inl rfl | exact Or.inr rfl)) pgs_nil)))) (fun _ _ _ _ _ => pts_nil) (fun _ _ _ _ _ => (pe_op (kADD (K := K) rfl) (pe_op (kADD (K := K) rfl) (pe_op (kADD (K := K) rfl) (pe_op (kADD (K := K) rfl) (pe_glob (by rfl) T.m_SHOW T.r_SHOW) pe_str) (pe_callTy call_STRI (by rfl) T.g_str boot_str (pa_cons (pv 5) pa_nil))) pe_str) (pv 4)))) pa_nil)))
      (pss_one (ps_ret (pe_bmk (K := K) rfl PySem.F.plainAttrs_str PySem.F.slot_str_join PySem.F.type_str_join (kJOIN (K := K) rfl) pe_str (pa_cons (pv 3) pa_nil)))))))), ?_⟩
  rintro _ F ms Q Ea ⟨x, w, ps, ts, os, rfl, hS, hOk, hO, q⟩
  obtain ⟨hs1, hs2⟩ := lines_sum hOk hO
  obtain ⟨w1, w2, p1, p2, p3, t1, t2, ht⟩ := id hOk
  obtain ⟨i, j, m, hi, hj⟩ := id hS
  walk_at "al"
  refine ae_meth ?_
  walk_at "al"
  refine ⟨x, fldS m w ps, rfl, .inr ⟨i, hi⟩, fld_no (by decide +kernel) (by decide +kernel) (by decide +kernel), ?_⟩
  walk_at "al"
  refine ⟨x, w, ps, ts, rfl, hS, w2, t1, t2, ht, fun F1 e1 => ?_⟩
  walk_at "al"
  refine ⟨x, w, ps, ts, os, rfl, hS, w2, t2, ht, hO, fun F2 e2 => ?_⟩
  walk_at "al"
  refine ae_lstO ?_
  walk_at "al"
  refine ae_bmS ?_
  walk_at "al"
  refine ae_lstF ?_
  walk_at "al"
  refine ae_fld ?_
  walk_at "al"
  refine ⟨x, T.c_Sign, fldS m w ps, .int w, rfl, .inr ⟨i, hi⟩, T.k_Sign, T.n_Sign_width, rfl, ?_⟩
  walk_at "al"
  refine ac_strI (by omega) ?_
  refine aa_star ?_
  refine ae_fld ?_
  walk_at "al"
  refine ⟨x, T.c_Sign, fldS m w ps, .tup (ps.map pD), rfl, .inr ⟨i, hi⟩, T.k_Sign, T.n_Sign_pairs, rfl, ?_⟩
  refine ⟨_, .inr rfl, ?_⟩
  walk_at "al"
  refine ⟨by simp; omega, fun F3 e3 => ?_⟩
  walk_at "al"
  refine am_join (ys := Str.ofString "sign" :: numS w :: ps.map pS) (.inl (.inl (by rw [List.append_nil, List.map_cons, List.map_cons, List.map_map]; rfl))) ?_ ?_
  · have h := head_sum w1 w2 p1
    have b : (Str.ofString " ").length = 1 := rfl
    rw [b, List.length_cons, List.length_cons, List.length_map]
    omega
  walk_at "al"
  refine ⟨by simp, fun l => ?_⟩
  walk_at "al"
  refine ae_bmL ?_
  walk_at "al"
  refine ⟨_, .inr ⟨0, l, rfl, rfl⟩, ?_⟩
  walk_at "al"
  refine ae_lc (gw_tup (gws_cons gm_name (gw_name (by simp)) (gws_cons gm_name (gw_name (by simp)) gws_nil))) (gm_tup (gms_cons gm_name (gms_cons gm_name gms_nil))) ?_
  refine ai_zipT ?_
  walk_at "al"
  refine ⟨_, _, rfl, by rw [List.length_map, List.length_map, hO.1], fun n F' ms' acc => ms' = (l, .lst [.str (headS w ps)]) :: ms ∧ acc = (((ts.zip os).map fun p => lineS p.1 p.2).take n).map D.str, ⟨rfl, rfl⟩, fun _ _ _ _ _ _ => trivial, ?_, ?_⟩
  · rintro n d F4 ms4 acc e4 hd ⟨rfl, rfl⟩ F5 e5
    obtain ⟨_, _, h1, h2, rfl⟩ := zipD_inv hd
    obtain ⟨t, ht1, rfl⟩ := strs_at h1
    obtain ⟨o, ho, rfl⟩ := ints_at' h2
    have hn : n < ts.length := (List.getElem?_eq_some_iff.mp ht1).1
    obtain ⟨o1, o2⟩ := hO.2 n _ _ ht1 ho
    obtain ⟨g1, g2, _⟩ := ht _ (List.mem_of_getElem? ht1)
    have ll := line_len o1 o2 w2 g1
    have nl := num_len o1 (by omega : o < 100)
    have a : (Str.ofString "show").length = 4 := rfl
    have b : (Str.ofString " ").length = 1 := rfl
    refine ag_tup rfl ?_
    refine ags_cons (ag_name ?_)
    refine ags_cons (ag_name ?_)
    refine ags_nil ?_
    walk_at "al"
    refine ar_ADDs (i := Str.ofString "show") (j := Str.ofString " ") (by rw [a, b]; decide) ?_
    walk_at "al"
    refine ac_strI (by omega) ?_
    refine ar_ADDs (i := Str.ofString "show" ++ Str.ofString " ") (j := numS o) (by rw [str_len_add, a, b]; omega) ?_
    walk_at "al"
    refine ar_ADDs (i := Str.ofString "show" ++ Str.ofString " " ++ numS o) (j := Str.ofString " ") (by rw [str_len_add, str_len_add, a, b]; omega) ?_
    walk_at "al"
    refine ar_ADDs (i := Str.ofString "show" ++ Str.ofString " " ++ numS o ++ Str.ofString " ") (j := t) (by rw [str_len_add, str_len_add, str_len_add, a, b]; omega) ?_
    refine ⟨by rw [List.length_map, List.length_take]; omega, rfl, ?_⟩
    rw [List.take_succ, line_at ht1 ho, List.map_append]
    rfl
  · rintro F4 ms4 acc e4 ⟨rfl, rfl⟩ F5 e5
    have hzl : ((ts.zip os).map fun p => lineS p.1 p.2).length = ts.length := by rw [List.length_map, List.length_zip, hO.1, Nat.min_self]
    rw [zipD_len (by rw [List.length_map, List.length_map, hO.1]), List.length_map, ← hzl, List.take_length]
    walk_at "al"
    refine am_extend 0 (l := l) rfl (by rw [List.length_map, hzl]; show 1 + _ ≤ 100000; omega) ?_
    refine as_frz (i := 3) (l := l) 0 rfl rfl fun F6 e6 => ?_
    walk_at "al"
    refine ae_bmS ?_
    walk_at "al"
    refine am_join (ys := linesS w ps ts os) (.inl (.inl rfl)) ?_ ?_
    · have b : (Str.ofString "\n").length = 1 := rfl
      rw [b, hs2]
      omega
    exact q F6 (((((e1.trans e2).trans e3).trans e4).trans e5).trans e6)
theorem ok_parse_season (T : Txt K mg) (G_Sign___init__ : OK_Sign___init__ P w base T) (G_Sign_check_texts : OK_Sign_check_texts P w base T) (G_check_offsets : OK_check_offsets P w base T) (G_read_number : OK_read_number P w base T) : OK_parse_season P w base T := by
  refine fn_ok T.F_parse_season sc_parse_season (by rintro _ _ _ _ _ ⟨w, ps, ts, os, rfl, _⟩; rfl) (fun cdv A outer s H E hr => ?_)
  have hu64 := hr.units
  refine ⟨_, (pss_cons (ps_set (i := 1) sc_parse_season.nd rfl (by first | exact Or.inl rfl | exact Or.inr rfl) (pe_bmk (K := K) rfl PySem.F.plainAttrs_str PySem.F.slot_str_split PySem.F.type_str_split mt_SPL (pv 0) (pa_cons pe_str pa_nil)))
      (pss_cons (ps_set (i := 2) sc_parse_season.nd rfl (by first | exact Or.inl rfl | exact Or.inr rfl) (pe_bmk (K := K) rfl PySem.F.plainAttrs_str PySem.F.slot_str_split PySem.F.type_str_split mt_SPL (pe_ix (kIX (K := K) rfl) (pv 1) pe_int (fun _ _ => rfl)) (pa_cons pe_str pa_nil)))
      (pss_cons (ps_set (i := 3) sc_parse_season.nd rfl (by first | exact Or.inl rfl | exact Or.inr rfl) (pe_ifExp ((pw_and (pt_cmpR op_gt (pe_callB (kLEN (K := K) rfl) (by rfl) T.g_len boot_len (pa_cons (pv 2) pa_nil)) pe_int (nomark _)) (pw_and1 (pt_cmpR (kEQ (K := K) rfl hu64) (pe_ix (kIX (K := K) rfl) (pv 2) pe_int (fun _ _ => rfl)) (pe_glob (by rfl) T.m_SIGN T.r_SIGN) (nomark _))))).pt (pe_call G_read_number (hr.mono (by first | decide | omega)) (by rfl) T.m_read_number T.F_read_number.kp T.b_read_number .nil pass0 (pa_cons (pe_ix (kIX (K := K) rfl) (pv 2) pe_int (fun _ _ => rfl)) pa_nil)) pe_non))
      (pss_cons (ps_if (pt_cmpR op_ISN (pv 3) pe_non (nomark _)) (pss_one ps_never) pss_nil)
      (pss_cons (ps_par (i := 4) (j := 5) rfl sc_parse_season.nd rfl rfl (by decide) rfl rfl (pa_cons (pe_lst pa_nil) (pa_cons (pe_lst pa_nil) pa_nil)) (by rfl))
      (pss_cons (ps_for PassesOwn.never rfl (pi_range2 (by rfl) T.g_range (pa_cons pe_int (pa_cons (pe_callB (kLEN (K := K) rfl) (by rfl) T.g_len boot_len (pa_cons (pv 1) pa_nil)) pa_nil))) (pg_name (i := 6) sc_parse_season.nd rfl (by first | exact Or.inl rfl | exact Or.inr rfl)) (pss_cons (ps_asg (pe_bmk (K := K) rfl PySem.F.plainAttrs_str PySem.F.slot_str_split PySem.F.type_str_split mt_SPM (pe_ix (kIX (K := K) rfl) (pv 1) (pv 6) (fun _ _ => rfl)) (pa_cons pe_str (pa_cons pe_int pa_nil))) (pg_starL (K := K) rfl rfl (pgs_cons (pg_name (i := 7) sc_parse_season.nd rfl (by first | exact Or.inl rfl | exact Or.inr rfl)) (pgs_cons (pg_name (i := 8) sc_parse_season.nd rfl (by first | exact Or.inl rfl | exact Or.inr rfl)) pgs_nil))))
      (pss_cons (ps_set (i := 9) sc_parse_season.nd rfl (by first | exact Or.inl rfl | exact Or.inr rfl) (pe_ifExp ((pw_and (pt_cmpR (kEQ (K := K) rfl hu64) (pv 7) (pe_glob (by rfl) T.m_SHOW T.r_SHOW) (nomark _)) (pw_and1 (pt_cmpR (kEQ (K := K) rfl hu64) (pe_callB (kLEN (K := K) rfl) (by rfl) T.g_len boot_len (pa_cons (pv 8) pa_nil)) pe_int (nomark _))))).pt (pe_call G_read_number (hr.mono (by first | decide | omega)) (by rfl) T.m_read_number T.F_read_number.kp T.b_read_number .nil pass0 (pa_cons (pe_ix (kIX (K := K) rfl) (pv 8) pe_int (fun _ _ => rfl)) pa_nil)) pe_non))
      (pss_cons (ps_if (pt_cmpR op_ISN (pv 9) pe_non (nomark _)) (pss_one ps_never) pss_nil)
      (pss_cons (ps_expr (pe_bmk (K := K) rfl PySem.F.plainAttrs_list PySem.F.slot_list_append PySem.F.type_list_append mt_append (pv 4) (pa_cons (pe_ix (kIX (K := K) rfl) (pv 8) pe_int (fun _ _ => rfl)) pa_nil)))
      (pss_one (ps_expr (pe_bmk (K := K) rfl PySem.F.plainAttrs_list PySem.F.slot_list_append PySem.F.type_list_append mt_append (pv 5) (pa_cons (pv 9) pa_nil)))))))))
      (pss_cons (ps_set (i := 10) sc_parse_season.nd rfl (by first | exact Or.inl rfl | exact Or.inr rfl) (pe_make T.M_Sign G_Sign___init__ (hr.mono (by first | decide | omega)) (by rfl) T.m_Sign T.b_Sign___init__ .nil pass0 (pa_cons (pv 3) (pa_cons (pe_callTy (kTUPLE (K := K) rfl) (by rfl) T.g_tuple boot_tuple (pa_cons (pe_slice (kSLC (K := K) rfl) (pv 2) (po_some pe_int) po_none) pa_nil)) pa_nil))))
      (pss_cons (ps_expr (pe_meth (pv 10) T.k_Sign T.Me_Sign_check_texts G_Sign_check_texts (hr.mono (by first | decide | omega)) T.b_Sign_check_texts .nil pass0 (pa_cons (pe_callTy (kTUPLE (K := K) rfl) (by rfl) T.g_tuple boot_tuple (pa_cons (pv 4) pa_nil)) pa_nil)))
      (pss_cons (ps_expr (pe_call G_check_offsets (hr.mono (by first | decide | omega)) (by rfl) T.m_check_offsets T.F_check_offsets.kp T.b_check_offsets .nil pass0 (pa_cons (pv 10) (pa_cons (pe_callTy (kTUPLE (K := K) rfl) (by rfl) T.g_tuple boot_tuple (pa_cons (pv 4) pa_nil)) (pa_cons (pe_callTy (kTUPLE (K := K) rfl) (by rfl) T.g_tuple boot_tuple (pa_cons (pv 5) pa_nil)) pa_nil)))))
      (pss_one (ps_ret (pe_tup (pa_cons (pv 10) (pa_cons (pe_callTy (kTUPLE (K := K) rfl) (by rfl) T.g_tuple boot_tuple (pa_cons (pv 4) pa_nil)) (pa_cons (pe_callTy (kTUPLE (K := K) rfl) (by rfl) T.g_tuple boot_tuple (pa_cons (pv 5) pa_nil)) pa_nil))))))))))))))), ?_⟩
  rintro _ F ms Q Ea ⟨w, ps, ts, os, rfl, hOk, hO, q⟩
  obtain ⟨hs1, hs2⟩ := lines_sum hOk hO
  have hsl := season_len hOk hO
  have hls := lines_split hOk hO
  obtain ⟨w1, w2, p1, p2, p3, t1, t2, ht⟩ := id hOk
  have hws := words_split w1 w2 p2
  have hhl := head_len w1 w2 p1
  have hzl : ((ts.zip os).map fun p => lineS p.1 p.2).length = ts.length := by rw [List.length_map, List.length_zip, hO.1, Nat.min_self]
  walk_at "al"
  refine ae_bmS ?_
  walk_at "al"
  refine am_split (a := seasonS w ps ts os) (b := Str.ofString "\n") rfl (by omega) fun F1 e1 => ?_
  rw [hls]
  walk_at "al"
  refine ae_bmS ?_
  walk_at "al"
  refine ar_ixL (d := .str (headS w ps)) (atI_of (j := 0) rfl rfl) ?_
  walk_at "al"
  refine am_split (a := headS w ps) (b := Str.ofString " ") rfl (by omega) fun F2 e2 => ?_
  rw [hws]
  walk_at "al"
  refine and_dT (by simp; omega) ?_
  walk_at "al"
  refine ar_ixL (d := .str (Str.ofString "sign")) (atI_of (j := 0) rfl rfl) ?_
  walk_at "al"
  refine and_dT rfl ?_
  walk_at "al"
  refine ar_ixL (d := .str (numS w)) (atI_of (j := 1) rfl rfl) ?_
  walk_at "al"
  refine ⟨w, rfl, by omega, by omega, fun F3 e3 => ?_⟩
  walk_at "al"
  refine ae_lstO ?_
  walk_at "al"
  refine ⟨by simp, fun l1 => ?_⟩
  walk_at "al"
  refine ae_lstO ?_
  walk_at "al"
  refine ⟨by simp, fun l2 => ?_⟩
  walk_at "al"
  refine as_for ?_
  refine ai_rng2 ?_
  walk_at "al"
  rw [List.length_map, hs2]
  refine ⟨1, _, rfl, by omega, fun n F' ms' S' => ms' = (l2, .lst ((os.take n).map D.int)) :: (l1, .lst ((ts.take n).map D.str)) :: ms ∧ ∃ a b c d, S' = [some (.str (seasonS w ps ts os)), some (.lst ((linesS w ps ts os).map D.str)), some (.lst ((Str.ofString "sign" :: numS w :: ps.map pS).map D.str)), some (.int w), some (.ref l1), some (.ref l2), a, b, c, d, none], ⟨rfl, none, none, none, none, rfl⟩, fun _ _ _ _ _ _ => trivial, ?_, ?_⟩
  · rintro n d F4 ms4 S4 e4 hd ⟨rfl, a, b, c, dd, rfl⟩ F5 e5
    obtain ⟨hn, rfl⟩ := range_at hd
    have hn1 : n < ts.length := by omega
    have hn2 : n < os.length := by rw [hO.1]; exact hn1
    have ht1 : ts[n]? = some ts[n] := List.getElem?_eq_getElem hn1
    have ho1 : os[n]? = some os[n] := List.getElem?_eq_getElem hn2
    obtain ⟨o1, o2⟩ := hO.2 n _ _ ht1 ho1
    obtain ⟨g1, g2, _⟩ := ht _ (List.getElem_mem hn1)
    have ll := line_len o1 o2 w2 g1
    have hla : (linesS w ps ts os)[n + 1]? = some (lineS ts[n] os[n]) := line_at ht1 ho1
    refine ag_name ?_
    walk_at "al"
    refine as_asgG ?_
    refine ae_bmS ?_
    walk_at "al"
    refine ar_ixL (d := .str (lineS ts[n] os[n])) (atI_of (j := n + 1) (by omega) (by rw [List.getElem?_map, hla]; rfl)) ?_
    walk_at "al"
    refine am_splitMax (a := lineS ts[n] os[n]) (b := Str.ofString " ") (n := 2) rfl (by decide) (by decide) (by omega) fun F6 e6 => ?_
    rw [line_split o1 (by omega)]
    refine ag_star (d := .str (Str.ofString "show")) (ds := [.str (numS os[n]), .str ts[n]]) (by simp) fun F7 e7 => ?_
    refine ags_cons (ag_name ?_)
    refine ags_cons (ag_name ?_)
    refine ags_nil ?_
    walk_at "al"
    refine and_dT rfl ?_
    walk_at "al"
    refine and_dT rfl ?_
    walk_at "al"
    refine ar_ixL (d := .str (numS os[n])) (atI_of (j := 0) rfl rfl) ?_
    walk_at "al"
    refine ⟨os[n], rfl, o1, by omega, fun F8 e8 => ?_⟩
    walk_at "al"
    refine ae_bmL ?_
    walk_at "al"
    refine ⟨_, .inr ⟨1, l1, rfl, rfl⟩, ?_⟩
    walk_at "al"
    refine ar_ixL (d := .str ts[n]) (atI_of (j := 1) rfl rfl) ?_
    walk_at "al"
    refine am_append 1 (l := l1) rfl (by rw [List.length_map, List.length_take]; omega) ?_
    walk_at "al"
    refine ae_bmL ?_
    walk_at "al"
    refine ⟨_, .inr ⟨0, l2, rfl, rfl⟩, ?_⟩
    walk_at "al"
    refine am_append 0 (l := l2) rfl (by rw [List.length_map, List.length_take]; omega) ?_
    refine ⟨?_, _, _, _, _, rfl⟩
    show (l2, MO.lst _) :: (l1, MO.lst _) :: ms = _
    rw [List.take_succ, List.take_succ, ht1, ho1, List.map_append, List.map_append]
    rfl
  · rintro F4 ms4 S4 e4 ⟨rfl, a, b, c, dd, rfl⟩
    rw [range_len, show ((ts.length + 1 : Nat) - 1 : Int).toNat = ts.length by omega, List.take_length]
    have eo : os.take ts.length = os := by rw [← hO.1, List.take_length]
    rw [eo]
    walk_at "al"
    refine ae_make (dds := []) (fun _ => .nil) ?_
    walk_at "al"
    refine ae_sl ?_
    walk_at "al"
    refine ao_some ?_
    walk_at "al"
    refine ao_none ?_
    refine sl_L (.inl (.inl rfl)) fun F5 e5 => ?_
    have ecut : cutL ((Str.ofString "sign" :: numS w :: ps.map pS).map D.str) (some 2) none = ps.map pD := by
      refine (cutL_drop (xs := (Str.ofString "sign" :: numS w :: ps.map pS).map D.str) (p := 2) (by simp)).trans ?_
      show (ps.map pS).map D.str = _
      rw [List.map_map]
      rfl
    rw [ecut]
    walk_at "al"
    refine ac_tupleL (.inl rfl) fun F6 e6 => ?_
    walk_at "al"
    intro x F7 e7
    refine ⟨x, w, ps, _, rfl, w1, w2, p1, p2, p3, rfl, fun m F8 e8 => ⟨rfl, ?_⟩⟩
    have hS : Sgn T.c_Sign ((m, MO.dic (kvsOf ps)) :: (x, MO.ins T.c_Sign (fldS m w ps)) :: (l2, MO.lst (os.map D.int)) :: (l1, MO.lst (ts.map D.str)) :: ms) x w ps := ⟨1, 0, m, rfl, rfl⟩
    walk_at "al"
    refine ae_meth ?_
    walk_at "al"
    refine ⟨x, fldS m w ps, rfl, .inr ⟨1, rfl⟩, fld_no (by decide +kernel) (by decide +kernel) (by decide +kernel), ?_⟩
    walk_at "al"
    refine ac_tupleO 3 (l := l1) rfl fun F9 e9 => ?_
    walk_at "al"
    refine ⟨x, w, ps, ts, rfl, hS, w2, t1, t2, ht, fun F10 e10 => ?_⟩
    walk_at "al"
    refine ac_tupleO 3 (l := l1) rfl fun F11 e11 => ?_
    walk_at "al"
    refine ac_tupleO 2 (l := l2) rfl fun F12 e12 => ?_
    walk_at "al"
    refine ⟨x, w, ps, ts, os, rfl, hS, w2, t2, ht, hO, fun F13 e13 => ?_⟩
    walk_at "al"
    refine ae_tup ?_
    walk_at "al"
    refine ac_tupleO 3 (l := l1) rfl fun F14 e14 => ?_
    walk_at "al"
    refine ac_tupleO 2 (l := l2) rfl fun F15 e15 => ?_
    walk_at "al"
    refine ⟨by simp, fun F16 e16 => ?_⟩
    exact q F16 x m _ ((((((((((((((e1.trans e2).trans e3).trans e4).trans e5).trans e6).trans e7).trans e8).trans e9).trans e10).trans e11).trans e12).trans e13).trans e14).trans (e15.trans e16)) fun k p h => ⟨k + 2, h⟩
end

def ZT : List D := [.str "ABMW", .str "ABCDEFGHIJ6789"]
theorem zs_at {r : Int} (h0 : 0 ≤ r) (h1 : r < 2) : ∃ z, atI ZT r = some (.str z) ∧ okZ z := by
  obtain rfl | rfl : r = 0 ∨ r = 1 := by omega
  · exact ⟨"ABMW", rfl, by decide +kernel, by unfold inL; decide +kernel, by decide +kernel, by decide +kernel⟩
  · exact ⟨"ABCDEFGHIJ6789", rfl, by decide +kernel, by unfold inL; decide +kernel, by decide +kernel, by decide +kernel⟩
theorem show_eq : Str.ofString "show " = Str.ofString "show" ++ Str.ofString " " := by decide +kernel
section
variable {P : Program} {w : World} {K : Frg} {mg : Str → Option Value} {base : Heap}
theorem ok_law (T : Txt K mg) (G_Sign___init__ : OK_Sign___init__ P w base T) (G_format_season : OK_format_season P w base T) (G_parse_season : OK_parse_season P w base T) (G__law_random : OK__law_random P w base T) (G__law_below : OK__law_below P w base T)
    (G__law_pairs : OK__law_pairs P w base T) (G__law_texts : OK__law_texts P w base T) (G__law_equal : OK__law_equal P w base T) : OK_law P w base T := by
  refine fn_ok T.F_law sc_law (by rintro _ _ _ _ _ ⟨ns, rfl, _⟩; rfl) (fun cdv A outer s H E hr => ?_)
  have hu64 := hr.units
  refine ⟨_, (pss_cons (ps_set (i := 1) sc_law.nd rfl (by first | exact Or.inl rfl | exact Or.inr rfl) (pe_call G__law_random (hr.mono (by first | decide | omega)) (by rfl) T.m__law_random T.F__law_random.kp T.b__law_random .nil pass0 (pa_cons (pv 0) (pa_cons pe_int pa_nil))))
      (pss_cons (ps_for PassesOwn.never rfl (pi_range1 (by rfl) T.g_range (pa_cons pe_int pa_nil)) (pg_name (i := 2) sc_law.nd rfl (by first | exact Or.inl rfl | exact Or.inr rfl)) (pss_cons (ps_asg (pe_tup (pa_cons (pe_op (kADD (K := K) rfl) pe_int (pe_call G__law_below (hr.mono (by first | decide | omega)) (by rfl) T.m__law_below T.F__law_below.kp T.b__law_below .nil pass0 (pa_cons (pv 1) (pa_cons pe_int pa_nil)))) (pa_cons (pe_ix (kIX (K := K) rfl) (pe_lst (pa_cons pe_str (pa_cons pe_str pa_nil))) (pe_call G__law_below (hr.mono (by first | decide | omega)) (by rfl) T.m__law_below T.F__law_below.kp T.b__law_below .nil pass0 (pa_cons (pv 1) (pa_cons pe_int pa_nil))) (fun _ _ => rfl)) pa_nil))) (pg_tup rfl (pgs_cons (pg_name (i := 3) sc_law.nd rfl (by first | exact Or.inl rfl | exact Or.inr rfl)) (pgs_cons (pg_name (i := 4) sc_law.nd rfl (by first | exact Or.inl rfl | exact Or.inr rfl)) pgs_nil))))
      (pss_cons (ps_set (i := 5) sc_law.nd rfl (by first | exact Or.inl rfl | exact Or.inr rfl) (pe_call G__law_pairs (hr.mono (by first | decide | omega)) (by rfl) T.m__law_pairs T.F__law_pairs.kp T.b__law_pairs .nil pass0 (pa_cons (pv 1) (pa_cons (pv 4) pa_nil))))
      (pss_cons (ps_set (i := 6) sc_law.nd rfl (by first | exact Or.inl rfl | exact Or.inr rfl) (pe_call G__law_texts (hr.mono (by first | decide | omega)) (by rfl) T.m__law_texts T.F__law_texts.kp T.b__law_texts .nil pass0 (pa_cons (pv 1) (pa_cons pe_int (pa_cons (pv 3) (pa_cons (pv 4) pa_nil))))))
      (pss_cons (ps_set (i := 7) sc_law.nd rfl (by first | exact Or.inl rfl | exact Or.inr rfl) (pe_callTy (kTUPLE (K := K) rfl) (by rfl) T.g_tuple boot_tuple (pa_cons (pe_lc rfl sc_law.nd (pi_tupk (K := K) rfl (pv 6)) (own := [("_law_text_here", 8)]) (@BlkOk.mk N_law (defScope s_law) _ _ rfl (by decide +kernel) (by decide +kernel) (by decide +kernel) (by decide +kernel)) (fun _ _ _ _ _ => (pg_name (i := 8) sc_law.nd rfl (by first | exact Or.inl rfl | exact Or.inr rfl))) (fun _ _ _ _ _ => pts_nil) (fun _ _ _ _ _ => (pe_call G__law_below (hr.mono (by first | decide | omega)) (by rfl) T.m__law_below T.F__law_below.kp T.b__law_below .nil pass0 (pa_cons (pv 1) (pa_cons (pe_op (kADD (K := K) rfl) (pe_op op_sub (pv 3) (pe_callB (kLEN (K := K) rfl) (by rfl) T.g_len boot_len (pa_cons (pv 8) pa_nil))) pe_int) pa_nil))))) pa_nil)))
      (pss_cons (ps_set (i := 9) sc_law.nd rfl (by first | exact Or.inl rfl | exact Or.inr rfl) (pe_lst (pa_cons (pe_bmk (K := K) rfl PySem.F.plainAttrs_str PySem.F.slot_str_join PySem.F.type_str_join (kJOIN (K := K) rfl) pe_str (pa_cons (pe_op (kADD (K := K) rfl) (pe_lst (pa_cons pe_str (pa_cons (pe_callTy call_STRI (by rfl) T.g_str boot_str (pa_cons (pv 3) pa_nil)) pa_nil))) (pe_callTy (kLIST (K := K) rfl rfl) (by rfl) T.g_list boot_list (pa_cons (pv 5) pa_nil))) pa_nil)) pa_nil)))
      (pss_cons (ps_set (i := 9) sc_law.nd rfl (by first | exact Or.inl rfl | exact Or.inr rfl) (pe_op (kADD (K := K) rfl) (pv 9) (pe_lc rfl sc_law.nd (pi_range1 (by rfl) T.g_range (pa_cons (pe_callB (kLEN (K := K) rfl) (by rfl) T.g_len boot_len (pa_cons (pv 6) pa_nil)) pa_nil)) (own := [("_law_k", 10)]) (@BlkOk.mk N_law (defScope s_law) _ _ rfl (by decide +kernel) (by decide +kernel) (by decide +kernel) (by decide +kernel)) (fun _ _ _ _ _ => (pg_name (i := 10) sc_law.nd rfl (by first | exact Or.inl rfl | exact Or.inr rfl))) (fun _ _ _ _ _ => pts_nil) (fun _ _ _ _ _ => (pe_op (kADD (K := K) rfl) (pe_op (kADD (K := K) rfl) (pe_op (kADD (K := K) rfl) pe_str (pe_callTy call_STRI (by rfl) T.g_str boot_str (pa_cons (pe_ix (kIX (K := K) rfl) (pv 7) (pv 10) (fun _ _ => rfl)) pa_nil))) pe_str) (pe_ix (kIX (K := K) rfl) (pv 6) (pv 10) (fun _ _ => rfl)))))))
      (pss_cons (ps_set (i := 8) sc_law.nd rfl (by first | exact Or.inl rfl | exact Or.inr rfl) (pe_bmk (K := K) rfl PySem.F.plainAttrs_str PySem.F.slot_str_join PySem.F.type_str_join (kJOIN (K := K) rfl) pe_str (pa_cons (pv 9) pa_nil)))
      (pss_cons (ps_asg (pe_call G_parse_season (hr.mono (by first | decide | omega)) (by rfl) T.m_parse_season T.F_parse_season.kp T.b_parse_season .nil pass0 (pa_cons (pv 8) pa_nil)) (pg_tup rfl (pgs_cons (pg_name (i := 11) sc_law.nd rfl (by first | exact Or.inl rfl | exact Or.inr rfl)) (pgs_cons (pg_name (i := 12) sc_law.nd rfl (by first | exact Or.inl rfl | exact Or.inr rfl)) (pgs_cons (pg_name (i := 13) sc_law.nd rfl (by first | exact Or.inl rfl | exact Or.inr rfl)) pgs_nil)))))
      (pss_cons (ps_if (pt_not (pt_val (pe_call G__law_equal (hr.mono (by first | decide | omega)) (by rfl) T.m__law_equal T.F__law_equal.kp T.b__law_equal .nil pass0 (pa_cons (pe_lst (pa_cons (pe_fldk (K := K) rfl (pv 11) (by rfl)) (pa_cons (pe_fldk (K := K) rfl (pv 11) (by rfl)) (pa_cons (pv 12) (pa_cons (pv 13) pa_nil))))) (pa_cons (pe_lst (pa_cons (pv 3) (pa_cons (pv 5) (pa_cons (pv 6) (pa_cons (pv 7) pa_nil))))) pa_nil))))) (pss_one (ps_ret pe_bl)) pss_nil)
      (pss_one (ps_if ((pw_or (pt_cmpR (kNE (K := K) rfl hu64) (pe_call G_format_season (hr.mono (by first | decide | omega)) (by rfl) T.m_format_season T.F_format_season.kp T.b_format_season .nil pass0 (pa_cons (pe_make T.M_Sign G_Sign___init__ (hr.mono (by first | decide | omega)) (by rfl) T.m_Sign T.b_Sign___init__ .nil pass0 (pa_cons (pv 3) (pa_cons (pv 5) pa_nil))) (pa_cons (pv 6) (pa_cons (pv 7) pa_nil)))) (pv 8) (nomark _)) (pw_or1 (pt_cmpR (kNE (K := K) rfl hu64) (pe_call G_format_season (hr.mono (by first | decide | omega)) (by rfl) T.m_format_season T.F_format_season.kp T.b_format_season .nil pass0 (pa_cons (pv 11) (pa_cons (pv 12) (pa_cons (pv 13) pa_nil)))) (pv 8) (nomark _))))).pt (pss_one (ps_ret pe_bl)) pss_nil))))))))))))
      (pss_one (ps_ret pe_bl)))), ?_⟩
  rintro _ F ms Q Ea ⟨ns, rfl, hn, q⟩
  walk_at "al"
  refine ⟨ns, rfl, hn, fun F1 l st e1 hst => ?_⟩
  walk_at "al"
  refine as_for ?_
  refine ai_rng1 ?_
  walk_at "al"
  refine ⟨4, rfl, by decide, by decide, fun i F' ms' S' => ∃ (k : Nat) (st : List D) (a2 a3 a4 a5 a6 a7 a8 a9 a10 a11 a12 a13 : Option D), ms'[k]? = some (l, .lst st) ∧ St st ∧ S' = [some (.rdl (ns.map D.int)), some (.ref l), a2, a3, a4, a5, a6, a7, a8, a9, a10, a11, a12, a13],
    ⟨0, st, none, none, none, none, none, none, none, none, none, none, none, none, rfl, hst, rfl⟩, fun _ _ _ _ _ _ => trivial, ?_, ?_⟩
  · rintro step d F2 ms2 S2 e2 hd ⟨k, st2, a2, a3, a4, a5, a6, a7, a8, a9, a10, a11, a12, a13, hk, hst2, rfl⟩ F3 e3
    have hkl : k < ms2.length := (List.getElem?_eq_some_iff.mp hk).1
    refine ag_name ?_
    refine as_seq ?_
    refine as_asgG ?_
    refine ae_tup ?_
    walk_at "al"
    refine ⟨k, l, st2, 24, rfl, hk, hst2, by decide, by decide, fun st3 w0 hst3 w1 w2 => ?_⟩
    walk_at "al"
    refine ae_lstF ?_
    walk_at "al"
    refine ⟨by simp, fun F4 e4 => ?_⟩
    walk_at "al"
    refine ⟨k, l, st3, 2, rfl, set_get hkl, hst3, by decide, by decide, fun st4 r hst4 r0 r1 => ?_⟩
    obtain ⟨z, hz, hz1, hz2, hz3, hz4⟩ := zs_at r0 r1
    refine ar_ixL (d := .str z) hz ?_
    walk_at "al"
    refine ⟨by simp, fun F5 e5 => ?_⟩
    refine ag_tup rfl ?_
    refine ags_cons (ag_name ?_)
    refine ags_cons (ag_name ?_)
    refine ags_nil ?_
    walk_at "al"
    rw [set_set]
    refine ⟨k, l, st4, z, rfl, set_get hkl, hst4, hz4, hz1, hz2, fun st5 F6 ps e6 hst5 hp1 hp2 hp3 => ?_⟩
    rw [set_set]
    walk_at "al"
    refine ⟨k, l, st5, 1 + w0, z, rfl, set_get hkl, hst5, by omega, by omega, hz3, hz4, hz2, fun st6 F7 ts e7 hst6 ht1 ht2 ht => ?_⟩
    rw [set_set]
    have hM : (List.set ms2 k (l, MO.lst st6))[k]? = some (l, .lst st6) := set_get hkl
    generalize List.set ms2 k (l, MO.lst st6) = M at hM ⊢
    have hMl : k < M.length := (List.getElem?_eq_some_iff.mp hM).1
    have hpL : ∀ c ∈ flat ps, inL c := fun c hc => hz2 c (hp2 c hc)
    have hOk : okSeason (1 + w0) ps ts := ⟨by omega, by omega, by omega, hpL, hp3, ht1, ht2, ht⟩
    walk_at "al"
    refine ae_lc (gw_name (by simp)) gm_name ?_
    refine ai_tup ?_
    walk_at "al"
    refine ⟨_, rfl, fun n F' ms' acc => ∃ (st7 : List D) (os : List Int), ms' = M.set k (l, .lst st7) ∧ St st7 ∧ acc = os.map D.int ∧ os.length = n ∧ ∀ (i : Nat) (t : Str) (o : Int), ts[i]? = some t → os[i]? = some o → 0 ≤ o ∧ o + (t.length : Int) ≤ 1 + w0, ⟨st6, [], by rw [set_same hM], hst6, rfl, rfl, fun i t o _ h => by simp at h⟩, fun _ _ _ _ _ _ => trivial, ?_, ?_⟩
    · rintro n d3 F8 ms3 acc e8 hd3 ⟨st7, os, rfl, hst7, rfl, hl, ho⟩ F9 e9
      obtain ⟨t, hp, rfl⟩ := strs_at hd3
      have hn : n < ts.length := (List.getElem?_eq_some_iff.mp hp).1
      obtain ⟨g1, g2, _⟩ := ht t (List.mem_of_getElem? hp)
      refine ag_name ?_
      walk_at "al"
      refine ac_lenS (z := t) (by omega) ?_
      walk_at "al"
      refine ⟨k, l, st7, _, rfl, set_get hMl, hst7, by omega, by omega, fun st8 o hst8 o0 o1 => ?_⟩
      refine ⟨by rw [List.length_map]; omega, st8, os ++ [o], set_set, hst8, by rw [List.map_append]; rfl, by rw [List.length_append, hl]; rfl, ?_⟩
      intro i t' o' h1 h2
      by_cases hi : i < os.length
      · rw [List.getElem?_append_left hi] at h2
        exact ho i t' o' h1 h2
      · have hi2 : i = n := by
          have := (List.getElem?_eq_some_iff.mp h2).1
          rw [List.length_append] at this
          simp at this
          omega
        subst hi2
        rw [List.getElem?_append_right (by omega), hl, Nat.sub_self] at h2
        rw [hp] at h1
        cases h1
        cases h2
        exact ⟨o0, by omega⟩
    · rintro F8 ms3 acc e8 ⟨st7, os, rfl, hst7, rfl, hl, ho⟩ F9 e9
      rw [List.length_map] at hl
      have hO : okOff (1 + w0) ts os := ⟨hl, ho⟩
      obtain ⟨hs1, hs2⟩ := lines_sum hOk hO
      have hk7 : (M.set k (l, .lst st7))[k]? = some (l, .lst st7) := set_get hMl
      generalize M.set k (l, MO.lst st7) = M2 at hk7 ⊢
      walk_at "al"
      refine ac_tupleL (.inl rfl) fun F10 e10 => ?_
      walk_at "al"
      refine ae_lstF ?_
      refine aa_cons ?_
      refine ae_bmS ?_
      walk_at "al"
      refine ae_lstF ?_
      walk_at "al"
      refine ac_strI (by omega) ?_
      walk_at "al"
      refine ⟨by simp, fun F11 e11 => ?_⟩
      walk_at "al"
      refine ac_listF (.inr rfl) fun F12 e12 => ?_
      refine ar_ADDl (by rw [List.length_map]; show 2 + _ ≤ 100000; omega) fun F13 e13 => ?_
      walk_at "al"
      refine am_join (ys := Str.ofString "sign" :: numS (1 + w0) :: ps.map pS) (.inl (.inl (by rw [List.map_cons, List.map_cons, List.map_map]; rfl))) ?_ ?_
      · have h := head_sum (w := 1 + w0) (ps := ps) (by omega) (by omega) (by omega)
        have b : (Str.ofString " ").length = 1 := rfl
        rw [b, List.length_cons, List.length_cons, List.length_map]
        omega
      walk_at "al"
      refine ⟨by simp, fun F14 e14 => ?_⟩
      walk_at "al"
      refine ae_lc (gw_name (by simp)) gm_name ?_
      refine ai_rng1 ?_
      walk_at "al"
      rw [List.length_map]
      refine ⟨_, rfl, by omega, by omega, fun n F' ms' acc => ms' = M2 ∧ acc = (((ts.zip os).map fun p => lineS p.1 p.2).take n).map D.str, ⟨rfl, rfl⟩, fun _ _ _ _ _ _ => trivial, ?_, ?_⟩
      · rintro n d3 F15 ms4 acc e15 hd3 ⟨rfl, rfl⟩ F16 e16
        obtain ⟨hn, rfl⟩ := range_at hd3
        have hn1 : n < ts.length := by omega
        have hn2 : n < os.length := by omega
        have ht1' : ts[n]? = some ts[n] := List.getElem?_eq_getElem hn1
        have ho1' : os[n]? = some os[n] := List.getElem?_eq_getElem hn2
        obtain ⟨o1, o2⟩ := ho n _ _ ht1' ho1'
        obtain ⟨g1, g2, _⟩ := ht _ (List.getElem_mem hn1)
        have nl := num_len o1 (by omega : os[n] < 100)
        have b : (Str.ofString " ").length = 1 := rfl
        have a : (Str.ofString "show ").length = 5 := rfl
        refine ag_name ?_
        walk_at "al"
        refine ar_ixT (d := .int os[n]) (atI_of (j := n) (by omega) (by rw [List.getElem?_map, ho1']; rfl)) ?_
        walk_at "al"
        refine ac_strI (by omega) ?_
        refine ar_ADDs (i := Str.ofString "show ") (j := numS os[n]) (by rw [a]; omega) ?_
        walk_at "al"
        refine ar_ADDs (i := Str.ofString "show " ++ numS os[n]) (j := Str.ofString " ") (by rw [str_len_add, a, b]; omega) ?_
        walk_at "al"
        refine ar_ixT (d := .str ts[n]) (atI_of (j := n) (by omega) (by rw [List.getElem?_map, ht1']; rfl)) ?_
        refine ar_ADDs (i := Str.ofString "show " ++ numS os[n] ++ Str.ofString " ") (j := ts[n]) (by rw [str_len_add, str_len_add, a, b]; omega) ?_
        refine ⟨by rw [List.length_map, List.length_take]; omega, rfl, ?_⟩
        rw [List.take_succ, line_at ht1' ho1', List.map_append, show_eq]
        rfl
      · rintro F15 ms4 acc e15 ⟨rfl, rfl⟩ F16 e16
        have hzl : ((ts.zip os).map fun p => lineS p.1 p.2).length = ts.length := by rw [List.length_map, List.length_zip, hO.1, Nat.min_self]
        rw [range_len, show ((ts.length : Nat) : Int).toNat = ts.length by omega, ← hzl, List.take_length]
        refine ar_ADDl (by rw [List.length_map, hzl]; show 1 + _ ≤ 100000; omega) fun F17 e17 => ?_
        walk_at "al"
        refine ae_bmS ?_
        walk_at "al"
        refine am_join (ys := linesS (1 + w0) ps ts os) (.inl (.inl rfl)) ?_ ?_
        · have b : (Str.ofString "\n").length = 1 := rfl
          rw [b, hs2]
          omega
        walk_at "al"
        refine as_asgG ?_
        walk_at "al"
        refine ⟨1 + w0, ps, ts, os, rfl, hOk, hO, fun F18 x m R e18 hR => ?_⟩
        obtain ⟨kR, hkR⟩ := hR _ _ hk7
        refine ag_tup rfl ?_
        refine ags_cons (ag_name ?_)
        refine ags_cons (ag_name ?_)
        refine ags_cons (ag_name ?_)
        refine ags_nil ?_
        walk_at "al"
        refine ae_lstF ?_
        walk_at "al"
        refine ae_fld ?_
        walk_at "al"
        refine ⟨x, T.c_Sign, fldS m (1 + w0) ps, .int (1 + w0), rfl, .inr ⟨1, rfl⟩, T.k_Sign, T.n_Sign_width, rfl, ?_⟩
        walk_at "al"
        refine ae_fld ?_
        walk_at "al"
        refine ⟨x, T.c_Sign, fldS m (1 + w0) ps, .tup (ps.map pD), rfl, .inr ⟨1, rfl⟩, T.k_Sign, T.n_Sign_pairs, rfl, ?_⟩
        walk_at "al"
        refine ⟨by simp, fun F20 e20 => ?_⟩
        walk_at "al"
        refine ae_lstF ?_
        walk_at "al"
        refine ⟨by simp, fun F21 e21 => ?_⟩
        walk_at "al"
        have pI : ∀ is : List Int, is.length ≤ 10000 → plainN 1 (.tup (is.map D.int)) := fun is h => .inr ⟨_, .inr rfl, by rw [List.length_map]; exact h, fun y hy => by
          obtain ⟨p, _, rfl⟩ := List.mem_map.mp hy
          exact plain_int _ _⟩
        have pT : ∀ is : List Str, is.length ≤ 10000 → plainN 1 (.tup (is.map D.str)) := fun is h => .inr ⟨_, .inr rfl, by rw [List.length_map]; exact h, fun y hy => by
          obtain ⟨p, _, rfl⟩ := List.mem_map.mp hy
          exact plain_str _ _⟩
        have pP : plainN 1 (.tup (ps.map pD)) := .inr ⟨_, .inr rfl, by rw [List.length_map]; omega, fun y hy => by
          obtain ⟨p, _, rfl⟩ := List.mem_map.mp hy
          exact plain_str _ _⟩
        refine ⟨_, _, rfl, plain_act _ 2 (.inr ⟨_, .inl rfl, by simp, ?_⟩), fun F22 e22 => ?_⟩
        · intro y hy
          simp only [List.mem_cons, List.not_mem_nil, or_false] at hy
          rcases hy with rfl | rfl | rfl | rfl
          · exact plain_int _ _
          · exact pP
          · exact pT _ (by omega)
          · exact pI _ (by omega)
        walk_at "al"
        refine ae_make (dds := []) (fun _ => .nil) ?_
        walk_at "al"
        intro x2 F23 e23
        refine ⟨x2, 1 + w0, ps, _, rfl, by omega, by omega, by omega, hpL, hp3, rfl, fun m2 F24 e24 => ⟨rfl, ?_⟩⟩
        walk_at "al"
        refine ⟨x2, 1 + w0, ps, ts, os, rfl, ⟨1, 0, m2, rfl, rfl⟩, hOk, hO, fun F25 e25 => ?_⟩
        walk_at "al"
        refine and_ndT' rfl ?_
        walk_at "al"
        refine ⟨x, 1 + w0, ps, ts, os, rfl, ⟨3, 2, m, rfl, rfl⟩, hOk, hO, fun F26 e26 => ?_⟩
        walk_at "al"
        refine and_ndT rfl ?_
        walk_at "al"
        exact ⟨kR + 4, st7, _, _, _, _, _, _, _, _, _, _, _, _, hkR, hst7, rfl⟩
  · rintro F2 ms2 S2 e2 ⟨k, st2, a2, a3, a4, a5, a6, a7, a8, a9, a10, a11, a12, a13, hk, hst2, rfl⟩
    walk_at "al"
    exact q _ _
end

section
variable {P : Program} {w : World} {K : Frg} {mg : Str → Option Value} {base : Heap}
theorem all_ok (T : Txt K mg) : OK_law P w base T :=
  have h1 : OK__law_below P w base T := ok__law_below T
  have h2 : OK__law_shuffled P w base T := ok__law_shuffled T h1
  have h3 : OK_is_int_in P w base T := ok_is_int_in T
  have h4 : OK_Sign___init__ P w base T := ok_Sign___init__ T h3 (ok_is_pair T)
  have h5 : OK_Sign_check_texts P w base T := ok_Sign_check_texts T (ok_Sign_is_text T)
  have h6 : OK_check_offsets P w base T := ok_check_offsets T h3
  have h7 : OK_format_season P w base T := ok_format_season T h5 h6
  have h8 : OK_parse_season P w base T := ok_parse_season T h4 h5 h6 (ok_read_number T)
  ok_law T h4 h7 h8 (ok__law_random T) h1 (ok__law_pairs T h1 h2) (ok__law_texts T h1 (ok__law_text T h1)) (ok_equal T 2)
end
theorem all_mk {l : PySem.W.OpenLaw} {w : World} {K : PySem.W.Frag} {h : Heap} {mg : Str → Option Value} {fa : Addr}
    {c_Sign : Addr}
    {a0 : Addr} {od0 an0 : Option Addr} {sl0 : Array (Option Value)} {oc0 kV0 dc0 pm0 cd0 ct0 : Value}
    {a1 : Addr} {od1 an1 : Option Addr} {sl1 : Array (Option Value)} {oc1 kV1 dc1 pm1 cd1 ct1 : Value}
    {a2 : Addr} {od2 an2 : Option Addr} {sl2 : Array (Option Value)} {oc2 kV2 dc2 pm2 cd2 ct2 : Value}
    {tT2 tz2 : Addr} {odT2 odz2 : Option Addr} {nT2 nz2 : Nat} {slT2 slz2 : Array (Option Value)}
    {a3 : Addr} {od3 an3 : Option Addr} {sl3 : Array (Option Value)} {oc3 kV3 dc3 pm3 cd3 ct3 : Value}
    {a4 : Addr} {od4 an4 : Option Addr} {sl4 : Array (Option Value)} {oc4 kV4 dc4 pm4 cd4 ct4 : Value}
    {a5 : Addr} {od5 an5 : Option Addr} {sl5 : Array (Option Value)} {oc5 kV5 dc5 pm5 cd5 ct5 : Value}
    {a6 : Addr} {od6 an6 : Option Addr} {sl6 : Array (Option Value)} {oc6 kV6 dc6 pm6 cd6 ct6 : Value}
    {a7 : Addr} {od7 an7 : Option Addr} {sl7 : Array (Option Value)} {oc7 kV7 dc7 pm7 cd7 ct7 : Value}
    {a8 : Addr} {od8 an8 : Option Addr} {sl8 : Array (Option Value)} {oc8 kV8 dc8 pm8 cd8 ct8 : Value}
    {a9 : Addr} {od9 an9 : Option Addr} {sl9 : Array (Option Value)} {oc9 kV9 dc9 pm9 cd9 ct9 : Value}
    {a10 : Addr} {od10 an10 : Option Addr} {sl10 : Array (Option Value)} {oc10 kV10 dc10 pm10 cd10 ct10 : Value}
    {a11 : Addr} {od11 an11 : Option Addr} {sl11 : Array (Option Value)} {oc11 kV11 dc11 pm11 cd11 ct11 : Value}
    {a12 : Addr} {od12 an12 : Option Addr} {sl12 : Array (Option Value)} {oc12 kV12 dc12 pm12 cd12 ct12 : Value}
    {a13 : Addr} {od13 an13 : Option Addr} {sl13 : Array (Option Value)} {oc13 kV13 dc13 pm13 cd13 ct13 : Value}
    {a14 : Addr} {od14 an14 : Option Addr} {sl14 : Array (Option Value)} {oc14 kV14 dc14 pm14 cd14 ct14 : Value}
    {a15 : Addr} {od15 an15 : Option Addr} {sl15 : Array (Option Value)} {oc15 kV15 dc15 pm15 cd15 ct15 : Value}
    {a16 : Addr} {od16 an16 : Option Addr} {sl16 : Array (Option Value)} {oc16 kV16 dc16 pm16 cd16 ct16 : Value}
    {t_BLANK : Tok}
    {t_DIGITS : Tok}
    {t_LETTERS : Tok}
    {t_MAX_DIGITS : Tok}
    {t_MAX_PAIRS : Tok}
    {t_MAX_TEXTS : Tok}
    {t_MAX_WIDTH : Tok}
    {t_SHOW : Tok}
    {t_SIGN : Tok} (X : K.In h) (G : h.Ns mainGlobals mg) (hfa : mg "law" = some (.ref fa))
    (hc_Sign : PySem.W.nsIn K mainGlobals "Sign" = some (some (.ref c_Sign)))
    (pg_Sign : PySem.W.plainGet K c_Sign Str.empty = true)
    (hd_Sign : PySem.W.hasDictIn K c_Sign = true)
    (po_Sign : PySem.W.plainOver K c_Sign = true)
    (sa_Sign : PySem.W.findIn K (.ref c_Sign) "__setattr__" = some (some (.builtin "object.__setattr__")))
    (mk_Sign : PySem.W.makesIn K c_Sign = true)
    (kc_Sign : PySem.W.keepIn K (.ref c_Sign) = true)
    (n_Sign_width : PySem.W.findIn K (.ref c_Sign) "width" = some none)
    (n_Sign_pairs : PySem.W.findIn K (.ref c_Sign) "pairs" = some none)
    (n_Sign_mates : PySem.W.findIn K (.ref c_Sign) "mates" = some none)
    (h0 : PySem.W.nsIn K mainGlobals "is_int_in" = some (some (.ref a0)))
    (l0 : K.lookup a0 = some ⟨oc0, od0, .func (PySem.W.fnOf "is_int_in" "is_int_in" (defArgs s_is_int_in) (defBody s_is_int_in) (defScope s_is_int_in) .none kV0 dc0 pm0 an0 cd0 ct0), sl0⟩)
    (cd_0 : PySem.W.codeIn K cd0 "is_int_in" = true)
    (k0 : PySem.W.keepIn K (.ref a0) = true)
    (h1 : PySem.W.nsIn K mainGlobals "is_pair" = some (some (.ref a1)))
    (l1 : K.lookup a1 = some ⟨oc1, od1, .func (PySem.W.fnOf "is_pair" "is_pair" (defArgs s_is_pair) (defBody s_is_pair) (defScope s_is_pair) .none kV1 dc1 pm1 an1 cd1 ct1), sl1⟩)
    (cd_1 : PySem.W.codeIn K cd1 "is_pair" = true)
    (k1 : PySem.W.keepIn K (.ref a1) = true)
    (h2 : PySem.W.findIn K (.ref c_Sign) "__init__" = some (some (.ref a2)))
    (i2 : PySem.W.isFn K (.ref a2) = true)
    (l2 : K.lookup a2 = some ⟨oc2, od2, .func (PySem.W.fnOf "__init__" "Sign.__init__" (defArgs s_Sign___init__) (defBody s_Sign___init__) (defScope s_Sign___init__) (.ref tT2) kV2 dc2 pm2 an2 cd2 ct2), sl2⟩)
    (cd_2 : PySem.W.codeIn K cd2 "Sign.__init__" = true)
    (k2 : PySem.W.keepIn K (.ref a2) = true)
    (hT2 : K.lookup tT2 = some ⟨.type "tuple", odT2, .seq #[.ref tz2] nT2, slT2⟩)
    (hz2 : K.lookup tz2 = some ⟨.type "tuple", odz2, .seq #[] nz2, slz2⟩)
    (h3 : PySem.W.findIn K (.ref c_Sign) "is_text" = some (some (.ref a3)))
    (i3 : PySem.W.isFn K (.ref a3) = true)
    (l3 : K.lookup a3 = some ⟨oc3, od3, .func (PySem.W.fnOf "is_text" "Sign.is_text" (defArgs s_Sign_is_text) (defBody s_Sign_is_text) (defScope s_Sign_is_text) .none kV3 dc3 pm3 an3 cd3 ct3), sl3⟩)
    (cd_3 : PySem.W.codeIn K cd3 "Sign.is_text" = true)
    (k3 : PySem.W.keepIn K (.ref a3) = true)
    (h4 : PySem.W.findIn K (.ref c_Sign) "check_texts" = some (some (.ref a4)))
    (i4 : PySem.W.isFn K (.ref a4) = true)
    (l4 : K.lookup a4 = some ⟨oc4, od4, .func (PySem.W.fnOf "check_texts" "Sign.check_texts" (defArgs s_Sign_check_texts) (defBody s_Sign_check_texts) (defScope s_Sign_check_texts) .none kV4 dc4 pm4 an4 cd4 ct4), sl4⟩)
    (cd_4 : PySem.W.codeIn K cd4 "Sign.check_texts" = true)
    (k4 : PySem.W.keepIn K (.ref a4) = true)
    (h5 : PySem.W.nsIn K mainGlobals "check_offsets" = some (some (.ref a5)))
    (l5 : K.lookup a5 = some ⟨oc5, od5, .func (PySem.W.fnOf "check_offsets" "check_offsets" (defArgs s_check_offsets) (defBody s_check_offsets) (defScope s_check_offsets) .none kV5 dc5 pm5 an5 cd5 ct5), sl5⟩)
    (cd_5 : PySem.W.codeIn K cd5 "check_offsets" = true)
    (k5 : PySem.W.keepIn K (.ref a5) = true)
    (h6 : PySem.W.nsIn K mainGlobals "read_number" = some (some (.ref a6)))
    (l6 : K.lookup a6 = some ⟨oc6, od6, .func (PySem.W.fnOf "read_number" "read_number" (defArgs s_read_number) (defBody s_read_number) (defScope s_read_number) .none kV6 dc6 pm6 an6 cd6 ct6), sl6⟩)
    (cd_6 : PySem.W.codeIn K cd6 "read_number" = true)
    (k6 : PySem.W.keepIn K (.ref a6) = true)
    (h7 : PySem.W.nsIn K mainGlobals "format_season" = some (some (.ref a7)))
    (l7 : K.lookup a7 = some ⟨oc7, od7, .func (PySem.W.fnOf "format_season" "format_season" (defArgs s_format_season) (defBody s_format_season) (defScope s_format_season) .none kV7 dc7 pm7 an7 cd7 ct7), sl7⟩)
    (cd_7 : PySem.W.codeIn K cd7 "format_season" = true)
    (k7 : PySem.W.keepIn K (.ref a7) = true)
    (h8 : PySem.W.nsIn K mainGlobals "parse_season" = some (some (.ref a8)))
    (l8 : K.lookup a8 = some ⟨oc8, od8, .func (PySem.W.fnOf "parse_season" "parse_season" (defArgs s_parse_season) (defBody s_parse_season) (defScope s_parse_season) .none kV8 dc8 pm8 an8 cd8 ct8), sl8⟩)
    (cd_8 : PySem.W.codeIn K cd8 "parse_season" = true)
    (k8 : PySem.W.keepIn K (.ref a8) = true)
    (h9 : PySem.W.nsIn K mainGlobals "_law_random" = some (some (.ref a9)))
    (l9 : K.lookup a9 = some ⟨oc9, od9, .func (PySem.W.fnOf "_law_random" "_law_random" (defArgs s__law_random) (defBody s__law_random) (defScope s__law_random) .none kV9 dc9 pm9 an9 cd9 ct9), sl9⟩)
    (cd_9 : PySem.W.codeIn K cd9 "_law_random" = true)
    (k9 : PySem.W.keepIn K (.ref a9) = true)
    (h10 : PySem.W.nsIn K mainGlobals "_law_below" = some (some (.ref a10)))
    (l10 : K.lookup a10 = some ⟨oc10, od10, .func (PySem.W.fnOf "_law_below" "_law_below" (defArgs s__law_below) (defBody s__law_below) (defScope s__law_below) .none kV10 dc10 pm10 an10 cd10 ct10), sl10⟩)
    (cd_10 : PySem.W.codeIn K cd10 "_law_below" = true)
    (k10 : PySem.W.keepIn K (.ref a10) = true)
    (h11 : PySem.W.nsIn K mainGlobals "_law_shuffled" = some (some (.ref a11)))
    (l11 : K.lookup a11 = some ⟨oc11, od11, .func (PySem.W.fnOf "_law_shuffled" "_law_shuffled" (defArgs s__law_shuffled) (defBody s__law_shuffled) (defScope s__law_shuffled) .none kV11 dc11 pm11 an11 cd11 ct11), sl11⟩)
    (cd_11 : PySem.W.codeIn K cd11 "_law_shuffled" = true)
    (k11 : PySem.W.keepIn K (.ref a11) = true)
    (h12 : PySem.W.nsIn K mainGlobals "_law_pairs" = some (some (.ref a12)))
    (l12 : K.lookup a12 = some ⟨oc12, od12, .func (PySem.W.fnOf "_law_pairs" "_law_pairs" (defArgs s__law_pairs) (defBody s__law_pairs) (defScope s__law_pairs) .none kV12 dc12 pm12 an12 cd12 ct12), sl12⟩)
    (cd_12 : PySem.W.codeIn K cd12 "_law_pairs" = true)
    (k12 : PySem.W.keepIn K (.ref a12) = true)
    (h13 : PySem.W.nsIn K mainGlobals "_law_text" = some (some (.ref a13)))
    (l13 : K.lookup a13 = some ⟨oc13, od13, .func (PySem.W.fnOf "_law_text" "_law_text" (defArgs s__law_text) (defBody s__law_text) (defScope s__law_text) .none kV13 dc13 pm13 an13 cd13 ct13), sl13⟩)
    (cd_13 : PySem.W.codeIn K cd13 "_law_text" = true)
    (k13 : PySem.W.keepIn K (.ref a13) = true)
    (h14 : PySem.W.nsIn K mainGlobals "_law_texts" = some (some (.ref a14)))
    (l14 : K.lookup a14 = some ⟨oc14, od14, .func (PySem.W.fnOf "_law_texts" "_law_texts" (defArgs s__law_texts) (defBody s__law_texts) (defScope s__law_texts) .none kV14 dc14 pm14 an14 cd14 ct14), sl14⟩)
    (cd_14 : PySem.W.codeIn K cd14 "_law_texts" = true)
    (k14 : PySem.W.keepIn K (.ref a14) = true)
    (h15 : PySem.W.nsIn K mainGlobals "_law_equal" = some (some (.ref a15)))
    (l15 : K.lookup a15 = some ⟨oc15, od15, .func (PySem.W.fnOf "_law_equal" "_law_equal" (defArgs s__law_equal) (defBody s__law_equal) (defScope s__law_equal) .none kV15 dc15 pm15 an15 cd15 ct15), sl15⟩)
    (cd_15 : PySem.W.codeIn K cd15 "_law_equal" = true)
    (k15 : PySem.W.keepIn K (.ref a15) = true)
    (h16 : PySem.W.nsIn K mainGlobals "law" = some (some (.ref a16)))
    (l16 : K.lookup a16 = some ⟨oc16, od16, .func (PySem.W.fnOf "law" "law" (defArgs s_law) (defBody s_law) (defScope s_law) .none kV16 dc16 pm16 an16 cd16 ct16), sl16⟩)
    (cd_16 : PySem.W.codeIn K cd16 "law" = true)
    (k16 : PySem.W.keepIn K (.ref a16) = true)
    (z_abs : PySem.W.nsIn K mainGlobals "abs" = some none)
    (z_all : PySem.W.nsIn K mainGlobals "all" = some none)
    (z_any : PySem.W.nsIn K mainGlobals "any" = some none)
    (z_bool : PySem.W.nsIn K mainGlobals "bool" = some none)
    (z_enumerate : PySem.W.nsIn K mainGlobals "enumerate" = some none)
    (z_int : PySem.W.nsIn K mainGlobals "int" = some none)
    (z_isinstance : PySem.W.nsIn K mainGlobals "isinstance" = some none)
    (z_len : PySem.W.nsIn K mainGlobals "len" = some none)
    (z_list : PySem.W.nsIn K mainGlobals "list" = some none)
    (z_min : PySem.W.nsIn K mainGlobals "min" = some none)
    (z_range : PySem.W.nsIn K mainGlobals "range" = some none)
    (z_str : PySem.W.nsIn K mainGlobals "str" = some none)
    (z_tuple : PySem.W.nsIn K mainGlobals "tuple" = some none)
    (z_zip : PySem.W.nsIn K mainGlobals "zip" = some none)
    (y_BLANK : PySem.W.nsIn K mainGlobals "BLANK" = some (some (.str " " t_BLANK)))
    (y_DIGITS : PySem.W.nsIn K mainGlobals "DIGITS" = some (some (.str "0123456789" t_DIGITS)))
    (y_LETTERS : PySem.W.nsIn K mainGlobals "LETTERS" = some (some (.str "ABCDEFGHIJKLMNOPQRSTUVWXYZ0123456789" t_LETTERS)))
    (y_MAX_DIGITS : PySem.W.nsIn K mainGlobals "MAX_DIGITS" = some (some (.int 2 t_MAX_DIGITS)))
    (y_MAX_PAIRS : PySem.W.nsIn K mainGlobals "MAX_PAIRS" = some (some (.int 10 t_MAX_PAIRS)))
    (y_MAX_TEXTS : PySem.W.nsIn K mainGlobals "MAX_TEXTS" = some (some (.int 12 t_MAX_TEXTS)))
    (y_MAX_WIDTH : PySem.W.nsIn K mainGlobals "MAX_WIDTH" = some (some (.int 24 t_MAX_WIDTH)))
    (y_SHOW : PySem.W.nsIn K mainGlobals "SHOW" = some (some (.str "show" t_SHOW)))
    (y_SIGN : PySem.W.nsIn K mainGlobals "SIGN" = some (some (.str "sign" t_SIGN))) :
    ∃ fd : FuncData, (∀ (s : Shared) (v : Value), BindsTo s fd ⟨[v], []⟩ [("_law_script", v)]) ∧ ∀ base : Heap, K.In base → base.Ns mainGlobals mg → FnOk l.prog w K mg base CX0 5 fa fd ["_law_script"] (toSp K spLaw) := by
  have e := hfa.symm.trans (PySem.W.mg_of X G h16)
  cases e
  have F0 := fun_mk (st := s_is_int_in) l0 cd_0 k0
  have b0 := F0.binds (ps := ["value", "low", "high"]) fun _ _ _ _ _ _ us hl => match us, hl with | [_, _, _], _ => rfl
  have F1 := fun_mk (st := s_is_pair) l1 cd_1 k1
  have b1 := F1.binds (ps := ["value"]) fun _ _ _ _ _ _ us hl => match us, hl with | [_], _ => rfl
  have D2 : DflV K (.ref tT2) [V.ref tz2] := .inr ⟨by simp, tT2, _, [.ref tz2], _, rfl, hT2, rfl, .cons rfl .nil⟩
  have F2 : FunD K "__init__" "Sign.__init__" (defArgs s_Sign___init__) (defBody s_Sign___init__) (defScope s_Sign___init__) [V.ref tz2] [] a2 (PySem.W.fnOf "__init__" "Sign.__init__" (defArgs s_Sign___init__) (defBody s_Sign___init__) (defScope s_Sign___init__) (.ref tT2) kV2 dc2 pm2 an2 cd2 ct2) := ⟨⟨_, _, _, _, _, _, _, _, _, _, rfl, l2, cd_2, D2, .inl rfl⟩, k2⟩
  obtain ⟨eb2, rb2, b02⟩ := F2.binds1 (ps := ["self", "width", "pairs"]) 3 1 (by simp) rfl (fun T kV doc pm an cdv ct us its hu hi => match us, its, hu, hi with | [_, _, _], [_], _, _ => ⟨_, rfl, rfl⟩)
  have b2 : Binds K (PySem.W.fnOf "__init__" "Sign.__init__" (defArgs s_Sign___init__) (defBody s_Sign___init__) (defScope s_Sign___init__) (.ref tT2) kV2 dc2 pm2 an2 cd2 ct2) ["self", "width", "pairs"] [] := by cases rb2; exact b02
  obtain ⟨e2, v2, bd2⟩ := F2.binds1 (ps := ["self", "width", "pairs"]) 2 0 (by simp) rfl (fun T kV doc pm an cdv ct us its hu hi => match us, its, hu, hi with | [_, _], [_], _, _ => ⟨_, rfl, rfl⟩)
  have F3 := fun_mk (st := s_Sign_is_text) l3 cd_3 k3
  have b3 := F3.binds (ps := ["self", "value"]) fun _ _ _ _ _ _ us hl => match us, hl with | [_, _], _ => rfl
  have F4 := fun_mk (st := s_Sign_check_texts) l4 cd_4 k4
  have b4 := F4.binds (ps := ["self", "texts"]) fun _ _ _ _ _ _ us hl => match us, hl with | [_, _], _ => rfl
  have F5 := fun_mk (st := s_check_offsets) l5 cd_5 k5
  have b5 := F5.binds (ps := ["sign", "texts", "offsets"]) fun _ _ _ _ _ _ us hl => match us, hl with | [_, _, _], _ => rfl
  have F6 := fun_mk (st := s_read_number) l6 cd_6 k6
  have b6 := F6.binds (ps := ["word"]) fun _ _ _ _ _ _ us hl => match us, hl with | [_], _ => rfl
  have F7 := fun_mk (st := s_format_season) l7 cd_7 k7
  have b7 := F7.binds (ps := ["sign", "texts", "offsets"]) fun _ _ _ _ _ _ us hl => match us, hl with | [_, _, _], _ => rfl
  have F8 := fun_mk (st := s_parse_season) l8 cd_8 k8
  have b8 := F8.binds (ps := ["text"]) fun _ _ _ _ _ _ us hl => match us, hl with | [_], _ => rfl
  have F9 := fun_mk (st := s__law_random) l9 cd_9 k9
  have b9 := F9.binds (ps := ["_law_script", "_law_salt"]) fun _ _ _ _ _ _ us hl => match us, hl with | [_, _], _ => rfl
  have F10 := fun_mk (st := s__law_below) l10 cd_10 k10
  have b10 := F10.binds (ps := ["_law_d", "_law_limit"]) fun _ _ _ _ _ _ us hl => match us, hl with | [_, _], _ => rfl
  have F11 := fun_mk (st := s__law_shuffled) l11 cd_11 k11
  have b11 := F11.binds (ps := ["_law_d", "_law_items"]) fun _ _ _ _ _ _ us hl => match us, hl with | [_, _], _ => rfl
  have F12 := fun_mk (st := s__law_pairs) l12 cd_12 k12
  have b12 := F12.binds (ps := ["_law_d", "_law_letters"]) fun _ _ _ _ _ _ us hl => match us, hl with | [_, _], _ => rfl
  have F13 := fun_mk (st := s__law_text) l13 cd_13 k13
  have b13 := F13.binds (ps := ["_law_d", "_law_most", "_law_letters"]) fun _ _ _ _ _ _ us hl => match us, hl with | [_, _, _], _ => rfl
  have F14 := fun_mk (st := s__law_texts) l14 cd_14 k14
  have b14 := F14.binds (ps := ["_law_d", "_law_most", "_law_width", "_law_letters"]) fun _ _ _ _ _ _ us hl => match us, hl with | [_, _, _, _], _ => rfl
  have F15 := fun_mk (st := s__law_equal) l15 cd_15 k15
  have b15 := F15.binds (ps := ["_law_actual", "_law_expected"]) fun _ _ _ _ _ _ us hl => match us, hl with | [_, _], _ => rfl
  have F16 := fun_mk (st := s_law) l16 cd_16 k16
  have b16 := F16.binds (ps := ["_law_script"]) fun _ _ _ _ _ _ us hl => match us, hl with | [_], _ => rfl
  let T : Txt K mg := {
    c_Sign := c_Sign,
    m_Sign := PySem.W.mg_of X G hc_Sign,
    k_Sign := ⟨pg_Sign, hd_Sign, po_Sign, sa_Sign⟩,
    n_Sign_width := n_Sign_width,
    n_Sign_pairs := n_Sign_pairs,
    n_Sign_mates := n_Sign_mates,
    F_is_int_in := F0,
    b_is_int_in := b0,
    a_is_int_in := a0,
    d_is_int_in := _,
    m_is_int_in := PySem.W.mg_of X G h0,
    F_is_pair := F1,
    b_is_pair := b1,
    a_is_pair := a1,
    d_is_pair := _,
    m_is_pair := PySem.W.mg_of X G h1,
    z_Sign___init__ := [V.ref tz2],
    F_Sign___init__ := F2,
    zr_Sign___init__ := fun _ => .cons (.tup (.inr ⟨_, #[], _, hz2, rfl, rfl, Nat.zero_le _, .nil⟩) .nil) .nil,
    e_Sign___init__ := e2,
    vd_Sign___init__ := v2,
    bd_Sign___init__ := bd2,
    b_Sign___init__ := b2,
    a_Sign___init__ := a2,
    d_Sign___init__ := _,
    M_Sign := ⟨mk_Sign, h2, i2, kc_Sign⟩,
    F_Sign_is_text := F3,
    b_Sign_is_text := b3,
    a_Sign_is_text := a3,
    d_Sign_is_text := _,
    Me_Sign_is_text := ⟨h3, i3, k3⟩,
    F_Sign_check_texts := F4,
    b_Sign_check_texts := b4,
    a_Sign_check_texts := a4,
    d_Sign_check_texts := _,
    Me_Sign_check_texts := ⟨h4, i4, k4⟩,
    F_check_offsets := F5,
    b_check_offsets := b5,
    a_check_offsets := a5,
    d_check_offsets := _,
    m_check_offsets := PySem.W.mg_of X G h5,
    F_read_number := F6,
    b_read_number := b6,
    a_read_number := a6,
    d_read_number := _,
    m_read_number := PySem.W.mg_of X G h6,
    F_format_season := F7,
    b_format_season := b7,
    a_format_season := a7,
    d_format_season := _,
    m_format_season := PySem.W.mg_of X G h7,
    F_parse_season := F8,
    b_parse_season := b8,
    a_parse_season := a8,
    d_parse_season := _,
    m_parse_season := PySem.W.mg_of X G h8,
    F__law_random := F9,
    b__law_random := b9,
    a__law_random := a9,
    d__law_random := _,
    m__law_random := PySem.W.mg_of X G h9,
    F__law_below := F10,
    b__law_below := b10,
    a__law_below := a10,
    d__law_below := _,
    m__law_below := PySem.W.mg_of X G h10,
    F__law_shuffled := F11,
    b__law_shuffled := b11,
    a__law_shuffled := a11,
    d__law_shuffled := _,
    m__law_shuffled := PySem.W.mg_of X G h11,
    F__law_pairs := F12,
    b__law_pairs := b12,
    a__law_pairs := a12,
    d__law_pairs := _,
    m__law_pairs := PySem.W.mg_of X G h12,
    F__law_text := F13,
    b__law_text := b13,
    a__law_text := a13,
    d__law_text := _,
    m__law_text := PySem.W.mg_of X G h13,
    F__law_texts := F14,
    b__law_texts := b14,
    a__law_texts := a14,
    d__law_texts := _,
    m__law_texts := PySem.W.mg_of X G h14,
    F__law_equal := F15,
    b__law_equal := b15,
    a__law_equal := a15,
    d__law_equal := _,
    m__law_equal := PySem.W.mg_of X G h15,
    F_law := F16,
    b_law := b16,
    a_law := fa,
    d_law := _,
    m_law := PySem.W.mg_of X G h16,
    g_abs := PySem.W.mg_none_of X G z_abs,
    g_all := PySem.W.mg_none_of X G z_all,
    g_any := PySem.W.mg_none_of X G z_any,
    g_bool := PySem.W.mg_none_of X G z_bool,
    g_enumerate := PySem.W.mg_none_of X G z_enumerate,
    g_int := PySem.W.mg_none_of X G z_int,
    g_isinstance := PySem.W.mg_none_of X G z_isinstance,
    g_len := PySem.W.mg_none_of X G z_len,
    g_list := PySem.W.mg_none_of X G z_list,
    g_min := PySem.W.mg_none_of X G z_min,
    g_range := PySem.W.mg_none_of X G z_range,
    g_str := PySem.W.mg_none_of X G z_str,
    g_tuple := PySem.W.mg_none_of X G z_tuple,
    g_zip := PySem.W.mg_none_of X G z_zip,
    u_BLANK := _,
    m_BLANK := PySem.W.mg_of X G y_BLANK,
    r_BLANK := ⟨_, rfl⟩,
    u_DIGITS := _,
    m_DIGITS := PySem.W.mg_of X G y_DIGITS,
    r_DIGITS := ⟨_, rfl⟩,
    u_LETTERS := _,
    m_LETTERS := PySem.W.mg_of X G y_LETTERS,
    r_LETTERS := ⟨_, rfl⟩,
    u_MAX_DIGITS := _,
    m_MAX_DIGITS := PySem.W.mg_of X G y_MAX_DIGITS,
    r_MAX_DIGITS := ⟨_, rfl⟩,
    u_MAX_PAIRS := _,
    m_MAX_PAIRS := PySem.W.mg_of X G y_MAX_PAIRS,
    r_MAX_PAIRS := ⟨_, rfl⟩,
    u_MAX_TEXTS := _,
    m_MAX_TEXTS := PySem.W.mg_of X G y_MAX_TEXTS,
    r_MAX_TEXTS := ⟨_, rfl⟩,
    u_MAX_WIDTH := _,
    m_MAX_WIDTH := PySem.W.mg_of X G y_MAX_WIDTH,
    r_MAX_WIDTH := ⟨_, rfl⟩,
    u_SHOW := _,
    m_SHOW := PySem.W.mg_of X G y_SHOW,
    r_SHOW := ⟨_, rfl⟩,
    u_SIGN := _,
    m_SIGN := PySem.W.mg_of X G y_SIGN,
    r_SIGN := ⟨_, rfl⟩ }
  exact ⟨T.d_law, fun s v => .of_eq rfl, fun base _ _ => all_ok T⟩
theorem walk {l : PySem.W.OpenLaw} {q : Program} {loose : List Str} {XP : (Str → Option Value) → Heap → Prop} {YP : World → Heap → Prop} {d : DefRec} {K : Params → PySem.W.Frag} (hn : l.most = some 63) (hdf : d.params.defaults = [])
    (hY : ∀ (w : World) (h : Heap), YP w h → (K w.params).In h)
    (F : ∀ (w : World) (mg : Str → Option Value) (fa : Addr) (h : Heap), (K w.params).In h → h.Ns mainGlobals mg → mg d.name = some (.ref fa) →
      ∃ fd : FuncData, (∀ (s : Shared) (u : Value), BindsTo s fd ⟨[u], []⟩ [("_law_script", u)]) ∧ ∀ base : Heap, (K w.params).In base → base.Ns mainGlobals mg → FnOk l.prog w (K w.params) mg base CX0 5 fa fd ["_law_script"] (toSp (K w.params) spLaw)) :
    PySem.W.WalkO q loose XP YP l.row.toRowW d [] (fun f vs => PySem.call f vs) :=
  L2.walk_of (n := 63) (k := 5) (x := "_law_script") (CX := fun _ => CX0) (sp := fun w => toSp (K w.params) spLaw) hn (by decide) hdf ⟨rfl, by decide, by decide⟩ hY F (fun w H a ns hl _ hS => start_law hS fun F ms => ⟨ns, rfl, hl, fun _ _ => rfl⟩) fun _ _ _ _ _ z => z
end K15

open PySem PySem.W PyProof.Rows in
set_option maxRecDepth 100000 in
set_option maxHeartbeats 0 in
theorem PySem.Challenge.cw_marqueeletters_k15_texts_of_seasons_holds : PySem.Challenge.rw_marqueeletters_k15_texts_of_seasons.Holds := by
  w_on; o_law; k_head; (case hw => w_witness2)
  k_fill
  refine K15.walk (l := PySem.Challenge.rw_marqueeletters_k15_texts_of_seasons) rfl rfl (fun w h Y => PySem.W.kIn_of Y) ?F
  case F =>
    intro w mg fa h KX G hmg
    refine' K15.all_mk KX G hmg ?hc_Sign ?pg_Sign ?hd_Sign ?po_Sign ?sa_Sign ?mk_Sign ?kc_Sign ?n_Sign_width ?n_Sign_pairs ?n_Sign_mates ?h0 ?l0 ?cd_0 ?k0 ?h1 ?l1 ?cd_1 ?k1 ?h2 ?i2 ?l2 ?cd_2 ?k2 ?hT2 ?hz2 ?h3 ?i3 ?l3 ?cd_3 ?k3 ?h4 ?i4 ?l4 ?cd_4 ?k4 ?h5 ?l5 ?cd_5 ?k5 ?h6 ?l6 ?cd_6 ?k6 ?h7 ?l7 ?cd_7 ?k7 ?h8 ?l8 ?cd_8 ?k8 ?h9 ?l9 ?cd_9 ?k9 ?h10 ?l10 ?cd_10 ?k10 ?h11 ?l11 ?cd_11 ?k11 ?h12 ?l12 ?cd_12 ?k12 ?h13 ?l13 ?cd_13 ?k13 ?h14 ?l14 ?cd_14 ?k14 ?h15 ?l15 ?cd_15 ?k15 ?h16 ?l16 ?cd_16 ?k16 ?z_abs ?z_all ?z_any ?z_bool ?z_enumerate ?z_int ?z_isinstance ?z_len ?z_list ?z_min ?z_range ?z_str ?z_tuple ?z_zip ?y_BLANK ?y_DIGITS ?y_LETTERS ?y_MAX_DIGITS ?y_MAX_PAIRS ?y_MAX_TEXTS ?y_MAX_WIDTH ?y_SHOW ?y_SIGN
    (case hc_Sign => k_is)
    (case pg_Sign => k_is)
    (case hd_Sign => k_is)
    (case po_Sign => k_is)
    (case sa_Sign => k_is)
    (case mk_Sign => k_is)
    (case kc_Sign => k_is)
    (case n_Sign_width => k_is)
    (case n_Sign_pairs => k_is)
    (case n_Sign_mates => k_is)
    (case h0 => k_is)
    (case l0 => k_is)
    (case cd_0 => k_is)
    (case k0 => k_is)
    (case h1 => k_is)
    (case l1 => k_is)
    (case cd_1 => k_is)
    (case k1 => k_is)
    (case h2 => k_is)
    (case i2 => k_is)
    (case l2 => k_is)
    (case cd_2 => k_is)
    (case k2 => k_is)
    (case hT2 => k_is)
    (case hz2 => k_is)
    (case h3 => k_is)
    (case i3 => k_is)
    (case l3 => k_is)
    (case cd_3 => k_is)
    (case k3 => k_is)
    (case h4 => k_is)
    (case i4 => k_is)
    (case l4 => k_is)
    (case cd_4 => k_is)
    (case k4 => k_is)
    (case h5 => k_is)
    (case l5 => k_is)
    (case cd_5 => k_is)
    (case k5 => k_is)
    (case h6 => k_is)
    (case l6 => k_is)
    (case cd_6 => k_is)
    (case k6 => k_is)
    (case h7 => k_is)
    (case l7 => k_is)
    (case cd_7 => k_is)
    (case k7 => k_is)
    (case h8 => k_is)
    (case l8 => k_is)
    (case cd_8 => k_is)
    (case k8 => k_is)
    (case h9 => k_is)
    (case l9 => k_is)
    (case cd_9 => k_is)
    (case k9 => k_is)
    (case h10 => k_is)
    (case l10 => k_is)
    (case cd_10 => k_is)
    (case k10 => k_is)
    (case h11 => k_is)
    (case l11 => k_is)
    (case cd_11 => k_is)
    (case k11 => k_is)
    (case h12 => k_is)
    (case l12 => k_is)
    (case cd_12 => k_is)
    (case k12 => k_is)
    (case h13 => k_is)
    (case l13 => k_is)
    (case cd_13 => k_is)
    (case k13 => k_is)
    (case h14 => k_is)
    (case l14 => k_is)
    (case cd_14 => k_is)
    (case k14 => k_is)
    (case h15 => k_is)
    (case l15 => k_is)
    (case cd_15 => k_is)
    (case k15 => k_is)
    (case h16 => k_is)
    (case l16 => k_is)
    (case cd_16 => k_is)
    (case k16 => k_is)
    (case z_abs => k_is)
    (case z_all => k_is)
    (case z_any => k_is)
    (case z_bool => k_is)
    (case z_enumerate => k_is)
    (case z_int => k_is)
    (case z_isinstance => k_is)
    (case z_len => k_is)
    (case z_list => k_is)
    (case z_min => k_is)
    (case z_range => k_is)
    (case z_str => k_is)
    (case z_tuple => k_is)
    (case z_zip => k_is)
    (case y_BLANK => k_is)
    (case y_DIGITS => k_is)
    (case y_LETTERS => k_is)
    (case y_MAX_DIGITS => k_is)
    (case y_MAX_PAIRS => k_is)
    (case y_MAX_TEXTS => k_is)
    (case y_MAX_WIDTH => k_is)
    (case y_SHOW => k_is)
    (case y_SIGN => k_is)

