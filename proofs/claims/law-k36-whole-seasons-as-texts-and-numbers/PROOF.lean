import PyProof.Rows.All
import Wide.All
import OpenK.AllK
import Wide.FinOn
import HandS.ForMost
import HandS.Base
import HandS.Call
import HandS.List
import HandS.Comp
import HandS.Ends
import HandS.Dict
import HandS.Iter
import HandS.Text
import HandS.Words
import HandS.Exc
import HandS.Walk
import HandS.Evl
import HandS.Conv
import HandS.TupAny
import HandS.Codes
import HandS.IsInst
import HandS.Property
import HandS.WordsExc
import HandS.StrMore
import PyProof.ListStr
import KE.GoesMore
import HandS.Zip
import HandS.ClsMeth
import HandS.Defaults
import HandS.Replace
import HandS.Star
import KE.KUnpackStar
import HandS.StrSplit
import HandS.DictComp
import HandS.More
import KE.GoesZip
import HandS.Sort
import PyProof.SumAny
import HandS.Strs
import HandS.SetFor
import PySem.Challenge.RW_marqueeletters_k36_whole_seasons_as_text
set_option Elab.async false
set_option linter.all false
set_option maxRecDepth 100000
set_option maxHeartbeats 4000000
/-! A layer of our own over HandS: values as deep data, the heap as a frozen part and owned objects. -/
namespace AL
open PySem L2
abbrev Frg := PySem.W.Frag
abbrev Ex : Hp → Hp → Prop := Evl.Ex
theorem Ex.refl {H : Hp} : Ex H H := Evl.Ex.refl H
theorem Ex.trans {H H1 H2 : Hp} (a : Ex H H1) (b : Ex H1 H2) : Ex H H2 := Evl.Ex.trans a b

/-- deep data -/
inductive D where
  | non | bl (b : Bool) | int (i : Int) | str (x : Str) | ref (a : Addr) | ty (n : String)
  | tup (ds : List D) | lst (ds : List D) | rdl (ds : List D) | dic (kvs : List (Key × D))

mutual
inductive Rep (K : Frg) (F : Hp) : D → V → Prop
  | non : Rep K F .non .non
  | bl (b : Bool) : Rep K F (.bl b) (.bl b)
  | int (i : Int) : Rep K F (.int i) (.int i)
  | str (x : Str) : Rep K F (.str x) (.str x)
  | ref (a : Addr) : Rep K F (.ref a) (.ref a)
  | ty (n : String) : Rep K F (.ty n) (.ty n)
  | tup {a : Addr} {xs : List V} {ds : List D} : SqT K F a xs → RepL K F ds xs → Rep K F (.tup ds) (.ref a)
  | lst {a : Addr} {xs : List V} {ds : List D} : F a = some (.lst xs) → RepL K F ds xs → Rep K F (.lst ds) (.ref a)
  | rdl {a : Addr} {xs : List V} {ds : List D} : SqL K F a xs → RepL K F ds xs → Rep K F (.rdl ds) (.ref a)
  | dic {a : Addr} {xs : List (Key × V)} {ds : List (Key × D)} : F a = some (.dK xs) → RepK K F ds xs → Rep K F (.dic ds) (.ref a)
inductive RepL (K : Frg) (F : Hp) : List D → List V → Prop
  | nil : RepL K F [] []
  | cons {d : D} {v : V} {ds : List D} {vs : List V} : Rep K F d v → RepL K F ds vs → RepL K F (d :: ds) (v :: vs)
inductive RepK (K : Frg) (F : Hp) : List (Key × D) → List (Key × V) → Prop
  | nil : RepK K F [] []
  | cons {k : Key} {d : D} {v : V} {ds : List (Key × D)} {vs : List (Key × V)} : Rep K F d v → RepK K F ds vs → RepK K F ((k, d) :: ds) ((k, v) :: vs)
end
theorem ex_t {K : Frg} {H H' : Hp} {a : Addr} {xs : List V} (e : Ex H H') (h : SqT K H a xs) : SqT K H' a xs := Evl.ex_t e h
theorem ex_l {K : Frg} {H H' : Hp} {a : Addr} {xs : List V} (e : Ex H H') (h : SqL K H a xs) : SqL K H' a xs := Evl.ex_l e h
section
variable {K : Frg} {F F' : Hp}
mutual
theorem Rep.mono (e : Ex F F') : ∀ {d : D} {v : V}, Rep K F d v → Rep K F' d v
  | _, _, .non => .non
  | _, _, .bl b => .bl b
  | _, _, .int i => .int i
  | _, _, .str x => .str x
  | _, _, .ref a => .ref a
  | _, _, .ty n => .ty n
  | _, _, .tup h r => .tup (ex_t e h) (RepL.mono e r)
  | _, _, .lst h r => .lst (e _ _ h) (RepL.mono e r)
  | _, _, .rdl h r => .rdl (ex_l e h) (RepL.mono e r)
  | _, _, .dic h r => .dic (e _ _ h) (RepK.mono e r)
theorem RepL.mono (e : Ex F F') : ∀ {ds : List D} {vs : List V}, RepL K F ds vs → RepL K F' ds vs
  | _, _, .nil => .nil
  | _, _, .cons h r => .cons (Rep.mono e h) (RepL.mono e r)
theorem RepK.mono (e : Ex F F') : ∀ {ds : List (Key × D)} {vs : List (Key × V)}, RepK K F ds vs → RepK K F' ds vs
  | _, _, .nil => .nil
  | _, _, .cons h r => .cons (Rep.mono e h) (RepK.mono e r)
end
theorem RepL.len : ∀ {ds : List D} {vs : List V}, RepL K F ds vs → ds.length = vs.length
  | _, _, .nil => rfl
  | _, _, .cons _ r => by rw [List.length_cons, List.length_cons, RepL.len r]
theorem RepL.get : ∀ {ds : List D} {vs : List V} {i : Nat} {v : V}, RepL K F ds vs → vs[i]? = some v → ∃ d, ds[i]? = some d ∧ Rep K F d v
  | _, _, _, _, .nil, h => by simp at h
  | _, _, 0, _, .cons h _, e => by simp at e; subst e; exact ⟨_, rfl, h⟩
  | _, _, i + 1, _, .cons _ r, e => by simp at e; obtain ⟨d, h1, h2⟩ := RepL.get r e; exact ⟨d, by simpa using h1, h2⟩
theorem RepL.getD : ∀ {ds : List D} {vs : List V} {i : Nat} {d : D}, RepL K F ds vs → ds[i]? = some d → ∃ v, vs[i]? = some v ∧ Rep K F d v
  | _, _, _, _, .nil, h => by simp at h
  | _, _, 0, _, .cons h _, e => by simp at e; subst e; exact ⟨_, rfl, h⟩
  | _, _, i + 1, _, .cons _ r, e => by simp at e; obtain ⟨d, h1, h2⟩ := RepL.getD r e; exact ⟨d, by simpa using h1, h2⟩
theorem RepL.append : ∀ {ds es : List D} {vs ws : List V}, RepL K F ds vs → RepL K F es ws → RepL K F (ds ++ es) (vs ++ ws)
  | _, _, _, _, .nil, s => s
  | _, _, _, _, .cons h r, s => .cons h (RepL.append r s)
theorem RepL.one {d : D} {v : V} (h : Rep K F d v) : RepL K F [d] [v] := .cons h .nil
theorem RepL.set {d : D} {v : V} (h : Rep K F d v) : ∀ {ds : List D} {vs : List V} (i : Nat), RepL K F ds vs → RepL K F (ds.set i d) (vs.set i v)
  | _, _, _, .nil => .nil
  | _, _, 0, .cons _ r => .cons h r
  | _, _, i + 1, .cons q r => .cons q (RepL.set h i r)
theorem RepL.take : ∀ {ds : List D} {vs : List V} (n : Nat), RepL K F ds vs → RepL K F (ds.take n) (vs.take n)
  | _, _, 0, _ => .nil
  | _, _, _ + 1, .nil => .nil
  | _, _, n + 1, .cons h r => .cons h (RepL.take n r)
theorem RepL.drop : ∀ {ds : List D} {vs : List V} (n : Nat), RepL K F ds vs → RepL K F (ds.drop n) (vs.drop n)
  | _, _, 0, r => r
  | _, _, _ + 1, .nil => .nil
  | _, _, n + 1, .cons _ r => RepL.drop n r
theorem RepL.eraseIdx : ∀ {ds : List D} {vs : List V} (n : Nat), RepL K F ds vs → RepL K F (ds.eraseIdx n) (vs.eraseIdx n)
  | _, _, _, .nil => .nil
  | _, _, 0, .cons _ r => r
  | _, _, n + 1, .cons h r => .cons h (RepL.eraseIdx n r)
theorem RepK.len : ∀ {ds : List (Key × D)} {vs : List (Key × V)}, RepK K F ds vs → ds.length = vs.length
  | _, _, .nil => rfl
  | _, _, .cons _ r => by rw [List.length_cons, List.length_cons, RepK.len r]
theorem RepK.append : ∀ {ds es : List (Key × D)} {vs ws : List (Key × V)}, RepK K F ds vs → RepK K F es ws → RepK K F (ds ++ es) (vs ++ ws)
  | _, _, _, _, .nil, s => s
  | _, _, _, _, .cons h r, s => .cons h (RepK.append r s)
end

/-! ### owned objects -/
inductive MO where
  | lst (ds : List D) | dic (kvs : List (Key × D)) | ins (C : Addr) (fs : List (Str × D)) | raw (o : HO)
inductive RepF (K : Frg) (F : Hp) : List (Str × D) → List (Str × V) → Prop
  | nil : RepF K F [] []
  | cons {k : Str} {d : D} {v : V} {ds : List (Str × D)} {vs : List (Str × V)} : Rep K F d v → RepF K F ds vs → RepF K F ((k, d) :: ds) ((k, v) :: vs)
def MRep (K : Frg) (F H : Hp) (a : Addr) : MO → Prop
  | .lst ds => ∃ vs, H a = some (.lst vs) ∧ RepL K F ds vs
  | .dic ds => ∃ vs, H a = some (.dK vs) ∧ RepK K F ds vs
  | .ins C fs => ∃ dx gs, H a = some (.ins C dx gs) ∧ F dx = some (.own a) ∧ RepF K F fs gs
  | .raw o => H a = some o
abbrev Ms := List (Addr × MO)
structure Hold (K : Frg) (F : Hp) (ms : Ms) (H : Hp) : Prop where
  ex : Ex F H
  own : ∀ p ∈ ms, F p.1 = none ∧ MRep K F H p.1 p.2
  nd : (ms.map Prod.fst).Nodup
section
variable {K : Frg} {F F' H : Hp} {ms : Ms}
theorem RepF.mono (e : Ex F F') : ∀ {ds : List (Str × D)} {vs : List (Str × V)}, RepF K F ds vs → RepF K F' ds vs
  | _, _, .nil => .nil
  | _, _, .cons h r => .cons (h.mono e) (RepF.mono e r)
theorem RepF.look : ∀ {ds : List (Str × D)} {vs : List (Str × V)} {f : Str} {d : D}, RepF K F ds vs → ds.lookup f = some d → ∃ v, vs.lookup f = some v ∧ Rep K F d v
  | _, _, _, _, .nil, h => by simp at h
  | _, _, f, d, .cons (k := k) h r, e => by
    rw [List.lookup_cons] at e ⊢
    cases q : f == k with
    | true => rw [q] at e; cases e; exact ⟨_, rfl, h⟩
    | false => rw [q] at e; exact RepF.look r e
theorem RepF.lookN : ∀ {ds : List (Str × D)} {vs : List (Str × V)} {f : Str}, RepF K F ds vs → ds.lookup f = none → vs.lookup f = none
  | _, _, _, .nil, h => rfl
  | _, _, f, .cons (k := k) h r, e => by
    rw [List.lookup_cons] at e ⊢
    cases q : f == k with
    | true => rw [q] at e; cases e
    | false => rw [q] at e; exact RepF.lookN r e
theorem RepF.len : ∀ {ds : List (Str × D)} {vs : List (Str × V)}, RepF K F ds vs → ds.length = vs.length
  | _, _, .nil => rfl
  | _, _, .cons _ r => by rw [List.length_cons, List.length_cons, RepF.len r]
def putD (f : Str) (d : D) : List (Str × D) → List (Str × D)
  | [] => [(f, d)]
  | (g, e) :: r => if g = f then (f, d) :: r else (g, e) :: putD f d r
theorem RepF.put {f : Str} {d : D} {v : V} (h : Rep K F d v) : ∀ {ds : List (Str × D)} {vs : List (Str × V)}, RepF K F ds vs → RepF K F (putD f d ds) (putF f v vs)
  | _, _, .nil => .cons h .nil
  | _, _, .cons (k := k) q r => by
    unfold putD putF
    split
    · rename_i e; subst e; exact .cons h r
    · exact .cons q (RepF.put h r)
theorem MRep.mono (e : Ex F F') : ∀ {m : MO} {a : Addr}, MRep K F H a m → MRep K F' H a m
  | .lst _, _, ⟨vs, h, r⟩ => ⟨vs, h, r.mono e⟩
  | .dic _, _, ⟨vs, h, r⟩ => ⟨vs, h, r.mono e⟩
  | .ins _ _, _, ⟨dx, gs, h, q, r⟩ => ⟨dx, gs, h, e _ _ q, r.mono e⟩
  | .raw _, _, h => h
theorem MRep.there : ∀ {m : MO} {a : Addr}, MRep K F H a m → ∃ o, H a = some o
  | .lst _, _, ⟨_, h, _⟩ => ⟨_, h⟩
  | .dic _, _, ⟨_, h, _⟩ => ⟨_, h⟩
  | .ins _ _, _, ⟨_, _, h, _⟩ => ⟨_, h⟩
  | .raw _, _, h => ⟨_, h⟩
theorem MRep.at {H' : Hp} : ∀ {m : MO} {a : Addr}, MRep K F H a m → H' a = H a → MRep K F H' a m
  | .lst _, _, ⟨vs, h, r⟩, e => ⟨vs, e.trans h, r⟩
  | .dic _, _, ⟨vs, h, r⟩, e => ⟨vs, e.trans h, r⟩
  | .ins _ _, _, ⟨dx, gs, h, q, r⟩, e => ⟨dx, gs, e.trans h, q, r⟩
  | .raw _, _, h, e => Eq.trans e h
theorem free_of (e : Ex F H) {p : Addr} (h : H p = none) : F p = none := Evl.fresh_back e h
theorem Hold.free (h : Hold K F ms H) {p : Addr} (hp : H p = none) : F p = none := free_of h.ex hp
theorem Hold.ne (h : Hold K F ms H) {p : Addr} (hp : H p = none) : ∀ q ∈ ms, q.1 ≠ p := fun q hq e => by
  obtain ⟨o, ho⟩ := (h.own q hq).2.there
  rw [e, hp] at ho
  cases ho
/-- a new frozen object -/
theorem Hold.laid (h : Hold K F ms H) {p : Addr} (o : HO) (hp : H p = none) : Ex F (upd F p o) ∧ Hold K (upd F p o) ms (upd H p o) := by
  have e : Ex F (upd F p o) := Evl.Ex.new (h.free hp)
  refine ⟨e, fun a u q => ?_, fun q hq => ?_, h.nd⟩
  · by_cases ha : a = p
    · subst ha; rw [upd_same] at q ⊢; exact q
    · rw [upd_ne ha] at q ⊢; exact h.ex _ _ q
  · have ne := h.ne hp q hq
    refine ⟨by rw [upd_ne ne]; exact (h.own q hq).1, ((h.own q hq).2.mono e).at (upd_ne ne)⟩
/-- a new owned object -/
theorem Hold.made (h : Hold K F ms H) {p : Addr} {o : HO} {m : MO} (hp : H p = none) (hm : MRep K F (upd H p o) p m) : Hold K F ((p, m) :: ms) (upd H p o) := by
  refine ⟨h.ex.trans (Evl.Ex.new hp), fun q hq => ?_, ?_⟩
  · rcases List.mem_cons.mp hq with rfl | hq
    · exact ⟨h.free hp, hm⟩
    · exact ⟨(h.own q hq).1, (h.own q hq).2.at (upd_ne (h.ne hp q hq))⟩
  · rw [List.map_cons]
    refine List.nodup_cons.mpr ⟨fun hm' => ?_, h.nd⟩
    obtain ⟨q, hq, e⟩ := List.mem_map.mp hm'
    exact h.ne hp q hq e
theorem Hold.at (h : Hold K F ms H) {i : Nat} {l : Addr} {m : MO} (hi : ms[i]? = some (l, m)) : F l = none ∧ MRep K F H l m := h.own (l, m) (List.mem_of_getElem? hi)
theorem map_fst_set {i : Nat} {l : Addr} {m m' : MO} : ∀ {ms : Ms} {i : Nat}, ms[i]? = some (l, m) → (ms.set i (l, m')).map Prod.fst = ms.map Prod.fst
  | [], _, h => by simp at h
  | _ :: _, 0, h => by simp at h; subst h; rfl
  | _ :: r, i + 1, h => by
    show _ :: (r.set i (l, m')).map Prod.fst = _ :: r.map Prod.fst
    rw [map_fst_set (i := i) (by simpa using h)]
/-- an owned object is changed -/
theorem Hold.set (h : Hold K F ms H) {i : Nat} {l : Addr} {m m' : MO} {o : HO} (hi : ms[i]? = some (l, m)) (hm : MRep K F (upd H l o) l m') : Hold K F (ms.set i (l, m')) (upd H l o) := by
  have hl := h.at hi
  refine ⟨Evl.Ex.mut h.ex hl.1, fun q hq => ?_, by rw [map_fst_set (i := i) hi]; exact h.nd⟩
  obtain ⟨j, hj⟩ := List.getElem?_of_mem hq
  by_cases e : j = i
  · subst e
    have hlt : j < ms.length := (List.getElem?_eq_some_iff.mp hi).1
    rw [List.getElem?_set_self hlt] at hj
    cases hj
    exact ⟨hl.1, hm⟩
  · rw [List.getElem?_set_ne (Ne.symm e)] at hj
    have hq' := h.own q (List.mem_of_getElem? hj)
    refine ⟨hq'.1, hq'.2.at (upd_ne fun z => e ?_)⟩
    have h1 : (ms.map Prod.fst)[j]? = some q.1 := by rw [List.getElem?_map, hj]; rfl
    have h2 : (ms.map Prod.fst)[i]? = some q.1 := by rw [List.getElem?_map, hi, z]; rfl
    exact nodup_ix' h.nd h1 h2
where
  nodup_ix' {N : List Addr} (hN : N.Nodup) {i j : Nat} {x : Addr} (a : N[i]? = some x) (b : N[j]? = some x) : i = j := by
    obtain ⟨h1, e1⟩ := List.getElem?_eq_some_iff.mp a
    obtain ⟨h2, e2⟩ := List.getElem?_eq_some_iff.mp b
    exact (List.getElem_inj hN).mp (e1.trans e2.symm)
theorem Hold.drop (h : Hold K F ms H) (i : Nat) : Hold K F (ms.eraseIdx i) H :=
  ⟨h.ex, fun q hq => h.own q (List.mem_of_mem_eraseIdx hq), by
    have e : (ms.eraseIdx i).map Prod.fst = (ms.map Prod.fst).eraseIdx i := map_erase _ _
    rw [e]
    exact h.nd.sublist (List.eraseIdx_sublist _ _)⟩
where
  map_erase : ∀ (l : Ms) (i : Nat), (l.eraseIdx i).map Prod.fst = (l.map Prod.fst).eraseIdx i
    | [], _ => rfl
    | _ :: _, 0 => rfl
    | p :: r, i + 1 => by
      show p.1 :: (r.eraseIdx i).map Prod.fst = p.1 :: (r.map Prod.fst).eraseIdx i
      rw [map_erase r i]
theorem Hold.tl {p : Addr × MO} (h : Hold K F (p :: ms) H) : Hold K F ms H := h.drop 0
/-- an owned object freezes -/
theorem Hold.freeze (h : Hold K F ms H) {i : Nat} {l : Addr} {m : MO} (hi : ms[i]? = some (l, m)) : ∃ o, H l = some o ∧ Ex F (upd F l o) ∧ Hold K (upd F l o) (ms.eraseIdx i) H := by
  have hl := h.at hi
  obtain ⟨o, ho⟩ := hl.2.there
  have e : Ex F (upd F l o) := Evl.Ex.new hl.1
  have d := h.drop i
  refine ⟨o, ho, e, fun a u q => ?_, fun q hq => ?_, d.nd⟩
  · by_cases ha : a = l
    · subst ha; rw [upd_same] at q; rw [← q]; exact ho
    · rw [upd_ne ha] at q; exact h.ex _ _ q
  · have hq' := d.own q hq
    have ne : q.1 ≠ l := fun z => by
      obtain ⟨j, hj⟩ := List.getElem?_of_mem hq
      rw [List.getElem?_eraseIdx] at hj
      have two : ∀ k, ms[k]? = some q → k = i := fun k hk => by
        have h1 : (ms.map Prod.fst)[k]? = some q.1 := by rw [List.getElem?_map, hk]; rfl
        have h2 : (ms.map Prod.fst)[i]? = some q.1 := by rw [List.getElem?_map, hi, z]; rfl
        exact Hold.set.nodup_ix' h.nd h1 h2
      split at hj
      · have := two _ hj; omega
      · have := two _ hj; omega
    exact ⟨by rw [upd_ne ne]; exact hq'.1, hq'.2.mono e⟩
end

/-! ### the slots -/
abbrev Sg := List (Option D)
def SRep (K : Frg) (F : Hp) (S : Sg) (σ : St) : Prop := S.length = σ.length ∧ ∀ (i : Nat) (d : D), S[i]? = some (some d) → ∃ v, σ[i]? = some (some v) ∧ Rep K F d v
section
variable {K : Frg} {F F' : Hp} {S : Sg} {σ : St}
theorem SRep.mono (e : Ex F F') (h : SRep K F S σ) : SRep K F' S σ := ⟨h.1, fun i d q => by
  obtain ⟨v, h1, h2⟩ := h.2 i d q
  exact ⟨v, h1, h2.mono e⟩⟩
theorem SRep.set (h : SRep K F S σ) {i : Nat} {d : D} {v : V} (r : Rep K F d v) : SRep K F (S.set i (some d)) (σ.set i (some v)) := by
  refine ⟨by rw [List.length_set, List.length_set]; exact h.1, fun j e q => ?_⟩
  by_cases hj : j = i
  · subst hj
    by_cases hl : j < S.length
    · rw [List.getElem?_set_self hl] at q
      cases q
      exact ⟨v, by rw [List.getElem?_set_self (by rw [← h.1]; exact hl)], r⟩
    · rw [List.getElem?_eq_none (by rw [List.length_set]; omega)] at q
      cases q
  · rw [List.getElem?_set_ne (Ne.symm hj)] at q ⊢
    exact h.2 j e q
theorem SRep.setN (h : SRep K F S σ) {i : Nat} : SRep K F (S.set i none) (σ.set i none) := by
  refine ⟨by rw [List.length_set, List.length_set]; exact h.1, fun j e q => ?_⟩
  by_cases hj : j = i
  · subst hj
    by_cases hl : j < S.length
    · rw [List.getElem?_set_self hl] at q
      cases q
    · rw [List.getElem?_eq_none (by rw [List.length_set]; omega)] at q
      cases q
  · rw [List.getElem?_set_ne (Ne.symm hj)] at q ⊢
    exact h.2 j e q
/-- another datum for the value in a slot -/
theorem SRep.re (h : SRep K F S σ) {i : Nat} {d : D} (r : ∀ v, σ[i]? = some (some v) → Rep K F d v) {d0 : D} (h0 : S[i]? = some (some d0)) : SRep K F (S.set i (some d)) σ := by
  refine ⟨by rw [List.length_set]; exact h.1, fun j e q => ?_⟩
  by_cases hj : j = i
  · subst hj
    have hl : j < S.length := (List.getElem?_eq_some_iff.mp h0).1
    rw [List.getElem?_set_self hl] at q
    cases q
    obtain ⟨v, h1, _⟩ := h.2 j d0 h0
    exact ⟨v, h1, r v h1⟩
  · rw [List.getElem?_set_ne (Ne.symm hj)] at q
    exact h.2 j e q
def wipeS (S : Sg) : List Nat → Sg
  | [] => S
  | v :: vs => (wipeS S vs).set v none
theorem SRep.wipe (h : SRep K F S σ) : ∀ vs : List Nat, SRep K F (wipeS S vs) (L2.wipe σ vs)
  | [] => h
  | v :: vs => SRep.setN (SRep.wipe h vs)
theorem SRep.weak (h : SRep K F S σ) {S' : Sg} (hl : S'.length = S.length) (hw : ∀ (i : Nat) d, S'[i]? = some (some d) → S[i]? = some (some d)) : SRep K F S' σ :=
  ⟨hl.trans h.1, fun i d q => h.2 i d (hw i d q)⟩
end

/-! ### the judgements -/
abbrev QE := Hp → Ms → D → Prop
/-- what is wanted of an exception: its class, its attributes -/
abbrev XA := Addr → List (Str × D) → Hp → Ms → Prop
/-- where one stands: the written part, what is wanted of an exception (concretely, abstractly) -/
structure Cg where
  K : Frg
  E : XK
  Ea : XA
/-- the attributes of an exception: its own dict -/
def XDat (K : Frg) (F H : Hp) (dx : Option Addr) (fs : List (Str × D)) : Prop := (dx = none ∧ fs = []) ∨ ∃ d gs, dx = some d ∧ H d = some (.xd gs) ∧ RepF K F fs gs
def XLe (Γ : Cg) (R : Ms) (F : Hp) : Prop := ∀ F' ms' C dx fs H', Ex F F' → Hold Γ.K F' (ms' ++ R) H' → XDat Γ.K F' H' dx fs → Γ.Ea C fs F' ms' → Γ.E (.ref C) dx H'
theorem XLe.ex {Γ : Cg} {R : Ms} {F F' : Hp} (x : XLe Γ R F) (e : Ex F F') : XLe Γ R F' := fun F2 ms' C dx fs H' e2 => x F2 ms' C dx fs H' (e.trans e2)
abbrev QS := Hp → Ms → Sg → Prop
def AE (Γ : Cg) (te : TE) (F : Hp) (ms : Ms) (S : Sg) (Q : QE) : Prop := ∀ (R : Ms) σ H (Qc : VK), SRep Γ.K F S σ → Hold Γ.K F (ms ++ R) H → XLe Γ R F → (∀ F' ms' d v H', Ex F F' → Hold Γ.K F' (ms' ++ R) H' → Rep Γ.K F' d v → Q F' ms' d → Qc v H') → te σ H Qc
def AA (Γ : Cg) (ta : TA) (F : Hp) (ms : Ms) (S : Sg) (Q : Hp → Ms → List D → Prop) : Prop := ∀ (R : Ms) σ H (Qc : List V → Hp → Prop), SRep Γ.K F S σ → Hold Γ.K F (ms ++ R) H → XLe Γ R F → (∀ F' ms' ds vs H', Ex F F' → Hold Γ.K F' (ms' ++ R) H' → RepL Γ.K F' ds vs → Q F' ms' ds → Qc vs H') → ta σ H Qc
def AT (Γ : Cg) (tt : TT) (F : Hp) (ms : Ms) (S : Sg) (Q : Hp → Ms → Bool → Prop) : Prop := ∀ (R : Ms) σ H (Qc : Bool → Hp → Prop), SRep Γ.K F S σ → Hold Γ.K F (ms ++ R) H → XLe Γ R F → (∀ F' ms' b H', Ex F F' → Hold Γ.K F' (ms' ++ R) H' → Q F' ms' b → Qc b H') → tt σ H Qc
def AR (K : Frg) (r : R2) (x y : D) (F : Hp) (ms : Ms) (Q : QE) : Prop := ∀ (R : Ms) u v H (Qc : VK), Rep K F x u → Rep K F y v → Hold K F (ms ++ R) H → (∀ F' ms' d v H', Ex F F' → Hold K F' (ms' ++ R) H' → Rep K F' d v → Q F' ms' d → Qc v H') → r u v H Qc
def AC (K : Frg) (r : List V → Hp → VK → Prop) (ds : List D) (F : Hp) (ms : Ms) (Q : QE) : Prop := ∀ (R : Ms) vs H (Qc : VK), RepL K F ds vs → Hold K F (ms ++ R) H → (∀ F' ms' d v H', Ex F F' → Hold K F' (ms' ++ R) H' → Rep K F' d v → Q F' ms' d → Qc v H') → r vs H Qc
/-- a method of a built-in type: the receiver, the arguments -/
def AM (K : Frg) (T : String) (r : V → List V → Hp → VK → Prop) (x : D) (ds : List D) (F : Hp) (ms : Ms) (Q : QE) : Prop := ∀ (R : Ms) u vs H (Qc : VK), Rep K F x u → RepL K F ds vs → Hold K F (ms ++ R) H → (∀ F' ms' d v H', Ex F F' → Hold K F' (ms' ++ R) H' → Rep K F' d v → Q F' ms' d → Qc v H') → r u vs H Qc
structure AEnds where
  nx : QS
  rt : QE
  bk : QS := fun _ _ _ => False
  ct : QS := fun _ _ _ => False
structure Le (Γ : Cg) (R : Ms) (F : Hp) (A : AEnds) (E : Ends) : Prop where
  xe : XLe Γ R F
  nx : ∀ F' ms' S' σ' H', Ex F F' → SRep Γ.K F' S' σ' → Hold Γ.K F' (ms' ++ R) H' → A.nx F' ms' S' → E.nx σ' H'
  rt : ∀ F' ms' d v H', Ex F F' → Hold Γ.K F' (ms' ++ R) H' → Rep Γ.K F' d v → A.rt F' ms' d → E.rt v H'
  bk : ∀ F' ms' S' σ' H', Ex F F' → SRep Γ.K F' S' σ' → Hold Γ.K F' (ms' ++ R) H' → A.bk F' ms' S' → E.bk σ' H'
  ct : ∀ F' ms' S' σ' H', Ex F F' → SRep Γ.K F' S' σ' → Hold Γ.K F' (ms' ++ R) H' → A.ct F' ms' S' → E.ct σ' H'
def AS (Γ : Cg) (ts : TS) (F : Hp) (ms : Ms) (S : Sg) (A : AEnds) : Prop := ∀ (R : Ms) (E : Ends) σ H, SRep Γ.K F S σ → Hold Γ.K F (ms ++ R) H → Le Γ R F A E → ts E σ H
theorem Le.ex {Γ : Cg} {R : Ms} {F F' : Hp} {A : AEnds} {E : Ends} (l : Le Γ R F A E) (e : Ex F F') : Le Γ R F' A E :=
  ⟨l.xe.ex e, fun F'' ms' S' σ' H' x => l.nx F'' ms' S' σ' H' (e.trans x), fun F'' ms' d v H' x => l.rt F'' ms' d v H' (e.trans x), fun F'' ms' S' σ' H' x => l.bk F'' ms' S' σ' H' (e.trans x), fun F'' ms' S' σ' H' x => l.ct F'' ms' S' σ' H' (e.trans x)⟩

section
variable {Γ : Cg} {K : Frg} {F : Hp} {ms : Ms} {S : Sg} {Q : QE} {ta tb te tx : TE} {t u : TT} {r : R2}
/-! ### expressions -/
theorem ae_var {i : Nat} {d : D} (h : S[i]? = some (some d)) (q : Q F ms d) : AE Γ (tVar i) F ms S Q := fun R σ H Qc hs hh x k => by
  obtain ⟨v, h1, h2⟩ := hs.2 i d h
  exact ⟨v, h1, k F ms d v H Ex.refl hh h2 q⟩
theorem ae_int {i : Int} (q : Q F ms (.int i)) : AE Γ (tC (.int i)) F ms S Q := fun R σ H Qc hs hh x k => k F ms _ _ H Ex.refl hh (.int i) q
theorem ae_bl {i : Bool} (q : Q F ms (.bl i)) : AE Γ (tC (.bl i)) F ms S Q := fun R σ H Qc hs hh x k => k F ms _ _ H Ex.refl hh (.bl i) q
theorem ae_str {i : Str} (q : Q F ms (.str i)) : AE Γ (tC (.str i)) F ms S Q := fun R σ H Qc hs hh x k => k F ms _ _ H Ex.refl hh (.str i) q
theorem ae_non (q : Q F ms .non) : AE Γ (tC .non) F ms S Q := fun R σ H Qc hs hh x k => k F ms _ _ H Ex.refl hh .non q
theorem ae_ty {n : String} (q : Q F ms (.ty n)) : AE Γ (tC (.ty n)) F ms S Q := fun R σ H Qc hs hh x k => k F ms _ _ H Ex.refl hh (.ty n) q
theorem ae_ref {a : Addr} (q : Q F ms (.ref a)) : AE Γ (tC (.ref a)) F ms S Q := fun R σ H Qc hs hh x k => k F ms _ _ H Ex.refl hh (.ref a) q
theorem AE.mono {Q' : QE} (h : AE Γ te F ms S Q) (m : ∀ F' ms' d, Ex F F' → Q F' ms' d → Q' F' ms' d) : AE Γ te F ms S Q' := fun R σ H Qc hs hh x k => h R σ H Qc hs hh x fun F' ms' d v H' e ho hr q => k F' ms' d v H' e ho hr (m F' ms' d e q)
theorem AS.mono {ts : TS} {A A' : AEnds} (h : AS Γ ts F ms S A) (m1 : ∀ F' ms' S', Ex F F' → A.nx F' ms' S' → A'.nx F' ms' S') (m2 : ∀ F' ms' d, Ex F F' → A.rt F' ms' d → A'.rt F' ms' d)
    (m3 : ∀ F' ms' S', Ex F F' → A.bk F' ms' S' → A'.bk F' ms' S') (m4 : ∀ F' ms' S', Ex F F' → A.ct F' ms' S' → A'.ct F' ms' S') : AS Γ ts F ms S A' := fun R E σ H hs hh l =>
  h R E σ H hs hh ⟨l.xe, fun F' ms' S' σ' H' e a b q => l.nx F' ms' S' σ' H' e a b (m1 _ _ _ e q), fun F' ms' d v H' e a b q => l.rt F' ms' d v H' e a b (m2 _ _ _ e q), fun F' ms' S' σ' H' e a b q => l.bk F' ms' S' σ' H' e a b (m3 _ _ _ e q), fun F' ms' S' σ' H' e a b q => l.ct F' ms' S' σ' H' e a b (m4 _ _ _ e q)⟩
theorem ae_op (h : AE Γ ta F ms S fun F1 ms1 x => AE Γ tb F1 ms1 S fun F2 ms2 y => AR Γ.K r x y F2 ms2 Q) : AE Γ (tOp r ta tb) F ms S Q := fun R σ H Qc hs hh x k =>
  h R σ H _ hs hh x fun F1 ms1 x1 v1 H1 e1 h1 r1 q1 => q1 R σ H1 _ (hs.mono e1) h1 (x.ex e1) fun F2 ms2 y v2 H2 e2 h2 r2 q2 => q2 R v1 v2 H2 Qc (r1.mono e2) r2 h2 fun F3 ms3 d v3 H3 e3 h3 r3 q3 => k F3 ms3 d v3 H3 ((e1.trans e2).trans e3) h3 r3 q3
theorem ae_un {r1 : V → Hp → VK → Prop} (h : AE Γ ta F ms S fun F1 ms1 x => ∀ (R : Ms) u H (Qc : VK), Rep Γ.K F1 x u → Hold Γ.K F1 (ms1 ++ R) H → (∀ F' ms' d v H', Ex F1 F' → Hold Γ.K F' (ms' ++ R) H' → Rep Γ.K F' d v → Q F' ms' d → Qc v H') → r1 u H Qc) : AE Γ (tUn r1 ta) F ms S Q := fun R σ H Qc hs hh x k =>
  h R σ H _ hs hh x fun F1 ms1 x1 v1 H1 e1 h1 r1 q1 => q1 R v1 H1 Qc r1 h1 fun F3 ms3 d v3 H3 e3 h3 r3 q3 => k F3 ms3 d v3 H3 (e1.trans e3) h3 r3 q3
theorem ae_neg {f : Int → V} {g : Int → Int} (hf : ∀ i, f i = .int (g i)) (h : AE Γ ta F ms S fun F1 ms1 x => ∃ i, x = .int i ∧ Q F1 ms1 (.int (g i))) : AE Γ (tUn (rU f) ta) F ms S Q := ae_un (AE.mono h fun F1 ms1 x e ⟨i, hx, q⟩ R u H Qc hr hh k => by
  subst hx
  cases hr
  refine ⟨i, rfl, ?_⟩
  rw [hf]
  exact k F1 ms1 _ _ H Ex.refl hh (.int _) q)
theorem aa_nil {Q : Hp → Ms → List D → Prop} (q : Q F ms []) : AA Γ tNil F ms S Q := fun R σ H Qc hs hh x k => k F ms [] [] H Ex.refl hh .nil q
theorem aa_cons {tr : TA} {Q : Hp → Ms → List D → Prop} (h : AE Γ te F ms S fun F1 ms1 x => AA Γ tr F1 ms1 S fun F2 ms2 xs => Q F2 ms2 (x :: xs)) : AA Γ (tCons te tr) F ms S Q := fun R σ H Qc hs hh x k =>
  h R σ H _ hs hh x fun F1 ms1 x1 v1 H1 e1 h1 r1 q1 => q1 R σ H1 _ (hs.mono e1) h1 (x.ex e1) fun F2 ms2 xs vs H2 e2 h2 r2 q2 => k F2 ms2 (x1 :: xs) (v1 :: vs) H2 (e1.trans e2) h2 (.cons (r1.mono e2) r2) q2
theorem ae_tup {ta : TA} (h : AA Γ ta F ms S fun F1 ms1 xs => xs.length ≤ 100000 ∧ ∀ F2, Ex F1 F2 → Q F2 ms1 (.tup xs)) : AE Γ (tTup ta) F ms S Q := fun R σ H Qc hs hh x k =>
  h R σ H _ hs hh x fun F1 ms1 xs vs H1 e1 h1 r1 q1 => ⟨Evl.sz_of (by rw [← r1.len]; exact q1.1), fun p hp => by
    obtain ⟨e2, h2⟩ := h1.laid (.tup vs) hp
    exact k _ ms1 (.tup xs) _ _ (e1.trans e2) h2 (.tup (SqT.of upd_same) (r1.mono e2)) (q1.2 _ e2)⟩
/-- a displayed list, frozen -/
theorem ae_lstF {ta : TA} (h : AA Γ ta F ms S fun F1 ms1 xs => xs.length ≤ 100000 ∧ ∀ F2, Ex F1 F2 → Q F2 ms1 (.lst xs)) : AE Γ (tLst ta) F ms S Q := fun R σ H Qc hs hh x k =>
  h R σ H _ hs hh x fun F1 ms1 xs vs H1 e1 h1 r1 q1 => ⟨Evl.sz_of (by rw [← r1.len]; exact q1.1), fun p hp => by
    obtain ⟨e2, h2⟩ := h1.laid (.lst vs) hp
    exact k _ ms1 (.lst xs) _ _ (e1.trans e2) h2 (.lst upd_same (r1.mono e2)) (q1.2 _ e2)⟩
/-- a displayed list, owned -/
theorem ae_lstO {ta : TA} (h : AA Γ ta F ms S fun F1 ms1 xs => xs.length ≤ 100000 ∧ ∀ l, Q F1 ((l, .lst xs) :: ms1) (.ref l)) : AE Γ (tLst ta) F ms S Q := fun R σ H Qc hs hh x k =>
  h R σ H _ hs hh x fun F1 ms1 xs vs H1 e1 h1 r1 q1 => ⟨Evl.sz_of (by rw [← r1.len]; exact q1.1), fun p hp =>
    k _ _ (.ref p) _ _ e1 (h1.made (m := .lst xs) hp ⟨vs, upd_same, r1⟩) (.ref p) (q1.2 p)⟩
theorem ae_dnewO (h : ∀ l, Q F ((l, .dic []) :: ms) (.ref l)) : AE Γ tDNewK F ms S Q := fun R σ H Qc hs hh x k p hp => k _ _ (.ref p) _ _ Ex.refl (hh.made (m := .dic []) hp ⟨[], upd_same, .nil⟩) (.ref p) (h p)
theorem ae_call1 {rc : List V → Hp → VK → Prop} {ta : TA} (h : AA Γ ta F ms S fun F1 ms1 xs => AC Γ.K rc xs F1 ms1 Q) : AE Γ (tCB rc ta) F ms S Q := fun R σ H Qc hs hh x k =>
  h R σ H _ hs hh x fun F1 ms1 xs vs H1 e1 h1 r1 q1 => q1 R vs H1 Qc r1 h1 fun F2 ms2 d v H2 e2 h2 r2 q2 => k F2 ms2 d v H2 (e1.trans e2) h2 r2 q2
theorem ae_if (h : AT Γ t F ms S fun F1 ms1 b => (b = true → AE Γ ta F1 ms1 S Q) ∧ (b = false → AE Γ tb F1 ms1 S Q)) : AE Γ (tIf t ta tb) F ms S Q := fun R σ H Qc hs hh x k =>
  h R σ H _ hs hh x fun F1 ms1 b H1 e1 h1 q1 => by
    cases b with
    | true => exact q1.1 rfl R σ H1 Qc (hs.mono e1) h1 (x.ex e1) fun F2 ms2 d v H2 e2 h2 r2 q2 => k F2 ms2 d v H2 (e1.trans e2) h2 r2 q2
    | false => exact q1.2 rfl R σ H1 Qc (hs.mono e1) h1 (x.ex e1) fun F2 ms2 d v H2 e2 h2 r2 q2 => k F2 ms2 d v H2 (e1.trans e2) h2 r2 q2
theorem ae_andV (h : AE Γ ta F ms S fun F1 ms1 x => ∃ b, x = .bl b ∧ (b = true → AE Γ tb F1 ms1 S Q) ∧ (b = false → Q F1 ms1 (.bl false))) : AE Γ (tAndV ta tb) F ms S Q := fun R σ H Qc hs hh x k =>
  h R σ H _ hs hh x fun F1 ms1 x1 v1 H1 e1 h1 r1 ⟨b, hx, p1, p2⟩ => by
    subst hx
    cases r1
    refine ⟨b, rfl, ?_⟩
    cases b with
    | true => exact p1 rfl R σ H1 Qc (hs.mono e1) h1 (x.ex e1) fun F2 ms2 d v H2 e2 h2 r2 q2 => k F2 ms2 d v H2 (e1.trans e2) h2 r2 q2
    | false => exact k F1 ms1 _ _ H1 e1 h1 (.bl false) (p2 rfl)
theorem ae_orV (h : AE Γ ta F ms S fun F1 ms1 x => ∃ b, x = .bl b ∧ (b = false → AE Γ tb F1 ms1 S Q) ∧ (b = true → Q F1 ms1 (.bl true))) : AE Γ (tOrV ta tb) F ms S Q := fun R σ H Qc hs hh x k =>
  h R σ H _ hs hh x fun F1 ms1 x1 v1 H1 e1 h1 r1 ⟨b, hx, p1, p2⟩ => by
    subst hx
    cases r1
    refine ⟨b, rfl, ?_⟩
    cases b with
    | false => exact p1 rfl R σ H1 Qc (hs.mono e1) h1 (x.ex e1) fun F2 ms2 d v H2 e2 h2 r2 q2 => k F2 ms2 d v H2 (e1.trans e2) h2 r2 q2
    | true => exact k F1 ms1 _ _ H1 e1 h1 (.bl true) (p2 rfl)
theorem ae_notV (h : AE Γ ta F ms S fun F1 ms1 x => ∃ b, x = .bl b ∧ Q F1 ms1 (.bl (!b))) : AE Γ (tNotV ta) F ms S Q := fun R σ H Qc hs hh x k =>
  h R σ H _ hs hh x fun F1 ms1 x1 v1 H1 e1 h1 r1 ⟨b, hx, p1⟩ => by
    subst hx
    cases r1
    exact ⟨b, rfl, k F1 ms1 _ _ H1 e1 h1 (.bl _) p1⟩
/-! ### tests -/
variable {QT : Hp → Ms → Bool → Prop}
theorem at_test (h : AE Γ ta F ms S fun F1 ms1 x => ∃ b, x = .bl b ∧ QT F1 ms1 b) : AT Γ (tTest ta) F ms S QT := fun R σ H Qc hs hh x k =>
  h R σ H _ hs hh x fun F1 ms1 x1 v1 H1 e1 h1 r1 ⟨b, hx, p1⟩ => by
    subst hx
    cases r1
    exact ⟨b, rfl, k F1 ms1 b H1 e1 h1 p1⟩
theorem at_B (h : AE Γ ta F ms S fun F1 ms1 x => ∃ b, x = .bl b ∧ QT F1 ms1 b) : AT Γ (tB ta) F ms S QT := fun R σ H Qc hs hh x k =>
  h R σ H _ hs hh x fun F1 ms1 x1 v1 H1 e1 h1 r1 ⟨b, hx, p1⟩ => by
    subst hx
    cases r1
    exact ⟨b, rfl, k F1 ms1 b H1 e1 h1 p1⟩
theorem at_and (h : AT Γ t F ms S fun F1 ms1 b => (b = true → AT Γ u F1 ms1 S QT) ∧ (b = false → QT F1 ms1 false)) : AT Γ (tAnd t u) F ms S QT := fun R σ H Qc hs hh x k =>
  h R σ H _ hs hh x fun F1 ms1 b H1 e1 h1 q1 => by
    cases b with
    | true => exact q1.1 rfl R σ H1 Qc (hs.mono e1) h1 (x.ex e1) fun F2 ms2 d H2 e2 h2 q2 => k F2 ms2 d H2 (e1.trans e2) h2 q2
    | false => exact k F1 ms1 _ H1 e1 h1 (q1.2 rfl)
theorem at_or (h : AT Γ t F ms S fun F1 ms1 b => (b = false → AT Γ u F1 ms1 S QT) ∧ (b = true → QT F1 ms1 true)) : AT Γ (tOr t u) F ms S QT := fun R σ H Qc hs hh x k =>
  h R σ H _ hs hh x fun F1 ms1 b H1 e1 h1 q1 => by
    cases b with
    | false => exact q1.1 rfl R σ H1 Qc (hs.mono e1) h1 (x.ex e1) fun F2 ms2 d H2 e2 h2 q2 => k F2 ms2 d H2 (e1.trans e2) h2 q2
    | true => exact k F1 ms1 _ H1 e1 h1 (q1.2 rfl)
theorem at_not (h : AT Γ t F ms S fun F1 ms1 b => QT F1 ms1 (!b)) : AT Γ (tNot t) F ms S QT := fun R σ H Qc hs hh x k =>
  h R σ H _ hs hh x fun F1 ms1 b H1 e1 h1 q1 => k F1 ms1 _ H1 e1 h1 q1
theorem at_yes (q : QT F ms true) : AT Γ tYes F ms S QT := fun R σ H Qc hs hh x k => k F ms true H Ex.refl hh q
theorem AT.mono {Q' : Hp → Ms → Bool → Prop} (h : AT Γ t F ms S QT) (m : ∀ F' ms' d, Ex F F' → QT F' ms' d → Q' F' ms' d) : AT Γ t F ms S Q' := fun R σ H Qc hs hh x k => h R σ H Qc hs hh x fun F' ms' d H' e ho q => k F' ms' d H' e ho (m F' ms' d e q)

/-! ### operators -/
theorem ar_I0 {g : Int → Int → V} {f : Int → Int → D} (hg : ∀ F i j, Rep K F (f i j) (g i j)) {i j : Int} (q : Q F ms (f i j)) : AR K (rI0 g) (.int i) (.int j) F ms Q := fun R u v H Qc hu hv hh k => by
  cases hu; cases hv
  exact ⟨i, j, rfl, rfl, k F ms _ _ H Ex.refl hh (hg F i j) q⟩
theorem ar_I {C : Int → Int → Prop} {g : Int → Int → V} {f : Int → Int → D} (hg : ∀ F i j, Rep K F (f i j) (g i j)) {i j : Int} (c : C i j) (q : Q F ms (f i j)) : AR K (rI C g) (.int i) (.int j) F ms Q := fun R u v H Qc hu hv hh k => by
  cases hu; cases hv
  exact ⟨i, j, rfl, rfl, c, k F ms _ _ H Ex.refl hh (hg F i j) q⟩
theorem ar_addI {i j : Int} (q : Q F ms (.int (i + j))) : AR K (rI0 fun i j => .int (i + j)) (.int i) (.int j) F ms Q := ar_I0 (f := fun i j => .int (i + j)) (fun _ _ _ => .int _) q
theorem ar_subI {i j : Int} (q : Q F ms (.int (i - j))) : AR K (rI0 fun i j => .int (i - j)) (.int i) (.int j) F ms Q := ar_I0 (f := fun i j => .int (i - j)) (fun _ _ _ => .int _) q
theorem ar_mulI {i j : Int} (c : CMul i j) (q : Q F ms (.int (i * j))) : AR K (rI CMul fun i j => .int (i * j)) (.int i) (.int j) F ms Q := ar_I (f := fun i j => .int (i * j)) (fun _ _ _ => .int _) c q
theorem ar_modI {i j : Int} (c : 0 < j) (q : Q F ms (.int (i % j))) : AR K (rI (fun _ j => 0 < j) fun i j => .int (i % j)) (.int i) (.int j) F ms Q := ar_I (f := fun i j => .int (i % j)) (fun _ _ _ => .int _) c q
theorem ar_divI {i j : Int} (c : CDiv i j) (q : Q F ms (.int (i / j))) : AR K (rI CDiv fun i j => .int (i / j)) (.int i) (.int j) F ms Q := ar_I (f := fun i j => .int (i / j)) (fun _ _ _ => .int _) c q
theorem ar_powI {i j : Int} (c : CPow i j) (q : Q F ms (.int (i ^ j.toNat))) : AR K (rI CPow fun i j => .int (i ^ j.toNat)) (.int i) (.int j) F ms Q := ar_I (f := fun i j => .int (i ^ j.toNat)) (fun _ _ _ => .int _) c q
theorem ar_ltI {i j : Int} (q : Q F ms (.bl (decide (i < j)))) : AR K (rI0 fun i j => .bl (decide (i < j))) (.int i) (.int j) F ms Q := ar_I0 (f := fun i j => .bl (decide (i < j))) (fun _ _ _ => .bl _) q
theorem ar_leI {i j : Int} (q : Q F ms (.bl (decide (i ≤ j)))) : AR K (rI0 fun i j => .bl (decide (i ≤ j))) (.int i) (.int j) F ms Q := ar_I0 (f := fun i j => .bl (decide (i ≤ j))) (fun _ _ _ => .bl _) q
theorem ar_gtI {i j : Int} (q : Q F ms (.bl (decide (j < i)))) : AR K (rI0 fun i j => .bl (decide (j < i))) (.int i) (.int j) F ms Q := ar_I0 (f := fun i j => .bl (decide (j < i))) (fun _ _ _ => .bl _) q
theorem ar_geI {i j : Int} (q : Q F ms (.bl (decide (j ≤ i)))) : AR K (rI0 fun i j => .bl (decide (j ≤ i))) (.int i) (.int j) F ms Q := ar_I0 (f := fun i j => .bl (decide (j ≤ i))) (fun _ _ _ => .bl _) q
theorem ar_eqI {i j : Int} (q : Q F ms (.bl (decide (i = j)))) : AR K rEq (.int i) (.int j) F ms Q := fun R u v H Qc hu hv hh k => by
  cases hu; cases hv
  refine ⟨rfl, k F ms (.bl (decide (i = j))) _ H Ex.refl hh ?_ q⟩
  have e : decide (V.int i = V.int j) = decide (i = j) := by rw [dec_int]; by_cases z : i = j <;> simp [z]
  rw [e]
  exact .bl _
theorem ar_eqS {i j : Str} (q : Q F ms (.bl (decide (i = j)))) : AR K rEq (.str i) (.str j) F ms Q := fun R u v H Qc hu hv hh k => by
  cases hu; cases hv
  refine ⟨rfl, k F ms (.bl (decide (i = j))) _ H Ex.refl hh ?_ q⟩
  have e : decide (V.str i = V.str j) = decide (i = j) := by by_cases z : i = j <;> simp [z]
  rw [e]
  exact .bl _
theorem ar_eqB {i j : Bool} (q : Q F ms (.bl (decide (i = j)))) : AR K rEq (.bl i) (.bl j) F ms Q := fun R u v H Qc hu hv hh k => by
  cases hu; cases hv
  refine ⟨rfl, k F ms (.bl (decide (i = j))) _ H Ex.refl hh ?_ q⟩
  have e : decide (V.bl i = V.bl j) = decide (i = j) := by by_cases z : i = j <;> simp [z]
  rw [e]
  exact .bl _
theorem ar_neI {i j : Int} (q : Q F ms (.bl (!decide (i = j)))) : AR K rNe (.int i) (.int j) F ms Q := fun R u v H Qc hu hv hh k => by
  cases hu; cases hv
  refine ⟨rfl, k F ms (.bl (!decide (i = j))) _ H Ex.refl hh ?_ q⟩
  have e : decide (V.int i = V.int j) = decide (i = j) := by rw [dec_int]; by_cases z : i = j <;> simp [z]
  rw [e]
  exact .bl _
theorem ar_neS {i j : Str} (q : Q F ms (.bl (!decide (i = j)))) : AR K rNe (.str i) (.str j) F ms Q := fun R u v H Qc hu hv hh k => by
  cases hu; cases hv
  refine ⟨rfl, k F ms (.bl (!decide (i = j))) _ H Ex.refl hh ?_ q⟩
  have e : decide (V.str i = V.str j) = decide (i = j) := by by_cases z : i = j <;> simp [z]
  rw [e]
  exact .bl _
end
end AL

set_option Elab.async false
set_option linter.all false
set_option maxRecDepth 100000
set_option maxHeartbeats 4000000
namespace AL
open PySem L2
section
variable {K : Frg} {F : Hp} {ms : Ms} {S : Sg} {Q : QE} {ta tb te tx : TE} {t u : TT} {r : R2}
/-! ### operators by the kinds of their data: one rule a sign -/
theorem ar_inl {r r' : R2} {x y : D} (h : AR K r x y F ms Q) : AR K (fun x y H Q => r x y H Q ∨ r' x y H Q) x y F ms Q := fun R u v H Qc hu hv hh k => .inl (h R u v H Qc hu hv hh k)
theorem ar_inr {r r' : R2} {x y : D} (h : AR K r' x y F ms Q) : AR K (fun x y H Q => r x y H Q ∨ r' x y H Q) x y F ms Q := fun R u v H Qc hu hv hh k => .inr (h R u v H Qc hu hv hh k)
def rAddS' : R2 := fun x y H Q => ∃ i j, x = .str i ∧ y = .str j ∧ i.length + j.length ≤ sizeLine ∧ Q (.str (i ++ j)) H
/-- + -/
def rADD (K : Frg) : R2 := fun x y H Q => (rI0 fun i j => .int (i + j)) x y H Q ∨ (rAddS' x y H Q ∨ (rCat x y H Q ∨ rCatA K x y H Q))
theorem op_ADD {X : Cx} : OpR X (binaryOp .Add) (rADD X.K) := op_add.or (op_add_str.or (op_cat.or op_catA))
theorem ar_ADDi {i j : Int} (q : Q F ms (.int (i + j))) : AR K (rADD K) (.int i) (.int j) F ms Q := ar_inl (ar_addI q)
theorem ar_ADDs {i j : Str} (h : i.length + j.length ≤ 100000) (q : Q F ms (.str (i ++ j))) : AR K (rADD K) (.str i) (.str j) F ms Q := ar_inr (ar_inl fun R u v H Qc hu hv hh k => by
  cases hu; cases hv
  exact ⟨i, j, rfl, rfl, Evl.sz_of h, k F ms _ _ H Ex.refl hh (.str _) q⟩)
/-- two frozen lists: a new frozen one -/
theorem ar_ADDl {xs ys : List D} (h : xs.length + ys.length ≤ 100000) (q : ∀ F', Ex F F' → Q F' ms (.lst (xs ++ ys))) : AR K (rADD K) (.lst xs) (.lst ys) F ms Q := ar_inr (ar_inr (ar_inl fun R u v H Qc hu hv hh k => by
  cases hu with
  | lst h1 r1 =>
    cases hv with
    | lst h2 r2 =>
      refine ⟨_, _, _, _, rfl, rfl, hh.ex _ _ h1, hh.ex _ _ h2, Evl.sz_of (by rw [← r1.len, ← r2.len]; exact h), fun p hp => ?_⟩
      obtain ⟨e, hh'⟩ := hh.laid (.lst _) hp
      exact k _ ms _ _ _ e hh' (.lst upd_same ((r1.append r2).mono e)) (q _ e)))
/-- .. a new owned one -/
theorem ar_ADDlo {xs ys : List D} (h : xs.length + ys.length ≤ 100000) (q : ∀ l, Q F ((l, .lst (xs ++ ys)) :: ms) (.ref l)) : AR K (rADD K) (.lst xs) (.lst ys) F ms Q := ar_inr (ar_inr (ar_inl fun R u v H Qc hu hv hh k => by
  cases hu with
  | lst h1 r1 =>
    cases hv with
    | lst h2 r2 =>
      refine ⟨_, _, _, _, rfl, rfl, hh.ex _ _ h1, hh.ex _ _ h2, Evl.sz_of (by rw [← r1.len, ← r2.len]; exact h), fun p hp => ?_⟩
      exact k F ((p, .lst (xs ++ ys)) :: ms) (.ref p) _ _ Ex.refl (hh.made (m := .lst (xs ++ ys)) hp ⟨_, upd_same, r1.append r2⟩) (.ref p) (q p)))
theorem ar_ADDt {xs ys : List D} (h : xs.length + ys.length ≤ 100000) (q : ∀ F', Ex F F' → Q F' ms (.tup (xs ++ ys))) : AR K (rADD K) (.tup xs) (.tup ys) F ms Q := ar_inr (ar_inr (ar_inr fun R u v H Qc hu hv hh k => by
  cases hu with
  | tup h1 r1 =>
    cases hv with
    | tup h2 r2 =>
      refine ⟨_, _, _, _, rfl, rfl, ex_t hh.ex h1, ex_t hh.ex h2, Evl.sz_of (by rw [← r1.len, ← r2.len]; exact h), fun e => ?_, fun _ e => ?_, fun _ _ p hp => ?_⟩
      · subst e
        cases r1
        exact k F ms (.tup ys) _ H Ex.refl hh (.tup h2 r2) (q F Ex.refl)
      · subst e
        cases r2
        have q' := q F Ex.refl
        rw [List.append_nil] at q'
        exact k F ms (.tup xs) _ H Ex.refl hh (.tup h1 r1) q'
      · obtain ⟨e, hh'⟩ := hh.laid (.tup _) hp
        exact k _ ms _ _ _ e hh' (.tup (SqT.of upd_same) ((r1.append r2).mono e)) (q _ e)))
theorem ar_SUB {i j : Int} (q : Q F ms (.int (i - j))) : AR K (rI0 fun i j => .int (i - j)) (.int i) (.int j) F ms Q := ar_subI q
/-- text * int -/
def mulS (z : Str) (n : Int) : Str := ⟨(List.replicate n.toNat z.cps.toList).flatten.toArray⟩
def rRepS : R2 := fun x y H Q => ∃ z n, x = .str z ∧ y = .int n ∧ n ≤ 100000 ∧ -100000 ≤ n ∧ z.length * n.toNat ≤ 100000 ∧ Q (.str (mulS z n)) H
theorem foldl_rep (a : Array Nat) : ∀ (n : Nat) (b : Array Nat), (List.replicate n a).foldl (· ++ ·) b = b ++ (List.replicate n a.toList).flatten.toArray
  | 0, b => by simp
  | n + 1, b => by
    rw [List.replicate_succ, List.foldl_cons, foldl_rep a n, List.replicate_succ, List.flatten_cons]
    apply Array.ext'
    simp [Array.append_assoc]
theorem len_flat {α : Type} (l : List α) : ∀ n : Nat, (List.replicate n l).flatten.length = l.length * n
  | 0 => by simp
  | n + 1 => by
    rw [List.replicate_succ, List.flatten_cons, List.length_append, len_flat l n, Nat.mul_succ, Nat.add_comm]
theorem op_repS {X : Cx} : OpR X (binaryOp .Mult) rRepS := by
  intro pins s σ H x y v u Q I rx ry h
  obtain ⟨z, n, rfl, rfl, h1, h2, h3, q⟩ := h
  obtain ⟨t, rfl⟩ := rx
  obtain ⟨t', rfl⟩ := ry
  have hz : z.length * n.toNat ≤ sizeLine := Evl.sz_of h3
  refine PySem.P.mul_str ?_ (fun a b => ?_) (fun a b => ?_) ?_
  · have e1 : decide (n < -(2 ^ 63 : Int)) = false := decide_eq_false (by omega)
    have e2 : decide (n ≥ (2 ^ 63 : Int)) = false := decide_eq_false (by omega)
    rw [e1, e2]; rfl
  · have hn : 0 < n := by omega
    have hb : (z.length : Int) ≤ 100000 := by
      have : z.length * 1 ≤ z.length * n.toNat := Nat.mul_le_mul_left _ (by omega)
      omega
    have : (2 ^ 63 - 1 : Int) / n ≥ (2 ^ 63 - 1) / 100000 := by
      apply (Int.le_ediv_iff_mul_le hn).mpr
      have h5 : (2 ^ 63 - 1 : Int) / 100000 = 92233720368547 := by decide
      rw [h5]
      omega
    have h6 : (2 ^ 63 - 1 : Int) / 100000 = 92233720368547 := by decide
    rw [h6] at this
    omega
  · exact decide_eq_false (by omega)
  · have fin : ∀ (w : Str) (tk : Tok) (s' : Shared), w = mulS z n → Inv X pins σ H s' → EP X pins σ Q (.str w tk) s' := fun w tk s' e I' => ⟨.str w, H, I', ⟨tk, rfl⟩, by rw [e]; exact q⟩
    by_cases hn : n < 1
    · rw [if_pos hn]
      refine ⟨by decide, fin _ _ _ ?_ (I.tok _)⟩
      have e : n.toNat = 0 := by omega
      unfold mulS
      rw [e]; rfl
    · rw [if_neg hn]
      by_cases hc : (n == 1 || z.length == 0) = true
      · rw [if_pos hc]
        refine fin _ _ _ ?_ I
        unfold mulS
        rcases Bool.or_eq_true _ _ ▸ hc with h5 | h5
        · have e : n = 1 := by simpa using h5
          subst e
          show z = ⟨(List.replicate 1 z.cps.toList).flatten.toArray⟩
          simp [List.replicate_succ]
        · have e : z.cps = #[] := by
            have h6 : z.cps.size = 0 := by
              have h7 : z.length = 0 := by simpa using h5
              exact h7
            exact Array.eq_empty_of_size_eq_zero h6
          obtain ⟨c⟩ := z
          have e : c = #[] := e
          subst e
          simp
      · rw [if_neg hc]
        have e : (⟨(List.replicate n.toNat z.cps).foldl (· ++ ·) #[]⟩ : Str) = mulS z n := by
          unfold mulS
          rw [foldl_rep]
          simp
        have hl : (mulS z n).length ≤ sizeLine := by
          show (List.replicate n.toNat z.cps.toList).flatten.toArray.size ≤ sizeLine
          rw [List.size_toArray, len_flat]
          have : z.cps.toList.length = z.length := by simp [Str.length]
          rw [this]
          exact hz
        rw [e]
        exact ⟨hl, fin _ _ _ rfl (I.tok _)⟩
/-- * -/
def rMUL (K : Frg) : R2 := fun x y H Q => (rI CMul fun i j => .int (i * j)) x y H Q ∨ (rRepS x y H Q ∨ rRep x y H Q)
theorem op_MUL {X : Cx} : OpR X (binaryOp .Mult) (rMUL X.K) := op_mul.or (op_repS.or op_rep)
theorem ar_MULi {i j : Int} (c : CMul i j) (q : Q F ms (.int (i * j))) : AR K (rMUL K) (.int i) (.int j) F ms Q := ar_inl (ar_mulI c q)
theorem ar_MULs {z : Str} {n : Int} (h1 : n ≤ 100000) (h2 : -100000 ≤ n) (h3 : z.length * n.toNat ≤ 100000) (q : Q F ms (.str (mulS z n))) : AR K (rMUL K) (.str z) (.int n) F ms Q := ar_inr (ar_inl fun R u v H Qc hu hv hh k => by
  cases hu; cases hv
  exact ⟨z, n, rfl, rfl, h1, h2, h3, k F ms _ _ H Ex.refl hh (.str _) q⟩)
theorem repL_rep {xs : List D} {vs : List V} (r : RepL K F xs vs) : ∀ n : Nat, RepL K F (List.replicate n xs).flatten (List.replicate n vs).flatten
  | 0 => .nil
  | n + 1 => by
    rw [List.replicate_succ, List.replicate_succ, List.flatten_cons, List.flatten_cons]
    exact r.append (repL_rep r n)
theorem ar_MULl {xs : List D} {n : Int} (h1 : n ≤ 100000) (h2 : -100000 ≤ n) (h3 : xs.length * n.toNat ≤ 100000) (q : ∀ F', Ex F F' → Q F' ms (.lst (List.replicate n.toNat xs).flatten)) : AR K (rMUL K) (.lst xs) (.int n) F ms Q := ar_inr (ar_inr fun R u v H Qc hu hv hh k => by
  cases hv
  cases hu with
  | lst ha r1 =>
    refine ⟨_, n, _, rfl, rfl, hh.ex _ _ ha, by omega, by omega, Evl.sz_of (by rw [← r1.len]; exact h3), fun p hp => ?_⟩
    obtain ⟨e, hh'⟩ := hh.laid (.lst _) hp
    exact k _ ms _ _ _ e hh' (.lst upd_same ((repL_rep r1 _).mono e)) (q _ e))

/-! ### an item -/
theorem at_rep {ds : List D} {vs : List V} {i : Int} {d : D} (r : RepL K F ds vs) (h : atI ds i = some d) : ∃ v, atI vs i = some v ∧ Rep K F d v := by
  unfold atI at h ⊢
  rw [← r.len]
  cases e : ixN ds.length i with
  | none => rw [e] at h; cases h
  | some j => rw [e] at h; exact r.getD h
theorem ar_ixL {ds : List D} {i : Int} {d : D} (h : atI ds i = some d) (q : Q F ms d) : AR K (rIx K) (.lst ds) (.int i) F ms Q := fun R u v H Qc hu hv hh k => by
  cases hv
  cases hu with
  | lst ha r1 =>
    obtain ⟨w, hw, rw'⟩ := at_rep r1 h
    exact .inl ⟨_, _, i, w, rfl, rfl, SqL.of (hh.ex _ _ ha), hw, k F ms d w H Ex.refl hh rw' q⟩
theorem ar_ixR {ds : List D} {i : Int} {d : D} (h : atI ds i = some d) (q : Q F ms d) : AR K (rIx K) (.rdl ds) (.int i) F ms Q := fun R u v H Qc hu hv hh k => by
  cases hv
  cases hu with
  | rdl ha r1 =>
    obtain ⟨w, hw, rw'⟩ := at_rep r1 h
    exact .inl ⟨_, _, i, w, rfl, rfl, ex_l hh.ex ha, hw, k F ms d w H Ex.refl hh rw' q⟩
theorem get_app {i : Nat} {p : Addr × MO} {R : Ms} (h : ms[i]? = some p) : (ms ++ R)[i]? = some p := by
  rw [List.getElem?_append_left (List.getElem?_eq_some_iff.mp h).1]
  exact h
theorem set_app {i : Nat} {p p' : Addr × MO} {R : Ms} (h : ms[i]? = some p) : (ms ++ R).set i p' = ms.set i p' ++ R := List.set_append_left _ _ (List.getElem?_eq_some_iff.mp h).1
theorem ar_ixO {l : Addr} {ds : List D} {i : Int} {d : D} (n : Nat) (hn : ms[n]? = some (l, .lst ds)) (h : atI ds i = some d) (q : Q F ms d) : AR K (rIx K) (.ref l) (.int i) F ms Q := fun R u v H Qc hu hv hh k => by
  cases hv
  cases hu with
  | ref =>
    obtain ⟨_, vs, hl, r1⟩ := hh.at (get_app hn)
    obtain ⟨w, hw, rw'⟩ := at_rep r1 h
    exact .inl ⟨_, _, i, w, rfl, rfl, SqL.of hl, hw, k F ms d w H Ex.refl hh rw' q⟩
theorem ar_ixT {ds : List D} {i : Int} {d : D} (h : atI ds i = some d) (q : Q F ms d) : AR K (rIx K) (.tup ds) (.int i) F ms Q := fun R u v H Qc hu hv hh k => by
  cases hv
  cases hu with
  | tup ha r1 =>
    obtain ⟨w, hw, rw'⟩ := at_rep r1 h
    exact .inr (.inl ⟨_, _, i, w, rfl, rfl, ex_t hh.ex ha, hw, k F ms d w H Ex.refl hh rw' q⟩)
def sg (c : Nat) : Str := ⟨#[c]⟩
theorem ar_ixS {z : Str} {i : Int} {c : Nat} (hz : z.length ≤ 100000) (h : atI z.cps.toList i = some c) (q : Q F ms (.str (sg c))) : AR K (rIx K) (.str z) (.int i) F ms Q := fun R u v H Qc hu hv hh k => by
  cases hv
  cases hu with
  | str => exact .inr (.inr ⟨z, i, c, rfl, rfl, Evl.sz_of hz, h, k F ms _ _ H Ex.refl hh (.str _) q⟩)

/-! ### calls of built-ins -/
def rLEN (K : Frg) : List V → Hp → VK → Prop := fun xs H Q => ∃ x n, xs = [x] ∧ LenV K x H n ∧ Q (.int n) H
theorem call_LEN {X : Cx} : CallR X (.builtin "len") (rLEN X.K) := call_len
theorem ac1 {rc : List V → Hp → VK → Prop} {d : D} (h : ∀ (R : Ms) v H (Qc : VK), Rep K F d v → Hold K F (ms ++ R) H → (∀ F' ms' d v H', Ex F F' → Hold K F' (ms' ++ R) H' → Rep K F' d v → Q F' ms' d → Qc v H') → rc [v] H Qc) : AC K rc [d] F ms Q := fun R vs H Qc hv hh k => by
  cases hv with
  | cons h1 h2 =>
    cases h2
    exact h R _ H Qc h1 hh k
theorem ac_lenS {z : Str} (hz : z.length ≤ 100000) (q : Q F ms (.int z.length)) : AC K (rLEN K) [.str z] F ms Q := ac1 fun R v H Qc hv hh k => by
  cases hv
  exact ⟨_, z.length, rfl, ⟨Evl.sz_of hz, rfl⟩, k F ms _ _ H Ex.refl hh (.int _) q⟩
theorem ac_lenL {ds : List D} (q : Q F ms (.int ds.length)) : AC K (rLEN K) [.lst ds] F ms Q := ac1 fun R v H Qc hv hh k => by
  cases hv with
  | lst ha r => exact ⟨_, ds.length, rfl, .inl ⟨_, SqL.of (hh.ex _ _ ha), r.len⟩, k F ms _ _ H Ex.refl hh (.int _) q⟩
theorem ac_lenR {ds : List D} (q : Q F ms (.int ds.length)) : AC K (rLEN K) [.rdl ds] F ms Q := ac1 fun R v H Qc hv hh k => by
  cases hv with
  | rdl ha r => exact ⟨_, ds.length, rfl, .inl ⟨_, ex_l hh.ex ha, r.len⟩, k F ms _ _ H Ex.refl hh (.int _) q⟩
theorem ac_lenT {ds : List D} (q : Q F ms (.int ds.length)) : AC K (rLEN K) [.tup ds] F ms Q := ac1 fun R v H Qc hv hh k => by
  cases hv with
  | tup ha r => exact ⟨_, ds.length, rfl, .inr ⟨_, ex_t hh.ex ha, r.len⟩, k F ms _ _ H Ex.refl hh (.int _) q⟩
theorem ac_lenO {l : Addr} {ds : List D} (n : Nat) (hn : ms[n]? = some (l, .lst ds)) (q : Q F ms (.int ds.length)) : AC K (rLEN K) [.ref l] F ms Q := ac1 fun R v H Qc hv hh k => by
  cases hv with
  | ref =>
    obtain ⟨_, vs, hl, r⟩ := hh.at (get_app hn)
    exact ⟨_, ds.length, rfl, .inl ⟨_, SqL.of hl, r.len⟩, k F ms _ _ H Ex.refl hh (.int _) q⟩
end
end AL

set_option Elab.async false
set_option linter.all false
set_option maxRecDepth 100000
set_option maxHeartbeats 4000000
namespace AL
open PySem L2
theorem Hold.perm {K : Frg} {F H : Hp} {ms ms' : Ms} (h : Hold K F ms H) (p : ms'.Perm ms) : Hold K F ms' H :=
  ⟨h.ex, fun q hq => h.own q (p.mem_iff.mp hq), (p.map Prod.fst).nodup_iff.mpr h.nd⟩
section
variable {Γ : Cg} {K : Frg} {F : Hp} {ms : Ms} {S : Sg} {Q : QE} {ta tb te tx : TE} {t u : TT} {r : R2} {ts tu tw : TS} {A : AEnds}
/-! ### statements -/
theorem as_seq (h : AS Γ ts F ms S { A with nx := fun F' ms' S' => AS Γ tu F' ms' S' A }) : AS Γ (tSeq ts tu) F ms S A := fun R E σ H hs hh l =>
  h R { E with nx := tu E } σ H hs hh ⟨l.xe, fun F' ms' S' σ' H' e a b q => q R E σ' H' a b (l.ex e), l.rt, l.bk, l.ct⟩
theorem as_next (q : A.nx F ms S) : AS Γ tNext F ms S A := fun R E σ H hs hh l => l.nx F ms S σ H Ex.refl hs hh q
theorem as_break (q : A.bk F ms S) : AS Γ tBreak F ms S A := fun R E σ H hs hh l => l.bk F ms S σ H Ex.refl hs hh q
theorem as_cont (q : A.ct F ms S) : AS Γ tCont F ms S A := fun R E σ H hs hh l => l.ct F ms S σ H Ex.refl hs hh q
theorem as_drop (h : AE Γ te F ms S fun F' ms' _ => A.nx F' ms' S) : AS Γ (tDrop te) F ms S A := fun R E σ H hs hh l =>
  h R σ H _ hs hh l.xe fun F' ms' d v H' e ho hr q => l.nx F' ms' S σ H' e (hs.mono e) ho q
theorem as_ret (h : AE Γ te F ms S A.rt) : AS Γ (tRet te) F ms S A := fun R E σ H hs hh l => h R σ H _ hs hh l.xe fun F' ms' d v H' e ho hr q => l.rt F' ms' d v H' e ho hr q
theorem as_retN (q : A.rt F ms .non) : AS Γ tRetN F ms S A := fun R E σ H hs hh l => l.rt F ms .non .non H Ex.refl hh .non q
theorem as_if (h : AT Γ t F ms S fun F' ms' b => (b = true → AS Γ tu F' ms' S A) ∧ (b = false → AS Γ tw F' ms' S A)) : AS Γ (tIfS t tu tw) F ms S A := fun R E σ H hs hh l =>
  h R σ H _ hs hh l.xe fun F' ms' b H' e ho q => by
    cases b with
    | true => exact q.1 rfl R E σ H' (hs.mono e) ho (l.ex e)
    | false => exact q.2 rfl R E σ H' (hs.mono e) ho (l.ex e)
/-! ### targets -/
def AG (Γ : Cg) (g : TG) (d : D) (F : Hp) (ms : Ms) (S : Sg) (N : QS) : Prop := ∀ (R : Ms) v σ H (Nc : St → Hp → Prop), Rep Γ.K F d v → SRep Γ.K F S σ → Hold Γ.K F (ms ++ R) H → XLe Γ R F → (∀ F' ms' S' σ' H', Ex F F' → SRep Γ.K F' S' σ' → Hold Γ.K F' (ms' ++ R) H' → N F' ms' S' → Nc σ' H') → g v σ H Nc
def AGs (Γ : Cg) (g : TGs) (ds : List D) (F : Hp) (ms : Ms) (S : Sg) (N : QS) : Prop := ∀ (R : Ms) vs σ H (Nc : St → Hp → Prop), RepL Γ.K F ds vs → SRep Γ.K F S σ → Hold Γ.K F (ms ++ R) H → XLe Γ R F → (∀ F' ms' S' σ' H', Ex F F' → SRep Γ.K F' S' σ' → Hold Γ.K F' (ms' ++ R) H' → N F' ms' S' → Nc σ' H') → g vs σ H Nc
variable {g : TG} {gs : TGs} {N : QS}
theorem ag_name {i : Nat} {d : D} (q : N F ms (S.set i (some d))) : AG Γ (gName i) d F ms S N := fun R v σ H Nc hv hs hh x k => k F ms _ _ H Ex.refl (hs.set hv) hh q
theorem ags_nil (q : N F ms S) : AGs Γ gNil [] F ms S N := fun R vs σ H Nc hv hs hh x k => by
  cases hv
  exact ⟨rfl, k F ms S σ H Ex.refl hs hh q⟩
theorem ags_cons {d : D} {ds : List D} (h : AG Γ g d F ms S fun F' ms' S' => AGs Γ gs ds F' ms' S' N) : AGs Γ (gCons g gs) (d :: ds) F ms S N := fun R vs σ H Nc hv hs hh x k => by
  cases hv with
  | cons h1 h2 =>
    exact ⟨_, _, rfl, h R _ σ H _ h1 hs hh x fun F' ms' S' σ' H' e a b q => q R _ σ' H' Nc (h2.mono e) a b (x.ex e) fun F2 ms2 S2 σ2 H2 e2 a2 b2 q2 => k F2 ms2 S2 σ2 H2 (e.trans e2) a2 b2 q2⟩
theorem ag_tup {n : Nat} {ds : List D} (hn : ds.length = n) (h : AGs Γ gs ds F ms S N) : AG Γ (gTup Γ.K n gs) (.tup ds) F ms S N := fun R v σ H Nc hv hs hh x k => by
  cases hv with
  | tup h1 r1 => exact ⟨_, _, rfl, ex_t hh.ex h1, by rw [← r1.len]; exact hn, h R _ σ H Nc r1 hs hh x k⟩
theorem as_asgG (h : AE Γ te F ms S fun F' ms' d => AG Γ g d F' ms' S A.nx) : AS Γ (tAsg te g) F ms S A := fun R E σ H hs hh l =>
  h R σ H _ hs hh l.xe fun F' ms' d v H' e ho hr q => q R v σ H' _ hr (hs.mono e) ho (l.xe.ex e) fun F2 ms2 S2 σ2 H2 e2 a b q2 => l.nx F2 ms2 S2 σ2 H2 (e.trans e2) a b q2
theorem as_asg {i : Nat} (h : AE Γ te F ms S fun F' ms' d => A.nx F' ms' (S.set i (some d))) : AS Γ (tAsg te (gName i)) F ms S A := as_asgG (h.mono fun _ _ _ _ q => ag_name q)
theorem as_par {i j : Nat} {ta : TA} (h : AA Γ ta F ms S fun F' ms' ds => ∃ x y, ds = [x, y] ∧ A.nx F' ms' ((S.set i (some x)).set j (some y))) : AS Γ (tPar i j ta) F ms S A := fun R E σ H hs hh l =>
  h R σ H _ hs hh l.xe fun F' ms' ds vs H' e ho hr ⟨x, y, hd, q⟩ => by
    subst hd
    cases hr with
    | cons h1 h2 =>
      cases h2 with
      | cons h3 h4 =>
        cases h4
        exact ⟨_, _, rfl, l.nx F' ms' _ _ H' e (((hs.mono e).set h1).set h3) ho q⟩
theorem as_aug {i : Nat} {f : Int → Int → Int} {a : Int} (h0 : S[i]? = some (some (.int a))) (h : AE Γ te F ms S fun F' ms' d => ∃ b, d = .int b ∧ A.nx F' ms' (S.set i (some (.int (f a b))))) : AS Γ (tAug i te (ipI f)) F ms S A := fun R E σ H hs hh l => by
  obtain ⟨v, h1, h2⟩ := hs.2 i _ h0
  cases h2
  refine ⟨_, h1, h R σ H _ hs hh l.xe fun F' ms' d v H' e ho hr ⟨b, hd, q⟩ => ?_⟩
  subst hd
  cases hr
  exact ⟨a, b, rfl, rfl, l.nx F' ms' _ _ H' e ((hs.mono e).set (.int _)) ho q⟩
/-- an owned list's item is set -/
theorem ag_subO {to ti : TE} {d : D} (h : AE Γ to F ms S fun F1 ms1 o => AE Γ ti F1 ms1 S fun F2 ms2 i => ∃ (n : Nat) (l : Addr) (ds : List D) (z : Int) (j : Nat), o = .ref l ∧ i = .int z ∧ ms2[n]? = some (l, .lst ds) ∧ ixN ds.length z = some j ∧ N F2 (ms2.set n (l, .lst (ds.set j d))) S) :
    AG Γ (gSub to ti rSetL) d F ms S N := fun R v σ H Nc hv hs hh x k =>
  h R σ H _ hs hh x fun F1 ms1 o ov H1 e1 h1 r1 q1 => q1 R σ H1 _ (hs.mono e1) h1 (x.ex e1) fun F2 ms2 i iv H2 e2 h2 r2 ⟨n, l, ds, z, j, ho, hi, hn, hj, q⟩ => by
    subst ho hi
    cases r2
    cases r1
    obtain ⟨_, vs, hl, r⟩ := h2.at (get_app hn)
    refine ⟨l, vs, z, j, rfl, rfl, hl, by rw [← r.len]; exact hj, k F2 (ms2.set n (l, .lst (ds.set j d))) S σ _ (e1.trans e2) (hs.mono (e1.trans e2)) ?_ q⟩
    rw [← set_app hn]
    exact h2.set (get_app hn) ⟨_, upd_same, r.set (hv.mono (e1.trans e2)) j⟩
/-! ### owned things are dropped or freeze -/
theorem as_dropm (n : Nat) (h : AS Γ ts F (ms.eraseIdx n) S A) (hn : n < ms.length) : AS Γ ts F ms S A := fun R E σ H hs hh l => h R E σ H hs (by
  have := hh.drop n
  rw [List.eraseIdx_append_of_lt_length hn] at this
  exact this) l
theorem as_drop1 {p : Addr × MO} (h : AS Γ ts F ms S A) : AS Γ ts F (p :: ms) S A := as_dropm 0 h (Nat.zero_lt_succ _)
/-- the owned list of slot i freezes -/
theorem as_frz {i : Nat} {l : Addr} {ds : List D} (n : Nat) (hn : ms[n]? = some (l, .lst ds)) (hi : S[i]? = some (some (.ref l))) (h : ∀ F', Ex F F' → AS Γ ts F' (ms.eraseIdx n) (S.set i (some (.lst ds))) A) : AS Γ ts F ms S A := fun R E σ H hs hh k => by
  obtain ⟨_, vs, hl, r⟩ := hh.at (get_app hn)
  obtain ⟨o, ho, e, h2⟩ := hh.freeze (get_app hn)
  rw [hl] at ho
  cases ho
  rw [List.eraseIdx_append_of_lt_length (List.getElem?_eq_some_iff.mp hn).1] at h2
  refine h _ e R E σ H ((hs.mono e).re (fun v hv => ?_) hi) h2 (k.ex e)
  obtain ⟨v', h3, h4⟩ := hs.2 i _ hi
  rw [hv] at h3
  cases h3
  cases h4
  exact .lst upd_same (r.mono e)
/-- the owned dict of slot i freezes -/
theorem as_frzd {i : Nat} {l : Addr} {ds : List (Key × D)} (n : Nat) (hn : ms[n]? = some (l, .dic ds)) (hi : S[i]? = some (some (.ref l))) (h : ∀ F', Ex F F' → AS Γ ts F' (ms.eraseIdx n) (S.set i (some (.dic ds))) A) : AS Γ ts F ms S A := fun R E σ H hs hh k => by
  obtain ⟨_, vs, hl, r⟩ := hh.at (get_app hn)
  obtain ⟨o, ho, e, h2⟩ := hh.freeze (get_app hn)
  rw [hl] at ho
  cases ho
  rw [List.eraseIdx_append_of_lt_length (List.getElem?_eq_some_iff.mp hn).1] at h2
  refine h _ e R E σ H ((hs.mono e).re (fun v hv => ?_) hi) h2 (k.ex e)
  obtain ⟨v', h3, h4⟩ := hs.2 i _ hi
  rw [hv] at h3
  cases h3
  cases h4
  exact .dic upd_same (r.mono e)
/-- at a value: the list that is handed on freezes -/
theorem ae_frz (h : AE Γ te F ms S fun F' ms' d => ∃ (n : Nat) (l : Addr) (ds : List D), d = .ref l ∧ ms'[n]? = some (l, .lst ds) ∧ ∀ F2, Ex F' F2 → Q F2 (ms'.eraseIdx n) (.lst ds)) : AE Γ te F ms S Q := fun R σ H Qc hs hh x k =>
  h R σ H _ hs hh x fun F' ms' d v H' e ho hr ⟨n, l, ds, hd, hn, q⟩ => by
    subst hd
    cases hr
    obtain ⟨_, vs, hl, r⟩ := ho.at (get_app hn)
    obtain ⟨o, ho', e2, h2⟩ := ho.freeze (get_app hn)
    rw [hl] at ho'
    cases ho'
    rw [List.eraseIdx_append_of_lt_length (List.getElem?_eq_some_iff.mp hn).1] at h2
    exact k _ _ (.lst ds) _ H' (e.trans e2) h2 (.lst upd_same (r.mono e2)) (q _ e2)
theorem ae_frzd (h : AE Γ te F ms S fun F' ms' d => ∃ (n : Nat) (l : Addr) (ds : List (Key × D)), d = .ref l ∧ ms'[n]? = some (l, .dic ds) ∧ ∀ F2, Ex F' F2 → Q F2 (ms'.eraseIdx n) (.dic ds)) : AE Γ te F ms S Q := fun R σ H Qc hs hh x k =>
  h R σ H _ hs hh x fun F' ms' d v H' e ho hr ⟨n, l, ds, hd, hn, q⟩ => by
    subst hd
    cases hr
    obtain ⟨_, vs, hl, r⟩ := ho.at (get_app hn)
    obtain ⟨o, ho', e2, h2⟩ := ho.freeze (get_app hn)
    rw [hl] at ho'
    cases ho'
    rw [List.eraseIdx_append_of_lt_length (List.getElem?_eq_some_iff.mp hn).1] at h2
    exact k _ _ (.dic ds) _ H' (e.trans e2) h2 (.dic upd_same (r.mono e2)) (q _ e2)
/-- .. and owned things are dropped behind a value -/
theorem ae_dropm (h : AE Γ te F ms S fun F' ms' d => ∃ n, n < ms'.length ∧ Q F' (ms'.eraseIdx n) d) : AE Γ te F ms S Q := fun R σ H Qc hs hh x k =>
  h R σ H _ hs hh x fun F' ms' d v H' e ho hr ⟨n, hn, q⟩ => k F' (ms'.eraseIdx n) d v H' e (by
    have := ho.drop n
    rw [List.eraseIdx_append_of_lt_length hn] at this
    exact this) hr q
/-! ### frames: what a call does not see -/
theorem ae_framed {ms1 ms2 : Ms} {Ea : XA} (hE : ∀ C fs F' ms', Ea C fs F' ms' → Γ.Ea C fs F' (ms' ++ ms2)) (h : AE { Γ with Ea := Ea } te F ms1 S fun F' ms' d => Q F' (ms' ++ ms2) d) : AE Γ te F (ms1 ++ ms2) S Q := fun R σ H Qc hs hh x k =>
  h (ms2 ++ R) σ H Qc hs (by rw [← List.append_assoc]; exact hh) (fun F' ms' C dx fs H' e ho hx he => x F' (ms' ++ ms2) C dx fs H' e (by rw [List.append_assoc]; exact ho) hx (hE C fs F' ms' he)) fun F' ms' d v H' e ho hr q => k F' (ms' ++ ms2) d v H' e (by rw [List.append_assoc]; exact ho) hr q

/-! ### what is walked -/
structure ItD (K : Frg) (J : It) (F : Hp) (G : Ms → Prop) (ds : List D) : Prop where
  goes : ∀ (R : Ms) i H F' ms', i < ds.length → Ex F F' → Hold K F' (ms' ++ R) H → G ms' → J.go i H
  stops : ∀ (R : Ms) H F' ms', Ex F F' → Hold K F' (ms' ++ R) H → G ms' → J.stop ds.length H
  yields : ∀ (R : Ms) i H x H' F' ms', i < ds.length → Ex F F' → Hold K F' (ms' ++ R) H → G ms' → J.yld i H x H' → ∃ F'' d, Ex F' F'' ∧ Hold K F'' (ms' ++ R) H' ∧ ds[i]? = some d ∧ Rep K F'' d x
def AI (Γ : Cg) (wi : TI) (F : Hp) (ms : Ms) (S : Sg) (P : Hp → Ms → List D → (Ms → Prop) → Prop) : Prop := ∀ (R : Ms) σ H (Rc : It → Hp → Prop), SRep Γ.K F S σ → Hold Γ.K F (ms ++ R) H → XLe Γ R F →
  (∀ F' ms' ds G J H', Ex F F' → Hold Γ.K F' (ms' ++ R) H' → ItD Γ.K J F' G ds → P F' ms' ds G → Rc J H') → wi σ H Rc
theorem as_for {wi : TI} (h : AI Γ wi F ms S fun F1 ms1 ds G => ∃ I : Nat → Hp → Ms → Sg → Prop, I 0 F1 ms1 S ∧ (∀ i F' ms' S', Ex F1 F' → I i F' ms' S' → G ms') ∧
    (∀ i d F' ms' S', Ex F1 F' → ds[i]? = some d → I i F' ms' S' → ∀ F'', Ex F' F'' → AG Γ g d F'' ms' S' fun F2 ms2 S2 => AS Γ tu F2 ms2 S2 { A with nx := I (i + 1), ct := I (i + 1), bk := A.nx }) ∧
    (∀ F' ms' S', Ex F1 F' → I ds.length F' ms' S' → A.nx F' ms' S')) : AS Γ (tFor wi g tu) F ms S A := fun R E σ H hs hh l =>
  h R σ H _ hs hh l.xe fun F1 ms1 ds G J H1 e1 h1 it ⟨I, i0, iG, ib, ie⟩ => by
    refine ⟨fun i m σ' H' => m = ds.length - i ∧ i ≤ ds.length ∧ ∃ F' ms' S', Ex F1 F' ∧ SRep Γ.K F' S' σ' ∧ Hold Γ.K F' (ms' ++ R) H' ∧ I i F' ms' S', ⟨_, rfl, Nat.zero_le _, F1, ms1, S, Ex.refl, hs.mono e1, h1, i0⟩, ?_⟩
    rintro i m σ' H' ⟨rfl, hi, F', ms', S', e', hs', hh', p⟩
    have hG := iG i F' ms' S' e' p
    by_cases hlt : i < ds.length
    · refine .inr ⟨it.goes R i H' F' ms' hlt e' hh' hG, fun σ2 H2 => ∃ F2 ms2 S2, Ex F1 F2 ∧ SRep Γ.K F2 S2 σ2 ∧ Hold Γ.K F2 (ms2 ++ R) H2 ∧ I (i + 1) F2 ms2 S2, fun σ2 H2 ⟨F2, ms2, S2, e2, a2, b2, q2⟩ => ⟨ds.length - (i + 1), by omega, rfl, hlt, F2, ms2, S2, e2, a2, b2, q2⟩, fun x H2 y => ?_⟩
      obtain ⟨F2, d, e2, hh2, hd, hr⟩ := it.yields R i H' x H2 F' ms' hlt e' hh' hG y
      refine ib i d F' ms' S' e' hd p F2 e2 R x σ' H2 _ hr (hs'.mono e2) hh2 (l.xe.ex ((e1.trans e').trans e2)) fun F3 ms3 S3 σ3 H3 e3 a3 b3 q3 => ?_
      refine q3 R _ σ3 H3 a3 b3 ⟨l.xe.ex (((e1.trans e').trans e2).trans e3), fun F4 ms4 S4 σ4 H4 e4 a4 b4 q4 => ⟨F4, ms4, S4, ((e'.trans e2).trans e3).trans e4, a4, b4, q4⟩, fun F4 ms4 d4 v4 H4 e4 b4 r4 q4 => l.rt F4 ms4 d4 v4 H4 ((((e1.trans e').trans e2).trans e3).trans e4) b4 r4 q4,
        fun F4 ms4 S4 σ4 H4 e4 a4 b4 q4 => l.nx F4 ms4 S4 σ4 H4 ((((e1.trans e').trans e2).trans e3).trans e4) a4 b4 q4, fun F4 ms4 S4 σ4 H4 e4 a4 b4 q4 => ⟨F4, ms4, S4, ((e'.trans e2).trans e3).trans e4, a4, b4, q4⟩⟩
    · have ei : i = ds.length := by omega
      subst ei
      exact .inl ⟨it.stops R H' F' ms' e' hh' hG, l.nx F' ms' S' σ' H' (e1.trans e') hs' hh' (ie F' ms' S' e' p)⟩
theorem as_while (I : Nat → Hp → Ms → Sg → Prop) (m0 : Nat) (h0 : I m0 F ms S) (hb : ∀ m F' ms' S', Ex F F' → I m F' ms' S' → AT Γ t F' ms' S' fun F2 ms2 b => (b = true → AS Γ tu F2 ms2 S' { A with nx := fun F3 ms3 S3 => ∃ m', m' < m ∧ I m' F3 ms3 S3, ct := fun F3 ms3 S3 => ∃ m', m' < m ∧ I m' F3 ms3 S3, bk := A.nx }) ∧ (b = false → A.nx F2 ms2 S')) :
    AS Γ (tWhile t tu) F ms S A := fun R E σ H hs hh l => by
  refine ⟨fun m σ' H' => ∃ F' ms' S', Ex F F' ∧ SRep Γ.K F' S' σ' ∧ Hold Γ.K F' (ms' ++ R) H' ∧ I m F' ms' S', ⟨m0, F, ms, S, Ex.refl, hs, hh, h0⟩, ?_⟩
  rintro m σ' H' ⟨F', ms', S', e', hs', hh', p⟩
  refine hb m F' ms' S' e' p R σ' H' _ hs' hh' (l.xe.ex e') fun F2 ms2 b H2 e2 hh2 q => ?_
  cases b with
  | true =>
    refine ⟨fun σ3 H3 => ∃ m', m' < m ∧ ∃ F' ms' S', Ex F F' ∧ SRep Γ.K F' S' σ3 ∧ Hold Γ.K F' (ms' ++ R) H3 ∧ I m' F' ms' S', fun σ3 H3 z => z, ?_⟩
    exact q.1 rfl R _ σ' H2 (hs'.mono e2) hh2 ⟨l.xe.ex (e'.trans e2), fun F4 ms4 S4 σ4 H4 e4 a4 b4 ⟨m', lt, q4⟩ => ⟨m', lt, F4, ms4, S4, (e'.trans e2).trans e4, a4, b4, q4⟩, fun F4 ms4 d4 v4 H4 e4 b4 r4 q4 => l.rt F4 ms4 d4 v4 H4 ((e'.trans e2).trans e4) b4 r4 q4,
      fun F4 ms4 S4 σ4 H4 e4 a4 b4 q4 => l.nx F4 ms4 S4 σ4 H4 ((e'.trans e2).trans e4) a4 b4 q4, fun F4 ms4 S4 σ4 H4 e4 a4 b4 ⟨m', lt, q4⟩ => ⟨m', lt, F4, ms4, S4, (e'.trans e2).trans e4, a4, b4, q4⟩⟩
  | false => exact l.nx F2 ms2 S' σ' H2 (e'.trans e2) (hs'.mono e2) hh2 (q.2 rfl)
variable {P : Hp → Ms → List D → (Ms → Prop) → Prop}
/-- over a list: frozen, the script, or an owned one -/
theorem ai_list {tl : TE} (h : AE Γ tl F ms S fun F1 ms1 d => (∃ ds : List D, (d = .lst ds ∨ d = .rdl ds) ∧ P F1 ms1 ds fun _ => True) ∨ ∃ (n : Nat) (l : Addr) (ds : List D), d = .ref l ∧ ms1[n]? = some (l, MO.lst ds) ∧ P F1 ms1 ds fun ms' => ∃ n : Nat, ms'[n]? = some (l, MO.lst ds)) : AI Γ (iList Γ.K tl) F ms S P := fun R σ H Rc hs hh x k =>
  h R σ H _ hs hh x fun F1 ms1 d v H1 e1 h1 r1 q => by
    rcases q with ⟨ds, hd, p⟩ | ⟨n, l, ds, hd, hn, p⟩
    · obtain ⟨a, xs, rfl, hq, rl⟩ : ∃ a xs, v = .ref a ∧ SqL Γ.K F1 a xs ∧ RepL Γ.K F1 ds xs := by
        rcases hd with rfl | rfl
        · cases r1 with
          | lst ha r => exact ⟨_, _, rfl, SqL.of ha, r⟩
        · cases r1 with
          | rdl ha r => exact ⟨_, _, rfl, ha, r⟩
      refine ⟨a, rfl, ⟨xs, ex_l h1.ex hq⟩, k F1 ms1 ds (fun _ => True) _ H1 e1 h1 ⟨fun _ i H' F' ms' hi e' hh' _ => ?_, fun _ H' F' ms' e' hh' _ => ?_, fun _ i H' x H2 F' ms' hi e' hh' _ y => ?_⟩ p⟩
      · exact ⟨xs, xs[i]'(by rw [← rl.len]; exact hi), ex_l hh'.ex (ex_l e' hq), by simp [show i < xs.length by rw [← rl.len]; exact hi]⟩
      · exact ⟨xs, ex_l hh'.ex (ex_l e' hq), by rw [rl.len]; exact Nat.le_refl _⟩
      · obtain ⟨y1, y2⟩ := y
        subst y1
        obtain ⟨d, hd, rd⟩ := rl.get (y2 xs (ex_l hh'.ex (ex_l e' hq)))
        exact ⟨F', d, Ex.refl, hh', hd, rd.mono e'⟩
    · subst hd
      cases r1
      obtain ⟨_, xs, hl, rl⟩ := h1.at (get_app hn)
      refine ⟨l, rfl, ⟨xs, SqL.of hl⟩, k F1 ms1 ds _ _ H1 e1 h1 ⟨fun _ i H' F' ms' hi e' hh' ⟨n', hn'⟩ => ?_, fun _ H' F' ms' e' hh' ⟨n', hn'⟩ => ?_, fun _ i H' x H2 F' ms' hi e' hh' ⟨n', hn'⟩ y => ?_⟩ p⟩
      · obtain ⟨_, xs', hl', rl'⟩ := hh'.at (get_app hn')
        exact ⟨xs', xs'[i]'(by rw [← rl'.len]; exact hi), SqL.of hl', by simp [show i < xs'.length by rw [← rl'.len]; exact hi]⟩
      · obtain ⟨_, xs', hl', rl'⟩ := hh'.at (get_app hn')
        exact ⟨xs', SqL.of hl', by rw [rl'.len]; exact Nat.le_refl _⟩
      · obtain ⟨_, xs', hl', rl'⟩ := hh'.at (get_app hn')
        obtain ⟨y1, y2⟩ := y
        subst y1
        obtain ⟨d, hd, rd⟩ := rl'.get (y2 xs' (SqL.of hl'))
        exact ⟨F', d, Ex.refl, hh', hd, rd⟩
theorem ai_tup {tl : TE} (h : AE Γ tl F ms S fun F1 ms1 d => ∃ ds, d = .tup ds ∧ P F1 ms1 ds fun _ => True) : AI Γ (iTup Γ.K tl) F ms S P := fun R σ H Rc hs hh x k =>
  h R σ H _ hs hh x fun F1 ms1 d v H1 e1 h1 r1 ⟨ds, hd, p⟩ => by
    subst hd
    cases r1 with
    | @tup a xs _ hq rl =>
      refine ⟨a, rfl, ⟨xs, ex_t h1.ex hq⟩, k F1 ms1 ds (fun _ => True) _ H1 e1 h1 ⟨fun _ i H' F' ms' hi e' hh' _ => ?_, fun _ H' F' ms' e' hh' _ => ?_, fun _ i H' x H2 F' ms' hi e' hh' _ y => ?_⟩ p⟩
      · exact ⟨xs, xs[i]'(by rw [← rl.len]; exact hi), ex_t hh'.ex (ex_t e' hq), by simp [show i < xs.length by rw [← rl.len]; exact hi]⟩
      · exact ⟨xs, ex_t hh'.ex (ex_t e' hq), by rw [rl.len]; exact Nat.le_refl _⟩
      · obtain ⟨y1, y2⟩ := y
        subst y1
        obtain ⟨d, hd, rd⟩ := rl.get (y2 xs (ex_t hh'.ex (ex_t e' hq)))
        exact ⟨F', d, Ex.refl, hh', hd, rd.mono e'⟩
def rangeD (lo : Int) (n : Nat) : List D := (List.range n).map fun i => .int (lo + (i : Nat))
theorem rangeD_len (lo : Int) (n : Nat) : (rangeD lo n).length = n := by unfold rangeD; rw [List.length_map, List.length_range]
theorem rangeD_get {lo : Int} {n i : Nat} (h : i < n) : (rangeD lo n)[i]? = some (.int (lo + (i : Nat))) := by
  unfold rangeD
  rw [List.getElem?_map, List.getElem?_range h]
  rfl
theorem it_range {lo : Int} {n : Nat} {F1 : Hp} : ItD K (Itr lo n) F1 (fun _ => True) (rangeD lo n) where
  goes := fun _ i H F' ms' hi _ _ _ => by rw [rangeD_len] at hi; exact hi
  stops := fun _ H F' ms' _ _ _ => by rw [rangeD_len]; exact Nat.le_refl _
  yields := fun _ i H x H' F' ms' hi _ hh' _ y => by
    rw [rangeD_len] at hi
    obtain ⟨y1, y2⟩ := y
    subst y1 y2
    exact ⟨F', _, Ex.refl, hh', rangeD_get hi, .int _⟩
theorem ai_rng1 {ta : TA} (h : AA Γ ta F ms S fun F1 ms1 ds => ∃ n : Int, ds = [.int n] ∧ n < 2 ^ 62 ∧ -(2 ^ 62) ≤ n ∧ P F1 ms1 (rangeD 0 n.toNat) fun _ => True) : AI Γ (iRng1 ta) F ms S P := fun R σ H Rc hs hh x k =>
  h R σ H _ hs hh x fun F1 ms1 ds vs H1 e1 h1 r1 ⟨n, hd, n1, n2, p⟩ => by
    subst hd
    cases r1 with
    | cons a b =>
      cases b
      cases a
      exact ⟨n, rfl, n2, n1, k F1 ms1 _ _ _ H1 e1 h1 it_range p⟩
theorem ai_rng2 {ta : TA} (h : AA Γ ta F ms S fun F1 ms1 ds => ∃ m n : Int, ds = [.int m, .int n] ∧ (-(2 ^ 62) ≤ m ∧ m < 2 ^ 62 ∧ -(2 ^ 62) ≤ n ∧ n < 2 ^ 62) ∧ P F1 ms1 (rangeD m (n - m).toNat) fun _ => True) : AI Γ (iRng2 ta) F ms S P := fun R σ H Rc hs hh x k =>
  h R σ H _ hs hh x fun F1 ms1 ds vs H1 e1 h1 r1 ⟨m, n, hd, n1, p⟩ => by
    subst hd
    cases r1 with
    | cons a b =>
      cases b with
      | cons b c =>
        cases c
        cases a
        cases b
        exact ⟨m, n, rfl, n1, k F1 ms1 _ _ _ H1 e1 h1 it_range p⟩
def charsD (z : Str) : List D := z.cps.toList.map fun c => .str (sg c)
theorem ai_str {te : TE} (h : AE Γ te F ms S fun F1 ms1 d => ∃ z, d = .str z ∧ P F1 ms1 (charsD z) fun _ => True) : AI Γ (iStr te) F ms S P := fun R σ H Rc hs hh x k =>
  h R σ H _ hs hh x fun F1 ms1 d v H1 e1 h1 r1 ⟨z, hd, p⟩ => by
    subst hd
    cases r1
    have hl : (charsD z).length = z.cps.size := by unfold charsD; rw [List.length_map, Array.length_toList]
    refine ⟨z, rfl, k F1 ms1 (charsD z) (fun _ => True) _ H1 e1 h1 ⟨fun _ i H' F' ms' hi e' hh' _ => by rw [hl] at hi; exact hi, fun _ H' F' ms' e' hh' _ => by rw [hl]; exact Nat.le_refl _, fun _ i H' x H2 F' ms' hi e' hh' _ y => ?_⟩ p⟩
    obtain ⟨y1, c, y2, y3⟩ := y
    subst y1 y3
    refine ⟨F', _, Ex.refl, hh', ?_, .str _⟩
    unfold charsD
    rw [List.getElem?_map, Array.getElem?_toList, y2]
    rfl
end
end AL

set_option Elab.async false
set_option linter.all false
set_option maxRecDepth 100000
set_option maxHeartbeats 4000000
namespace AL
open PySem L2
/-! ### comprehensions -/
theorem wipe_get (σ : St) (j : Nat) : ∀ vs : List Nat, (L2.wipe σ vs)[j]? = if j ∈ vs then σ[j]?.map (fun _ => none) else σ[j]?
  | [] => by simp [L2.wipe]
  | v :: vs => by
    unfold L2.wipe
    by_cases h : v = j
    · subst h
      rw [List.getElem?_set]
      simp only [if_true, List.mem_cons, true_or, wipe_length]
      by_cases hl : v < σ.length
      · rw [if_pos hl, List.getElem?_eq_getElem hl]; rfl
      · rw [if_neg hl, List.getElem?_eq_none (by omega)]; rfl
    · rw [List.getElem?_set_ne h, wipe_get σ j vs]
      have e : (j ∈ v :: vs) ↔ j ∈ vs := by simp [Ne.symm h]
      simp only [e]
theorem wipe_set {σ : St} {i : Nat} {x : Option V} {vs : List Nat} (h : i ∈ vs) : L2.wipe (σ.set i x) vs = L2.wipe σ vs := by
  apply List.ext_getElem?
  intro j
  rw [wipe_get, wipe_get]
  by_cases e : i = j
  · subst e
    rw [if_pos h, if_pos h, List.getElem?_set]
    simp only [if_true]
    by_cases hl : i < σ.length
    · rw [if_pos hl, List.getElem?_eq_getElem hl]; rfl
    · rw [if_neg hl, List.getElem?_eq_none (by omega)]
  · rw [List.getElem?_set_ne e]
theorem wipe_wipe (σ : St) (vs : List Nat) : L2.wipe (L2.wipe σ vs) vs = L2.wipe σ vs := by
  apply List.ext_getElem?
  intro j
  rw [wipe_get, wipe_get]
  split
  · cases σ[j]? <;> rfl
  · rfl
/-- a target that stores in the block's own slots alone -/
def GW (g : TG) (vs : List Nat) : Prop := ∀ v σ H N τ, L2.wipe σ vs = τ → g v σ H N → g v σ H fun σ2 H2 => N σ2 H2 ∧ L2.wipe σ2 vs = τ
def GWs (g : TGs) (vs : List Nat) : Prop := ∀ xs σ H N τ, L2.wipe σ vs = τ → g xs σ H N → g xs σ H fun σ2 H2 => N σ2 H2 ∧ L2.wipe σ2 vs = τ
theorem gw_name {i : Nat} {vs : List Nat} (h : i ∈ vs) : GW (gName i) vs := fun v σ H N τ e q => ⟨q, by rw [wipe_set h]; exact e⟩
theorem gws_nil {vs : List Nat} : GWs gNil vs := fun xs σ H N τ e q => ⟨q.1, q.2, e⟩
theorem gws_cons {g : TG} {gs : TGs} {vs : List Nat} (gm : ∀ v σ H N N', (∀ σ2 H2, N σ2 H2 → N' σ2 H2) → g v σ H N → g v σ H N') (h : GW g vs) (hs : GWs gs vs) : GWs (gCons g gs) vs := fun xs σ H N τ e ⟨v, r, hx, q⟩ =>
  ⟨v, r, hx, gm v σ H _ _ (fun σ2 H2 ⟨a, b⟩ => hs r σ2 H2 N τ b a) (h v σ H _ τ e q)⟩
theorem gm_name {i : Nat} : ∀ v σ H N N', (∀ σ2 H2, N σ2 H2 → N' σ2 H2) → gName i v σ H N → gName i v σ H N' := fun v σ H N N' m q => m _ _ q
theorem gms_nil : ∀ v σ H N N', (∀ σ2 H2, N σ2 H2 → N' σ2 H2) → gNil v σ H N → gNil v σ H N' := fun v σ H N N' m q => ⟨q.1, m _ _ q.2⟩
theorem gms_cons {g : TG} {gs : TGs} (gm : ∀ v σ H N N', (∀ σ2 H2, N σ2 H2 → N' σ2 H2) → g v σ H N → g v σ H N') (gsm : ∀ v σ H N N', (∀ σ2 H2, N σ2 H2 → N' σ2 H2) → gs v σ H N → gs v σ H N') : ∀ v σ H N N', (∀ σ2 H2, N σ2 H2 → N' σ2 H2) → gCons g gs v σ H N → gCons g gs v σ H N' :=
  fun v σ H N N' m ⟨x, r, hx, q⟩ => ⟨x, r, hx, gm x σ H _ _ (fun σ2 H2 q2 => gsm r σ2 H2 N N' m q2) q⟩
theorem gm_tup {K : Frg} {n : Nat} {gs : TGs} (gsm : ∀ v σ H N N', (∀ σ2 H2, N σ2 H2 → N' σ2 H2) → gs v σ H N → gs v σ H N') : ∀ v σ H N N', (∀ σ2 H2, N σ2 H2 → N' σ2 H2) → gTup K n gs v σ H N → gTup K n gs v σ H N' :=
  fun v σ H N N' m ⟨a, xs, e, h1, h2, q⟩ => ⟨a, xs, e, h1, h2, gsm xs σ H N N' m q⟩
theorem gw_tup {K : Frg} {n : Nat} {gs : TGs} {vs : List Nat} (h : GWs gs vs) : GW (gTup K n gs) vs := fun v σ H N τ e ⟨a, xs, hv, h1, h2, q⟩ => ⟨a, xs, hv, h1, h2, h xs σ H N τ e q⟩
/-- nothing may be raised -/
abbrev Cg.nox (Γ : Cg) : Cg := { Γ with E := E0, Ea := fun _ _ _ _ => False }
theorem xle0 {Γ : Cg} {R : Ms} {F : Hp} : XLe Γ.nox R F := fun _ _ _ _ _ _ _ _ _ h => h.elim
section
variable {Γ : Cg} {K : Frg} {F : Hp} {ms : Ms} {S : Sg} {Q : QE} {ta tb te tx : TE} {t u tt : TT} {r : R2} {ts tu tw : TS} {A : AEnds} {g : TG} {wi : TI} {vs : List Nat}
theorem mid_get {ms R : Ms} {p : Addr × MO} : (ms ++ p :: R)[ms.length]? = some p := by rw [List.getElem?_append_right (Nat.le_refl _), Nat.sub_self]; rfl
theorem mid_erase {ms R : Ms} {p : Addr × MO} : (ms ++ p :: R).eraseIdx ms.length = ms ++ R := by rw [List.eraseIdx_append_of_length_le (Nat.le_refl _), Nat.sub_self]; rfl
theorem mid_set {ms R : Ms} {p q : Addr × MO} : (ms ++ p :: R).set ms.length q = ms ++ q :: R := by rw [List.set_append_right _ _ (Nat.le_refl _), Nat.sub_self]; rfl
theorem ae_lc (hg : GW g vs) (gm : ∀ v σ H N N', (∀ σ2 H2, N σ2 H2 → N' σ2 H2) → g v σ H N → g v σ H N') (h : AI Γ wi F ms S fun F1 ms1 ds G => ∃ I : Nat → Hp → Ms → List D → Prop, I 0 F1 ms1 [] ∧ (∀ i F' ms' acc, Ex F1 F' → I i F' ms' acc → G ms') ∧
    (∀ i d F' ms' acc, Ex F1 F' → ds[i]? = some d → I i F' ms' acc → ∀ F'', Ex F' F'' → AG Γ.nox g d F'' ms' (wipeS S vs) fun F2 ms2 S2 => AT Γ.nox tt F2 ms2 S2 fun F3 ms3 b => (b = true → AE Γ.nox te F3 ms3 S2 fun F4 ms4 y => acc.length < 100000 ∧ I (i + 1) F4 ms4 (acc ++ [y])) ∧ (b = false → I (i + 1) F3 ms3 acc)) ∧
    (∀ F' ms' acc, Ex F1 F' → I ds.length F' ms' acc → ∀ F'', Ex F' F'' → Q F'' ms' (.lst acc))) : AE Γ (tLc wi g tt te vs) F ms S Q := fun R σ H Qc hs hh x k =>
  h R σ H _ hs hh x fun F1 ms1 ds G J H1 e1 h1 it ⟨I, i0, iG, ib, ie⟩ => by
    intro D hD
    refine ⟨fun i m H' => m = ds.length - i ∧ i ≤ ds.length ∧ ∃ F' ms' acc, Ex F1 F' ∧ Hold Γ.K F' (ms' ++ (D, .lst acc) :: R) H' ∧ I i F' ms' acc, ⟨_, rfl, Nat.zero_le _, F1, ms1, [], Ex.refl, ?_, i0⟩, ?_⟩
    · exact (h1.made (m := .lst []) hD ⟨[], upd_same, .nil⟩).perm List.perm_middle
    rintro i m H' ⟨rfl, hi, F', ms', acc, e', hh', p⟩
    have hG := iG i F' ms' acc e' p
    by_cases hlt : i < ds.length
    · refine .inr ⟨it.goes _ i H' F' ms' hlt e' hh' hG, fun H2 => ∃ F2 ms2 acc2, Ex F1 F2 ∧ Hold Γ.K F2 (ms2 ++ (D, .lst acc2) :: R) H2 ∧ I (i + 1) F2 ms2 acc2, fun H2 ⟨F2, ms2, acc2, e2, b2, q2⟩ => ⟨ds.length - (i + 1), by omega, rfl, hlt, F2, ms2, acc2, e2, b2, q2⟩, fun x H2 y => ?_⟩
      obtain ⟨F2, d, e2, hh2, hd, hr⟩ := it.yields _ i H' x H2 F' ms' hlt e' hh' hG y
      refine gm x _ H2 _ _ (fun σ2 H3 z => ⟨z.2, z.1⟩) (hg x _ H2 _ _ (wipe_wipe σ vs) ?_)
      refine ib i d F' ms' acc e' hd p F2 e2 _ x (L2.wipe σ vs) H2 _ hr (((hs.mono e1).mono (e'.trans e2)).wipe vs) hh2 xle0 fun F3 ms3 S3 σ3 H3 e3 a3 b3 q3 => ?_
      refine q3 _ σ3 H3 _ a3 b3 xle0 fun F4 ms4 b H4 e4 b4 q4 => ?_
      cases b with
      | true =>
        refine q4.1 rfl _ σ3 H4 _ (a3.mono e4) b4 xle0 fun F5 ms5 d5 v5 H5 e5 b5 r5 q5 => ?_
        obtain ⟨_, vs5, hl, rl⟩ := b5.at mid_get
        refine ⟨vs5, hl, Evl.sz_lt (by rw [← rl.len]; exact q5.1), F5, ms5, acc ++ [d5], (((e'.trans e2).trans e3).trans e4).trans e5, ?_, q5.2⟩
        have := b5.set (m' := .lst (acc ++ [d5])) (o := .lst (vs5 ++ [v5])) mid_get ⟨_, upd_same, rl.append (RepL.one r5)⟩
        rw [mid_set] at this
        exact this
      | false => exact ⟨F4, ms4, acc, ((e'.trans e2).trans e3).trans e4, b4, q4.2 rfl⟩
    · have ei : i = ds.length := by omega
      subst ei
      refine .inl ⟨it.stops _ H' F' ms' e' hh' hG, ?_⟩
      obtain ⟨_, vsD, hl, rl⟩ := hh'.at mid_get
      obtain ⟨o, ho, e2, h2⟩ := hh'.freeze mid_get
      rw [hl] at ho
      cases ho
      rw [mid_erase] at h2
      exact k _ ms' (.lst acc) _ H' ((e1.trans e').trans e2) h2 (.lst upd_same (rl.mono e2)) (ie F' ms' acc e' p _ e2)

/-! ### defs -/
abbrev ASp := List D → Hp → Ms → QE → XA → Prop
def toSp (K : Frg) (sp : ASp) : Sp := fun vs H Q E => ∃ F ms R ds Qa Ea, Hold K F (ms ++ R) H ∧ RepL K F ds vs ∧ sp ds F ms Qa Ea ∧ (∀ F' ms' d v H', Ex F F' → Hold K F' (ms' ++ R) H' → Rep K F' d v → Qa F' ms' d → Q v H') ∧ XLe ⟨K, E, Ea⟩ R F
theorem ae_call {sp : ASp} {ta : TA} (h : AA Γ ta F ms S fun F1 ms1 ds => sp ds F1 ms1 Q Γ.Ea) : AE Γ (tCall (toSp Γ.K sp) [] Γ.E ta) F ms S Q := fun R σ H Qc hs hh x k =>
  h R σ H _ hs hh x fun F1 ms1 ds vs H1 e1 h1 r1 q1 => by
    show toSp Γ.K sp (vs ++ []) H1 Qc Γ.E
    rw [List.append_nil]
    exact ⟨F1, ms1, R, ds, Q, Γ.Ea, h1, r1, q1, fun F' ms' d v H' e => k F' ms' d v H' (e1.trans e), x.ex e1⟩
/-- with defaults -/
theorem ae_callD {sp : ASp} {ta : TA} {dvs : List V} {dds : List D} (hd : ∀ F, RepL Γ.K F dds dvs) (h : AA Γ ta F ms S fun F1 ms1 ds => sp (ds ++ dds) F1 ms1 Q Γ.Ea) : AE Γ (tCall (toSp Γ.K sp) dvs Γ.E ta) F ms S Q := fun R σ H Qc hs hh x k =>
  h R σ H _ hs hh x fun F1 ms1 ds vs H1 e1 h1 r1 q1 => ⟨F1, ms1, R, ds ++ dds, Q, Γ.Ea, h1, r1.append (hd F1), q1, fun F' ms' d v H' e => k F' ms' d v H' (e1.trans e), x.ex e1⟩
/-- an instance: frozen or owned -/
def InsF (K : Frg) (F : Hp) (a C : Addr) (fs : List (Str × D)) : Prop := ∃ dx gs, F a = some (.ins C dx gs) ∧ F dx = some (.own a) ∧ RepF K F fs gs
theorem InsF.mono {F' : Hp} {a C : Addr} {fs : List (Str × D)} (e : Ex F F') : InsF K F a C fs → InsF K F' a C fs := fun ⟨dx, gs, h1, h2, h3⟩ => ⟨dx, gs, e _ _ h1, e _ _ h2, h3.mono e⟩
def InsA (K : Frg) (F : Hp) (ms : Ms) (a C : Addr) (fs : List (Str × D)) : Prop := InsF K F a C fs ∨ ∃ n : Nat, ms[n]? = some (a, MO.ins C fs)
theorem InsA.to {a C : Addr} {fs : List (Str × D)} {R : Ms} {H : Hp} (i : InsA K F ms a C fs) (hh : Hold K F (ms ++ R) H) : ∃ dx gs, H a = some (.ins C dx gs) ∧ F dx = some (.own a) ∧ RepF K F fs gs := by
  rcases i with ⟨dx, gs, h1, h2, h3⟩ | ⟨n, hn⟩
  · exact ⟨dx, gs, hh.ex _ _ h1, h2, h3⟩
  · exact (hh.at (get_app hn)).2
theorem ae_fld {f : Str} (h : AE Γ ta F ms S fun F1 ms1 x => ∃ a C fs d, x = .ref a ∧ InsA Γ.K F1 ms1 a C fs ∧ Cls Γ.K C ∧ NoAttr Γ.K C f ∧ fs.lookup f = some d ∧ Q F1 ms1 d) : AE Γ (tFld Γ.K ta f) F ms S Q := fun R σ H Qc hs hh x k =>
  h R σ H _ hs hh x fun F1 ms1 d1 v1 H1 e1 h1 r1 ⟨a, C, fs, d, hx, hi, hc, hn, hl, q⟩ => by
    subst hx
    cases r1
    obtain ⟨dx, gs, i1, i2, i3⟩ := hi.to h1
    obtain ⟨v, hv, rv⟩ := i3.look hl
    exact ⟨a, C, dx, gs, v, rfl, i1, hc, hn, hv, k F1 ms1 d v H1 e1 h1 rv q⟩
theorem as_fld {f : Str} {tv : TE} (h : AE Γ tv F ms S fun F1 ms1 y => AE Γ ta F1 ms1 S fun F2 ms2 x => ∃ (n : Nat) (a C : Addr) (fs : List (Str × D)), x = .ref a ∧ ms2[n]? = some (a, .ins C fs) ∧ Cls Γ.K C ∧ NoAttr Γ.K C f ∧ fs.length < 1000 ∧ A.nx F2 (ms2.set n (a, .ins C (putD f y fs))) S) :
    AS Γ (sFld Γ.K ta tv f) F ms S A := fun R E σ H hs hh l =>
  h R σ H _ hs hh l.xe fun F1 ms1 y vy H1 e1 h1 r1 q1 => q1 R σ H1 _ (hs.mono e1) h1 (l.xe.ex e1) fun F2 ms2 x2 v2 H2 e2 h2 r2 ⟨n, a, C, fs, hx, hn, hc, hna, hl, q⟩ => by
    subst hx
    cases r2
    obtain ⟨_, dx, gs, i1, i2, i3⟩ := h2.at (get_app hn)
    refine ⟨a, C, dx, gs, rfl, i1, hc, hna, by rw [← i3.len]; exact hl, l.nx F2 (ms2.set n (a, .ins C (putD f y fs))) S σ _ (e1.trans e2) (hs.mono (e1.trans e2)) ?_ q⟩
    rw [← set_app hn]
    exact h2.set (get_app hn) ⟨dx, _, upd_same, i2, i3.put (r1.mono e2)⟩
theorem ae_meth {C : Addr} {m : Str} {sp : ASp} {ta' : TA} (h : AE Γ ta F ms S fun F1 ms1 x => ∃ a fs, x = .ref a ∧ InsA Γ.K F1 ms1 a C fs ∧ fs.lookup m = none ∧ AA Γ ta' F1 ms1 S fun F2 ms2 ds => sp (.ref a :: ds) F2 ms2 Q Γ.Ea) :
    AE Γ (tMeth C m (toSp Γ.K sp) [] Γ.E ta ta') F ms S Q := fun R σ H Qc hs hh x k =>
  h R σ H _ hs hh x fun F1 ms1 d1 v1 H1 e1 h1 r1 ⟨a, fs, hx, hi, hl, q⟩ => by
    subst hx
    cases r1
    obtain ⟨dx, gs, i1, i2, i3⟩ := hi.to h1
    refine ⟨a, dx, gs, rfl, i1, i3.lookN hl, q R σ H1 _ (hs.mono e1) h1 (x.ex e1) fun F2 ms2 ds vs H2 e2 h2 r2 q2 => ?_⟩
    show toSp Γ.K sp (V.ref a :: (vs ++ [])) H2 Qc Γ.E
    rw [List.append_nil]
    exact ⟨F2, ms2, R, .ref a :: ds, Q, Γ.Ea, h2, .cons (.ref a) r2, q2, fun F' ms' d v H' e => k F' ms' d v H' ((e1.trans e2).trans e), x.ex (e1.trans e2)⟩
theorem ae_prop {C : Addr} {sp : ASp} (h : AE Γ ta F ms S fun F1 ms1 x => ∃ a fs, x = .ref a ∧ InsA Γ.K F1 ms1 a C fs ∧ sp [.ref a] F1 ms1 Q Γ.Ea) : AE Γ (tProp C (toSp Γ.K sp) [] Γ.E ta) F ms S Q := fun R σ H Qc hs hh x k =>
  h R σ H _ hs hh x fun F1 ms1 d1 v1 H1 e1 h1 r1 ⟨a, fs, hx, hi, q⟩ => by
    subst hx
    cases r1
    obtain ⟨dx, gs, i1, i2, i3⟩ := hi.to h1
    exact ⟨a, dx, gs, rfl, i1, F1, ms1, R, [.ref a], Q, Γ.Ea, h1, .cons (.ref a) .nil, q, fun F' ms' d v H' e => k F' ms' d v H' (e1.trans e), x.ex e1⟩
theorem ae_make {C : Addr} {sp : ASp} {ta' : TA} {dvs : List V} {dds : List D} (hd : ∀ F, RepL Γ.K F dds dvs) (h : AA Γ ta' F ms S fun F1 ms1 ds => ∀ x F2, Ex F1 F2 → sp (.ref x :: (ds ++ dds)) F2 ((x, .ins C []) :: ms1) (fun F' ms' d => d = .non ∧ Q F' ms' (.ref x)) Γ.Ea) :
    AE Γ (tMake C (toSp Γ.K sp) dvs Γ.E ta') F ms S Q := fun R σ H Qc hs hh x k =>
  h R σ H _ hs hh x fun F1 ms1 ds vs H1 e1 h1 r1 q1 => by
    intro a dx na ndx ne
    obtain ⟨e2, h2⟩ := h1.laid (.own a) ndx
    have na2 : upd H1 dx (.own a) a = none := by rw [upd_ne ne.symm]; exact na
    have h3 := h2.made (m := .ins C []) (o := .ins C dx []) na2 ⟨dx, [], upd_same, upd_same, .nil⟩
    refine ⟨_, (a, .ins C []) :: ms1, R, .ref a :: (ds ++ dds), _, Γ.Ea, h3, .cons (.ref a) ((r1.mono e2).append (hd _)), q1 a _ e2, fun F' ms' d v H' e ho hr ⟨hdn, q⟩ => ?_, x.ex (e1.trans e2)⟩
    subst hdn
    cases hr
    exact ⟨rfl, k F' ms' (.ref a) _ H' ((e1.trans e2).trans e) ho (.ref a) q⟩
end
def startS (N : List Str) (ds : List D) : Sg := ds.map some ++ List.replicate (N.length - ds.length) none
theorem start_rep {K : Frg} {F : Hp} {N : List Str} : ∀ {ds : List D} {vs : List V}, RepL K F ds vs → SRep K F (startS N ds) (L2.start N vs) := fun {ds vs} r => by
  unfold startS L2.start
  refine ⟨by simp [r.len], fun i d h => ?_⟩
  by_cases hi : i < ds.length
  · rw [List.getElem?_append_left (by simpa using hi), List.getElem?_map] at h
    cases e : ds[i]? with
    | none => rw [e] at h; cases h
    | some d' =>
      rw [e] at h
      cases h
      obtain ⟨v, hv, rv⟩ := r.getD e
      refine ⟨v, ?_, rv⟩
      rw [List.getElem?_append_left (by rw [List.length_map, ← r.len]; exact hi), List.getElem?_map, hv]
      rfl
  · rw [List.getElem?_append_right (by simpa using hi), List.getElem?_replicate] at h
    split at h <;> cases h
section
variable {P : Program} {w : World} {K : Frg} {mg : Str → Option Value} {base : Heap}
/-- a def that raises nothing -/
theorem fn_ok {x qual : Str} {st : Stmt} {f : Addr} {fd : FuncData} {N ps : List Str} {k : Nat} {sp : ASp} (F : Fun K x qual st f fd) (Sc : FnScope N ps (defScope st)) (len : ∀ ds F ms Q E, sp ds F ms Q E → ds.length = ps.length)
    (hbody : ∀ (cdv : Value) (A : Around) (outer : List Env) (s : Shared) (H : Hp) (E : XK), Room k (A.deeper (PyProof.Rows.envOfC qual (defScope st) s.heap.objs.size f cdv)) → ∃ t, PSs (cxOf CX0 P w K mg base N qual (defScope st) f cdv A outer s H E).nox (defBody st) t ∧
      ∀ ds F ms Q Ea, sp ds F ms Q Ea → AS ⟨K, E0, fun _ _ _ _ => False⟩ t F ms (startS N ds) { nx := fun F' ms' _ => Q F' ms' .non, rt := Q }) : FnOk P w K mg base CX0 (k + 1) f fd ps (toSp K sp) := by
  refine F.ok Sc (fun vs H Q E h => ?_) (fun cdv A outer s H vs Q E hr h => ?_)
  · obtain ⟨F0, ms, R, ds, Qa, Ea, h1, h2, h3, _⟩ := h
    rw [← h2.len]
    exact len _ _ _ _ _ h3
  · obtain ⟨F0, ms, R, ds, Qa, Ea, h1, h2, h3, h4, h5⟩ := h
    obtain ⟨t, ht, q⟩ := hbody cdv A outer s H E hr
    refine ⟨t, ht, q ds F0 ms Qa Ea h3 R _ _ H (start_rep h2) h1 ⟨fun _ _ _ _ _ _ _ _ _ z => z.elim, fun F' ms' S' σ' H' e a b q' => h4 F' ms' .non .non H' e b .non q', fun F' ms' d v H' e b r q' => h4 F' ms' d v H' e b r q', fun _ _ _ _ _ _ _ _ z => z.elim, fun _ _ _ _ _ _ _ _ z => z.elim⟩⟩
/-- a def that may raise -/
theorem fn_okX {x qual : Str} {st : Stmt} {f : Addr} {fd : FuncData} {N ps : List Str} {k : Nat} {sp : ASp} (F : Fun K x qual st f fd) (Sc : FnScope N ps (defScope st)) (len : ∀ ds F ms Q E, sp ds F ms Q E → ds.length = ps.length)
    (hbody : ∀ (cdv : Value) (A : Around) (outer : List Env) (s : Shared) (H : Hp) (E : XK), Room k (A.deeper (PyProof.Rows.envOfC qual (defScope st) s.heap.objs.size f cdv)) → ∃ t, PSs (cxOf (L2.CX P w) P w K mg base N qual (defScope st) f cdv A outer s H E) (defBody st) t ∧
      ∀ ds F ms Q Ea, sp ds F ms Q Ea → AS ⟨K, E, Ea⟩ t F ms (startS N ds) { nx := fun F' ms' _ => Q F' ms' .non, rt := Q }) : FnOk P w K mg base (L2.CX P w) (k + 1) f fd ps (toSp K sp) := by
  refine F.okX Sc (fun vs H Q E h => ?_) (fun cdv A outer s H vs Q E hr h => ?_)
  · obtain ⟨F0, ms, R, ds, Qa, Ea, h1, h2, h3, _⟩ := h
    rw [← h2.len]
    exact len _ _ _ _ _ h3
  · obtain ⟨F0, ms, R, ds, Qa, Ea, h1, h2, h3, h4, h5⟩ := h
    obtain ⟨t, ht, q⟩ := hbody cdv A outer s H E hr
    exact ⟨t, ht, q ds F0 ms Qa Ea h3 R _ _ H (start_rep h2) h1 ⟨h5, fun F' ms' S' σ' H' e a b q' => h4 F' ms' .non .non H' e b .non q', fun F' ms' d v H' e b r q' => h4 F' ms' d v H' e b r q', fun _ _ _ _ _ _ _ _ z => z.elim, fun _ _ _ _ _ _ _ _ z => z.elim⟩⟩
end
end AL

set_option Elab.async false
set_option linter.all false
set_option maxRecDepth 100000
set_option maxHeartbeats 4000000
namespace AL
open PySem L2
/-! ### two more built-ins at the library's level: list(text), min of texts -/
theorem richCmp_lt_str {prog : Program} {w : World} {A : Around} {E Q : Value → Shared → Prop} {s : Shared} {x y : Str} {t u : Tok} (h : Q (.bool (decide (x.cps.toList < y.cps.toList))) s) : wpAny (model prog w) A (richCompare .Lt (.str x t) (.str y u)) Q E s :=
  wpAny_richCompare_same (op := .Lt) (T := "str") (typeIs_str s x t) (typeIs_str s y u) PyProof.Rows.slot_str_lt
    (wpAny_call_entry PyProof.Rows.slot_str_lt (typeIs_str s x t) PyProof.Rows.entry_str_lt (show wpAny _ _ (ret (.bool (x.cps.toList < y.cps.toList))) _ _ s from wpAny_pure ⟨_, rfl, by simp, h⟩) (PyProof.Rows.args_str_lt _ _))
theorem cmp_strs {prog : Program} {w : World} {A : Around} {P : Nat → Value → Prop} (val : Nat → Str) (hval : ∀ i v, P i v → ∃ t, v = .str (val i) t) :
    CmpOf prog w A .Lt P (fun i j => decide ((val i).cps.toList < (val j).cps.toList)) := fun i j vi vj s Q E hi hj h => by
  obtain ⟨t, rfl⟩ := hval i vi hi
  obtain ⟨u, rfl⟩ := hval j vj hj
  exact richCmp_lt_str h
section
variable {X : Cx}
def minS (x y : Str) : Str := if y.cps.toList < x.cps.toList then y else x
/-- min(a, b) of texts -/
def rMinS : List V → Hp → VK → Prop := fun xs H Q => ∃ x y, xs = [.str x, .str y] ∧ Q (.str (minS x y)) H
theorem call_minS (hc : X.calm = true) : CallR X (.builtin "min") rMinS := by
  intro pins s σ H xs us Q I r h
  obtain ⟨x, y, rfl, q⟩ := h
  obtain ⟨u, w', rfl, ⟨t, rfl⟩, ⟨t', rfl⟩⟩ := vals2 r
  have hT : (s.heap.push { cls := .type "tuple", data := .seq #[Value.str x t, Value.str y t'] }).IsTuple s.heap.objs.size #[Value.str x t, Value.str y t'] := ⟨_, Heap.get?_push_size _ rfl, rfl, 0, rfl⟩
  refine call_min_two (wpAny_pyIter_tuple hT ?_)
  have hsz : (s.heap.push { cls := .type "tuple", data := .seq #[Value.str x t, Value.str y t'] }).objs.size = s.heap.objs.size + 1 := Heap.size_push ..
  refine ⟨_, [_, s.heap.objs.size], [_], _, _, _, _, rfl, Walks.tuple (A := X.A.in1) (I.ok.hd hc) _ s.heap.objs.size (by rw [hsz]; exact Nat.ne_of_lt (Nat.lt_succ_self _)) #[Value.str x t, Value.str y t'],
    ⟨⟨_, Heap.get?_push_size _ rfl, rfl, rfl⟩, hT.push _⟩, fun c hcm => ?_, by simp, cmp_strs (fun i => if i = 0 then x else y) (fun i v hv => ?_), fun v h' tk hP hk => ?_⟩
  · show c < ((s.heap.push _).push _).objs.size
    rw [Heap.size_push, hsz]
    rcases List.mem_cons.mp hcm with rfl | hcm
    · rw [hsz]; exact Nat.lt_succ_self _
    · rcases List.mem_cons.mp hcm with rfl | hcm
      · exact Nat.lt_succ_of_lt (Nat.lt_succ_self _)
      · cases hcm
  · match i, hv with
    | 0, hv => simp at hv; exact ⟨t, by simp [hv]⟩
    | 1, hv => simp at hv; exact ⟨t', by simp [hv]⟩
    | n + 2, hv => simp at hv
  · have hold : ∀ c o, s.heap.get? c = some o → h'.get? c = some o := fun c o e => by
      refine hk c o (fun hm => ?_) (Heap.get?_push_of_some _ (Heap.get?_push_of_some _ e))
      rcases List.mem_cons.mp hm with e1 | hm
      · have := Heap.lt_size e; rw [e1, hsz] at this; exact Nat.lt_irrefl _ (Nat.lt_of_succ_lt this)
      · cases hm
    refine ⟨.str (minS x y), H, I.kept hold, ?_, q⟩
    have hsz2 : (#[Value.str x t, Value.str y t'] : Array Value).size - 1 = 1 := by simp
    rw [hsz2] at hP
    unfold minS
    by_cases hba : y.cps.toList < x.cps.toList
    · have e : argBest (fun i j => decide ((if i = 0 then x else y).cps.toList < (if j = 0 then x else y).cps.toList)) 1 = 1 := by simp [argBest, hba]
      rw [e] at hP
      rw [if_pos hba]
      have : v = .str y t' := by simpa using hP.symm
      exact ⟨t', this⟩
    · have e : argBest (fun i j => decide ((if i = 0 then x else y).cps.toList < (if j = 0 then x else y).cps.toList)) 1 = 0 := by simp [argBest, hba]
      rw [e] at hP
      rw [if_neg hba]
      have : v = .str x t := by simpa using hP.symm
      exact ⟨t, this⟩
/-- min of a text of two signs -/
def rMinT : List V → Hp → VK → Prop := fun xs H Q => ∃ a b : Nat, xs = [.str ⟨#[a, b]⟩] ∧ Q (.str (minS (sg a) (sg b))) H
theorem call_minT (hc : X.calm = true) : CallR X (.builtin "min") rMinT := by
  intro pins s σ H xs us Q I r h
  obtain ⟨a, b, rfl, q⟩ := h
  obtain ⟨u, rfl, t, rfl⟩ := vals1 r
  refine call_min_walk (wpAny_pyIter_str fun o St W st => ?_)
  have hsz : (s.heap.push o).objs.size = s.heap.objs.size + 1 := Heap.size_push ..
  refine ⟨_, _, _, _, _, _, _, rfl, W X.A.in1 (I.ok.hd hc), st, fun c hcm => ?_, by simp, cmp_strs (fun i => if i = 0 then sg a else sg b) (fun i v hv => ?_), fun v h' tk hP hk => ?_⟩
  · rcases List.mem_cons.mp hcm with rfl | hcm
    · show s.heap.objs.size < (s.heap.push o).objs.size
      rw [hsz]; exact Nat.lt_succ_self _
    · cases hcm
  · obtain ⟨c, u, h1, h2⟩ := hv
    match i, h1 with
    | 0, h1 => simp at h1; exact ⟨u, by rw [h2, ← h1]; rfl⟩
    | 1, h1 => simp at h1; exact ⟨u, by rw [h2, ← h1]; rfl⟩
    | n + 2, h1 => simp at h1
  · have hold : ∀ c o, s.heap.get? c = some o → h'.get? c = some o := fun c o e => by
      refine hk c o (fun hm => ?_) (Heap.get?_push_of_some _ e)
      rcases List.mem_cons.mp hm with e1 | hm
      · have := Heap.lt_size e; rw [e1] at this; exact Nat.lt_irrefl _ this
      · cases hm
    refine ⟨.str (minS (sg a) (sg b)), H, I.kept hold, ?_, q⟩
    have hsz2 : (⟨#[a, b]⟩ : Str).cps.size - 1 = 1 := by simp
    rw [hsz2] at hP
    unfold minS
    by_cases hba : (sg b).cps.toList < (sg a).cps.toList
    · have e : argBest (fun i j => decide ((if i = 0 then sg a else sg b).cps.toList < (if j = 0 then sg a else sg b).cps.toList)) 1 = 1 := by simp [argBest, hba]
      rw [e] at hP
      rw [if_pos hba]
      obtain ⟨c, u, h1, h2⟩ := hP
      simp at h1
      exact ⟨u, by rw [h2, ← h1]; rfl⟩
    · have e : argBest (fun i j => decide ((if i = 0 then sg a else sg b).cps.toList < (if j = 0 then sg a else sg b).cps.toList)) 1 = 0 := by simp [argBest, hba]
      rw [e] at hP
      rw [if_neg hba]
      obtain ⟨c, u, h1, h2⟩ := hP
      simp at h1
      exact ⟨u, by rw [h2, ← h1]; rfl⟩
def rListT : List V → Hp → VK → Prop := fun xs H Q => ∃ z : Str, xs = [.str z] ∧ z.cps.size ≤ sizeLine ∧ ∀ l, H l = none → Q (.ref l) (upd H l (.lst (z.cps.toList.map fun c => V.str (sg c))))
theorem call_list_T (hc : X.calm = true) : CallR X (.type "list") rListT := by
  intro pins s σ H xs us Q I r h
  obtain ⟨z, rfl, hz, q⟩ := h
  obtain ⟨u, rfl, t, rfl⟩ := vals1 r
  refine call_list_str (I.ok.hd hc) z t (fun h' tk acc' c' hk hS hacc => ?_) hz
  refine ⟨.ref s.heap.objs.size, _, I.laid hk (Nat.le_refl _) (show ObjOk X.prog X.w _ h' _ (.lst (z.cps.toList.map fun c => V.str (sg c))) from ⟨?_, acc'.toList, c', ?_, ?_⟩), rfl, q _ (I.hok.fresh (Nat.le_refl _))⟩
  · rw [List.length_map, Array.length_toList]; exact hz
  · have el : acc'.toList.length = acc'.size := by simp
    refine vals_of_at (by rw [List.length_map, Array.length_toList, el, hacc.1]) fun j x w h1 h2 => ?_
    obtain ⟨c, u, h3, h4⟩ := hacc.2 j w (by rw [← Array.getElem?_toList]; exact h2)
    rw [List.getElem?_map, Array.getElem?_toList, h3] at h1
    cases h1
    exact ⟨u, h4⟩
  · rw [Array.toArray_toList]; exact hS
def rListS' (K : Frg) : List V → Hp → VK → Prop := fun xs H Q => ∃ p ys, xs = [.ref p] ∧ (SqL K H p ys ∨ SqT K H p ys) ∧ ∀ l, H l = none → Q (.ref l) (upd H l (.lst ys))
def rLIST (K : Frg) : List V → Hp → VK → Prop := fun xs H Q => rListS' K xs H Q ∨ rListT xs H Q
theorem cor {f : Value} {r r' : List V → Hp → VK → Prop} (h : CallR X f r) (h' : CallR X f r') : CallR X f fun xs H Q => r xs H Q ∨ r' xs H Q := by
  intro pins s σ H xs us Q I rs q
  rcases q with q | q
  · exact h pins s σ H xs us Q I rs q
  · exact h' pins s σ H xs us Q I rs q
theorem call_LIST (hc : X.calm = true) : CallR X (.type "list") (rLIST X.K) := cor call_list_of (call_list_T hc)
def rMinI : List V → Hp → VK → Prop := fun xs H Q => ∃ i j, xs = [.int i, .int j] ∧ Q (.int (if j < i then j else i)) H
def rMIN : List V → Hp → VK → Prop := fun xs H Q => rMinI xs H Q ∨ (rMinS xs H Q ∨ rMinT xs H Q)
theorem call_MIN (hc : X.calm = true) : CallR X (.builtin "min") rMIN := cor (call_min2 hc) (cor (call_minS hc) (call_minT hc))
def rMaxI : List V → Hp → VK → Prop := fun xs H Q => ∃ i j, xs = [.int i, .int j] ∧ Q (.int (if j > i then j else i)) H
theorem call_MAX2 (hc : X.calm = true) : CallR X (.builtin "max") rMaxI := call_max2 hc
def rABS : List V → Hp → VK → Prop := fun xs H Q => ∃ i, xs = [.int i] ∧ Q (.int (if i < 0 then -i else i)) H
theorem call_ABS : CallR X (.builtin "abs") rABS := call_abs
def rTUPLE (K : Frg) : List V → Hp → VK → Prop := fun xs H Q => ∃ p ys, xs = [.ref p] ∧ ((SqL K H p ys ∧ ∀ l, H l = none → Q (.ref l) (upd H l (.tup ys))) ∨ (SqT K H p ys ∧ Q (.ref p) H))
theorem call_TUPLE : CallR X (.type "tuple") (rTUPLE X.K) := call_tuple_of
def rSTRI : List V → Hp → VK → Prop := fun xs H Q => ∃ i, xs = [.int i] ∧ i.natAbs.log2 < 1920 ∧ Q (.str (toString i)) H
theorem call_STRI : CallR X (.type "str") rSTRI := call_str_int
def rINT : List V → Hp → VK → Prop := fun xs H Q => ((∃ i, xs = [.int i] ∧ Q (.int i) H) ∨ ∃ k, xs = [.bl k] ∧ Q (.int (if k then 1 else 0)) H) ∨ ∃ a n, xs = [.str a] ∧ PySem.intText? a = some n ∧ a.length ≤ 640 ∧ Q (.int n) H
theorem call_INT : CallR X (.type "int") rINT := cor call_int1 call_int_str
end
section
variable {Γ : Cg} {K : Frg} {F : Hp} {ms : Ms} {S : Sg} {Q : QE} {ta tb te tx : TE} {t u tt : TT} {r : R2} {ts tu tw : TS} {A : AEnds}
theorem rep_l {d : D} {a : Addr} {H : Hp} {ds : List D} (hd : d = .lst ds ∨ d = .rdl ds) {v : V} (r : Rep K F d v) (e : Ex F H) : ∃ p ys, v = .ref p ∧ SqL K H p ys ∧ RepL K F ds ys := by
  rcases hd with rfl | rfl
  · cases r with
    | lst h r => exact ⟨_, _, rfl, SqL.of (e _ _ h), r⟩
  · cases r with
    | rdl h r => exact ⟨_, _, rfl, ex_l e h, r⟩
theorem ac2 {rc : List V → Hp → VK → Prop} {d d2 : D} (h : ∀ (R : Ms) v v2 H (Qc : VK), Rep K F d v → Rep K F d2 v2 → Hold K F (ms ++ R) H → (∀ F' ms' d v H', Ex F F' → Hold K F' (ms' ++ R) H' → Rep K F' d v → Q F' ms' d → Qc v H') → rc [v, v2] H Qc) : AC K rc [d, d2] F ms Q := fun R vs H Qc hv hh k => by
  cases hv with
  | cons h1 h2 =>
    cases h2 with
    | cons h2 h3 =>
      cases h3
      exact h R _ _ H Qc h1 h2 hh k
theorem AC.or1 {rc rc' : List V → Hp → VK → Prop} {ds : List D} (h : AC K rc ds F ms Q) : AC K (fun xs H Q => rc xs H Q ∨ rc' xs H Q) ds F ms Q := fun R vs H Qc hv hh k => .inl (h R vs H Qc hv hh k)
theorem AC.or2 {rc rc' : List V → Hp → VK → Prop} {ds : List D} (h : AC K rc' ds F ms Q) : AC K (fun xs H Q => rc xs H Q ∨ rc' xs H Q) ds F ms Q := fun R vs H Qc hv hh k => .inr (h R vs H Qc hv hh k)
theorem ac_abs {i : Int} (q : Q F ms (.int (if i < 0 then -i else i))) : AC K rABS [.int i] F ms Q := ac1 fun R v H Qc hv hh k => by
  cases hv
  exact ⟨i, rfl, k F ms _ _ H Ex.refl hh (.int _) q⟩
/-- list(x): a new list, frozen or owned -/
theorem ac_listF {d : D} {ds : List D} (hd : (d = .lst ds ∨ d = .rdl ds) ∨ d = .tup ds) (q : ∀ F', Ex F F' → Q F' ms (.lst ds)) : AC K (rLIST K) [d] F ms Q := AC.or1 (ac1 fun R v H Qc hv hh k => by
  have : ∃ p ys, v = .ref p ∧ (SqL K H p ys ∨ SqT K H p ys) ∧ RepL K F ds ys := by
    rcases hd with hd | rfl
    · obtain ⟨p, ys, h1, h2, h3⟩ := rep_l (a := 0) hd hv hh.ex
      exact ⟨p, ys, h1, .inl h2, h3⟩
    · cases hv with
      | tup h r => exact ⟨_, _, rfl, .inr (ex_t hh.ex h), r⟩
  obtain ⟨p, ys, rfl, h2, h3⟩ := this
  refine ⟨p, ys, rfl, h2, fun l hl => ?_⟩
  obtain ⟨e, hh'⟩ := hh.laid (.lst ys) hl
  exact k _ ms (.lst ds) _ _ e hh' (.lst upd_same (h3.mono e)) (q _ e))
theorem ac_listO {d : D} {ds : List D} (hd : (d = .lst ds ∨ d = .rdl ds) ∨ d = .tup ds) (q : ∀ l, Q F ((l, .lst ds) :: ms) (.ref l)) : AC K (rLIST K) [d] F ms Q := AC.or1 (ac1 fun R v H Qc hv hh k => by
  have : ∃ p ys, v = .ref p ∧ (SqL K H p ys ∨ SqT K H p ys) ∧ RepL K F ds ys := by
    rcases hd with hd | rfl
    · obtain ⟨p, ys, h1, h2, h3⟩ := rep_l (a := 0) hd hv hh.ex
      exact ⟨p, ys, h1, .inl h2, h3⟩
    · cases hv with
      | tup h r => exact ⟨_, _, rfl, .inr (ex_t hh.ex h), r⟩
  obtain ⟨p, ys, rfl, h2, h3⟩ := this
  refine ⟨p, ys, rfl, h2, fun l hl => ?_⟩
  exact k F ((l, .lst ds) :: ms) (.ref l) _ _ Ex.refl (hh.made (m := .lst ds) hl ⟨ys, upd_same, h3⟩) (.ref l) (q l))
theorem ac_listOo {l0 : Addr} {ds : List D} (n : Nat) (hn : ms[n]? = some (l0, .lst ds)) (q : ∀ l, Q F ((l, .lst ds) :: ms) (.ref l)) : AC K (rLIST K) [.ref l0] F ms Q := AC.or1 (ac1 fun R v H Qc hv hh k => by
  cases hv
  obtain ⟨_, ys, hl, h3⟩ := hh.at (get_app hn)
  refine ⟨l0, ys, rfl, .inl (SqL.of hl), fun l hl => ?_⟩
  exact k F ((l, .lst ds) :: ms) (.ref l) _ _ Ex.refl (hh.made (m := .lst ds) hl ⟨ys, upd_same, h3⟩) (.ref l) (q l))
theorem repL_chars (z : Str) : RepL K F (charsD z) (z.cps.toList.map fun c => V.str (sg c)) := by
  unfold charsD
  induction z.cps.toList with
  | nil => exact .nil
  | cons c r ih => exact .cons (.str _) ih
theorem ac_listT {z : Str} (hz : z.length ≤ 100000) (q : ∀ F', Ex F F' → Q F' ms (.lst (charsD z))) : AC K (rLIST K) [.str z] F ms Q := AC.or2 (ac1 fun R v H Qc hv hh k => by
  cases hv
  refine ⟨z, rfl, Evl.sz_of hz, fun l hl => ?_⟩
  obtain ⟨e, hh'⟩ := hh.laid (.lst (z.cps.toList.map fun c => V.str (sg c))) hl
  exact k _ ms (.lst (charsD z)) _ _ e hh' (.lst upd_same (repL_chars z)) (q _ e))
theorem ac_tupleL {d : D} {ds : List D} (hd : d = .lst ds ∨ d = .rdl ds) (q : ∀ F', Ex F F' → Q F' ms (.tup ds)) : AC K (rTUPLE K) [d] F ms Q := ac1 fun R v H Qc hv hh k => by
  obtain ⟨p, ys, rfl, h2, h3⟩ := rep_l (a := 0) hd hv hh.ex
  refine ⟨p, ys, rfl, .inl ⟨h2, fun l hl => ?_⟩⟩
  obtain ⟨e, hh'⟩ := hh.laid (.tup ys) hl
  exact k _ ms (.tup ds) _ _ e hh' (.tup (SqT.of upd_same) (h3.mono e)) (q _ e)
theorem ac_tupleT {ds : List D} (q : Q F ms (.tup ds)) : AC K (rTUPLE K) [.tup ds] F ms Q := ac1 fun R v H Qc hv hh k => by
  cases hv with
  | tup h r => exact ⟨_, _, rfl, .inr ⟨ex_t hh.ex h, k F ms (.tup ds) _ _ Ex.refl hh (.tup h r) q⟩⟩
theorem ac_minI {i j : Int} (q : Q F ms (.int (if j < i then j else i))) : AC K rMIN [.int i, .int j] F ms Q := AC.or1 (ac2 fun R v v2 H Qc hv hv2 hh k => by
  cases hv; cases hv2
  exact ⟨i, j, rfl, k F ms _ _ H Ex.refl hh (.int _) q⟩)
theorem ac_minS {i j : Str} (q : Q F ms (.str (minS i j))) : AC K rMIN [.str i, .str j] F ms Q := AC.or2 (AC.or1 (ac2 fun R v v2 H Qc hv hv2 hh k => by
  cases hv; cases hv2
  exact ⟨i, j, rfl, k F ms _ _ H Ex.refl hh (.str _) q⟩))
theorem ac_minT {a b : Nat} (q : Q F ms (.str (minS (sg a) (sg b)))) : AC K rMIN [.str ⟨#[a, b]⟩] F ms Q := AC.or2 (AC.or2 (ac1 fun R v H Qc hv hh k => by
  cases hv
  exact ⟨a, b, rfl, k F ms _ _ H Ex.refl hh (.str _) q⟩))
theorem ac_maxI {i j : Int} (q : Q F ms (.int (if j > i then j else i))) : AC K rMaxI [.int i, .int j] F ms Q := ac2 fun R v v2 H Qc hv hv2 hh k => by
  cases hv; cases hv2
  exact ⟨i, j, rfl, k F ms _ _ H Ex.refl hh (.int _) q⟩
theorem ac_strI {i : Int} (hi : i.natAbs < 1000000) (q : Q F ms (.str (toString i))) : AC K rSTRI [.int i] F ms Q := ac1 fun R v H Qc hv hh k => by
  cases hv
  refine ⟨i, rfl, ?_, k F ms _ _ H Ex.refl hh (.str _) q⟩
  by_cases h0 : i.natAbs = 0
  · rw [h0]; decide
  · have h1 : i.natAbs.log2 < 20 := (Nat.log2_lt h0).mpr (by omega)
    omega
theorem ac_intI {i : Int} (q : Q F ms (.int i)) : AC K rINT [.int i] F ms Q := AC.or1 (AC.or1 (ac1 fun R v H Qc hv hh k => by
  cases hv
  exact ⟨i, rfl, k F ms _ _ H Ex.refl hh (.int _) q⟩))
theorem ac_intB {b : Bool} (q : Q F ms (.int (if b then 1 else 0))) : AC K rINT [.bl b] F ms Q := AC.or1 (AC.or2 (ac1 fun R v H Qc hv hh k => by
  cases hv
  exact ⟨b, rfl, k F ms _ _ H Ex.refl hh (.int _) q⟩))
theorem ac_intS {z : Str} {n : Int} (h : PySem.intText? z = some n) (hz : z.length ≤ 640) (q : Q F ms (.int n)) : AC K rINT [.str z] F ms Q := AC.or2 (ac1 fun R v H Qc hv hh k => by
  cases hv
  exact ⟨z, n, rfl, h, hz, k F ms _ _ H Ex.refl hh (.int _) q⟩)
/-! ### isinstance -/
def kindD : D → String
  | .non => "NoneType" | .bl _ => "bool" | .int _ => "int" | .str _ => "str" | .tup _ => "tuple" | .lst _ => "list" | .rdl _ => "list" | .dic _ => "dict" | .ref _ => "" | .ty _ => ""
theorem ty_of {d : D} {v : V} {H : Hp} (r : Rep K F d v) (e : Ex F H) (hd : kindD d ≠ "") (hr : ∀ ds, d ≠ .rdl ds) : TyX K H v (.type (kindD d)) := by
  cases r with
  | non => exact .base .non
  | bl b => exact .base (.bl b)
  | int i => exact .base (.int i)
  | str x => exact .base (.str x)
  | ref a => exact absurd rfl hd
  | ty n => exact absurd rfl hd
  | tup h r =>
    rcases ex_t e h with (h | ⟨o, h⟩) | ⟨o, _, _, h, hc, _⟩
    · exact .base (.tup h)
    · exact .fTuple h
    · exact .kTuple h hc
  | lst h r => exact .base (.lst (e _ _ h))
  | rdl h r => exact absurd rfl (hr _)
  | dic h r => exact .base (.dK (e _ _ h))
theorem ac_isi {d : D} {n : String} (hd : kindD d ≠ "" := by decide) (hr : ∀ ds, d ≠ .rdl ds := by (intro ds h; cases h)) {b : Bool} (hk : kitB (kindD d) n = some b) (q : Q F ms (.bl b)) : AC K (rIsi K) [d, .ty n] F ms Q := ac2 fun R v v2 H Qc hv hv2 hh k => by
  cases hv2
  exact ⟨v, .ty n, _, _, b, rfl, .ty n, ty_of hv hh.ex hd hr, kit_ty hk, k F ms _ _ H Ex.refl hh (.bl _) q⟩
/-- an owned list -/
theorem ac_isiO {l : Addr} {ds : List D} {n : String} (j : Nat) (hj : ms[j]? = some (l, .lst ds)) {b : Bool} (hk : kitB "list" n = some b) (q : Q F ms (.bl b)) : AC K (rIsi K) [.ref l, .ty n] F ms Q := ac2 fun R v v2 H Qc hv hv2 hh k => by
  cases hv2; cases hv
  obtain ⟨_, vs, hl, _⟩ := hh.at (get_app hj)
  exact ⟨_, .ty n, _, _, b, rfl, .ty n, .base (.lst hl), kit_ty hk, k F ms _ _ H Ex.refl hh (.bl _) q⟩
end
end AL

set_option Elab.async false
set_option linter.all false
set_option maxRecDepth 100000
set_option maxHeartbeats 4000000
namespace AL
open PySem L2
/-! ### plain data, == -/
mutual
def toPy : D → PyData
  | .non => .none
  | .bl b => .bool b
  | .int i => .int i
  | .str x => .str x
  | .tup ds => .tuple (toPyL ds)
  | .lst ds => .list (toPyL ds)
  | .rdl ds => .list (toPyL ds)
  | .ref _ => .none
  | .ty _ => .none
  | .dic _ => .none
def toPyL : List D → List PyData
  | [] => []
  | d :: ds => toPy d :: toPyL ds
end
mutual
/-- no objects in it, its texts of plain signs -/
def okD : D → Bool
  | .non => true
  | .bl _ => true
  | .int _ => true
  | .str x => PyData.strOk x
  | .tup ds => okL ds
  | .lst ds => okL ds
  | .rdl ds => okL ds
  | .ref _ => false
  | .ty _ => false
  | .dic _ => false
def okL : List D → Bool
  | [] => true
  | d :: ds => okD d && okL ds
end
mutual
def dep : D → Nat
  | .tup ds => depL ds + 1
  | .lst ds => depL ds + 1
  | .rdl ds => depL ds + 1
  | .non => 0
  | .bl _ => 0
  | .int _ => 0
  | .str _ => 0
  | .ref _ => 0
  | .ty _ => 0
  | .dic _ => 0
def depL : List D → Nat
  | [] => 0
  | d :: ds => max (dep d) (depL ds)
end
def eqvD (d e : D) : Bool := PyData.eqv (toPy d) (toPy e)
mutual
theorem lay_ok : ∀ d : D, okD d = true → (toPy d).canLay0 = true
  | .non, _ => rfl
  | .bl _, _ => rfl
  | .int _, _ => rfl
  | .str x, h => by
    unfold okD at h
    unfold toPy PyData.canLay0
    exact h
  | .tup ds, h => by
    unfold okD at h
    unfold toPy PyData.canLay0
    exact layL_ok ds h
  | .lst ds, h => by
    unfold okD at h
    unfold toPy PyData.canLay0
    exact layL_ok ds h
  | .rdl ds, h => by
    unfold okD at h
    unfold toPy PyData.canLay0
    exact layL_ok ds h
  | .ref _, h => by unfold okD at h; cases h
  | .ty _, h => by unfold okD at h; cases h
  | .dic _, h => by unfold okD at h; cases h
theorem layL_ok : ∀ ds : List D, okL ds = true → PyData.canLayAll0 (toPyL ds) = true
  | [], _ => rfl
  | d :: ds, h => by
    unfold okL at h
    rw [Bool.and_eq_true] at h
    unfold toPyL PyData.canLayAll0
    rw [lay_ok d h.1, layL_ok ds h.2]
    rfl
end
mutual
theorem dep_ok : ∀ d : D, (toPy d).depth = dep d
  | .non => rfl
  | .bl _ => rfl
  | .int _ => rfl
  | .str x => rfl
  | .tup ds => by unfold toPy PyData.depth dep; rw [depL_ok ds]
  | .lst ds => by unfold toPy PyData.depth dep; rw [depL_ok ds]
  | .rdl ds => by unfold toPy PyData.depth dep; rw [depL_ok ds]
  | .ref _ => rfl
  | .ty _ => rfl
  | .dic _ => rfl
theorem depL_ok : ∀ ds : List D, PyData.depthAll (toPyL ds) = depL ds
  | [] => rfl
  | d :: ds => by unfold toPyL PyData.depthAll depL; rw [dep_ok d, depL_ok ds]
end
theorem shaped_ok {d : D} (h : okD d = true) (h2 : dep d ≤ 64) : SeqAt.shaped (toPy d) = true := by
  unfold SeqAt.shaped
  rw [lay_ok d h, dep_ok d, decide_eq_true h2]
  rfl
section
variable {K : Frg} {F H : Hp}
mutual
theorem dp_of (e : Ex F H) : ∀ {d : D} {v : V}, okD d = true → Rep K F d v → Dp K H v (toPy d)
  | _, _, _, .non => by unfold toPy; exact .non
  | _, _, _, .bl b => by unfold toPy; exact .bl b
  | _, _, _, .int i => by unfold toPy; exact .int i
  | _, _, _, .str x => by unfold toPy; exact .str x
  | .ref _, _, h, _ => by unfold okD at h; cases h
  | .ty _, _, h, _ => by unfold okD at h; cases h
  | _, _, h, .tup q r => by unfold okD at h; unfold toPy; exact .tup (ex_t e q) (dpL_of e h r)
  | _, _, h, .lst q r => by unfold okD at h; unfold toPy; exact .lst (SqL.of (e _ _ q)) (dpL_of e h r)
  | _, _, h, .rdl q r => by unfold okD at h; unfold toPy; exact .lst (ex_l e q) (dpL_of e h r)
  | .dic _, _, h, _ => by unfold okD at h; cases h
theorem dpL_of (e : Ex F H) : ∀ {ds : List D} {vs : List V}, okL ds = true → RepL K F ds vs → DpAll K H vs (toPyL ds)
  | _, _, _, .nil => by unfold toPyL; exact .nil
  | _, _, h, .cons q r => by
    unfold okL at h
    rw [Bool.and_eq_true] at h
    unfold toPyL
    exact .cons (dp_of e h.1 q) (dpL_of e h.2 r)
end
end
theorem eqv_self : ∀ d : D, okD d = true → eqvD d d = true := fun d h => by
  unfold eqvD
  exact SeqAt.eqv_refl _ (lay_ok d h)
/-- ==, != -/
def rEQ (K : Frg) : R2 := fun x y H Q => rEq x y H Q ∨ rEqD K x y H Q
def rNE (K : Frg) : R2 := fun x y H Q => rNe x y H Q ∨ rNeD K x y H Q
theorem op_EQ {X : Cx} (hu : X.A.units + 64 < cLine) : OpR X (compareOp .Eq) (rEQ X.K) := op_eq.or (op_eqD hu)
theorem op_NE {X : Cx} (hu : X.A.units + 64 < cLine) : OpR X (compareOp .NotEq) (rNE X.K) := op_ne.or (op_neD hu)
section
variable {Γ : Cg} {K : Frg} {F : Hp} {ms : Ms} {S : Sg} {Q : QE} {ta tb te tx : TE} {t u tt : TT} {r : R2} {ts tu tw : TS} {A : AEnds}
theorem ar_EQi {i j : Int} (q : Q F ms (.bl (decide (i = j)))) : AR K (rEQ K) (.int i) (.int j) F ms Q := ar_inl (ar_eqI q)
theorem ar_EQs {i j : Str} (q : Q F ms (.bl (decide (i = j)))) : AR K (rEQ K) (.str i) (.str j) F ms Q := ar_inl (ar_eqS q)
theorem ar_EQb {i j : Bool} (q : Q F ms (.bl (decide (i = j)))) : AR K (rEQ K) (.bl i) (.bl j) F ms Q := ar_inl (ar_eqB q)
theorem ar_NEi {i j : Int} (q : Q F ms (.bl (!decide (i = j)))) : AR K (rNE K) (.int i) (.int j) F ms Q := ar_inl (ar_neI q)
theorem ar_NEs {i j : Str} (q : Q F ms (.bl (!decide (i = j)))) : AR K (rNE K) (.str i) (.str j) F ms Q := ar_inl (ar_neS q)
theorem ar_EQd {d e : D} (h1 : okD d = true) (h2 : okD e = true) (h3 : dep d ≤ 64) (h4 : dep e ≤ 64) (q : Q F ms (.bl (eqvD d e))) : AR K (rEQ K) d e F ms Q := ar_inr fun R u v H Qc hu hv hh k =>
  ⟨toPy d, toPy e, dp_of hh.ex h1 hu, dp_of hh.ex h2 hv, shaped_ok h1 h3, shaped_ok h2 h4, k F ms _ _ H Ex.refl hh (.bl _) q⟩
theorem ar_NEd {d e : D} (h1 : okD d = true) (h2 : okD e = true) (h3 : dep d ≤ 64) (h4 : dep e ≤ 64) (q : Q F ms (.bl (!eqvD d e))) : AR K (rNE K) d e F ms Q := ar_inr fun R u v H Qc hu hv hh k =>
  ⟨toPy d, toPy e, dp_of hh.ex h1 hu, dp_of hh.ex h2 hv, shaped_ok h1 h3, shaped_ok h2 h4, k F ms _ _ H Ex.refl hh (.bl _) q⟩
/-- an owned list of plain data, compared -/
theorem ar_EQo {l : Addr} {ds : List D} {e : D} (n : Nat) (hn : ms[n]? = some (l, .lst ds)) (h1 : okL ds = true) (h2 : okD e = true) (h3 : depL ds < 64) (h4 : dep e ≤ 64) (q : Q F ms (.bl (eqvD (.lst ds) e))) : AR K (rEQ K) (.ref l) e F ms Q := ar_inr fun R u v H Qc hu hv hh k => by
  cases hu
  obtain ⟨_, vs, hl, r⟩ := hh.at (get_app hn)
  have hd : okD (.lst ds) = true := by unfold okD; exact h1
  have hd2 : dep (.lst ds) ≤ 64 := by unfold dep; omega
  exact ⟨toPy (.lst ds), toPy e, by unfold toPy; exact .lst (SqL.of hl) (dpL_of hh.ex h1 r), dp_of hh.ex h2 hv, shaped_ok hd hd2, shaped_ok h2 h4, k F ms _ _ H Ex.refl hh (.bl _) q⟩
theorem ar_NEo {l : Addr} {ds : List D} {e : D} (n : Nat) (hn : ms[n]? = some (l, .lst ds)) (h1 : okL ds = true) (h2 : okD e = true) (h3 : depL ds < 64) (h4 : dep e ≤ 64) (q : Q F ms (.bl (!eqvD (.lst ds) e))) : AR K (rNE K) (.ref l) e F ms Q := ar_inr fun R u v H Qc hu hv hh k => by
  cases hu
  obtain ⟨_, vs, hl, r⟩ := hh.at (get_app hn)
  have hd : okD (.lst ds) = true := by unfold okD; exact h1
  have hd2 : dep (.lst ds) ≤ 64 := by unfold dep; omega
  exact ⟨toPy (.lst ds), toPy e, by unfold toPy; exact .lst (SqL.of hl) (dpL_of hh.ex h1 r), dp_of hh.ex h2 hv, shaped_ok hd hd2, shaped_ok h2 h4, k F ms _ _ H Ex.refl hh (.bl _) q⟩
/-! ### is -/
def rISN : R2 := fun x y H Q => y = .non ∧ Q (.bl (decide (x = .non))) H
def rNOTN : R2 := fun x y H Q => y = .non ∧ Q (.bl (!decide (x = .non))) H
theorem op_ISN {X : Cx} : OpR X (compareOp .Is) rISN := op_isN
theorem op_NOTN {X : Cx} : OpR X (compareOp .IsNot) rNOTN := op_notN
def isN : D → Bool
  | .non => true
  | _ => false
theorem isN_v {d : D} {v : V} (r : Rep K F d v) : decide (v = .non) = isN d := by
  cases r <;> first | rfl | exact decide_eq_false (fun h => by cases h)
theorem ar_isN {d : D} (q : Q F ms (.bl (isN d))) : AR K rISN d .non F ms Q := fun R u v H Qc hu hv hh k => by
  cases hv
  refine ⟨rfl, ?_⟩
  rw [isN_v hu]
  exact k F ms _ _ H Ex.refl hh (.bl _) q
theorem ar_notN {d : D} (q : Q F ms (.bl (!isN d))) : AR K rNOTN d .non F ms Q := fun R u v H Qc hu hv hh k => by
  cases hv
  refine ⟨rfl, ?_⟩
  rw [isN_v hu]
  exact k F ms _ _ H Ex.refl hh (.bl _) q
/-! ### in -/
def rInS1 : R2 := fun x y H Q => ∃ (c : Nat) (z : Str), x = .str ⟨#[c]⟩ ∧ y = .str z ∧ Q (.bl (decide (c ∈ z.cps.toList))) H
def rNotInS1 : R2 := fun x y H Q => ∃ (c : Nat) (z : Str), x = .str ⟨#[c]⟩ ∧ y = .str z ∧ Q (.bl (!decide (c ∈ z.cps.toList))) H
def rIN (K : Frg) : R2 := fun x y H Q => rInS1 x y H Q ∨ rIn K false x y H Q
def rNOTIN (K : Frg) : R2 := fun x y H Q => rNotInS1 x y H Q ∨ rIn K true x y H Q
theorem op_INN {X : Cx} : OpR X (compareOp .In) (rIN X.K) := op_in_sign.or op_in_seq
theorem op_NOTINN {X : Cx} : OpR X (compareOp .NotIn) (rNOTIN X.K) := op_notIn_sign.or op_notIn_seq
theorem ar_INs {c : Nat} {z : Str} (q : Q F ms (.bl (decide (c ∈ z.cps.toList)))) : AR K (rIN K) (.str (sg c)) (.str z) F ms Q := ar_inl fun R u v H Qc hu hv hh k => by
  cases hu; cases hv
  exact ⟨c, z, rfl, rfl, k F ms _ _ H Ex.refl hh (.bl _) q⟩
theorem ar_NOTINs {c : Nat} {z : Str} (q : Q F ms (.bl (!decide (c ∈ z.cps.toList)))) : AR K (rNOTIN K) (.str (sg c)) (.str z) F ms Q := ar_inl fun R u v H Qc hu hv hh k => by
  cases hu; cases hv
  exact ⟨c, z, rfl, rfl, k F ms _ _ H Ex.refl hh (.bl _) q⟩
end
end AL

set_option Elab.async false
set_option linter.all false
set_option maxRecDepth 100000
set_option maxHeartbeats 4000000
namespace AL
open PySem L2
def keyD : D → Option Key
  | .int i => some (.inl i)
  | .str x => some (.inr x)
  | _ => none
theorem key_rep {K : Frg} {F : Hp} {d : D} {v : V} {k : Key} (r : Rep K F d v) (h : keyD d = some k) : v = kV k := by
  cases r <;> first | (unfold keyD at h; cases h; done) | (unfold keyD at h; cases h; rfl)
def valD (kvs : List (Key × D)) (k : Key) : Option D := (kvs.find? fun kv => decide (kv.1 = k)).map (·.2)
def putKD (kvs : List (Key × D)) (k : Key) (d : D) : List (Key × D) := if kvs.any (fun kv => decide (kv.1 = k)) then kvs.map (fun kv => if kv.1 = k then (kv.1, d) else kv) else kvs ++ [(k, d)]
section
variable {K : Frg} {F : Hp}
theorem RepK.val : ∀ {ds : List (Key × D)} {vs : List (Key × V)} (k : Key), RepK K F ds vs → (valD ds k = none ∧ valV vs k = none) ∨ ∃ d v, valD ds k = some d ∧ valV vs k = some v ∧ Rep K F d v
  | _, _, k, .nil => .inl ⟨rfl, rfl⟩
  | _, _, k, .cons (k := k') (d := d) (v := v) h r => by
    by_cases e : k' = k
    · refine .inr ⟨d, v, ?_, ?_, h⟩
      · unfold valD; rw [List.find?_cons]; simp [e]
      · exact valV_pos e
    · rcases RepK.val k r with ⟨a, b⟩ | ⟨d', v', a, b, c⟩
      · refine .inl ⟨?_, by rw [valV_neg e]; exact b⟩
        unfold valD at a ⊢; rw [List.find?_cons]; simp only [decide_eq_false e]; exact a
      · refine .inr ⟨d', v', ?_, by rw [valV_neg e]; exact b, c⟩
        unfold valD at a ⊢; rw [List.find?_cons]; simp only [decide_eq_false e]; exact a
theorem RepK.any : ∀ {ds : List (Key × D)} {vs : List (Key × V)} (k : Key), RepK K F ds vs → (ds.any fun kv => decide (kv.1 = k)) = (vs.any fun kv => decide (kv.1 = k))
  | _, _, k, .nil => rfl
  | _, _, k, .cons h r => by rw [List.any_cons, List.any_cons, RepK.any k r]
theorem RepK.repl {d : D} {v : V} (h0 : Rep K F d v) (k : Key) : ∀ {ds : List (Key × D)} {vs : List (Key × V)}, RepK K F ds vs → RepK K F (ds.map fun kv => if kv.1 = k then (kv.1, d) else kv) (vs.map fun kv => if kv.1 = k then (kv.1, v) else kv)
  | _, _, .nil => .nil
  | _, _, .cons (k := k') h r => by
    rw [List.map_cons, List.map_cons]
    by_cases e : k' = k
    · rw [if_pos e, if_pos e]; exact .cons h0 (RepK.repl h0 k r)
    · rw [if_neg e, if_neg e]; exact .cons h (RepK.repl h0 k r)
theorem RepK.put {d : D} {v : V} (h0 : Rep K F d v) (k : Key) {ds : List (Key × D)} {vs : List (Key × V)} (r : RepK K F ds vs) : RepK K F (putKD ds k d) (putK vs k v) := by
  unfold putKD putK
  rw [r.any k]
  split
  · exact r.repl h0 k
  · exact r.append (.cons h0 .nil)
end
def cutL {α : Type} (xs : List α) (lo hi : Option Int) : List α := (xs.drop (HT.sIx xs.length 0 lo)).take (HT.sIx xs.length xs.length hi - HT.sIx xs.length 0 lo)
section
variable {Γ : Cg} {K : Frg} {F : Hp} {ms : Ms} {S : Sg} {Q : QE} {ta tb te tx : TE} {t u tt : TT} {r : R2} {ts tu tw : TS} {A : AEnds}
/-- x is a dict of these pairs: frozen or owned -/
def DicA (K : Frg) (F : Hp) (ms : Ms) (x : D) (kvs : List (Key × D)) : Prop := x = .dic kvs ∨ ∃ (n : Nat) (l : Addr), x = .ref l ∧ ms[n]? = some (l, MO.dic kvs)
theorem DicA.to {x : D} {kvs : List (Key × D)} {R : Ms} {H : Hp} {v : V} (i : DicA K F ms x kvs) (hh : Hold K F (ms ++ R) H) (r : Rep K F x v) : ∃ a vs, v = .ref a ∧ H a = some (.dK vs) ∧ RepK K F kvs vs := by
  rcases i with rfl | ⟨n, l, rfl, hn⟩
  · cases r with
    | dic h q => exact ⟨_, _, rfl, hh.ex _ _ h, q⟩
  · cases r
    obtain ⟨_, vs, h, q⟩ := hh.at (get_app hn)
    exact ⟨l, vs, rfl, h, q⟩
theorem ae_dget {td ty : TE} (h : AE Γ td F ms S fun F1 ms1 x => AE Γ ty F1 ms1 S fun F2 ms2 y => ∃ k kvs d, keyD y = some k ∧ DicA Γ.K F2 ms2 x kvs ∧ valD kvs k = some d ∧ Q F2 ms2 d) : AE Γ (tDGet td ty) F ms S Q := fun R σ H Qc hs hh x k =>
  h R σ H _ hs hh x fun F1 ms1 d1 v1 H1 e1 h1 r1 q1 => q1 R σ H1 _ (hs.mono e1) h1 (x.ex e1) fun F2 ms2 y vy H2 e2 h2 r2 ⟨key, kvs, d, hk, hd, hv, q⟩ => by
    obtain ⟨a, vs, rfl, ha, rk⟩ := hd.to h2 (r1.mono e2)
    have ey := key_rep r2 hk
    subst ey
    rcases rk.val key with ⟨z, _⟩ | ⟨d', v', z1, z2, z3⟩
    · rw [hv] at z; cases z
    · rw [hv] at z1
      cases z1
      exact ⟨a, v', rfl, by rw [← z2]; exact DGet.k ha, k F2 ms2 d v' H2 (e1.trans e2) h2 z3 q⟩
theorem ae_din {td ty : TE} (h : AE Γ ty F ms S fun F1 ms1 y => AE Γ td F1 ms1 S fun F2 ms2 x => ∃ k kvs, keyD y = some k ∧ DicA Γ.K F2 ms2 x kvs ∧ Q F2 ms2 (.bl (valD kvs k).isSome)) : AE Γ (tDIn ty td) F ms S Q := fun R σ H Qc hs hh x k =>
  h R σ H _ hs hh x fun F1 ms1 y vy H1 e1 h1 r1 q1 => q1 R σ H1 _ (hs.mono e1) h1 (x.ex e1) fun F2 ms2 d1 v1 H2 e2 h2 r2 ⟨key, kvs, hk, hd, q⟩ => by
    obtain ⟨a, vs, rfl, ha, rk⟩ := hd.to h2 r2
    have ey := key_rep (r1.mono e2) hk
    subst ey
    refine ⟨a, _, rfl, DGet.k ha, k F2 ms2 _ _ H2 (e1.trans e2) h2 ?_ q⟩
    rcases rk.val key with ⟨z1, z2⟩ | ⟨d', v', z1, z2, _⟩
    · rw [z1, z2]; exact .bl false
    · rw [z1, z2]; exact .bl true
theorem ae_dnotin {td ty : TE} (h : AE Γ ty F ms S fun F1 ms1 y => AE Γ td F1 ms1 S fun F2 ms2 x => ∃ k kvs, keyD y = some k ∧ DicA Γ.K F2 ms2 x kvs ∧ Q F2 ms2 (.bl (!(valD kvs k).isSome))) : AE Γ (tDNotIn ty td) F ms S Q := fun R σ H Qc hs hh x k =>
  h R σ H _ hs hh x fun F1 ms1 y vy H1 e1 h1 r1 q1 => q1 R σ H1 _ (hs.mono e1) h1 (x.ex e1) fun F2 ms2 d1 v1 H2 e2 h2 r2 ⟨key, kvs, hk, hd, q⟩ => by
    obtain ⟨a, vs, rfl, ha, rk⟩ := hd.to h2 r2
    have ey := key_rep (r1.mono e2) hk
    subst ey
    refine ⟨a, _, rfl, DGet.k ha, k F2 ms2 _ _ H2 (e1.trans e2) h2 ?_ q⟩
    rcases rk.val key with ⟨z1, z2⟩ | ⟨d', v', z1, z2, _⟩
    · rw [z1, z2]; exact .bl true
    · rw [z1, z2]; exact .bl false
theorem ae_dget2 {td ty : TE} (h : AE Γ td F ms S fun F1 ms1 x => ∃ kvs, DicA Γ.K F1 ms1 x kvs ∧ AE Γ ty F1 ms1 S fun F2 ms2 y => AE Γ tx F2 ms2 S fun F3 ms3 z => ∃ k, keyD y = some k ∧ DicA Γ.K F3 ms3 x kvs ∧ Q F3 ms3 ((valD kvs k).getD z)) : AE Γ (tDGet2 td ty tx) F ms S Q := fun R σ H Qc hs hh x k =>
  h R σ H _ hs hh x fun F1 ms1 d1 v1 H1 e1 h1 r1 ⟨kvs, hd0, q1⟩ => by
    obtain ⟨a, vs, rfl, ha, rk⟩ := hd0.to h1 r1
    refine ⟨a, rfl, .inl ⟨vs, .inl ha⟩, q1 R σ H1 _ (hs.mono e1) h1 (x.ex e1) fun F2 ms2 y vy H2 e2 h2 r2 q2 => q2 R σ H2 _ (hs.mono (e1.trans e2)) h2 (x.ex (e1.trans e2)) fun F3 ms3 z vz H3 e3 h3 r3 ⟨key, hk, hd, q⟩ => ?_⟩
    obtain ⟨a', vs', ea, ha', rk'⟩ := hd.to h3 (r1.mono (e2.trans e3))
    cases ea
    have ey := key_rep (r2.mono e3) hk
    subst ey
    refine ⟨_, DGet.k ha', k F3 ms3 _ _ H3 ((e1.trans e2).trans e3) h3 ?_ q⟩
    rcases rk'.val key with ⟨z1, z2⟩ | ⟨d', v', z1, z2, z3⟩
    · rw [z1, z2]; exact r3
    · rw [z1, z2]; exact z3
theorem length_putKD (kvs : List (Key × D)) (k : Key) (d : D) : (putKD kvs k d).length ≤ kvs.length + 1 := by
  unfold putKD
  split
  · rw [List.length_map]; exact Nat.le_succ _
  · rw [List.length_append, List.length_singleton]; exact Nat.le_refl _
theorem as_dput {td ty tv : TE} (h : AE Γ tv F ms S fun F1 ms1 v => AE Γ td F1 ms1 S fun F2 ms2 x => AE Γ ty F2 ms2 S fun F3 ms3 y => ∃ (n : Nat) (l : Addr) (kvs : List (Key × D)) (k : Key), x = .ref l ∧ ms3[n]? = some (l, .dic kvs) ∧ keyD y = some k ∧ kvs.length < 100000 ∧ A.nx F3 (ms3.set n (l, .dic (putKD kvs k v))) S) :
    AS Γ (sDPut td ty tv) F ms S A := fun R E σ H hs hh l =>
  h R σ H _ hs hh l.xe fun F1 ms1 v vv H1 e1 h1 r1 q1 => q1 R σ H1 _ (hs.mono e1) h1 (l.xe.ex e1) fun F2 ms2 x2 v2 H2 e2 h2 r2 q2 => q2 R σ H2 _ (hs.mono (e1.trans e2)) h2 (l.xe.ex (e1.trans e2)) fun F3 ms3 y vy H3 e3 h3 r3 ⟨n, a, kvs, key, hx, hn, hk, hz, q⟩ => by
    subst hx
    cases r2
    have ey := key_rep r3 hk
    subst ey
    obtain ⟨_, vs, ha, rk⟩ := h3.at (get_app hn)
    refine ⟨a, _, rfl, DPut.k ha (Evl.sz_lt (by rw [← rk.len]; exact hz)), l.nx F3 (ms3.set n (a, .dic (putKD kvs key v))) S σ _ ((e1.trans e2).trans e3) (hs.mono ((e1.trans e2).trans e3)) ?_ q⟩
    rw [← set_app hn]
    exact h3.set (get_app hn) ⟨_, upd_same, rk.put (r1.mono (e2.trans e3)) key⟩
/-! ### methods of built-in types -/
theorem ae_bmS {rm : V → List V → Hp → VK → Prop} {to : TE} {ta : TA} (h : AE Γ to F ms S fun F1 ms1 x => ∃ z, x = .str z ∧ AA Γ ta F1 ms1 S fun F2 ms2 ds => AM Γ.K "str" rm (.str z) ds F2 ms2 Q) : AE Γ (tBM Γ.K "str" rm to ta) F ms S Q := fun R σ H Qc hs hh x k =>
  h R σ H _ hs hh x fun F1 ms1 d1 v1 H1 e1 h1 r1 ⟨z, hz, q1⟩ => by
    subst hz
    cases r1
    exact ⟨rfl, q1 R σ H1 _ (hs.mono e1) h1 (x.ex e1) fun F2 ms2 ds vs H2 e2 h2 r2 q2 => q2 R _ vs H2 Qc (.str z) r2 h2 fun F3 ms3 d v H3 e3 h3 r3 q3 => k F3 ms3 d v H3 ((e1.trans e2).trans e3) h3 r3 q3⟩
theorem ae_bmS0 {rm : V → List V → Hp → VK → Prop} {to : TE} (h : AE Γ to F ms S fun F1 ms1 x => ∃ z, x = .str z ∧ AM Γ.K "str" rm (.str z) [] F1 ms1 Q) : AE Γ (tBM0 Γ.K "str" rm to) F ms S Q := fun R σ H Qc hs hh x k =>
  h R σ H _ hs hh x fun F1 ms1 d1 v1 H1 e1 h1 r1 ⟨z, hz, q1⟩ => by
    subst hz
    cases r1
    exact ⟨rfl, q1 R _ [] H1 Qc (.str z) .nil h1 fun F3 ms3 d v H3 e3 h3 r3 q3 => k F3 ms3 d v H3 (e1.trans e3) h3 r3 q3⟩
/-- a list: frozen or owned, with its items -/
def LstA (F : Hp) (ms : Ms) (x : D) (ds : List D) : Prop := (x = .lst ds ∨ x = .rdl ds) ∨ ∃ (n : Nat) (l : Addr), x = .ref l ∧ ms[n]? = some (l, MO.lst ds)
theorem LstA.to {x : D} {ds : List D} {R : Ms} {H : Hp} {v : V} (i : LstA F ms x ds) (hh : Hold K F (ms ++ R) H) (r : Rep K F x v) : ∃ a vs, v = .ref a ∧ SqL K H a vs ∧ RepL K F ds vs := by
  rcases i with hd | ⟨n, l, rfl, hn⟩
  · exact rep_l (a := 0) hd r hh.ex
  · cases r
    obtain ⟨_, vs, h, q⟩ := hh.at (get_app hn)
    exact ⟨l, vs, rfl, SqL.of h, q⟩
theorem ae_bmL {rm : V → List V → Hp → VK → Prop} {to : TE} {ta : TA} (h : AE Γ to F ms S fun F1 ms1 x => ∃ ds0, LstA F1 ms1 x ds0 ∧ AA Γ ta F1 ms1 S fun F2 ms2 ds => AM Γ.K "list" rm x ds F2 ms2 Q) : AE Γ (tBM Γ.K "list" rm to ta) F ms S Q := fun R σ H Qc hs hh x k =>
  h R σ H _ hs hh x fun F1 ms1 d1 v1 H1 e1 h1 r1 ⟨ds0, hl, q1⟩ => by
    obtain ⟨a, vs0, rfl, ha, _⟩ := hl.to h1 r1
    exact ⟨.inl ⟨rfl, _, ha⟩, q1 R σ H1 _ (hs.mono e1) h1 (x.ex e1) fun F2 ms2 ds vs H2 e2 h2 r2 q2 => q2 R _ vs H2 Qc (r1.mono e2) r2 h2 fun F3 ms3 d v H3 e3 h3 r3 q3 => k F3 ms3 d v H3 ((e1.trans e2).trans e3) h3 r3 q3⟩
theorem ae_bmL0 {rm : V → List V → Hp → VK → Prop} {to : TE} (h : AE Γ to F ms S fun F1 ms1 x => ∃ ds0, LstA F1 ms1 x ds0 ∧ AM Γ.K "list" rm x [] F1 ms1 Q) : AE Γ (tBM0 Γ.K "list" rm to) F ms S Q := fun R σ H Qc hs hh x k =>
  h R σ H _ hs hh x fun F1 ms1 d1 v1 H1 e1 h1 r1 ⟨ds0, hl, q1⟩ => by
    obtain ⟨a, vs0, rfl, ha, _⟩ := hl.to h1 r1
    exact ⟨.inl ⟨rfl, _, ha⟩, q1 R _ [] H1 Qc r1 .nil h1 fun F3 ms3 d v H3 e3 h3 r3 q3 => k F3 ms3 d v H3 (e1.trans e3) h3 r3 q3⟩
theorem am_append {l : Addr} {xs : List D} {d : D} (n : Nat) (hn : ms[n]? = some (l, .lst xs)) (hz : xs.length < 100000) (q : Q F (ms.set n (l, .lst (xs ++ [d]))) .non) : AM K "list" rAppend (.ref l) [d] F ms Q := fun R u vs H Qc hu hv hh k => by
  cases hu
  cases hv with
  | cons h1 h2 =>
    cases h2
    obtain ⟨_, ys, hl, r⟩ := hh.at (get_app hn)
    refine ⟨l, ys, _, rfl, rfl, hl, Evl.sz_lt (by rw [← r.len]; exact hz), k F (ms.set n (l, .lst (xs ++ [d]))) .non _ _ Ex.refl ?_ .non q⟩
    rw [← set_app hn]
    exact hh.set (get_app hn) ⟨_, upd_same, r.append (RepL.one h1)⟩
theorem am_popAt {l : Addr} {xs : List D} {z : Int} {j : Nat} {d : D} (n : Nat) (hn : ms[n]? = some (l, .lst xs)) (hz : z = (j : Int)) (hx : xs.length ≤ 100000) (hj : xs[j]? = some d) (q : Q F (ms.set n (l, .lst (xs.eraseIdx j))) d) : AM K "list" rPopAt (.ref l) [.int z] F ms Q := fun R u vs H Qc hu hv hh k => by
  cases hu
  cases hv with
  | cons h1 h2 =>
    cases h2
    cases h1
    obtain ⟨_, ys, hl, r⟩ := hh.at (get_app hn)
    obtain ⟨v, hv, rv⟩ := r.getD hj
    have hlt : j < ys.length := (List.getElem?_eq_some_iff.mp hv).1
    have := r.len
    subst hz
    refine ⟨l, ys, (j : Int), j, v, rfl, rfl, hl, by omega, by omega, ?_, hv, k F (ms.set n (l, .lst (xs.eraseIdx j))) d v _ Ex.refl ?_ rv q⟩
    · unfold seqIndex?
      simp
      omega
    · rw [← set_app hn]
      exact hh.set (get_app hn) ⟨_, upd_same, r.eraseIdx j⟩
def rJOIN (K : Frg) : V → List V → Hp → VK → Prop := fun x xs H Q => ∃ a p, ∃ ys : List Str, x = .str a ∧ xs = [.ref p] ∧ (SqL K H p (ys.map V.str) ∨ SqT K H p (ys.map V.str)) ∧ (ys.map (·.length)).sum + ys.length * a.length ≤ 16777216 ∧ Q (.str (Txt.join a ys)) H
theorem mt_JOIN {X : Cx} : MtR X "str.join" (rJOIN X.K) := mt_join
theorem strs_rep : ∀ {ys : List Str} {vs : List V}, RepL K F (ys.map D.str) vs → vs = ys.map V.str
  | [], _, .nil => rfl
  | y :: ys, _, .cons h r => by
    cases h
    rw [strs_rep r]
    rfl
theorem am_join {a : Str} {ys : List Str} {x : D} (hx : (x = .lst (ys.map D.str) ∨ x = .rdl (ys.map D.str)) ∨ x = .tup (ys.map D.str)) (hz : (ys.map (·.length)).sum + ys.length * a.length ≤ 1000000) (q : Q F ms (.str (Txt.join a ys))) : AM K "str" (rJOIN K) (.str a) [x] F ms Q := fun R u vs H Qc hu hv hh k => by
  cases hu
  cases hv with
  | @cons _ v1 _ _ h1 h2 =>
    cases h2
    suffices hs : ∃ p, v1 = V.ref p ∧ (SqL K H p (ys.map V.str) ∨ SqT K H p (ys.map V.str)) by
      obtain ⟨p, e, hp⟩ := hs
      exact ⟨a, p, ys, rfl, by rw [e], hp, by omega, k F ms _ _ H Ex.refl hh (.str _) q⟩
    rcases hx with hx | rfl
    · obtain ⟨p, zs, e, h3, h4⟩ := rep_l (a := 0) hx h1 hh.ex
      rw [strs_rep h4] at h3
      exact ⟨p, e, .inl h3⟩
    · cases h1 with
      | tup h3 h4 =>
        rw [strs_rep h4] at h3
        exact ⟨_, rfl, .inr (ex_t hh.ex h3)⟩
/-! ### slices -/
def AO (Γ : Cg) (to : TO) (F : Hp) (ms : Ms) (S : Sg) (Q : Hp → Ms → Option Int → Prop) : Prop := ∀ (R : Ms) σ H (Qc : Option Int → Hp → Prop), SRep Γ.K F S σ → Hold Γ.K F (ms ++ R) H → XLe Γ R F → (∀ F' ms' o H', Ex F F' → Hold Γ.K F' (ms' ++ R) H' → Q F' ms' o → Qc o H') → to σ H Qc
theorem ao_none {Q : Hp → Ms → Option Int → Prop} (q : Q F ms none) : AO Γ tNoPart F ms S Q := fun R σ H Qc hs hh x k => k F ms none H Ex.refl hh q
theorem ao_some {Q : Hp → Ms → Option Int → Prop} (h : AE Γ te F ms S fun F' ms' d => ∃ i, d = .int i ∧ Q F' ms' (some i)) : AO Γ (tPart te) F ms S Q := fun R σ H Qc hs hh x k =>
  h R σ H _ hs hh x fun F1 ms1 d1 v1 H1 e1 h1 r1 ⟨i, hi, q⟩ => by
    subst hi
    cases r1
    exact ⟨i, rfl, k F1 ms1 (some i) H1 e1 h1 q⟩
def ASl (K : Frg) (r : V → Option Int → Option Int → Hp → VK → Prop) (x : D) (lo hi : Option Int) (F : Hp) (ms : Ms) (Q : QE) : Prop := ∀ (R : Ms) u H (Qc : VK), Rep K F x u → Hold K F (ms ++ R) H → (∀ F' ms' d v H', Ex F F' → Hold K F' (ms' ++ R) H' → Rep K F' d v → Q F' ms' d → Qc v H') → r u lo hi H Qc
theorem ae_sl {r : V → Option Int → Option Int → Hp → VK → Prop} {tl th : TO} (h : AE Γ te F ms S fun F1 ms1 x => AO Γ tl F1 ms1 S fun F2 ms2 lo => AO Γ th F2 ms2 S fun F3 ms3 hi => ASl Γ.K r x lo hi F3 ms3 Q) : AE Γ (tSl r te tl th) F ms S Q := fun R σ H Qc hs hh x k =>
  h R σ H _ hs hh x fun F1 ms1 d1 v1 H1 e1 h1 r1 q1 => q1 R σ H1 _ (hs.mono e1) h1 (x.ex e1) fun F2 ms2 lo H2 e2 h2 q2 => q2 R σ H2 _ (hs.mono (e1.trans e2)) h2 (x.ex (e1.trans e2)) fun F3 ms3 hi H3 e3 h3 q3 =>
    q3 R v1 H3 Qc (r1.mono (e2.trans e3)) h3 fun F4 ms4 d v H4 e4 h4 r4 q4 => k F4 ms4 d v H4 (((e1.trans e2).trans e3).trans e4) h4 r4 q4
def rSLC (K : Frg) : V → Option Int → Option Int → Hp → VK → Prop := fun x lo hi H Q => rSlL K x lo hi H Q ∨ (rSlA K x lo hi H Q ∨ rSlS x lo hi H Q)
theorem sl_SLC {X : Cx} : SlR X (rSLC X.K) := sl_list.or (sl_tupA.or sl_str)
theorem cut_rep {ds : List D} {vs : List V} (r : RepL K F ds vs) (lo hi : Option Int) : RepL K F (cutL ds lo hi) (cutV vs lo hi) := by
  unfold cutL cutV
  rw [r.len]
  exact (r.drop _).take _
theorem sl_L {x : D} {ds : List D} {lo hi : Option Int} (hx : LstA F ms x ds) (q : ∀ F', Ex F F' → Q F' ms (.lst (cutL ds lo hi))) : ASl K (rSLC K) x lo hi F ms Q := fun R u H Qc hu hh k => by
  obtain ⟨a, vs, rfl, ha, r⟩ := hx.to hh hu
  refine .inl ⟨a, vs, rfl, ha, fun p hp => ?_⟩
  obtain ⟨e, hh'⟩ := hh.laid (.lst (cutV vs lo hi)) hp
  exact k _ ms _ _ _ e hh' (.lst upd_same ((cut_rep r lo hi).mono e)) (q _ e)
theorem sl_Lo {x : D} {ds : List D} {lo hi : Option Int} (hx : LstA F ms x ds) (q : ∀ l, Q F ((l, .lst (cutL ds lo hi)) :: ms) (.ref l)) : ASl K (rSLC K) x lo hi F ms Q := fun R u H Qc hu hh k => by
  obtain ⟨a, vs, rfl, ha, r⟩ := hx.to hh hu
  refine .inl ⟨a, vs, rfl, ha, fun p hp => ?_⟩
  exact k F ((p, .lst (cutL ds lo hi)) :: ms) (.ref p) _ _ Ex.refl (hh.made (m := .lst (cutL ds lo hi)) hp ⟨_, upd_same, cut_rep r lo hi⟩) (.ref p) (q p)
theorem sIx_le (n d : Nat) (hd : d ≤ n) (o : Option Int) : True := trivial
theorem sl_T {ds : List D} {lo hi : Option Int} (q : ∀ F', Ex F F' → Q F' ms (.tup (cutL ds lo hi))) : ASl K (rSLC K) (.tup ds) lo hi F ms Q := fun R u H Qc hu hh k => by
  cases hu with
  | @tup a xs _ h r =>
    refine .inr (.inl ⟨a, xs, rfl, ex_t hh.ex h, fun hw => ?_, fun _ p hp => ?_⟩)
    · have q' := q F Ex.refl
      have e : cutL ds lo hi = ds := by
        unfold cutL
        rw [r.len, hw.1, hw.2, List.drop_zero, Nat.sub_zero, ← r.len, List.take_length]
      rw [e] at q'
      exact k F ms _ _ H Ex.refl hh (.tup h r) q'
    · obtain ⟨e, hh'⟩ := hh.laid (.tup (cutV xs lo hi)) hp
      exact k _ ms _ _ _ e hh' (.tup (SqT.of upd_same) ((cut_rep r lo hi).mono e)) (q _ e)
theorem sl_S {z : Str} {lo hi : Option Int} (hz : z.length ≤ 100000) (q : Q F ms (.str (cutS z lo hi))) : ASl K (rSLC K) (.str z) lo hi F ms Q := fun R u H Qc hu hh k => by
  cases hu
  exact .inr (.inr ⟨z, rfl, Evl.sz_of hz, k F ms _ _ H Ex.refl hh (.str _) q⟩)
end
end AL

set_option Elab.async false
set_option linter.all false
set_option maxRecDepth 100000
set_option maxHeartbeats 4000000
namespace AL
open PySem PySem.Spec PyProof.Rows L2
open AutoSeq1 (wpAny_loadPart')
/-! ### enumerate of a tuple, of a text -/
def IteT (K : Frg) (a : Addr) : It :=
  ⟨fun i H => ∃ (xs : List V) (x : V), SqT K H a xs ∧ xs[i]? = some x, fun i H v H' => ∃ T x, v = .ref T ∧ H T = none ∧ H' = upd H T (.tup [.int (i : Nat), x]) ∧ ∀ xs, SqT K H a xs → xs[i]? = some x, fun i H => ∃ xs : List V, SqT K H a xs ∧ xs.length = i⟩
theorem turn_enumT {P : Program} {w : World} {K : Frg} {elts : List Expr} {kk : Nat} {tpos : Pos} (a e it : Addr) :
    Turn P w K (.Tuple elts kk tpos) (IteT K a) [e, it] e (fun i h => (∃ old, IsEnum h e it ((i : Nat) : Int) old) ∧ h.IsTupleIter it a i ∧ e ≠ it) where
  mem := by simp
  obj := fun i h st b hb => by
    obtain ⟨⟨old, he⟩, ⟨o, ho, hc, hd⟩, _⟩ := st
    have e' : b = e ∨ b = it := by simpa using hb
    rcases e' with z | z
    · rw [z]; exact ⟨_, he, fun v q => nomatch q⟩
    · rw [z]; exact ⟨o, ho, fun v q => by rw [hd] at q; cases q⟩
  keep := fun i h h' st k => let ⟨⟨old, he⟩, hi, hne⟩ := st; ⟨⟨old, k e (by simp) _ he⟩, hi.at fun o q => k it (by simp) o q, hne⟩
  item := by
    intro X hP hw hK hc i pins s σ H E I hf st hg
    subst hP hw hK
    obtain ⟨⟨old, he⟩, hit, hne⟩ := st
    obtain ⟨xs, x, hq, hx⟩ := hg
    obtain ⟨its, rv, p, hz⟩ := I.tuple hq
    obtain ⟨u, hu, ru⟩ := rv.get hx
    have hel : e < s.heap.objs.size := Heap.lt_size he
    have hil : it < s.heap.objs.size := by obtain ⟨_, q, _⟩ := hit; exact Heap.lt_size q
    have ite : ∃ o, s.heap.get? it = some o ∧ o.cls = .type "tuple_iterator" := by obtain ⟨o, q, c, _⟩ := hit; exact ⟨o, q, c⟩
    have hta : a ≠ it := fun z => by
      obtain ⟨o, q, c⟩ := ite
      obtain ⟨o', q', c', _⟩ := id p
      rw [z, q] at q'; cases q'; rw [c] at c'; injection c' with z1; exact absurd z1 (by decide)
    have hea : e ≠ a := fun z => by
      obtain ⟨o', q', c', _⟩ := id p
      have he' := he
      rw [z] at he'
      rw [show s.heap.get? a = _ from he'] at q'
      cases q'
      injection c' with z1
      exact absurd z1 (by decide)
    have hx' : its.toArray[i]? = some u := by simpa using hu
    have hlt : i < its.toArray.size := (Array.getElem?_eq_some_iff.mp hx').1
    refine wpAny_pyNext_enum_itemD (Draws.tuple (A := X.A.in1) (I.ok.hd hc) it a hta its.toArray) he ⟨hit, p⟩ hlt hne (by simp [hne, hea]) fun y h' tk hy ho hit' hT hsz hk => ?_
    have ey : y = u := by
      have hy' : its.toArray[i]? = some y := hy
      rw [hx'] at hy'; cases hy'; rfl
    subst ey
    refine ⟨_, rfl, wpAny_letOwnedTupleGo_enum (s := { s with heap := h', toks := tk + 1 }) ho fun h'' he' sb => ?_⟩
    have hT2 : h''.get? s.heap.objs.size = some { cls := .type "tuple", data := .seq #[.int i tk, y] } := (sb.2 _ (Nat.ne_of_gt hel)).trans hT
    have new : ObjOk X.prog X.w (upd H s.heap.objs.size (.tup [.int (i : Nat), x])) h'' s.heap.objs.size (.tup [.int (i : Nat), x]) :=
      ⟨by show 2 ≤ sizeLine; decide, [.int i tk, y], .cons ⟨_, rfl⟩ (.cons ru .nil), ⟨_, hT2, rfl, _, rfl⟩⟩
    have I1 : Inv X pins σ (upd H s.heap.objs.size (.tup [.int (i : Nat), x])) { s with heap := h'', toks := tk + 1 } :=
      I.turnedNew (ch := [e, it]) (fun b ob hb q => (sb.2 b (fun z => hb (by simp [z]))).trans (hk b ob (fun z => hb (by simp [z])) (fun z => hb (by simp [z])) q)) hf (Nat.le_refl _) new
    refine ⟨.ref s.heap.objs.size, _, I1, rfl, ⟨_, x, rfl, I.hok.fresh (Nat.le_refl _), rfl, fun ys hy => by rw [I.tuple_inj hy hq]; exact hx⟩, ⟨⟨y, ?_⟩, hit'.1.at fun o q => (sb.2 it (Ne.symm hne)).trans q, hne⟩, fun b hb => ?_⟩
    · have e1 : ((i + 1 : Nat) : Int) = (i : Int) + 1 := by omega
      rw [e1]; exact he'
    · have hb' : b < s.heap.objs.size := by
        have e' : b = e ∨ b = it := by simpa using hb
        rcases e' with z | z
        · rw [z]; exact hel
        · rw [z]; exact hil
      rw [upd_ne (Nat.ne_of_lt hb')]
      exact (hf b hb).1
  done := by
    intro X hP hw hK hc i pins s σ H E I hf st hg
    subst hP hw hK
    obtain ⟨⟨old, he⟩, hit, hne⟩ := st
    obtain ⟨xs, hq, hx⟩ := hg
    obtain ⟨its, rv, p, hz⟩ := I.tuple hq
    obtain ⟨f0, f1, f2, f3, f4, f5⟩ := hf it (by simp)
    have hl := rv.length
    have hta : a ≠ it := fun z => by
      obtain ⟨o, q, c, _⟩ := hit
      obtain ⟨o', q', c', _⟩ := id p
      rw [z, q] at q'; cases q'; rw [c] at c'; injection c' with z1; exact absurd z1 (by decide)
    have hn : its.toArray.size = i := by simp; omega
    exact wpAny_pyNext_enum_endD (Draws.tuple (A := X.A.in1) (I.ok.hd hc) it a hta its.toArray) he ⟨by rw [hn]; exact hit, p⟩ fun h' eb => ⟨rfl, I.turned (t' := s.toks) (fun b o hb q => eb b o hb q) f0 f1 f3 f4 f5⟩
  self := fun A i s Q E st h => let ⟨⟨_, he⟩, _⟩ := st; wpAny_pyIter_enum he h
def IteS (z : Str) : It :=
  ⟨fun i H => i < z.cps.size, fun i H v H' => ∃ T c, v = .ref T ∧ H T = none ∧ H' = upd H T (.tup [.int (i : Nat), .str ⟨#[c]⟩]) ∧ z.cps[i]? = some c, fun i H => i = z.cps.size⟩
theorem turn_enumS {P : Program} {w : World} {K : Frg} {elts : List Expr} {kk : Nat} {tpos : Pos} (z : Str) (t : Tok) (e it : Addr) :
    Turn P w K (.Tuple elts kk tpos) (IteS z) [e, it] e (fun i h => (∃ old, IsEnum h e it ((i : Nat) : Int) old) ∧ h.IsStrIter it (strIterType z) z t i ∧ e ≠ it) where
  mem := by simp
  obj := fun i h st b hb => by
    obtain ⟨⟨old, he⟩, ⟨o, ho, hc, hd⟩, _⟩ := st
    have e' : b = e ∨ b = it := by simpa using hb
    rcases e' with z | z
    · rw [z]; exact ⟨_, he, fun v q => nomatch q⟩
    · rw [z]; exact ⟨o, ho, fun v q => by rw [hd] at q; cases q⟩
  keep := fun i h h' st k => let ⟨⟨old, he⟩, ⟨o, ho, r⟩, hne⟩ := st; ⟨⟨old, k e (by simp) _ he⟩, ⟨o, k it (by simp) o ho, r⟩, hne⟩
  item := by
    intro X hP hw hK hc i pins s σ H E I hf st hg
    subst hP hw hK
    obtain ⟨⟨old, he⟩, hit, hne⟩ := st
    have hel : e < s.heap.objs.size := Heap.lt_size he
    have hil : it < s.heap.objs.size := by obtain ⟨_, q, _⟩ := hit; exact Heap.lt_size q
    refine wpAny_pyNext_enum_itemD (Draws.text (A := X.A.in1) (I.ok.hd hc) it z t) he hit hg hne (by simp [hne]) fun y h' tk hy ho hit' hT hsz hk => ?_
    obtain ⟨c, u, hcx, ey⟩ := hy
    subst ey
    refine ⟨_, rfl, wpAny_letOwnedTupleGo_enum (s := { s with heap := h', toks := tk + 1 }) ho fun h'' he' sb => ?_⟩
    have hT2 : h''.get? s.heap.objs.size = some { cls := .type "tuple", data := .seq #[.int i tk, .str ⟨#[c]⟩ u] } := (sb.2 _ (Nat.ne_of_gt hel)).trans hT
    have new : ObjOk X.prog X.w (upd H s.heap.objs.size (.tup [.int (i : Nat), .str ⟨#[c]⟩])) h'' s.heap.objs.size (.tup [.int (i : Nat), .str ⟨#[c]⟩]) :=
      ⟨by show 2 ≤ sizeLine; decide, [.int i tk, .str ⟨#[c]⟩ u], .cons ⟨_, rfl⟩ (.cons ⟨_, rfl⟩ .nil), ⟨_, hT2, rfl, _, rfl⟩⟩
    have I1 : Inv X pins σ (upd H s.heap.objs.size (.tup [.int (i : Nat), .str ⟨#[c]⟩])) { s with heap := h'', toks := tk + 1 } :=
      I.turnedNew (ch := [e, it]) (fun b ob hb q => (sb.2 b (fun z => hb (by simp [z]))).trans (hk b ob (fun z => hb (by simp [z])) (fun z => hb (by simp [z])) q)) hf (Nat.le_refl _) new
    refine ⟨.ref s.heap.objs.size, _, I1, rfl, ⟨_, c, rfl, I.hok.fresh (Nat.le_refl _), rfl, hcx⟩, ⟨⟨.str ⟨#[c]⟩ u, ?_⟩, ?_, hne⟩, fun b hb => ?_⟩
    · have e1 : ((i + 1 : Nat) : Int) = (i : Int) + 1 := by omega
      rw [e1]; exact he'
    · obtain ⟨o, ho, r⟩ := hit'
      exact ⟨o, (sb.2 it (Ne.symm hne)).trans ho, r⟩
    · have hb' : b < s.heap.objs.size := by
        have e' : b = e ∨ b = it := by simpa using hb
        rcases e' with z | z
        · rw [z]; exact hel
        · rw [z]; exact hil
      rw [upd_ne (Nat.ne_of_lt hb')]
      exact (hf b hb).1
  done := by
    intro X hP hw hK hc i pins s σ H E I hf st hg
    subst hP hw hK
    obtain ⟨⟨old, he⟩, hit, hne⟩ := st
    have hg' : i = z.cps.size := hg
    subst hg'
    obtain ⟨f0, f1, f2, f3, f4, f5⟩ := hf it (by simp)
    exact wpAny_pyNext_enum_endD (Draws.text (A := X.A.in1) (I.ok.hd hc) it z t) he hit fun h' eb => ⟨rfl, I.turned (t' := s.toks) (fun b o hb q => eb b o hb q) f0 f1 f3 f4 f5⟩
  self := fun A i s Q E st h => let ⟨⟨_, he⟩, _⟩ := st; wpAny_pyIter_enum he h
set_option maxHeartbeats 1000000 in
theorem meets_enumerate_newB1 {v : Value} {o : Obj} {H : Heap → Prop} (B : Begins v o H) :
    Meets (Builtin.«enumerate.__new__» ⟨[.type "enumerate", v], []⟩) (fun _ R s => H s.heap ∧
      R (.ok (.ret (.ref (s.heap.push o).objs.size))) { s with heap := (s.heap.push o).push { cls := .type "enumerate", data := .fields #[.none, .bool false, .ref s.heap.objs.size, rawInt 0, .none, .none] } }) :=
  .of_wp fun prog w A R s h => by
    obtain ⟨hp, g, d, tk, os⟩ := s; obtain ⟨h1, h⟩ := h
    have hsub := sub_enumerate
    have q1 : ∀ {A' : Around} {E : Value → Shared → Prop} {Q : Value → Shared → Prop}, Q (.ref hp.objs.size) ⟨hp.push o, g, d, tk, os⟩ → wpAny (model prog w) A' (pyIter v) Q E ⟨hp, g, d, tk, os⟩ :=
      fun q => B.iter prog w _ _ ⟨hp, g, d, tk, os⟩ _ h1 q
    wp_walk using q1
    refine wpAny_stack_any fun st => wpAny_pure ?_
    split
    · rename_i c _ _ _ _ _
      cases (c == Value.type "enumerate")
      · wp_walk using q1
        exact ⟨_, rfl, h⟩
      · wp_walk using q1
        exact ⟨_, rfl, h⟩
    · wp_walk using q1
      exact ⟨_, rfl, h⟩
def iEnumA (K : Frg) (ta : TA) : TI := fun σ H R => ta σ H fun vs H1 => (∃ a xs, vs = [.ref a] ∧ SqL K H1 a xs ∧ R (Ite K a) H1) ∨ (∃ a xs, vs = [.ref a] ∧ SqT K H1 a xs ∧ R (IteT K a) H1) ∨ ∃ z, vs = [.str z] ∧ R (IteS z) H1
theorem pi_enumA {X : Cx} {e : Expr} {ta : TA} {p pos tpos : Pos} {elts : List Expr} {kk : Nat} (hg : Gl X "enumerate") (hm : X.mg "enumerate" = none) (ha : PA X [e] ta) (hs : starEach [e] X.env = [(false, eval e X.env)] := by rfl) :
    PI X (.Tuple elts kk tpos) (.Call (.Name "enumerate" p) [e] [] pos) (iEnumA X.K ta) := by
  refine ⟨fun pins s σ H R I h => ?_⟩
  refine Call_ (ld_blt I hg hm boot_enumerate (PyProof.Rows.callWith_type1 (thn (ha.run pos pins s σ H _ I h) fun us s1 ⟨vs, H1, I1, r1, q1⟩ => ?_) hs rfl))
  have fresh2 : ∀ b ∈ [s1.heap.objs.size + 1, s1.heap.objs.size], FpOk X pins H1 b := fun b hb => by
    have e' : b = s1.heap.objs.size + 1 ∨ b = s1.heap.objs.size := by simpa using hb
    have hle : s1.heap.objs.size ≤ b := by
      rcases e' with z | z
      · rw [z]; exact Nat.le_add_right _ _
      · rw [z]; exact Nat.le_refl _
    exact I1.fpOk hle (I1.hok.fresh hle)
  rcases q1 with ⟨a, xs, ex, hq, q⟩ | ⟨a, xs, ex, hq, q⟩ | ⟨z, ex, q⟩
  · subst ex
    cases r1 with
    | cons r rr =>
      cases rr
      cases r
      obtain ⟨its, rv, p', hz⟩ := I1.list hq
      refine call_enumerate_list p'.isList fun h' he hit hsz hk => wpAny_pyIter_enum he ?_
      have I2 : Inv X pins σ H1 { s1 with heap := h' } := I1.kept (t' := s1.toks) hk
      exact ⟨s1.heap.objs.size + 1, [s1.heap.objs.size + 1, s1.heap.objs.size], _, _, H1, rfl, I2, turn_enum a (s1.heap.objs.size + 1) s1.heap.objs.size, ⟨⟨.none, he⟩, hit, Nat.succ_ne_self _⟩, fresh2, q⟩
  · subst ex
    cases r1 with
    | cons r rr =>
      cases rr
      cases r
      obtain ⟨its, rv, p', hz⟩ := I1.tuple hq
      refine enumT p' fun h' he hit hk => wpAny_pyIter_enum he ?_
      have I2 : Inv X pins σ H1 { s1 with heap := h' } := I1.kept (t' := s1.toks) hk
      exact ⟨s1.heap.objs.size + 1, [s1.heap.objs.size + 1, s1.heap.objs.size], _, _, H1, rfl, I2, turn_enumT a (s1.heap.objs.size + 1) s1.heap.objs.size, ⟨⟨.none, he⟩, hit, Nat.succ_ne_self _⟩, fresh2, q⟩
  · subst ex
    cases r1 with
    | cons r rr =>
      cases rr
      obtain ⟨t, rfl⟩ := r
      refine call_enumerate_str fun h' he hit hsz hk => wpAny_pyIter_enum he ?_
      have I2 : Inv X pins σ H1 { s1 with heap := h' } := I1.kept (t' := s1.toks) hk
      exact ⟨s1.heap.objs.size + 1, [s1.heap.objs.size + 1, s1.heap.objs.size], _, _, H1, rfl, I2, turn_enumS z t (s1.heap.objs.size + 1) s1.heap.objs.size, ⟨⟨.none, he⟩, hit, Nat.succ_ne_self _⟩, fresh2, q⟩
where
  enumT {prog : Program} {w : World} {A : Around} {E : Value → Shared → Prop} {s : Shared} {l : Addr} {items : Array Value} {Q : Value → Shared → Prop} (hL : IsTup s.heap l items)
    (h : ∀ h', IsEnum h' (s.heap.objs.size + 1) s.heap.objs.size 0 .none → h'.IsTupleIter s.heap.objs.size l 0 → (∀ b o, s.heap.get? b = some o → h'.get? b = some o) → Q (.ref (s.heap.objs.size + 1)) { s with heap := h' }) :
    wpAny (model prog w) A (call (.type "enumerate") [.ref l]) Q E s := by
    have B := begins_tuple l items
    refine callType_new F.called_enumerate (by decide) (F.typeCall_enumerate_1 _) (F.newCall_enumerate_1 _) (fun obj => F.args_object_init_2 obj _) F.entry_enumerate_new
      (meets_enumerate_newB1 B) ⟨hL, ?_⟩
    have hz : (s.heap.push { cls := .type "tuple_iterator", data := .fields #[.ref l, .int 0 0] }).objs.size = s.heap.objs.size + 1 := Heap.size_push ..
    show _ ∧ _
    rw [hz]
    have he : IsEnum ((s.heap.push { cls := .type "tuple_iterator", data := .fields #[.ref l, .int 0 0] }).push { cls := .type "enumerate", data := .fields #[.none, .bool false, .ref s.heap.objs.size, rawInt 0, .none, .none] }) (s.heap.objs.size + 1) s.heap.objs.size 0 .none := by
      have := Heap.get?_push_size (s.heap.push { cls := .type "tuple_iterator", data := .fields #[.ref l, .int 0 0] }) (o := { cls := .type "enumerate", data := .fields #[.none, .bool false, .ref s.heap.objs.size, rawInt 0, .none, .none] }) rfl
      rw [hz] at this; exact this
    exact ⟨⟨_, he, rfl⟩, h _ he ⟨_, Heap.get?_push_of_some _ (Heap.get?_push_size _ rfl), rfl, rfl⟩ fun b o x => Heap.get?_push_of_some _ (Heap.get?_push_of_some _ x)⟩
end AL

set_option Elab.async false
set_option linter.all false
set_option maxRecDepth 100000
set_option maxHeartbeats 4000000
namespace AL
open PySem L2
def enumD (ds : List D) : List D := ds.zipIdx.map fun p => .tup [.int (p.2 : Nat), p.1]
theorem enumD_len (ds : List D) : (enumD ds).length = ds.length := by unfold enumD; rw [List.length_map, List.length_zipIdx]
theorem enumD_get {ds : List D} {i : Nat} {d : D} (h : ds[i]? = some d) : (enumD ds)[i]? = some (.tup [.int (i : Nat), d]) := by
  unfold enumD
  rw [List.getElem?_map, List.getElem?_zipIdx, h]
  simp
theorem enumD_inv {ds : List D} {i : Nat} {e : D} (h : (enumD ds)[i]? = some e) : ∃ d, ds[i]? = some d ∧ e = .tup [.int (i : Nat), d] := by
  unfold enumD at h
  rw [List.getElem?_map, List.getElem?_zipIdx] at h
  cases q : ds[i]? with
  | none => rw [q] at h; simp at h
  | some d => rw [q] at h; simp at h; exact ⟨d, rfl, h.symm⟩
section
variable {Γ : Cg} {K : Frg} {F : Hp} {ms : Ms} {S : Sg} {P : Hp → Ms → List D → (Ms → Prop) → Prop}
theorem pair_rep {R : Ms} {ms' : Ms} {F' H : Hp} {T : Addr} {d e : D} {v w : V} (hh : Hold K F' (ms' ++ R) H) (hT : H T = none) (r1 : Rep K F' d v) (r2 : Rep K F' e w) :
    ∃ F'', Ex F' F'' ∧ Hold K F'' (ms' ++ R) (upd H T (.tup [v, w])) ∧ Rep K F'' (.tup [d, e]) (.ref T) := by
  obtain ⟨e1, h1⟩ := hh.laid (.tup [v, w]) hT
  exact ⟨_, e1, h1, .tup (SqT.of upd_same) (.cons (r1.mono e1) (.cons (r2.mono e1) .nil))⟩
theorem ai_enum {ta : TA} (h : AA Γ ta F ms S fun F1 ms1 xs => (∃ ds : List D, xs = [.lst ds] ∧ P F1 ms1 (enumD ds) fun _ => True) ∨ (∃ ds : List D, xs = [.tup ds] ∧ P F1 ms1 (enumD ds) fun _ => True) ∨ ∃ z, xs = [.str z] ∧ P F1 ms1 (enumD (charsD z)) fun _ => True) : AI Γ (iEnumA Γ.K ta) F ms S P := fun R σ H Rc hs hh x k =>
  h R σ H _ hs hh x fun F1 ms1 xs vs H1 e1 h1 r1 q => by
    rcases q with ⟨ds, hx, p⟩ | ⟨ds, hx, p⟩ | ⟨z, hx, p⟩
    · subst hx
      cases r1 with
      | cons a b =>
        cases b
        cases a with
        | @lst a ys _ ha rl =>
          refine .inl ⟨a, ys, rfl, SqL.of (h1.ex _ _ ha), k F1 ms1 _ (fun _ => True) _ H1 e1 h1 ⟨fun _ i H' F' ms' hi e' hh' _ => ?_, fun _ H' F' ms' e' hh' _ => ?_, fun _ i H' x' H2 F' ms' hi e' hh' _ y => ?_⟩ p⟩
          · rw [enumD_len] at hi
            exact ⟨ys, ys[i]'(by rw [← rl.len]; exact hi), SqL.of (hh'.ex _ _ (e' _ _ ha)), by simp [show i < ys.length by rw [← rl.len]; exact hi]⟩
          · exact ⟨ys, SqL.of (hh'.ex _ _ (e' _ _ ha)), by rw [enumD_len, rl.len]; exact Nat.le_refl _⟩
          · obtain ⟨T, w, y1, y2, y3, y4⟩ := y
            subst y1 y3
            obtain ⟨d, hd, rd⟩ := rl.get (y4 ys (SqL.of (hh'.ex _ _ (e' _ _ ha))))
            obtain ⟨F'', e2, h2, r2⟩ := pair_rep hh' y2 (.int (i : Nat)) (rd.mono e')
            exact ⟨F'', _, e2, h2, enumD_get hd, r2⟩
    · subst hx
      cases r1 with
      | cons a b =>
        cases b
        cases a with
        | @tup a ys _ ha rl =>
          refine .inr (.inl ⟨a, ys, rfl, ex_t h1.ex ha, k F1 ms1 _ (fun _ => True) _ H1 e1 h1 ⟨fun _ i H' F' ms' hi e' hh' _ => ?_, fun _ H' F' ms' e' hh' _ => ?_, fun _ i H' x' H2 F' ms' hi e' hh' _ y => ?_⟩ p⟩)
          · rw [enumD_len] at hi
            exact ⟨ys, ys[i]'(by rw [← rl.len]; exact hi), ex_t hh'.ex (ex_t e' ha), by simp [show i < ys.length by rw [← rl.len]; exact hi]⟩
          · exact ⟨ys, ex_t hh'.ex (ex_t e' ha), by rw [enumD_len, rl.len]⟩
          · obtain ⟨T, w, y1, y2, y3, y4⟩ := y
            subst y1 y3
            obtain ⟨d, hd, rd⟩ := rl.get (y4 ys (ex_t hh'.ex (ex_t e' ha)))
            obtain ⟨F'', e2, h2, r2⟩ := pair_rep hh' y2 (.int (i : Nat)) (rd.mono e')
            exact ⟨F'', _, e2, h2, enumD_get hd, r2⟩
    · subst hx
      cases r1 with
      | cons a b =>
        cases b
        cases a
        have hl : (charsD z).length = z.cps.size := by unfold charsD; rw [List.length_map, Array.length_toList]
        refine .inr (.inr ⟨z, rfl, k F1 ms1 _ (fun _ => True) _ H1 e1 h1 ⟨fun _ i H' F' ms' hi e' hh' _ => ?_, fun _ H' F' ms' e' hh' _ => ?_, fun _ i H' x' H2 F' ms' hi e' hh' _ y => ?_⟩ p⟩)
        · rw [enumD_len, hl] at hi; exact hi
        · show (enumD (charsD z)).length = z.cps.size
          rw [enumD_len, hl]
        · obtain ⟨T, c, y1, y2, y3, y4⟩ := y
          subst y1 y3
          obtain ⟨F'', e2, h2, r2⟩ := pair_rep hh' y2 (.int (i : Nat)) (.str ⟨#[c]⟩)
          refine ⟨F'', _, e2, h2, enumD_get ?_, r2⟩
          unfold charsD
          rw [List.getElem?_map, Array.getElem?_toList, y4]
          rfl
end
/-! ### static methods -/
/-- C.m is a staticmethod: its record at p, its def at g -/
structure SMet (K : Frg) (C : Addr) (mc : Value) (m : Str) (p g : Addr) : Prop where
  rd : PySem.W.readsIn K C mc = true
  ga : PySem.W.specialIn K (.ref C) "__getattribute__" = some (some (.builtin "type.__getattribute__"))
  at_ : PySem.W.findCls K (.ref C) mc m = some (.get (.builtin "staticmethod.__get__") (.ref p) .none (.ref C))
  rc : ∃ rest, PySem.W.recIn K p "staticmethod" = some (.ref g :: rest)
/-- .. reached through an instance of C -/
structure SInst (K : Frg) (C : Addr) (m : Str) (p g : Addr) : Prop where
  pg : PySem.W.plainGet K C Str.empty = true
  ic : PySem.W.isClsIn K C = true
  at_ : PySem.W.findIn K (.ref C) m = some (some (.ref p))
  ty : PySem.W.typeIn K (.ref p) = some (.type "staticmethod")
  get : PySem.W.specialIn K (.ref p) "__get__" = some (some (.builtin "staticmethod.__get__"))
  tk : PySem.W.takesIn K (.ref p) = some false
  cp : PySem.W.copiedNames.contains m = false
  rc : ∃ rest, PySem.W.recIn K p "staticmethod" = some (.ref g :: rest)
/-- e.m(..), e the class at C, m a static method -/
def tSMeth (C : Addr) (sp : Sp) (E : XK) (ta : TE) (t : TA) : TE := fun σ H Q => ta σ H fun x H1 => x = .ref C ∧ t σ H1 fun vs H2 => sp vs H2 Q E
/-- o.m(..), o an instance of the class at C -/
def tSMethI (C : Addr) (m : Str) (sp : Sp) (E : XK) (ta : TE) (t : TA) : TE := fun σ H Q => ta σ H fun x H1 => ∃ a dx fs, x = .ref a ∧ H1 a = some (.ins C dx fs) ∧ fs.lookup m = none ∧ t σ H1 fun vs H2 => sp vs H2 Q E
section
variable {X : Cx} {CX : CXT} {k : Nat} {f C p g : Addr} {mc : Value} {fd : FuncData} {ps : List Str} {sp : Sp} {E : XK} {m : Str} {pos apos : Pos} {e o : Expr} {es : List Expr} {ta : TE} {t : TA}
theorem pe_smeth {pl : Sem Bool} (he : PE X o ta) (c : SMet X.K C mc m p g) (hk : PySem.W.keepIn X.K (.ref g) = true) (F : FnOk X.prog X.w X.K X.mg X.base CX k g fd ps sp) (hr : Room k X.A) (hb : Binds X.K fd ps []) (hx : Passes CX X E) (ha : PA X (e :: es) t)
    (hst : starEach (e :: es) X.env = (false, eval e X.env) :: starEach es X.env := by rfl) (hpl : (backTo pos (starEach es X.env)).any (·.1) = false := by rfl)
    (ht : eval (.Call (.Attribute o m apos) (e :: es) [] pos) X.env = (do
      let ov ← eval o X.env
      standAt apos.atName
      let (f, first) ← holding [ov] (getMethod ov m pl)
      callWith pos f first (backTo pos (starEach (e :: es) X.env)) (backToKw pos (keywordEach [] X.env))) := by rfl) :
    PE X (.Call (.Attribute o m apos) (e :: es) [] pos) (tSMeth C sp E ta t) := by
  refine ⟨fun pins s σ H Q I h => ?_⟩
  refine PySem.W.methodCall_KW (pl := pl) (thn (he.run pins s σ H _ I h) fun u s1 ⟨x, H1, I1, rx, ex, q⟩ => ?_) ht
  subst ex
  obtain rfl : u = Value.ref C := rx
  obtain ⟨rest, hp⟩ := c.rc
  refine PySem.W.method_cls I1.kIn c.ga (PySem.W.cls_bind I1.kIn c.rd c.at_ (wpAny_call (PySem.W.sm_get (s := { s1 with toks := s1.toks + 1 }) I1.kIn hp (PySem.W.handed_on rfl ?_))))
  have I2 := I1.tok (s1.toks + 1)
  refine PySem.W.callWith_K (first := []) (h₀ := X.base) I.ok.mod.kin hk (thn (ha.run pos pins _ σ H1 _ I2 q) fun us s2 ⟨vs, H2, I2, r, q2⟩ => ⟨I2.kIn, ?_⟩) hst hpl
  exact run_fn (us := us) (vs := vs) (dvs := []) (ds := []) F hr hb .nil hx I2 r (by rw [List.append_nil]; exact q2)
theorem pe_smethI {pl : Sem Bool} (he : PE X o ta) (c : SInst X.K C m p g) (hk : PySem.W.keepIn X.K (.ref g) = true) (F : FnOk X.prog X.w X.K X.mg X.base CX k g fd ps sp) (hr : Room k X.A) (hb : Binds X.K fd ps []) (hx : Passes CX X E) (ha : PA X (e :: es) t)
    (hst : starEach (e :: es) X.env = (false, eval e X.env) :: starEach es X.env := by rfl) (hpl : (backTo pos (starEach es X.env)).any (·.1) = false := by rfl)
    (ht : eval (.Call (.Attribute o m apos) (e :: es) [] pos) X.env = (do
      let ov ← eval o X.env
      standAt apos.atName
      let (f, first) ← holding [ov] (getMethod ov m pl)
      callWith pos f first (backTo pos (starEach (e :: es) X.env)) (backToKw pos (keywordEach [] X.env))) := by rfl) :
    PE X (.Call (.Attribute o m apos) (e :: es) [] pos) (tSMethI C m sp E ta t) := by
  refine ⟨fun pins s σ H Q I h => ?_⟩
  refine PySem.W.methodCall_KW (pl := pl) (thn (he.run pins s σ H _ I h) fun u s1 ⟨x, H1, I1, rx, a, dx, fs, ex, ea, l, q⟩ => ?_) ht
  subst ex
  obtain rfl : u = Value.ref a := rx
  obtain ⟨rest, hp⟩ := c.rc
  obtain ⟨mA, O, rel, _, _, _⟩ := ins_get I1.hok ea
  obtain ⟨od, J, hl⟩ := O.look
  have z : mA m = none := RelO.none_of (by have q := rel m; rw [l] at q; exact q)
  have hn : PySem.W.lookIn m od = some none := by rw [hl m, z]
  refine PySem.W.method_usual (r := some (.ref p)) I1.kIn J (PySem.W.plainGet_of (show PySem.W.plainGet X.K C m = true from c.pg)).1 (PySem.W.plainGet_of (show PySem.W.plainGet X.K C m = true from c.pg)).2 c.at_ ?_ ?_
  · show ((PySem.W.typeIn X.K (.ref p)).any fun t => t != .type "function" && t != .type "method_descriptor" && t != .type "wrapper_descriptor") = true
    rw [c.ty]
    first
    | rfl
    | decide +kernel
  · refine PySem.W.get_bind I1.kIn J (PySem.W.plainGet_of (show PySem.W.plainGet X.K C m = true from c.pg)).1 (ClX.find_cm c.ic c.at_ c.get c.tk c.cp hn) (PySem.W.plainGet_of (show PySem.W.plainGet X.K C m = true from c.pg)).2 ?_
    refine wpAny_call (PySem.W.sm_get (s := { s1 with toks := s1.toks + 1 }) I1.kIn hp (PySem.W.handed_on rfl ?_))
    have I2 := I1.tok (s1.toks + 1)
    refine PySem.W.callWith_K (first := []) (h₀ := X.base) I.ok.mod.kin hk (thn (ha.run pos pins _ σ H1 _ I2 q) fun us s2 ⟨vs, H2, I2, r, q2⟩ => ⟨I2.kIn, ?_⟩) hst hpl
    exact run_fn (us := us) (vs := vs) (dvs := []) (ds := []) F hr hb .nil hx I2 r (by rw [List.append_nil]; exact q2)
end
section
variable {Γ : Cg} {K : Frg} {F : Hp} {ms : Ms} {S : Sg} {Q : QE} {ta : TE} {ta' : TA} {C : Addr} {m : Str} {sp : ASp}
theorem ae_smeth (h : AE Γ ta F ms S fun F1 ms1 x => x = .ref C ∧ AA Γ ta' F1 ms1 S fun F2 ms2 ds => sp ds F2 ms2 Q Γ.Ea) : AE Γ (tSMeth C (toSp Γ.K sp) Γ.E ta ta') F ms S Q := fun R σ H Qc hs hh x k =>
  h R σ H _ hs hh x fun F1 ms1 d1 v1 H1 e1 h1 r1 ⟨hx, q⟩ => by
    subst hx
    cases r1
    exact ⟨rfl, q R σ H1 _ (hs.mono e1) h1 (x.ex e1) fun F2 ms2 ds vs H2 e2 h2 r2 q2 => ⟨F2, ms2, R, ds, Q, Γ.Ea, h2, r2, q2, fun F' ms' d v H' e => k F' ms' d v H' ((e1.trans e2).trans e), x.ex (e1.trans e2)⟩⟩
theorem ae_smethI (h : AE Γ ta F ms S fun F1 ms1 x => ∃ a fs, x = .ref a ∧ InsA Γ.K F1 ms1 a C fs ∧ fs.lookup m = none ∧ AA Γ ta' F1 ms1 S fun F2 ms2 ds => sp ds F2 ms2 Q Γ.Ea) : AE Γ (tSMethI C m (toSp Γ.K sp) Γ.E ta ta') F ms S Q := fun R σ H Qc hs hh x k =>
  h R σ H _ hs hh x fun F1 ms1 d1 v1 H1 e1 h1 r1 ⟨a, fs, hx, hi, hl, q⟩ => by
    subst hx
    cases r1
    obtain ⟨dx, gs, i1, i2, i3⟩ := hi.to h1
    exact ⟨a, dx, gs, rfl, i1, i3.lookN hl, q R σ H1 _ (hs.mono e1) h1 (x.ex e1) fun F2 ms2 ds vs H2 e2 h2 r2 q2 => ⟨F2, ms2, R, ds, Q, Γ.Ea, h2, r2, q2, fun F' ms' d v H' e => k F' ms' d v H' ((e1.trans e2).trans e), x.ex (e1.trans e2)⟩⟩
end
end AL

set_option Elab.async false
set_option linter.all false
set_option maxRecDepth 100000
set_option maxHeartbeats 4000000
/-! Rules whose reading names the fragment K outright (so they may stand under binders), and a few more. -/
namespace AL
open PySem L2 PyProof.Rows
section
variable {X : Cx} {K : Frg}
theorem kADD (h : X.K = K) : OpR X (binaryOp .Add) (rADD K) := h ▸ op_ADD
theorem kMUL (h : X.K = K) : OpR X (binaryOp .Mult) (rMUL K) := h ▸ op_MUL
theorem kEQ (h : X.K = K) (hu : X.A.units + 64 < cLine) : OpR X (compareOp .Eq) (rEQ K) := h ▸ op_EQ hu
theorem kNE (h : X.K = K) (hu : X.A.units + 64 < cLine) : OpR X (compareOp .NotEq) (rNE K) := h ▸ op_NE hu
theorem kIN (h : X.K = K) : OpR X (compareOp .In) (rIN K) := h ▸ op_INN
theorem kNOTIN (h : X.K = K) : OpR X (compareOp .NotIn) (rNOTIN K) := h ▸ op_NOTINN
theorem kIX (h : X.K = K) : IxR X (rIx K) := h ▸ ix_seq
theorem kSLC (h : X.K = K) : SlR X (rSLC K) := h ▸ sl_SLC
theorem kLEN (h : X.K = K) : CallR X (.builtin "len") (rLEN K) := h ▸ call_LEN
theorem kLIST (h : X.K = K) (hc : X.calm = true) : CallR X (.type "list") (rLIST K) := h ▸ call_LIST hc
theorem kTUPLE (h : X.K = K) : CallR X (.type "tuple") (rTUPLE K) := h ▸ call_TUPLE
theorem kALL (h : X.K = K) (hc : X.calm = true) : CallR X (.builtin "all") (rAll K) := h ▸ cr_all hc
theorem kISI (h : X.K = K) : CallR X (.builtin "isinstance") (rIsi K) := h ▸ call_isi
theorem kJOIN (h : X.K = K) : MtR X "str.join" (rJOIN K) := h ▸ mt_JOIN
variable {e o : Expr} {es : List Expr} {f name : Str} {pos apos cpos p2 : Pos} {ta te to : TE} {t : TA} {T id : String} {r : V → List V → Hp → VK → Prop} {tg : Expr}
theorem pe_fldk (h : X.K = K) (he : PE X e ta) (hb : attributeBase e f X.env (eval e X.env) = eval e X.env) : PE X (.Attribute e f pos) (tFld K ta f) := h ▸ pe_fld he hb
theorem pe_bmk (h : X.K = K) (pa : PlainAttrs T) (slot : Slot T name id) (hty : typeOf (.builtin id) = pure (.type "method_descriptor")) (hm : MtR X id r) (ho : PE X o to) (ha : PA X (e :: es) t)
    (hbase : attributeBase o name X.env (eval o X.env) = eval o X.env := by rfl)
    (hfew : ((backTo cpos (starEach (e :: es) X.env)).all (fun x => !x.1) && (backToKw cpos (keywordEach [] X.env)).all (fun x => x.1.isSome)
      && decide ((e :: es).length + ([] : List Keyword).length + (if ([] : List Keyword).isEmpty then 0 else 1) < 30)) = true := by rfl)
    (hline : (apos.endLine == cpos.line) = true := by rfl) (hs : starEach (e :: es) X.env = (false, eval e X.env) :: starEach es X.env := by rfl) (hplain : (backTo cpos (starEach es X.env)).any (·.1) = false := by rfl) :
    PE X (.Call (.Attribute o name apos) (e :: es) [] cpos) (tBM K T r to t) := h ▸ pe_bm pa slot hty hm ho ha hbase hfew hline hs hplain
theorem pi_listk (h : X.K = K) (he : PE X e ta) : PI X tg e (iList K ta) := h ▸ pi_list he
theorem pi_tupk (h : X.K = K) (he : PE X e ta) : PI X tg e (iTup K ta) := h ▸ pi_tup he
end
section
variable {Γ : Cg} {K : Frg} {F : Hp} {ms : Ms} {S : Sg} {Q : QE} {ta tb tc : TE} {r r' : R2}
theorem ae_chain (h : AE Γ ta F ms S fun F1 ms1 x => AE Γ tb F1 ms1 S fun F2 ms2 y => AR Γ.K r x y F2 ms2 fun F3 ms3 z => ∃ k, z = .bl k ∧ (k = true → AE Γ tc F3 ms3 S fun F4 ms4 w => AR Γ.K r' y w F4 ms4 Q) ∧ (k = false → Q F3 ms3 (.bl false))) :
    AE Γ (tChain r r' ta tb tc) F ms S Q := fun R σ H Qc hs hh x k =>
  h R σ H _ hs hh x fun F1 ms1 d1 v1 H1 e1 h1 r1 q1 => q1 R σ H1 _ (hs.mono e1) h1 (x.ex e1) fun F2 ms2 d2 v2 H2 e2 h2 r2 q2 =>
    q2 R v1 v2 H2 _ (r1.mono e2) r2 h2 fun F3 ms3 d3 v3 H3 e3 h3 r3 ⟨b, hb, qt, qf⟩ => by
      subst hb
      cases r3
      refine ⟨b, rfl, ?_⟩
      have e13 := (e1.trans e2).trans e3
      cases b with
      | true =>
        rw [if_pos rfl]
        exact qt rfl R σ H3 _ (hs.mono e13) h3 (x.ex e13) fun F4 ms4 d4 v4 H4 e4 h4 r4 q4 => q4 R v2 v4 H4 _ (r2.mono (e3.trans e4)) r4 h4 fun F5 ms5 d v H5 e5 => k F5 ms5 d v H5 ((e13.trans e4).trans e5)
      | false =>
        rw [if_neg (by decide)]
        exact k F3 ms3 _ _ H3 e13 h3 (.bl false) (qf rfl)
theorem ac_all {bs : List Bool} {d : D} (hd : d = .lst (bs.map D.bl)) (q : Q F ms (.bl (bs.all id))) : AC K (rAll K) [d] F ms Q := ac1 fun R v H Qc hv hh k => by
  subst hd
  obtain ⟨a, vs, rfl, hl, rl⟩ : ∃ a vs, v = .ref a ∧ F a = some (.lst vs) ∧ RepL K F (bs.map D.bl) vs := by
    cases hv with
    | lst h r => exact ⟨_, _, rfl, h, r⟩
  have hvs : vs = bs.map V.bl := by
    clear q hl hv hh k
    induction bs generalizing vs with
    | nil => cases rl; rfl
    | cons b bs ih =>
      cases rl with
      | cons h r => cases h; rw [ih _ r]; rfl
  subst hvs
  exact ⟨a, bs, rfl, SqL.of (hh.ex _ _ hl), k F ms _ _ H Ex.refl hh (.bl _) q⟩
end
/-- a def with defaults, that raises nothing -/
theorem fn_okD {P : Program} {w : World} {K : Frg} {mg : Str → Option Value} {base : Heap} {x qual : Str} {st : Stmt} {f : Addr} {fd : FuncData} {N ps : List Str} {dvs : List V} {kws : List (Str × V)} {k : Nat} {sp : ASp} (F : FunD K x qual (defArgs st) (defBody st) (defScope st) dvs kws f fd) (Sc : FnScope N ps (defScope st)) (len : ∀ ds F ms Q E, sp ds F ms Q E → ds.length = ps.length)
    (hbody : ∀ (cdv : Value) (A : Around) (outer : List Env) (s : Shared) (H : Hp) (E : XK), Room k (A.deeper (PyProof.Rows.envOfC qual (defScope st) s.heap.objs.size f cdv)) → ∃ t, PSs (cxOf CX0 P w K mg base N qual (defScope st) f cdv A outer s H E).nox (defBody st) t ∧
      ∀ ds F ms Q Ea, sp ds F ms Q Ea → AS ⟨K, E0, fun _ _ _ _ => False⟩ t F ms (startS N ds) { nx := fun F' ms' _ => Q F' ms' .non, rt := Q }) : FnOk P w K mg base CX0 (k + 1) f fd ps (toSp K sp) := by
  refine F.ok Sc (fun vs H Q E h => ?_) (fun cdv A outer s H vs Q E hr h => ?_)
  · obtain ⟨F0, ms, R, ds, Qa, Ea, h1, h2, h3, _⟩ := h
    rw [← h2.len]
    exact len _ _ _ _ _ h3
  · obtain ⟨F0, ms, R, ds, Qa, Ea, h1, h2, h3, h4, h5⟩ := h
    obtain ⟨t, ht, q⟩ := hbody cdv A outer s H E hr
    refine ⟨t, ht.nox, q ds F0 ms Qa Ea h3 R _ _ H (start_rep h2) h1 ⟨fun _ _ _ _ _ _ _ _ _ z => z.elim, fun F' ms' S' σ' H' e a b q' => h4 F' ms' .non .non H' e b .non q', fun F' ms' d v H' e b r q' => h4 F' ms' d v H' e b r q', fun _ _ _ _ _ _ _ _ z => z.elim, fun _ _ _ _ _ _ _ _ z => z.elim⟩⟩
end AL

set_option Elab.async false
set_option linter.all false
set_option maxRecDepth 100000
set_option maxHeartbeats 4000000
namespace AL
open PySem L2 PyProof.Rows
section
variable {Γ : Cg} {K : Frg} {F : Hp} {ms : Ms} {S : Sg} {Q : QE} {ta tb te tx : TE} {t u tt : TT} {r : R2} {ts tu tw : TS} {A : AEnds} {g : TG} {wi : TI} {vs : List Nat}
theorem isi_non_bool (q : Q F ms (.bl false)) : AC K (rIsi K) [.non, .ty "bool"] F ms Q := ac_isi (b := false) (by show ("NoneType" : String) ≠ ""; decide) (by intro ds h; cases h) (by show kitB "NoneType" "bool" = some false; decide +kernel) q
theorem isi_non_int (q : Q F ms (.bl false)) : AC K (rIsi K) [.non, .ty "int"] F ms Q := ac_isi (b := false) (by show ("NoneType" : String) ≠ ""; decide) (by intro ds h; cases h) (by show kitB "NoneType" "int" = some false; decide +kernel) q
theorem isi_non_str (q : Q F ms (.bl false)) : AC K (rIsi K) [.non, .ty "str"] F ms Q := ac_isi (b := false) (by show ("NoneType" : String) ≠ ""; decide) (by intro ds h; cases h) (by show kitB "NoneType" "str" = some false; decide +kernel) q
theorem isi_non_tuple (q : Q F ms (.bl false)) : AC K (rIsi K) [.non, .ty "tuple"] F ms Q := ac_isi (b := false) (by show ("NoneType" : String) ≠ ""; decide) (by intro ds h; cases h) (by show kitB "NoneType" "tuple" = some false; decide +kernel) q
theorem isi_non_list (q : Q F ms (.bl false)) : AC K (rIsi K) [.non, .ty "list"] F ms Q := ac_isi (b := false) (by show ("NoneType" : String) ≠ ""; decide) (by intro ds h; cases h) (by show kitB "NoneType" "list" = some false; decide +kernel) q
theorem isi_non_dict (q : Q F ms (.bl false)) : AC K (rIsi K) [.non, .ty "dict"] F ms Q := ac_isi (b := false) (by show ("NoneType" : String) ≠ ""; decide) (by intro ds h; cases h) (by show kitB "NoneType" "dict" = some false; decide +kernel) q
theorem isi_bl_bool {b0 : Bool} (q : Q F ms (.bl true)) : AC K (rIsi K) [.bl b0, .ty "bool"] F ms Q := ac_isi (b := true) (by show ("bool" : String) ≠ ""; decide) (by intro ds h; cases h) (by show kitB "bool" "bool" = some true; decide +kernel) q
theorem isi_bl_int {b0 : Bool} (q : Q F ms (.bl true)) : AC K (rIsi K) [.bl b0, .ty "int"] F ms Q := ac_isi (b := true) (by show ("bool" : String) ≠ ""; decide) (by intro ds h; cases h) (by show kitB "bool" "int" = some true; decide +kernel) q
theorem isi_bl_str {b0 : Bool} (q : Q F ms (.bl false)) : AC K (rIsi K) [.bl b0, .ty "str"] F ms Q := ac_isi (b := false) (by show ("bool" : String) ≠ ""; decide) (by intro ds h; cases h) (by show kitB "bool" "str" = some false; decide +kernel) q
theorem isi_bl_tuple {b0 : Bool} (q : Q F ms (.bl false)) : AC K (rIsi K) [.bl b0, .ty "tuple"] F ms Q := ac_isi (b := false) (by show ("bool" : String) ≠ ""; decide) (by intro ds h; cases h) (by show kitB "bool" "tuple" = some false; decide +kernel) q
theorem isi_bl_list {b0 : Bool} (q : Q F ms (.bl false)) : AC K (rIsi K) [.bl b0, .ty "list"] F ms Q := ac_isi (b := false) (by show ("bool" : String) ≠ ""; decide) (by intro ds h; cases h) (by show kitB "bool" "list" = some false; decide +kernel) q
theorem isi_bl_dict {b0 : Bool} (q : Q F ms (.bl false)) : AC K (rIsi K) [.bl b0, .ty "dict"] F ms Q := ac_isi (b := false) (by show ("bool" : String) ≠ ""; decide) (by intro ds h; cases h) (by show kitB "bool" "dict" = some false; decide +kernel) q
theorem isi_int_bool {i : Int} (q : Q F ms (.bl false)) : AC K (rIsi K) [.int i, .ty "bool"] F ms Q := ac_isi (b := false) (by show ("int" : String) ≠ ""; decide) (by intro ds h; cases h) (by show kitB "int" "bool" = some false; decide +kernel) q
theorem isi_int_int {i : Int} (q : Q F ms (.bl true)) : AC K (rIsi K) [.int i, .ty "int"] F ms Q := ac_isi (b := true) (by show ("int" : String) ≠ ""; decide) (by intro ds h; cases h) (by show kitB "int" "int" = some true; decide +kernel) q
theorem isi_int_str {i : Int} (q : Q F ms (.bl false)) : AC K (rIsi K) [.int i, .ty "str"] F ms Q := ac_isi (b := false) (by show ("int" : String) ≠ ""; decide) (by intro ds h; cases h) (by show kitB "int" "str" = some false; decide +kernel) q
theorem isi_int_tuple {i : Int} (q : Q F ms (.bl false)) : AC K (rIsi K) [.int i, .ty "tuple"] F ms Q := ac_isi (b := false) (by show ("int" : String) ≠ ""; decide) (by intro ds h; cases h) (by show kitB "int" "tuple" = some false; decide +kernel) q
theorem isi_int_list {i : Int} (q : Q F ms (.bl false)) : AC K (rIsi K) [.int i, .ty "list"] F ms Q := ac_isi (b := false) (by show ("int" : String) ≠ ""; decide) (by intro ds h; cases h) (by show kitB "int" "list" = some false; decide +kernel) q
theorem isi_int_dict {i : Int} (q : Q F ms (.bl false)) : AC K (rIsi K) [.int i, .ty "dict"] F ms Q := ac_isi (b := false) (by show ("int" : String) ≠ ""; decide) (by intro ds h; cases h) (by show kitB "int" "dict" = some false; decide +kernel) q
theorem isi_str_bool {z : Str} (q : Q F ms (.bl false)) : AC K (rIsi K) [.str z, .ty "bool"] F ms Q := ac_isi (b := false) (by show ("str" : String) ≠ ""; decide) (by intro ds h; cases h) (by show kitB "str" "bool" = some false; decide +kernel) q
theorem isi_str_int {z : Str} (q : Q F ms (.bl false)) : AC K (rIsi K) [.str z, .ty "int"] F ms Q := ac_isi (b := false) (by show ("str" : String) ≠ ""; decide) (by intro ds h; cases h) (by show kitB "str" "int" = some false; decide +kernel) q
theorem isi_str_str {z : Str} (q : Q F ms (.bl true)) : AC K (rIsi K) [.str z, .ty "str"] F ms Q := ac_isi (b := true) (by show ("str" : String) ≠ ""; decide) (by intro ds h; cases h) (by show kitB "str" "str" = some true; decide +kernel) q
theorem isi_str_tuple {z : Str} (q : Q F ms (.bl false)) : AC K (rIsi K) [.str z, .ty "tuple"] F ms Q := ac_isi (b := false) (by show ("str" : String) ≠ ""; decide) (by intro ds h; cases h) (by show kitB "str" "tuple" = some false; decide +kernel) q
theorem isi_str_list {z : Str} (q : Q F ms (.bl false)) : AC K (rIsi K) [.str z, .ty "list"] F ms Q := ac_isi (b := false) (by show ("str" : String) ≠ ""; decide) (by intro ds h; cases h) (by show kitB "str" "list" = some false; decide +kernel) q
theorem isi_str_dict {z : Str} (q : Q F ms (.bl false)) : AC K (rIsi K) [.str z, .ty "dict"] F ms Q := ac_isi (b := false) (by show ("str" : String) ≠ ""; decide) (by intro ds h; cases h) (by show kitB "str" "dict" = some false; decide +kernel) q
theorem isi_tup_bool {ds : List D} (q : Q F ms (.bl false)) : AC K (rIsi K) [.tup ds, .ty "bool"] F ms Q := ac_isi (b := false) (by show ("tuple" : String) ≠ ""; decide) (by intro ds h; cases h) (by show kitB "tuple" "bool" = some false; decide +kernel) q
theorem isi_tup_int {ds : List D} (q : Q F ms (.bl false)) : AC K (rIsi K) [.tup ds, .ty "int"] F ms Q := ac_isi (b := false) (by show ("tuple" : String) ≠ ""; decide) (by intro ds h; cases h) (by show kitB "tuple" "int" = some false; decide +kernel) q
theorem isi_tup_str {ds : List D} (q : Q F ms (.bl false)) : AC K (rIsi K) [.tup ds, .ty "str"] F ms Q := ac_isi (b := false) (by show ("tuple" : String) ≠ ""; decide) (by intro ds h; cases h) (by show kitB "tuple" "str" = some false; decide +kernel) q
theorem isi_tup_tuple {ds : List D} (q : Q F ms (.bl true)) : AC K (rIsi K) [.tup ds, .ty "tuple"] F ms Q := ac_isi (b := true) (by show ("tuple" : String) ≠ ""; decide) (by intro ds h; cases h) (by show kitB "tuple" "tuple" = some true; decide +kernel) q
theorem isi_tup_list {ds : List D} (q : Q F ms (.bl false)) : AC K (rIsi K) [.tup ds, .ty "list"] F ms Q := ac_isi (b := false) (by show ("tuple" : String) ≠ ""; decide) (by intro ds h; cases h) (by show kitB "tuple" "list" = some false; decide +kernel) q
theorem isi_tup_dict {ds : List D} (q : Q F ms (.bl false)) : AC K (rIsi K) [.tup ds, .ty "dict"] F ms Q := ac_isi (b := false) (by show ("tuple" : String) ≠ ""; decide) (by intro ds h; cases h) (by show kitB "tuple" "dict" = some false; decide +kernel) q
theorem isi_lst_bool {ds : List D} (q : Q F ms (.bl false)) : AC K (rIsi K) [.lst ds, .ty "bool"] F ms Q := ac_isi (b := false) (by show ("list" : String) ≠ ""; decide) (by intro ds h; cases h) (by show kitB "list" "bool" = some false; decide +kernel) q
theorem isi_lst_int {ds : List D} (q : Q F ms (.bl false)) : AC K (rIsi K) [.lst ds, .ty "int"] F ms Q := ac_isi (b := false) (by show ("list" : String) ≠ ""; decide) (by intro ds h; cases h) (by show kitB "list" "int" = some false; decide +kernel) q
theorem isi_lst_str {ds : List D} (q : Q F ms (.bl false)) : AC K (rIsi K) [.lst ds, .ty "str"] F ms Q := ac_isi (b := false) (by show ("list" : String) ≠ ""; decide) (by intro ds h; cases h) (by show kitB "list" "str" = some false; decide +kernel) q
theorem isi_lst_tuple {ds : List D} (q : Q F ms (.bl false)) : AC K (rIsi K) [.lst ds, .ty "tuple"] F ms Q := ac_isi (b := false) (by show ("list" : String) ≠ ""; decide) (by intro ds h; cases h) (by show kitB "list" "tuple" = some false; decide +kernel) q
theorem isi_lst_list {ds : List D} (q : Q F ms (.bl true)) : AC K (rIsi K) [.lst ds, .ty "list"] F ms Q := ac_isi (b := true) (by show ("list" : String) ≠ ""; decide) (by intro ds h; cases h) (by show kitB "list" "list" = some true; decide +kernel) q
theorem isi_lst_dict {ds : List D} (q : Q F ms (.bl false)) : AC K (rIsi K) [.lst ds, .ty "dict"] F ms Q := ac_isi (b := false) (by show ("list" : String) ≠ ""; decide) (by intro ds h; cases h) (by show kitB "list" "dict" = some false; decide +kernel) q
theorem isi_dic_bool {kv : List (Key × D)} (q : Q F ms (.bl false)) : AC K (rIsi K) [.dic kv, .ty "bool"] F ms Q := ac_isi (b := false) (by show ("dict" : String) ≠ ""; decide) (by intro ds h; cases h) (by show kitB "dict" "bool" = some false; decide +kernel) q
theorem isi_dic_int {kv : List (Key × D)} (q : Q F ms (.bl false)) : AC K (rIsi K) [.dic kv, .ty "int"] F ms Q := ac_isi (b := false) (by show ("dict" : String) ≠ ""; decide) (by intro ds h; cases h) (by show kitB "dict" "int" = some false; decide +kernel) q
theorem isi_dic_str {kv : List (Key × D)} (q : Q F ms (.bl false)) : AC K (rIsi K) [.dic kv, .ty "str"] F ms Q := ac_isi (b := false) (by show ("dict" : String) ≠ ""; decide) (by intro ds h; cases h) (by show kitB "dict" "str" = some false; decide +kernel) q
theorem isi_dic_tuple {kv : List (Key × D)} (q : Q F ms (.bl false)) : AC K (rIsi K) [.dic kv, .ty "tuple"] F ms Q := ac_isi (b := false) (by show ("dict" : String) ≠ ""; decide) (by intro ds h; cases h) (by show kitB "dict" "tuple" = some false; decide +kernel) q
theorem isi_dic_list {kv : List (Key × D)} (q : Q F ms (.bl false)) : AC K (rIsi K) [.dic kv, .ty "list"] F ms Q := ac_isi (b := false) (by show ("dict" : String) ≠ ""; decide) (by intro ds h; cases h) (by show kitB "dict" "list" = some false; decide +kernel) q
theorem isi_dic_dict {kv : List (Key × D)} (q : Q F ms (.bl true)) : AC K (rIsi K) [.dic kv, .ty "dict"] F ms Q := ac_isi (b := true) (by show ("dict" : String) ≠ ""; decide) (by intro ds h; cases h) (by show kitB "dict" "dict" = some true; decide +kernel) q
theorem isiO_bool {l : Addr} {ds : List D} (n : Nat) (hn : ms[n]? = some (l, .lst ds)) (q : Q F ms (.bl false)) : AC K (rIsi K) [.ref l, .ty "bool"] F ms Q := ac_isiO n hn (b := false) (by decide +kernel) q
theorem isiO_int {l : Addr} {ds : List D} (n : Nat) (hn : ms[n]? = some (l, .lst ds)) (q : Q F ms (.bl false)) : AC K (rIsi K) [.ref l, .ty "int"] F ms Q := ac_isiO n hn (b := false) (by decide +kernel) q
theorem isiO_str {l : Addr} {ds : List D} (n : Nat) (hn : ms[n]? = some (l, .lst ds)) (q : Q F ms (.bl false)) : AC K (rIsi K) [.ref l, .ty "str"] F ms Q := ac_isiO n hn (b := false) (by decide +kernel) q
theorem isiO_tuple {l : Addr} {ds : List D} (n : Nat) (hn : ms[n]? = some (l, .lst ds)) (q : Q F ms (.bl false)) : AC K (rIsi K) [.ref l, .ty "tuple"] F ms Q := ac_isiO n hn (b := false) (by decide +kernel) q
theorem isiO_list {l : Addr} {ds : List D} (n : Nat) (hn : ms[n]? = some (l, .lst ds)) (q : Q F ms (.bl true)) : AC K (rIsi K) [.ref l, .ty "list"] F ms Q := ac_isiO n hn (b := true) (by decide +kernel) q
theorem isiO_dict {l : Addr} {ds : List D} (n : Nat) (hn : ms[n]? = some (l, .lst ds)) (q : Q F ms (.bl false)) : AC K (rIsi K) [.ref l, .ty "dict"] F ms Q := ac_isiO n hn (b := false) (by decide +kernel) q

theorem ar_neB {i j : Bool} (q : Q F ms (.bl (!decide (i = j)))) : AR K rNe (.bl i) (.bl j) F ms Q := fun R u v H Qc hu hv hh k => by
  cases hu; cases hv
  refine ⟨rfl, k F ms (.bl (!decide (i = j))) _ H Ex.refl hh ?_ q⟩
  have e : decide (V.bl i = V.bl j) = decide (i = j) := by cases i <;> cases j <;> simp
  rw [e]
  exact .bl _
theorem ar_NEb {i j : Bool} (q : Q F ms (.bl (!decide (i = j)))) : AR K (rNE K) (.bl i) (.bl j) F ms Q := ar_inl (ar_neB q)
theorem and_T {A B : Prop} (h : A) : (true = true → A) ∧ (true = false → B) := ⟨fun _ => h, fun z => Bool.noConfusion z⟩
theorem and_F {A B : Prop} (h : B) : (false = true → A) ∧ (false = false → B) := ⟨fun z => Bool.noConfusion z, fun _ => h⟩
theorem and_T' {A B : Prop} (h : A) : (true = false → B) ∧ (true = true → A) := ⟨fun z => Bool.noConfusion z, fun _ => h⟩
theorem and_F' {A B : Prop} (h : B) : (false = false → B) ∧ (false = true → A) := ⟨fun _ => h, fun z => Bool.noConfusion z⟩
/-- a comprehension whose list is owned -/
theorem ae_lcO (hg : GW g vs) (gm : ∀ v σ H N N', (∀ σ2 H2, N σ2 H2 → N' σ2 H2) → g v σ H N → g v σ H N') (h : AI Γ wi F ms S fun F1 ms1 ds G => ∃ I : Nat → Hp → Ms → List D → Prop, I 0 F1 ms1 [] ∧ (∀ i F' ms' acc, Ex F1 F' → I i F' ms' acc → G ms') ∧
    (∀ i d F' ms' acc, Ex F1 F' → ds[i]? = some d → I i F' ms' acc → ∀ F'', Ex F' F'' → AG Γ.nox g d F'' ms' (wipeS S vs) fun F2 ms2 S2 => AT Γ.nox tt F2 ms2 S2 fun F3 ms3 b => (b = true → AE Γ.nox te F3 ms3 S2 fun F4 ms4 y => acc.length < 100000 ∧ I (i + 1) F4 ms4 (acc ++ [y])) ∧ (b = false → I (i + 1) F3 ms3 acc)) ∧
    (∀ F' ms' acc, Ex F1 F' → I ds.length F' ms' acc → ∀ l, Q F' ((l, .lst acc) :: ms') (.ref l))) : AE Γ (tLc wi g tt te vs) F ms S Q := fun R σ H Qc hs hh x k =>
  h R σ H _ hs hh x fun F1 ms1 ds G J H1 e1 h1 it ⟨I, i0, iG, ib, ie⟩ => by
    intro D hD
    refine ⟨fun i m H' => m = ds.length - i ∧ i ≤ ds.length ∧ ∃ F' ms' acc, Ex F1 F' ∧ Hold Γ.K F' (ms' ++ (D, .lst acc) :: R) H' ∧ I i F' ms' acc, ⟨_, rfl, Nat.zero_le _, F1, ms1, [], Ex.refl, ?_, i0⟩, ?_⟩
    · exact (h1.made (m := .lst []) hD ⟨[], upd_same, .nil⟩).perm List.perm_middle
    rintro i m H' ⟨rfl, hi, F', ms', acc, e', hh', p⟩
    have hG := iG i F' ms' acc e' p
    by_cases hlt : i < ds.length
    · refine .inr ⟨it.goes _ i H' F' ms' hlt e' hh' hG, fun H2 => ∃ F2 ms2 acc2, Ex F1 F2 ∧ Hold Γ.K F2 (ms2 ++ (D, .lst acc2) :: R) H2 ∧ I (i + 1) F2 ms2 acc2, fun H2 ⟨F2, ms2, acc2, e2, b2, q2⟩ => ⟨ds.length - (i + 1), by omega, rfl, hlt, F2, ms2, acc2, e2, b2, q2⟩, fun x H2 y => ?_⟩
      obtain ⟨F2, d, e2, hh2, hd, hr⟩ := it.yields _ i H' x H2 F' ms' hlt e' hh' hG y
      refine gm x _ H2 _ _ (fun σ2 H3 z => ⟨z.2, z.1⟩) (hg x _ H2 _ _ (wipe_wipe σ vs) ?_)
      refine ib i d F' ms' acc e' hd p F2 e2 _ x (L2.wipe σ vs) H2 _ hr (((hs.mono e1).mono (e'.trans e2)).wipe vs) hh2 xle0 fun F3 ms3 S3 σ3 H3 e3 a3 b3 q3 => ?_
      refine q3 _ σ3 H3 _ a3 b3 xle0 fun F4 ms4 b H4 e4 b4 q4 => ?_
      cases b with
      | true =>
        refine q4.1 rfl _ σ3 H4 _ (a3.mono e4) b4 xle0 fun F5 ms5 d5 v5 H5 e5 b5 r5 q5 => ?_
        obtain ⟨_, vs5, hl, rl⟩ := b5.at mid_get
        refine ⟨vs5, hl, Evl.sz_lt (by rw [← rl.len]; exact q5.1), F5, ms5, acc ++ [d5], (((e'.trans e2).trans e3).trans e4).trans e5, ?_, q5.2⟩
        have := b5.set (m' := .lst (acc ++ [d5])) (o := .lst (vs5 ++ [v5])) mid_get ⟨_, upd_same, rl.append (RepL.one r5)⟩
        rw [mid_set] at this
        exact this
      | false => exact ⟨F4, ms4, acc, ((e'.trans e2).trans e3).trans e4, b4, q4.2 rfl⟩
    · have ei : i = ds.length := by omega
      subst ei
      refine .inl ⟨it.stops _ H' F' ms' e' hh' hG, ?_⟩
      exact k F' ((D, .lst acc) :: ms') (.ref D) _ H' (e1.trans e') (hh'.perm List.perm_middle.symm) (.ref D) (ie F' ms' acc e' p D)
end
/-! ### the start of a law -/
theorem start_law {K : Frg} {H : Hp} {a : Addr} {ns : List Int} {sp : ASp} (hS : SqL K H a (ns.map V.int)) (hq : ∀ F ms, sp [.rdl (ns.map D.int)] F ms (fun _ _ d => d = .bl true) fun _ _ _ _ => False) : toSp K sp [.ref a] H (fun v _ => v = .bl true) fun _ _ _ => False := by
  refine ⟨H, [], [], [.rdl (ns.map D.int)], _, _, ⟨Ex.refl, fun p hp => (List.not_mem_nil hp).elim, List.nodup_nil⟩, .cons (.rdl hS ?_) .nil, hq H [], fun F' ms' d v H' _ _ r e => ?_, fun _ _ _ _ _ _ _ _ _ z => z.elim⟩
  · clear hS hq
    induction ns with
    | nil => exact .nil
    | cons i ns ih => exact .cons (.int i) ih
  · subst e
    cases r
    rfl
end AL

set_option Elab.async false
set_option linter.all false
set_option maxRecDepth 100000
set_option maxHeartbeats 4000000
namespace AL
open PySem L2 PyProof.Rows
section
variable {Γ : Cg} {K : Frg} {F : Hp} {ms : Ms} {S : Sg} {Q : QE} {ta tb te tx : TE} {t u tt : TT} {r : R2} {ts tu tw : TS} {A : AEnds} {g : TG} {wi : TI} {vs : List Nat}
theorem as_cut (P : QS) (h1 : AS Γ ts F ms S { A with nx := P }) (h2 : ∀ F' ms' S', Ex F F' → P F' ms' S' → AS Γ tu F' ms' S' A) : AS Γ (tSeq ts tu) F ms S A :=
  as_seq (h1.mono (fun F' ms' S' e q => h2 F' ms' S' e q) (fun _ _ _ _ q => q) (fun _ _ _ _ q => q) (fun _ _ _ _ q => q))
theorem ae_cut (P : QE) (h1 : AE Γ te F ms S P) (h2 : ∀ F' ms' d, Ex F F' → P F' ms' d → Q F' ms' d) : AE Γ te F ms S Q := h1.mono fun F' ms' d e q => h2 F' ms' d e q
theorem ex_par' {a b : D} {P : D → D → Prop} (h : P a b) : ∃ x y, [a, b] = [x, y] ∧ P x y := ⟨_, _, rfl, h⟩
/-- own[i] = value -/
theorem as_subO {to ti : TE} (h : AE Γ te F ms S fun F0 ms0 d => AE Γ to F0 ms0 S fun F1 ms1 o => AE Γ ti F1 ms1 S fun F2 ms2 i => ∃ (n : Nat) (l : Addr) (ds : List D) (z : Int) (j : Nat), o = .ref l ∧ i = .int z ∧ ms2[n]? = some (l, .lst ds) ∧ ixN ds.length z = some j ∧ A.nx F2 (ms2.set n (l, .lst (ds.set j d))) S) :
    AS Γ (tAsg te (gSub to ti rSetL)) F ms S A := as_asgG (h.mono fun F0 ms0 d e q => ag_subO q)
end
theorem ixN_of {n j : Nat} {z : Int} (hz : z = (j : Int)) (h : j < n) : ixN n z = some j := by
  subst hz
  unfold ixN
  rw [if_pos (by omega), if_pos (by omega)]
  simp
theorem atI_of {α : Type} {xs : List α} {j : Nat} {z : Int} {d : α} (hz : z = (j : Int)) (h : xs[j]? = some d) : atI xs z = some d := by
  unfold atI
  rw [ixN_of hz (List.getElem?_eq_some_iff.mp h).1]
  exact h
theorem ixN_neg {n j : Nat} {z : Int} (hz : z + (n : Int) = (j : Int)) (h : j < n) (h0 : z < 0) : ixN n z = some j := by
  unfold ixN
  rw [if_neg (by omega), if_pos (by omega), hz]
  simp
theorem atI_neg {α : Type} {xs : List α} {j : Nat} {z : Int} {d : α} (hz : z + (xs.length : Int) = (j : Int)) (h : xs[j]? = some d) (h0 : z < 0) : atI xs z = some d := by
  unfold atI
  rw [ixN_neg hz (List.getElem?_eq_some_iff.mp h).1 h0]
  exact h
theorem set_get {ms : Ms} {k : Nat} {p : Addr × MO} (h : k < ms.length) : (ms.set k p)[k]? = some p := by rw [List.getElem?_set_self h]
theorem set_set {ms : Ms} {k : Nat} {p q : Addr × MO} : (ms.set k p).set k q = ms.set k q := by simp
theorem set_same {ms : Ms} {k : Nat} {p : Addr × MO} (h : ms[k]? = some p) : ms.set k p = ms := by
  apply List.ext_getElem?
  intro j
  rw [List.getElem?_set]
  by_cases e : k = j
  · subst e; rw [if_pos rfl, h]; rw [if_pos (List.getElem?_eq_some_iff.mp h).1]
  · rw [if_neg e]
end AL

set_option Elab.async false
set_option linter.all false
set_option maxRecDepth 100000
set_option maxHeartbeats 4000000
namespace AL
open PySem L2 PyProof.Rows StX
section
variable {Γ : Cg} {K : Frg} {F : Hp} {ms : Ms} {S : Sg} {Q : QE} {ta tb te tx tv : TE} {t u tt : TT} {r : R2} {ts tu tw : TS} {A : AEnds} {g : TG} {wi : TI} {vs : List Nat}
theorem am_extend {l : Addr} {xs zs : List D} (n : Nat) (hn : ms[n]? = some (l, .lst xs)) (hz : xs.length + zs.length ≤ 100000) (q : Q F (ms.set n (l, .lst (xs ++ zs))) .non) : AM K "list" rExtend (.ref l) [.lst zs] F ms Q := fun R u vs H Qc hu hv hh k => by
  cases hu
  cases hv with
  | cons h1 h2 =>
    cases h2
    cases h1 with
    | lst hb rb =>
      obtain ⟨_, ys, hl, r⟩ := hh.at (get_app hn)
      refine ⟨l, _, ys, _, rfl, rfl, hl, hh.ex _ _ hb, Evl.sz_of (by rw [← r.len, ← rb.len]; exact hz), k F (ms.set n (l, .lst (xs ++ zs))) .non _ _ Ex.refl ?_ .non q⟩
      rw [← set_app hn]
      exact hh.set (get_app hn) ⟨_, upd_same, r.append rb⟩
def rSIX : V → List V → Hp → VK → Prop := fun x xs H Q => ∃ a b i rest, x = .str a ∧ xs = [.str b] ∧ Builtin.Str.occurrences a b 0 a.length 1 = i :: rest ∧ Q (.int (i : Nat)) H
theorem mt_SIX {X : Cx} : MtR X "str.index" rSIX := mt_sindex
theorem am_sindex {a b : Str} {i : Nat} {rest : List Nat} (h : Builtin.Str.occurrences a b 0 a.length 1 = i :: rest) (q : Q F ms (.int (i : Nat))) : AM K "str" rSIX (.str a) [.str b] F ms Q := fun R u vs H Qc hu hv hh k => by
  cases hu
  cases hv with
  | cons h1 h2 =>
    cases h2
    cases h1
    exact ⟨a, b, i, rest, rfl, rfl, h, k F ms _ _ H Ex.refl hh (.int _) q⟩
theorem rep_ints {ns : List Int} {vs : List V} (h : RepL K F (ns.map D.int) vs) : vs = ns.map V.int := by
  induction ns generalizing vs with
  | nil => cases h; rfl
  | cons n ns ih =>
    cases h with
    | cons a b => cases a; rw [ih b]; rfl
theorem rep_strs {ns : List Str} {vs : List V} (h : RepL K F (ns.map D.str) vs) : vs = ns.map V.str := by
  induction ns generalizing vs with
  | nil => cases h; rfl
  | cons n ns ih =>
    cases h with
    | cons a b => cases a; rw [ih b]; rfl
theorem kSUM {X : Cx} (h : X.K = K) (hc : X.calm = true) : CallR X (.builtin "sum") (rSum K) := h ▸ cr_sum hc
theorem ac_sumL {ns : List Int} (q : Q F ms (.int ns.sum)) : AC K (rSum K) [.lst (ns.map D.int)] F ms Q := ac1 fun R v H Qc hv hh k => by
  cases hv with
  | lst h r =>
    have e := rep_ints r
    subst e
    exact ⟨_, ns, rfl, SqL.of (hh.ex _ _ h), k F ms _ _ H Ex.refl hh (.int _) q⟩
theorem ac_sumO {ns : List Int} {l : Addr} (n : Nat) (hn : ms[n]? = some (l, .lst (ns.map D.int))) (q : Q F ms (.int ns.sum)) : AC K (rSum K) [.ref l] F ms Q := ac1 fun R v H Qc hv hh k => by
  cases hv
  obtain ⟨_, ys, hl, r⟩ := hh.at (get_app hn)
  have e := rep_ints r
  subst e
  exact ⟨_, ns, rfl, SqL.of hl, k F ms _ _ H Ex.refl hh (.int _) q⟩
/-- [*e, ..] -/
theorem aa_star {tr : TA} {Q : Hp → Ms → List D → Prop} (h : AE Γ te F ms S fun F1 ms1 x => ∃ ds, (LstA F1 ms1 x ds ∨ x = .tup ds) ∧ AA Γ tr F1 ms1 S fun F2 ms2 ys => Q F2 ms2 (ds ++ ys)) : AA Γ (tStar Γ.K te tr) F ms S Q := fun R σ H Qc hs hh x k =>
  h R σ H _ hs hh x fun F1 ms1 d1 v1 H1 e1 h1 r1 ⟨ds, hd, q1⟩ => by
    obtain ⟨p, xs, rfl, hsq, rl⟩ : ∃ p xs, v1 = .ref p ∧ (SqT Γ.K H1 p xs ∨ SqL Γ.K H1 p xs) ∧ RepL Γ.K F1 ds xs := by
      rcases hd with hl | rfl
      · obtain ⟨a, vs0, rfl, ha, r⟩ := hl.to h1 r1
        exact ⟨a, vs0, rfl, .inr ha, r⟩
      · cases r1 with
        | tup hq r => exact ⟨_, _, rfl, .inl (ex_t h1.ex hq), r⟩
    exact ⟨p, xs, rfl, hsq, q1 R σ H1 _ (hs.mono e1) h1 (x.ex e1) fun F2 ms2 ys vs2 H2 e2 h2 r2 q2 => k F2 ms2 (ds ++ ys) (xs ++ vs2) H2 (e1.trans e2) h2 ((rl.mono e2).append r2) q2⟩
theorem pa_stark {X : Cx} {e : Expr} {es : List Expr} {tr : TA} {p : Pos} (h : X.K = K) (he : PE X e te) (hr : PA X es tr) (hs : starEach (.Starred e p :: es) X.env = (true, eval e X.env) :: starEach es X.env := by rfl) : PA X (.Starred e p :: es) (tStar K te tr) := h ▸ pa_star he hr hs
theorem ps_fldaugk {X : Cx} {o value : Expr} {f : Str} {tpos pos : Pos} {op : Operator} {rd : V → V → Hp → VK → Prop} (h : X.K = K) (ha : PE X o ta) (hv : PE X value tv) (hop : InOp X op rd) : PS X (.AugAssign (.Attribute o f tpos) op value pos) (sFldAug K ta tv rd f) := h ▸ ps_fldaug ha hv hop
/-- o.f += int -/
theorem as_fldaug {f : Str} (h : AE Γ ta F ms S fun F1 ms1 x => ∃ (n : Nat) (a C : Addr) (fs : List (Str × D)) (i : Int), x = .ref a ∧ ms1[n]? = some (a, .ins C fs) ∧ Cls Γ.K C ∧ NoAttr Γ.K C f ∧ fs.lookup f = some (.int i) ∧
    AE Γ tv F1 ms1 S fun F2 ms2 y => ∃ (j : Int) (n2 : Nat) (fs2 : List (Str × D)), y = .int j ∧ ms2[n2]? = some (a, .ins C fs2) ∧ fs2.length < 1000 ∧ A.nx F2 (ms2.set n2 (a, .ins C (putD f (.int (i + j)) fs2))) S) :
    AS Γ (sFldAug Γ.K ta tv (rI0 fun i j => .int (i + j)) f) F ms S A := fun R E σ H hs hh l =>
  h R σ H _ hs hh l.xe fun F1 ms1 x1 v1 H1 e1 h1 r1 ⟨n, a, C, fs, i, hx, hn, hc, hna, hl, q⟩ => by
    subst hx
    cases r1
    obtain ⟨_, dx, gs, i1, i2, i3⟩ := h1.at (get_app hn)
    obtain ⟨v, hv, rv⟩ := i3.look hl
    refine ⟨a, C, dx, gs, v, rfl, i1, hc, hna, hv, q R σ H1 _ (hs.mono e1) h1 (l.xe.ex e1) fun F2 ms2 y vy H2 e2 h2 r2 ⟨j, n2, fs2, hy, hn2, hlen, q2⟩ => ?_⟩
    subst hy
    cases r2
    cases rv
    obtain ⟨_, dx2, gs2, j1, j2, j3⟩ := h2.at (get_app hn2)
    refine ⟨i, j, rfl, rfl, dx2, gs2, j1, by rw [← j3.len]; exact hlen, l.nx F2 (ms2.set n2 (a, .ins C (putD f (.int (i + j)) fs2))) S σ _ (e1.trans e2) (hs.mono (e1.trans e2)) ?_ q2⟩
    rw [← set_app hn2]
    exact h2.set (get_app hn2) ⟨dx2, _, upd_same, j2, j3.put (.int _)⟩
/-- s in an owned list of texts -/
theorem ar_INo {l : Addr} {x : Str} {xs : List Str} (n : Nat) (hn : ms[n]? = some (l, .lst (xs.map D.str))) (q : Q F ms (.bl (decide (x ∈ xs)))) : AR K (rIN K) (.str x) (.ref l) F ms Q := ar_inr fun R u v H Qc hu hv hh k => by
  cases hu; cases hv
  obtain ⟨_, ys, hl, r⟩ := hh.at (get_app hn)
  have e := rep_strs r
  subst e
  have hin : inV (.str x) (xs.map V.str) = decide (x ∈ xs) := by
    unfold inV
    rw [List.any_map]
    by_cases h : x ∈ xs
    · rw [decide_eq_true h]
      exact List.any_eq_true.mpr ⟨x, h, by simp [eqV]⟩
    · rw [decide_eq_false h]
      rw [List.any_eq_false]
      intro y hy z
      simp [eqV] at z
      exact h (z ▸ hy)
  refine ⟨l, _, rfl, .inl (SqL.of hl), rfl, ?_, ?_⟩
  · rw [List.all_map]
    exact List.all_eq_true.mpr fun y _ => rfl
  · show Qc (.bl (inV (.str x) (xs.map V.str))) H
    rw [hin]
    exact k F ms _ _ H Ex.refl hh (.bl _) q
/-- an owned list + a list: a new owned one -/
theorem ar_ADDoo {l : Addr} {xs ys : List D} (n : Nat) (hn : ms[n]? = some (l, .lst xs)) (h : xs.length + ys.length ≤ 100000) (q : ∀ l2, Q F ((l2, .lst (xs ++ ys)) :: ms) (.ref l2)) : AR K (rADD K) (.ref l) (.lst ys) F ms Q := ar_inr (ar_inr (ar_inl fun R u v H Qc hu hv hh k => by
  cases hu
  obtain ⟨_, vs, hl, r⟩ := hh.at (get_app hn)
  cases hv with
  | lst hb rb =>
    refine ⟨_, _, _, _, rfl, rfl, hl, hh.ex _ _ hb, Evl.sz_of (by rw [← r.len, ← rb.len]; exact h), fun p hp => ?_⟩
    exact k F ((p, .lst (xs ++ ys)) :: ms) (.ref p) _ _ Ex.refl (hh.made (m := .lst (xs ++ ys)) hp ⟨_, upd_same, r.append rb⟩) (.ref p) (q p)))
def rangeC (lo c : Int) (n : Nat) : List D := (List.range n).map fun i => .int (lo + (i : Nat) * c)
theorem ai_rng3 {ta : TA} (h : AA Γ ta F ms S fun F1 ms1 ds => ∃ (i j c : Int) (n : Nat), ds = [.int i, .int j, .int c] ∧ RgC i j c n ∧ P F1 ms1 (rangeC i c n) fun _ => True) : AI Γ (iRng3 ta) F ms S P := fun R σ H Rc hs hh x k =>
  h R σ H _ hs hh x fun F1 ms1 ds vs H1 e1 h1 r1 ⟨i, j, c, n, hd, n1, p⟩ => by
    subst hd
    cases r1 with
    | cons a b =>
      cases b with
      | cons b d =>
        cases d with
        | cons d e =>
          cases e
          cases a
          cases b
          cases d
          refine ⟨i, j, c, n, rfl, n1, k F1 ms1 _ (fun _ => True) _ H1 e1 h1 ⟨fun _ i H F' ms' hi _ _ _ => ?_, fun _ H F' ms' _ _ _ => ?_, fun _ m H x H' F' ms' hi _ hh' _ y => ?_⟩ p⟩
          · unfold rangeC at hi; rw [List.length_map, List.length_range] at hi; exact hi
          · show n ≤ (rangeC i c n).length; unfold rangeC; rw [List.length_map, List.length_range]; exact Nat.le_refl _
          · unfold rangeC at hi; rw [List.length_map, List.length_range] at hi
            obtain ⟨y1, y2⟩ := y
            subst y1 y2
            refine ⟨F', .int (i + (m : Nat) * c), Ex.refl, hh', ?_, .int _⟩
            unfold rangeC
            rw [List.getElem?_map, List.getElem?_range hi]
            rfl
end
theorem rangeC_at {lo c : Int} {n i : Nat} {d : D} (h : (rangeC lo c n)[i]? = some d) : i < n ∧ d = .int (lo + (i : Nat) * c) := by
  have hi := (List.getElem?_eq_some_iff.mp h).1
  unfold rangeC at hi h
  rw [List.length_map, List.length_range] at hi
  rw [List.getElem?_map, List.getElem?_range hi] at h
  exact ⟨hi, (Option.some.inj h).symm⟩
theorem rangeC_len {lo c : Int} {n : Nat} : (rangeC lo c n).length = n := by unfold rangeC; rw [List.length_map, List.length_range]
theorem rgc2 {m : Nat} (h : m ≤ 10) : RgC 0 (2 * (m : Int)) 2 m := by
  have : ∀ m ∈ List.range 11, Builtin.Range.small 0 (2 * (m : Int)) 2 = true ∧ Builtin.Range.rangeSize 0 (2 * (m : Int)) 2 = m := by decide +kernel
  have q := this m (List.mem_range.mpr (by omega))
  exact ⟨by decide, by decide, q.1, q.2⟩
end AL

set_option Elab.async false
set_option linter.all false
set_option maxRecDepth 100000
set_option maxHeartbeats 4000000
namespace AL
open PySem L2 PyProof.Rows
/-! ### a, *b = a list -/
def gStar (K : Frg) (t : TGs) : TG := fun v σ H Q => ∃ l x xs, v = .ref l ∧ SqL K H l (x :: xs) ∧ xs.length ≤ 10000 ∧ ∀ p, H p = none → t [x, .ref p] σ (upd H p (.lst xs)) Q
theorem pg_starL {X : Cx} {K : Frg} {a b : Expr} {k : Nat} {sp pos : Pos} {t : TGs} (hK : X.K = K) (hc : X.calm = true) (h : PGs X [a, b] t)
    (h1 : (assignEach [a, .Starred b sp] X.env).map (·.2) = (assignEach [a, b] X.env).map (·.2) := by rfl) (h2 : (assignEach [a, .Starred b sp] X.env).length = 2 := by rfl) (h3 : (assignEach [a, .Starred b sp] X.env).findIdx? (·.1) = some 1 := by rfl) :
    PG X (.Tuple [a, .Starred b sp] k pos) (gStar K t) := by
  subst hK
  refine ⟨fun pins s σ H v u Q I r hw => ?_⟩
  obtain ⟨l, x, xs, e1, hq, hz, hw⟩ := hw
  subst e1
  cases r
  obtain ⟨its, rv, pl, hz2⟩ := I.list hq
  have hl : s.heap.IsList l its.toArray := pl.isList
  cases rv with
  | @cons _ u0 _ us r0 rr =>
  rw [assign_Tuple]
  refine wpAny_bind (wpAny_standAt ?_)
  unfold unpack
  rw [h2, h3, h1]
  refine wpAny_bind (wpAny_holding ?_)
  have hh := I.ok.hd hc
  have hlen : us.length = xs.length := rr.length.symm
  have hsz : (u0 :: us).toArray.size = us.length + 1 := by simp
  have hlt : l ≠ s.heap.objs.size := by obtain ⟨o, ho, _⟩ := hl; exact Nat.ne_of_lt (Heap.lt_size ho)
  unfold unpackItems
  refine wpAny_bind ?_
  unfold notIterableAtAll
  refine wpAny_bind (wpAny_specialOf hl.typeIs PySem.F.slot_list_iter.lookup ?_)
  refine wpAny_pure ?_
  simp only [Bool.false_eq_true, if_false]
  refine wpAny_bind (wpAny_holding (wpAny_pyIter_list hl ?_))
  refine wpAny_bind (wpAny_holding (PySem.W.kun_draw hlt 1 0 _ _ ⟨_, Heap.get?_push_size _ rfl, rfl, rfl⟩ (hl.push _) (by rw [hsz]; omega) fun h₁ hit₁ hs₁ => ?_))
  have hl₁ : h₁.IsList l (u0 :: us).toArray := (hl.push _).extBut hs₁.extBut hlt
  rw [Nat.zero_add] at hit₁
  have hit₁' := hit₁
  obtain ⟨oi, hoi, _⟩ := hit₁'
  have hl₁' := hl₁
  obtain ⟨ol, hol, _⟩ := hl₁'
  have ht : ((u0 :: us).toArray.toList.drop 0).take 1 = [u0] := rfl
  rw [ht]
  rw [if_neg (show ¬ ([u0].length < 1) from Nat.lt_irrefl 1)]
  refine wpAny_bind (wpAny_holding (PySem.W.kun_collect (s := { s with heap := h₁ }) (T := "list_iterator") (.inr (.inr (.inl rfl))) (PySem.Walks.list (A := X.A.in1) hh s.heap.objs.size l hlt (u0 :: us).toArray) (fun j u st => st.1.typeIs) (k := 1) (by rw [hsz]; omega) ⟨hit₁, hl₁⟩ (Heap.lt_size hoi) (Heap.lt_size hol) (fun h₂ tk hk => ?_) (by rw [hsz]; exact Evl.sz_of (by omega))))
  have hd : (u0 :: us).toArray.toList.drop 1 = us := rfl
  rw [hd]
  show wpAny _ _ (if us.length < 0 then _ else _) _ _ _
  rw [if_neg (Nat.not_lt_zero _)]
  show wpAny _ _ (newList (us.take us.length) >>= fun d => pure ([u0] ++ [d] ++ us.drop us.length)) _ _ _
  rw [List.take_length, List.drop_length]
  have he : ∀ b o, s.heap.get? b = some o → h₂.get? b = some o := fun b o e => hk b o (Nat.ne_of_lt (Heap.lt_size e)) (hs₁.extBut b o (Nat.ne_of_lt (Heap.lt_size e)) (Heap.get?_push_of_some _ e))
  have I2 : Inv X pins σ H { s with heap := h₂, toks := tk } := I.kept (t' := tk) he
  refine wpAny_bind (wpAny_newList ?_)
  refine wpAny_pure ?_
  have hf : H h₂.objs.size = none := I2.hok.fresh (Nat.le_refl _)
  have I3 : Inv X pins σ (upd H h₂.objs.size (.lst xs)) { s with heap := h₂.push { cls := .type "list", data := .seq us.toArray }, toks := tk } := I2.laid (t' := tk) (fun b u e => Heap.get?_push_of_some _ e) (Nat.le_refl _) ⟨Evl.sz_of (by omega), us, 0, rr, Heap.get?_push_size _ rfl⟩
  exact h.run pins _ σ _ [x, .ref h₂.objs.size] [u0, .ref h₂.objs.size] Q I3 (.cons r0 (.cons rfl .nil)) (hw _ hf)
section
variable {Γ : Cg} {K : Frg} {F : Hp} {ms : Ms} {S : Sg} {Q : QE} {ta tb te tx tv : TE} {t u tt : TT} {r : R2} {ts tu tw : TS} {A : AEnds} {g : TG} {gs : TGs} {wi : TI} {vs : List Nat}
theorem ag_star {d : D} {ds : List D} {N : QS} (hz : ds.length ≤ 10000) (h : ∀ F', Ex F F' → AGs Γ gs [d, .lst ds] F' ms S N) : AG Γ (gStar Γ.K gs) (.lst (d :: ds)) F ms S N := fun R v σ H Nc hv hs hh x k => by
  cases hv with
  | lst hl rl =>
    cases rl with
    | @cons _ v0 _ vs r0 rr =>
      refine ⟨_, v0, vs, rfl, SqL.of (hh.ex _ _ hl), by rw [← rr.len]; exact hz, fun p hp => ?_⟩
      obtain ⟨e, hh'⟩ := hh.laid (.lst vs) hp
      exact h _ e R [v0, .ref p] σ _ Nc (.cons (r0.mono e) (.cons (.lst upd_same (rr.mono e)) .nil)) (hs.mono e) hh' (x.ex e) fun F' ms' S' σ' H' e2 => k F' ms' S' σ' H' (e.trans e2)
end
end AL

set_option Elab.async false
set_option linter.all false
set_option maxRecDepth 100000
set_option maxHeartbeats 4000000
namespace AL
open PySem L2 PyProof.Rows
open PySem.Builtin.Str PySem.StrLaws RZ
/-! ### split at one sign, at most twice -/
theorem subAt_one (s : Str) (c i : Nat) : subAt s (sg c) i = decide (s.cps.toList[i]? = some c) := by
  unfold subAt
  have e : (s.cps.extract i (i + (sg c).length)).toList = (s.cps.toList.drop i).take 1 := by
    rw [Array.toList_extract, List.extract_eq_drop_take]
    show ((s.cps.toList.drop i).take (i + 1 - i)) = _
    rw [show i + 1 - i = 1 by omega]
  have b : (s.cps.extract i (i + (sg c).length) == (sg c).cps) = decide ((s.cps.toList.drop i).take 1 = [c]) := by
    rw [← e]
    by_cases h : s.cps.extract i (i + (sg c).length) = (sg c).cps
    · rw [h]
      simp [sg]
    · have h2 : ¬ (s.cps.extract i (i + (sg c).length)).toList = [c] := fun z => h (Array.toList_inj.mp z)
      rw [decide_eq_false h2]
      exact beq_eq_false_iff_ne.mpr h
  rw [b, ← List.head?_drop]
  cases s.cps.toList.drop i with
  | nil => simp
  | cons a l => simp
def ostep (s sub : Str) (hi limit : Nat) (st : Array Nat × Nat) (i : Nat) : Array Nat × Nat :=
  if ((st.fst.size < limit ∧ st.snd ≤ i) ∧ i + sub.length ≤ hi) ∧ subAt s sub i = true then (st.fst.push i, i + sub.length) else (st.fst, st.snd)
theorem occ_fold (s sub : Str) (lo hi limit : Nat) : occurrences s sub lo hi limit = ((List.range' lo (hi + 1 - lo)).foldl (ostep s sub hi limit) (#[], lo)).fst.toList := by
  rw [occ_eq]
  have e : occBody s sub hi limit = fun i st => pure (.yield (ostep s sub hi limit st i)) := by
    funext i st
    unfold occBody ostep
    split <;> rfl
  rw [e, List.forIn_pure_yield_eq_foldl]
  rfl
theorem ostep_skip {s sub : Str} {hi limit : Nat} {st : Array Nat × Nat} : ∀ {l : List Nat}, (∀ i ∈ l, subAt s sub i = false ∨ limit ≤ st.fst.size) → l.foldl (ostep s sub hi limit) st = st
  | [], _ => rfl
  | i :: l, h => by
    have e : ostep s sub hi limit st i = st := by
      unfold ostep
      rw [if_neg]
      rintro ⟨⟨⟨a, _⟩, _⟩, b⟩
      rcases h i (List.mem_cons_self ..) with z | z
      · rw [z] at b; cases b
      · omega
    rw [List.foldl_cons, e]
    exact ostep_skip fun j hj => h j (List.mem_cons_of_mem _ hj)
theorem ostep_hit {s sub : Str} {hi limit : Nat} {st : Array Nat × Nat} {i : Nat} (h1 : st.fst.size < limit) (h2 : st.snd ≤ i) (h3 : i + sub.length ≤ hi) (h4 : subAt s sub i = true) : ostep s sub hi limit st i = (st.fst.push i, i + sub.length) := by
  unfold ostep
  rw [if_pos ⟨⟨⟨h1, h2⟩, h3⟩, h4⟩]
theorem range_cut (a m n : Nat) : List.range' a (m + 1 + n) = List.range' a m ++ (a + m) :: List.range' (a + m + 1) n := by
  have e1 := List.range'_append_1 (s := a) (m := m) (n := 1 + n)
  rw [show m + 1 + n = m + (1 + n) by omega, ← e1, show 1 + n = n + 1 by omega, List.range'_succ]
theorem splitMax2 {x : Str} {P Q R : List Nat} {c : Nat} (hc : c < 256) (hx : x.cps.toList = P ++ c :: (Q ++ c :: R)) (hP : c ∉ P) (hQ : c ∉ Q) : Txt.splitMax x (sg c) 2 = [⟨P.toArray⟩, ⟨Q.toArray⟩, ⟨R.toArray⟩] := by
  have hlen : x.length = P.length + 1 + (Q.length + 1 + R.length) := by
    show x.cps.size = _
    rw [← Array.length_toList, hx]
    simp
    omega
  have hocc : occurrences x (sg c) 0 x.length 2 = [P.length, P.length + 1 + Q.length] := by
    have s1 : (List.range' 0 P.length).foldl (ostep x (sg c) x.length 2) (#[], 0) = (#[], 0) := ostep_skip fun i hi => by
      left
      rw [List.mem_range'_1] at hi
      rw [subAt_one]
      refine decide_eq_false fun z => ?_
      rw [hx, List.getElem?_append_left (by omega)] at z
      exact hP (List.mem_of_getElem? z)
    have s2 : ostep x (sg c) x.length 2 (#[], 0) (0 + P.length) = (#[P.length], P.length + 1) := by
      rw [ostep_hit (by simp) (Nat.zero_le _) (by show _ + 1 ≤ _; omega) (by
        rw [subAt_one]
        refine decide_eq_true ?_
        rw [hx, Nat.zero_add, List.getElem?_append_right (Nat.le_refl _), Nat.sub_self]
        rfl)]
      simp [sg, Str.length]
    have s3 : (List.range' (0 + P.length + 1) Q.length).foldl (ostep x (sg c) x.length 2) (#[P.length], P.length + 1) = (#[P.length], P.length + 1) := ostep_skip fun i hi => by
      left
      rw [List.mem_range'_1] at hi
      rw [subAt_one]
      refine decide_eq_false fun z => ?_
      rw [hx, List.getElem?_append_right (by omega), show i - P.length = (i - P.length - 1) + 1 by omega, List.getElem?_cons_succ, List.getElem?_append_left (by omega)] at z
      exact hQ (List.mem_of_getElem? z)
    have s4 : ostep x (sg c) x.length 2 (#[P.length], P.length + 1) (0 + P.length + 1 + Q.length) = (#[P.length, P.length + 1 + Q.length], P.length + 1 + Q.length + 1) := by
      rw [ostep_hit (by simp) (by show P.length + 1 ≤ _; omega) (by show _ + 1 ≤ _; omega) (by
        rw [subAt_one]
        refine decide_eq_true ?_
        rw [hx, List.getElem?_append_right (by omega), show 0 + P.length + 1 + Q.length - P.length = Q.length + 1 by omega, List.getElem?_cons_succ, List.getElem?_append_right (Nat.le_refl _), Nat.sub_self]
        rfl)]
      simp [sg, Str.length]
    have s5 : (List.range' (0 + P.length + 1 + Q.length + 1) (R.length + 1)).foldl (ostep x (sg c) x.length 2) (#[P.length, P.length + 1 + Q.length], P.length + 1 + Q.length + 1) = (#[P.length, P.length + 1 + Q.length], P.length + 1 + Q.length + 1) := ostep_skip fun i hi => .inr (by simp)
    rw [occ_fold, Nat.sub_zero, show x.length + 1 = P.length + 1 + (Q.length + 1 + (R.length + 1)) by omega, range_cut, List.foldl_append, s1, List.foldl_cons, s2, range_cut, List.foldl_append, s3, List.foldl_cons, s4, s5]
  have k1 : Builtin.Str.strKind (sg c) = 1 := by
    unfold Builtin.Str.strKind sg
    rw [if_pos]
    simp [hc]
  have k2 : ¬ Builtin.Str.strKind x < Builtin.Str.strKind (sg c) := by
    rw [k1]
    unfold Builtin.Str.strKind
    split
    · omega
    · split <;> omega
  have hl : limitOf x 2 = 2 := by
    first
    | rfl
    | (unfold limitOf; simp)
  unfold Txt.splitMax
  rw [hl, hocc, if_neg, if_neg]
  · unfold partsBetween
    show [strSub x 0 P.length, strSub x (P.length + 1) (P.length + 1 + Q.length), strSub x (P.length + 1 + Q.length + 1) x.length] = _
    have ex : ∀ i j, strSub x i j = ⟨((x.cps.toList.take j).drop i).toArray⟩ := fun i j => by
      unfold strSub
      congr 1
      apply Array.toList_inj.mp
      rw [Array.toList_extract, List.extract_eq_drop_take, List.drop_take]
    rw [ex, ex, ex, hx]
    refine List.cons_eq_cons.mpr ⟨?_, List.cons_eq_cons.mpr ⟨?_, List.cons_eq_cons.mpr ⟨?_, rfl⟩⟩⟩
    · simp
    · rw [List.drop_take]
      simp
    · rw [List.drop_take]
      have e1 : List.drop (P.length + 1 + Q.length + 1) (P ++ c :: (Q ++ c :: R)) = R := by
        rw [show P.length + 1 + Q.length + 1 = P.length + (1 + (Q.length + 1)) by omega, ← List.drop_drop, List.drop_left, ← List.drop_drop, List.drop_succ_cons, List.drop_zero, ← List.drop_drop, List.drop_left]
        rfl
      rw [e1, List.take_of_length_le (by omega)]
  · exact fun z => Bool.noConfusion z
  · rw [Bool.not_eq_true, Bool.or_eq_false_iff]
    refine ⟨decide_eq_false ?_, decide_eq_false k2⟩
    show ¬ x.length < 1
    omega
section
variable {Γ : Cg} {K : Frg} {F : Hp} {ms : Ms} {S : Sg} {Q : QE} {ta tb te tx tv : TE} {A : AEnds} {P : Hp → Ms → List D → (Ms → Prop) → Prop}
def rSPL : V → List V → Hp → VK → Prop := fun x xs H Q => ∃ a b, x = .str a ∧ xs = [.str b] ∧ (b.length == 0) = false ∧ a.length + 2 ≤ sizeLine ∧ rNewStrs (Txt.split a b) H Q
def rSPM : V → List V → Hp → VK → Prop := fun x xs H Q => ∃ (a b : Str) (k : Int), x = .str a ∧ xs = [.str b, .int k] ∧ (b.length == 0) = false ∧ -(2 ^ 63) ≤ k ∧ k < 2 ^ 63 ∧ a.length + 2 ≤ sizeLine ∧ rNewStrs (Txt.splitMax a b k) H Q
theorem mt_SPL {X : Cx} : MtR X "str.split" rSPL := mt_split
theorem mt_SPM {X : Cx} : MtR X "str.split" rSPM := mt_splitMax
theorem rep_strl (ys : List Str) : RepL K F (ys.map D.str) (ys.map V.str) := by
  induction ys with
  | nil => exact .nil
  | cons y ys ih => exact .cons (.str y) ih
theorem am_split {a b : Str} (hb : (b.length == 0) = false) (hz : a.length ≤ 99998) (q : ∀ F', Ex F F' → Q F' ms (.lst ((Txt.split a b).map D.str))) : AM K "str" rSPL (.str a) [.str b] F ms Q := fun R u vs H Qc hu hv hh k => by
  cases hu
  cases hv with
  | cons h1 h2 =>
    cases h2
    cases h1
    refine ⟨a, b, rfl, rfl, hb, Evl.sz_of (by omega), fun p hp => ?_⟩
    obtain ⟨e, hh'⟩ := hh.laid (.lst ((Txt.split a b).map V.str)) hp
    exact k _ ms _ _ _ e hh' (.lst upd_same (rep_strl _)) (q _ e)
theorem am_splitMax {a b : Str} {n : Int} (hb : (b.length == 0) = false) (h1 : -(2 ^ 63) ≤ n) (h2 : n < 2 ^ 63) (hz : a.length ≤ 99998) (q : ∀ F', Ex F F' → Q F' ms (.lst ((Txt.splitMax a b n).map D.str))) : AM K "str" rSPM (.str a) [.str b, .int n] F ms Q := fun R u vs H Qc hu hv hh k => by
  cases hu
  cases hv with
  | cons g1 g2 =>
    cases g2 with
    | cons g2 g3 =>
      cases g3
      cases g1
      cases g2
      refine ⟨a, b, n, rfl, rfl, hb, h1, h2, Evl.sz_of (by omega), fun p hp => ?_⟩
      obtain ⟨e, hh'⟩ := hh.laid (.lst ((Txt.splitMax a b n).map V.str)) hp
      exact k _ ms _ _ _ e hh' (.lst upd_same (rep_strl _)) (q _ e)
theorem kANY {X : Cx} (h : X.K = K) (hc : X.calm = true) : CallR X (.builtin "any") (rAny K) := h ▸ cr_any hc
theorem ac_any {bs : List Bool} {d : D} (hd : d = .lst (bs.map D.bl)) (q : Q F ms (.bl (bs.any id))) : AC K (rAny K) [d] F ms Q := ac1 fun R v H Qc hv hh k => by
  subst hd
  obtain ⟨a, vs, rfl, hl, rl⟩ : ∃ a vs, v = .ref a ∧ F a = some (.lst vs) ∧ RepL K F (bs.map D.bl) vs := by
    cases hv with
    | lst h r => exact ⟨_, _, rfl, h, r⟩
  have hvs : vs = bs.map V.bl := by
    clear q hl hv hh k
    induction bs generalizing vs with
    | nil => cases rl; rfl
    | cons b bs ih =>
      cases rl with
      | cons h r => cases h; rw [ih _ r]; rfl
  subst hvs
  exact ⟨a, bs, rfl, SqL.of (hh.ex _ _ hl), k F ms _ _ H Ex.refl hh (.bl _) q⟩
/-- zip of two tuples of one length -/
def zipD (xs ys : List D) : List D := (xs.zip ys).map fun p => .tup [p.1, p.2]
theorem zipD_len {xs ys : List D} (h : xs.length = ys.length) : (zipD xs ys).length = xs.length := by unfold zipD; rw [List.length_map, List.length_zip, h, Nat.min_self]
theorem zipD_get {xs ys : List D} {i : Nat} {d e : D} (h1 : xs[i]? = some d) (h2 : ys[i]? = some e) : (zipD xs ys)[i]? = some (.tup [d, e]) := by
  unfold zipD
  have e2 : (xs.zip ys)[i]? = some (d, e) := List.getElem?_zip_eq_some.mpr ⟨h1, h2⟩
  rw [List.getElem?_map, e2]
  rfl
theorem zipD_inv {xs ys : List D} {i : Nat} {e : D} (h : (zipD xs ys)[i]? = some e) : ∃ a b, xs[i]? = some a ∧ ys[i]? = some b ∧ e = .tup [a, b] := by
  unfold zipD at h
  rw [List.getElem?_map] at h
  cases q : (xs.zip ys)[i]? with
  | none => rw [q] at h; cases h
  | some p =>
    rw [q] at h
    obtain ⟨h1, h2⟩ := List.getElem?_zip_eq_some.mp q
    exact ⟨_, _, h1, h2, (Option.some.inj h).symm⟩
theorem ai_zipT {ta : TA} (h : AA Γ ta F ms S fun F1 ms1 ds => ∃ xs ys : List D, ds = [.tup xs, .tup ys] ∧ xs.length = ys.length ∧ P F1 ms1 (zipD xs ys) fun _ => True) : AI Γ (iZipA Γ.K ta) F ms S P := fun R σ H Rc hs hh x k =>
  h R σ H _ hs hh x fun F1 ms1 ds vs H1 e1 h1 r1 ⟨xs, ys, hd, hl, p⟩ => by
    subst hd
    cases r1 with
    | cons a b =>
      cases b with
      | cons b c =>
        cases c
        cases a with
        | @tup a us _ ha ra =>
          cases b with
          | @tup b ws _ hb rb =>
            refine ⟨a, b, us, ws, rfl, .inr ⟨ex_t h1.ex ha, ex_t h1.ex hb, k F1 ms1 _ (fun _ => True) _ H1 e1 h1 ⟨fun _ i H' F' ms' hi e' hh' _ => ?_, fun _ H' F' ms' e' hh' _ => ?_, fun _ i H' x' H2 F' ms' hi e' hh' _ y => ?_⟩ p⟩⟩
            · rw [zipD_len hl] at hi
              exact ⟨us, ws, us[i]'(by rw [← ra.len]; exact hi), ws[i]'(by rw [← rb.len, ← hl]; exact hi), ex_t hh'.ex (ex_t e' ha), ex_t hh'.ex (ex_t e' hb), by simp [show i < us.length by rw [← ra.len]; exact hi], by simp [show i < ws.length by rw [← rb.len, ← hl]; exact hi]⟩
            · exact ⟨us, ws, ex_t hh'.ex (ex_t e' ha), ex_t hh'.ex (ex_t e' hb), .inl (by rw [zipD_len hl, ra.len]; exact Nat.le_refl _)⟩
            · obtain ⟨T, u, w, y1, y2, y3, y4, y5⟩ := y
              subst y1 y3
              obtain ⟨d, hd, rd⟩ := ra.get (y4 us (ex_t hh'.ex (ex_t e' ha)))
              obtain ⟨e, he, re⟩ := rb.get (y5 ws (ex_t hh'.ex (ex_t e' hb)))
              obtain ⟨F'', e2, h2, r2⟩ := pair_rep hh' y2 (rd.mono e') (re.mono e')
              exact ⟨F'', _, e2, h2, zipD_get hd he, r2⟩
end
theorem pi_zipk {X : Cx} {K : Frg} {e e2 : Expr} {ta : TA} {p pos tpos : Pos} {elts : List Expr} {kk : Nat} (h : X.K = K) (hg : Gl X "zip") (hm : X.mg "zip" = none) (ha : PA X [e, e2] ta)
    (hs : starEach [e, e2] X.env = (false, eval e X.env) :: starEach [e2] X.env := by rfl) (hpl : (backTo pos (starEach [e2] X.env)).any (·.1) = false := by rfl) :
    PI X (.Tuple elts kk tpos) (.Call (.Name "zip" p) [e, e2] [] pos) (iZipA K ta) := h ▸ pi_zipA hg hm ha hs hpl
theorem pg_tupk {X : Cx} {K : Frg} {es : List Expr} {k : Nat} {t : TGs} {n : Nat} {pos : Pos} (hK : X.K = K) (hc : X.calm = true) (h : PGs X es t)
    (hn : (assignEach es X.env).length = n := by rfl) (hst : (assignEach es X.env).findIdx? (·.1) = none := by rfl) : PG X (.Tuple es k pos) (gTup K n t) := hK ▸ pg_tup hc h hn hst
end AL

set_option Elab.async false
set_option linter.all false
set_option maxRecDepth 100000
set_option maxHeartbeats 4000000
namespace AL
open PySem L2 PyProof.Rows
section
variable {Γ : Cg} {K : Frg} {F : Hp} {ms : Ms} {S : Sg} {Q : QE}
theorem ac_tupleO {l : Addr} {ds : List D} (n : Nat) (hn : ms[n]? = some (l, .lst ds)) (q : ∀ F', Ex F F' → Q F' ms (.tup ds)) : AC K (rTUPLE K) [.ref l] F ms Q := ac1 fun R v H Qc hv hh k => by
  cases hv
  obtain ⟨_, ys, hl, r⟩ := hh.at (get_app hn)
  refine ⟨l, ys, rfl, .inl ⟨SqL.of hl, fun p hp => ?_⟩⟩
  obtain ⟨e, hh'⟩ := hh.laid (.tup ys) hp
  exact k _ ms _ _ _ e hh' (.tup (SqT.of upd_same) (r.mono e)) (q _ e)
end
end AL

set_option Elab.async false
set_option linter.all false
set_option maxRecDepth 100000
set_option maxHeartbeats 4000000
/-! Dicts walked over (under a lock), sorted, in, min and max, one new dict by a comprehension. -/
namespace AL
open PySem L2 PyProof.Rows
def kD : Key → D
  | .inl i => .int i
  | .inr s => .str s
theorem rep_kD {K : Frg} {F : Hp} (k : Key) : Rep K F (kD k) (kV k) := by
  cases k with
  | inl i => exact .int i
  | inr s => exact .str s
theorem RepK.getK {K : Frg} {F : Hp} : ∀ {ds : List (Key × D)} {vs : List (Key × V)} {i : Nat} {k : Key} {v : V}, RepK K F ds vs → vs[i]? = some (k, v) → ∃ d, ds[i]? = some (k, d) ∧ Rep K F d v
  | _, _, i, _, _, .nil, e => by simp at e
  | _, _, 0, _, _, .cons h r, e => by
    cases e
    exact ⟨_, rfl, h⟩
  | _, _, i + 1, _, _, .cons h r, e => RepK.getK (i := i) r (by simpa using e)
theorem RepK.lenK {K : Frg} {F : Hp} : ∀ {ds : List (Key × D)} {vs : List (Key × V)}, RepK K F ds vs → ds.length = vs.length
  | _, _, .nil => rfl
  | _, _, .cons _ r => by rw [List.length_cons, List.length_cons, RepK.lenK r]
section
variable {Γ : Cg} {K : Frg} {F : Hp} {ms : Ms} {S : Sg} {Q : QE} {ta tb te tx tv td : TE} {t u tt : TT} {r : R2} {ts tu tw : TS} {A : AEnds} {g : TG} {wi : TI} {vs : List Nat} {P : Hp → Ms → List D → (Ms → Prop) → Prop}
/-- the owned dict at l is locked: what stands at l while it is -/
def Lck (ms : Ms) (l : Addr) (vs : List (Key × V)) : Prop := ∃ (n : Nat) (od : Obj), ms[n]? = some (l, .raw (.frz od (.dK vs)))
/-- the lock goes -/
def unl (K : Frg) (l : Addr) (kvs : List (Key × D)) (vs : List (Key × V)) (od : Obj) (ms : Ms) (P : Ms → Prop) : Prop := ∃ m : Nat, ms[m]? = some (l, .raw (.frz od (.dK vs))) ∧ P (ms.set m (l, .dic kvs))
theorem as_lock {l : Addr} {kvs : List (Key × D)} (n : Nat) (hn : ms[n]? = some (l, .dic kvs)) (h : ∀ od vs, RepK Γ.K F kvs vs → AS Γ ts F (ms.set n (l, .raw (.frz od (.dK vs)))) S { nx := fun F' ms' S' => unl Γ.K l kvs vs od ms' fun m => A.nx F' m S', rt := fun F' ms' d => unl Γ.K l kvs vs od ms' fun m => A.rt F' m d, bk := fun F' ms' S' => unl Γ.K l kvs vs od ms' fun m => A.bk F' m S', ct := fun F' ms' S' => unl Γ.K l kvs vs od ms' fun m => A.ct F' m S' }) :
    AS Γ (tLock ts) F ms S A := fun R E σ H hs hh le => by
  obtain ⟨_, vs, hd, rk⟩ := hh.at (get_app hn)
  refine ⟨l, .dK vs, hd, trivial, fun od => h od vs rk R _ σ _ hs ?_ ⟨le.xe, ?_, ?_, ?_, ?_⟩⟩
  · rw [← set_app hn]
    exact hh.set (get_app hn) upd_same
  · rintro F' ms' S' σ' H' e a b ⟨m, hm, q⟩
    refine ⟨(b.at (get_app hm)).2, le.nx F' _ S' σ' _ e a ?_ q⟩
    rw [← set_app hm]
    exact b.set (get_app hm) ⟨vs, upd_same, rk.mono e⟩
  · rintro F' ms' d v H' e b r ⟨m, hm, q⟩
    refine ⟨(b.at (get_app hm)).2, le.rt F' _ d v _ e ?_ r q⟩
    rw [← set_app hm]
    exact b.set (get_app hm) ⟨vs, upd_same, rk.mono e⟩
  · rintro F' ms' S' σ' H' e a b ⟨m, hm, q⟩
    refine ⟨(b.at (get_app hm)).2, le.bk F' _ S' σ' _ e a ?_ q⟩
    rw [← set_app hm]
    exact b.set (get_app hm) ⟨vs, upd_same, rk.mono e⟩
  · rintro F' ms' S' σ' H' e a b ⟨m, hm, q⟩
    refine ⟨(b.at (get_app hm)).2, le.ct F' _ S' σ' _ e a ?_ q⟩
    rw [← set_app hm]
    exact b.set (get_app hm) ⟨vs, upd_same, rk.mono e⟩
theorem ae_lock {l : Addr} {kvs : List (Key × D)} (n : Nat) (hn : ms[n]? = some (l, .dic kvs)) (h : ∀ od vs, RepK Γ.K F kvs vs → AE Γ te F (ms.set n (l, .raw (.frz od (.dK vs)))) S fun F' ms' d => unl Γ.K l kvs vs od ms' fun m => Q F' m d) :
    AE Γ (tLockE te) F ms S Q := fun R σ H Qc hs hh x k => by
  obtain ⟨_, vs, hd, rk⟩ := hh.at (get_app hn)
  refine ⟨l, .dK vs, hd, trivial, fun od => h od vs rk R σ _ _ hs ?_ x ?_⟩
  · rw [← set_app hn]
    exact hh.set (get_app hn) upd_same
  · rintro F' ms' d v H' e b r ⟨m, hm, q⟩
    refine ⟨(b.at (get_app hm)).2, k F' _ d v _ e ?_ r q⟩
    rw [← set_app hm]
    exact b.set (get_app hm) ⟨vs, upd_same, rk.mono e⟩
def itemsD (kvs : List (Key × D)) : List D := kvs.map fun p => .tup [kD p.1, p.2]
def keysD (kvs : List (Key × D)) : List D := kvs.map fun p => kD p.1
/-- for .. in o.items(), o an owned dict under the lock -/
theorem ai_items (h : AE Γ td F ms S fun F1 ms1 x => ∃ (l : Addr) (od : Obj) (vs : List (Key × V)) (kvs : List (Key × D)) (n : Nat), x = .ref l ∧ ms1[n]? = some (l, .raw (.frz od (.dK vs))) ∧ RepK Γ.K F1 kvs vs ∧ P F1 ms1 (itemsD kvs) fun ms' => ∃ n : Nat, ms'[n]? = some (l, .raw (.frz od (.dK vs)))) :
    AI Γ (iItems td) F ms S P := fun R σ H Rc hs hh x k =>
  h R σ H _ hs hh x fun F1 ms1 d v H1 e1 h1 r1 ⟨l, od, vs, kvs, n, hx, hn, rk, p⟩ => by
    subst hx
    cases r1
    refine ⟨l, od, vs, rfl, (h1.at (get_app hn)).2, k F1 ms1 _ _ _ H1 e1 h1 ⟨fun _ i H' F' ms' hi e' hh' ⟨n', hn'⟩ => ?_, fun _ H' F' ms' e' hh' ⟨n', hn'⟩ => ?_, fun _ i H' x' H2 F' ms' hi e' hh' ⟨n', hn'⟩ y => ?_⟩ p⟩
    · refine ⟨(hh'.at (get_app hn')).2, ?_⟩
      unfold itemsD at hi
      rw [List.length_map, rk.lenK] at hi
      exact hi
    · refine ⟨(hh'.at (get_app hn')).2, ?_⟩
      unfold itemsD
      rw [List.length_map, rk.lenK]
      exact Nat.le_refl _
    · obtain ⟨T, key, v, y1, y2, y3, y4⟩ := y
      subst y2 y4
      obtain ⟨d, hd, rd⟩ := rk.getK y1
      obtain ⟨F'', e2, h2, r2⟩ := pair_rep hh' y3 (rep_kD key) (rd.mono e')
      refine ⟨F'', _, e2, h2, ?_, r2⟩
      unfold itemsD
      rw [List.getElem?_map, hd]
      rfl
theorem ai_keys (h : AE Γ td F ms S fun F1 ms1 x => ∃ (l : Addr) (od : Obj) (vs : List (Key × V)) (kvs : List (Key × D)) (n : Nat), x = .ref l ∧ ms1[n]? = some (l, .raw (.frz od (.dK vs))) ∧ RepK Γ.K F1 kvs vs ∧ P F1 ms1 (keysD kvs) fun ms' => ∃ n : Nat, ms'[n]? = some (l, .raw (.frz od (.dK vs)))) :
    AI Γ (iKeys td) F ms S P := fun R σ H Rc hs hh x k =>
  h R σ H _ hs hh x fun F1 ms1 d v H1 e1 h1 r1 ⟨l, od, vs, kvs, n, hx, hn, rk, p⟩ => by
    subst hx
    cases r1
    refine ⟨l, od, rfl, .inl ⟨vs, (h1.at (get_app hn)).2, k F1 ms1 _ _ _ H1 e1 h1 ⟨fun _ i H' F' ms' hi e' hh' ⟨n', hn'⟩ => ?_, fun _ H' F' ms' e' hh' ⟨n', hn'⟩ => ?_, fun _ i H' x' H2 F' ms' hi e' hh' ⟨n', hn'⟩ y => ?_⟩ p⟩⟩
    · refine ⟨(hh'.at (get_app hn')).2, ?_⟩
      unfold keysD at hi
      rw [List.length_map, rk.lenK] at hi
      exact hi
    · refine ⟨(hh'.at (get_app hn')).2, ?_⟩
      unfold keysD
      rw [List.length_map, rk.lenK]
      exact Nat.le_refl _
    · obtain ⟨y0, key, v, y1, y2⟩ := y
      subst y0 y2
      obtain ⟨d, hd, rd⟩ := rk.getK y1
      refine ⟨F', _, Ex.refl, hh', ?_, rep_kD key⟩
      unfold keysD
      rw [List.getElem?_map, hd]
      rfl
/-! ### sorted -/
theorem rep_intl {F : Hp} (ys : List Int) : RepL K F (ys.map D.int) (ys.map V.int) := by
  induction ys with
  | nil => exact .nil
  | cons y ys ih => exact .cons (.int y) ih
def rSRT (K : Frg) : List V → Hp → VK → Prop := fun xs H Q => rSorted K xs H Q ∨ rSortedS K xs H Q
theorem kSRT {X : Cx} (h : X.K = K) : CallR X (.builtin "sorted") (rSRT K) := h ▸ cor cr_sorted cr_sortedS
theorem lst_of {d : D} {ds : List D} {v : V} {H : Hp} {R : Ms} (hl : LstA F ms d ds) (hh : Hold K F (ms ++ R) H) (r : Rep K F d v) : ∃ a us, v = .ref a ∧ SqL K H a us ∧ RepL K F ds us := by
  obtain ⟨a, us, rfl, ha, rr⟩ := hl.to hh r
  exact ⟨a, us, rfl, ha, rr⟩
theorem ac_sortI {d : D} {ns : List Int} (hl : LstA F ms d (ns.map D.int)) (hz : ns.length < 64) (q : ∀ F' (ns' : List Int), Ex F F' → ns'.Perm ns → ns'.Pairwise (· ≤ ·) → Q F' ms (.lst (ns'.map D.int))) : AC K (rSRT K) [d] F ms Q := AC.or1 (ac1 fun R v H Qc hv hh k => by
  obtain ⟨a, us, rfl, ha, rr⟩ := lst_of hl hh hv
  have e := rep_ints rr
  subst e
  refine ⟨a, ns, rfl, ha, hz, fun ns' p hp hs hn => ?_⟩
  obtain ⟨e, hh'⟩ := hh.laid (.lst (ns'.map V.int)) hn
  exact k _ ms _ _ _ e hh' (.lst upd_same (rep_intl _)) (q _ ns' e hp hs))
theorem ac_sortS {d : D} {xs : List Str} (hl : LstA F ms d (xs.map D.str)) (hz : xs.length < 64) (q : ∀ F' (ys : List Str), Ex F F' → ys.Perm xs → sortedS ys = true → Q F' ms (.lst (ys.map D.str))) : AC K (rSRT K) [d] F ms Q := AC.or2 (ac1 fun R v H Qc hv hh k => by
  obtain ⟨a, us, rfl, ha, rr⟩ := lst_of hl hh hv
  have e := rep_strs rr
  subst e
  refine ⟨a, xs, rfl, ha, hz, fun ys p hp hs hn => ?_⟩
  obtain ⟨e, hh'⟩ := hh.laid (.lst (ys.map V.str)) hn
  exact k _ ms _ _ _ e hh' (.lst upd_same (rep_strl _)) (q _ ys e hp hs))
end
end AL

set_option Elab.async false
set_option linter.all false
set_option maxRecDepth 100000
set_option maxHeartbeats 4000000
namespace AL
open PySem L2 PyProof.Rows
section
variable {Γ : Cg} {K : Frg} {F : Hp} {ms : Ms} {S : Sg} {Q : QE} {ta tb te tx tv tk td : TE} {t u tt tt1 : TT} {r : R2} {ts tu tw : TS} {A : AEnds} {g g1 : TG} {wi wi1 : TI} {vs vs1 : List Nat} {P : Hp → Ms → List D → (Ms → Prop) → Prop}
/-- {k: v for ..}: a new owned dict -/
theorem ae_dc (hg : GW g vs) (gm : ∀ v σ H N N', (∀ σ2 H2, N σ2 H2 → N' σ2 H2) → g v σ H N → g v σ H N') (h : AI Γ wi F ms S fun F1 ms1 ds G => ∃ I : Nat → Hp → Ms → List (Key × D) → Prop, I 0 F1 ms1 [] ∧ (∀ i F' ms' acc, Ex F1 F' → I i F' ms' acc → G ms') ∧
    (∀ i d F' ms' acc, Ex F1 F' → ds[i]? = some d → I i F' ms' acc → ∀ F'', Ex F' F'' → AG Γ.nox g d F'' ms' (wipeS S vs) fun F2 ms2 S2 => AT Γ.nox tt F2 ms2 S2 fun F3 ms3 b => (b = true → AE Γ.nox tk F3 ms3 S2 fun F4 ms4 y => ∃ key, keyD y = some key ∧ AE Γ.nox tv F4 ms4 S2 fun F5 ms5 z => acc.length < 100000 ∧ I (i + 1) F5 ms5 (putKD acc key z)) ∧ (b = false → I (i + 1) F3 ms3 acc)) ∧
    (∀ F' ms' acc, Ex F1 F' → I ds.length F' ms' acc → ∀ l, Q F' ((l, .dic acc) :: ms') (.ref l))) : AE Γ (tDc wi g tt tk tv vs) F ms S Q := fun R σ H Qc hs hh x k =>
  h R σ H _ hs hh x fun F1 ms1 ds G J H1 e1 h1 it ⟨I, i0, iG, ib, ie⟩ => by
    intro D hD
    refine ⟨fun i m H' => m = ds.length - i ∧ i ≤ ds.length ∧ ∃ F' ms' acc, Ex F1 F' ∧ Hold Γ.K F' (ms' ++ (D, .dic acc) :: R) H' ∧ I i F' ms' acc, ⟨_, rfl, Nat.zero_le _, F1, ms1, [], Ex.refl, ?_, i0⟩, ?_⟩
    · exact (h1.made (m := .dic []) hD ⟨[], upd_same, .nil⟩).perm List.perm_middle
    rintro i m H' ⟨rfl, hi, F', ms', acc, e', hh', p⟩
    have hG := iG i F' ms' acc e' p
    by_cases hlt : i < ds.length
    · refine .inr ⟨it.goes _ i H' F' ms' hlt e' hh' hG, fun H2 => ∃ F2 ms2 acc2, Ex F1 F2 ∧ Hold Γ.K F2 (ms2 ++ (D, .dic acc2) :: R) H2 ∧ I (i + 1) F2 ms2 acc2, fun H2 ⟨F2, ms2, acc2, e2, b2, q2⟩ => ⟨ds.length - (i + 1), by omega, rfl, hlt, F2, ms2, acc2, e2, b2, q2⟩, fun x H2 y => ?_⟩
      obtain ⟨F2, d, e2, hh2, hd, hr⟩ := it.yields _ i H' x H2 F' ms' hlt e' hh' hG y
      refine gm x _ H2 _ _ (fun σ2 H3 z => ⟨z.2, z.1⟩) (hg x _ H2 _ _ (wipe_wipe σ vs) ?_)
      refine ib i d F' ms' acc e' hd p F2 e2 _ x (L2.wipe σ vs) H2 _ hr (((hs.mono e1).mono (e'.trans e2)).wipe vs) hh2 xle0 fun F3 ms3 S3 σ3 H3 e3 a3 b3 q3 => ?_
      refine q3 _ σ3 H3 _ a3 b3 xle0 fun F4 ms4 b H4 e4 b4 q4 => ?_
      cases b with
      | true =>
        refine q4.1 rfl _ σ3 H4 _ (a3.mono e4) b4 xle0 fun F5 ms5 d5 v5 H5 e5 b5 r5 ⟨key, hk, q5⟩ => ?_
        have ek := key_rep r5 hk
        subst ek
        refine q5 _ σ3 H5 _ ((a3.mono e4).mono e5) b5 xle0 fun F6 ms6 d6 v6 H6 e6 b6 r6 q6 => ?_
        obtain ⟨_, vs6, hl, rl⟩ := b6.at mid_get
        refine ⟨vs6, key, rfl, hl, Evl.sz_lt (by rw [← rl.lenK]; exact q6.1), F6, ms6, putKD acc key d6, ((((e'.trans e2).trans e3).trans e4).trans e5).trans e6, ?_, q6.2⟩
        have := b6.set (m' := .dic (putKD acc key d6)) (o := .dK (putK vs6 key v6)) mid_get ⟨_, upd_same, rl.put r6 key⟩
        rw [mid_set] at this
        exact this
      | false => exact ⟨F4, ms4, acc, ((e'.trans e2).trans e3).trans e4, b4, q4.2 rfl⟩
    · have ei : i = ds.length := by omega
      subst ei
      refine .inl ⟨it.stops _ H' F' ms' e' hh' hG, ?_⟩
      exact k F' ((D, .dic acc) :: ms') (.ref D) _ H' (e1.trans e') (hh'.perm List.perm_middle.symm) (.ref D) (ie F' ms' acc e' p D)
/-! ### in, of texts -/
theorem in_strs (x : Str) (xs : List Str) : inV (.str x) (xs.map V.str) = decide (x ∈ xs) := by
  unfold inV
  rw [List.any_map]
  by_cases h : x ∈ xs
  · rw [decide_eq_true h]
    exact List.any_eq_true.mpr ⟨x, h, by simp [eqV]⟩
  · rw [decide_eq_false h, List.any_eq_false]
    intro y hy z
    simp [eqV] at z
    exact h (z ▸ hy)
theorem seq_strs {d : D} {xs : List Str} {v : V} {H : Hp} {R : Ms} (hd : LstA F ms d (xs.map D.str) ∨ d = .tup (xs.map D.str)) (hh : Hold K F (ms ++ R) H) (hr : Rep K F d v) : ∃ p, v = .ref p ∧ (SqL K H p (xs.map V.str) ∨ SqT K H p (xs.map V.str)) := by
  rcases hd with hl | rfl
  · obtain ⟨a, us, rfl, ha, rr⟩ := hl.to hh hr
    have e := rep_strs rr
    subst e
    exact ⟨a, rfl, .inl ha⟩
  · cases hr with
    | tup hq rr =>
      have e := rep_strs rr
      subst e
      exact ⟨_, rfl, .inr (ex_t hh.ex hq)⟩
theorem ar_INl {d : D} {x : Str} {xs : List Str} (hd : LstA F ms d (xs.map D.str) ∨ d = .tup (xs.map D.str)) (q : Q F ms (.bl (decide (x ∈ xs)))) : AR K (rIN K) (.str x) d F ms Q := ar_inr fun R u v H Qc hu hv hh k => by
  cases hu
  obtain ⟨p, rfl, hs⟩ := seq_strs hd hh hv
  refine ⟨p, _, rfl, hs, rfl, ?_, ?_⟩
  · rw [List.all_map]
    exact List.all_eq_true.mpr fun y _ => rfl
  · show Qc (.bl (inV (.str x) (xs.map V.str))) H
    rw [in_strs]
    exact k F ms _ _ H Ex.refl hh (.bl _) q
theorem ar_NOTINl {d : D} {x : Str} {xs : List Str} (hd : LstA F ms d (xs.map D.str) ∨ d = .tup (xs.map D.str)) (q : Q F ms (.bl (!decide (x ∈ xs)))) : AR K (rNOTIN K) (.str x) d F ms Q := ar_inr fun R u v H Qc hu hv hh k => by
  cases hu
  obtain ⟨p, rfl, hs⟩ := seq_strs hd hh hv
  refine ⟨p, _, rfl, hs, rfl, ?_, ?_⟩
  · rw [List.all_map]
    exact List.all_eq_true.mpr fun y _ => rfl
  · show Qc (.bl (!inV (.str x) (xs.map V.str))) H
    rw [in_strs]
    exact k F ms _ _ H Ex.refl hh (.bl _) q
end
end AL

set_option Elab.async false
set_option linter.all false
set_option maxRecDepth 100000
set_option maxHeartbeats 4000000
/-! zip of two texts -/
namespace AL
open PySem PySem.Spec PySem.W PyProof.Rows L2
def IteZ (x y : Str) : It :=
  ⟨fun i H => i < x.cps.size ∧ i < y.cps.size, fun i H v H' => ∃ T c d, v = .ref T ∧ H T = none ∧ H' = upd H T (.tup [.str ⟨#[c]⟩, .str ⟨#[d]⟩]) ∧ x.cps[i]? = some c ∧ y.cps[i]? = some d, fun i H => i ≤ x.cps.size ∧ i ≤ y.cps.size ∧ (i = x.cps.size ∨ i = y.cps.size)⟩
theorem turn_zipS {P : Program} {w : World} {K : Frg} {elts : List Expr} {kk : Nat} {tpos : Pos} {x y : Str} {tx ty : Tok} {z TI TO i1 i2 : Addr} (D : ZipSep2 z TI TO i1 i2 [i1] [i2]) :
    Turn P w K (.Tuple elts kk tpos) (IteZ x y) [z, TI, TO, i1, i2] z (fun i h => IsZip h z TI TO .none ∧ IsTupOf2 h TI (.ref i1) (.ref i2) ∧ (∃ a b, IsTupOf2 h TO a b) ∧ h.IsStrIter i1 (strIterType x) x tx i ∧ h.IsStrIter i2 (strIterType y) y ty i) where
  mem := by simp
  obj := fun i h st c hc => by
    obtain ⟨hz, hTI, ⟨a, b, hTO⟩, ⟨o1, e1, _, d1⟩, ⟨o2, e2, _, d2⟩⟩ := st
    have e' : c = z ∨ c = TI ∨ c = TO ∨ c = i1 ∨ c = i2 := by simpa using hc
    rcases e' with q | q | q | q | q
    · rw [q]; exact ⟨_, hz, fun v q => nomatch q⟩
    · rw [q]; exact ⟨_, hTI, fun v q => nomatch q⟩
    · rw [q]; exact ⟨_, hTO, fun v q => nomatch q⟩
    · rw [q]; exact ⟨o1, e1, fun v q => by rw [d1] at q; cases q⟩
    · rw [q]; exact ⟨o2, e2, fun v q => by rw [d2] at q; cases q⟩
  keep := fun i h h' st k => by
    obtain ⟨hz, hTI, ⟨a, b, hTO⟩, ⟨o1, e1, r1⟩, ⟨o2, e2, r2⟩⟩ := st
    exact ⟨k z (by simp) _ hz, k TI (by simp) _ hTI, ⟨a, b, k TO (by simp) _ hTO⟩, ⟨o1, k i1 (by simp) o1 e1, r1⟩, ⟨o2, k i2 (by simp) o2 e2, r2⟩⟩
  item := by
    intro X hP hw hK hc i pins s σ H E I hf st hg
    subst hP hw hK
    obtain ⟨hz, hTI, ⟨a, b, hTO⟩, h1, h2⟩ := st
    obtain ⟨g1, g2⟩ := hg
    have hzl : z < s.heap.objs.size := Heap.lt_size hz
    refine wpAny_pyNext_zipD2_item D (Draws.text (A := X.A.in1) (I.ok.hd hc) i1 x tx) (Draws.text (A := X.A.in1) (I.ok.hd hc) i2 y ty) hz hTI hTO h1 h2 g1 g2 fun x1 x2 h' tk p1 p2 z' TO' h1' h2' hT hsz hk => ?_
    obtain ⟨c, u, hcx, e1⟩ := p1
    obtain ⟨d, u2, hdy, e2⟩ := p2
    subst e1 e2
    refine ⟨_, rfl, wpAny_letOwnedTupleGo_zip (s := { s with heap := h', toks := tk }) z' fun h'' z'' sb => ?_⟩
    have hT2 : h''.get? s.heap.objs.size = some { cls := .type "tuple", data := .seq #[.str ⟨#[c]⟩ u, .str ⟨#[d]⟩ u2] } := (sb.2 _ (Nat.ne_of_gt hzl)).trans hT
    have new : ObjOk X.prog X.w (upd H s.heap.objs.size (.tup [.str ⟨#[c]⟩, .str ⟨#[d]⟩])) h'' s.heap.objs.size (.tup [.str ⟨#[c]⟩, .str ⟨#[d]⟩]) :=
      ⟨by show 2 ≤ sizeLine; decide, [.str ⟨#[c]⟩ u, .str ⟨#[d]⟩ u2], .cons ⟨_, rfl⟩ (.cons ⟨_, rfl⟩ .nil), ⟨_, hT2, rfl, _, rfl⟩⟩
    have I1 : Inv X pins σ (upd H s.heap.objs.size (.tup [.str ⟨#[c]⟩, .str ⟨#[d]⟩])) { s with heap := h'', toks := tk } :=
      I.turnedNew (t' := tk) (ch := [z, TI, TO, i1, i2]) (fun b o hb q => (sb.2 b (fun q' => hb (by simp [q']))).trans (hk b o (fun q' => hb (by simp [q'])) (fun q' => hb (by simp [q'])) (fun q' => hb (by simp [q'])) (fun q' => hb (by simp [q'])) q)) hf (Nat.le_refl _) new
    refine ⟨.ref s.heap.objs.size, _, I1, rfl, ⟨_, c, d, rfl, I.hok.fresh (Nat.le_refl _), rfl, hcx, hdy⟩, ⟨z'', ?_, ⟨.str ⟨#[c]⟩ u, .str ⟨#[d]⟩ u2, ?_⟩, ?_, ?_⟩, fun b hcm => ?_⟩
    · exact (sb.2 _ D.TIz).trans (hk _ _ D.TIz D.TITO D.TIi1 D.TIi2 hTI)
    · exact (sb.2 _ D.TOz).trans TO'
    · obtain ⟨o, ho, r⟩ := h1'
      exact ⟨o, (sb.2 _ (Ne.symm D.zi1)).trans ho, r⟩
    · obtain ⟨o, ho, r⟩ := h2'
      exact ⟨o, (sb.2 _ (Ne.symm D.zi2)).trans ho, r⟩
    · have hlt : b < s.heap.objs.size := by
        have e' : b = z ∨ b = TI ∨ b = TO ∨ b = i1 ∨ b = i2 := by simpa using hcm
        rcases e' with q | q | q | q | q
        · rw [q]; exact hzl
        · rw [q]; exact Heap.lt_size hTI
        · rw [q]; exact Heap.lt_size hTO
        · rw [q]; obtain ⟨_, e1, _⟩ := h1; exact Heap.lt_size e1
        · rw [q]; obtain ⟨_, e2, _⟩ := h2; exact Heap.lt_size e2
      rw [upd_ne (Nat.ne_of_lt hlt)]
      exact (hf b hcm).1
  done := by
    intro X hP hw hK hc i pins s σ H E I hf st hg
    subst hP hw hK
    obtain ⟨hz, hTI, ⟨a, b, hTO⟩, h1, h2⟩ := st
    obtain ⟨g1, g2, g3⟩ := hg
    exact wpAny_pyNext_zipD2_end D (Draws.text (A := X.A.in1) (I.ok.hd hc) i1 x tx) (Draws.text (A := X.A.in1) (I.ok.hd hc) i2 y ty) hz hTI hTO h1 h2 g1 g2 g3 fun h' tk hk => ⟨rfl, I.turnedL (t' := tk) (ch := [z, TI, TO, i1, i2]) (fun c o hb q =>
      hk c o (fun q' => hb (by simp [q'])) (fun q' => hb (by simp [q'])) (fun q' => hb (by simp [q'])) (fun q' => hb (by simp [q'])) q) hf⟩
  self := fun A i s Q E st h => wpAny_pyIter_zip st.1 h
theorem zsep (I : Nat) : ZipSep2 (I + 4) (I + 2) (I + 3) I (I + 1) [I] [I + 1] where
  TIz := (by omega : (I + 2 : Nat) ≠ I + 4)
  TOz := (by omega : (I + 3 : Nat) ≠ I + 4)
  TITO := (by omega : (I + 2 : Nat) ≠ I + 3)
  TIi1 := (by omega : (I + 2 : Nat) ≠ I)
  mem1 := List.mem_singleton.mpr rfl
  zf1 := fun h => (by omega : (I + 4 : Nat) ≠ I) (List.mem_singleton.mp h)
  Tf1 := fun h => (by omega : (I + 3 : Nat) ≠ I) (List.mem_singleton.mp h)
  TIi2 := (by omega : (I + 2 : Nat) ≠ I + 1)
  mem2 := List.mem_singleton.mpr rfl
  zf2 := fun h => (by omega : (I + 4 : Nat) ≠ I + 1) (List.mem_singleton.mp h)
  Tf2 := fun h => (by omega : (I + 3 : Nat) ≠ I + 1) (List.mem_singleton.mp h)
  sep1_2 := fun h => (by omega : (I : Nat) ≠ I + 1) (List.mem_singleton.mp h)
  sep2_1 := fun h => (by omega : (I + 1 : Nat) ≠ I) (List.mem_singleton.mp h)
def iZipS (ta : TA) : TI := fun σ H R => ta σ H fun vs H1 => ∃ x y, vs = [.str x, .str y] ∧ R (IteZ x y) H1
theorem pi_zipS {X : Cx} {e e2 : Expr} {ta : TA} {p pos tpos : Pos} {elts : List Expr} {kk : Nat} (hg : Gl X "zip") (hm : X.mg "zip" = none) (ha : PA X [e, e2] ta)
    (hs : starEach [e, e2] X.env = (false, eval e X.env) :: starEach [e2] X.env := by rfl) (hpl : (backTo pos (starEach [e2] X.env)).any (·.1) = false := by rfl) :
    PI X (.Tuple elts kk tpos) (.Call (.Name "zip" p) [e, e2] [] pos) (iZipS ta) := by
  refine ⟨fun pins s σ H R I h => ?_⟩
  refine Call_ (ld_blt I hg hm PyProof.Rows.boot_zip (PyProof.Rows.callWith_type1 (thn (ha.run pos pins s σ H _ I h) fun us s1 ⟨vs, H1, I1, r1, q1⟩ => ?_) hs hpl))
  obtain ⟨x, y, ex, q⟩ := q1
  subst ex
  cases r1 with
  | cons r rr =>
    cases rr with
    | cons r' rr =>
      cases rr
      obtain ⟨tx, rfl⟩ := r
      obtain ⟨ty, rfl⟩ := r'
      have fresh5 : ∀ c, c ∈ [s1.heap.objs.size + 4, s1.heap.objs.size + 2, s1.heap.objs.size + 3, s1.heap.objs.size, s1.heap.objs.size + 1] → FpOk X pins H1 c := fun c hcm => by
        have e' : c = s1.heap.objs.size + 4 ∨ c = s1.heap.objs.size + 2 ∨ c = s1.heap.objs.size + 3 ∨ c = s1.heap.objs.size ∨ c = s1.heap.objs.size + 1 := by simpa using hcm
        have hle : s1.heap.objs.size ≤ c := by
          rcases e' with z | z | z | z | z <;> omega
        exact I1.fpOk hle (I1.hok.fresh hle)
      refine zip_begins2 (begins_text x tx) (begins_text y ty) trivial trivial fun h' hz hTI hTO h1 h2 hsz hk => wpAny_pyIter_zip hz ?_
      have I2 : Inv X pins σ H1 { s1 with heap := h' } := I1.kept (t' := s1.toks) hk
      have D : ZipSep2 (s1.heap.objs.size + 4) (s1.heap.objs.size + 2) (s1.heap.objs.size + 3) s1.heap.objs.size (s1.heap.objs.size + 1) [s1.heap.objs.size] [s1.heap.objs.size + 1] :=
        zsep s1.heap.objs.size
      exact ⟨s1.heap.objs.size + 4, [s1.heap.objs.size + 4, s1.heap.objs.size + 2, s1.heap.objs.size + 3, s1.heap.objs.size, s1.heap.objs.size + 1], _, _, H1, rfl, I2, turn_zipS (tx := tx) (ty := ty) D, ⟨hz, hTI, ⟨_, _, hTO⟩, ⟨_, h1, rfl, rfl⟩, ⟨_, h2, rfl, rfl⟩⟩, fresh5, q⟩
section
variable {Γ : Cg} {K : Frg} {F : Hp} {ms : Ms} {S : Sg} {P : Hp → Ms → List D → (Ms → Prop) → Prop}
theorem ai_zipS {ta : TA} (h : AA Γ ta F ms S fun F1 ms1 ds => ∃ x y : Str, ds = [.str x, .str y] ∧ x.length = y.length ∧ P F1 ms1 (zipD (charsD x) (charsD y)) fun _ => True) : AI Γ (iZipS ta) F ms S P := fun R σ H Rc hs hh x k =>
  h R σ H _ hs hh x fun F1 ms1 ds vs H1 e1 h1 r1 ⟨x, y, hd, hl, p⟩ => by
    subst hd
    have l1 : ∀ z : Str, (charsD z).length = z.cps.size := fun z => by unfold charsD; rw [List.length_map, Array.length_toList]
    have hl' : x.cps.size = y.cps.size := hl
    have hlz : (zipD (charsD x) (charsD y)).length = x.cps.size := by rw [zipD_len (by rw [l1, l1]; exact hl'), l1]
    cases r1 with
    | cons a b =>
      cases b with
      | cons b c =>
        cases c
        cases a
        cases b
        refine ⟨x, y, rfl, k F1 ms1 _ (fun _ => True) _ H1 e1 h1 ⟨fun _ i H' F' ms' hi e' hh' _ => ?_, fun _ H' F' ms' e' hh' _ => ?_, fun _ i H' x' H2 F' ms' hi e' hh' _ yy => ?_⟩ p⟩
        · rw [hlz] at hi
          exact ⟨hi, by omega⟩
        · show _ ∧ _ ∧ _
          rw [hlz]
          exact ⟨Nat.le_refl _, by omega, .inl rfl⟩
        · obtain ⟨T, c, d, y1, y2, y3, y4, y5⟩ := yy
          subst y1 y3
          obtain ⟨F'', e2, h2, r2⟩ := pair_rep hh' y2 (.str ⟨#[c]⟩) (.str ⟨#[d]⟩)
          refine ⟨F'', _, e2, h2, zipD_get ?_ ?_, r2⟩
          · unfold charsD; rw [List.getElem?_map, Array.getElem?_toList, y4]; rfl
          · unfold charsD; rw [List.getElem?_map, Array.getElem?_toList, y5]; rfl
end
end AL

set_option Elab.async false
set_option linter.all false
set_option maxRecDepth 100000
set_option maxHeartbeats 4000000
/-! sum(d.values()) -/
namespace AL
open PySem PySem.Spec PyProof.Rows L2
theorem preSum_take (is : List Int) : ∀ n, n ≤ is.length → preSum (fun i => is.getD i 0) n = (is.take n).sum
  | 0, _ => rfl
  | n + 1, h => by
    show preSum _ n + _ = _
    have hn : n < is.length := h
    rw [preSum_take is n (by omega), List.take_succ, List.getElem?_eq_getElem hn, List.sum_append]
    simp [List.getD_eq_getElem?_getD, List.getElem?_eq_getElem hn]
def tSumVals (td : TE) : TE := fun σ H Q => td σ H fun x H1 => ∃ (a : Addr) (kvs : List (Key × V)) (is : List Int), x = V.ref a ∧ H1 a = some (.dK kvs) ∧ kvs.map (·.2) = is.map V.int ∧ Q (.int is.sum) H1
theorem pe_sumVals {X : Cx} {o : Expr} {p pos apos mpos : Pos} {td : TE} (hc : X.calm = true) (hg : Gl X "sum") (hm : X.mg "sum" = none) (hd : PE X o td) (hbase : attributeBase o "values" X.env (eval o X.env) = eval o X.env := by rfl) (hline : (apos.endLine == mpos.line) = true := by rfl)
    (hse : starEach [Expr.Call (.Attribute o "values" apos) [] [] mpos] X.env = [(false, eval (Expr.Call (.Attribute o "values" apos) [] [] mpos) X.env)] := by rfl) :
    PE X (.Call (.Name "sum" p) [.Call (.Attribute o "values" apos) [] [] mpos] [] pos) (tSumVals td) := by
  refine ⟨fun pins s σ H Q I h => ?_⟩
  refine wpAny_Call_Name_kw (ld_blt I hg hm (u := .builtin "sum") (by first | rfl | decide +kernel) ?_ (by first | decide +kernel | decide) (by first | decide +kernel | decide))
  rw [hse]
  refine PySem.callWith_builtin1 (wpAny_Call_method0_late hbase hline (thn (hd.run pins s σ H _ I h) fun v s1 ⟨x, H1, I1, r1, a, kvs, is, ex, ha, hv, q⟩ => ?_))
  subst ex
  obtain rfl : v = Value.ref a := r1
  obtain ⟨_, hsys, vs, rel, dof⟩ := dk_of I1.hok ha
  obtain ⟨ep, dat⟩ := dof.dictAt
  have dat' := dat
  obtain ⟨ob, es, ho, ex, hdat, hko, hpr, hnd⟩ := dat'
  refine ⟨"dict", "dict.values", F.plainAttrs_dict, F.slot_dict_values, F.type_dict_values, ⟨ob, ho, ex.1⟩, fun b e => ?_, Calls.callWith_builtin rfl (PySem.evalArgs_none ?_)⟩
  · cases e
    exact ⟨ob, ho, ex.2.1⟩
  refine call_meetsIn F.slot_dict_values ⟨ob, ho, ex.1⟩ F.entry_dict_values (F.args_dict_values_1 _) (meets_dict_values (mixKind X.prog X.w) a hsys) ⟨⟨vs, dof⟩, ?_⟩
  have k1 : ∀ b u, s1.heap.get? b = some u → (s1.heap.push { cls := .type "dict_values", data := .fields #[.ref a] }).get? b = some u := fun b u e => Heap.get?_push_of_some _ e
  have dat1 : (s1.heap.push { cls := .type "dict_values", data := .fields #[.ref a] }).DictAt (mixKind X.prog X.w) a vs ep := dat.keep k1
  have hlv : vs.length = is.length := by
    have e1 := congrArg List.length hv
    rw [List.length_map, List.length_map] at e1
    rw [← e1]
    exact (KV.length rel).symm
  have hval : ∀ (i : Nat) (v : Value), (∃ k, vs[i]? = some (k, v)) → ∃ t, v = Value.int (is.getD i 0) t := fun i v ⟨k, hk⟩ => by
    obtain ⟨x, h1, h2⟩ := KV.at' rel hk
    have e1 : (kvs.map (·.2))[i]? = some x := by rw [List.getElem?_map, h1] <;> rfl
    rw [hv, List.getElem?_map] at e1
    obtain ⟨j, hj, e2⟩ := Option.map_eq_some_iff.mp e1
    subst e2
    obtain ⟨t, e3⟩ := h2
    refine ⟨t, ?_⟩
    rw [e3, List.getD_eq_getElem?_getD, hj] <;> rfl
  refine call_sum_walkAnyS (wpAny_pyIter_values (v := s1.heap.objs.size) (d := a) ⟨_, Heap.get?_push_size _ rfl, rfl, rfl⟩ dat1 ?_)
  have hlt : a < s1.heap.objs.size := Heap.lt_size ho
  have hsz : (s1.heap.push { cls := .type "dict_values", data := .fields #[.ref a] }).objs.size = s1.heap.objs.size + 1 := Heap.size_push _ _
  refine ⟨_, _, _, _, _, _, _, fun i => is.getD i 0, rfl, (Walks.dictValues (knd := mixKind X.prog X.w) (A := X.A.in1) (I.ok.hd hc) (s1.heap.push { cls := .type "dict_values", data := .fields #[.ref a] }).objs.size a (by rw [hsz]; exact Nat.ne_of_lt (Nat.lt_succ_of_lt hlt)) vs ep).toS,
    ⟨⟨_, Heap.get?_push_size _ rfl, rfl, rfl⟩, dat1.keep fun b u e => Heap.get?_push_of_some _ e⟩, fun b hb => ?_, hval, fun s' t' hm => ?_⟩
  · show b < ((s1.heap.push _).push _).objs.size
    rw [Heap.size_push, Heap.size_push]
    rw [hsz] at hb
    rcases List.mem_cons.mp hb with e | hb
    · rw [e]
      exact Nat.lt_succ_self _
    · have e : b = a := List.mem_singleton.mp hb
      rw [e]
      exact Nat.lt_succ_of_lt (Nat.lt_succ_of_lt hlt)
  · have hk : ∀ b u, s1.heap.get? b = some u → s'.heap.get? b = some u := fun b u e =>
      hm.heap b u (fun hI => by
        have e1 := List.mem_singleton.mp hI
        have e2 := Heap.lt_size e
        rw [hsz] at e1
        rw [e1] at e2
        exact absurd e2 (Nat.not_lt.mpr (Nat.le_succ _))) (Heap.get?_push_of_some _ (k1 b u e))
    have hs : preSum (fun i => is.getD i 0) vs.length = is.sum := by
      rw [hlv, preSum_take is is.length (Nat.le_refl _), List.take_length]
    rw [hs, Moved.eq_with hm]
    exact ⟨.int _, H1, I1.kept (t' := s'.toks) hk, ⟨t', rfl⟩, q⟩
section
variable {Γ : Cg} {F : Hp} {ms : Ms} {S : Sg} {Q : QE} {td : TE}
theorem kv_ints {K : Frg} {F : Hp} : ∀ {kvs : List (Key × D)} {vs : List (Key × V)} {is : List Int}, RepK K F kvs vs → kvs.map (·.2) = is.map D.int → vs.map (·.2) = is.map V.int
  | _, _, [], .nil, _ => rfl
  | _, _, [], .cons _ _, e => by cases e
  | _, _, i :: is, .nil, e => by cases e
  | _, _, i :: is, .cons h r, e => by
    rw [List.map_cons, List.map_cons] at e
    injection e with e1 e2
    have e1' := e1
    subst e1'
    cases h
    rw [List.map_cons, List.map_cons, kv_ints r e2]
theorem ae_sumVals (h : AE Γ td F ms S fun F1 ms1 x => ∃ (kvs : List (Key × D)) (is : List Int), DicA Γ.K F1 ms1 x kvs ∧ kvs.map (·.2) = is.map D.int ∧ Q F1 ms1 (.int is.sum)) : AE Γ (tSumVals td) F ms S Q := fun R σ H Qc hs hh x k =>
  h R σ H _ hs hh x fun F1 ms1 d v H1 e1 h1 r1 ⟨kvs, is, hd, hi, q⟩ => by
    obtain ⟨a, vs, rfl, ha, rk⟩ := hd.to h1 r1
    exact ⟨a, vs, is, rfl, ha, kv_ints rk hi, k F1 ms1 _ _ H1 e1 h1 (.int _) q⟩
end
end AL

set_option Elab.async false
set_option linter.all false
set_option maxRecDepth 100000
set_option maxHeartbeats 4000000
/-! a comprehension of two loops -/
namespace AL
open PySem L2 PyProof.Rows
section
variable {Γ : Cg} {K : Frg} {F : Hp} {ms : Ms} {S : Sg} {Q : QE} {te : TE} {tt tt1 : TT} {g g1 : TG} {wi wi1 : TI} {vs vs1 : List Nat}
theorem ae_lc2 (hg : GW g vs) (gm : ∀ v σ H N N', (∀ σ2 H2, N σ2 H2 → N' σ2 H2) → g v σ H N → g v σ H N') (hg1 : GW g1 vs1) (gm1 : ∀ v σ H N N', (∀ σ2 H2, N σ2 H2 → N' σ2 H2) → g1 v σ H N → g1 v σ H N')
    (h : AI Γ wi F ms S fun F1 ms1 ds G => ∃ I : Nat → Hp → Ms → List D → Prop, I 0 F1 ms1 [] ∧ (∀ i F' ms' acc, Ex F1 F' → I i F' ms' acc → G ms') ∧
    (∀ i d F' ms' acc, Ex F1 F' → ds[i]? = some d → I i F' ms' acc → ∀ F'', Ex F' F'' → AG Γ.nox g d F'' ms' (wipeS S vs) fun F2 ms2 S2 => AT Γ.nox tt F2 ms2 S2 fun F3 ms3 b =>
      (b = true → AI Γ.nox wi1 F3 ms3 S2 fun F4 ms4 ds1 G1 => ∃ I1 : Nat → Hp → Ms → List D → Prop, I1 0 F4 ms4 acc ∧ (∀ j F' ms' acc', Ex F4 F' → I1 j F' ms' acc' → G1 ms') ∧
        (∀ j d1 F' ms' acc', Ex F4 F' → ds1[j]? = some d1 → I1 j F' ms' acc' → ∀ F'', Ex F' F'' → AG Γ.nox g1 d1 F'' ms' (wipeS S2 vs1) fun F5 ms5 S5 => AT Γ.nox tt1 F5 ms5 S5 fun F6 ms6 b => (b = true → AE Γ.nox te F6 ms6 S5 fun F7 ms7 y => acc'.length < 100000 ∧ I1 (j + 1) F7 ms7 (acc' ++ [y])) ∧ (b = false → I1 (j + 1) F6 ms6 acc')) ∧
        (∀ F' ms' acc', Ex F4 F' → I1 ds1.length F' ms' acc' → I (i + 1) F' ms' acc')) ∧ (b = false → I (i + 1) F3 ms3 acc)) ∧
    (∀ F' ms' acc, Ex F1 F' → I ds.length F' ms' acc → ∀ F'', Ex F' F'' → Q F'' ms' (.lst acc))) : AE Γ (tLc2 wi g tt wi1 g1 tt1 te vs vs1) F ms S Q := fun R σ H Qc hs hh x k =>
  h R σ H _ hs hh x fun F1 ms1 ds G J H1 e1 h1 it ⟨I, i0, iG, ib, ie⟩ => by
    intro D hD
    refine ⟨fun i m H' => m = ds.length - i ∧ i ≤ ds.length ∧ ∃ F' ms' acc, Ex F1 F' ∧ Hold Γ.K F' (ms' ++ (D, .lst acc) :: R) H' ∧ I i F' ms' acc, ⟨_, rfl, Nat.zero_le _, F1, ms1, [], Ex.refl, ?_, i0⟩, ?_⟩
    · exact (h1.made (m := .lst []) hD ⟨[], upd_same, .nil⟩).perm List.perm_middle
    rintro i m H' ⟨rfl, hi, F', ms', acc, e', hh', p⟩
    have hG := iG i F' ms' acc e' p
    by_cases hlt : i < ds.length
    · refine .inr ⟨it.goes _ i H' F' ms' hlt e' hh' hG, fun H2 => ∃ F2 ms2 acc2, Ex F1 F2 ∧ Hold Γ.K F2 (ms2 ++ (D, .lst acc2) :: R) H2 ∧ I (i + 1) F2 ms2 acc2, fun H2 ⟨F2, ms2, acc2, e2, b2, q2⟩ => ⟨ds.length - (i + 1), by omega, rfl, hlt, F2, ms2, acc2, e2, b2, q2⟩, fun x H2 y => ?_⟩
      obtain ⟨F2, d, e2, hh2, hd, hr⟩ := it.yields _ i H' x H2 F' ms' hlt e' hh' hG y
      refine gm x _ H2 _ _ (fun σ2 H3 z => ⟨z.2, z.1⟩) (hg x _ H2 _ _ (wipe_wipe σ vs) ?_)
      refine ib i d F' ms' acc e' hd p F2 e2 _ x (L2.wipe σ vs) H2 _ hr (((hs.mono e1).mono (e'.trans e2)).wipe vs) hh2 xle0 fun F3 ms3 S3 σ3 H3 e3 a3 b3 q3 => ?_
      refine q3 _ σ3 H3 _ a3 b3 xle0 fun F4 ms4 b H4 e4 b4 q4 => ?_
      have e14 : Ex F1 F4 := (((e'.trans e2).trans e3).trans e4)
      cases b with
      | false => exact ⟨F4, ms4, acc, e14, b4, q4.2 rfl⟩
      | true =>
        refine q4.1 rfl ((D, .lst acc) :: R) σ3 H4 _ (a3.mono e4) b4 xle0 fun F5 ms5 ds1 G1 J1 H5 e5 b5 it1 ⟨I1, j0, jG, jb, je⟩ => ?_
        refine ⟨fun j m H' => m = ds1.length - j ∧ j ≤ ds1.length ∧ ∃ F' ms' acc', Ex F5 F' ∧ Hold Γ.K F' (ms' ++ (D, .lst acc') :: R) H' ∧ I1 j F' ms' acc', ⟨_, rfl, Nat.zero_le _, F5, ms5, acc, Ex.refl, b5, j0⟩, ?_⟩
        rintro j m Hj ⟨rfl, hj, Fj, msj, accj, ej, hhj, pj⟩
        have hGj := jG j Fj msj accj ej pj
        by_cases hltj : j < ds1.length
        · refine .inr ⟨it1.goes _ j Hj Fj msj hltj ej hhj hGj, fun H2 => ∃ F2 ms2 acc2, Ex F5 F2 ∧ Hold Γ.K F2 (ms2 ++ (D, .lst acc2) :: R) H2 ∧ I1 (j + 1) F2 ms2 acc2, fun H2 ⟨F2, ms2, acc2, e2, b2, q2⟩ => ⟨ds1.length - (j + 1), by omega, rfl, hltj, F2, ms2, acc2, e2, b2, q2⟩, fun x2 H6 y2 => ?_⟩
          obtain ⟨F6, d6, e6, hh6, hd6, hr6⟩ := it1.yields _ j Hj x2 H6 Fj msj hltj ej hhj hGj y2
          refine gm1 x2 _ H6 _ _ (fun σ2 H3 z => ⟨z.2, z.1⟩) (hg1 x2 _ H6 _ _ (wipe_wipe σ3 vs1) ?_)
          refine jb j d6 Fj msj accj ej hd6 pj F6 e6 _ x2 (L2.wipe σ3 vs1) H6 _ hr6 (((a3.mono e4).mono ((e5.trans ej).trans e6)).wipe vs1) hh6 xle0 fun F7 ms7 S7 σ7 H7 e7 a7 b7 q7 => ?_
          refine q7 _ σ7 H7 _ a7 b7 xle0 fun F8 ms8 b H8 e8 b8 q8 => ?_
          cases b with
          | true =>
            refine q8.1 rfl _ σ7 H8 _ (a7.mono e8) b8 xle0 fun F9 ms9 d9 v9 H9 e9 b9 r9 q9 => ?_
            obtain ⟨_, vs9, hl, rl⟩ := b9.at mid_get
            refine ⟨vs9, hl, Evl.sz_lt (by rw [← rl.len]; exact q9.1), F9, ms9, accj ++ [d9], (((ej.trans e6).trans e7).trans e8).trans e9, ?_, q9.2⟩
            have := b9.set (m' := .lst (accj ++ [d9])) (o := .lst (vs9 ++ [v9])) mid_get ⟨_, upd_same, rl.append (RepL.one r9)⟩
            rw [mid_set] at this
            exact this
          | false => exact ⟨F8, ms8, accj, ((ej.trans e6).trans e7).trans e8, b8, q8.2 rfl⟩
        · have ejl : j = ds1.length := by omega
          subst ejl
          exact .inl ⟨it1.stops _ Hj Fj msj ej hhj hGj, Fj, msj, accj, (e14.trans e5).trans ej, hhj, je Fj msj accj ej pj⟩
    · have ei : i = ds.length := by omega
      subst ei
      refine .inl ⟨it.stops _ H' F' ms' e' hh' hG, ?_⟩
      obtain ⟨_, vsD, hl, rl⟩ := hh'.at mid_get
      obtain ⟨o, ho, e2, h2⟩ := hh'.freeze mid_get
      rw [hl] at ho
      cases ho
      rw [mid_erase] at h2
      exact k _ ms' (.lst acc) _ H' ((e1.trans e').trans e2) h2 (.lst upd_same (rl.mono e2)) (ie F' ms' acc e' p _ e2)
end
end AL

set_option Elab.async false
set_option linter.all false
set_option maxRecDepth 100000
set_option maxHeartbeats 4000000
/-! tuples of ints compared, list(range(n)) -/
namespace AL
open PySem L2 PyProof.Rows
section
variable {Γ : Cg} {K : Frg} {F : Hp} {ms : Ms} {S : Sg} {Q : QE} {ta : TE}
theorem kLTT {X : Cx} (h : X.K = K) (hu : X.A.units + 64 < cLine) : OpR X (compareOp .Lt) (rLtT K) := h ▸ op_ltT (by omega)
theorem ar_LTT {ns ks : List Int} (q : Q F ms (.bl (HT.lexLt ns ks))) : AR K (rLtT K) (.tup (ns.map D.int)) (.tup (ks.map D.int)) F ms Q := fun R u v H Qc hu hv hh k => by
  cases hu with
  | tup h1 r1 =>
    cases hv with
    | tup h2 r2 =>
      have e1 := rep_ints r1
      have e2 := rep_ints r2
      subst e1
      subst e2
      exact ⟨_, _, _, _, rfl, rfl, ex_t hh.ex h1, ex_t hh.ex h2, k F ms _ _ H Ex.refl hh (.bl _) q⟩
theorem rg_rep (n : Int) : RepL K F ((List.range n.toNat).map fun (o : Nat) => D.int (o : Int)) (rgV 0 n) := by
  have gen : ∀ l : List Nat, RepL K F (l.map fun (o : Nat) => D.int (o : Int)) (l.map fun (i : Nat) => V.int (0 + (i : Int))) := by
    intro l
    induction l with
    | nil => exact .nil
    | cons i l ih =>
      refine .cons ?_ ih
      show Rep K F (D.int (i : Int)) (V.int (0 + (i : Int)))
      rw [Int.zero_add]
      exact .int _
  have := gen (List.range n.toNat)
  unfold rgV
  rw [show n - 0 = n by omega]
  exact this
theorem ae_listRg1 (h : AE Γ ta F ms S fun F1 ms1 x => ∃ n : Int, x = .int n ∧ -100000 ≤ n ∧ n ≤ 100000 ∧ ∀ F2, Ex F1 F2 → Q F2 ms1 (.lst ((List.range n.toNat).map fun (o : Nat) => D.int (o : Int)))) : AE Γ (tLstRg (tRg1 ta)) F ms S Q := fun R σ H Qc hs hh x k =>
  h R σ H _ hs hh x fun F1 ms1 d v H1 e1 h1 r1 ⟨n, hd, b1, b2, q⟩ => by
    subst hd
    cases r1
    refine ⟨n, rfl, ⟨by decide, by decide, by omega, by omega, by omega⟩, fun p hp => ?_⟩
    obtain ⟨e2, h2⟩ := h1.laid (.lst (rgV 0 n)) hp
    exact k _ ms1 (.lst _) _ _ (e1.trans e2) h2 (.lst upd_same (rg_rep n)) (q _ e2)
end
end AL

set_option Elab.async false
set_option linter.all false
set_option maxRecDepth 100000
set_option maxHeartbeats 4000000
/-! owned lists that freeze at an operator; plain lists compared -/
namespace AL
open PySem L2 PyProof.Rows
section
variable {K : Frg} {F : Hp} {ms : Ms} {Q : QE} {r : R2}
theorem ar_frzL {l : Addr} {ds : List D} {y : D} (n : Nat) (hn : ms[n]? = some (l, .lst ds)) (q : ∀ F2, Ex F F2 → AR K r (.lst ds) y F2 (ms.eraseIdx n) Q) : AR K r (.ref l) y F ms Q := fun R u v H Qc hu hv hh k => by
  cases hu
  obtain ⟨_, vs, hl, rp⟩ := hh.at (get_app hn)
  obtain ⟨o, ho, e, h2⟩ := hh.freeze (get_app hn)
  rw [hl] at ho
  cases ho
  rw [List.eraseIdx_append_of_lt_length (List.getElem?_eq_some_iff.mp hn).1] at h2
  exact q _ e R _ v H Qc (.lst upd_same (rp.mono e)) (hv.mono e) h2 fun F' ms' d v' H' e' => k F' ms' d v' H' (e.trans e')
theorem ar_frzR {l : Addr} {ds : List D} {x : D} (n : Nat) (hn : ms[n]? = some (l, .lst ds)) (q : ∀ F2, Ex F F2 → AR K r x (.lst ds) F2 (ms.eraseIdx n) Q) : AR K r x (.ref l) F ms Q := fun R u v H Qc hu hv hh k => by
  cases hv
  obtain ⟨_, vs, hl, rp⟩ := hh.at (get_app hn)
  obtain ⟨o, ho, e, h2⟩ := hh.freeze (get_app hn)
  rw [hl] at ho
  cases ho
  rw [List.eraseIdx_append_of_lt_length (List.getElem?_eq_some_iff.mp hn).1] at h2
  exact q _ e R u _ H Qc (hu.mono e) (.lst upd_same (rp.mono e)) h2 fun F' ms' d v' H' e' => k F' ms' d v' H' (e.trans e')
end
theorem as_norm {Γ : Cg} {ts : TS} {F : Hp} {ms : Ms} {S S' : Sg} {A : AEnds} (e : S = S') (h : AS Γ ts F ms S' A) : AS Γ ts F ms S A := e ▸ h
theorem okL_ints : ∀ ns : List Int, okL (ns.map D.int) = true
  | [] => rfl
  | n :: ns => by show (true && okL (ns.map D.int)) = true; rw [okL_ints ns]; rfl
theorem depL_ints : ∀ ns : List Int, depL (ns.map D.int) = 0
  | [] => rfl
  | n :: ns => by show max 0 (depL (ns.map D.int)) = 0; rw [depL_ints ns]; rfl
theorem depL_strs : ∀ ns : List Str, depL (ns.map D.str) = 0
  | [] => rfl
  | n :: ns => by show max 0 (depL (ns.map D.str)) = 0; rw [depL_strs ns]; rfl
theorem okS {x : Str} (h : ∀ c ∈ x.cps.toList, c < 128) : okD (.str x) = true := by
  show x.cps.all (· < 0x110000) = true
  rw [← Array.all_toList, List.all_eq_true]
  intro c hc
  have := h c hc
  simp
  omega
theorem okL_strs : ∀ {ts : List Str}, (∀ t ∈ ts, ∀ c ∈ t.cps.toList, c < 128) → okL (ts.map D.str) = true
  | [], _ => rfl
  | t :: ts, h => by
    show (okD (.str t) && okL (ts.map D.str)) = true
    rw [okS (h t (List.mem_cons_self ..)), okL_strs fun y hy => h y (List.mem_cons_of_mem _ hy)]
    rfl
theorem eqvL_ints : ∀ (xs ys : List Int), eqvD (.lst (xs.map D.int)) (.lst (ys.map D.int)) = decide (xs = ys)
  | [], [] => rfl
  | [], y :: ys => by simp [eqvD, toPy, toPyL, PyData.eqv, PyData.eqvAll]
  | x :: xs, [] => by simp [eqvD, toPy, toPyL, PyData.eqv, PyData.eqvAll]
  | x :: xs, y :: ys => by
    have ih := eqvL_ints xs ys
    simp only [eqvD, toPy, toPyL, PyData.eqv, PyData.eqvAll, List.map_cons] at ih ⊢
    rw [ih]
    by_cases h : x = y
    · by_cases h2 : xs = ys
      · simp [h, h2]
      · simp [h, h2]
    · simp [h]
theorem eqvT_strs : ∀ (xs ys : List Str), eqvD (.tup (xs.map D.str)) (.tup (ys.map D.str)) = decide (xs = ys)
  | [], [] => rfl
  | [], y :: ys => by simp [eqvD, toPy, toPyL, PyData.eqv, PyData.eqvAll]
  | x :: xs, [] => by simp [eqvD, toPy, toPyL, PyData.eqv, PyData.eqvAll]
  | x :: xs, y :: ys => by
    have ih := eqvT_strs xs ys
    simp only [eqvD, toPy, toPyL, PyData.eqv, PyData.eqvAll, List.map_cons] at ih ⊢
    rw [ih]
    by_cases h : x = y
    · by_cases h2 : xs = ys
      · simp [h, h2]
      · simp [h, h2]
    · simp [h]
theorem eqvL_strs : ∀ (xs ys : List Str), eqvD (.lst (xs.map D.str)) (.lst (ys.map D.str)) = decide (xs = ys)
  | [], [] => rfl
  | [], y :: ys => by simp [eqvD, toPy, toPyL, PyData.eqv, PyData.eqvAll]
  | x :: xs, [] => by simp [eqvD, toPy, toPyL, PyData.eqv, PyData.eqvAll]
  | x :: xs, y :: ys => by
    have ih := eqvL_strs xs ys
    simp only [eqvD, toPy, toPyL, PyData.eqv, PyData.eqvAll, List.map_cons] at ih ⊢
    rw [ih]
    by_cases h : x = y
    · by_cases h2 : xs = ys
      · simp [h, h2]
      · simp [h, h2]
    · simp [h]
end AL

set_option Elab.async false
set_option linter.all false
set_option maxRecDepth 100000
set_option maxHeartbeats 4000000
/-! sorted(set(a list of texts or of ints)) -/
namespace AL
open PySem PySem.Spec L2 PyProof.Rows
/-- the keys of a set -/
structure KS (P : Program) (w : World) (α : Type) [DecidableEq α] where
  knd : PySem.KeyKind P w α
  val : α → Tok → Value
  kf : Value → α
  is : ∀ k t, knd.is k (val k t) = true
  sc : ∀ k t, (val k t).scannable = true
  kfm : ∀ k t, kf (val k t) = k
def ksI (P : Program) (w : World) : KS P w Int := ⟨intKind P w, Value.int, fun v => match v with | .int k _ => k | _ => 0, fun k t => intKind_is P w k t, fun _ _ => rfl, fun _ _ => rfl⟩
def ksS (P : Program) (w : World) : KS P w Str := ⟨PySem.strKind P w, Value.str, fun v => match v with | .str k _ => k | _ => Str.empty, fun k t => strKind_is P w k t, fun _ _ => rfl, fun _ _ => rfl⟩
section
variable {P : Program} {w : World} {α : Type} [DecidableEq α] (c : KS P w α)
def KS.Good (e : Int × Value) : Prop := ∃ k t, e.2 = c.val k t ∧ e.1 = c.knd.hash k
def KS.key (e : Int × Value) : α := c.kf e.2
/-- a set at a: made of these keys -/
def KS.At (h : Heap) (a : Addr) (ks : List α) : Prop :=
  ∃ o es ep t, h.get? a = some o ∧ o.ExactSet ∧ o.data = .set es ep t ∧ (∀ e ∈ es.toList, c.Good e) ∧ (es.toList.map c.key).Nodup ∧ (∀ k, k ∈ ks ↔ k ∈ es.toList.map c.key) ∧
    es.size < scanBound ∧ t.fits es.size = true ∧ es.size ≤ ks.length ∧ Ris t.place.toList ∧ (w.params.followText "set-order" = true ∨ t.led = true)
variable {c}
theorem KS.At.keep {h h' : Heap} {a : Addr} {ks : List α} (x : c.At h a ks) (k : ∀ o, h.get? a = some o → h'.get? a = some o) : c.At h' a ks := by
  obtain ⟨o, es, ep, t, ho, r⟩ := x
  exact ⟨o, es, ep, t, k o ho, r⟩
theorem KS.elems {l : List (Int × Value)} (g : ∀ e ∈ l, c.Good e) : ElemsOf c.knd l := fun e he => by
  obtain ⟨k, t, h1, h2⟩ := g e he
  exact ⟨⟨k, by rw [h1]; exact c.is k t, h2⟩, by rw [h1]; exact c.sc k t⟩
theorem KS.good_is {e : Int × Value} (g : c.Good e) (k : α) : c.knd.is k e.2 = true ↔ c.key e = k := by
  obtain ⟨k0, t, h1, _⟩ := g
  unfold KS.key
  rw [h1, c.kfm]
  exact ⟨fun h => (c.knd.inj _ _ _ h (c.is k0 t)).symm, fun h => h ▸ c.is k0 t⟩
theorem KS.mem {l : List (Int × Value)} (g : ∀ e ∈ l, c.Good e) (k : α) : k ∈ l.map c.key ↔ ∃ e ∈ l, c.knd.is k e.2 = true := by
  rw [List.mem_map]
  exact ⟨fun ⟨e, he, q⟩ => ⟨e, he, (KS.good_is (g e he) k).2 q⟩, fun ⟨e, he, q⟩ => ⟨e, he, (KS.good_is (g e he) k).1 q⟩⟩
section
variable {A : Around} {E : Value → Shared → Prop} {s : Shared} {a : Addr} {ks : List α}
theorem KS.tail {gv : Bool → Sem Unit} (hgv : ∀ (b : Bool) (u : Shared) (Y : Unit → Shared → Prop), Y () u → wpAny (model P w) A (gv b) Y E u)
    {o : Obj} {es : Array (Int × Value)} {ep : Nat} {t : SetTable} (ho : s.heap.get? a = some o) (hex : o.ExactSet) (hd : o.data = .set es ep t)
    {es1 : Array (Int × Value)} {t2 : SetTable} {ks' : List α} (g1 : ∀ e ∈ es1.toList, c.Good e) (nd1 : (es1.toList.map c.key).Nodup) (m1 : ∀ k, k ∈ ks' ↔ k ∈ es1.toList.map c.key)
    (hb1 : es1.size < scanBound) (hf2 : t2.fits es1.size = true) (hz : es1.size ≤ ks'.length) (hr : Ris t2.place.toList) (hl : w.params.followText "set-order" = true ∨ t2.led = true) {wasDummy : Bool} {Y : Option Bool → Shared → Prop}
    (hY : ∀ h', Heap.SameBut a s.heap h' → c.At h' a ks' → Y (some true) { s with heap := h' }) :
    wpAny (model P w) A (do
        storeSet a es1 t2
        if (!wasDummy && t2.tooFull) = true then do
            gv (relayAll t2 es1 (SetTable.grown es1.size)).2.2
            storeSet a (relayAll t2 es1 (SetTable.grown es1.size)).1 (relayAll t2 es1 (SetTable.grown es1.size)).2.1
            pure (some true)
          else pure (some true)) Y E s := by
  refine wpAny_bind (wpAny_storeSet_of ho hd ?_ (fits_of_scanBound hb1))
  have at1 := store_at (es' := es1) (t' := t2) ho hd
  have same1 := Heap.SameBut.update s.heap a (Obj.putSet es1 t2)
  by_cases hfull : (!wasDummy && t2.tooFull) = true
  · rw [if_pos hfull]
    have perm := relayAll_perm t2 es1 (SetTable.grown es1.size)
    have fit3 := relayAll_fits t2 es1 (SetTable.grown es1.size)
    have ris3 := relayAll_ris t2 es1 (SetTable.grown es1.size)
    have led3 := relayAll_led t2 es1 (SetTable.grown es1.size)
    generalize relayAll t2 es1 (SetTable.grown es1.size) = Z at perm fit3 ris3 led3 ⊢
    obtain ⟨es2, t3, gave⟩ := Z
    dsimp only at perm fit3 ris3 led3 ⊢
    have size2 : es2.size = es1.size := by rw [← Array.length_toList, perm.length_eq, Array.length_toList]
    have small2 : es2.size < scanBound := by rw [size2]; exact hb1
    refine wpAny_bind (hgv _ _ _ ?_)
    refine wpAny_bind (wpAny_storeSet_of at1 rfl ?_ (fits_of_scanBound small2))
    have at2 := store_at (es' := es2) (t' := t3) at1 rfl
    exact wpAny_pure (hY _ (same1.trans (Heap.SameBut.update _ a _)) ⟨_, es2, _, t3, at2, hex, rfl, fun e he => g1 e (perm.mem_iff.mp he), (perm.map c.key).nodup_iff.mpr nd1, fun k => (m1 k).trans (perm.map c.key).mem_iff.symm, small2, fit3, by rw [size2]; exact hz, ris3, hl.imp id fun z => by rw [led3]; exact z⟩)
  · rw [if_neg hfull]
    exact wpAny_pure (hY _ same1 ⟨_, es1, _, t2, at1, hex, rfl, g1, nd1, m1, hb1, hf2, hz, hr, hl⟩)
theorem KS.add {k : α} {tk : Tok} {Y : Bool → Shared → Prop} (R : c.At s.heap a ks) (room : ks.length + 1 < scanBound)
    (hY : ∀ b h', Heap.SameBut a s.heap h' → c.At h' a (ks ++ [k]) → Y b { s with heap := h' }) :
    wpAny (model P w) A (setAddHashed a (c.val k tk) (c.knd.hash k)) Y E s := by
  obtain ⟨o, es, ep, t, ho, hex, hd, g, nd, hm, hb, hf, hn, hr, hl⟩ := R
  have here : c.knd.is k (c.val k tk) = true := c.is k tk
  have scan : (c.val k tk).scannable = true := c.sc k tk
  have els : ElemsOf c.knd es.toList := KS.elems g
  unfold setAddHashed setAddHashedIn
  refine wpAny_holding (wpAny_bind (wpAny_setState_of ho hd hf ?_))
  dsimp only
  rw [byScan_of scan hb els]
  simp only [↓reduceIte]
  unfold setAddByScan
  refine wpAny_bind (wpAny_bind (wpAny_rule (wpAny_bind (wpAny_setScan_of here ho hd hf els ?_))))
  have mem' : ∀ i, i ∈ ks ++ [k] ↔ (i ∈ ks ∨ i = k) := fun i => by rw [List.mem_append, List.mem_singleton]
  cases hfi : List.findIdx? (fun e => c.knd.is k e.2) es.toList with
  | some j =>
    dsimp only
    obtain ⟨hj, pj, _⟩ := List.findIdx?_eq_some_iff_getElem.mp hfi
    have hin : k ∈ ks := (hm k).2 ((KS.mem g k).2 ⟨es.toList[j], List.getElem_mem hj, pj⟩)
    refine wpAny_pure (wpAny_pure (hY _ s.heap (Heap.SameBut.refl a s.heap) ⟨o, es, ep, t, ho, hex, hd, g, nd, fun i => ?_, hb, hf, by rw [List.length_append]; omega, hr, hl⟩))
    rw [mem' i, ← hm i]
    exact ⟨fun z => z.elim id (fun e => e ▸ hin), .inl⟩
  | none =>
    dsimp only
    have hnk : k ∉ es.toList.map c.key := fun z => by
      obtain ⟨e, he, q⟩ := (KS.mem g k).1 z
      have := List.findIdx?_eq_none_iff.mp hfi e he
      rw [q] at this
      cases this
    have hgw : ∀ (b : Bool) {u : Shared} {Y' : Unit → Shared → Prop}, Y' () u → wpAny (model P w) A (match b with | true => rule "set.scan.the-table-gave-way" | false => pure ()) Y' E u :=
      fun b u Y' q => by cases b; exact wpAny_pure q; exact wpAny_rule q
    have perm := layNew_perm t es (c.knd.hash k) (c.val k tk)
    have fit1 := layNew_fits t es (c.knd.hash k) (c.val k tk)
    have ris1 := layNew_ris t es (c.knd.hash k) (c.val k tk) hr
    have led1 := layNew_led t es (c.knd.hash k) (c.val k tk)
    generalize layNew t es (c.knd.hash k) (c.val k tk) = Z at perm fit1 ris1 led1 ⊢
    obtain ⟨es1, t1, wasDummy, gave⟩ := Z
    dsimp only at perm fit1 ris1 led1 ⊢
    rw [Array.toList_push] at perm
    have pc : es1.toList.Perm ((c.knd.hash k, c.val k tk) :: es.toList) := perm.trans (List.perm_append_singleton _ _)
    have pk : (es1.toList.map c.key).Perm (k :: es.toList.map c.key) := by
      have := pc.map c.key
      rw [List.map_cons, show c.key (c.knd.hash k, c.val k tk) = k from c.kfm k tk] at this
      exact this
    have g1 : ∀ e ∈ es1.toList, c.Good e := fun e he => by
      rcases List.mem_cons.mp (pc.mem_iff.mp he) with z | z
      · exact ⟨k, tk, by rw [z], by rw [z]⟩
      · exact g e z
    have nd1 : (es1.toList.map c.key).Nodup := pk.nodup_iff.mpr (List.nodup_cons.mpr ⟨hnk, nd⟩)
    have m1 : ∀ i, i ∈ ks ++ [k] ↔ i ∈ es1.toList.map c.key := fun i => by
      rw [mem' i, hm i, pk.mem_iff, List.mem_cons]
      exact Or.comm
    have size1 : es1.size = es.size + 1 := by rw [← Array.length_toList, pc.length_eq, List.length_cons, Array.length_toList]
    have hb1 : es1.size < scanBound := by omega
    have hz1 : es1.size ≤ (ks ++ [k]).length := by rw [List.length_append, size1]; show _ ≤ ks.length + 1; omega
    have hled : w.params.followText "set-order" = true ∨ t1.led = true := hl.imp id fun z => by rw [led1]; exact z
    refine wpAny_bind (hgw _ ?_)
    have fin : ∀ h', Heap.SameBut a s.heap h' → c.At h' a (ks ++ [k]) → Y true { s with heap := h' } := fun h' sb r => hY true h' sb r
    split
    · refine wpAny_bind ?_
      rw [hashByValue_scannable 8 scan]
      refine wpAny_pure ?_
      refine KS.tail ?_ ho hex hd g1 nd1 m1 hb1 ?_ hz1 ?_ ?_ ?_
      · intro b u Y' q
        exact hgw b q
      · first | (split <;> first | exact fit1 | exact SetTable.fits_plain_off fit1) | exact fit1
      · first | (split <;> exact ris1) | exact ris1
      · first | (split <;> exact hled) | exact hled
      · intro h' sb r
        dsimp only
        exact wpAny_pure (fin h' sb r)
    · refine wpAny_bind (wpAny_pure ?_)
      simp only [↓reduceIte]
      refine KS.tail (fun b u Y' q => hgw b q) ho hex hd g1 nd1 m1 hb1 fit1 hz1 ris1 hled ?_
      intro h' sb r
      dsimp only
      exact wpAny_pure (fin h' sb r)
end
end
end AL

set_option Elab.async false
set_option linter.all false
set_option maxRecDepth 100000
set_option maxHeartbeats 4000000
/-! set(a list) -/
namespace AL
open PySem PySem.Spec L2 PyProof.Rows
section
variable {P : Program} {w : World} {α : Type} [DecidableEq α] {c : KS P w α} {A : Around} {E : Value → Shared → Prop} {s : Shared}
def setNew (w : World) : Obj := { cls := .type "set", dict := none, data := .set #[] 0 (.fresh 0 0 (!w.params.followText "set-order")) }
theorem KS.new {h : Heap} {a : Addr} (ho : h.get? a = some (setNew w)) : c.At h a [] :=
  ⟨_, #[], 0, _, ho, ⟨rfl, rfl, rfl⟩, rfl, (fun e he => nomatch he), List.nodup_nil, (fun k => ⟨fun z => (nomatch z), fun z => (nomatch z)⟩), (by decide), rfl, Nat.le_refl _, List.Pairwise.nil, by
    show _ ∨ (!w.params.followText "set-order") = true
    cases w.params.followText "set-order"
    · exact .inr rfl
    · exact .inl rfl⟩
theorem KS.loop {I : Addr} {fp wr : List Addr} {G : Array GenState → Array GenState → Prop} {n : Nat} {Pv : Nat → Value → Prop} {St : Nat → Shared → Prop} {Y : Result → Shared → Prop}
    (W : WalksS P w A.in1 I fp wr G n Pv St) (S : Addr) (hSf : S ∉ fp) (ks : List α) (hn : n = ks.length) (hb : ks.length + 1 < scanBound) (hval : ∀ i v, Pv i v → ∃ k t, ks[i]? = some k ∧ v = c.val k t) :
    ∀ (d i : Nat) (s : Shared), n - i = d → i ≤ n → St i s → c.At s.heap S (ks.take i) → (∀ s', Moved (S :: wr) G s s' → c.At s'.heap S ks → Y (.ok (.ret .none)) s') →
      codeAny (model P w) A (.builtin "set.update.loop" ⟨[.ref S, .ref I], []⟩) Y s := by
  have hSw : S ∉ wr := fun h => hSf (W.sub _ h)
  have up : ∀ b ∈ wr, b ∈ S :: wr := fun b hb => List.mem_cons_of_mem _ hb
  intro d
  induction d with
  | zero =>
    intro i s hd hi hst hS hY
    have hin : i = n := by omega
    subst hin
    refine codeAny_builtin F.entry_set_update_loop ?_
    rw [Around.under_plainId F.plain_set_update_loop _]
    refine (show wpAny (model P w) A.in1 (pyNext (.ref I) >>= _) _ _ s from ?_)
    refine wpAny_bind (W.done s _ _ hst fun s' hm => (show wpAny (model P w) A.in1 (ret Value.none) _ _ s' from ?_))
    rw [List.take_of_length_le (by omega)] at hS
    exact wpAny_pure (hY s' (hm.mono up) (hS.keep fun o e => hm.heap S o hSw e))
  | succ d ih =>
    intro i s hd hi hst hS hY
    have hlt : i < n := by omega
    refine codeAny_builtin F.entry_set_update_loop ?_
    rw [Around.under_plainId F.plain_set_update_loop _]
    refine (show wpAny (model P w) A.in1 (pyNext (.ref I) >>= _) _ _ s from ?_)
    refine wpAny_bind (W.item i s _ _ hlt hst fun v s' hP hst' hm => ?_)
    obtain ⟨z, t, hz, rfl⟩ := hval i v hP
    have hS' : c.At s'.heap S (ks.take i) := hS.keep fun o e => hm.heap S o hSw e
    refine (show wpAny (model P w) A.in1 (holding [c.val z t] (setAdd S (c.val z t)) >>= _) _ _ s' from ?_)
    refine wpAny_bind (wpAny_holding ?_)
    unfold setAdd
    refine wpAny_holding (wpAny_bind (c.knd.pyHash (k := z) (c.is z t) ?_))
    refine KS.add (s := { s' with toks := s'.toks + 1 }) hS' (by rw [List.length_take]; omega) fun b h' hsb hS2 => ?_
    have e3 : ks.take i ++ [z] = ks.take (i + 1) := by rw [List.take_add_one, hz]; rfl
    rw [e3] at hS2
    refine wpAny_pure ⟨plainId_quiet F.plain_set_update_loop _, ih (i + 1) _ (by omega) hlt (W.frame _ s' _ _ hst' (Nat.le_succ _) fun b hb o e => ?_) hS2 fun s2 hm2 hS3 => ?_⟩
    · rw [hsb.2 b (fun q : b = S => hSf (by rw [← q]; exact hb))]; exact e
    · refine hY s2 (Moved.trans W.gtrans ((hm.mono up).then_heap (Nat.le_succ _) fun b o hb e => ?_) hm2) hS3
      rw [hsb.2 b (fun q : b = S => hb (by rw [q]; exact List.mem_cons_self))]; exact e

set_option maxRecDepth 100000 in
set_option maxHeartbeats 3200000 in
theorem KS.make {l : Addr} {items : Array Value} (ks : List α) {Y : Value → Shared → Prop} (hh : A.handled = none) (hl : s.heap.IsList l items) (hit : ∀ (i : Nat) v, items[i]? = some v → ∃ k t, ks[i]? = some k ∧ v = c.val k t) (hsz : items.size = ks.length) (hb : ks.length + 1 < scanBound)
    (h : ∀ (h' : Heap) (tk : Nat), c.At h' s.heap.objs.size ks → (∀ b o, s.heap.get? b = some o → h'.get? b = some o) → Y (.ref s.heap.objs.size) { s with heap := h', toks := tk }) :
    wpAny (model P w) A (call (.type "set") [.ref l]) Y E s := by
  obtain ⟨c0, tl, hmro⟩ := F.called_set.mro
  have hmade := F.called_set.made
  have hsub := F.called_set.sub
  refine wpAny_call (codeAny_of_tree (show wpAny (model P w) _ (callAny (.type "set") _) _ _ _ from ?_))
  refine wpAny_pure ⟨Code.quiet_builtin _ (by decide +kernel), codeAny_builtin F.entry_type_call ?_⟩
  rw [Around.under_plain (weight_type_call_type "set" [.ref l] []) rfl]
  have h1 := F.called_set.notType
  have h2 := F.called_set.canCreate
  have hct := F.typeCall_set_1 (.ref l)
  repeat (any_goals (first | assumption | wp_step))
  refine codeAny_mono (code_set_led1 (.ref l) (E := E) (Q₁ := fun obj u => obj = .ref s.heap.objs.size ∧ u = { s with heap := s.heap.push (setNew w) }) ⟨rfl, rfl⟩) fun r u hr => ?_
  cases r with
  | error e => exact hr
  | ok fl =>
    cases fl with
    | ret obj =>
      obtain ⟨rfl, rfl⟩ := hr
      have hS : (s.heap.push (setNew w)).get? s.heap.objs.size = some (setNew w) := Heap.get?_push_size _ rfl
      have hT : Shared.TypeIs { s with heap := s.heap.push (setNew w) } (.ref s.heap.objs.size) "set" := ⟨_, hS, rfl⟩
      have hli := F.called_set.init.lookup
      have hbi := F.called_set.init.bind (.ref s.heap.objs.size)
      repeat (any_goals (first | assumption | wp_step))
      refine codeAny_mono (codeAny_call_builtin (R := wants (fun r u => r = .none ∧ ∃ h' tk, u = { s with heap := h', toks := tk } ∧ c.At h' s.heap.objs.size ks ∧
          (∀ b o, s.heap.get? b = some o → h'.get? b = some o)) E) F.called_set.init.plain F.entry_set_init (check_set_init_1 hT ?_)) fun r₂ u₂ hr₂ => ?_
      · obtain ⟨ol, hol, hcl, nl, hdl⟩ := hl
        obtain ⟨ocls, odict, odata, oslots⟩ := ol
        simp only at hcl hdl
        subst hcl; subst hdl
        have hol' : (s.heap.push (setNew w)).get? l = some { cls := .type "list", dict := odict, data := .seq items nl, slots := oslots } := Heap.get?_push_of_some _ hol
        have hsls := F.sub_list_set
        have hslf := F.sub_list_frozenset
        have hne : (Value.type "list" == Value.type "dict") = false := by decide
        have hl1 : (s.heap.push (setNew w)).IsList l items := ⟨_, hol', rfl, nl, rfl⟩
        unfold Builtin.«set.__init__» noKeywords Builtin.Frozenset.updateFrom
        generalize hPI : pyIter = PI
        wp_walk
        subst hPI
        refine wpAny_pyIter_list hl1 (wpAny_bind (wpAny_runValue ?_))
        have hlS : l < s.heap.objs.size := Heap.lt_size hol
        have hh3 : A.in1.in1.in1.handled = none := by simp [hh]
        have hneI : l ≠ (s.heap.push (setNew w)).objs.size := by
          rw [Heap.size_push]; exact Nat.ne_of_lt (Nat.lt_succ_of_lt hlS)
        have hSf : s.heap.objs.size ∉ [(s.heap.push (setNew w)).objs.size, l] := by
          rw [Heap.size_push]; simp only [List.mem_cons, List.mem_singleton, List.not_mem_nil, or_false, not_or]
          exact ⟨Nat.ne_of_lt (Nat.lt_succ_self _), Nat.ne_of_gt hlS⟩
        refine KS.loop ((Walks.list hh3 _ l hneI items).toS) s.heap.objs.size hSf ks hsz hb hit (items.size - 0) 0 _ (by omega) (Nat.zero_le _)
          ⟨⟨_, Heap.get?_push_size _ rfl, rfl, rfl⟩, (hl1.push _)⟩ ?hS0 ?hR
        case hS0 => exact KS.new (Heap.get?_push_of_some _ hS)
        case hR =>
          intro s' hm hS'
          obtain ⟨h', g2, d', tk', os'⟩ := s'
          have eg : g2 = s.gens := hm.gens
          have ed : d' = s.drawn := hm.drawn
          have eo : os' = s.os := hm.os
          subst eg; subst ed; subst eo
          refine (show wpAny (model P w) _ _ _ _ _ from wpAny_pure (show wpAny (model P w) _ (ret Value.none) _ _ _ from ?_))
          refine wpAny_pure ⟨rfl, h', tk', rfl, hS', fun b o e => ?_⟩
          have lt0 : b < s.heap.objs.size := Heap.lt_size e
          have ne1 : b ≠ s.heap.objs.size := Nat.ne_of_lt lt0
          have ne2 : b ≠ (s.heap.push (setNew w)).objs.size := by
            rw [Heap.size_push]; exact Nat.ne_of_lt (Nat.lt_succ_of_lt lt0)
          exact hm.heap b o (by simp only [List.mem_cons, List.mem_singleton, List.not_mem_nil, or_false, not_or]; exact ⟨ne1, ne2⟩) (Heap.get?_push_of_some _ (Heap.get?_push_of_some _ e))
      · cases r₂ with
        | error e => exact hr₂
        | ok fl₂ =>
          cases fl₂ with
          | ret r =>
            obtain ⟨rfl, h', tk, rfl, hS', hk'⟩ := hr₂
            repeat (any_goals (first | assumption | wp_step))
            exact h _ _ hS' hk'
          | _ => exact hr₂.elim
    | _ => exact hr.elim
theorem strs_ats : ∀ {us : List Value} {ns : List Str}, StrsAre us ns → ∀ {i : Nat} {v : Value}, us[i]? = some v → ∃ k t, ns[i]? = some k ∧ v = Value.str k t
  | _, _, .nil, i, v, h => by simp at h
  | _, _, .cons k t r, 0, v, h => ⟨k, t, rfl, (Option.some.inj h).symm⟩
  | _, _, .cons k t r, i + 1, v, h => strs_ats r (i := i) h
theorem ints_ats : ∀ {us : List Value} {ns : List Int}, IntsAre us ns → ∀ {i : Nat} {v : Value}, us[i]? = some v → ∃ k t, ns[i]? = some k ∧ v = Value.int k t
  | _, _, .nil, i, v, h => by simp at h
  | _, _, .cons k t r, 0, v, h => ⟨k, t, rfl, (Option.some.inj h).symm⟩
  | _, _, .cons k t r, i + 1, v, h => ints_ats r (i := i) h
/-- sorted(a set of texts) -/
theorem strs_of : ∀ (l : List Value), (∀ v ∈ l, ∃ k tk, v = Value.str k tk) → StrsAre l (l.map (ksS P w).kf)
  | [], _ => .nil
  | v :: l, h => by
    obtain ⟨k, tk, rfl⟩ := h v List.mem_cons_self
    exact .cons k tk (strs_of l fun u hu => h u (List.mem_cons_of_mem _ hu))
theorem sorted_setS {ks : List Str} {a : Addr} {Y : Value → Shared → Prop} (R : (ksS P w).At s.heap a ks) (hh : A.handled = none) (h64 : ks.length < 64)
    (hY : ∀ s' p (out : Array Value) (n : Nat) (ys : List Str), (∀ b o, s.heap.get? b = some o → s'.heap.get? b = some o) → s'.gens = s.gens → s'.os = s.os → s.heap.objs.size ≤ p →
      s'.heap.get? p = some (seqObj "list" out n) → StrsAre out.toList ys → sortedS ys = true → ys.Nodup → (∀ k, k ∈ ys ↔ k ∈ ks) → ys.length ≤ ks.length → Y (.ref p) s') :
    wpAny (model P w) A (call (.builtin "sorted") [.ref a]) Y E s := by
  obtain ⟨o, es, ep, t, ho, hex, hd, g, nd, hm, hb, hf, hn, hr, hl⟩ := R
  refine Calls.call_function_entry kind_sorted plain_sorted entry_sorted (args_sorted1 _) ?_
  unfold Builtin.«sorted»
  refine wpAny_bind (m := checkCount "sorted" 1 1 _) (wpAny_pure (wpAny_bind (collect_set (A := A.in1) hh ⟨o, ho, hex.1, hd⟩ hf hb hr hl fun s1 vs k1 hz g1 o1 pm => ?_)))
  have vlen : vs.length = es.size := by rw [pm.length_eq, List.length_map, Array.length_toList]
  have hS : StrsAre vs (vs.map (ksS P w).kf) := strs_of vs fun v hv => by
    obtain ⟨e, he, q⟩ := List.mem_map.mp (pm.mem_iff.mp hv)
    obtain ⟨k, tk, h1, _⟩ := g e he
    exact ⟨k, tk, by rw [← q]; exact h1⟩
  have pk : (vs.map (ksS P w).kf).Perm (es.toList.map (ksS P w).key) := by
    have q := pm.map (ksS P w).kf
    rw [List.map_map] at q
    exact q
  refine wpAny_bind (wpAny_newList ?_ (by rw [vlen, sizeLine_eq]; omega))
  have atL : (s1.heap.push (seqObj "list" vs.toArray 0)).get? s1.heap.objs.size = some (seqObj "list" vs.toArray 0) := Heap.get?_push_size _ rfl
  refine wpAny_bind (wpAny_holding (wpAny_call_entry slot_list_sort ⟨_, atL, rfl⟩ entry_list_sort
    (list_sort_treeK strKind_oneLt atL hS.keysOf (fun v₁ v₂ rest e => keyKind_strs (by rw [← e]; exact hS)) (by omega) fun st' a1 a2 => ⟨_, rfl, ?_⟩) (args_list_sort _)))
  obtain ⟨ys, b1, b2, b3⟩ := sorted_out_str hS a1 a2
  obtain ⟨n, hc⟩ := sortedHeap_at (vs := vs) (out := (arrOf st').map (·.2)) atL
  have pn : ys.Perm (es.toList.map (ksS P w).key) := b2.trans pk
  refine wpAny_pure ⟨_, rfl, hY _ s1.heap.objs.size _ n ys (fun b u e => ?_) g1 o1 hz hc b1 b3 (pn.nodup_iff.mpr nd) (fun k => by rw [pn.mem_iff, ← hm k]) ?_⟩
  · have q := k1 b u e
    have lt := Heap.lt_size q
    refine (show (sortedHeap (s1.heap.push (seqObj "list" vs.toArray 0)) s1.heap.objs.size vs _).get? b = some u from ?_)
    rw [sortedHeap_old (Nat.ne_of_lt lt) (by rw [size_push']; exact Nat.lt_succ_of_lt lt)]
    exact Heap.get?_push_of_some _ q
  · rw [pn.length_eq, List.length_map, Array.length_toList]; exact hn
theorem KS.toR {ks : List Int} {h : Heap} {a : Addr} (R : (ksI P w).At h a ks) : ∃ n, n ≤ ks.length ∧ SetR w h a (fun k => decide (k ∈ ks)) n := by
  obtain ⟨o, es, ep, t, ho, hex, hd, g, nd, hm, hb, hf, hn, hr, hl⟩ := R
  refine ⟨es.size, hn, o, es, ep, t, ho, hex, hd, fun e he => ?_, ?_, fun k => ?_, hb, hf, rfl, hr, hl⟩
  · obtain ⟨k, tk, h1, h2⟩ := g e he
    exact ⟨k, tk, h1, h2⟩
  · exact nd
  · rw [decide_eq_true_iff]
    exact hm k
end
section
variable {X : Cx}
/-- sorted(set(xs)), fewer than 64 texts or ints -/
def tSortSet (K : Frg) (ta : TE) : TE := fun σ H Q => ta σ H fun x H1 =>
  (∃ (l : Addr) (xs : List Str), x = .ref l ∧ SqL K H1 l (xs.map V.str) ∧ xs.length < 64 ∧ ∀ (ys : List Str) (p : Addr), sortedS ys = true → ys.Nodup → (∀ y, y ∈ ys ↔ y ∈ xs) → ys.length ≤ xs.length → H1 p = none → Q (.ref p) (upd H1 p (.lst (ys.map V.str)))) ∨
  (∃ (l : Addr) (xs : List Int), x = .ref l ∧ SqL K H1 l (xs.map V.int) ∧ xs.length < 64 ∧ ∀ (ys : List Int) (p : Addr), ys.Pairwise (· < ·) → (∀ y, y ∈ ys ↔ y ∈ xs) → ys.length ≤ xs.length → H1 p = none → Q (.ref p) (upd H1 p (.lst (ys.map V.int))))
theorem pe_sortSet {a : Expr} {ta : TE} {p p2 q pos : Pos} (hc : X.calm = true) (hg : Gl X "sorted") (hm : X.mg "sorted" = none) (hg2 : Gl X "set") (hm2 : X.mg "set" = none) (ha : PE X a ta)
    (na : starEach [a] X.env = (false, eval a X.env) :: starEach [] X.env := by rfl) : PE X (.Call (.Name "sorted" p) [.Call (.Name "set" p2) [a] [] q] [] pos) (tSortSet X.K ta) := by
  refine ⟨fun pins s σ H Q I h => Call_ (ld_blt I hg hm boot_sorted (PyProof.Rows.callWith_builtin1 (PyProof.Rows.args_cons ?_ rfl) rfl rfl))⟩
  refine Call_ (ld_blt I hg2 hm2 boot_set (PyProof.Rows.callWith_type1 (PyProof.Rows.args_cons (thn (ha.run pins s σ H _ I h) fun v s1 ⟨x, H1, I1, r1, q1⟩ => PyProof.Rows.args_nil ?_) na) na rfl))
  have fin : ∀ (h' : Heap) (tk : Nat), (∀ b o, s1.heap.get? b = some o → h'.get? b = some o) → Inv X pins σ H1 { s1 with heap := h', toks := tk } := fun h' tk hk => I1.kept fun b o e => hk b o e
  have hend : ∀ (u : Shared) (J0 : Inv X pins σ H1 u) (s' : Shared) (pp : Addr) (out : Array Value) (n : Nat) (vs : List V), (∀ b o, u.heap.get? b = some o → s'.heap.get? b = some o) → s'.gens = u.gens → s'.os = u.os → u.heap.objs.size ≤ pp →
      s'.heap.get? pp = some (seqObj "list" out n) → Vals vs out.toList → vs.length < 64 → (H1 pp = none → Q (.ref pp) (upd H1 pp (.lst vs))) → EP X pins σ Q (.ref pp) s' := by
    intro u J0 s' pp out n vs k g o hp hat hv h64 hq
    have hlen : vs.length ≤ sizeLine := by rw [sizeLine_eq]; omega
    have hn : H1 pp = none := J0.hok.fresh hp
    have J : Inv X pins σ (upd H1 pp (.lst vs)) { u with heap := s'.heap, gens := s'.gens, drawn := s'.drawn, toks := s'.toks } :=
      J0.call (ch := []) (Un.laid k hp hn) (J0.hok.laid k hp ⟨hlen, out.toList, n, hv, hat⟩) (by rw [g]; exact J0.bare) (fun _ z => nomatch z)
    have e : s' = { u with heap := s'.heap, gens := s'.gens, drawn := s'.drawn, toks := s'.toks } := by
      cases s'
      cases u
      cases o
      rfl
    rw [e]
    exact ⟨.ref pp, _, J, rfl, hq hn⟩
  rcases q1 with ⟨l, xs, rfl, hq, h64, q1⟩ | ⟨l, xs, rfl, hq, h64, q1⟩
  · cases r1
    obtain ⟨its, rv, pl, hz⟩ := I1.list hq
    have hS := rv.strs
    have hlen := rv.length
    rw [List.length_map] at hlen
    refine KS.make (c := ksS X.prog X.w) xs (I1.ok.hd hc) pl.isList (fun i v hv => ?_) (by rw [List.size_toArray]; exact hlen.symm) (by unfold scanBound; omega) fun h' tk hR hk => ?_
    · exact strs_ats hS (by simpa using hv)
    · refine PyProof.Rows.args_nil ?_
      refine sorted_setS (P := X.prog) (w := X.w) (s := { s1 with heap := h', toks := tk }) hR (I1.ok.hd hc) h64 fun s' pp out n ys k g o hp hat hs h1 h2 h3 h4 => ?_
      exact hend _ (fin h' tk hk) s' pp out n _ k g o hp hat (vals_of_strs hs) (by rw [List.length_map]; omega) fun hn => q1 ys pp h1 h2 h3 h4 hn
  · cases r1
    obtain ⟨its, rv, pl, hz⟩ := I1.list hq
    have hS := ints_of_vals rv
    have hlen := rv.length
    rw [List.length_map] at hlen
    refine KS.make (c := ksI X.prog X.w) xs (I1.ok.hd hc) pl.isList (fun i v hv => ?_) (by rw [List.size_toArray]; exact hlen.symm) (by unfold scanBound; omega) fun h' tk hR hk => ?_
    · exact ints_ats hS (by simpa using hv)
    · refine PyProof.Rows.args_nil ?_
      obtain ⟨m, hm, hR⟩ := KS.toR hR
      refine sorted_set (s := { s1 with heap := h', toks := tk }) hR (I1.ok.hd hc) (by omega) fun s' pp out n ys k g o hp hat hi hs hmm hl => ?_
      exact hend _ (fin h' tk hk) s' pp out n _ k g o hp hat (vals_of_ints hi) (by rw [List.length_map]; omega) fun hn => q1 ys pp hs (fun y => by rw [hmm y, decide_eq_true_iff]) (by omega) hn
end
end AL

set_option Elab.async false
set_option linter.all false
set_option maxRecDepth 100000
set_option maxHeartbeats 4000000
/-! sorted(set(..)), min of a list, dict of a list of pairs: the abstract rules -/
namespace AL
open PySem L2 PyProof.Rows
section
variable {Γ : Cg} {K : Frg} {F : Hp} {ms : Ms} {S : Sg} {Q : QE} {ta : TE}
theorem pe_sortSetk {X : Cx} {a : Expr} {ta : TE} {p p2 q pos : Pos} (h : X.K = K) (hc : X.calm = true) (hg : Gl X "sorted") (hm : X.mg "sorted" = none) (hg2 : Gl X "set") (hm2 : X.mg "set" = none) (ha : PE X a ta)
    (na : starEach [a] X.env = (false, eval a X.env) :: starEach [] X.env := by rfl) : PE X (.Call (.Name "sorted" p) [.Call (.Name "set" p2) [a] [] q] [] pos) (tSortSet K ta) := h ▸ pe_sortSet hc hg hm hg2 hm2 ha na
theorem ae_sortSetS (h : AE Γ ta F ms S fun F1 ms1 x => ∃ xs : List Str, LstA F1 ms1 x (xs.map D.str) ∧ xs.length < 64 ∧ ∀ F2 (ys : List Str), Ex F1 F2 → sortedS ys = true → ys.Nodup → (∀ y, y ∈ ys ↔ y ∈ xs) → ys.length ≤ xs.length → Q F2 ms1 (.lst (ys.map D.str))) :
    AE Γ (tSortSet Γ.K ta) F ms S Q := fun R σ H Qc hs hh x k =>
  h R σ H _ hs hh x fun F1 ms1 d v H1 e1 h1 r1 ⟨xs, hl, h64, q⟩ => by
    obtain ⟨a, us, rfl, ha, rr⟩ := hl.to h1 r1
    have e := rep_strs rr
    subst e
    refine .inl ⟨a, xs, rfl, ha, h64, fun ys p y1 y2 y3 y4 hp => ?_⟩
    obtain ⟨e2, h2⟩ := h1.laid (.lst (ys.map V.str)) hp
    refine k _ ms1 (.lst _) _ _ (e1.trans e2) h2 (.lst upd_same (rep_strl ys)) (q _ ys e2 y1 y2 y3 y4)
theorem rep_intl' : ∀ ns : List Int, RepL K F (ns.map D.int) (ns.map V.int)
  | [] => .nil
  | n :: ns => .cons (.int n) (rep_intl' ns)
theorem ae_sortSetI (h : AE Γ ta F ms S fun F1 ms1 x => ∃ xs : List Int, LstA F1 ms1 x (xs.map D.int) ∧ xs.length < 64 ∧ ∀ F2 (ys : List Int), Ex F1 F2 → ys.Pairwise (· < ·) → (∀ y, y ∈ ys ↔ y ∈ xs) → ys.length ≤ xs.length → Q F2 ms1 (.lst (ys.map D.int))) :
    AE Γ (tSortSet Γ.K ta) F ms S Q := fun R σ H Qc hs hh x k =>
  h R σ H _ hs hh x fun F1 ms1 d v H1 e1 h1 r1 ⟨xs, hl, h64, q⟩ => by
    obtain ⟨a, us, rfl, ha, rr⟩ := hl.to h1 r1
    have e := rep_ints rr
    subst e
    refine .inr ⟨a, xs, rfl, ha, h64, fun ys p y1 y2 y3 hp => ?_⟩
    obtain ⟨e2, h2⟩ := h1.laid (.lst (ys.map V.int)) hp
    refine k _ ms1 (.lst _) _ _ (e1.trans e2) h2 (.lst upd_same (rep_intl' ys)) (q _ ys e2 y1 y2 y3)
theorem kMINL {X : Cx} (h : X.K = K) (hc : X.calm = true) : CallR X (.builtin "min") (rMin K) := h ▸ cr_min hc
theorem ac_minL {d : D} {ns : List Int} (hl : LstA F ms d (ns.map D.int)) (h0 : 0 < ns.length) (q : ∀ m, m ∈ ns → (∀ y, y ∈ ns → m ≤ y) → Q F ms (.int m)) : AC K (rMin K) [d] F ms Q := ac1 fun R v H Qc hv hh k => by
  obtain ⟨a, us, rfl, ha, rr⟩ := hl.to hh hv
  have e := rep_ints rr
  subst e
  exact ⟨a, ns, rfl, ha, h0, fun m h1 h2 => k F ms _ _ H Ex.refl hh (.int m) (q m h1 h2)⟩
def rDICT (K : Frg) : List V → Hp → VK → Prop := fun xs H Q => ∃ (a : Addr) (ps : List Addr) (kvs : List (Key × V)), xs = [.ref a] ∧ SqL K H a (ps.map V.ref) ∧ Paired (fun p kv => SqT K H p [kV kv.1, kv.2]) ps kvs ∧ ∀ p, H p = none → Q (.ref p) (upd H p (.dK (mergeK [] kvs)))
theorem kDICT {X : Cx} (h : X.K = K) (hc : X.calm = true) : CallR X (.type "dict") (rDICT K) := h ▸ call_dictP hc
def mergeKD (kvs more : List (Key × D)) : List (Key × D) := more.foldl (fun acc kv => putKD acc kv.1 kv.2) kvs
theorem RepK.merge : ∀ {more : List (Key × D)} {mv : List (Key × V)} {ds : List (Key × D)} {vs : List (Key × V)}, RepK K F more mv → RepK K F ds vs → RepK K F (mergeKD ds more) (mergeK vs mv)
  | _, _, _, _, .nil, q => q
  | _, _, _, _, .cons h r, q => by
    unfold mergeKD mergeK
    rw [List.foldl_cons, List.foldl_cons]
    exact RepK.merge r (q.put h _)
theorem kd_inv {H : Hp} : ∀ {kvs : List (Key × D)} {vs : List V}, Ex F H → RepL K F (kvs.map fun p => D.tup [kD p.1, p.2]) vs → ∃ (ps : List Addr) (kv : List (Key × V)), vs = ps.map V.ref ∧ Paired (fun p kv => SqT K H p [kV kv.1, kv.2]) ps kv ∧ RepK K F kvs kv
  | [], _, e, .nil => ⟨[], [], rfl, .nil, .nil⟩
  | (k, d) :: kvs, _, e, .cons h r => by
    obtain ⟨ps, kv, e1, e2, e3⟩ := kd_inv e r
    cases h with
    | @tup a xs _ hq rr =>
      cases rr with
      | cons h1 rr =>
        cases rr with
        | @cons _ v _ _ h2 rr =>
          cases rr
          have hk : ∀ {u : V}, Rep K F (kD k) u → u = kV k := by
            intro u hu
            cases k with
            | inl i => cases hu; rfl
            | inr s => cases hu; rfl
          have hk := hk h1
          subst hk
          exact ⟨a :: ps, (k, v) :: kv, by rw [e1]; rfl, .cons (ex_t e hq) e2, .cons h2 e3⟩
theorem ac_dictP {d : D} {kvs : List (Key × D)} (hl : LstA F ms d (kvs.map fun p => D.tup [kD p.1, p.2])) (q : ∀ l, Q F ((l, .dic (mergeKD [] kvs)) :: ms) (.ref l)) : AC K (rDICT K) [d] F ms Q := ac1 fun R v H Qc hv hh k => by
  obtain ⟨a, us, rfl, ha, rr⟩ := hl.to hh hv
  obtain ⟨ps, kv, e1, e2, e3⟩ := kd_inv hh.ex rr
  subst e1
  refine ⟨a, ps, kv, rfl, ha, e2, fun p hp => ?_⟩
  exact k F ((p, .dic (mergeKD [] kvs)) :: ms) (.ref p) _ _ Ex.refl (hh.made (m := .dic (mergeKD [] kvs)) hp ⟨_, upd_same, RepK.merge e3 .nil⟩) (.ref p) (q p)
theorem merge_new : ∀ (kvs acc : List (Key × D)), ((acc ++ kvs).map (·.1)).Nodup → mergeKD acc kvs = acc ++ kvs
  | [], acc, _ => by rw [List.append_nil]; rfl
  | p :: kvs, acc, h => by
    have hn : acc.any (fun kv => decide (kv.1 = p.1)) = false := by
      rw [List.any_eq_false]
      intro x hx hxp
      have hxp := of_decide_eq_true hxp
      rw [List.map_append] at h
      exact (List.nodup_append.mp h).2.2 x.1 (List.mem_map_of_mem hx) p.1 (by rw [List.map_cons]; exact List.mem_cons_self ..) hxp
    have e : putKD acc p.1 p.2 = acc ++ [p] := by unfold putKD; rw [hn]; rfl
    show mergeKD (putKD acc p.1 p.2) kvs = _
    rw [e, merge_new kvs (acc ++ [p]) (by rw [List.append_assoc]; exact h), List.append_assoc]
    rfl
end
end AL

set_option Elab.async false
set_option linter.all false
set_option maxRecDepth 100000
set_option maxHeartbeats 4000000
namespace K36
open PySem L2 PyProof.Rows AL
def top (i : Nat) : Stmt := PySem.Challenge.pw_marqueeletters_k36_whole_seasons_as_text.main.body.getD i (.Pass ⟨0, 0, 0, 0⟩)
abbrev s_is_int_in : Stmt := top 15
abbrev s_is_pair : Stmt := top 16
abbrev s_Sign___init__ : Stmt := inClass (top 17) 0
abbrev s_Sign_blank : Stmt := inClass (top 17) 2
abbrev s_Sign_piece : Stmt := inClass (top 17) 3
abbrev s_Sign_row_of : Stmt := inClass (top 17) 5
abbrev s_Sign_is_text : Stmt := inClass (top 17) 7
abbrev s_Sign_check_texts : Stmt := inClass (top 17) 8
abbrev s_links : Stmt := top 19
abbrev s_surplus : Stmt := top 20
abbrev s_groups : Stmt := top 21
abbrev s_shares : Stmt := top 22
abbrev s_is_closed : Stmt := top 23
abbrev s_cost : Stmt := top 24
abbrev s_offsets_of : Stmt := top 26
abbrev s_check_offsets : Stmt := top 27
abbrev s_add : Stmt := top 28
abbrev s_fixed_cost : Stmt := top 29
abbrev s_costs_from : Stmt := top 30
abbrev s_best_of : Stmt := top 31
abbrev s_season_cost : Stmt := top 32
abbrev s_read_number : Stmt := top 41
abbrev s_format_season : Stmt := top 42
abbrev s_parse_season : Stmt := top 43
abbrev s_encode : Stmt := top 44
abbrev s_Reader___init__ : Stmt := inClass (top 45) 0
abbrev s_Reader_read_byte : Stmt := inClass (top 45) 1
abbrev s_Reader_read_letter : Stmt := inClass (top 45) 2
abbrev s_Reader_read_pairs : Stmt := inClass (top 45) 3
abbrev s_Reader_read_text : Stmt := inClass (top 45) 4
abbrev s_decode : Stmt := top 46
abbrev s__law_random : Stmt := top 48
abbrev s__law_below : Stmt := top 49
abbrev s__law_shuffled : Stmt := top 50
abbrev s__law_pairs : Stmt := top 51
abbrev s__law_text : Stmt := top 52
abbrev s__law_texts : Stmt := top 53
abbrev s_law : Stmt := top 54
abbrev N_is_int_in : List Str := ["value", "low", "high"]
theorem sc_is_int_in : FnScope N_is_int_in ["value", "low", "high"] (defScope s_is_int_in) := ⟨rfl, rfl, rfl, by decide +kernel, rfl, by decide +kernel, by decide +kernel⟩
abbrev N_is_pair : List Str := ["value"]
theorem sc_is_pair : FnScope N_is_pair ["value"] (defScope s_is_pair) := ⟨rfl, rfl, rfl, by decide +kernel, rfl, by decide +kernel, by decide +kernel⟩
abbrev N_Sign___init__ : List Str := ["self", "width", "pairs", "index", "pair"]
theorem sc_Sign___init__ : FnScope N_Sign___init__ ["self", "width", "pairs"] (defScope s_Sign___init__) := ⟨rfl, rfl, rfl, by decide +kernel, rfl, by decide +kernel, by decide +kernel⟩
abbrev N_Sign_blank : List Str := ["self"]
theorem sc_Sign_blank : FnScope N_Sign_blank ["self"] (defScope s_Sign_blank) := ⟨rfl, rfl, rfl, by decide +kernel, rfl, by decide +kernel, by decide +kernel⟩
abbrev N_Sign_piece : List Str := ["self", "letter"]
theorem sc_Sign_piece : FnScope N_Sign_piece ["self", "letter"] (defScope s_Sign_piece) := ⟨rfl, rfl, rfl, by decide +kernel, rfl, by decide +kernel, by decide +kernel⟩
abbrev N_Sign_row_of : List Str := ["self", "text", "offset"]
theorem sc_Sign_row_of : FnScope N_Sign_row_of ["self", "text", "offset"] (defScope s_Sign_row_of) := ⟨rfl, rfl, rfl, by decide +kernel, rfl, by decide +kernel, by decide +kernel⟩
abbrev N_Sign_is_text : List Str := ["self", "value", "letter"]
theorem sc_Sign_is_text : FnScope N_Sign_is_text ["self", "value"] (defScope s_Sign_is_text) := ⟨rfl, rfl, rfl, by decide +kernel, rfl, by decide +kernel, by decide +kernel⟩
abbrev N_Sign_check_texts : List Str := ["self", "texts", "index", "text"]
theorem sc_Sign_check_texts : FnScope N_Sign_check_texts ["self", "texts"] (defScope s_Sign_check_texts) := ⟨rfl, rfl, rfl, by decide +kernel, rfl, by decide +kernel, by decide +kernel⟩
abbrev N_links : List Str := ["sign", "before", "after", "found", "place", "old", "new"]
theorem sc_links : FnScope N_links ["sign", "before", "after"] (defScope s_links) := ⟨rfl, rfl, rfl, by decide +kernel, rfl, by decide +kernel, by decide +kernel⟩
abbrev N_surplus : List Str := ["changed", "counts", "place", "old", "new", "piece", "count"]
theorem sc_surplus : FnScope N_surplus ["changed"] (defScope s_surplus) := ⟨rfl, rfl, rfl, by decide +kernel, rfl, by decide +kernel, by decide +kernel⟩
abbrev N_groups : List Str := ["changed", "found", "link", "together", "others", "group"]
theorem sc_groups : FnScope N_groups ["changed"] (defScope s_groups) := ⟨rfl, rfl, rfl, by decide +kernel, rfl, by decide +kernel, by decide +kernel⟩
abbrev N_shares : List Str := ["group", "link", "pieces", "place", "old", "new", "piece"]
theorem sc_shares : FnScope N_shares ["group", "link"] (defScope s_shares) := ⟨rfl, rfl, rfl, by decide +kernel, rfl, by decide +kernel, by decide +kernel⟩
abbrev N_is_closed : List Str := ["group", "place", "old", "new"]
theorem sc_is_closed : FnScope N_is_closed ["group"] (defScope s_is_closed) := ⟨rfl, rfl, rfl, by decide +kernel, rfl, by decide +kernel, by decide +kernel⟩
abbrev N_cost : List Str := ["sign", "before", "after", "changed", "filled", "place", "old", "new", "closed", "group", "turned"]
theorem sc_cost : FnScope N_cost ["sign", "before", "after"] (defScope s_cost) := ⟨rfl, rfl, rfl, by decide +kernel, rfl, by decide +kernel, by decide +kernel⟩
abbrev N_offsets_of : List Str := ["sign", "text"]
theorem sc_offsets_of : FnScope N_offsets_of ["sign", "text"] (defScope s_offsets_of) := ⟨rfl, rfl, rfl, by decide +kernel, rfl, by decide +kernel, by decide +kernel⟩
abbrev N_check_offsets : List Str := ["sign", "texts", "offsets", "index", "offset"]
theorem sc_check_offsets : FnScope N_check_offsets ["sign", "texts", "offsets"] (defScope s_check_offsets) := ⟨rfl, rfl, rfl, by decide +kernel, rfl, by decide +kernel, by decide +kernel⟩
abbrev N_add : List Str := ["one", "other"]
theorem sc_add : FnScope N_add ["one", "other"] (defScope s_add) := ⟨rfl, rfl, rfl, by decide +kernel, rfl, by decide +kernel, by decide +kernel⟩
abbrev N_fixed_cost : List Str := ["sign", "texts", "offsets", "total", "row", "text", "offset", "shown"]
theorem sc_fixed_cost : FnScope N_fixed_cost ["sign", "texts", "offsets"] (defScope s_fixed_cost) := ⟨rfl, rfl, rfl, by decide +kernel, rfl, by decide +kernel, by decide +kernel⟩
abbrev N_costs_from : List Str := ["sign", "texts", "layers", "offset", "index", "layer"]
theorem sc_costs_from : FnScope N_costs_from ["sign", "texts"] (defScope s_costs_from) := ⟨rfl, rfl, rfl, by decide +kernel, rfl, by decide +kernel, by decide +kernel⟩
abbrev N_best_of : List Str := ["sign", "row", "text", "layer", "best", "ways", "offset", "later", "count", "total"]
theorem sc_best_of : FnScope N_best_of ["sign", "row", "text", "layer"] (defScope s_best_of) := ⟨rfl, rfl, rfl, by decide +kernel, rfl, by decide +kernel, by decide +kernel⟩
abbrev N_season_cost : List Str := ["sign", "texts"]
theorem sc_season_cost : FnScope N_season_cost ["sign", "texts"] (defScope s_season_cost) := ⟨rfl, rfl, rfl, by decide +kernel, rfl, by decide +kernel, by decide +kernel⟩
abbrev N_read_number : List Str := ["word", "digit"]
theorem sc_read_number : FnScope N_read_number ["word"] (defScope s_read_number) := ⟨rfl, rfl, rfl, by decide +kernel, rfl, by decide +kernel, by decide +kernel⟩
abbrev N_format_season : List Str := ["sign", "texts", "offsets", "lines", "text", "offset"]
theorem sc_format_season : FnScope N_format_season ["sign", "texts", "offsets"] (defScope s_format_season) := ⟨rfl, rfl, rfl, by decide +kernel, rfl, by decide +kernel, by decide +kernel⟩
abbrev N_parse_season : List Str := ["text", "lines", "words", "width", "texts", "offsets", "line", "word", "rest", "offset", "sign"]
theorem sc_parse_season : FnScope N_parse_season ["text"] (defScope s_parse_season) := ⟨rfl, rfl, rfl, by decide +kernel, rfl, by decide +kernel, by decide +kernel⟩
abbrev N_encode : List Str := ["sign", "texts", "result", "pair", "letter", "text"]
theorem sc_encode : FnScope N_encode ["sign", "texts"] (defScope s_encode) := ⟨rfl, rfl, rfl, by decide +kernel, rfl, by decide +kernel, by decide +kernel⟩
abbrev N_Reader___init__ : List Str := ["self", "code"]
theorem sc_Reader___init__ : FnScope N_Reader___init__ ["self", "code"] (defScope s_Reader___init__) := ⟨rfl, rfl, rfl, by decide +kernel, rfl, by decide +kernel, by decide +kernel⟩
abbrev N_Reader_read_byte : List Str := ["self", "low", "high"]
theorem sc_Reader_read_byte : FnScope N_Reader_read_byte ["self", "low", "high"] (defScope s_Reader_read_byte) := ⟨rfl, rfl, rfl, by decide +kernel, rfl, by decide +kernel, by decide +kernel⟩
abbrev N_Reader_read_letter : List Str := ["self", "used", "letter"]
theorem sc_Reader_read_letter : FnScope N_Reader_read_letter ["self", "used"] (defScope s_Reader_read_letter) := ⟨rfl, rfl, rfl, by decide +kernel, rfl, by decide +kernel, by decide +kernel⟩
abbrev N_Reader_read_pairs : List Str := ["self", "used", "count", "index"]
theorem sc_Reader_read_pairs : FnScope N_Reader_read_pairs ["self"] (defScope s_Reader_read_pairs) := ⟨rfl, rfl, rfl, by decide +kernel, rfl, by decide +kernel, by decide +kernel⟩
abbrev N_Reader_read_text : List Str := ["self", "width", "length", "letters", "index", "high"]
theorem sc_Reader_read_text : FnScope N_Reader_read_text ["self", "width"] (defScope s_Reader_read_text) := ⟨rfl, rfl, rfl, by decide +kernel, rfl, by decide +kernel, by decide +kernel⟩
abbrev N_decode : List Str := ["code", "reader", "width", "sign", "texts", "index", "checksum"]
theorem sc_decode : FnScope N_decode ["code"] (defScope s_decode) := ⟨rfl, rfl, rfl, by decide +kernel, rfl, by decide +kernel, by decide +kernel⟩
abbrev N__law_random : List Str := ["_law_script", "_law_salt", "_law_seed", "_law_cell"]
theorem sc__law_random : FnScope N__law_random ["_law_script", "_law_salt"] (defScope s__law_random) := ⟨rfl, rfl, rfl, by decide +kernel, rfl, by decide +kernel, by decide +kernel⟩
abbrev N__law_below : List Str := ["_law_d", "_law_limit", "_law_result"]
theorem sc__law_below : FnScope N__law_below ["_law_d", "_law_limit"] (defScope s__law_below) := ⟨rfl, rfl, rfl, by decide +kernel, rfl, by decide +kernel, by decide +kernel⟩
abbrev N__law_shuffled : List Str := ["_law_d", "_law_items", "_law_pool", "_law_result"]
theorem sc__law_shuffled : FnScope N__law_shuffled ["_law_d", "_law_items"] (defScope s__law_shuffled) := ⟨rfl, rfl, rfl, by decide +kernel, rfl, by decide +kernel, by decide +kernel⟩
abbrev N__law_pairs : List Str := ["_law_d", "_law_letters", "_law_shuffled_here", "_law_many", "_law_k"]
theorem sc__law_pairs : FnScope N__law_pairs ["_law_d", "_law_letters"] (defScope s__law_pairs) := ⟨rfl, rfl, rfl, by decide +kernel, rfl, by decide +kernel, by decide +kernel⟩
abbrev N__law_text : List Str := ["_law_d", "_law_most", "_law_letters", "_law_length", "_law_signs", "_law_inner", "_law_k", "_law_first", "_law_last"]
theorem sc__law_text : FnScope N__law_text ["_law_d", "_law_most", "_law_letters"] (defScope s__law_text) := ⟨rfl, rfl, rfl, by decide +kernel, rfl, by decide +kernel, by decide +kernel⟩
abbrev N__law_texts : List Str := ["_law_d", "_law_most", "_law_width", "_law_letters", "_law_k"]
theorem sc__law_texts : FnScope N__law_texts ["_law_d", "_law_most", "_law_width", "_law_letters"] (defScope s__law_texts) := ⟨rfl, rfl, rfl, by decide +kernel, rfl, by decide +kernel, by decide +kernel⟩
abbrev N_law : List Str := ["_law_script", "_law_d", "_law_letters", "_law_width", "_law_pairs_here", "_law_sign", "_law_texts_here", "_law_offsets", "_law_text_here", "_law_read", "_law_shown", "_law_places", "_law_lines", "_law_k", "_law_again", "_law_words", "_law_code", "_law_one", "_law_price", "_law_other"]
theorem sc_law : FnScope N_law ["_law_script"] (defScope s_law) := ⟨rfl, rfl, rfl, by decide +kernel, rfl, by decide +kernel, by decide +kernel⟩
structure Txt (K : Frg) (mg : Str → Option Value) where
  c_Sign : Addr
  m_Sign : mg "Sign" = some (.ref c_Sign)
  k_Sign : Cls K c_Sign
  n_Sign_width : NoAttr K c_Sign "width"
  n_Sign_pairs : NoAttr K c_Sign "pairs"
  n_Sign_mates : NoAttr K c_Sign "mates"
  c_Reader : Addr
  m_Reader : mg "Reader" = some (.ref c_Reader)
  k_Reader : Cls K c_Reader
  n_Reader_code : NoAttr K c_Reader "code"
  n_Reader_spot : NoAttr K c_Reader "spot"
  a_is_int_in : Addr
  d_is_int_in : FuncData
  F_is_int_in : Fun K "is_int_in" "is_int_in" s_is_int_in a_is_int_in d_is_int_in
  b_is_int_in : Binds K d_is_int_in ["value", "low", "high"] []
  m_is_int_in : mg "is_int_in" = some (.ref a_is_int_in)
  a_is_pair : Addr
  d_is_pair : FuncData
  F_is_pair : Fun K "is_pair" "is_pair" s_is_pair a_is_pair d_is_pair
  b_is_pair : Binds K d_is_pair ["value"] []
  m_is_pair : mg "is_pair" = some (.ref a_is_pair)
  a_Sign___init__ : Addr
  d_Sign___init__ : FuncData
  z_Sign___init__ : List V
  F_Sign___init__ : FunD K "__init__" "Sign.__init__" (defArgs s_Sign___init__) (defBody s_Sign___init__) (defScope s_Sign___init__) z_Sign___init__ [] a_Sign___init__ d_Sign___init__
  zr_Sign___init__ : ∀ F : Hp, RepL K F [.tup []] z_Sign___init__
  e_Sign___init__ : List Value
  vd_Sign___init__ : Vals z_Sign___init__ e_Sign___init__
  bd_Sign___init__ : Binds K d_Sign___init__ ["self", "width", "pairs"] e_Sign___init__
  b_Sign___init__ : Binds K d_Sign___init__ ["self", "width", "pairs"] []
  M_Sign : Mk K c_Sign a_Sign___init__
  a_Sign_blank : Addr
  d_Sign_blank : FuncData
  F_Sign_blank : Fun K "blank" "Sign.blank" s_Sign_blank a_Sign_blank d_Sign_blank
  b_Sign_blank : Binds K d_Sign_blank ["self"] []
  p_Sign_blank : Addr
  P_Sign_blank : PropOf K c_Sign "blank" p_Sign_blank a_Sign_blank
  a_Sign_piece : Addr
  d_Sign_piece : FuncData
  F_Sign_piece : Fun K "piece" "Sign.piece" s_Sign_piece a_Sign_piece d_Sign_piece
  b_Sign_piece : Binds K d_Sign_piece ["self", "letter"] []
  Me_Sign_piece : Meth K c_Sign "piece" a_Sign_piece
  a_Sign_row_of : Addr
  d_Sign_row_of : FuncData
  F_Sign_row_of : Fun K "row_of" "Sign.row_of" s_Sign_row_of a_Sign_row_of d_Sign_row_of
  b_Sign_row_of : Binds K d_Sign_row_of ["self", "text", "offset"] []
  Me_Sign_row_of : Meth K c_Sign "row_of" a_Sign_row_of
  a_Sign_is_text : Addr
  d_Sign_is_text : FuncData
  F_Sign_is_text : Fun K "is_text" "Sign.is_text" s_Sign_is_text a_Sign_is_text d_Sign_is_text
  b_Sign_is_text : Binds K d_Sign_is_text ["self", "value"] []
  Me_Sign_is_text : Meth K c_Sign "is_text" a_Sign_is_text
  a_Sign_check_texts : Addr
  d_Sign_check_texts : FuncData
  F_Sign_check_texts : Fun K "check_texts" "Sign.check_texts" s_Sign_check_texts a_Sign_check_texts d_Sign_check_texts
  b_Sign_check_texts : Binds K d_Sign_check_texts ["self", "texts"] []
  Me_Sign_check_texts : Meth K c_Sign "check_texts" a_Sign_check_texts
  a_links : Addr
  d_links : FuncData
  F_links : Fun K "links" "links" s_links a_links d_links
  b_links : Binds K d_links ["sign", "before", "after"] []
  m_links : mg "links" = some (.ref a_links)
  a_surplus : Addr
  d_surplus : FuncData
  F_surplus : Fun K "surplus" "surplus" s_surplus a_surplus d_surplus
  b_surplus : Binds K d_surplus ["changed"] []
  m_surplus : mg "surplus" = some (.ref a_surplus)
  a_groups : Addr
  d_groups : FuncData
  F_groups : Fun K "groups" "groups" s_groups a_groups d_groups
  b_groups : Binds K d_groups ["changed"] []
  m_groups : mg "groups" = some (.ref a_groups)
  a_shares : Addr
  d_shares : FuncData
  F_shares : Fun K "shares" "shares" s_shares a_shares d_shares
  b_shares : Binds K d_shares ["group", "link"] []
  m_shares : mg "shares" = some (.ref a_shares)
  a_is_closed : Addr
  d_is_closed : FuncData
  F_is_closed : Fun K "is_closed" "is_closed" s_is_closed a_is_closed d_is_closed
  b_is_closed : Binds K d_is_closed ["group"] []
  m_is_closed : mg "is_closed" = some (.ref a_is_closed)
  a_cost : Addr
  d_cost : FuncData
  F_cost : Fun K "cost" "cost" s_cost a_cost d_cost
  b_cost : Binds K d_cost ["sign", "before", "after"] []
  m_cost : mg "cost" = some (.ref a_cost)
  a_offsets_of : Addr
  d_offsets_of : FuncData
  F_offsets_of : Fun K "offsets_of" "offsets_of" s_offsets_of a_offsets_of d_offsets_of
  b_offsets_of : Binds K d_offsets_of ["sign", "text"] []
  m_offsets_of : mg "offsets_of" = some (.ref a_offsets_of)
  a_check_offsets : Addr
  d_check_offsets : FuncData
  F_check_offsets : Fun K "check_offsets" "check_offsets" s_check_offsets a_check_offsets d_check_offsets
  b_check_offsets : Binds K d_check_offsets ["sign", "texts", "offsets"] []
  m_check_offsets : mg "check_offsets" = some (.ref a_check_offsets)
  a_add : Addr
  d_add : FuncData
  F_add : Fun K "add" "add" s_add a_add d_add
  b_add : Binds K d_add ["one", "other"] []
  m_add : mg "add" = some (.ref a_add)
  a_fixed_cost : Addr
  d_fixed_cost : FuncData
  F_fixed_cost : Fun K "fixed_cost" "fixed_cost" s_fixed_cost a_fixed_cost d_fixed_cost
  b_fixed_cost : Binds K d_fixed_cost ["sign", "texts", "offsets"] []
  m_fixed_cost : mg "fixed_cost" = some (.ref a_fixed_cost)
  a_costs_from : Addr
  d_costs_from : FuncData
  F_costs_from : Fun K "costs_from" "costs_from" s_costs_from a_costs_from d_costs_from
  b_costs_from : Binds K d_costs_from ["sign", "texts"] []
  m_costs_from : mg "costs_from" = some (.ref a_costs_from)
  a_best_of : Addr
  d_best_of : FuncData
  F_best_of : Fun K "best_of" "best_of" s_best_of a_best_of d_best_of
  b_best_of : Binds K d_best_of ["sign", "row", "text", "layer"] []
  m_best_of : mg "best_of" = some (.ref a_best_of)
  a_season_cost : Addr
  d_season_cost : FuncData
  F_season_cost : Fun K "season_cost" "season_cost" s_season_cost a_season_cost d_season_cost
  b_season_cost : Binds K d_season_cost ["sign", "texts"] []
  m_season_cost : mg "season_cost" = some (.ref a_season_cost)
  a_read_number : Addr
  d_read_number : FuncData
  F_read_number : Fun K "read_number" "read_number" s_read_number a_read_number d_read_number
  b_read_number : Binds K d_read_number ["word"] []
  m_read_number : mg "read_number" = some (.ref a_read_number)
  a_format_season : Addr
  d_format_season : FuncData
  F_format_season : Fun K "format_season" "format_season" s_format_season a_format_season d_format_season
  b_format_season : Binds K d_format_season ["sign", "texts", "offsets"] []
  m_format_season : mg "format_season" = some (.ref a_format_season)
  a_parse_season : Addr
  d_parse_season : FuncData
  F_parse_season : Fun K "parse_season" "parse_season" s_parse_season a_parse_season d_parse_season
  b_parse_season : Binds K d_parse_season ["text"] []
  m_parse_season : mg "parse_season" = some (.ref a_parse_season)
  a_encode : Addr
  d_encode : FuncData
  F_encode : Fun K "encode" "encode" s_encode a_encode d_encode
  b_encode : Binds K d_encode ["sign", "texts"] []
  m_encode : mg "encode" = some (.ref a_encode)
  a_Reader___init__ : Addr
  d_Reader___init__ : FuncData
  F_Reader___init__ : Fun K "__init__" "Reader.__init__" s_Reader___init__ a_Reader___init__ d_Reader___init__
  b_Reader___init__ : Binds K d_Reader___init__ ["self", "code"] []
  M_Reader : Mk K c_Reader a_Reader___init__
  a_Reader_read_byte : Addr
  d_Reader_read_byte : FuncData
  F_Reader_read_byte : Fun K "read_byte" "Reader.read_byte" s_Reader_read_byte a_Reader_read_byte d_Reader_read_byte
  b_Reader_read_byte : Binds K d_Reader_read_byte ["self", "low", "high"] []
  Me_Reader_read_byte : Meth K c_Reader "read_byte" a_Reader_read_byte
  a_Reader_read_letter : Addr
  d_Reader_read_letter : FuncData
  F_Reader_read_letter : Fun K "read_letter" "Reader.read_letter" s_Reader_read_letter a_Reader_read_letter d_Reader_read_letter
  b_Reader_read_letter : Binds K d_Reader_read_letter ["self", "used"] []
  Me_Reader_read_letter : Meth K c_Reader "read_letter" a_Reader_read_letter
  a_Reader_read_pairs : Addr
  d_Reader_read_pairs : FuncData
  F_Reader_read_pairs : Fun K "read_pairs" "Reader.read_pairs" s_Reader_read_pairs a_Reader_read_pairs d_Reader_read_pairs
  b_Reader_read_pairs : Binds K d_Reader_read_pairs ["self"] []
  Me_Reader_read_pairs : Meth K c_Reader "read_pairs" a_Reader_read_pairs
  a_Reader_read_text : Addr
  d_Reader_read_text : FuncData
  F_Reader_read_text : Fun K "read_text" "Reader.read_text" s_Reader_read_text a_Reader_read_text d_Reader_read_text
  b_Reader_read_text : Binds K d_Reader_read_text ["self", "width"] []
  Me_Reader_read_text : Meth K c_Reader "read_text" a_Reader_read_text
  a_decode : Addr
  d_decode : FuncData
  F_decode : Fun K "decode" "decode" s_decode a_decode d_decode
  b_decode : Binds K d_decode ["code"] []
  m_decode : mg "decode" = some (.ref a_decode)
  a__law_random : Addr
  d__law_random : FuncData
  F__law_random : Fun K "_law_random" "_law_random" s__law_random a__law_random d__law_random
  b__law_random : Binds K d__law_random ["_law_script", "_law_salt"] []
  m__law_random : mg "_law_random" = some (.ref a__law_random)
  a__law_below : Addr
  d__law_below : FuncData
  F__law_below : Fun K "_law_below" "_law_below" s__law_below a__law_below d__law_below
  b__law_below : Binds K d__law_below ["_law_d", "_law_limit"] []
  m__law_below : mg "_law_below" = some (.ref a__law_below)
  a__law_shuffled : Addr
  d__law_shuffled : FuncData
  F__law_shuffled : Fun K "_law_shuffled" "_law_shuffled" s__law_shuffled a__law_shuffled d__law_shuffled
  b__law_shuffled : Binds K d__law_shuffled ["_law_d", "_law_items"] []
  m__law_shuffled : mg "_law_shuffled" = some (.ref a__law_shuffled)
  a__law_pairs : Addr
  d__law_pairs : FuncData
  F__law_pairs : Fun K "_law_pairs" "_law_pairs" s__law_pairs a__law_pairs d__law_pairs
  b__law_pairs : Binds K d__law_pairs ["_law_d", "_law_letters"] []
  m__law_pairs : mg "_law_pairs" = some (.ref a__law_pairs)
  a__law_text : Addr
  d__law_text : FuncData
  F__law_text : Fun K "_law_text" "_law_text" s__law_text a__law_text d__law_text
  b__law_text : Binds K d__law_text ["_law_d", "_law_most", "_law_letters"] []
  m__law_text : mg "_law_text" = some (.ref a__law_text)
  a__law_texts : Addr
  d__law_texts : FuncData
  F__law_texts : Fun K "_law_texts" "_law_texts" s__law_texts a__law_texts d__law_texts
  b__law_texts : Binds K d__law_texts ["_law_d", "_law_most", "_law_width", "_law_letters"] []
  m__law_texts : mg "_law_texts" = some (.ref a__law_texts)
  a_law : Addr
  d_law : FuncData
  F_law : Fun K "law" "law" s_law a_law d_law
  b_law : Binds K d_law ["_law_script"] []
  m_law : mg "law" = some (.ref a_law)
  g_abs : mg "abs" = none
  g_all : mg "all" = none
  g_any : mg "any" = none
  g_bool : mg "bool" = none
  g_enumerate : mg "enumerate" = none
  g_int : mg "int" = none
  g_isinstance : mg "isinstance" = none
  g_len : mg "len" = none
  g_list : mg "list" = none
  g_min : mg "min" = none
  g_range : mg "range" = none
  g_sorted : mg "sorted" = none
  g_str : mg "str" = none
  g_sum : mg "sum" = none
  g_tuple : mg "tuple" = none
  g_zip : mg "zip" = none
  u_BLANK : Value
  m_BLANK : mg "BLANK" = some u_BLANK
  r_BLANK : RelV (.str " ") u_BLANK
  u_BYTE : Value
  m_BYTE : mg "BYTE" = some u_BYTE
  r_BYTE : RelV (.int 256) u_BYTE
  u_DIGITS : Value
  m_DIGITS : mg "DIGITS" = some u_DIGITS
  r_DIGITS : RelV (.str "0123456789") u_DIGITS
  u_LETTERS : Value
  m_LETTERS : mg "LETTERS" = some u_LETTERS
  r_LETTERS : RelV (.str "ABCDEFGHIJKLMNOPQRSTUVWXYZ0123456789") u_LETTERS
  u_MAX_DIGITS : Value
  m_MAX_DIGITS : mg "MAX_DIGITS" = some u_MAX_DIGITS
  r_MAX_DIGITS : RelV (.int 2) u_MAX_DIGITS
  u_MAX_PAIRS : Value
  m_MAX_PAIRS : mg "MAX_PAIRS" = some u_MAX_PAIRS
  r_MAX_PAIRS : RelV (.int 10) u_MAX_PAIRS
  u_MAX_TEXTS : Value
  m_MAX_TEXTS : mg "MAX_TEXTS" = some u_MAX_TEXTS
  r_MAX_TEXTS : RelV (.int 12) u_MAX_TEXTS
  u_MAX_WIDTH : Value
  m_MAX_WIDTH : mg "MAX_WIDTH" = some u_MAX_WIDTH
  r_MAX_WIDTH : RelV (.int 24) u_MAX_WIDTH
  u_SHOW : Value
  m_SHOW : mg "SHOW" = some u_SHOW
  r_SHOW : RelV (.str "show") u_SHOW
  u_SIGN : Value
  m_SIGN : mg "SIGN" = some u_SIGN
  r_SIGN : RelV (.str "sign") u_SIGN
  u_SIGNS : Value
  m_SIGNS : mg "SIGNS" = some u_SIGNS
  r_SIGNS : RelV (.str "ABCDEFGHIJKLMNOPQRSTUVWXYZ0123456789 ") u_SIGNS
  u_TAG : Value
  m_TAG : mg "TAG" = some u_TAG
  r_TAG : RelV (.int 77) u_TAG
theorem ex_bl {b : Bool} {P : Bool → Prop} (h : P b) : ∃ b', D.bl b = .bl b' ∧ P b' := ⟨_, rfl, h⟩
theorem ex_int {b : Int} {P : Int → Prop} (h : P b) : ∃ b', D.int b = .int b' ∧ P b' := ⟨_, rfl, h⟩
theorem ex_str {b : Str} {P : Str → Prop} (h : P b) : ∃ b', D.str b = .str b' ∧ P b' := ⟨_, rfl, h⟩
theorem ex_par {a b : D} {P : D → D → Prop} (h : P a b) : ∃ x y, [a, b] = [x, y] ∧ P x y := ⟨_, _, rfl, h⟩
theorem and_nT {A B : Prop} (h : B) : ((!true) = true → A) ∧ ((!true) = false → B) := ⟨fun z => Bool.noConfusion z, fun _ => h⟩
theorem and_nF {A B : Prop} (h : A) : ((!false) = true → A) ∧ ((!false) = false → B) := ⟨fun _ => h, fun z => Bool.noConfusion z⟩
theorem and_nT' {A B : Prop} (h : B) : ((!true) = false → B) ∧ ((!true) = true → A) := ⟨fun _ => h, fun z => Bool.noConfusion z⟩
theorem and_nF' {A B : Prop} (h : A) : ((!false) = false → B) ∧ ((!false) = true → A) := ⟨fun z => Bool.noConfusion z, fun _ => h⟩
theorem and_dT {p A B : Prop} [Decidable p] (hp : p) (h : A) : (decide p = true → A) ∧ (decide p = false → B) := ⟨fun _ => h, fun z => absurd hp (of_decide_eq_false z)⟩
theorem and_dF {p A B : Prop} [Decidable p] (hp : ¬ p) (h : B) : (decide p = true → A) ∧ (decide p = false → B) := ⟨fun z => absurd (of_decide_eq_true z) hp, fun _ => h⟩
theorem and_dT' {p A B : Prop} [Decidable p] (hp : p) (h : A) : (decide p = false → B) ∧ (decide p = true → A) := ⟨fun z => absurd hp (of_decide_eq_false z), fun _ => h⟩
theorem and_dF' {p A B : Prop} [Decidable p] (hp : ¬ p) (h : B) : (decide p = false → B) ∧ (decide p = true → A) := ⟨fun _ => h, fun z => absurd (of_decide_eq_true z) hp⟩
theorem and_ndT {p A B : Prop} [Decidable p] (hp : p) (h : B) : ((!decide p) = true → A) ∧ ((!decide p) = false → B) := by rw [decide_eq_true hp]; exact and_nT h
theorem and_ndF {p A B : Prop} [Decidable p] (hp : ¬ p) (h : A) : ((!decide p) = true → A) ∧ ((!decide p) = false → B) := by rw [decide_eq_false hp]; exact and_nF h
theorem and_ndT' {p A B : Prop} [Decidable p] (hp : p) (h : B) : ((!decide p) = false → B) ∧ ((!decide p) = true → A) := by rw [decide_eq_true hp]; exact and_nT' h
theorem and_ndF' {p A B : Prop} [Decidable p] (hp : ¬ p) (h : A) : ((!decide p) = false → B) ∧ ((!decide p) = true → A) := by rw [decide_eq_false hp]; exact and_nF' h
section
variable {K : Frg} {F : Hp} {ms : Ms} {Q : QE}
theorem isN_bl {b : Bool} (q : Q F ms (.bl false)) : AR K rISN (.bl b) .non F ms Q := ar_isN q
theorem notN_bl {b : Bool} (q : Q F ms (.bl true)) : AR K rNOTN (.bl b) .non F ms Q := ar_notN q
theorem isN_int {i : Int} (q : Q F ms (.bl false)) : AR K rISN (.int i) .non F ms Q := ar_isN q
theorem notN_int {i : Int} (q : Q F ms (.bl true)) : AR K rNOTN (.int i) .non F ms Q := ar_notN q
theorem isN_str {z : Str} (q : Q F ms (.bl false)) : AR K rISN (.str z) .non F ms Q := ar_isN q
theorem notN_str {z : Str} (q : Q F ms (.bl true)) : AR K rNOTN (.str z) .non F ms Q := ar_notN q
theorem isN_tup {ds : List D} (q : Q F ms (.bl false)) : AR K rISN (.tup ds) .non F ms Q := ar_isN q
theorem notN_tup {ds : List D} (q : Q F ms (.bl true)) : AR K rNOTN (.tup ds) .non F ms Q := ar_notN q
theorem isN_lst {ds : List D} (q : Q F ms (.bl false)) : AR K rISN (.lst ds) .non F ms Q := ar_isN q
theorem notN_lst {ds : List D} (q : Q F ms (.bl true)) : AR K rNOTN (.lst ds) .non F ms Q := ar_notN q
theorem isN_ref {l : Addr} (q : Q F ms (.bl false)) : AR K rISN (.ref l) .non F ms Q := ar_isN q
theorem notN_ref {l : Addr} (q : Q F ms (.bl true)) : AR K rNOTN (.ref l) .non F ms Q := ar_notN q
theorem isN_non (q : Q F ms (.bl true)) : AR K rISN .non .non F ms Q := ar_isN q
theorem notN_non (q : Q F ms (.bl false)) : AR K rNOTN .non .non F ms Q := ar_notN q
end
/-! ### data -/
def LET : Str := "ABCDEFGHIJKLMNOPQRSTUVWXYZ0123456789"
def inL (c : Nat) : Prop := c ∈ LET.cps.toList
abbrev Pr := Nat × Nat
def pS (p : Pr) : Str := ⟨#[p.1, p.2]⟩
def pD (p : Pr) : D := .str (pS p)
def kS (c : Nat) : Key := .inr (sg c)
def kvsOf : List Pr → List (Key × D)
  | [] => []
  | p :: ps => (kS p.1, .str (sg p.2)) :: (kS p.2, .str (sg p.1)) :: kvsOf ps
def flat (ps : List Pr) : List Nat := ps.flatMap fun p => [p.1, p.2]
def pieceS (ps : List Pr) (c : Nat) : Str := match ps.find? (fun p => c = p.1 ∨ c = p.2) with
  | some p => minS (sg p.1) (sg p.2)
  | none => sg c
def St (st : List D) : Prop := ∃ (s c : Int) (rest : List Int), st = .int s :: .int c :: rest.map D.int ∧ 0 ≤ s ∧ s < 2147483647 ∧ 0 ≤ c ∧ (∀ x ∈ rest, 10 ^ 18 ≤ x) ∧ rest.length ≤ 64
def fldS (m : Addr) (w : Int) (ps : List Pr) : List (Str × D) := [("mates", .ref m), ("width", .int w), ("pairs", .tup (ps.map pD))]
/-- a sign stands at x -/
def Sgn (C : Addr) (ms : Ms) (x : Addr) (w : Int) (ps : List Pr) : Prop := ∃ (i j : Nat) (m : Addr), ms[i]? = some (x, .ins C (fldS m w ps)) ∧ ms[j]? = some (m, .dic (kvsOf ps))
def sp1 : Str := " "
def shown (w : Int) (t : Str) (o : Int) : Str := mulS sp1 o ++ t ++ mulS sp1 (w - o - t.length)
theorem str_len_add (a b : Str) : (a ++ b).length = a.length + b.length := Array.size_append ..
theorem mulS_len1 (n : Int) : (mulS sp1 n).length = n.toNat := by
  show (List.replicate n.toNat [32]).flatten.toArray.size = n.toNat
  rw [List.size_toArray, List.length_flatten]
  simp
theorem fld_no {f : Str} {m : Addr} {w : Int} {ps : List Pr} (h1 : (f == "mates") = false) (h2 : (f == "width") = false) (h3 : (f == "pairs") = false) : (fldS m w ps).lookup f = none := by
  unfold fldS
  rw [List.lookup_cons, h1, List.lookup_cons, h2, List.lookup_cons, h3]
  rfl
def textOk (w : Int) (t : Str) : Prop := 1 ≤ (t.length : Int) ∧ (t.length : Int) ≤ w ∧ (∀ c ∈ t.cps.toList, c = 32 ∨ inL c) ∧ (∃ a, t.cps.toList[0]? = some a ∧ inL a) ∧ ∃ b, t.cps.toList[t.length - 1]? = some b ∧ inL b
def okSeason (w : Int) (ps : List Pr) (ts : List Str) : Prop := 1 ≤ w ∧ w ≤ 24 ∧ ps.length ≤ 10 ∧ (∀ c ∈ flat ps, inL c) ∧ (flat ps).Nodup ∧ 1 ≤ ts.length ∧ ts.length ≤ 12 ∧ ∀ t ∈ ts, textOk w t
def SG : Str := "ABCDEFGHIJKLMNOPQRSTUVWXYZ0123456789 "
def ix (c : Nat) : Nat := SG.cps.toList.idxOf c
def pI (p : Pr) : List Int := [(ix p.1 : Int), (ix p.2 : Int)]
def tI (t : Str) : List Int := (t.length : Int) :: t.cps.toList.map fun c => (ix c : Int)
def hdI (w : Int) (ps : List Pr) (n : Nat) : List Int := [77, w, (ps.length : Int)] ++ (flat ps).map (fun c => (ix c : Int)) ++ [(n : Int)]
def bodyI (w : Int) (ps : List Pr) (ts : List Str) : List Int := hdI w ps ts.length ++ ts.flatMap tI
def codeI (w : Int) (ps : List Pr) (ts : List Str) : List Int := bodyI w ps ts ++ [(bodyI w ps ts).sum % 256]
def rO (C l : Addr) (p : Nat) : MO := .ins C [("code", .ref l), ("spot", .int (p : Int))]
/-! ### the cost of a change -/
abbrev Lk := Nat × Nat × Nat
def lD (k : Lk) : D := .tup [.int (k.1 : Int), .str (sg k.2.1), .str (sg k.2.2)]
/-- the piece of a sign -/
def pc (ps : List Pr) (c : Nat) : Nat := match ps.find? (fun p => c = p.1 ∨ c = p.2) with
  | some p => min p.1 p.2
  | none => c
def lkAt (ps : List Pr) (b a : List Nat) (i : Nat) : Option Lk := if pc ps (b.getD i 0) = pc ps (a.getD i 0) then none else some (i, pc ps (b.getD i 0), pc ps (a.getD i 0))
def linksF (ps : List Pr) (b a : List Nat) (n : Nat) : List Lk := (List.range n).filterMap (lkAt ps b a)
def letsF (gs : List Lk) : List Nat := gs.flatMap fun k => [k.2.1, k.2.2].filter fun c => decide (c ≠ 32)
def sharesF (gs : List Lk) (k : Lk) : Bool := decide (k.2.1 ∈ letsF gs) || decide (k.2.2 ∈ letsF gs)
def togF (k : Lk) (found : List (List Lk)) : List Lk := (found.filter fun g => sharesF g k).foldl (fun t g => g ++ t) [k]
def stepG (found : List (List Lk)) (k : Lk) : List (List Lk) := (found.filter fun g => !sharesF g k) ++ [togF k found]
def groupsF (ks : List Lk) : List (List Lk) := ks.foldl stepG []
def gD (g : List Lk) : D := .lst (g.map lD)
def closedF (gs : List Lk) : Bool := gs.all (fun k => decide (k.2.1 ≠ 32) && decide (k.2.2 ≠ 32)) && decide ((gs.map (·.2.1)).Perm (gs.map (·.2.2)))
abbrev Cn := List (Nat × Int)
def valC (m : Cn) (c : Nat) : Int := ((m.find? fun p => decide (p.1 = c)).map (·.2)).getD 0
def setC (m : Cn) (c : Nat) (z : Int) : Cn := if m.any (fun p => decide (p.1 = c)) then m.map (fun p => if p.1 = c then (p.1, z) else p) else m ++ [(c, z)]
def stepC (m : Cn) (k : Lk) : Cn := setC (setC m k.2.1 (valC m k.2.1 + 1)) k.2.2 (valC (setC m k.2.1 (valC m k.2.1 + 1)) k.2.2 - 1)
def cntF (ks : List Lk) : Cn := ks.foldl stepC []
def cntD (m : Cn) : List (Key × D) := m.map fun p => (kS p.1, D.int p.2)
def surF (ks : List Lk) : Cn := (cntF ks).filter fun p => decide (p.2 > 0) && !decide (p.1 = 32)
def carriedF (ks : List Lk) : Int := ((ks.filter fun k => !decide (k.2.2 = 32)).length : Int) + ((surF ks).map (·.2)).sum + (((groupsF ks).filter closedF).length : Int)
def turnedF (ps : List Pr) (b a : List Nat) (n : Nat) : Int := (((List.range n).filter fun i => decide (b.getD i 0 ≠ a.getD i 0) && decide (pc ps (b.getD i 0) = pc ps (a.getD i 0))).length : Int)
def costD (ps : List Pr) (b a : Str) (w : Int) : D := .tup [.int (carriedF (linksF ps b.cps.toList a.cps.toList w.toNat)), .int (turnedF ps b.cps.toList a.cps.toList w.toNat)]
def okRow (w : Int) (z : Str) : Prop := (z.length : Int) = w ∧ ∀ c ∈ z.cps.toList, c = 32 ∨ inL c
/-! ### seasons -/
abbrev Cst := Int × Int
def cD (c : Cst) : D := .tup [.int c.1, .int c.2]
def costP (ps : List Pr) (b a : Str) (w : Int) : Cst := (carriedF (linksF ps b.cps.toList a.cps.toList w.toNat), turnedF ps b.cps.toList a.cps.toList w.toNat)
def addC (a b : Cst) : Cst := (a.1 + b.1, a.2 + b.2)
def ltC (a b : Cst) : Bool := if a.1 = b.1 then decide (a.2 < b.2) else decide (a.1 < b.1)
abbrev FS := Cst × Str
def stepF (ps : List Pr) (w : Int) (s : FS) (p : Str × Int) : FS := (addC s.1 (costP ps s.2 (shown w p.1 p.2) w), shown w p.1 p.2)
def fixF (ps : List Pr) (w : Int) (ts : List Str) (os : List Int) : Cst := ((ts.zip os).foldl (stepF ps w) ((0, 0), mulS sp1 w)).1
abbrev Lay := List (Cst × Int)
def vD (v : Cst × Int) : D := .tup [cD v.1, .int v.2]
def layK (n : Nat) : Lay → List (Key × D)
  | [] => []
  | v :: r => (.inl (n : Int), vD v) :: layK (n + 1) r
abbrev BS := Option Cst × Int
def stepB (b : BS) (v : Cst × Int) : BS := match b.1 with
  | none => (some v.1, v.2)
  | some best => if ltC v.1 best = true then (some v.1, v.2) else if v.1 = best then (b.1, b.2 + v.2) else b
def tots (ps : List Pr) (w : Int) (row t : Str) (L : Lay) : Lay := L.zipIdx.map fun p => (addC (costP ps row (shown w t (p.2 : Int)) w) p.1.1, p.1.2)
def bestF (ps : List Pr) (w : Int) (row t : Str) (L : Lay) : BS := (tots ps w row t L).foldl stepB (none, 0)
def bestP (ps : List Pr) (w : Int) (row t : Str) (L : Lay) : Cst × Int := ((bestF ps w row t L).1.getD (0, 0), (bestF ps w row t L).2)
def bsD (b : Option Cst) : D := match b with | none => .non | some c => cD c
def offN (w : Int) (t : Str) : Nat := (w - t.length + 1).toNat
def layersF (ps : List Pr) (w : Int) : List Str → List Lay
  | [] => []
  | t :: r => match r with
    | [] => [List.replicate (offN w t) ((0, 0), 1)]
    | t' :: _ => ((List.range (offN w t)).map fun (o : Nat) => bestP ps w (shown w t (o : Int)) t' ((layersF ps w r).headD [])) :: layersF ps w r
def seasonF (ps : List Pr) (w : Int) (ts : List Str) : Cst := (bestP ps w (mulS sp1 w) (ts.headD Str.empty) ((layersF ps w ts).headD [])).1
/-! ### promises -/
section
variable {K : Frg} {mg : Str → Option Value}
def sp_is_int_in (T : Txt K mg) : ASp := fun ds F ms Q _ => ∃ v lo hi : Int, ds = [.int v, .int lo, .int hi] ∧ Q F ms (.bl (decide (lo ≤ v) && decide (v ≤ hi)))
def sp_is_pair (T : Txt K mg) : ASp := fun ds F ms Q _ => ∃ p : Pr, ds = [pD p] ∧ p.1 ≠ p.2 ∧ inL p.1 ∧ inL p.2 ∧ Q F ms (.bl true)
def sp_Sign___init__ (T : Txt K mg) : ASp := fun ds F ms Q _ => ∃ (x : Addr) (w : Int) (ps : List Pr) (R : Ms), ds = [.ref x, .int w, .tup (ps.map pD)] ∧ 1 ≤ w ∧ w ≤ 24 ∧ ps.length ≤ 10 ∧ (∀ c ∈ flat ps, inL c) ∧ (flat ps).Nodup ∧ ms = (x, .ins T.c_Sign []) :: R ∧
  ∀ m F', Ex F F' → Q F' ((m, .dic (kvsOf ps)) :: (x, .ins T.c_Sign (fldS m w ps)) :: R) .non
def sp__law_random (T : Txt K mg) : ASp := fun ds F ms Q _ => ∃ ns : List Int, ds = [.rdl (ns.map D.int), .int 36] ∧ ns.length ≤ 63 ∧ ∀ F' l st, Ex F F' → St st → Q F' ((l, .lst st) :: ms) (.ref l)
def sp__law_below (T : Txt K mg) : ASp := fun ds F ms Q _ => ∃ (k : Nat) (l : Addr) (st : List D) (n : Int), ds = [.ref l, .int n] ∧ ms[k]? = some (l, .lst st) ∧ St st ∧ 0 < n ∧ n < 1000000 ∧ ∀ st' r, St st' → 0 ≤ r → r < n → Q F (ms.set k (l, .lst st')) (.int r)
def sp__law_shuffled (T : Txt K mg) : ASp := fun ds F ms Q _ => ∃ (k : Nat) (l : Addr) (st xs : List D), ds = [.ref l, .lst xs] ∧ ms[k]? = some (l, .lst st) ∧ St st ∧ xs.length ≤ 100 ∧ (∀ x ∈ xs, ∃ c, x = .str (sg c) ∧ c < 128) ∧
  ∀ st' F' ys, Ex F F' → St st' → ys.Perm xs → Q F' (ms.set k (l, .lst st')) (.lst ys)
def sp__law_pairs (T : Txt K mg) : ASp := fun ds F ms Q _ => ∃ (k : Nat) (l : Addr) (st : List D) (z : Str), ds = [.ref l, .str z] ∧ ms[k]? = some (l, .lst st) ∧ St st ∧ z.length ≤ 100 ∧ z.cps.toList.Nodup ∧ (∀ c ∈ z.cps.toList, inL c) ∧
  ∀ st' F' ps, Ex F F' → St st' → ps.length ≤ 3 → (∀ c ∈ flat ps, c ∈ z.cps.toList) → (flat ps).Nodup → Q F' (ms.set k (l, .lst st')) (.tup (ps.map pD))
/-- plain data: no more than n deep -/
def plainN : Nat → D → Prop
  | 0, d => d = .non ∨ (∃ b, d = .bl b) ∨ (∃ i, d = .int i) ∨ ∃ z, d = .str z
  | n + 1, d => (d = .non ∨ (∃ b, d = .bl b) ∨ (∃ i, d = .int i) ∨ ∃ z, d = .str z) ∨ ∃ ds, (d = .lst ds ∨ d = .tup ds) ∧ ds.length ≤ 10000 ∧ ∀ x ∈ ds, plainN n x
/-- an actual value that equals the expected one: the same data, an owned list, or a list of such -/
def ActN (ms : Ms) : Nat → D → D → Prop
  | 0, a, d => a = d ∧ plainN 0 d
  | n + 1, a, d => (a = d ∧ plainN (n + 1) d) ∨ (∃ (m : Nat) (l : Addr) (ds : List D), a = .ref l ∧ d = .lst ds ∧ ms[m]? = some (l, .lst ds) ∧ plainN (n + 1) d) ∨ ∃ as ds : List D, a = .lst as ∧ d = .lst ds ∧ as.length = ds.length ∧ ds.length ≤ 10000 ∧ ∀ (i : Nat) (x y : D), as[i]? = some x → ds[i]? = some y → ActN ms n x y
def sp__law_text (T : Txt K mg) : ASp := fun ds F ms Q _ => ∃ (k : Nat) (l : Addr) (st : List D) (w : Int) (z : Str), ds = [.ref l, .int w, .str z] ∧ ms[k]? = some (l, .lst st) ∧ St st ∧ 0 < w ∧ w ≤ 24 ∧ 0 < z.length ∧ z.length ≤ 100 ∧ (∀ c ∈ z.cps.toList, inL c) ∧
  ∀ st' F' (r : Str), Ex F F' → St st' → textOk w r → Q F' (ms.set k (l, .lst st')) (.str r)
def sp__law_texts (T : Txt K mg) : ASp := fun ds F ms Q _ => ∃ (k : Nat) (l : Addr) (st : List D) (w : Int) (z : Str), ds = [.ref l, .int 12, .int w, .str z] ∧ ms[k]? = some (l, .lst st) ∧ St st ∧ 0 < w ∧ w ≤ 24 ∧ 0 < z.length ∧ z.length ≤ 100 ∧ (∀ c ∈ z.cps.toList, inL c) ∧
  ∀ st' F' (ts : List Str), Ex F F' → St st' → 1 ≤ ts.length → ts.length ≤ 12 → (∀ t ∈ ts, textOk w t) → Q F' (ms.set k (l, .lst st')) (.tup (ts.map D.str))
def sp_Sign_is_text (T : Txt K mg) : ASp := fun ds F ms Q _ => ∃ x w ps t, ds = [.ref x, .str t] ∧ Sgn T.c_Sign ms x w ps ∧ w ≤ 24 ∧ textOk w t ∧ ∀ F', Ex F F' → Q F' ms (.bl true)
def sp_Sign_check_texts (T : Txt K mg) : ASp := fun ds F ms Q _ => ∃ x w ps ts, ds = [.ref x, .tup (List.map D.str ts)] ∧ Sgn T.c_Sign ms x w ps ∧ w ≤ 24 ∧ 1 ≤ ts.length ∧ ts.length ≤ 12 ∧ (∀ t ∈ ts, textOk w t) ∧ ∀ F', Ex F F' → Q F' ms .non
def okOff (w : Int) (ts : List Str) (os : List Int) : Prop := os.length = ts.length ∧ ∀ (i : Nat) (t : Str) (o : Int), ts[i]? = some t → os[i]? = some o → 0 ≤ o ∧ o + (t.length : Int) ≤ w
def sp_check_offsets (T : Txt K mg) : ASp := fun ds F ms Q _ => ∃ x w ps ts os, ds = [.ref x, .tup (List.map D.str ts), .tup (List.map D.int os)] ∧ Sgn T.c_Sign ms x w ps ∧ w ≤ 24 ∧ ts.length ≤ 12 ∧ (∀ t ∈ ts, textOk w t) ∧ okOff w ts os ∧ ∀ F', Ex F F' → Q F' ms .non
/-- the text of a number below 100 -/
def numS (n : Int) : Str := toString n
def sp_read_number (T : Txt K mg) : ASp := fun ds F ms Q _ => ∃ n : Int, ds = [.str (numS n)] ∧ 0 ≤ n ∧ n < 100 ∧ ∀ F', Ex F F' → Q F' ms (.int n)
def lineS (t : Str) (o : Int) : Str := Str.ofString "show" ++ Str.ofString " " ++ numS o ++ Str.ofString " " ++ t
def headS (w : Int) (ps : List Pr) : Str := Txt.join " " (Str.ofString "sign" :: numS w :: ps.map pS)
def linesS (w : Int) (ps : List Pr) (ts : List Str) (os : List Int) : List Str := headS w ps :: (ts.zip os).map fun p => lineS p.1 p.2
def seasonS (w : Int) (ps : List Pr) (ts : List Str) (os : List Int) : Str := Txt.join "\n" (linesS w ps ts os)
def sp_format_season (T : Txt K mg) : ASp := fun ds F ms Q _ => ∃ x w ps ts os, ds = [.ref x, .tup (List.map D.str ts), .tup (List.map D.int os)] ∧ Sgn T.c_Sign ms x w ps ∧ okSeason w ps ts ∧ okOff w ts os ∧ ∀ F', Ex F F' → Q F' ms (.str (seasonS w ps ts os))
def sp_parse_season (T : Txt K mg) : ASp := fun ds F ms Q _ => ∃ w ps ts os, ds = [.str (seasonS w ps ts os)] ∧ okSeason w ps ts ∧ okOff w ts os ∧
  ∀ F' x m R, Ex F F' → (∀ (k : Nat) p, ms[k]? = some p → ∃ k' : Nat, R[k']? = some p) → Q F' ((m, .dic (kvsOf ps)) :: (x, .ins T.c_Sign (fldS m w ps)) :: R) (.tup [.ref x, .tup (ts.map D.str), .tup (os.map D.int)])
def sp_Sign_blank (T : Txt K mg) : ASp := fun ds F ms Q _ => ∃ x w ps, ds = [.ref x] ∧ Sgn T.c_Sign ms x w ps ∧ 0 ≤ w ∧ w ≤ 24 ∧ Q F ms (.str (mulS sp1 w))
def sp_Sign_row_of (T : Txt K mg) : ASp := fun ds F ms Q _ => ∃ x w ps t o, ds = [.ref x, .str t, .int o] ∧ Sgn T.c_Sign ms x w ps ∧ w ≤ 24 ∧ 0 ≤ o ∧ o + (t.length : Int) ≤ w ∧ Q F ms (.str (shown w t o))
def sp_Sign_piece (T : Txt K mg) : ASp := fun ds F ms Q _ => ∃ x w ps c, ds = [.ref x, .str (sg c)] ∧ Sgn T.c_Sign ms x w ps ∧ Q F ms (.str (pieceS ps c))
def sp_links (T : Txt K mg) : ASp := fun ds F ms Q _ => ∃ x w ps b a, ds = [.ref x, .str b, .str a] ∧ Sgn T.c_Sign ms x w ps ∧ 0 ≤ w ∧ w ≤ 24 ∧ (b.length : Int) = w ∧ (a.length : Int) = w ∧ ∀ F', Ex F F' → Q F' ms (.lst ((linksF ps b.cps.toList a.cps.toList w.toNat).map lD))
def sp_shares (T : Txt K mg) : ASp := fun ds F ms Q _ => ∃ gs k, ds = [.lst (List.map lD gs), lD k] ∧ gs.length ≤ 24 ∧ ∀ F', Ex F F' → Q F' ms (.bl (sharesF gs k))
def sp_is_closed (T : Txt K mg) : ASp := fun ds F ms Q _ => ∃ gs, ds = [.lst (List.map lD gs)] ∧ gs.length ≤ 24 ∧ (∀ k ∈ gs, k.2.1 < 128 ∧ k.2.2 < 128) ∧ ∀ F', Ex F F' → Q F' ms (.bl (closedF gs))
def sp_surplus (T : Txt K mg) : ASp := fun ds F ms Q _ => ∃ ks, ds = [.lst (List.map lD ks)] ∧ ks.length ≤ 24 ∧ ∀ F', Ex F F' → Q F' ms (.dic (cntD (surF ks)))
def sp_groups (T : Txt K mg) : ASp := fun ds F ms Q _ => ∃ ks, ds = [.lst (List.map lD ks)] ∧ ks.length ≤ 24 ∧ ∀ F', Ex F F' → Q F' ms (.lst ((groupsF ks).map gD))
def sp_cost (T : Txt K mg) : ASp := fun ds F ms Q _ => ∃ x w ps b a, ds = [.ref x, .str b, .str a] ∧ Sgn T.c_Sign ms x w ps ∧ 0 ≤ w ∧ w ≤ 24 ∧ (∀ c ∈ flat ps, inL c) ∧ okRow w b ∧ okRow w a ∧ ∀ F', Ex F F' → Q F' ms (costD ps b a w)
def sp_encode (T : Txt K mg) : ASp := fun ds F ms Q _ => ∃ x w ps ts, ds = [.ref x, .tup (List.map D.str ts)] ∧ Sgn T.c_Sign ms x w ps ∧ okSeason w ps ts ∧ ∀ F' l, Ex F F' → Q F' ((l, .lst ((codeI w ps ts).map D.int)) :: ms) (.ref l)
def sp_Reader___init__ (T : Txt K mg) : ASp := fun ds F ms Q _ => ∃ (r l : Addr) (R : Ms), ds = [.ref r, .ref l] ∧ ms = (r, .ins T.c_Reader []) :: R ∧ Q F ((r, rO T.c_Reader l 0) :: R) .non
def sp_Reader_read_byte (T : Txt K mg) : ASp := fun ds F ms Q _ => ∃ (i j : Nat) (r l : Addr) (p : Nat) (xs : List Int) (lo hi v : Int), ds = [.ref r, .int lo, .int hi] ∧ ms[i]? = some (r, rO T.c_Reader l p) ∧ ms[j]? = some (l, .lst (xs.map D.int)) ∧ xs[p]? = some v ∧ lo ≤ v ∧ v ≤ hi ∧ xs.length ≤ 5000 ∧ Q F (ms.set i (r, rO T.c_Reader l (p + 1))) (.int v)
def sp_Reader_read_letter (T : Txt K mg) : ASp := fun ds F ms Q _ => ∃ (i j k : Nat) (r l u : Addr) (p : Nat) (xs : List Int) (us : List Str) (c : Nat), ds = [.ref r, .ref u] ∧ ms[i]? = some (r, rO T.c_Reader l p) ∧ ms[j]? = some (l, .lst (xs.map D.int)) ∧ ms[k]? = some (u, .lst (us.map D.str)) ∧ xs[p]? = some (ix c : Int) ∧ inL c ∧ sg c ∉ us ∧ xs.length ≤ 5000 ∧ Q F (ms.set i (r, rO T.c_Reader l (p + 1))) (.str (sg c))
def sp_Reader_read_pairs (T : Txt K mg) : ASp := fun ds F ms Q _ => ∃ (i j : Nat) (r l : Addr) (p : Nat) (xs rest : List Int) (ps : List Pr), ds = [.ref r] ∧ ms[i]? = some (r, rO T.c_Reader l p) ∧ ms[j]? = some (l, .lst (xs.map D.int)) ∧ xs.drop p = (ps.length : Int) :: ((flat ps).map (fun c => (ix c : Int)) ++ rest) ∧ ps.length ≤ 10 ∧ (∀ c ∈ flat ps, inL c) ∧ (flat ps).Nodup ∧ xs.length ≤ 5000 ∧
  ∀ F', Ex F F' → Q F' (ms.set i (r, rO T.c_Reader l (p + 1 + 2 * ps.length))) (.tup (ps.map pD))
def sp_Reader_read_text (T : Txt K mg) : ASp := fun ds F ms Q _ => ∃ (i j : Nat) (r l : Addr) (p : Nat) (xs rest : List Int) (w : Int) (t : Str), ds = [.ref r, .int w] ∧ ms[i]? = some (r, rO T.c_Reader l p) ∧ ms[j]? = some (l, .lst (xs.map D.int)) ∧ xs.drop p = tI t ++ rest ∧ textOk w t ∧ w ≤ 24 ∧ xs.length ≤ 5000 ∧
  ∀ F', Ex F F' → Q F' (ms.set i (r, rO T.c_Reader l (p + 1 + t.length))) (.str t)
def sp_decode (T : Txt K mg) : ASp := fun ds F ms Q _ => ∃ (j : Nat) (l : Addr) (w : Int) (ps : List Pr) (ts : List Str), ds = [.ref l] ∧ ms[j]? = some (l, .lst ((codeI w ps ts).map D.int)) ∧ okSeason w ps ts ∧
  ∀ F' x m r p, Ex F F' → Q F' ((m, .dic (kvsOf ps)) :: (x, .ins T.c_Sign (fldS m w ps)) :: (r, rO T.c_Reader l p) :: ms) (.tup [.ref x, .tup (ts.map D.str)])
def sp_offsets_of (T : Txt K mg) : ASp := fun ds F ms Q _ => ∃ x w ps t, ds = [.ref x, .str t] ∧ Sgn T.c_Sign ms x w ps ∧ w ≤ 24 ∧ textOk w t ∧ ∀ F', Ex F F' → Q F' ms (.lst ((List.range (offN w t)).map fun (o : Nat) => D.int (o : Int)))
def sp_add (T : Txt K mg) : ASp := fun ds F ms Q _ => ∃ a b, ds = [cD a, cD b] ∧ ∀ F', Ex F F' → Q F' ms (cD (addC a b))
def okPs (ps : List Pr) : Prop := ∀ c ∈ flat ps, inL c
def sp_fixed_cost (T : Txt K mg) : ASp := fun ds F ms Q _ => ∃ x w ps ts os, ds = [.ref x, .tup (List.map D.str ts), .tup (List.map D.int os)] ∧ Sgn T.c_Sign ms x w ps ∧ okSeason w ps ts ∧ okOff w ts os ∧ ∀ F', Ex F F' → Q F' ms (cD (fixF ps w ts os))
def sp_best_of (T : Txt K mg) : ASp := fun ds F ms Q _ => ∃ (n : Nat) (l : Addr) (x : Addr) (w : Int) (ps : List Pr) (row t : Str) (L : Lay), ds = [.ref x, .str row, .str t, .ref l] ∧ ms[n]? = some (l, .dic (layK 0 L)) ∧ Sgn T.c_Sign ms x w ps ∧ 0 ≤ w ∧ w ≤ 24 ∧ okPs ps ∧ okRow w row ∧ textOk w t ∧ L.length = offN w t ∧ ∀ F', Ex F F' → Q F' ms (vD (bestP ps w row t L))
def sp_costs_from (T : Txt K mg) : ASp := fun ds F ms Q _ => ∃ x w ps ts, ds = [.ref x, .tup (List.map D.str ts)] ∧ Sgn T.c_Sign ms x w ps ∧ okSeason w ps ts ∧ ∀ F' l rest, Ex F F' → Q F' ((l, .dic (layK 0 ((layersF ps w ts).headD []))) :: ms) (.lst (.ref l :: rest))
def sp_season_cost (T : Txt K mg) : ASp := fun ds F ms Q _ => ∃ x w ps ts, ds = [.ref x, .tup (List.map D.str ts)] ∧ Sgn T.c_Sign ms x w ps ∧ okSeason w ps ts ∧ ∀ F', Ex F F' → Q F' ms (cD (seasonF ps w ts))
end
def spLaw : ASp := fun ds _ _ Q _ => ∃ ns : List Int, ds = [.rdl (ns.map D.int)] ∧ ns.length ≤ 63 ∧ ∀ F ms, Q F ms (.bl true)
def sp_law {K : Frg} {mg : Str → Option Value} (T : Txt K mg) : ASp := spLaw
abbrev OK_is_int_in (P : Program) (w : World) (base : Heap) {K : Frg} {mg : Str → Option Value} (T : Txt K mg) : Prop := FnOk P w K mg base CX0 1 T.a_is_int_in T.d_is_int_in ["value", "low", "high"] (toSp K (sp_is_int_in T))
abbrev OK_is_pair (P : Program) (w : World) (base : Heap) {K : Frg} {mg : Str → Option Value} (T : Txt K mg) : Prop := FnOk P w K mg base CX0 1 T.a_is_pair T.d_is_pair ["value"] (toSp K (sp_is_pair T))
abbrev OK_Sign___init__ (P : Program) (w : World) (base : Heap) {K : Frg} {mg : Str → Option Value} (T : Txt K mg) : Prop := FnOk P w K mg base CX0 2 T.a_Sign___init__ T.d_Sign___init__ ["self", "width", "pairs"] (toSp K (sp_Sign___init__ T))
abbrev OK_Sign_blank (P : Program) (w : World) (base : Heap) {K : Frg} {mg : Str → Option Value} (T : Txt K mg) : Prop := FnOk P w K mg base CX0 1 T.a_Sign_blank T.d_Sign_blank ["self"] (toSp K (sp_Sign_blank T))
abbrev OK_Sign_piece (P : Program) (w : World) (base : Heap) {K : Frg} {mg : Str → Option Value} (T : Txt K mg) : Prop := FnOk P w K mg base CX0 1 T.a_Sign_piece T.d_Sign_piece ["self", "letter"] (toSp K (sp_Sign_piece T))
abbrev OK_Sign_row_of (P : Program) (w : World) (base : Heap) {K : Frg} {mg : Str → Option Value} (T : Txt K mg) : Prop := FnOk P w K mg base CX0 1 T.a_Sign_row_of T.d_Sign_row_of ["self", "text", "offset"] (toSp K (sp_Sign_row_of T))
abbrev OK_Sign_is_text (P : Program) (w : World) (base : Heap) {K : Frg} {mg : Str → Option Value} (T : Txt K mg) : Prop := FnOk P w K mg base CX0 1 T.a_Sign_is_text T.d_Sign_is_text ["self", "value"] (toSp K (sp_Sign_is_text T))
abbrev OK_Sign_check_texts (P : Program) (w : World) (base : Heap) {K : Frg} {mg : Str → Option Value} (T : Txt K mg) : Prop := FnOk P w K mg base CX0 2 T.a_Sign_check_texts T.d_Sign_check_texts ["self", "texts"] (toSp K (sp_Sign_check_texts T))
abbrev OK_links (P : Program) (w : World) (base : Heap) {K : Frg} {mg : Str → Option Value} (T : Txt K mg) : Prop := FnOk P w K mg base CX0 2 T.a_links T.d_links ["sign", "before", "after"] (toSp K (sp_links T))
abbrev OK_surplus (P : Program) (w : World) (base : Heap) {K : Frg} {mg : Str → Option Value} (T : Txt K mg) : Prop := FnOk P w K mg base CX0 1 T.a_surplus T.d_surplus ["changed"] (toSp K (sp_surplus T))
abbrev OK_groups (P : Program) (w : World) (base : Heap) {K : Frg} {mg : Str → Option Value} (T : Txt K mg) : Prop := FnOk P w K mg base CX0 2 T.a_groups T.d_groups ["changed"] (toSp K (sp_groups T))
abbrev OK_shares (P : Program) (w : World) (base : Heap) {K : Frg} {mg : Str → Option Value} (T : Txt K mg) : Prop := FnOk P w K mg base CX0 1 T.a_shares T.d_shares ["group", "link"] (toSp K (sp_shares T))
abbrev OK_is_closed (P : Program) (w : World) (base : Heap) {K : Frg} {mg : Str → Option Value} (T : Txt K mg) : Prop := FnOk P w K mg base CX0 1 T.a_is_closed T.d_is_closed ["group"] (toSp K (sp_is_closed T))
abbrev OK_cost (P : Program) (w : World) (base : Heap) {K : Frg} {mg : Str → Option Value} (T : Txt K mg) : Prop := FnOk P w K mg base CX0 3 T.a_cost T.d_cost ["sign", "before", "after"] (toSp K (sp_cost T))
abbrev OK_offsets_of (P : Program) (w : World) (base : Heap) {K : Frg} {mg : Str → Option Value} (T : Txt K mg) : Prop := FnOk P w K mg base CX0 1 T.a_offsets_of T.d_offsets_of ["sign", "text"] (toSp K (sp_offsets_of T))
abbrev OK_check_offsets (P : Program) (w : World) (base : Heap) {K : Frg} {mg : Str → Option Value} (T : Txt K mg) : Prop := FnOk P w K mg base CX0 2 T.a_check_offsets T.d_check_offsets ["sign", "texts", "offsets"] (toSp K (sp_check_offsets T))
abbrev OK_add (P : Program) (w : World) (base : Heap) {K : Frg} {mg : Str → Option Value} (T : Txt K mg) : Prop := FnOk P w K mg base CX0 1 T.a_add T.d_add ["one", "other"] (toSp K (sp_add T))
abbrev OK_fixed_cost (P : Program) (w : World) (base : Heap) {K : Frg} {mg : Str → Option Value} (T : Txt K mg) : Prop := FnOk P w K mg base CX0 4 T.a_fixed_cost T.d_fixed_cost ["sign", "texts", "offsets"] (toSp K (sp_fixed_cost T))
abbrev OK_costs_from (P : Program) (w : World) (base : Heap) {K : Frg} {mg : Str → Option Value} (T : Txt K mg) : Prop := FnOk P w K mg base CX0 5 T.a_costs_from T.d_costs_from ["sign", "texts"] (toSp K (sp_costs_from T))
abbrev OK_best_of (P : Program) (w : World) (base : Heap) {K : Frg} {mg : Str → Option Value} (T : Txt K mg) : Prop := FnOk P w K mg base CX0 4 T.a_best_of T.d_best_of ["sign", "row", "text", "layer"] (toSp K (sp_best_of T))
abbrev OK_season_cost (P : Program) (w : World) (base : Heap) {K : Frg} {mg : Str → Option Value} (T : Txt K mg) : Prop := FnOk P w K mg base CX0 6 T.a_season_cost T.d_season_cost ["sign", "texts"] (toSp K (sp_season_cost T))
abbrev OK_read_number (P : Program) (w : World) (base : Heap) {K : Frg} {mg : Str → Option Value} (T : Txt K mg) : Prop := FnOk P w K mg base CX0 1 T.a_read_number T.d_read_number ["word"] (toSp K (sp_read_number T))
abbrev OK_format_season (P : Program) (w : World) (base : Heap) {K : Frg} {mg : Str → Option Value} (T : Txt K mg) : Prop := FnOk P w K mg base CX0 3 T.a_format_season T.d_format_season ["sign", "texts", "offsets"] (toSp K (sp_format_season T))
abbrev OK_parse_season (P : Program) (w : World) (base : Heap) {K : Frg} {mg : Str → Option Value} (T : Txt K mg) : Prop := FnOk P w K mg base CX0 4 T.a_parse_season T.d_parse_season ["text"] (toSp K (sp_parse_season T))
abbrev OK_encode (P : Program) (w : World) (base : Heap) {K : Frg} {mg : Str → Option Value} (T : Txt K mg) : Prop := FnOk P w K mg base CX0 3 T.a_encode T.d_encode ["sign", "texts"] (toSp K (sp_encode T))
abbrev OK_Reader___init__ (P : Program) (w : World) (base : Heap) {K : Frg} {mg : Str → Option Value} (T : Txt K mg) : Prop := FnOk P w K mg base CX0 1 T.a_Reader___init__ T.d_Reader___init__ ["self", "code"] (toSp K (sp_Reader___init__ T))
abbrev OK_Reader_read_byte (P : Program) (w : World) (base : Heap) {K : Frg} {mg : Str → Option Value} (T : Txt K mg) : Prop := FnOk P w K mg base CX0 2 T.a_Reader_read_byte T.d_Reader_read_byte ["self", "low", "high"] (toSp K (sp_Reader_read_byte T))
abbrev OK_Reader_read_letter (P : Program) (w : World) (base : Heap) {K : Frg} {mg : Str → Option Value} (T : Txt K mg) : Prop := FnOk P w K mg base CX0 3 T.a_Reader_read_letter T.d_Reader_read_letter ["self", "used"] (toSp K (sp_Reader_read_letter T))
abbrev OK_Reader_read_pairs (P : Program) (w : World) (base : Heap) {K : Frg} {mg : Str → Option Value} (T : Txt K mg) : Prop := FnOk P w K mg base CX0 4 T.a_Reader_read_pairs T.d_Reader_read_pairs ["self"] (toSp K (sp_Reader_read_pairs T))
abbrev OK_Reader_read_text (P : Program) (w : World) (base : Heap) {K : Frg} {mg : Str → Option Value} (T : Txt K mg) : Prop := FnOk P w K mg base CX0 3 T.a_Reader_read_text T.d_Reader_read_text ["self", "width"] (toSp K (sp_Reader_read_text T))
abbrev OK_decode (P : Program) (w : World) (base : Heap) {K : Frg} {mg : Str → Option Value} (T : Txt K mg) : Prop := FnOk P w K mg base CX0 5 T.a_decode T.d_decode ["code"] (toSp K (sp_decode T))
abbrev OK__law_random (P : Program) (w : World) (base : Heap) {K : Frg} {mg : Str → Option Value} (T : Txt K mg) : Prop := FnOk P w K mg base CX0 1 T.a__law_random T.d__law_random ["_law_script", "_law_salt"] (toSp K (sp__law_random T))
abbrev OK__law_below (P : Program) (w : World) (base : Heap) {K : Frg} {mg : Str → Option Value} (T : Txt K mg) : Prop := FnOk P w K mg base CX0 1 T.a__law_below T.d__law_below ["_law_d", "_law_limit"] (toSp K (sp__law_below T))
abbrev OK__law_shuffled (P : Program) (w : World) (base : Heap) {K : Frg} {mg : Str → Option Value} (T : Txt K mg) : Prop := FnOk P w K mg base CX0 2 T.a__law_shuffled T.d__law_shuffled ["_law_d", "_law_items"] (toSp K (sp__law_shuffled T))
abbrev OK__law_pairs (P : Program) (w : World) (base : Heap) {K : Frg} {mg : Str → Option Value} (T : Txt K mg) : Prop := FnOk P w K mg base CX0 3 T.a__law_pairs T.d__law_pairs ["_law_d", "_law_letters"] (toSp K (sp__law_pairs T))
abbrev OK__law_text (P : Program) (w : World) (base : Heap) {K : Frg} {mg : Str → Option Value} (T : Txt K mg) : Prop := FnOk P w K mg base CX0 2 T.a__law_text T.d__law_text ["_law_d", "_law_most", "_law_letters"] (toSp K (sp__law_text T))
abbrev OK__law_texts (P : Program) (w : World) (base : Heap) {K : Frg} {mg : Str → Option Value} (T : Txt K mg) : Prop := FnOk P w K mg base CX0 3 T.a__law_texts T.d__law_texts ["_law_d", "_law_most", "_law_width", "_law_letters"] (toSp K (sp__law_texts T))
abbrev OK_law (P : Program) (w : World) (base : Heap) {K : Frg} {mg : Str → Option Value} (T : Txt K mg) : Prop := FnOk P w K mg base CX0 7 T.a_law T.d_law ["_law_script"] (toSp K (sp_law T))
end K36


namespace K36
open PySem PySem.Spec L2 PyProof.Rows AL
local macro_rules | `(tactic| walk_at "isi") => `(tactic| first | with_reducible refine isi_non_bool ?_ | with_reducible refine isi_non_int ?_ | with_reducible refine isi_non_str ?_ | with_reducible refine isi_non_tuple ?_ | with_reducible refine isi_non_list ?_ | with_reducible refine isi_non_dict ?_ | with_reducible refine isi_bl_bool ?_ | with_reducible refine isi_bl_int ?_ | with_reducible refine isi_bl_str ?_ | with_reducible refine isi_bl_tuple ?_ | with_reducible refine isi_bl_list ?_ | with_reducible refine isi_bl_dict ?_ | with_reducible refine isi_int_bool ?_ | with_reducible refine isi_int_int ?_ | with_reducible refine isi_int_str ?_ | with_reducible refine isi_int_tuple ?_ | with_reducible refine isi_int_list ?_ | with_reducible refine isi_int_dict ?_ | with_reducible refine isi_str_bool ?_ | with_reducible refine isi_str_int ?_ | with_reducible refine isi_str_str ?_ | with_reducible refine isi_str_tuple ?_ | with_reducible refine isi_str_list ?_ | with_reducible refine isi_str_dict ?_ | with_reducible refine isi_tup_bool ?_ | with_reducible refine isi_tup_int ?_ | with_reducible refine isi_tup_str ?_ | with_reducible refine isi_tup_tuple ?_ | with_reducible refine isi_tup_list ?_ | with_reducible refine isi_tup_dict ?_ | with_reducible refine isi_lst_bool ?_ | with_reducible refine isi_lst_int ?_ | with_reducible refine isi_lst_str ?_ | with_reducible refine isi_lst_tuple ?_ | with_reducible refine isi_lst_list ?_ | with_reducible refine isi_lst_dict ?_ | with_reducible refine isi_dic_bool ?_ | with_reducible refine isi_dic_int ?_ | with_reducible refine isi_dic_str ?_ | with_reducible refine isi_dic_tuple ?_ | with_reducible refine isi_dic_list ?_ | with_reducible refine isi_dic_dict ?_)
local macro_rules | `(tactic| walk_at "al1") => `(tactic| first
  | with_reducible refine as_seq ?_ | with_reducible refine as_ret ?_ | with_reducible refine as_retN ?_ | with_reducible refine as_if ?_ | with_reducible refine as_drop ?_ | with_reducible refine as_asg ?_ | with_reducible refine as_next ?_ | with_reducible refine as_break ?_ | with_reducible refine as_cont ?_ | with_reducible refine as_par ?_
  | ((with_reducible refine' ae_var ?_ ?_); rotate_left; exact rfl) | with_reducible refine ae_int ?_ | with_reducible refine ae_bl ?_ | with_reducible refine ae_str ?_ | with_reducible refine ae_non ?_ | with_reducible refine ae_ty ?_ | with_reducible refine ae_ref ?_ | with_reducible refine ae_op ?_ | with_reducible refine ae_call1 ?_ | with_reducible refine ae_call ?_ | with_reducible refine ae_notV ?_ | with_reducible refine ae_andV ?_ | with_reducible refine ae_orV ?_ | with_reducible refine ae_chain ?_ | with_reducible refine ae_if ?_ | with_reducible refine aa_cons ?_ | with_reducible refine aa_nil ?_ | with_reducible refine at_test ?_ | with_reducible refine at_B ?_ | with_reducible refine at_and ?_ | with_reducible refine at_or ?_ | with_reducible refine at_not ?_ | with_reducible refine at_yes ?_ | with_reducible refine ex_bl ?_ | with_reducible refine ex_int ?_ | with_reducible refine ex_str ?_ | with_reducible refine ex_par ?_ | with_reducible refine and_T ?_ | with_reducible refine and_F ?_ | with_reducible refine and_T' ?_ | with_reducible refine and_F' ?_ | with_reducible refine and_nT ?_ | with_reducible refine and_nF ?_ | with_reducible refine and_nT' ?_ | with_reducible refine and_nF' ?_ | with_reducible refine ar_ADDi ?_ | with_reducible refine ar_SUB ?_ | with_reducible refine ar_ltI ?_ | with_reducible refine ar_leI ?_ | with_reducible refine ar_gtI ?_ | with_reducible refine ar_geI ?_ | with_reducible refine ar_EQi ?_ | with_reducible refine ar_EQs ?_ | with_reducible refine ar_EQb ?_ | with_reducible refine ar_NEi ?_ | with_reducible refine ar_NEs ?_ | with_reducible refine ar_NEb ?_ | with_reducible refine isN_non ?_ | with_reducible refine isN_bl ?_ | with_reducible refine isN_int ?_ | with_reducible refine isN_str ?_ | with_reducible refine isN_tup ?_ | with_reducible refine isN_lst ?_ | with_reducible refine isN_ref ?_ | with_reducible refine notN_non ?_ | with_reducible refine notN_bl ?_ | with_reducible refine notN_int ?_ | with_reducible refine notN_str ?_ | with_reducible refine notN_tup ?_ | with_reducible refine notN_lst ?_ | with_reducible refine notN_ref ?_ | with_reducible refine ar_INs ?_ | with_reducible refine ar_NOTINs ?_ | with_reducible refine ac_abs ?_ | with_reducible refine ac_lenL ?_ | with_reducible refine ac_lenT ?_ | with_reducible refine ac_lenR ?_ | with_reducible refine ac_minI ?_ | with_reducible refine ac_maxI ?_ | with_reducible refine ac_minS ?_
  | walk_at "isi")
local macro_rules | `(tactic| walk_at "al") => `(tactic| repeat walk_at "al1")

theorem valD_cons (k' k : Key) (d : D) (l : List (Key × D)) : valD ((k', d) :: l) k = if k' = k then some d else valD l k := by
  unfold valD
  rw [List.find?_cons]
  by_cases h : k' = k
  · simp [h]
  · simp [h]
theorem kS_inj {a b : Nat} : kS a = kS b ↔ b = a := ⟨fun z => by simpa [kS, sg] using z.symm, fun z => by rw [z]⟩
theorem val_kvs (ps : List Pr) (c : Nat) : valD (kvsOf ps) (kS c) = (ps.find? fun p => c = p.1 ∨ c = p.2).map fun p => .str (sg (if c = p.1 then p.2 else p.1)) := by
  induction ps with
  | nil => rfl
  | cons p ps ih =>
    rw [kvsOf, valD_cons, valD_cons, ih, List.find?_cons]
    by_cases h1 : c = p.1
    · rw [if_pos (kS_inj.mpr h1)]
      simp [h1]
    · rw [if_neg (fun z => h1 (kS_inj.mp z))]
      by_cases h2 : c = p.2
      · rw [if_pos (kS_inj.mpr h2)]
        have h3 : ¬ p.2 = p.1 := fun z => h1 (h2.trans z)
        simp [h2, h3]
      · rw [if_neg (fun z => h2 (kS_inj.mp z))]
        simp [h1, h2]
theorem chars_at {z : Str} {i : Nat} {d : D} (h : (charsD z)[i]? = some d) : ∃ c, z.cps.toList[i]? = some c ∧ d = .str (sg c) := by
  unfold charsD at h
  rw [List.getElem?_map] at h
  cases e : z.cps.toList[i]? with
  | none => rw [e] at h; cases h
  | some c => rw [e] at h; exact ⟨c, rfl, (Option.some.inj h).symm⟩
theorem chars_len (z : Str) : (charsD z).length = z.length := by unfold charsD; rw [List.length_map]; rfl
theorem enum_at {ds : List D} {i : Nat} {d : D} (h : (enumD ds)[i]? = some d) : ∃ e, ds[i]? = some e ∧ d = .tup [.int (i : Nat), e] := by
  unfold enumD at h
  rw [List.getElem?_map, List.getElem?_zipIdx] at h
  cases e : ds[i]? with
  | none => rw [e] at h; cases h
  | some c => rw [e] at h; exact ⟨c, rfl, by simpa using (Option.some.inj h).symm⟩
theorem enum_len (ds : List D) : (enumD ds).length = ds.length := by unfold enumD; rw [List.length_map, List.length_zipIdx]
theorem pairs_at {ps : List Pr} {n : Nat} {d : D} (h : (ps.map pD)[n]? = some d) : ∃ p, ps[n]? = some p ∧ d = pD p := by
  rw [List.getElem?_map] at h
  cases e : ps[n]? with
  | none => rw [e] at h; cases h
  | some p => rw [e] at h; exact ⟨p, rfl, (Option.some.inj h).symm⟩
theorem and_oF {α : Type} {o : Option α} {A B : Prop} (hp : o = none) (h : B) : (o.isSome = true → A) ∧ (o.isSome = false → B) := by subst hp; exact and_F h
theorem and_oF' {α : Type} {o : Option α} {A B : Prop} (hp : o = none) (h : B) : (o.isSome = false → B) ∧ (o.isSome = true → A) := by subst hp; exact and_F' h
theorem putKD_new {kvs : List (Key × D)} {k : Key} {d : D} (h : valD kvs k = none) : putKD kvs k d = kvs ++ [(k, d)] := by
  unfold putKD
  rw [if_neg]
  unfold valD at h
  rw [Option.map_eq_none_iff, List.find?_eq_none] at h
  intro z
  rw [List.any_eq_true] at z
  obtain ⟨x, hx, e⟩ := z
  exact h x hx e
theorem val_none {ps : List Pr} {c : Nat} (h : c ∉ flat ps) : valD (kvsOf ps) (kS c) = none := by
  rw [val_kvs, Option.map_eq_none_iff, List.find?_eq_none]
  intro p hp z
  simp only [decide_eq_true_eq] at z
  refine h (List.mem_flatMap.mpr ⟨p, hp, ?_⟩)
  rcases z with z | z <;> simp [z]
theorem valD_app {a b : List (Key × D)} {k : Key} (h : valD a k = none) : valD (a ++ b) k = valD b k := by
  unfold valD at *
  rw [Option.map_eq_none_iff] at h
  rw [List.find?_append, h]
  rfl
theorem kvs_app (a : List Pr) (p : Pr) : kvsOf (a ++ [p]) = kvsOf a ++ [(kS p.1, .str (sg p.2)), (kS p.2, .str (sg p.1))] := by
  induction a with
  | nil => rfl
  | cons q a ih => rw [List.cons_append, kvsOf, ih, kvsOf]; rfl
theorem flat_split {ps : List Pr} {i : Nat} {p : Pr} (h : ps[i]? = some p) : flat ps = flat (ps.take i) ++ (p.1 :: p.2 :: flat (ps.drop (i + 1))) := by
  have hi := (List.getElem?_eq_some_iff.mp h)
  obtain ⟨hi, e⟩ := hi
  have : ps = ps.take i ++ p :: ps.drop (i + 1) := by
    rw [← e, List.getElem_cons_drop, List.take_append_drop]
  conv => lhs; rw [this]
  unfold flat
  rw [List.flatMap_append, List.flatMap_cons]
  rfl
theorem flat_new {ps : List Pr} {i : Nat} {p : Pr} (h : ps[i]? = some p) (nd : (flat ps).Nodup) : p.1 ∉ flat (ps.take i) ∧ p.2 ∉ flat (ps.take i) ∧ p.1 ≠ p.2 := by
  rw [flat_split h] at nd
  have h1 := List.nodup_append.mp nd
  refine ⟨fun z => h1.2.2 _ z _ (by simp) rfl, fun z => h1.2.2 _ z _ (by simp) rfl, fun z => ?_⟩
  have := h1.2.1
  rw [z] at this
  simp at this
theorem flat_mem {ps : List Pr} {i : Nat} {p : Pr} (h : ps[i]? = some p) : p.1 ∈ flat ps ∧ p.2 ∈ flat ps := by
  rw [flat_split h]
  simp
theorem putD_len (f : Str) (d : D) : ∀ fs : List (Str × D), (putD f d fs).length ≤ fs.length + 1
  | [] => Nat.le_refl _
  | (g, e) :: fs => by
    unfold putD
    split
    · simp
    · simp [putD_len f d fs]
theorem kvs_len (ps : List Pr) : (kvsOf ps).length = 2 * ps.length := by
  induction ps with
  | nil => rfl
  | cons p ps ih => rw [kvsOf, List.length_cons, List.length_cons, ih, List.length_cons]; omega
theorem eqv_nil (ds : List D) : eqvD (.lst ds) (.lst []) = ds.isEmpty := by
  cases ds with
  | nil => rfl
  | cons d ds => simp [eqvD, toPy, toPyL, PyData.eqv, PyData.eqvAll]
theorem chr_ok {xs : List D} (h : ∀ x ∈ xs, ∃ c, x = .str (sg c) ∧ c < 128) : okL xs = true ∧ depL xs = 0 := by
  induction xs with
  | nil => exact ⟨rfl, rfl⟩
  | cons x xs ih =>
    obtain ⟨c, rfl, hc⟩ := h x (List.mem_cons_self ..)
    obtain ⟨i1, i2⟩ := ih fun y hy => h y (List.mem_cons_of_mem _ hy)
    have e : okD (.str (sg c)) = true := by
      unfold okD PyData.strOk sg
      simp
      omega
    refine ⟨?_, ?_⟩
    · unfold okL; rw [e, i1]; rfl
    · unfold depL; rw [i2]; rfl
theorem inL_lt {c : Nat} (h : inL c) : c < 128 := by
  have : (LET.cps.toList.all fun c => decide (c < 128)) = true := by decide +kernel
  exact of_decide_eq_true (List.all_eq_true.mp this c h)
theorem perm_chars {ys : List D} {z : Str} (h : ys.Perm (charsD z)) : ∃ cs : List Nat, ys = cs.map (fun c => .str (sg c)) ∧ cs.Perm z.cps.toList := by
  have hall : ∀ y ∈ ys, ∃ c, y = D.str (sg c) := fun y hy => by
    obtain ⟨c, _, hc⟩ := List.mem_map.mp (h.mem_iff.mp hy)
    exact ⟨c, hc.symm⟩
  obtain ⟨cs, rfl⟩ : ∃ cs : List Nat, ys = cs.map (fun c => .str (sg c)) := by
    clear h
    induction ys with
    | nil => exact ⟨[], rfl⟩
    | cons y ys ih =>
      obtain ⟨c, rfl⟩ := hall y (List.mem_cons_self ..)
      obtain ⟨cs, rfl⟩ := ih fun z hz => hall z (List.mem_cons_of_mem _ hz)
      exact ⟨c :: cs, rfl⟩
  refine ⟨cs, rfl, ?_⟩
  have h2 := h.map (fun d => match d with
    | .str s => s.cps.toList.headD 0
    | _ => 0)
  unfold charsD at h2
  rw [List.map_map, List.map_map] at h2
  have hid : ((fun d => match d with
    | .str s => s.cps.toList.headD 0
    | _ => 0) ∘ fun c => D.str (sg c)) = (id : Nat → Nat) := rfl
  rw [hid, List.map_id, List.map_id] at h2
  exact h2
theorem range_at {lo : Int} {n i : Nat} {d : D} (h : (rangeD lo n)[i]? = some d) : i < n ∧ d = .int (lo + (i : Nat)) := by
  unfold rangeD at h
  rw [List.getElem?_map] at h
  cases e : (List.range n)[i]? with
  | none => rw [e] at h; cases h
  | some j =>
    rw [e] at h
    have h1 := List.getElem?_eq_some_iff.mp e
    obtain ⟨h1, h2⟩ := h1
    rw [List.length_range] at h1
    rw [List.getElem_range] at h2
    subst h2
    exact ⟨h1, (Option.some.inj h).symm⟩
theorem range_len {lo : Int} {n : Nat} : (rangeD lo n).length = n := by unfold rangeD; rw [List.length_map, List.length_range]
theorem cut_len {z : Str} (h : 2 ≤ z.length) : (cutS z (some 1) (some (-1))).length + 2 = z.length := by
  have e1 : HT.sIx z.length 0 (some 1) = 1 := by
    show (if (1 : Int) < 0 then ((1 : Int) + (z.length : Int)).toNat else min (1 : Int).toNat z.length) = 1
    rw [if_neg (by decide)]
    show min 1 z.length = 1
    omega
  have e2 : HT.sIx z.length z.length (some (-1)) = z.length - 1 := by
    show (if (-1 : Int) < 0 then (-1 + (z.length : Int)).toNat else min (-1 : Int).toNat z.length) = _
    rw [if_pos (by decide)]
    omega
  unfold cutS
  rw [e1, e2]
  have e4 : ∀ l : List Nat, (⟨l.toArray⟩ : Str).length = l.length := fun l => List.size_toArray ..
  have e3 : z.cps.toList.length = z.length := rfl
  rw [e4, List.length_take, List.length_drop, e3]
  omega
theorem sign_mem {z : Str} {n : Int} {c : Nat} (h : c ∈ (z ++ mulS sp1 n).cps.toList) : c = 32 ∨ c ∈ z.cps.toList := by
  have e : (z ++ mulS sp1 n).cps.toList = z.cps.toList ++ (mulS sp1 n).cps.toList := Array.toList_append
  rw [e] at h
  rcases List.mem_append.mp h with h | h
  · exact .inr h
  · left
    have : (mulS sp1 n).cps.toList = (List.replicate n.toNat [32]).flatten := rfl
    rw [this] at h
    obtain ⟨l, hl, hc⟩ := List.mem_flatten.mp h
    rw [List.eq_of_mem_replicate hl] at hc
    exact List.mem_singleton.mp hc
theorem sum_ones : ∀ r : List Nat, (r.map ((fun s : Str => s.length) ∘ sg)).sum = r.length
  | [] => rfl
  | c :: r => by rw [List.map_cons, List.sum_cons, sum_ones r, List.length_cons]; show 1 + r.length = _; omega
theorem join_sg0 : ∀ r : List Nat, (Str.join (Str.ofString "") (r.map sg)).cps.toList = r
  | [] => rfl
  | [c] => rfl
  | c :: d :: r => by
    have e : Str.join (Str.ofString "") ((c :: d :: r).map sg) = sg c ++ Str.ofString "" ++ Str.join (Str.ofString "") ((d :: r).map sg) := rfl
    have e2 : ∀ a b : Str, (a ++ b).cps.toList = a.cps.toList ++ b.cps.toList := fun a b => Array.toList_append
    rw [e, e2, e2, join_sg0 (d :: r)]
    rfl
theorem join_sg (r : List Nat) : Txt.join (Str.ofString "") (r.map sg) = ⟨r.toArray⟩ := by
  have e := join_sg0 r
  show Builtin.Str.glued (PySem.Str.ofString "") (r.map sg) = _
  rw [StrLaws.glued_eq_join]
  cases h : Str.join (Str.ofString "") (r.map sg) with
  | mk a =>
    rw [h] at e
    rw [← e]
theorem erase_perm {α : Type} : ∀ {l : List α} {j : Nat} (hj : j < l.length), ([l[j]] ++ l.eraseIdx j).Perm l
  | a :: l, 0, _ => List.Perm.refl _
  | a :: l, j + 1, hj => by
    have ih := erase_perm (l := l) (j := j) (by simpa using hj)
    have hj' : j < l.length := by simpa using hj
    show (l[j]'hj' :: a :: l.eraseIdx j).Perm (a :: l)
    exact (List.Perm.swap a _ _).trans (List.Perm.cons a ih)
theorem rep_map (n : Nat) : List.replicate n (D.bl true) = (List.replicate n true).map D.bl := by rw [List.map_replicate]
theorem all_rep (n : Nat) : (List.replicate n true).all id = true := by
  rw [List.all_eq_true]
  intro x hx
  exact List.eq_of_mem_replicate hx
theorem Sgn.cons {C : Addr} {ms : Ms} {x : Addr} {w : Int} {ps : List Pr} {p : Addr × MO} : Sgn C ms x w ps → Sgn C (p :: ms) x w ps := fun ⟨i, j, m, h1, h2⟩ => ⟨i + 1, j + 1, m, h1, h2⟩
theorem Sgn.setL {C : Addr} {ms : Ms} {x l : Addr} {w : Int} {ps : List Pr} {k : Nat} {st st' : List D} (hk : ms[k]? = some (l, .lst st)) : Sgn C ms x w ps → Sgn C (ms.set k (l, .lst st')) x w ps := fun ⟨i, j, m, h1, h2⟩ => by
  refine ⟨i, j, m, ?_, ?_⟩
  · rw [List.getElem?_set_ne]
    · exact h1
    · rintro rfl
      rw [hk] at h1
      cases h1
  · rw [List.getElem?_set_ne]
    · exact h2
    · rintro rfl
      rw [hk] at h2
      cases h2
def okZ (z : Str) : Prop := z.cps.toList.Nodup ∧ (∀ c ∈ z.cps.toList, inL c) ∧ 0 < z.length ∧ z.length ≤ 100
def ZS : List D := [.str "ABCDMW", .str "ABCDEFGHIJ6789", .str "0Z9A"]
theorem plain_str (n : Nat) (z : Str) : plainN n (.str z) := by cases n <;> simp [plainN]
theorem plain_int (n : Nat) (z : Int) : plainN n (.int z) := by cases n <;> simp [plainN]
section
variable {P : Program} {w : World} {K : Frg} {mg : Str → Option Value} {base : Heap}
theorem ok_is_int_in (T : Txt K mg) : OK_is_int_in P w base T := by
  refine fn_ok T.F_is_int_in sc_is_int_in (by rintro _ _ _ _ _ ⟨v, lo, hi, rfl, _⟩; rfl) (fun cdv A outer s H E hr => ?_)
  have hu64 := hr.units
  refine ⟨_, (pss_one (ps_ret (pe_and (pe_callB (kISI (K := K) rfl) (by rfl) T.g_isinstance boot_isinstance (pa_cons (pv 0) (pa_cons (pe_bltn (v := .ty "int") (by rfl) T.g_int boot_int rfl) pa_nil))) (pe_and (pe_not (pe_callB (kISI (K := K) rfl) (by rfl) T.g_isinstance boot_isinstance (pa_cons (pv 0) (pa_cons (pe_bltn (v := .ty "bool") (by rfl) T.g_bool boot_bool rfl) pa_nil)))) (pe_one (pe_chain op_le op_le (pv 1) (pv 0) (pv 2))))))), ?_⟩
  rintro _ F ms Q Ea ⟨v, lo, hi, rfl, q⟩
  walk_at "al"
  by_cases h : lo ≤ v
  · refine ⟨fun _ => ?_, fun z => by simp [h] at z⟩
    walk_at "al"
    simpa [h] using q
  · refine ⟨fun z => by simp [h] at z, fun _ => ?_⟩
    walk_at "al"
    simpa [h] using q
theorem ok_is_pair (T : Txt K mg) : OK_is_pair P w base T := by
  refine fn_ok T.F_is_pair sc_is_pair (by rintro _ _ _ _ _ ⟨v, rfl, _⟩; rfl) (fun cdv A outer s H E hr => ?_)
  have hu64 := hr.units
  refine ⟨_, (pss_cons (ps_if ((pw_or (pt_not (pt_val (pe_callB (kISI (K := K) rfl) (by rfl) T.g_isinstance boot_isinstance (pa_cons (pv 0) (pa_cons (pe_bltn (v := .ty "str") (by rfl) T.g_str boot_str rfl) pa_nil))))) (pw_or (pt_cmpR (kNE (K := K) rfl hu64) (pe_callB (kLEN (K := K) rfl) (by rfl) T.g_len boot_len (pa_cons (pv 0) pa_nil)) pe_int (nomark _)) (pw_or1 (pt_cmpR (kEQ (K := K) rfl hu64) (pe_ix (kIX (K := K) rfl) (pv 0) pe_int (fun _ _ => rfl)) (pe_ix (kIX (K := K) rfl) (pv 0) pe_int (fun _ _ => rfl)) (nomark _)))))).pt (pss_one (ps_ret pe_bl)) pss_nil)
      (pss_one (ps_ret (pe_and (pe_cmpR (kIN (K := K) rfl) (pe_ix (kIX (K := K) rfl) (pv 0) pe_int (fun _ _ => rfl)) (pe_glob (by rfl) T.m_LETTERS T.r_LETTERS) (by with_unfolding_all rfl)) (pe_one (pe_cmpR (kIN (K := K) rfl) (pe_ix (kIX (K := K) rfl) (pv 0) pe_int (fun _ _ => rfl)) (pe_glob (by rfl) T.m_LETTERS T.r_LETTERS) (by with_unfolding_all rfl))))))), ?_⟩
  rintro _ F ms Q Ea ⟨p, rfl, h1, h2, h3, q⟩
  have e1 : decide (((pS p).length : Int) = 2) = true := decide_eq_true rfl
  have e2 : decide (sg p.1 = sg p.2) = false := decide_eq_false fun z => h1 (by simpa [sg] using z)
  show AS _ _ _ _ [some (.str (pS p))] _
  walk_at "al"
  refine ac_lenS (z := pS p) (by show 2 ≤ 100000; decide) ?_
  walk_at "al"
  rw [e1]
  walk_at "al"
  refine ar_ixS (z := pS p) (c := p.1) (by show 2 ≤ 100000; decide) rfl ?_
  walk_at "al"
  refine ar_ixS (z := pS p) (c := p.2) (by show 2 ≤ 100000; decide) rfl ?_
  walk_at "al"
  rw [e2]
  walk_at "al"
  refine ar_ixS (z := pS p) (c := p.1) (by show 2 ≤ 100000; decide) rfl ?_
  walk_at "al"
  refine and_dT h2 ?_
  walk_at "al"
  refine ar_ixS (z := pS p) (c := p.2) (by show 2 ≤ 100000; decide) rfl ?_
  walk_at "al"
  have e3 : decide (p.2 ∈ LET.cps.toList) = true := decide_eq_true h3
  show Q F ms (.bl (decide (p.2 ∈ LET.cps.toList)))
  rw [e3]
  exact q
theorem ok__law_below (T : Txt K mg) : OK__law_below P w base T := by
  refine fn_ok T.F__law_below sc__law_below (by rintro _ _ _ _ _ ⟨k, l, st, n, rfl, _⟩; rfl) (fun cdv A outer s H E hr => ?_)
  have hu64 := hr.units
  refine ⟨_, (pss_cons (ps_if ((pw_and (pt_cmpR (kEQ (K := K) rfl hu64) (pe_ix (kIX (K := K) rfl) (pv 0) pe_int (fun _ _ => rfl)) pe_int (nomark _)) (pw_and1 (pt_cmpR op_gt (pe_callB (kLEN (K := K) rfl) (by rfl) T.g_len boot_len (pa_cons (pv 0) pa_nil)) pe_int (nomark _))))).pt (pss_one (ps_asg (pe_bmk (K := K) rfl PySem.F.plainAttrs_list PySem.F.slot_list_pop PySem.F.type_list_pop mt_popAt (pv 0) (pa_cons pe_int pa_nil)) (pg_sub (pv 0) pe_int set_list))) pss_nil)
      (pss_cons (ps_if (pt_cmpR op_gt (pe_ix (kIX (K := K) rfl) (pv 0) pe_int (fun _ _ => rfl)) pe_int (nomark _)) (pss_cons (ps_set (i := 2) sc__law_below.nd rfl (by first | exact Or.inl rfl | exact Or.inr rfl) (pe_op op_mod (pe_ix (kIX (K := K) rfl) (pv 0) pe_int (fun _ _ => rfl)) (pv 1)))
      (pss_cons (ps_asg (pe_op op_fdiv (pe_ix (kIX (K := K) rfl) (pv 0) pe_int (fun _ _ => rfl)) (pv 1)) (pg_sub (pv 0) pe_int set_list))
      (pss_one (ps_ret (pv 2))))) pss_nil)
      (pss_cons (ps_asg (pe_op op_mod (pe_op (kADD (K := K) rfl) (pe_op (kMUL (K := K) rfl) (pe_ix (kIX (K := K) rfl) (pv 0) pe_int (fun _ _ => rfl)) pe_int) pe_int) pe_int) (pg_sub (pv 0) pe_int set_list))
      (pss_one (ps_ret (pe_op op_mod (pe_op op_fdiv (pe_ix (kIX (K := K) rfl) (pv 0) pe_int (fun _ _ => rfl)) pe_int) (pv 1))))))), ?_⟩
  rintro _ F ms Q Ea ⟨k, l, _, n, rfl, hk, ⟨s0, c0, rest, rfl, hs0, hs1, hc0, hrest, hlen⟩, n0, n1, q⟩
  have hkl : k < ms.length := (List.getElem?_eq_some_iff.mp hk).1
  refine as_cut (fun F' ms' S' => F' = F ∧ S' = startS N__law_below [.ref l, .int n] ∧ ∃ (c : Int) (R' : List Int), ms' = ms.set k (l, .lst (.int s0 :: .int c :: R'.map D.int)) ∧ 0 ≤ c ∧ (∀ x ∈ R', 10 ^ 18 ≤ x) ∧ R'.length ≤ 64) ?_ ?_
  · walk_at "al"
    refine ar_ixO k hk (atI_of (j := 1) rfl rfl) ?_
    walk_at "al"
    by_cases hc : c0 = 0
    · refine and_dT hc ?_
      walk_at "al"
      refine ac_lenO k hk ?_
      walk_at "al"
      cases rest with
      | nil =>
        refine and_dF (by simp) ?_
        walk_at "al"
        exact ⟨rfl, rfl, c0, [], (set_same hk).symm, hc0, hrest, hlen⟩
      | cons r0 rest =>
        refine and_dT (by simp; omega) ?_
        refine as_subO ?_
        refine ae_bmL ?_
        walk_at "al"
        refine ⟨_, .inr ⟨k, l, rfl, hk⟩, ?_⟩
        walk_at "al"
        refine am_popAt k (j := 2) (d := .int r0) hk rfl (by simp; simp at hlen; omega) rfl ?_
        walk_at "al"
        refine ⟨k, l, _, 1, 1, rfl, rfl, set_get hkl, ixN_of rfl (by simp), ?_⟩
        refine ⟨rfl, rfl, r0, rest, ?_, ?_, fun x hx => hrest x (List.mem_cons_of_mem _ hx), ?_⟩
        · rw [set_set]; rfl
        · have := hrest r0 (List.mem_cons_self ..); omega
        · simp at hlen; omega
    · refine and_dF hc ?_
      walk_at "al"
      exact ⟨rfl, rfl, c0, rest, (set_same hk).symm, hc0, hrest, hlen⟩
  · rintro F' ms' S' eF ⟨rfl, rfl, c, R', rfl, hc0', hrest', hlen'⟩
    have hk' : (ms.set k (l, MO.lst (.int s0 :: .int c :: R'.map D.int)))[k]? = some (l, .lst (.int s0 :: .int c :: R'.map D.int)) := set_get hkl
    walk_at "al"
    refine ar_ixO k hk' (atI_of (j := 1) rfl rfl) ?_
    walk_at "al"
    by_cases hc : 0 < c
    · refine and_dT hc ?_
      walk_at "al"
      refine ar_ixO k hk' (atI_of (j := 1) rfl rfl) ?_
      walk_at "al"
      refine ar_modI n0 ?_
      walk_at "al"
      refine as_subO ?_
      walk_at "al"
      refine ar_ixO k hk' (atI_of (j := 1) rfl rfl) ?_
      walk_at "al"
      refine ar_divI ⟨n0, by omega⟩ ?_
      walk_at "al"
      refine ⟨k, l, _, 1, 1, rfl, rfl, hk', ixN_of rfl (by simp), ?_⟩
      walk_at "al"
      rw [set_set]
      exact q _ _ ⟨s0, c / n, R', rfl, hs0, hs1, Int.ediv_nonneg hc0' (by omega), hrest', hlen'⟩ (Int.emod_nonneg _ (by omega)) (Int.emod_lt_of_pos _ n0)
    · refine and_dF hc ?_
      walk_at "al"
      refine as_subO ?_
      walk_at "al"
      refine ar_ixO k hk' (atI_of (j := 0) rfl rfl) ?_
      walk_at "al"
      refine ar_MULi (.inr ⟨by decide, by decide⟩) ?_
      walk_at "al"
      refine ar_modI (by decide) ?_
      walk_at "al"
      refine ⟨k, l, _, 0, 0, rfl, rfl, hk', ixN_of rfl (by simp), ?_⟩
      walk_at "al"
      rw [set_set]
      refine ar_ixO k (set_get hkl) (atI_of (j := 0) rfl rfl) ?_
      walk_at "al"
      refine ar_divI ⟨by decide, by decide⟩ ?_
      walk_at "al"
      refine ar_modI n0 ?_
      exact q _ _ ⟨(s0 * 48271 + 11) % 2147483647, c, R', rfl, Int.emod_nonneg _ (by decide), Int.emod_lt_of_pos _ (by decide), hc0', hrest', hlen'⟩ (Int.emod_nonneg _ (by omega)) (Int.emod_lt_of_pos _ n0)
theorem ok__law_random (T : Txt K mg) : OK__law_random P w base T := by
  refine fn_ok T.F__law_random sc__law_random (by rintro _ _ _ _ _ ⟨ns, rfl, _⟩; rfl) (fun cdv A outer s H E hr => ?_)
  have hu64 := hr.units
  refine ⟨_, (pss_cons (ps_set (i := 2) sc__law_random.nd rfl (by first | exact Or.inl rfl | exact Or.inr rfl) (pv 1))
      (pss_cons (ps_for PassesOwn.never rfl (pi_listk (K := K) rfl (pv 0)) (pg_name (i := 3) sc__law_random.nd rfl (by first | exact Or.inl rfl | exact Or.inr rfl)) (pss_one (ps_set (i := 2) sc__law_random.nd rfl (by first | exact Or.inl rfl | exact Or.inr rfl) (pe_op op_mod (pe_op (kADD (K := K) rfl) (pe_op (kMUL (K := K) rfl) (pv 2) pe_int) (pe_callB call_ABS (by rfl) T.g_abs boot_abs (pa_cons (pv 3) pa_nil))) pe_int))))
      (pss_one (ps_ret (pe_op (kADD (K := K) rfl) (pe_lst (pa_cons (pv 2) (pa_cons pe_int pa_nil))) (pe_lc rfl sc__law_random.nd (pi_listk (K := K) rfl (pv 0)) (own := [("_law_cell", 3)]) (@BlkOk.mk N__law_random (defScope s__law_random) _ _ rfl (by decide +kernel) (by decide +kernel) (by decide +kernel) (by decide +kernel)) (fun _ _ _ _ _ => (pg_name (i := 3) sc__law_random.nd rfl (by first | exact Or.inl rfl | exact Or.inr rfl))) (fun _ _ _ _ _ => (pts_one (pt_cmpR op_ge (pv 3) (pe_op op_pow pe_int pe_int) (nomark _)))) (fun _ _ _ _ _ => (pv 3)))))))), ?_⟩
  rintro _ F ms Q Ea ⟨ns, rfl, hn, q⟩
  refine as_seq ?_
  walk_at "al"
  refine as_for ?_
  refine ai_list ?_
  walk_at "al"
  refine .inl ⟨_, .inr rfl, fun i F' ms' S' => ms' = ms ∧ ∃ (z : Int) (e : Option D), 0 ≤ z ∧ z < 2147483647 ∧ S' = [some (.rdl (ns.map D.int)), some (.int 36), some (.int z), e], ⟨rfl, 36, none, by decide, by decide, rfl⟩, fun _ _ _ _ _ _ => trivial, ?_, ?_⟩
  · rintro i d F' ms' S' e hd ⟨rfl, z, e', hz0, hz1, rfl⟩ F'' e''
    obtain ⟨x, rfl⟩ : ∃ x, d = .int x := by
      rw [List.getElem?_map] at hd
      cases h : ns[i]? with
      | none => rw [h] at hd; cases hd
      | some x => rw [h] at hd; exact ⟨x, (Option.some.inj hd).symm⟩
    refine ag_name ?_
    walk_at "al"
    refine ar_MULi (.inr ⟨by decide, by decide⟩) ?_
    walk_at "al"
    refine ar_modI (by decide) ?_
    walk_at "al"
    exact ⟨rfl, _, _, Int.emod_nonneg _ (by decide), Int.emod_lt_of_pos _ (by decide), rfl⟩
  · rintro F' ms' S' e ⟨rfl, z, e', hz0, hz1, rfl⟩
    walk_at "al"
    refine ae_lstF ?_
    walk_at "al"
    refine ⟨by simp, fun F2 e2 => ?_⟩
    refine ae_lc (gw_name (by simp)) gm_name ?_
    refine ai_list ?_
    walk_at "al"
    refine .inl ⟨_, .inr rfl, fun i F' ms1 acc => ms1 = ms' ∧ ∃ R' : List Int, acc = R'.map D.int ∧ (∀ x ∈ R', 10 ^ 18 ≤ x) ∧ R'.length ≤ i, ⟨rfl, [], rfl, fun _ h => (List.not_mem_nil h).elim, Nat.le_refl _⟩, fun _ _ _ _ _ _ => trivial, ?_, ?_⟩
    · rintro i d F3 ms3 acc e3 hd ⟨rfl, R', rfl, hR, hl⟩ F4 e4
      have hi : i < ns.length := by
        have := (List.getElem?_eq_some_iff.mp hd).1
        simpa using this
      obtain ⟨x, rfl⟩ : ∃ x, d = .int x := by
        rw [List.getElem?_map] at hd
        cases h : ns[i]? with
        | none => rw [h] at hd; cases hd
        | some x => rw [h] at hd; exact ⟨x, (Option.some.inj hd).symm⟩
      refine ag_name ?_
      walk_at "al"
      refine ar_powI ⟨by decide, by decide, by decide⟩ ?_
      walk_at "al"
      refine ⟨fun h => ?_, fun h => ?_⟩
      · walk_at "al"
        refine ⟨by rw [List.length_map]; omega, rfl, R' ++ [x], by rw [List.map_append]; rfl, ?_, by rw [List.length_append]; simp; omega⟩
        intro y hy
        rcases List.mem_append.mp hy with hy | hy
        · exact hR y hy
        · rw [List.mem_singleton.mp hy]
          exact of_decide_eq_true h
      · exact ⟨rfl, R', rfl, hR, by omega⟩
    · rintro F3 ms3 acc e3 ⟨rfl, R', rfl, hR, hl⟩ F4 e4
      rw [List.length_map] at hl
      refine ar_ADDlo (by rw [List.length_map]; simp; omega) fun l => ?_
      exact q F4 l _ ((((e.trans e2).trans e3).trans e4)) ⟨z, 0, R', rfl, hz0, hz1, by decide, hR, by omega⟩
theorem ok_Sign___init__ (T : Txt K mg) (G_is_int_in : OK_is_int_in P w base T) (G_is_pair : OK_is_pair P w base T) : OK_Sign___init__ P w base T := by
  refine fn_okD T.F_Sign___init__ sc_Sign___init__ (by rintro _ _ _ _ _ ⟨x, w, ps, R, rfl, _⟩; rfl) (fun cdv A outer s H E hr => ?_)
  have hu64 := hr.units
  refine ⟨_, (pss_cons (ps_if (pt_not (pt_val (pe_call G_is_int_in (hr.mono (by first | decide | omega)) (by rfl) T.m_is_int_in T.F_is_int_in.kp T.b_is_int_in .nil pass0 (pa_cons (pv 1) (pa_cons pe_int (pa_cons (pe_glob (by rfl) T.m_MAX_WIDTH T.r_MAX_WIDTH) pa_nil)))))) (pss_one ps_never) pss_nil)
      (pss_cons (ps_if (pt_not (pt_val (pe_callB (kISI (K := K) rfl) (by rfl) T.g_isinstance boot_isinstance (pa_cons (pv 2) (pa_cons (pe_bltn (v := .ty "tuple") (by rfl) T.g_tuple boot_tuple rfl) pa_nil))))) (pss_one ps_never) pss_nil)
      (pss_cons (ps_fld (pv 0) pe_dnewK (by rfl))
      (pss_cons (ps_for PassesOwn.never rfl (pi_enumA (by rfl) T.g_enumerate (pa_cons (pv 2) pa_nil)) (pg_tup rfl (pgs_cons (pg_name (i := 3) sc_Sign___init__.nd rfl (by first | exact Or.inl rfl | exact Or.inr rfl)) (pgs_cons (pg_name (i := 4) sc_Sign___init__.nd rfl (by first | exact Or.inl rfl | exact Or.inr rfl)) pgs_nil))) (pss_cons (ps_if ((pw_or (pt_cmpR (kEQ (K := K) rfl hu64) (pv 3) (pe_glob (by rfl) T.m_MAX_PAIRS T.r_MAX_PAIRS) (nomark _)) (pw_or (pt_not (pt_val (pe_call G_is_pair (hr.mono (by first | decide | omega)) (by rfl) T.m_is_pair T.F_is_pair.kp T.b_is_pair .nil pass0 (pa_cons (pv 4) pa_nil)))) (pw_or (pt_cmp (pc_din (hu_of hr) (pe_ix (kIX (K := K) rfl) (pv 4) pe_int (fun _ _ => rfl)) (pe_fldk (K := K) rfl (pv 0) (by rfl)))) (pw_or1 (pt_cmp (pc_din (hu_of hr) (pe_ix (kIX (K := K) rfl) (pv 4) pe_int (fun _ _ => rfl)) (pe_fldk (K := K) rfl (pv 0) (by rfl))))))))).pt (pss_one ps_never) pss_nil)
      (pss_cons (ps_dput (hu_of hr) (pe_fldk (K := K) rfl (pv 0) (by rfl)) (pe_ix (kIX (K := K) rfl) (pv 4) pe_int (fun _ _ => rfl)) (pe_ix (kIX (K := K) rfl) (pv 4) pe_int (fun _ _ => rfl)) (by rfl))
      (pss_one (ps_dput (hu_of hr) (pe_fldk (K := K) rfl (pv 0) (by rfl)) (pe_ix (kIX (K := K) rfl) (pv 4) pe_int (fun _ _ => rfl)) (pe_ix (kIX (K := K) rfl) (pv 4) pe_int (fun _ _ => rfl)) (by rfl))))))
      (pss_cons (ps_fld (pv 0) (pv 1) (by rfl))
      (pss_one (ps_fld (pv 0) (pv 2) (by rfl)))))))), ?_⟩
  rintro _ F _ Q Ea ⟨x, w, ps, R, rfl, w1, w2, hl, hL, hnd, rfl, q⟩
  walk_at "al"
  refine ⟨w, 1, 24, rfl, ?_⟩
  rw [decide_eq_true w1, decide_eq_true w2]
  walk_at "al"
  refine and_nT ?_
  walk_at "al"
  refine as_fld ?_
  refine ae_dnewO fun m => ?_
  walk_at "al"
  refine ⟨1, x, T.c_Sign, [], rfl, rfl, T.k_Sign, T.n_Sign_mates, by decide, ?_⟩
  walk_at "al"
  refine as_for ?_
  refine ai_enum ?_
  walk_at "al"
  refine .inr (.inl ⟨_, rfl, fun i F' ms' S' => ms' = (m, .dic (kvsOf (ps.take i))) :: (x, .ins T.c_Sign [("mates", .ref m)]) :: R ∧ ∃ a b, S' = [some (.ref x), some (.int w), some (.tup (ps.map pD)), a, b], ⟨rfl, none, none, rfl⟩, fun _ _ _ _ _ _ => trivial, ?_, ?_⟩)
  · rintro n d F' ms' S' e hd ⟨rfl, a, b, rfl⟩ F'' e''
    obtain ⟨_, h1, rfl⟩ := enum_at hd
    obtain ⟨p, hp, rfl⟩ := pairs_at h1
    obtain ⟨f1, f2, f3⟩ := flat_new hp hnd
    obtain ⟨g1, g2⟩ := flat_mem hp
    have hn : n < ps.length := (List.getElem?_eq_some_iff.mp hp).1
    refine ag_tup rfl ?_
    refine ags_cons (ag_name ?_)
    refine ags_cons (ag_name ?_)
    refine ags_nil ?_
    walk_at "al"
    refine and_dF' (by omega) ?_
    walk_at "al"
    refine ⟨p, rfl, f3, hL _ g1, hL _ g2, ?_⟩
    walk_at "al"
    refine ae_din ?_
    walk_at "al"
    refine ar_ixS (z := pS p) (c := p.1) (by show 2 ≤ 100000; decide) rfl ?_
    refine ae_fld ?_
    walk_at "al"
    refine ⟨x, T.c_Sign, [("mates", .ref m)], .ref m, rfl, .inr ⟨1, rfl⟩, T.k_Sign, T.n_Sign_mates, rfl, ?_⟩
    refine ⟨kS p.1, _, rfl, .inr ⟨0, m, rfl, rfl⟩, ?_⟩
    walk_at "al"
    refine and_oF' (val_none f1) ?_
    walk_at "al"
    refine ae_din ?_
    walk_at "al"
    refine ar_ixS (z := pS p) (c := p.2) (by show 2 ≤ 100000; decide) rfl ?_
    refine ae_fld ?_
    walk_at "al"
    refine ⟨x, T.c_Sign, [("mates", .ref m)], .ref m, rfl, .inr ⟨1, rfl⟩, T.k_Sign, T.n_Sign_mates, rfl, ?_⟩
    refine ⟨kS p.2, _, rfl, .inr ⟨0, m, rfl, rfl⟩, ?_⟩
    walk_at "al"
    refine and_oF (val_none f2) ?_
    walk_at "al"
    refine as_dput ?_
    walk_at "al"
    refine ar_ixS (z := pS p) (c := p.2) (by show 2 ≤ 100000; decide) rfl ?_
    refine ae_fld ?_
    walk_at "al"
    refine ⟨x, T.c_Sign, [("mates", .ref m)], .ref m, rfl, .inr ⟨1, rfl⟩, T.k_Sign, T.n_Sign_mates, rfl, ?_⟩
    walk_at "al"
    refine ar_ixS (z := pS p) (c := p.1) (by show 2 ≤ 100000; decide) rfl ?_
    have l1 := kvs_len (ps.take n)
    have l2 : (ps.take n).length ≤ 10 := by rw [List.length_take]; omega
    refine ⟨0, m, _, kS p.1, rfl, rfl, rfl, by omega, ?_⟩
    walk_at "al"
    refine as_dput ?_
    walk_at "al"
    refine ar_ixS (z := pS p) (c := p.1) (by show 2 ≤ 100000; decide) rfl ?_
    refine ae_fld ?_
    walk_at "al"
    refine ⟨x, T.c_Sign, [("mates", .ref m)], .ref m, rfl, .inr ⟨1, rfl⟩, T.k_Sign, T.n_Sign_mates, rfl, ?_⟩
    walk_at "al"
    refine ar_ixS (z := pS p) (c := p.2) (by show 2 ≤ 100000; decide) rfl ?_
    have l3 : (putKD (kvsOf (ps.take n)) (kS p.1) (.str (sg p.2))).length = (kvsOf (ps.take n)).length + 1 := by rw [putKD_new (val_none f1), List.length_append]; rfl
    refine ⟨0, m, _, kS p.2, rfl, rfl, rfl, by omega, ?_⟩
    refine ⟨?_, _, _, rfl⟩
    show (m, MO.dic (putKD (putKD (kvsOf (ps.take n)) (kS p.1) (.str (sg p.2))) (kS p.2) (.str (sg p.1)))) :: _ = _
    rw [putKD_new (val_none f1), putKD_new (by
      rw [valD_app (val_none f2), valD_cons, if_neg (fun z => f3 (kS_inj.mp z).symm)]
      rfl), List.take_succ, hp]
    show _ = (m, MO.dic (kvsOf (ps.take n ++ [p]))) :: _
    rw [kvs_app, List.append_assoc]
    rfl
  · rintro F' ms' S' e ⟨rfl, a, b, rfl⟩
    rw [enum_len, List.length_map, List.take_length]
    walk_at "al"
    refine as_fld ?_
    walk_at "al"
    refine ⟨1, x, T.c_Sign, _, rfl, rfl, T.k_Sign, T.n_Sign_width, by show 1 < 1000; decide, ?_⟩
    walk_at "al"
    refine as_fld ?_
    walk_at "al"
    refine ⟨1, x, T.c_Sign, _, rfl, rfl, T.k_Sign, T.n_Sign_pairs, Nat.lt_of_le_of_lt (putD_len _ _ _) (by show 2 < 1000; decide), ?_⟩
    exact q m F' e
theorem ok__law_shuffled (T : Txt K mg) (G__law_below : OK__law_below P w base T) : OK__law_shuffled P w base T := by
  refine fn_ok T.F__law_shuffled sc__law_shuffled (by rintro _ _ _ _ _ ⟨k, l, st, xs, rfl, _⟩; rfl) (fun cdv A outer s H E hr => ?_)
  have hu64 := hr.units
  refine ⟨_, (pss_cons (ps_set (i := 2) sc__law_shuffled.nd rfl (by first | exact Or.inl rfl | exact Or.inr rfl) (pe_callTy (kLIST (K := K) rfl rfl) (by rfl) T.g_list boot_list (pa_cons (pv 1) pa_nil)))
      (pss_cons (ps_set (i := 3) sc__law_shuffled.nd rfl (by first | exact Or.inl rfl | exact Or.inr rfl) (pe_lst pa_nil))
      (pss_cons (ps_while PassesOwn.never (pt_cmpR (kNE (K := K) rfl hu64) (pv 2) (pe_lst pa_nil) (nomark _)) (pss_one (ps_expr (pe_bmk (K := K) rfl PySem.F.plainAttrs_list PySem.F.slot_list_append PySem.F.type_list_append mt_append (pv 3) (pa_cons (pe_bmk (K := K) rfl PySem.F.plainAttrs_list PySem.F.slot_list_pop PySem.F.type_list_pop mt_popAt (pv 2) (pa_cons (pe_call G__law_below (hr.mono (by first | decide | omega)) (by rfl) T.m__law_below T.F__law_below.kp T.b__law_below .nil pass0 (pa_cons (pv 0) (pa_cons (pe_callB (kLEN (K := K) rfl) (by rfl) T.g_len boot_len (pa_cons (pv 2) pa_nil)) pa_nil))) pa_nil)) pa_nil)))))
      (pss_one (ps_ret (pv 3)))))), ?_⟩
  rintro _ F ms Q Ea ⟨k, l, st, xs, rfl, hk, hst, hx, hc, q⟩
  have hkl : k < ms.length := (List.getElem?_eq_some_iff.mp hk).1
  walk_at "al"
  refine ac_listO (.inl (.inl rfl)) fun l1 => ?_
  walk_at "al"
  refine ae_lstO ?_
  walk_at "al"
  refine ⟨by simp, fun l2 => ?_⟩
  walk_at "al"
  refine as_while (fun m F' ms' S' => ∃ (r p st' : List D), ms' = (l2, .lst r) :: (l1, .lst p) :: ms.set k (l, .lst st') ∧ St st' ∧ (r ++ p).Perm xs ∧ p.length = m ∧ S' = [some (.ref l), some (.lst xs), some (.ref l1), some (.ref l2)]) xs.length ⟨[], xs, st, by rw [set_same hk], hst, List.Perm.refl _, rfl, rfl⟩ ?_
  rintro m F' ms' S' e ⟨r, p, st', rfl, hst', hp, rfl, rfl⟩
  have hps : ∀ y ∈ r ++ p, ∃ c, y = .str (sg c) ∧ c < 128 := fun y hy => hc y (hp.mem_iff.mp hy)
  obtain ⟨o1, o2⟩ := chr_ok fun y hy => hps y (List.mem_append_right _ hy)
  have hlen := hp.length_eq
  rw [List.length_append] at hlen
  walk_at "al"
  refine ae_lstF ?_
  walk_at "al"
  refine ⟨by simp, fun F2 e2 => ?_⟩
  refine ar_NEo 1 (ds := p) rfl o1 rfl (by rw [o2]; decide) (by decide) ?_
  walk_at "al"
  rw [eqv_nil]
  cases p with
  | nil =>
    refine and_nT ?_
    refine as_ret (ae_dropm (ae_frz ?_))
    walk_at "al"
    refine ⟨0, l2, r, rfl, rfl, fun F3 e3 => ⟨0, Nat.zero_lt_succ _, ?_⟩⟩
    exact q st' F3 r ((e.trans e2).trans e3) hst' (by simpa using hp)
  | cons d0 p0 =>
    refine and_nF ?_
    walk_at "al"
    refine ae_bmL ?_
    walk_at "al"
    refine ⟨r, .inr ⟨0, l2, rfl, rfl⟩, ?_⟩
    walk_at "al"
    refine ae_bmL ?_
    walk_at "al"
    refine ⟨d0 :: p0, .inr ⟨1, l1, rfl, rfl⟩, ?_⟩
    walk_at "al"
    refine ac_lenO 1 (ds := d0 :: p0) rfl ?_
    walk_at "al"
    rw [List.length_cons] at hlen
    refine ⟨k + 2, l, st', _, rfl, set_get hkl, hst', by rw [List.length_cons]; omega, by rw [List.length_cons]; omega, fun st2 z hst2 z0 z1 => ?_⟩
    walk_at "al"
    obtain ⟨j, rfl⟩ : ∃ j : Nat, z = j := ⟨z.toNat, by omega⟩
    have hj : j < (d0 :: p0).length := by omega
    refine am_popAt 1 (l := l1) (xs := d0 :: p0) rfl rfl (by rw [List.length_cons]; omega) (List.getElem?_eq_getElem hj) ?_
    walk_at "al"
    refine am_append 0 (l := l2) (xs := r) rfl (by omega) ?_
    have he : (List.eraseIdx (d0 :: p0) j).length = p0.length := by rw [List.length_eraseIdx_of_lt hj]; rfl
    refine ⟨p0.length, by simp, r ++ [(d0 :: p0)[j]], List.eraseIdx (d0 :: p0) j, st2, ?_, hst2, ?_, he, rfl⟩
    · show (l2, MO.lst _) :: (l1, MO.lst _) :: (ms.set k (l, MO.lst st')).set k (l, MO.lst st2) = _
      rw [set_set]
    · rw [List.append_assoc]
      refine List.Perm.trans (List.Perm.append_left r ?_) hp
      exact erase_perm hj
theorem ok__law_pairs (T : Txt K mg) (G__law_below : OK__law_below P w base T) (G__law_shuffled : OK__law_shuffled P w base T) : OK__law_pairs P w base T := by
  refine fn_ok T.F__law_pairs sc__law_pairs (by rintro _ _ _ _ _ ⟨k, l, st, z, rfl, _⟩; rfl) (fun cdv A outer s H E hr => ?_)
  have hu64 := hr.units
  refine ⟨_, (pss_cons (ps_set (i := 2) sc__law_pairs.nd rfl (by first | exact Or.inl rfl | exact Or.inr rfl) (pe_call G__law_shuffled (hr.mono (by first | decide | omega)) (by rfl) T.m__law_shuffled T.F__law_shuffled.kp T.b__law_shuffled .nil pass0 (pa_cons (pv 0) (pa_cons (pe_callTy (kLIST (K := K) rfl rfl) (by rfl) T.g_list boot_list (pa_cons (pv 1) pa_nil)) pa_nil))))
      (pss_cons (ps_set (i := 3) sc__law_pairs.nd rfl (by first | exact Or.inl rfl | exact Or.inr rfl) (pe_call G__law_below (hr.mono (by first | decide | omega)) (by rfl) T.m__law_below T.F__law_below.kp T.b__law_below .nil pass0 (pa_cons (pv 0) (pa_cons (pe_op (kADD (K := K) rfl) pe_int (pe_callB (call_MIN rfl) (by rfl) T.g_min boot_min (pa_cons pe_int (pa_cons (pe_op op_fdiv (pe_callB (kLEN (K := K) rfl) (by rfl) T.g_len boot_len (pa_cons (pv 2) pa_nil)) pe_int) pa_nil)))) pa_nil))))
      (pss_one (ps_ret (pe_callTy (kTUPLE (K := K) rfl) (by rfl) T.g_tuple boot_tuple (pa_cons (pe_lc rfl sc__law_pairs.nd (pi_range1 (by rfl) T.g_range (pa_cons (pv 3) pa_nil)) (own := [("_law_k", 4)]) (@BlkOk.mk N__law_pairs (defScope s__law_pairs) _ _ rfl (by decide +kernel) (by decide +kernel) (by decide +kernel) (by decide +kernel)) (fun _ _ _ _ _ => (pg_name (i := 4) sc__law_pairs.nd rfl (by first | exact Or.inl rfl | exact Or.inr rfl))) (fun _ _ _ _ _ => pts_nil) (fun _ _ _ _ _ => (pe_op (kADD (K := K) rfl) (pe_ix (kIX (K := K) rfl) (pv 2) (pe_op (kMUL (K := K) rfl) pe_int (pv 4)) (fun _ _ => rfl)) (pe_ix (kIX (K := K) rfl) (pv 2) (pe_op (kADD (K := K) rfl) (pe_op (kMUL (K := K) rfl) pe_int (pv 4)) pe_int) (fun _ _ => rfl))))) pa_nil)))))), ?_⟩
  rintro _ F ms Q Ea ⟨k, l, st, z, rfl, hk, hst, hz, hnd, hL, q⟩
  have hkl : k < ms.length := (List.getElem?_eq_some_iff.mp hk).1
  walk_at "al"
  refine ac_listT (z := z) (by omega) fun F1 e1 => ?_
  walk_at "al"
  refine ⟨k, l, st, charsD z, rfl, hk, hst, by rw [chars_len]; exact hz, ?_, fun st1 F2 ys e2 hst1 hy => ?_⟩
  · intro x hx
    obtain ⟨i, hi⟩ := List.mem_iff_getElem?.mp hx
    obtain ⟨c, hc, rfl⟩ := chars_at hi
    exact ⟨c, rfl, inL_lt (hL c (List.mem_of_getElem? hc))⟩
  walk_at "al"
  refine ar_divI ⟨by decide, by decide⟩ ?_
  walk_at "al"
  obtain ⟨cs, rfl, hcs⟩ := perm_chars hy
  have hlc : cs.length ≤ 100 := by rw [hcs.length_eq]; exact hz
  refine ⟨k, l, st1, _, rfl, set_get hkl, hst1, by rw [List.length_map]; split <;> omega, by split <;> omega, fun st2 n hst2 n0 n1 => ?_⟩
  walk_at "al"
  refine ae_lc (gw_name (by simp)) gm_name ?_
  refine ai_rng1 ?_
  walk_at "al"
  rw [List.length_map] at n1
  have n2 : n ≤ 3 ∧ 2 * n ≤ cs.length := by
    split at n1 <;> omega
  rw [set_set]
  refine ⟨n, rfl, by omega, by omega, fun i F' ms' acc => ms' = ms.set k (l, .lst st2) ∧ ∃ ps : List Pr, acc = ps.map pD ∧ ps.length = i ∧ flat ps = cs.take (2 * i), ⟨rfl, [], rfl, rfl, rfl⟩, fun _ _ _ _ _ _ => trivial, ?_, ?_⟩
  · rintro i d F' ms' acc e hd ⟨rfl, ps, rfl, hl, hf⟩ F'' e''
    obtain ⟨hi, rfl⟩ := range_at hd
    have hi2 : i < n.toNat := hi
    refine ag_name ?_
    walk_at "al"
    refine ar_MULi (.inl ⟨by decide, by decide⟩) ?_
    have a1 : 2 * i < cs.length := by omega
    have a2 : 2 * i + 1 < cs.length := by omega
    refine ar_ixL (atI_of (j := 2 * i) (d := .str (sg cs[2 * i])) (by omega) (by rw [List.getElem?_map, List.getElem?_eq_getElem a1]; rfl)) ?_
    walk_at "al"
    refine ar_MULi (.inl ⟨by decide, by decide⟩) ?_
    walk_at "al"
    refine ar_ixL (atI_of (j := 2 * i + 1) (d := .str (sg cs[2 * i + 1])) (by omega) (by rw [List.getElem?_map, List.getElem?_eq_getElem a2]; rfl)) ?_
    refine ar_ADDs (by show 1 + 1 ≤ 100000; decide) ?_
    refine ⟨by rw [List.length_map]; omega, rfl, ps ++ [(cs[2 * i], cs[2 * i + 1])], by rw [List.map_append]; rfl, by rw [List.length_append, hl]; rfl, ?_⟩
    unfold flat at *
    rw [List.flatMap_append, hf, show 2 * (i + 1) = 2 * i + 1 + 1 by omega, List.take_succ, List.take_succ, List.getElem?_eq_getElem a1, List.getElem?_eq_getElem a2, List.append_assoc]
    rfl
  · rintro F' ms' acc e ⟨rfl, ps, rfl, hl, hf⟩ F'' e''
    rw [range_len] at hl hf
    walk_at "al"
    refine ac_tupleL (.inl rfl) fun F3 e3 => ?_
    have sub : ∀ c ∈ flat ps, c ∈ cs := fun c hc => List.mem_of_mem_take (hf ▸ hc)
    refine q st2 F3 ps ((((e1.trans e2).trans e).trans e'').trans e3) hst2 (by omega) (fun c hc => hcs.mem_iff.mp (sub c hc)) ?_
    rw [hf]
    exact (hcs.nodup_iff.mpr hnd).sublist (List.take_sublist _ _)
end

theorem inL_ne {c : Nat} (h : inL c) : c ≠ 32 := by
  rintro rfl
  have : decide (32 ∈ LET.cps.toList) = false := by decide +kernel
  exact of_decide_eq_false this h
theorem sg_ne {c : Nat} (h : c ≠ 32) : ¬ sg c = Str.ofString " " := fun q => by
  have e : [c] = [32] := congrArg (fun s : Str => s.cps.toList) q
  exact h (by simpa using e)
theorem cut_mem {r : List Nat} {c : Nat} {lo hi : Option Int} (h : c ∈ (cutS ⟨r.toArray⟩ lo hi).cps.toList) : c ∈ r := by
  unfold cutS at h
  exact List.mem_of_mem_drop (List.mem_of_mem_take h)
theorem app_l (a b : Str) : (a ++ b).cps.toList = a.cps.toList ++ b.cps.toList := Array.toList_append
theorem ok_ends {a b : Nat} {m : Str} {w : Int} (ha : inL a) (hb : inL b) (hm : ∀ c ∈ m.cps.toList, c = 32 ∨ inL c) (hw : (m.length : Int) + 2 ≤ w) : textOk w (sg a ++ m ++ sg b) := by
  have e : (sg a ++ m ++ sg b).cps.toList = a :: (m.cps.toList ++ [b]) := by rw [app_l, app_l]; rfl
  have l : (sg a ++ m ++ sg b).length = m.length + 2 := by
    rw [str_len_add, str_len_add]
    show 1 + m.length + 1 = _
    omega
  refine ⟨by rw [l]; omega, by rw [l]; omega, ?_, ⟨a, by rw [e]; rfl, ha⟩, ⟨b, ?_, hb⟩⟩
  · intro c hc
    rw [e] at hc
    simp only [List.mem_cons, List.mem_append, List.not_mem_nil, or_false] at hc
    rcases hc with rfl | hc | rfl
    · exact .inr ha
    · exact hm c hc
    · exact .inr hb
  · rw [e, l]
    show (a :: (m.cps.toList ++ [b]))[m.length + 1]? = some b
    have h : m.cps.toList.length = m.length := rfl
    rw [List.getElem?_cons_succ, ← h, List.getElem?_append_right (Nat.le_refl _), Nat.sub_self]
    rfl
theorem ok_one {a : Nat} {w : Int} (ha : inL a) (hw : 1 ≤ w) : textOk w (sg a) := ⟨by show (1 : Int) ≤ 1; omega, hw, fun c hc => .inr (List.mem_singleton.mp (show c ∈ [a] from hc) ▸ ha), ⟨a, rfl, ha⟩, ⟨a, rfl, ha⟩⟩
theorem strs_at {ts : List Str} {n : Nat} {d : D} (h : (ts.map D.str)[n]? = some d) : ∃ t, ts[n]? = some t ∧ d = .str t := by
  rw [List.getElem?_map] at h
  cases e : ts[n]? with
  | none => rw [e] at h; cases h
  | some p => rw [e] at h; exact ⟨p, rfl, (Option.some.inj h).symm⟩
theorem strs_ok {ts : List Str} {w : Int} (h : ∀ t ∈ ts, textOk w t) : okL (ts.map D.str) = true ∧ depL (ts.map D.str) = 0 ∧ (1 ≤ ts.length → eqvD (.tup (ts.map D.str)) (.tup []) = false) := by
  refine ⟨?_, ?_, ?_⟩
  · induction ts with
    | nil => rfl
    | cons t ts ih =>
      have h1 := (h t (List.mem_cons_self ..)).2.2.1
      have e : okD (.str t) = true := by
        show t.cps.all (· < 0x110000) = true
        rw [← Array.all_toList, List.all_eq_true]
        intro c hc
        rcases h1 c hc with rfl | h
        · decide
        · have := inL_lt h
          simp
          omega
      show (okD (.str t) && okL (ts.map D.str)) = true
      rw [e, ih fun y hy => h y (List.mem_cons_of_mem _ hy)]
      rfl
  · clear h
    induction ts with
    | nil => rfl
    | cons t ts ih => show max 0 (depL (ts.map D.str)) = 0; rw [ih]; rfl
  · intro hl
    cases ts with
    | nil => simp at hl
    | cons t ts => simp [eqvD, toPy, toPyL, PyData.eqv, PyData.eqvAll]
section
variable {P : Program} {w : World} {K : Frg} {mg : Str → Option Value} {base : Heap}
theorem ok_Sign_is_text (T : Txt K mg) : OK_Sign_is_text P w base T := by
  refine fn_ok T.F_Sign_is_text sc_Sign_is_text (by rintro _ _ _ _ _ ⟨x, w, ps, t, rfl, _⟩; rfl) (fun cdv A outer s H E hr => ?_)
  have hu64 := hr.units
  refine ⟨_, (pss_cons (ps_if ((pw_or (pt_not (pt_val (pe_callB (kISI (K := K) rfl) (by rfl) T.g_isinstance boot_isinstance (pa_cons (pv 1) (pa_cons (pe_bltn (v := .ty "str") (by rfl) T.g_str boot_str rfl) pa_nil))))) (pw_or1 (pt_not (pt_chain op_le op_le pe_int (pe_callB (kLEN (K := K) rfl) (by rfl) T.g_len boot_len (pa_cons (pv 1) pa_nil)) (pe_fldk (K := K) rfl (pv 0) (by rfl))))))).pt (pss_one (ps_ret pe_bl)) pss_nil)
      (pss_cons (ps_if ((pw_or (pt_cmpR (kEQ (K := K) rfl hu64) (pe_ix (kIX (K := K) rfl) (pv 1) pe_int (fun _ _ => rfl)) (pe_glob (by rfl) T.m_BLANK T.r_BLANK) (nomark _)) (pw_or1 (pt_cmpR (kEQ (K := K) rfl hu64) (pe_ix (kIX (K := K) rfl) (pv 1) (pe_un un_neg pe_int) (fun _ _ => rfl)) (pe_glob (by rfl) T.m_BLANK T.r_BLANK) (nomark _))))).pt (pss_one (ps_ret pe_bl)) pss_nil)
      (pss_one (ps_ret (pe_callB (kALL (K := K) rfl rfl) (by rfl) T.g_all boot_all (pa_cons (pe_lc rfl sc_Sign_is_text.nd (pi_str (pv 1)) (own := [("letter", 2)]) (@BlkOk.mk N_Sign_is_text (defScope s_Sign_is_text) _ _ rfl (by decide +kernel) (by decide +kernel) (by decide +kernel) (by decide +kernel)) (fun _ _ _ _ _ => (pg_name (i := 2) sc_Sign_is_text.nd rfl (by first | exact Or.inl rfl | exact Or.inr rfl))) (fun _ _ _ _ _ => pts_nil) (fun _ _ _ _ _ => (pe_or (pe_cmpR (kEQ (K := K) rfl hu64) (pv 2) (pe_glob (by rfl) T.m_BLANK T.r_BLANK) (nomark _)) (pe_one (pe_cmpR (kIN (K := K) rfl) (pv 2) (pe_glob (by rfl) T.m_LETTERS T.r_LETTERS) (by with_unfolding_all rfl)))))) pa_nil)))))), ?_⟩
  rintro _ F ms Q Ea ⟨x, w, ps, t, rfl, ⟨i, j, m, hi, hj⟩, hw, ⟨t1, t2, t3, ⟨a, ha, haL⟩, ⟨b, hb, hbL⟩⟩, q⟩
  walk_at "al"
  refine ac_lenS (z := t) (by omega) ?_
  walk_at "al"
  refine and_dT t1 ?_
  walk_at "al"
  refine ae_fld ?_
  walk_at "al"
  refine ⟨x, T.c_Sign, fldS m w ps, .int w, rfl, .inr ⟨i, hi⟩, T.k_Sign, T.n_Sign_width, rfl, ?_⟩
  walk_at "al"
  rw [decide_eq_true t2]
  walk_at "al"
  refine ar_ixS (z := t) (c := a) (by omega) (atI_of (j := 0) rfl ha) ?_
  walk_at "al"
  refine and_dF' (sg_ne (inL_ne haL)) ?_
  walk_at "al"
  refine ae_neg (g := fun i => -i) (fun _ => rfl) ?_
  walk_at "al"
  have tl : t.cps.toList.length = t.length := rfl
  refine ar_ixS (z := t) (c := b) (by omega) (atI_neg (j := t.length - 1) (by omega) hb (by omega)) ?_
  walk_at "al"
  refine and_dF (sg_ne (inL_ne hbL)) ?_
  walk_at "al"
  refine ae_lc (gw_name (by simp)) gm_name ?_
  refine ai_str ?_
  walk_at "al"
  refine ⟨fun i F' ms' acc => ms' = ms ∧ acc = List.replicate i (.bl true), ⟨rfl, rfl⟩, fun _ _ _ _ _ _ => trivial, ?_, ?_⟩
  · rintro n d F' ms' acc e1 hd ⟨rfl, rfl⟩ F'' e2
    obtain ⟨c, hc, rfl⟩ := chars_at hd
    have hn : n < t.cps.toList.length := (List.getElem?_eq_some_iff.mp hc).1
    refine ag_name ?_
    walk_at "al"
    have fin : (List.replicate n (D.bl true)).length < 100000 ∧ (fun i (F' : Hp) ms'_1 acc => ms'_1 = ms' ∧ acc = List.replicate i (D.bl true)) (n + 1) F'' ms' (List.replicate n (D.bl true) ++ [D.bl true]) := ⟨by rw [List.length_replicate]; omega, rfl, by rw [List.replicate_succ']⟩
    by_cases h32 : c = 32
    · subst h32
      refine and_dT' rfl ?_
      exact fin
    · refine and_dF' (sg_ne h32) ?_
      walk_at "al"
      rw [decide_eq_true (show c ∈ (Str.ofString "ABCDEFGHIJKLMNOPQRSTUVWXYZ0123456789").cps.toList from (t3 c (List.mem_of_getElem? hc)).resolve_left h32)]
      exact fin
  · rintro F' ms' acc e1 ⟨rfl, rfl⟩ F'' e2
    rw [chars_len]
    walk_at "al"
    refine ac_all (bs := List.replicate t.length true) (by rw [← rep_map]) ?_
    rw [all_rep]
    exact q _ (e1.trans e2)
theorem ok_Sign_check_texts (T : Txt K mg) (G_Sign_is_text : OK_Sign_is_text P w base T) : OK_Sign_check_texts P w base T := by
  refine fn_ok T.F_Sign_check_texts sc_Sign_check_texts (by rintro _ _ _ _ _ ⟨x, w, ps, t, rfl, _⟩; rfl) (fun cdv A outer s H E hr => ?_)
  have hu64 := hr.units
  refine ⟨_, (pss_cons (ps_if ((pw_or (pt_not (pt_val (pe_callB (kISI (K := K) rfl) (by rfl) T.g_isinstance boot_isinstance (pa_cons (pv 1) (pa_cons (pe_bltn (v := .ty "tuple") (by rfl) T.g_tuple boot_tuple rfl) pa_nil))))) (pw_or1 (pt_cmpR (kEQ (K := K) rfl hu64) (pv 1) (pe_tup pa_nil) (nomark _))))).pt (pss_one ps_never) pss_nil)
      (pss_one (ps_for PassesOwn.never rfl (pi_enumA (by rfl) T.g_enumerate (pa_cons (pv 1) pa_nil)) (pg_tup rfl (pgs_cons (pg_name (i := 2) sc_Sign_check_texts.nd rfl (by first | exact Or.inl rfl | exact Or.inr rfl)) (pgs_cons (pg_name (i := 3) sc_Sign_check_texts.nd rfl (by first | exact Or.inl rfl | exact Or.inr rfl)) pgs_nil))) (pss_one (ps_if ((pw_or (pt_cmpR (kEQ (K := K) rfl hu64) (pv 2) (pe_glob (by rfl) T.m_MAX_TEXTS T.r_MAX_TEXTS) (nomark _)) (pw_or1 (pt_not (pt_val (pe_meth (pv 0) T.k_Sign T.Me_Sign_is_text G_Sign_is_text (hr.mono (by first | decide | omega)) T.b_Sign_is_text .nil pass0 (pa_cons (pv 3) pa_nil))))))).pt (pss_one ps_never) pss_nil))))), ?_⟩
  rintro _ F ms Q Ea ⟨x, w, ps, ts, rfl, hS, hw, t1, t2, ht, q⟩
  obtain ⟨i, j, m, hi, hj⟩ := id hS
  walk_at "al"
  refine ae_tup ?_
  walk_at "al"
  refine ⟨by simp, fun F1 e1 => ?_⟩
  obtain ⟨o1, o2, o3⟩ := strs_ok ht
  refine ar_EQd (d := .tup (ts.map D.str)) (e := .tup []) o1 rfl (by show depL (ts.map D.str) + 1 ≤ 64; omega) (by decide) ?_
  rw [o3 (by omega)]
  walk_at "al"
  refine as_for ?_
  refine ai_enum ?_
  walk_at "al"
  refine .inr (.inl ⟨_, rfl, fun i F' ms' S' => ms' = ms ∧ ∃ a b, S' = [some (.ref x), some (.tup (ts.map D.str)), a, b], ⟨rfl, none, none, rfl⟩, fun _ _ _ _ _ _ => trivial, ?_, ?_⟩)
  · rintro n d F' ms' S' e hd ⟨rfl, a, b, rfl⟩ F'' e''
    obtain ⟨_, h1, rfl⟩ := enum_at hd
    obtain ⟨t, hp, rfl⟩ := strs_at h1
    have hn : n < ts.length := (List.getElem?_eq_some_iff.mp hp).1
    refine ag_tup rfl ?_
    refine ags_cons (ag_name ?_)
    refine ags_cons (ag_name ?_)
    refine ags_nil ?_
    walk_at "al"
    refine and_dF' (by omega) ?_
    walk_at "al"
    refine ae_meth ?_
    walk_at "al"
    refine ⟨x, fldS m w ps, rfl, .inr ⟨i, hi⟩, fld_no (by decide +kernel) (by decide +kernel) (by decide +kernel), ?_⟩
    walk_at "al"
    refine ⟨x, w, ps, t, rfl, hS, hw, ht t (List.mem_of_getElem? hp), fun F3 e3 => ?_⟩
    walk_at "al"
    exact ⟨rfl, _, _, rfl⟩
  · rintro F' ms' S' e ⟨rfl, a, b, rfl⟩
    exact q _ (e1.trans e)
theorem ok__law_text (T : Txt K mg) (G__law_below : OK__law_below P w base T) : OK__law_text P w base T := by
  refine fn_ok T.F__law_text sc__law_text (by rintro _ _ _ _ _ ⟨k, l, st, w, z, rfl, _⟩; rfl) (fun cdv A outer s H E hr => ?_)
  have hu64 := hr.units
  refine ⟨_, (pss_cons (ps_set (i := 3) sc__law_text.nd rfl (by first | exact Or.inl rfl | exact Or.inr rfl) (pe_op (kADD (K := K) rfl) pe_int (pe_call G__law_below (hr.mono (by first | decide | omega)) (by rfl) T.m__law_below T.F__law_below.kp T.b__law_below .nil pass0 (pa_cons (pv 0) (pa_cons (pv 1) pa_nil)))))
      (pss_cons (ps_set (i := 4) sc__law_text.nd rfl (by first | exact Or.inl rfl | exact Or.inr rfl) (pe_op (kADD (K := K) rfl) (pv 2) (pe_op (kMUL (K := K) rfl) pe_str (pe_call G__law_below (hr.mono (by first | decide | omega)) (by rfl) T.m__law_below T.F__law_below.kp T.b__law_below .nil pass0 (pa_cons (pv 0) (pa_cons pe_int pa_nil))))))
      (pss_cons (ps_set (i := 5) sc__law_text.nd rfl (by first | exact Or.inl rfl | exact Or.inr rfl) (pe_bmk (K := K) rfl PySem.F.plainAttrs_str PySem.F.slot_str_join PySem.F.type_str_join (kJOIN (K := K) rfl) pe_str (pa_cons (pe_lc rfl sc__law_text.nd (pi_range1 (by rfl) T.g_range (pa_cons (pv 3) pa_nil)) (own := [("_law_k", 6)]) (@BlkOk.mk N__law_text (defScope s__law_text) _ _ rfl (by decide +kernel) (by decide +kernel) (by decide +kernel) (by decide +kernel)) (fun _ _ _ _ _ => (pg_name (i := 6) sc__law_text.nd rfl (by first | exact Or.inl rfl | exact Or.inr rfl))) (fun _ _ _ _ _ => pts_nil) (fun _ _ _ _ _ => (pe_ix (kIX (K := K) rfl) (pv 4) (pe_call G__law_below (hr.mono (by first | decide | omega)) (by rfl) T.m__law_below T.F__law_below.kp T.b__law_below .nil pass0 (pa_cons (pv 0) (pa_cons (pe_callB (kLEN (K := K) rfl) (by rfl) T.g_len boot_len (pa_cons (pv 4) pa_nil)) pa_nil))) (fun _ _ => rfl)))) pa_nil)))
      (pss_cons (ps_par (i := 7) (j := 8) rfl sc__law_text.nd rfl rfl (by decide) rfl rfl (pa_cons (pe_ix (kIX (K := K) rfl) (pv 2) (pe_call G__law_below (hr.mono (by first | decide | omega)) (by rfl) T.m__law_below T.F__law_below.kp T.b__law_below .nil pass0 (pa_cons (pv 0) (pa_cons (pe_callB (kLEN (K := K) rfl) (by rfl) T.g_len boot_len (pa_cons (pv 2) pa_nil)) pa_nil))) (fun _ _ => rfl)) (pa_cons (pe_ix (kIX (K := K) rfl) (pv 2) (pe_call G__law_below (hr.mono (by first | decide | omega)) (by rfl) T.m__law_below T.F__law_below.kp T.b__law_below .nil pass0 (pa_cons (pv 0) (pa_cons (pe_callB (kLEN (K := K) rfl) (by rfl) T.g_len boot_len (pa_cons (pv 2) pa_nil)) pa_nil))) (fun _ _ => rfl)) pa_nil)) (by rfl))
      (pss_one (ps_ret (pe_ifExp (pt_cmpR (kEQ (K := K) rfl hu64) (pv 3) pe_int (nomark _)) (pv 7) (pe_op (kADD (K := K) rfl) (pe_op (kADD (K := K) rfl) (pv 7) (pe_slice (kSLC (K := K) rfl) (pv 5) (po_some pe_int) (po_some (pe_un un_neg pe_int)))) (pv 8))))))))), ?_⟩
  rintro _ F ms Q Ea ⟨k, l, st, w, z, rfl, hk, hst, w0, w1, hz0, hz1, hzL, q⟩
  have hkl : k < ms.length := (List.getElem?_eq_some_iff.mp hk).1
  walk_at "al"
  refine ⟨k, l, st, w, rfl, hk, hst, by omega, by omega, fun st0 m hst0 m0 m1 => ?_⟩
  walk_at "al"
  refine ⟨k, l, st0, 3, rfl, set_get hkl, hst0, by decide, by decide, fun st1 n hst1 n0 n1 => ?_⟩
  refine ar_MULs (z := sp1) (by omega) (by omega) (by show 1 * n.toNat ≤ 100000; omega) ?_
  have l1 := mulS_len1 n
  refine ar_ADDs (i := z) (j := mulS sp1 n) (by omega) ?_
  have l2 : (z ++ mulS sp1 n).length = z.length + n.toNat := by rw [str_len_add, l1]
  walk_at "al"
  refine ae_bmS ?_
  walk_at "al"
  refine ae_lc (gw_name (by simp)) gm_name ?_
  refine ai_rng1 ?_
  walk_at "al"
  rw [set_set]
  refine ⟨1 + m, rfl, by omega, by omega, fun i F' ms' acc => ∃ (st2 : List D) (r : List Nat), ms' = ms.set k (l, .lst st2) ∧ St st2 ∧ acc = r.map (fun c => .str (sg c)) ∧ r.length = i ∧ ∀ c ∈ r, c = 32 ∨ c ∈ z.cps.toList, ⟨st1, [], rfl, hst1, rfl, rfl, fun _ h => (List.not_mem_nil h).elim⟩, fun _ _ _ _ _ _ => trivial, ?_, ?_⟩
  · rintro i d F' ms' acc e hd ⟨st2, r, rfl, hst2, rfl, hl, hrm⟩ F'' e''
    obtain ⟨hi, rfl⟩ := range_at hd
    refine ag_name ?_
    walk_at "al"
    refine ac_lenS (z := z ++ mulS sp1 n) (by omega) ?_
    walk_at "al"
    refine ⟨k, l, st2, _, rfl, set_get hkl, hst2, by omega, by omega, fun st3 j hst3 j0 j1 => ?_⟩
    obtain ⟨j, rfl⟩ : ∃ j' : Nat, j = j' := ⟨j.toNat, by omega⟩
    have hj : j < (z ++ mulS sp1 n).cps.toList.length := by
      have : (z ++ mulS sp1 n).cps.toList.length = (z ++ mulS sp1 n).length := rfl
      omega
    refine ar_ixS (z := z ++ mulS sp1 n) (c := (z ++ mulS sp1 n).cps.toList[j]) (by omega) (atI_of rfl (List.getElem?_eq_getElem hj)) ?_
    exact ⟨by rw [List.length_map]; omega, st3, r ++ [(z ++ mulS sp1 n).cps.toList[j]], set_set, hst3, by rw [List.map_append]; rfl, by rw [List.length_append, hl]; rfl, fun c hc => by
      rcases List.mem_append.mp hc with hc | hc
      · exact hrm c hc
      · rw [List.mem_singleton.mp hc]
        exact sign_mem (List.getElem_mem hj)⟩
  · rintro F' ms' acc e ⟨st2, r, rfl, hst2, rfl, hl, hrm⟩ F'' e''
    rw [range_len] at hl
    walk_at "al"
    refine am_join (ys := r.map sg) (.inl (.inl (by rw [List.map_map]; rfl))) ?_ ?_
    · have : ((r.map sg).map (·.length)).sum = r.length := by
        rw [List.map_map]
        exact sum_ones r
      have e0 : (Str.ofString "").length = 0 := rfl
      rw [this, List.length_map, e0]
      omega
    rw [join_sg]
    walk_at "al"
    have pick : ∀ {st3 : List D} {Q : QE} {F3 : Hp}, St st3 → (∀ st4 c, St st4 → Q F3 (ms.set k (l, .lst st4)) (.str (sg c))) → True := fun _ _ => trivial
    refine ac_lenS (z := z) (by omega) ?_
    walk_at "al"
    refine ⟨k, l, st2, _, rfl, set_get hkl, hst2, by omega, by omega, fun st3 j hst3 j0 j1 => ?_⟩
    obtain ⟨j, rfl⟩ : ∃ j' : Nat, j = j' := ⟨j.toNat, by omega⟩
    have hj : j < z.cps.toList.length := by
      have : z.cps.toList.length = z.length := rfl
      omega
    refine ar_ixS (z := z) (c := z.cps.toList[j]) (by omega) (atI_of rfl (List.getElem?_eq_getElem hj)) ?_
    walk_at "al"
    refine ac_lenS (z := z) (by omega) ?_
    walk_at "al"
    rw [set_set]
    refine ⟨k, l, st3, _, rfl, set_get hkl, hst3, by omega, by omega, fun st4 i hst4 i0 i1 => ?_⟩
    obtain ⟨i, rfl⟩ : ∃ i' : Nat, i = i' := ⟨i.toNat, by omega⟩
    have hi : i < z.cps.toList.length := by
      have : z.cps.toList.length = z.length := rfl
      omega
    refine ar_ixS (z := z) (c := z.cps.toList[i]) (by omega) (atI_of rfl (List.getElem?_eq_getElem hi)) ?_
    walk_at "al"
    rw [set_set]
    have lr : (⟨r.toArray⟩ : Str).length = r.length := List.size_toArray ..
    by_cases hm : 1 + m = 1
    · refine and_dT hm ?_
      walk_at "al"
      exact q st4 F'' _ (e.trans e'') hst4 (ok_one (hzL _ (List.getElem_mem hj)) (by omega))
    · refine and_dF hm ?_
      walk_at "al"
      refine ae_sl ?_
      walk_at "al"
      refine ao_some ?_
      walk_at "al"
      refine ao_some ?_
      refine ae_neg (g := fun i => -i) (fun _ => rfl) ?_
      walk_at "al"
      refine sl_S (by omega) ?_
      have hcut := cut_len (z := ⟨r.toArray⟩) (by omega)
      refine ar_ADDs (i := sg _) (by show 1 + _ ≤ 100000; omega) ?_
      walk_at "al"
      have h3 : ∀ a : Nat, (sg a ++ cutS ⟨r.toArray⟩ (some 1) (some (-1))).length = 1 + (cutS ⟨r.toArray⟩ (some 1) (some (-1))).length := fun a => str_len_add _ _
      refine ar_ADDs (j := sg _) (by rw [h3]; show _ + 1 ≤ 100000; omega) ?_
      exact q st4 F'' _ (e.trans e'') hst4 (ok_ends (hzL _ (List.getElem_mem hj)) (hzL _ (List.getElem_mem hi)) (fun c hc => (hrm c (cut_mem hc)).imp id fun h => hzL c h) (by omega))
theorem ok__law_texts (T : Txt K mg) (G__law_below : OK__law_below P w base T) (G__law_text : OK__law_text P w base T) : OK__law_texts P w base T := by
  refine fn_ok T.F__law_texts sc__law_texts (by rintro _ _ _ _ _ ⟨k, l, st, w, z, rfl, _⟩; rfl) (fun cdv A outer s H E hr => ?_)
  have hu64 := hr.units
  refine ⟨_, (pss_one (ps_ret (pe_callTy (kTUPLE (K := K) rfl) (by rfl) T.g_tuple boot_tuple (pa_cons (pe_lc rfl sc__law_texts.nd (pi_range1 (by rfl) T.g_range (pa_cons (pe_op (kADD (K := K) rfl) pe_int (pe_call G__law_below (hr.mono (by first | decide | omega)) (by rfl) T.m__law_below T.F__law_below.kp T.b__law_below .nil pass0 (pa_cons (pv 0) (pa_cons (pv 1) pa_nil)))) pa_nil)) (own := [("_law_k", 4)]) (@BlkOk.mk N__law_texts (defScope s__law_texts) _ _ rfl (by decide +kernel) (by decide +kernel) (by decide +kernel) (by decide +kernel)) (fun _ _ _ _ _ => (pg_name (i := 4) sc__law_texts.nd rfl (by first | exact Or.inl rfl | exact Or.inr rfl))) (fun _ _ _ _ _ => pts_nil) (fun _ _ _ _ _ => (pe_call G__law_text (hr.mono (by first | decide | omega)) (by rfl) T.m__law_text T.F__law_text.kp T.b__law_text .nil pass0 (pa_cons (pv 0) (pa_cons (pv 2) (pa_cons (pv 3) pa_nil)))))) pa_nil)))), ?_⟩
  rintro _ F ms Q Ea ⟨k, l, st, w, z, rfl, hk, hst, w0, w1, hz0, hz1, hzL, q⟩
  have hkl : k < ms.length := (List.getElem?_eq_some_iff.mp hk).1
  walk_at "al"
  refine ae_lc (gw_name (by simp)) gm_name ?_
  refine ai_rng1 ?_
  walk_at "al"
  refine ⟨k, l, st, 12, rfl, hk, hst, by decide, by decide, fun st1 n hst1 n0 n1 => ?_⟩
  walk_at "al"
  refine ⟨1 + n, rfl, by omega, by omega, fun i F' ms' acc => ∃ (st2 : List D) (ts : List Str), ms' = ms.set k (l, .lst st2) ∧ St st2 ∧ acc = ts.map D.str ∧ ts.length = i ∧ ∀ t ∈ ts, textOk w t, ⟨st1, [], rfl, hst1, rfl, rfl, fun _ h => (List.not_mem_nil h).elim⟩, fun _ _ _ _ _ _ => trivial, ?_, ?_⟩
  · rintro i d F' ms' acc e hd ⟨st2, ts, rfl, hst2, rfl, hl, ht⟩ F'' e''
    obtain ⟨hi, rfl⟩ := range_at hd
    refine ag_name ?_
    walk_at "al"
    refine ⟨k, l, st2, w, z, rfl, set_get hkl, hst2, w0, w1, hz0, hz1, hzL, fun st3 F3 r e3 hst3 hr => ?_⟩
    rw [set_set]
    exact ⟨by rw [List.length_map]; omega, st3, ts ++ [r], rfl, hst3, by rw [List.map_append]; rfl, by rw [List.length_append, hl]; rfl, fun t h => by
      rcases List.mem_append.mp h with h | h
      · exact ht t h
      · rw [List.mem_singleton.mp h]; exact hr⟩
  · rintro F' ms' acc e ⟨st2, ts, rfl, hst2, rfl, hl, ht⟩ F'' e''
    rw [range_len] at hl
    walk_at "al"
    refine ac_tupleL (.inl rfl) fun F3 e3 => ?_
    exact q st2 F3 ts ((e.trans e'').trans e3) hst2 (by omega) (by omega) ht
end

theorem num_1 : ∀ n ∈ List.range 100, 1 ≤ (numS (n : Int)).length ∧ (numS (n : Int)).length ≤ 2 := by decide +kernel
theorem num_2 : ∀ n ∈ List.range 100, PySem.intText? (numS (n : Int)) = some (n : Int) := by decide +kernel
theorem num_3 : ∀ n ∈ List.range 100, ((numS (n : Int)).cps.toList.all fun c => decide (c ∈ (Str.ofString "0123456789").cps.toList)) = true := by decide +kernel
theorem num_4 : ∀ n ∈ List.range 100, (numS (n : Int)).length ≤ 1 ∨ ((numS (n : Int)).cps.toList.head? ≠ some 48 ∧ (numS (n : Int)).cps.toList.head? ≠ none) := by decide +kernel
theorem num_5 : ∀ n ∈ List.range 100, 32 ∉ (numS (n : Int)).cps.toList ∧ 10 ∉ (numS (n : Int)).cps.toList := by decide +kernel
theorem nat_of {n : Int} (h0 : 0 ≤ n) (h1 : n < 100) : ∃ k ∈ List.range 100, n = (k : Nat) := ⟨n.toNat, List.mem_range.mpr (by omega), by omega⟩
theorem inL_10 {c : Nat} (h : c = 32 ∨ inL c) : c ≠ 10 := by
  rintro rfl
  rcases h with h | h
  · omega
  · have : decide (10 ∈ LET.cps.toList) = false := by decide +kernel
    exact of_decide_eq_false this h
theorem ints_at' {os : List Int} {n : Nat} {d : D} (h : (os.map D.int)[n]? = some d) : ∃ o, os[n]? = some o ∧ d = .int o := by
  rw [List.getElem?_map] at h
  cases e : os[n]? with
  | none => rw [e] at h; cases h
  | some p => rw [e] at h; exact ⟨p, rfl, (Option.some.inj h).symm⟩
theorem cutL_drop {α : Type} {xs : List α} {p : Nat} (h : p ≤ xs.length) : cutL xs (some (p : Int)) none = xs.drop p := by
  have e1 : HT.sIx xs.length xs.length none = xs.length := rfl
  have e2 : HT.sIx xs.length 0 (some (p : Int)) = p := by rw [HT.sIx_nat]; omega
  unfold cutL
  rw [e1, e2, List.take_of_length_le (by rw [List.length_drop]; omega)]
theorem words_split {w : Int} {ps : List Pr} (w1 : 1 ≤ w) (w2 : w ≤ 24) (hp : ∀ c ∈ flat ps, inL c) : Txt.split (headS w ps) (Str.ofString " ") = Str.ofString "sign" :: numS w :: ps.map pS := by
  refine TL.split_join (y := Str.ofString " ") (s := 32) (S := []) rfl (by decide +kernel) (by simp) ?_
  intro p hp2
  simp only [List.mem_cons, List.mem_map] at hp2
  rcases hp2 with rfl | rfl | ⟨q, hq, rfl⟩
  · decide
  · obtain ⟨k, hk, rfl⟩ := nat_of (by omega : 0 ≤ w) (by omega)
    exact (num_5 k hk).1
  · intro z
    have z2 : 32 ∈ [q.1, q.2] := z
    have : inL 32 := hp 32 (List.mem_flatMap.mpr ⟨q, hq, z2⟩)
    exact inL_ne this rfl
theorem line_at {ts : List Str} {os : List Int} {i : Nat} {t : Str} {o : Int} (h1 : ts[i]? = some t) (h2 : os[i]? = some o) : ((ts.zip os).map fun p => lineS p.1 p.2)[i]? = some (lineS t o) := by
  have e2 : (ts.zip os)[i]? = some (t, o) := List.getElem?_zip_eq_some.mpr ⟨h1, h2⟩
  rw [List.getElem?_map, e2]
  rfl
theorem line_list (t : Str) (o : Int) : (lineS t o).cps.toList = [115, 104, 111, 119] ++ 32 :: ((numS o).cps.toList ++ 32 :: t.cps.toList) := by
  unfold lineS
  rw [app_l, app_l, app_l, app_l]
  show ([115, 104, 111, 119] ++ [32] ++ (numS o).cps.toList ++ [32] ++ t.cps.toList) = _
  simp
theorem line_split {t : Str} {o : Int} (h0 : 0 ≤ o) (h1 : o < 100) : Txt.splitMax (lineS t o) (Str.ofString " ") 2 = [Str.ofString "show", numS o, t] := by
  obtain ⟨k, hk, rfl⟩ := nat_of h0 h1
  have e := splitMax2 (x := lineS t (k : Nat)) (P := [115, 104, 111, 119]) (Q := (numS (k : Nat)).cps.toList) (R := t.cps.toList) (c := 32) (by decide) (line_list _ _) (by decide) (num_5 k hk).1
  exact e
theorem join_no {y : Str} {c : Nat} (hy : c ∉ y.cps.toList) : ∀ {parts : List Str}, (∀ p ∈ parts, c ∉ p.cps.toList) → c ∉ (Str.join y parts).cps.toList
  | [], _ => by show c ∉ ([] : List Nat); simp
  | [p], h => h p (List.mem_singleton.mpr rfl)
  | p :: q :: r, h => by
    have e : Str.join y (p :: q :: r) = p ++ y ++ Str.join y (q :: r) := rfl
    rw [e, app_l, app_l]
    simp only [List.mem_append, not_or]
    exact ⟨⟨h p (List.mem_cons_self ..), hy⟩, join_no hy fun z hz => h z (List.mem_cons_of_mem _ hz)⟩
theorem join_gl (y : Str) (parts : List Str) : Txt.join y parts = Str.join y parts := StrLaws.glued_eq_join y parts
theorem head_no10 {w : Int} {ps : List Pr} (w1 : 1 ≤ w) (w2 : w ≤ 24) (hp : ∀ c ∈ flat ps, inL c) : 10 ∉ (headS w ps).cps.toList := by
  unfold headS
  rw [join_gl]
  refine join_no (by decide) ?_
  intro p hp2
  simp only [List.mem_cons, List.mem_map] at hp2
  rcases hp2 with rfl | rfl | ⟨q, hq, rfl⟩
  · decide
  · obtain ⟨k, hk, rfl⟩ := nat_of (by omega : 0 ≤ w) (by omega)
    exact (num_5 k hk).2
  · intro z
    have z2 : 10 ∈ [q.1, q.2] := z
    exact inL_10 (.inr (hp 10 (List.mem_flatMap.mpr ⟨q, hq, z2⟩))) rfl
theorem zip_mem {ts : List Str} {os : List Int} {w : Int} (h : okOff w ts os) {p : Str × Int} (hp : p ∈ ts.zip os) : p.1 ∈ ts ∧ 0 ≤ p.2 ∧ p.2 + (p.1.length : Int) ≤ w := by
  obtain ⟨i, hi⟩ := List.mem_iff_getElem?.mp hp
  obtain ⟨h1, h2⟩ := List.getElem?_zip_eq_some.mp hi
  exact ⟨List.mem_of_getElem? h1, h.2 i _ _ h1 h2⟩
theorem lines_split {w : Int} {ps : List Pr} {ts : List Str} {os : List Int} (hS : okSeason w ps ts) (hO : okOff w ts os) : Txt.split (seasonS w ps ts os) (Str.ofString "\n") = linesS w ps ts os := by
  obtain ⟨w1, w2, p1, p2, p3, t1, t2, ht⟩ := hS
  refine TL.split_join (y := Str.ofString "\n") (s := 10) (S := []) rfl (by decide +kernel) (by unfold linesS; simp) ?_
  intro p hp
  unfold linesS at hp
  rcases List.mem_cons.mp hp with rfl | hp
  · exact head_no10 w1 w2 p2
  · obtain ⟨q, hq, rfl⟩ := List.mem_map.mp hp
    obtain ⟨g1, g2, g3⟩ := zip_mem hO hq
    show 10 ∉ (lineS q.1 q.2).cps.toList
    rw [line_list]
    obtain ⟨k, hk, ek⟩ := nat_of g2 (by have := (ht _ g1).1; omega : q.2 < 100)
    rw [ek]
    simp only [List.mem_append, List.mem_cons, not_or]
    refine ⟨by decide, by decide, (num_5 k hk).2, by decide, fun z => inL_10 ((ht _ g1).2.2.1 10 z) rfl⟩
theorem num_len {n : Int} (h0 : 0 ≤ n) (h1 : n < 100) : (numS n).length ≤ 2 := by
  obtain ⟨k, hk, rfl⟩ := nat_of h0 h1
  exact (num_1 k hk).2
theorem line_len {t : Str} {o w : Int} (h0 : 0 ≤ o) (h1 : o + (t.length : Int) ≤ w) (h2 : w ≤ 24) (h3 : 1 ≤ (t.length : Int)) : (lineS t o).length ≤ 40 := by
  have := num_len h0 (by omega : o < 100)
  unfold lineS
  rw [str_len_add, str_len_add, str_len_add, str_len_add]
  have a : (Str.ofString "show").length = 4 := rfl
  have b : (Str.ofString " ").length = 1 := rfl
  omega
theorem join_len (y : Str) : ∀ parts : List Str, (Str.join y parts).length ≤ (parts.map (·.length)).sum + parts.length * y.length
  | [] => by show 0 ≤ _; omega
  | [p] => by show p.length ≤ p.length + 0 + 1 * y.length; omega
  | p :: q :: r => by
    have e : Str.join y (p :: q :: r) = p ++ y ++ Str.join y (q :: r) := rfl
    have ih := join_len y (q :: r)
    rw [e, str_len_add, str_len_add, List.map_cons, List.sum_cons, List.length_cons, Nat.succ_mul]
    omega
theorem sum_le {xs : List Str} {n : Nat} (h : ∀ x ∈ xs, x.length ≤ n) : (xs.map (·.length)).sum ≤ xs.length * n := by
  induction xs with
  | nil => simp
  | cons x xs ih =>
    have h1 := h x (List.mem_cons_self ..)
    have h2 := ih fun y hy => h y (List.mem_cons_of_mem _ hy)
    rw [List.map_cons, List.sum_cons, List.length_cons, Nat.succ_mul]
    omega
theorem head_sum {w : Int} {ps : List Pr} (w1 : 1 ≤ w) (w2 : w ≤ 24) (p1 : ps.length ≤ 10) : ((Str.ofString "sign" :: numS w :: ps.map pS).map (·.length)).sum ≤ 48 := by
  refine Nat.le_trans (sum_le (n := 4) ?_) (by simp; omega)
  intro x hx
  simp only [List.mem_cons, List.mem_map] at hx
  rcases hx with rfl | rfl | ⟨q, hq, rfl⟩
  · decide
  · have := num_len (by omega : 0 ≤ w) (by omega); omega
  · show 2 ≤ 4; decide
theorem head_len {w : Int} {ps : List Pr} (w1 : 1 ≤ w) (w2 : w ≤ 24) (p1 : ps.length ≤ 10) : (headS w ps).length ≤ 60 := by
  have := join_len (Str.ofString " ") (Str.ofString "sign" :: numS w :: ps.map pS)
  have h := head_sum w1 w2 p1
  unfold headS
  rw [join_gl]
  have b : (Str.ofString " ").length = 1 := rfl
  rw [b] at this
  simp only [List.length_cons, List.length_map] at this
  omega
theorem lines_sum {w : Int} {ps : List Pr} {ts : List Str} {os : List Int} (hS : okSeason w ps ts) (hO : okOff w ts os) : ((linesS w ps ts os).map (·.length)).sum ≤ 1000 ∧ (linesS w ps ts os).length = ts.length + 1 := by
  obtain ⟨w1, w2, p1, p2, p3, t1, t2, ht⟩ := hS
  have hl : (linesS w ps ts os).length = ts.length + 1 := by
    unfold linesS
    rw [List.length_cons, List.length_map, List.length_zip, hO.1, Nat.min_self]
  refine ⟨Nat.le_trans (sum_le (n := 60) ?_) (by rw [hl]; omega), hl⟩
  intro p hp
  unfold linesS at hp
  rcases List.mem_cons.mp hp with rfl | hp
  · exact head_len w1 w2 p1
  · obtain ⟨q, hq, rfl⟩ := List.mem_map.mp hp
    obtain ⟨g1, g2, g3⟩ := zip_mem hO hq
    have := line_len g2 g3 w2 (ht _ g1).1
    omega
theorem season_len {w : Int} {ps : List Pr} {ts : List Str} {os : List Int} (hS : okSeason w ps ts) (hO : okOff w ts os) : (seasonS w ps ts os).length ≤ 2000 := by
  obtain ⟨h1, h2⟩ := lines_sum hS hO
  have := join_len (Str.ofString "\n") (linesS w ps ts os)
  unfold seasonS
  rw [join_gl]
  have b : (Str.ofString "\n").length = 1 := rfl
  rw [b, h2] at this
  have := hS.2.2.2.2.2.2.1
  omega
section
variable {P : Program} {w : World} {K : Frg} {mg : Str → Option Value} {base : Heap}
theorem ok_check_offsets (T : Txt K mg) (G_is_int_in : OK_is_int_in P w base T) : OK_check_offsets P w base T := by
  refine fn_ok T.F_check_offsets sc_check_offsets (by rintro _ _ _ _ _ ⟨x, w, ps, ts, os, rfl, _⟩; rfl) (fun cdv A outer s H E hr => ?_)
  have hu64 := hr.units
  refine ⟨_, (pss_cons (ps_if (pt_not (pt_val (pe_callB (kISI (K := K) rfl) (by rfl) T.g_isinstance boot_isinstance (pa_cons (pv 2) (pa_cons (pe_bltn (v := .ty "tuple") (by rfl) T.g_tuple boot_tuple rfl) pa_nil))))) (pss_one ps_never) pss_nil)
      (pss_cons (ps_for PassesOwn.never rfl (pi_enumA (by rfl) T.g_enumerate (pa_cons (pv 2) pa_nil)) (pg_tup rfl (pgs_cons (pg_name (i := 3) sc_check_offsets.nd rfl (by first | exact Or.inl rfl | exact Or.inr rfl)) (pgs_cons (pg_name (i := 4) sc_check_offsets.nd rfl (by first | exact Or.inl rfl | exact Or.inr rfl)) pgs_nil))) (pss_one (ps_if ((pw_or (pt_cmpR (kEQ (K := K) rfl hu64) (pv 3) (pe_callB (kLEN (K := K) rfl) (by rfl) T.g_len boot_len (pa_cons (pv 1) pa_nil)) (nomark _)) (pw_or1 (pt_not (pt_val (pe_call G_is_int_in (hr.mono (by first | decide | omega)) (by rfl) T.m_is_int_in T.F_is_int_in.kp T.b_is_int_in .nil pass0 (pa_cons (pv 4) (pa_cons pe_int (pa_cons (pe_op op_sub (pe_fldk (K := K) rfl (pv 0) (by rfl)) (pe_callB (kLEN (K := K) rfl) (by rfl) T.g_len boot_len (pa_cons (pe_ix (kIX (K := K) rfl) (pv 1) (pv 3) (fun _ _ => rfl)) pa_nil))) pa_nil))))))))).pt (pss_one ps_never) pss_nil)))
      (pss_one (ps_if (pt_cmpR op_lt (pe_callB (kLEN (K := K) rfl) (by rfl) T.g_len boot_len (pa_cons (pv 2) pa_nil)) (pe_callB (kLEN (K := K) rfl) (by rfl) T.g_len boot_len (pa_cons (pv 1) pa_nil)) (nomark _)) (pss_one ps_never) pss_nil)))), ?_⟩
  rintro _ F ms Q Ea ⟨x, w, ps, ts, os, rfl, hS, hw, t2, ht, hO, q⟩
  obtain ⟨i, j, m, hi, hj⟩ := id hS
  have hl := hO.1
  walk_at "al"
  refine as_for ?_
  refine ai_enum ?_
  walk_at "al"
  refine .inr (.inl ⟨_, rfl, fun i F' ms' S' => ms' = ms ∧ ∃ a b, S' = [some (.ref x), some (.tup (ts.map D.str)), some (.tup (os.map D.int)), a, b], ⟨rfl, none, none, rfl⟩, fun _ _ _ _ _ _ => trivial, ?_, ?_⟩)
  · rintro n d F' ms' S' e hd ⟨rfl, a, b, rfl⟩ F'' e''
    obtain ⟨_, h1, rfl⟩ := enum_at hd
    obtain ⟨o, ho, rfl⟩ : ∃ o, os[n]? = some o ∧ _ = D.int o := by
      rw [List.getElem?_map] at h1
      cases e : os[n]? with
      | none => rw [e] at h1; cases h1
      | some p => rw [e] at h1; exact ⟨p, rfl, (Option.some.inj h1).symm⟩
    have hn : n < ts.length := by
      have := (List.getElem?_eq_some_iff.mp ho).1
      omega
    have ht1 : ts[n]? = some ts[n] := List.getElem?_eq_getElem hn
    obtain ⟨o1, o2⟩ := hO.2 n _ _ ht1 ho
    obtain ⟨g1, g2, _⟩ := ht _ (List.getElem_mem hn)
    refine ag_tup rfl ?_
    refine ags_cons (ag_name ?_)
    refine ags_cons (ag_name ?_)
    refine ags_nil ?_
    walk_at "al"
    rw [List.length_map]
    refine and_dF' (by omega) ?_
    walk_at "al"
    refine ae_fld ?_
    walk_at "al"
    refine ⟨x, T.c_Sign, fldS m w ps, .int w, rfl, .inr ⟨i, hi⟩, T.k_Sign, T.n_Sign_width, rfl, ?_⟩
    walk_at "al"
    refine ar_ixT (d := .str ts[n]) (atI_of (j := n) rfl (by rw [List.getElem?_map, ht1]; rfl)) ?_
    walk_at "al"
    refine ac_lenS (z := ts[n]) (by omega) ?_
    walk_at "al"
    refine ⟨o, 0, _, rfl, ?_⟩
    rw [decide_eq_true o1, decide_eq_true (by omega : o ≤ w - (ts[n].length : Int))]
    walk_at "al"
    refine and_nT ?_
    walk_at "al"
    exact ⟨rfl, _, _, rfl⟩
  · rintro F' ms' S' e ⟨rfl, a, b, rfl⟩
    walk_at "al"
    rw [List.length_map, List.length_map]
    refine and_dF (by omega) ?_
    walk_at "al"
    exact q _ e
theorem ok_read_number (T : Txt K mg) : OK_read_number P w base T := by
  refine fn_ok T.F_read_number sc_read_number (by rintro _ _ _ _ _ ⟨n, rfl, _⟩; rfl) (fun cdv A outer s H E hr => ?_)
  have hu64 := hr.units
  refine ⟨_, (pss_cons (ps_if ((pw_or (pt_not (pt_chain op_le op_le pe_int (pe_callB (kLEN (K := K) rfl) (by rfl) T.g_len boot_len (pa_cons (pv 0) pa_nil)) (pe_glob (by rfl) T.m_MAX_DIGITS T.r_MAX_DIGITS))) (pw_or1 (pt_val (pe_callB (kANY (K := K) rfl rfl) (by rfl) T.g_any boot_any (pa_cons (pe_lc rfl sc_read_number.nd (pi_str (pv 0)) (own := [("digit", 1)]) (@BlkOk.mk N_read_number (defScope s_read_number) _ _ rfl (by decide +kernel) (by decide +kernel) (by decide +kernel) (by decide +kernel)) (fun _ _ _ _ _ => (pg_name (i := 1) sc_read_number.nd rfl (by first | exact Or.inl rfl | exact Or.inr rfl))) (fun _ _ _ _ _ => pts_nil) (fun _ _ _ _ _ => (pe_cmpR (kNOTIN (K := K) rfl) (pv 1) (pe_glob (by rfl) T.m_DIGITS T.r_DIGITS) (by with_unfolding_all rfl)))) pa_nil)))))).pt (pss_one (ps_ret pe_non)) pss_nil)
      (pss_one (ps_ret (pe_ifExp ((pw_and (pt_cmpR op_gt (pe_callB (kLEN (K := K) rfl) (by rfl) T.g_len boot_len (pa_cons (pv 0) pa_nil)) pe_int (nomark _)) (pw_and1 (pt_cmpR (kEQ (K := K) rfl hu64) (pe_ix (kIX (K := K) rfl) (pv 0) pe_int (fun _ _ => rfl)) pe_str (nomark _))))).pt pe_non (pe_callTy call_INT (by rfl) T.g_int boot_int (pa_cons (pv 0) pa_nil)))))), ?_⟩
  rintro _ F ms Q Ea ⟨n, rfl, n0, n1, q⟩
  obtain ⟨k, hk, rfl⟩ := nat_of n0 n1
  obtain ⟨l1, l2⟩ := num_1 k hk
  have h2 := num_2 k hk
  have h3 := List.all_eq_true.mp (num_3 k hk)
  have h4 := num_4 k hk
  generalize numS (k : Nat) = z at *
  walk_at "al"
  refine ac_lenS (z := z) (by omega) ?_
  walk_at "al"
  refine and_dT (by omega) ?_
  walk_at "al"
  rw [decide_eq_true (by omega : (z.length : Int) ≤ 2)]
  walk_at "al"
  refine ae_lc (gw_name (by simp)) gm_name ?_
  refine ai_str ?_
  walk_at "al"
  refine ⟨fun i F' ms' acc => ms' = ms ∧ acc = List.replicate i (.bl false), ⟨rfl, rfl⟩, fun _ _ _ _ _ _ => trivial, ?_, ?_⟩
  · rintro n d F' ms' acc e1 hd ⟨rfl, rfl⟩ F'' e2
    obtain ⟨c, hc, rfl⟩ := chars_at hd
    have hn : n < z.cps.toList.length := (List.getElem?_eq_some_iff.mp hc).1
    have hn2 : z.cps.toList.length = z.length := rfl
    refine ag_name ?_
    walk_at "al"
    rw [h3 c (List.mem_of_getElem? hc)]
    exact ⟨by rw [List.length_replicate]; omega, rfl, by rw [List.replicate_succ']; rfl⟩
  · rintro F' ms' acc e1 ⟨rfl, rfl⟩ F'' e2
    rw [chars_len]
    walk_at "al"
    refine ac_any (bs := List.replicate z.length false) (by rw [List.map_replicate]) ?_
    have ea : (List.replicate z.length false).any id = false := by
      rw [List.any_eq_false]
      intro x hx
      rw [List.eq_of_mem_replicate hx]
      decide
    rw [ea]
    walk_at "al"
    refine ac_lenS (z := z) (by omega) ?_
    walk_at "al"
    by_cases hz : 1 < z.length
    · refine and_dT (by omega) ?_
      obtain ⟨h5, h6⟩ := h4.resolve_left (by omega)
      obtain ⟨a, ha⟩ := Option.ne_none_iff_exists'.mp h6
      walk_at "al"
      refine ar_ixS (z := z) (c := a) (by omega) (atI_of (j := 0) rfl (by rw [← List.head?_eq_getElem?]; exact ha)) ?_
      walk_at "al"
      refine and_dF (fun q => ?_) ?_
      · have e : [a] = [48] := congrArg (fun s : Str => s.cps.toList) q
        rw [ha] at h5
        exact h5 (by rw [show a = 48 by simpa using e])
      walk_at "al"
      refine ac_intS h2 (by omega) ?_
      exact q _ (e1.trans e2)
    · refine and_dF (by omega) ?_
      walk_at "al"
      refine ac_intS h2 (by omega) ?_
      exact q _ (e1.trans e2)
theorem ok_format_season (T : Txt K mg) (G_Sign_check_texts : OK_Sign_check_texts P w base T) (G_check_offsets : OK_check_offsets P w base T) : OK_format_season P w base T := by
  refine fn_ok T.F_format_season sc_format_season (by rintro _ _ _ _ _ ⟨x, w, ps, ts, os, rfl, _⟩; rfl) (fun cdv A outer s H E hr => ?_)
  have hu64 := hr.units
  refine ⟨_, (pss_cons (ps_expr (pe_meth (pv 0) T.k_Sign T.Me_Sign_check_texts G_Sign_check_texts (hr.mono (by first | decide | omega)) T.b_Sign_check_texts .nil pass0 (pa_cons (pv 1) pa_nil)))
      (pss_cons (ps_expr (pe_call G_check_offsets (hr.mono (by first | decide | omega)) (by rfl) T.m_check_offsets T.F_check_offsets.kp T.b_check_offsets .nil pass0 (pa_cons (pv 0) (pa_cons (pv 1) (pa_cons (pv 2) pa_nil)))))
      (pss_cons (ps_set (i := 3) sc_format_season.nd rfl (by first | exact Or.inl rfl | exact Or.inr rfl) (pe_lst (pa_cons (pe_bmk (K := K) rfl PySem.F.plainAttrs_str PySem.F.slot_str_join PySem.F.type_str_join (kJOIN (K := K) rfl) pe_str (pa_cons (pe_lst (pa_cons (pe_glob (by rfl) T.m_SIGN T.r_SIGN) (pa_cons (pe_callTy call_STRI (by rfl) T.g_str boot_str (pa_cons (pe_fldk (K := K) rfl (pv 0) (by rfl)) pa_nil)) (pa_stark (K := K) rfl (pe_fldk (K := K) rfl (pv 0) (by rfl)) pa_nil)))) pa_nil)) pa_nil)))
      (pss_cons (ps_expr (pe_bmk (K := K) rfl PySem.F.plainAttrs_list PySem.F.slot_list_extend PySem.F.type_list_extend mt_extend (pv 3) (pa_cons (pe_lc rfl sc_format_season.nd (pi_zipk (K := K) rfl (by rfl) T.g_zip (pa_cons (pv 1) (pa_cons (pv 2) pa_nil))) (own := [("text", 4), ("offset", 5)]) (@BlkOk.mk N_format_season (defScope s_format_season) _ _ rfl (by decide +kernel) (by decide +kernel) (by decide +kernel) (by decide +kernel)) (fun _ _ _ _ _ => (pg_tupk (K := K) (n := 2) rfl rfl (pgs_cons (pg_name (i := 4) sc_format_season.nd rfl (by first | exact Or.inl rfl | exact Or.inr rfl)) (pgs_cons (pg_name (i := 5) sc_format_season.nd rfl (by first | exact Or.inl rfl | exact Or.inr rfl)) pgs_nil)))) (fun _ _ _ _ _ => pts_nil) (fun _ _ _ _ _ => (pe_op (kADD (K := K) rfl) (pe_op (kADD (K := K) rfl) (pe_op (kADD (K := K) rfl) (pe_op (kADD (K := K) rfl) (pe_glob (by rfl) T.m_SHOW T.r_SHOW) pe_str) (pe_callTy call_STRI (by rfl) T.g_str boot_str (pa_cons (pv 5) pa_nil))) pe_str) (pv 4)))) pa_nil)))
      (pss_one (ps_ret (pe_bmk (K := K) rfl PySem.F.plainAttrs_str PySem.F.slot_str_join PySem.F.type_str_join (kJOIN (K := K) rfl) pe_str (pa_cons (pv 3) pa_nil)))))))), ?_⟩
  rintro _ F ms Q Ea ⟨x, w, ps, ts, os, rfl, hS, hOk, hO, q⟩
  obtain ⟨hs1, hs2⟩ := lines_sum hOk hO
  obtain ⟨w1, w2, p1, p2, p3, t1, t2, ht⟩ := id hOk
  obtain ⟨i, j, m, hi, hj⟩ := id hS
  walk_at "al"
  refine ae_meth ?_
  walk_at "al"
  refine ⟨x, fldS m w ps, rfl, .inr ⟨i, hi⟩, fld_no (by decide +kernel) (by decide +kernel) (by decide +kernel), ?_⟩
  walk_at "al"
  refine ⟨x, w, ps, ts, rfl, hS, w2, t1, t2, ht, fun F1 e1 => ?_⟩
  walk_at "al"
  refine ⟨x, w, ps, ts, os, rfl, hS, w2, t2, ht, hO, fun F2 e2 => ?_⟩
  walk_at "al"
  refine ae_lstO ?_
  walk_at "al"
  refine ae_bmS ?_
  walk_at "al"
  refine ae_lstF ?_
  walk_at "al"
  refine ae_fld ?_
  walk_at "al"
  refine ⟨x, T.c_Sign, fldS m w ps, .int w, rfl, .inr ⟨i, hi⟩, T.k_Sign, T.n_Sign_width, rfl, ?_⟩
  walk_at "al"
  refine ac_strI (by omega) ?_
  refine aa_star ?_
  refine ae_fld ?_
  walk_at "al"
  refine ⟨x, T.c_Sign, fldS m w ps, .tup (ps.map pD), rfl, .inr ⟨i, hi⟩, T.k_Sign, T.n_Sign_pairs, rfl, ?_⟩
  refine ⟨_, .inr rfl, ?_⟩
  walk_at "al"
  refine ⟨by simp; omega, fun F3 e3 => ?_⟩
  walk_at "al"
  refine am_join (ys := Str.ofString "sign" :: numS w :: ps.map pS) (.inl (.inl (by rw [List.append_nil, List.map_cons, List.map_cons, List.map_map]; rfl))) ?_ ?_
  · have h := head_sum w1 w2 p1
    have b : (Str.ofString " ").length = 1 := rfl
    rw [b, List.length_cons, List.length_cons, List.length_map]
    omega
  walk_at "al"
  refine ⟨by simp, fun l => ?_⟩
  walk_at "al"
  refine ae_bmL ?_
  walk_at "al"
  refine ⟨_, .inr ⟨0, l, rfl, rfl⟩, ?_⟩
  walk_at "al"
  refine ae_lc (gw_tup (gws_cons gm_name (gw_name (by simp)) (gws_cons gm_name (gw_name (by simp)) gws_nil))) (gm_tup (gms_cons gm_name (gms_cons gm_name gms_nil))) ?_
  refine ai_zipT ?_
  walk_at "al"
  refine ⟨_, _, rfl, by rw [List.length_map, List.length_map, hO.1], fun n F' ms' acc => ms' = (l, .lst [.str (headS w ps)]) :: ms ∧ acc = (((ts.zip os).map fun p => lineS p.1 p.2).take n).map D.str, ⟨rfl, rfl⟩, fun _ _ _ _ _ _ => trivial, ?_, ?_⟩
  · rintro n d F4 ms4 acc e4 hd ⟨rfl, rfl⟩ F5 e5
    obtain ⟨_, _, h1, h2, rfl⟩ := zipD_inv hd
    obtain ⟨t, ht1, rfl⟩ := strs_at h1
    obtain ⟨o, ho, rfl⟩ := ints_at' h2
    have hn : n < ts.length := (List.getElem?_eq_some_iff.mp ht1).1
    obtain ⟨o1, o2⟩ := hO.2 n _ _ ht1 ho
    obtain ⟨g1, g2, _⟩ := ht _ (List.mem_of_getElem? ht1)
    have ll := line_len o1 o2 w2 g1
    have nl := num_len o1 (by omega : o < 100)
    have a : (Str.ofString "show").length = 4 := rfl
    have b : (Str.ofString " ").length = 1 := rfl
    refine ag_tup rfl ?_
    refine ags_cons (ag_name ?_)
    refine ags_cons (ag_name ?_)
    refine ags_nil ?_
    walk_at "al"
    refine ar_ADDs (i := Str.ofString "show") (j := Str.ofString " ") (by rw [a, b]; decide) ?_
    walk_at "al"
    refine ac_strI (by omega) ?_
    refine ar_ADDs (i := Str.ofString "show" ++ Str.ofString " ") (j := numS o) (by rw [str_len_add, a, b]; omega) ?_
    walk_at "al"
    refine ar_ADDs (i := Str.ofString "show" ++ Str.ofString " " ++ numS o) (j := Str.ofString " ") (by rw [str_len_add, str_len_add, a, b]; omega) ?_
    walk_at "al"
    refine ar_ADDs (i := Str.ofString "show" ++ Str.ofString " " ++ numS o ++ Str.ofString " ") (j := t) (by rw [str_len_add, str_len_add, str_len_add, a, b]; omega) ?_
    refine ⟨by rw [List.length_map, List.length_take]; omega, rfl, ?_⟩
    rw [List.take_succ, line_at ht1 ho, List.map_append]
    rfl
  · rintro F4 ms4 acc e4 ⟨rfl, rfl⟩ F5 e5
    have hzl : ((ts.zip os).map fun p => lineS p.1 p.2).length = ts.length := by rw [List.length_map, List.length_zip, hO.1, Nat.min_self]
    rw [zipD_len (by rw [List.length_map, List.length_map, hO.1]), List.length_map, ← hzl, List.take_length]
    walk_at "al"
    refine am_extend 0 (l := l) rfl (by rw [List.length_map, hzl]; show 1 + _ ≤ 100000; omega) ?_
    refine as_frz (i := 3) (l := l) 0 rfl rfl fun F6 e6 => ?_
    walk_at "al"
    refine ae_bmS ?_
    walk_at "al"
    refine am_join (ys := linesS w ps ts os) (.inl (.inl rfl)) ?_ ?_
    · have b : (Str.ofString "\n").length = 1 := rfl
      rw [b, hs2]
      omega
    exact q F6 (((((e1.trans e2).trans e3).trans e4).trans e5).trans e6)
theorem ok_parse_season (T : Txt K mg) (G_Sign___init__ : OK_Sign___init__ P w base T) (G_Sign_check_texts : OK_Sign_check_texts P w base T) (G_check_offsets : OK_check_offsets P w base T) (G_read_number : OK_read_number P w base T) : OK_parse_season P w base T := by
  refine fn_ok T.F_parse_season sc_parse_season (by rintro _ _ _ _ _ ⟨w, ps, ts, os, rfl, _⟩; rfl) (fun cdv A outer s H E hr => ?_)
  have hu64 := hr.units
  refine ⟨_, (pss_cons (ps_set (i := 1) sc_parse_season.nd rfl (by first | exact Or.inl rfl | exact Or.inr rfl) (pe_bmk (K := K) rfl PySem.F.plainAttrs_str PySem.F.slot_str_split PySem.F.type_str_split mt_SPL (pv 0) (pa_cons pe_str pa_nil)))
      (pss_cons (ps_set (i := 2) sc_parse_season.nd rfl (by first | exact Or.inl rfl | exact Or.inr rfl) (pe_bmk (K := K) rfl PySem.F.plainAttrs_str PySem.F.slot_str_split PySem.F.type_str_split mt_SPL (pe_ix (kIX (K := K) rfl) (pv 1) pe_int (fun _ _ => rfl)) (pa_cons pe_str pa_nil)))
      (pss_cons (ps_set (i := 3) sc_parse_season.nd rfl (by first | exact Or.inl rfl | exact Or.inr rfl) (pe_ifExp ((pw_and (pt_cmpR op_gt (pe_callB (kLEN (K := K) rfl) (by rfl) T.g_len boot_len (pa_cons (pv 2) pa_nil)) pe_int (nomark _)) (pw_and1 (pt_cmpR (kEQ (K := K) rfl hu64) (pe_ix (kIX (K := K) rfl) (pv 2) pe_int (fun _ _ => rfl)) (pe_glob (by rfl) T.m_SIGN T.r_SIGN) (nomark _))))).pt (pe_call G_read_number (hr.mono (by first | decide | omega)) (by rfl) T.m_read_number T.F_read_number.kp T.b_read_number .nil pass0 (pa_cons (pe_ix (kIX (K := K) rfl) (pv 2) pe_int (fun _ _ => rfl)) pa_nil)) pe_non))
      (pss_cons (ps_if (pt_cmpR op_ISN (pv 3) pe_non (nomark _)) (pss_one ps_never) pss_nil)
      (pss_cons (ps_par (i := 4) (j := 5) rfl sc_parse_season.nd rfl rfl (by decide) rfl rfl (pa_cons (pe_lst pa_nil) (pa_cons (pe_lst pa_nil) pa_nil)) (by rfl))
      (pss_cons (ps_for PassesOwn.never rfl (pi_range2 (by rfl) T.g_range (pa_cons pe_int (pa_cons (pe_callB (kLEN (K := K) rfl) (by rfl) T.g_len boot_len (pa_cons (pv 1) pa_nil)) pa_nil))) (pg_name (i := 6) sc_parse_season.nd rfl (by first | exact Or.inl rfl | exact Or.inr rfl)) (pss_cons (ps_asg (pe_bmk (K := K) rfl PySem.F.plainAttrs_str PySem.F.slot_str_split PySem.F.type_str_split mt_SPM (pe_ix (kIX (K := K) rfl) (pv 1) (pv 6) (fun _ _ => rfl)) (pa_cons pe_str (pa_cons pe_int pa_nil))) (pg_starL (K := K) rfl rfl (pgs_cons (pg_name (i := 7) sc_parse_season.nd rfl (by first | exact Or.inl rfl | exact Or.inr rfl)) (pgs_cons (pg_name (i := 8) sc_parse_season.nd rfl (by first | exact Or.inl rfl | exact Or.inr rfl)) pgs_nil))))
      (pss_cons (ps_set (i := 9) sc_parse_season.nd rfl (by first | exact Or.inl rfl | exact Or.inr rfl) (pe_ifExp ((pw_and (pt_cmpR (kEQ (K := K) rfl hu64) (pv 7) (pe_glob (by rfl) T.m_SHOW T.r_SHOW) (nomark _)) (pw_and1 (pt_cmpR (kEQ (K := K) rfl hu64) (pe_callB (kLEN (K := K) rfl) (by rfl) T.g_len boot_len (pa_cons (pv 8) pa_nil)) pe_int (nomark _))))).pt (pe_call G_read_number (hr.mono (by first | decide | omega)) (by rfl) T.m_read_number T.F_read_number.kp T.b_read_number .nil pass0 (pa_cons (pe_ix (kIX (K := K) rfl) (pv 8) pe_int (fun _ _ => rfl)) pa_nil)) pe_non))
      (pss_cons (ps_if (pt_cmpR op_ISN (pv 9) pe_non (nomark _)) (pss_one ps_never) pss_nil)
      (pss_cons (ps_expr (pe_bmk (K := K) rfl PySem.F.plainAttrs_list PySem.F.slot_list_append PySem.F.type_list_append mt_append (pv 4) (pa_cons (pe_ix (kIX (K := K) rfl) (pv 8) pe_int (fun _ _ => rfl)) pa_nil)))
      (pss_one (ps_expr (pe_bmk (K := K) rfl PySem.F.plainAttrs_list PySem.F.slot_list_append PySem.F.type_list_append mt_append (pv 5) (pa_cons (pv 9) pa_nil)))))))))
      (pss_cons (ps_set (i := 10) sc_parse_season.nd rfl (by first | exact Or.inl rfl | exact Or.inr rfl) (pe_make T.M_Sign G_Sign___init__ (hr.mono (by first | decide | omega)) (by rfl) T.m_Sign T.b_Sign___init__ .nil pass0 (pa_cons (pv 3) (pa_cons (pe_callTy (kTUPLE (K := K) rfl) (by rfl) T.g_tuple boot_tuple (pa_cons (pe_slice (kSLC (K := K) rfl) (pv 2) (po_some pe_int) po_none) pa_nil)) pa_nil))))
      (pss_cons (ps_expr (pe_meth (pv 10) T.k_Sign T.Me_Sign_check_texts G_Sign_check_texts (hr.mono (by first | decide | omega)) T.b_Sign_check_texts .nil pass0 (pa_cons (pe_callTy (kTUPLE (K := K) rfl) (by rfl) T.g_tuple boot_tuple (pa_cons (pv 4) pa_nil)) pa_nil)))
      (pss_cons (ps_expr (pe_call G_check_offsets (hr.mono (by first | decide | omega)) (by rfl) T.m_check_offsets T.F_check_offsets.kp T.b_check_offsets .nil pass0 (pa_cons (pv 10) (pa_cons (pe_callTy (kTUPLE (K := K) rfl) (by rfl) T.g_tuple boot_tuple (pa_cons (pv 4) pa_nil)) (pa_cons (pe_callTy (kTUPLE (K := K) rfl) (by rfl) T.g_tuple boot_tuple (pa_cons (pv 5) pa_nil)) pa_nil)))))
      (pss_one (ps_ret (pe_tup (pa_cons (pv 10) (pa_cons (pe_callTy (kTUPLE (K := K) rfl) (by rfl) T.g_tuple boot_tuple (pa_cons (pv 4) pa_nil)) (pa_cons (pe_callTy (kTUPLE (K := K) rfl) (by rfl) T.g_tuple boot_tuple (pa_cons (pv 5) pa_nil)) pa_nil))))))))))))))), ?_⟩
  rintro _ F ms Q Ea ⟨w, ps, ts, os, rfl, hOk, hO, q⟩
  obtain ⟨hs1, hs2⟩ := lines_sum hOk hO
  have hsl := season_len hOk hO
  have hls := lines_split hOk hO
  obtain ⟨w1, w2, p1, p2, p3, t1, t2, ht⟩ := id hOk
  have hws := words_split w1 w2 p2
  have hhl := head_len w1 w2 p1
  have hzl : ((ts.zip os).map fun p => lineS p.1 p.2).length = ts.length := by rw [List.length_map, List.length_zip, hO.1, Nat.min_self]
  walk_at "al"
  refine ae_bmS ?_
  walk_at "al"
  refine am_split (a := seasonS w ps ts os) (b := Str.ofString "\n") rfl (by omega) fun F1 e1 => ?_
  rw [hls]
  walk_at "al"
  refine ae_bmS ?_
  walk_at "al"
  refine ar_ixL (d := .str (headS w ps)) (atI_of (j := 0) rfl rfl) ?_
  walk_at "al"
  refine am_split (a := headS w ps) (b := Str.ofString " ") rfl (by omega) fun F2 e2 => ?_
  rw [hws]
  walk_at "al"
  refine and_dT (by simp; omega) ?_
  walk_at "al"
  refine ar_ixL (d := .str (Str.ofString "sign")) (atI_of (j := 0) rfl rfl) ?_
  walk_at "al"
  refine and_dT rfl ?_
  walk_at "al"
  refine ar_ixL (d := .str (numS w)) (atI_of (j := 1) rfl rfl) ?_
  walk_at "al"
  refine ⟨w, rfl, by omega, by omega, fun F3 e3 => ?_⟩
  walk_at "al"
  refine ae_lstO ?_
  walk_at "al"
  refine ⟨by simp, fun l1 => ?_⟩
  walk_at "al"
  refine ae_lstO ?_
  walk_at "al"
  refine ⟨by simp, fun l2 => ?_⟩
  walk_at "al"
  refine as_for ?_
  refine ai_rng2 ?_
  walk_at "al"
  rw [List.length_map, hs2]
  refine ⟨1, _, rfl, by omega, fun n F' ms' S' => ms' = (l2, .lst ((os.take n).map D.int)) :: (l1, .lst ((ts.take n).map D.str)) :: ms ∧ ∃ a b c d, S' = [some (.str (seasonS w ps ts os)), some (.lst ((linesS w ps ts os).map D.str)), some (.lst ((Str.ofString "sign" :: numS w :: ps.map pS).map D.str)), some (.int w), some (.ref l1), some (.ref l2), a, b, c, d, none], ⟨rfl, none, none, none, none, rfl⟩, fun _ _ _ _ _ _ => trivial, ?_, ?_⟩
  · rintro n d F4 ms4 S4 e4 hd ⟨rfl, a, b, c, dd, rfl⟩ F5 e5
    obtain ⟨hn, rfl⟩ := range_at hd
    have hn1 : n < ts.length := by omega
    have hn2 : n < os.length := by rw [hO.1]; exact hn1
    have ht1 : ts[n]? = some ts[n] := List.getElem?_eq_getElem hn1
    have ho1 : os[n]? = some os[n] := List.getElem?_eq_getElem hn2
    obtain ⟨o1, o2⟩ := hO.2 n _ _ ht1 ho1
    obtain ⟨g1, g2, _⟩ := ht _ (List.getElem_mem hn1)
    have ll := line_len o1 o2 w2 g1
    have hla : (linesS w ps ts os)[n + 1]? = some (lineS ts[n] os[n]) := line_at ht1 ho1
    refine ag_name ?_
    walk_at "al"
    refine as_asgG ?_
    refine ae_bmS ?_
    walk_at "al"
    refine ar_ixL (d := .str (lineS ts[n] os[n])) (atI_of (j := n + 1) (by omega) (by rw [List.getElem?_map, hla]; rfl)) ?_
    walk_at "al"
    refine am_splitMax (a := lineS ts[n] os[n]) (b := Str.ofString " ") (n := 2) rfl (by decide) (by decide) (by omega) fun F6 e6 => ?_
    rw [line_split o1 (by omega)]
    refine ag_star (d := .str (Str.ofString "show")) (ds := [.str (numS os[n]), .str ts[n]]) (by simp) fun F7 e7 => ?_
    refine ags_cons (ag_name ?_)
    refine ags_cons (ag_name ?_)
    refine ags_nil ?_
    walk_at "al"
    refine and_dT rfl ?_
    walk_at "al"
    refine and_dT rfl ?_
    walk_at "al"
    refine ar_ixL (d := .str (numS os[n])) (atI_of (j := 0) rfl rfl) ?_
    walk_at "al"
    refine ⟨os[n], rfl, o1, by omega, fun F8 e8 => ?_⟩
    walk_at "al"
    refine ae_bmL ?_
    walk_at "al"
    refine ⟨_, .inr ⟨1, l1, rfl, rfl⟩, ?_⟩
    walk_at "al"
    refine ar_ixL (d := .str ts[n]) (atI_of (j := 1) rfl rfl) ?_
    walk_at "al"
    refine am_append 1 (l := l1) rfl (by rw [List.length_map, List.length_take]; omega) ?_
    walk_at "al"
    refine ae_bmL ?_
    walk_at "al"
    refine ⟨_, .inr ⟨0, l2, rfl, rfl⟩, ?_⟩
    walk_at "al"
    refine am_append 0 (l := l2) rfl (by rw [List.length_map, List.length_take]; omega) ?_
    refine ⟨?_, _, _, _, _, rfl⟩
    show (l2, MO.lst _) :: (l1, MO.lst _) :: ms = _
    rw [List.take_succ, List.take_succ, ht1, ho1, List.map_append, List.map_append]
    rfl
  · rintro F4 ms4 S4 e4 ⟨rfl, a, b, c, dd, rfl⟩
    rw [range_len, show ((ts.length + 1 : Nat) - 1 : Int).toNat = ts.length by omega, List.take_length]
    have eo : os.take ts.length = os := by rw [← hO.1, List.take_length]
    rw [eo]
    walk_at "al"
    refine ae_make (dds := []) (fun _ => .nil) ?_
    walk_at "al"
    refine ae_sl ?_
    walk_at "al"
    refine ao_some ?_
    walk_at "al"
    refine ao_none ?_
    refine sl_L (.inl (.inl rfl)) fun F5 e5 => ?_
    have ecut : cutL ((Str.ofString "sign" :: numS w :: ps.map pS).map D.str) (some 2) none = ps.map pD := by
      refine (cutL_drop (xs := (Str.ofString "sign" :: numS w :: ps.map pS).map D.str) (p := 2) (by simp)).trans ?_
      show (ps.map pS).map D.str = _
      rw [List.map_map]
      rfl
    rw [ecut]
    walk_at "al"
    refine ac_tupleL (.inl rfl) fun F6 e6 => ?_
    walk_at "al"
    intro x F7 e7
    refine ⟨x, w, ps, _, rfl, w1, w2, p1, p2, p3, rfl, fun m F8 e8 => ⟨rfl, ?_⟩⟩
    have hS : Sgn T.c_Sign ((m, MO.dic (kvsOf ps)) :: (x, MO.ins T.c_Sign (fldS m w ps)) :: (l2, MO.lst (os.map D.int)) :: (l1, MO.lst (ts.map D.str)) :: ms) x w ps := ⟨1, 0, m, rfl, rfl⟩
    walk_at "al"
    refine ae_meth ?_
    walk_at "al"
    refine ⟨x, fldS m w ps, rfl, .inr ⟨1, rfl⟩, fld_no (by decide +kernel) (by decide +kernel) (by decide +kernel), ?_⟩
    walk_at "al"
    refine ac_tupleO 3 (l := l1) rfl fun F9 e9 => ?_
    walk_at "al"
    refine ⟨x, w, ps, ts, rfl, hS, w2, t1, t2, ht, fun F10 e10 => ?_⟩
    walk_at "al"
    refine ac_tupleO 3 (l := l1) rfl fun F11 e11 => ?_
    walk_at "al"
    refine ac_tupleO 2 (l := l2) rfl fun F12 e12 => ?_
    walk_at "al"
    refine ⟨x, w, ps, ts, os, rfl, hS, w2, t2, ht, hO, fun F13 e13 => ?_⟩
    walk_at "al"
    refine ae_tup ?_
    walk_at "al"
    refine ac_tupleO 3 (l := l1) rfl fun F14 e14 => ?_
    walk_at "al"
    refine ac_tupleO 2 (l := l2) rfl fun F15 e15 => ?_
    walk_at "al"
    refine ⟨by simp, fun F16 e16 => ?_⟩
    exact q F16 x m _ ((((((((((((((e1.trans e2).trans e3).trans e4).trans e5).trans e6).trans e7).trans e8).trans e9).trans e10).trans e11).trans e12).trans e13).trans e14).trans (e15.trans e16)) fun k p h => ⟨k + 2, h⟩
end

/-! ### the signs' numbers -/
theorem SG_all : ∀ c ∈ SG.cps.toList, Builtin.Str.occurrences SG (sg c) 0 SG.length 1 = [ix c] ∧ SG.cps.toList[ix c]? = some c ∧ ix c ≤ 36 ∧ (c ≠ 32 → ix c ≤ 35 ∧ LET.cps.toList[ix c]? = some c) := by
  unfold ix
  decide +kernel
theorem SG_L {c : Nat} (h : inL c) : c ∈ SG.cps.toList := by
  have : ∀ c ∈ LET.cps.toList, c ∈ SG.cps.toList := by decide +kernel
  exact this c h
theorem SG_32 {c : Nat} (h : c = 32 ∨ inL c) : c ∈ SG.cps.toList := by
  rcases h with rfl | h
  · decide +kernel
  · exact SG_L h
theorem flat_len (ps : List Pr) : (flat ps).length = 2 * ps.length := by
  induction ps with
  | nil => rfl
  | cons p ps ih =>
    show ([p.1, p.2] ++ flat ps).length = _
    rw [List.length_append, ih, List.length_cons]
    show 2 + 2 * ps.length = 2 * (ps.length + 1)
    omega
theorem len_texts {w : Int} (w2 : w ≤ 24) : ∀ {ts : List Str}, (∀ t ∈ ts, (t.length : Int) ≤ w) → (ts.flatMap tI).length ≤ 25 * ts.length
  | [], _ => Nat.le_refl _
  | t :: ts, h => by
    have h1 := h t (List.mem_cons_self ..)
    have ih := len_texts w2 (ts := ts) fun y hy => h y (List.mem_cons_of_mem _ hy)
    have e : (tI t).length = 1 + t.length := by unfold tI; rw [List.length_cons, List.length_map]; show t.length + 1 = _; omega
    rw [List.flatMap_cons, List.length_append, e, List.length_cons]
    omega
theorem len_body {w : Int} {ps : List Pr} {n : Nat} {ts : List Str} (p1 : ps.length ≤ 10) (h : ∀ t ∈ ts, (t.length : Int) ≤ w) (w2 : w ≤ 24) (t2 : ts.length ≤ 12) : (hdI w ps n ++ ts.flatMap tI).length ≤ 400 := by
  have := len_texts w2 h
  unfold hdI
  rw [List.length_append, List.length_append, List.length_append, List.length_map, flat_len]
  show 3 + 2 * ps.length + 1 + _ ≤ 400
  omega
theorem flat_get : ∀ {ps : List Pr} {n : Nat} {p : Pr}, ps[n]? = some p → (flat ps)[2 * n]? = some p.1 ∧ (flat ps)[2 * n + 1]? = some p.2
  | a :: ps, 0, p, h => by
    cases h
    exact ⟨rfl, rfl⟩
  | a :: ps, n + 1, p, h => by
    have ih := flat_get (ps := ps) (n := n) (p := p) h
    have e : flat (a :: ps) = a.1 :: a.2 :: flat ps := rfl
    rw [e, show 2 * (n + 1) = 2 * n + 1 + 1 by omega, show 2 * n + 1 + 1 + 1 = (2 * n + 1) + 1 + 1 by omega]
    exact ih
theorem take_new {l : List Nat} {n : Nat} (nd : l.Nodup) (h : n < l.length) : sg l[n] ∉ (l.take n).map sg := by
  intro z
  obtain ⟨c, hc, e⟩ := List.mem_map.mp z
  have e2 : [c] = [l[n]] := congrArg (fun s : Str => s.cps.toList) e
  have e3 : c = l[n] := by simpa using e2
  subst e3
  have hs : l = l.take n ++ l[n] :: l.drop (n + 1) := by rw [List.getElem_cons_drop, List.take_append_drop]
  rw [hs] at nd
  exact (List.nodup_append.mp nd).2.2 _ hc _ (List.mem_cons_self ..) rfl
theorem drop_get {xs rest : List Int} {p : Nat} {v : Int} (h : xs.drop p = v :: rest) : xs[p]? = some v ∧ xs.drop (p + 1) = rest := by
  constructor
  · rw [← List.head?_drop, h]
    rfl
  · rw [← List.tail_drop, h]
    rfl
theorem ints_at {xs : List Int} {p : Nat} {v : Int} (h : xs[p]? = some v) : (xs.map D.int)[p]? = some (.int v) := by rw [List.getElem?_map, h]; rfl
theorem rO_no {l : Addr} {p : Nat} {f : Str} (h1 : (f == "code") = false) (h2 : (f == "spot") = false) : ([("code", D.ref l), ("spot", D.int (p : Int))] : List (Str × D)).lookup f = none := by
  rw [List.lookup_cons, h1, List.lookup_cons, h2]
  rfl
theorem ne_set {ms : Ms} {i j : Nat} {a b : Addr} {C : Addr} {fs : List (Str × D)} {xs : List D} {m : Addr × MO} (hi : ms[i]? = some (a, .ins C fs)) (hj : ms[j]? = some (b, .lst xs)) : (ms.set i m)[j]? = some (b, .lst xs) := by
  rw [List.getElem?_set_ne]
  · exact hj
  · rintro rfl
    rw [hi] at hj
    cases hj
section
variable {P : Program} {w : World} {K : Frg} {mg : Str → Option Value} {base : Heap}
theorem ok_encode (T : Txt K mg) (G_Sign_check_texts : OK_Sign_check_texts P w base T) : OK_encode P w base T := by
  refine fn_ok T.F_encode sc_encode (by rintro _ _ _ _ _ ⟨x, w, ps, t, rfl, _⟩; rfl) (fun cdv A outer s H E hr => ?_)
  have hu64 := hr.units
  refine ⟨_, (pss_cons (ps_expr (pe_meth (pv 0) T.k_Sign T.Me_Sign_check_texts G_Sign_check_texts (hr.mono (by first | decide | omega)) T.b_Sign_check_texts .nil pass0 (pa_cons (pv 1) pa_nil)))
      (pss_cons (ps_set (i := 2) sc_encode.nd rfl (by first | exact Or.inl rfl | exact Or.inr rfl) (pe_lst (pa_cons (pe_glob (by rfl) T.m_TAG T.r_TAG) (pa_cons (pe_fldk (K := K) rfl (pv 0) (by rfl)) (pa_cons (pe_callB (kLEN (K := K) rfl) (by rfl) T.g_len boot_len (pa_cons (pe_fldk (K := K) rfl (pv 0) (by rfl)) pa_nil)) pa_nil)))))
      (pss_cons (ps_for PassesOwn.never rfl (pi_tupk (K := K) rfl (pe_fldk (K := K) rfl (pv 0) (by rfl))) (pg_name (i := 3) sc_encode.nd rfl (by first | exact Or.inl rfl | exact Or.inr rfl)) (pss_one (ps_expr (pe_bmk (K := K) rfl PySem.F.plainAttrs_list PySem.F.slot_list_extend PySem.F.type_list_extend mt_extend (pv 2) (pa_cons (pe_lc rfl sc_encode.nd (pi_str (pv 3)) (own := [("letter", 4)]) (@BlkOk.mk N_encode (defScope s_encode) _ _ rfl (by decide +kernel) (by decide +kernel) (by decide +kernel) (by decide +kernel)) (fun _ _ _ _ _ => (pg_name (i := 4) sc_encode.nd rfl (by first | exact Or.inl rfl | exact Or.inr rfl))) (fun _ _ _ _ _ => pts_nil) (fun _ _ _ _ _ => (pe_bmk (K := K) rfl PySem.F.plainAttrs_str PySem.F.slot_str_index PySem.F.type_str_index mt_SIX (pe_glob (by rfl) T.m_SIGNS T.r_SIGNS) (pa_cons (pv 4) pa_nil)))) pa_nil)))))
      (pss_cons (ps_expr (pe_bmk (K := K) rfl PySem.F.plainAttrs_list PySem.F.slot_list_append PySem.F.type_list_append mt_append (pv 2) (pa_cons (pe_callB (kLEN (K := K) rfl) (by rfl) T.g_len boot_len (pa_cons (pv 1) pa_nil)) pa_nil)))
      (pss_cons (ps_for PassesOwn.never rfl (pi_tupk (K := K) rfl (pv 1)) (pg_name (i := 5) sc_encode.nd rfl (by first | exact Or.inl rfl | exact Or.inr rfl)) (pss_cons (ps_expr (pe_bmk (K := K) rfl PySem.F.plainAttrs_list PySem.F.slot_list_append PySem.F.type_list_append mt_append (pv 2) (pa_cons (pe_callB (kLEN (K := K) rfl) (by rfl) T.g_len boot_len (pa_cons (pv 5) pa_nil)) pa_nil)))
      (pss_one (ps_expr (pe_bmk (K := K) rfl PySem.F.plainAttrs_list PySem.F.slot_list_extend PySem.F.type_list_extend mt_extend (pv 2) (pa_cons (pe_lc rfl sc_encode.nd (pi_str (pv 5)) (own := [("letter", 4)]) (@BlkOk.mk N_encode (defScope s_encode) _ _ rfl (by decide +kernel) (by decide +kernel) (by decide +kernel) (by decide +kernel)) (fun _ _ _ _ _ => (pg_name (i := 4) sc_encode.nd rfl (by first | exact Or.inl rfl | exact Or.inr rfl))) (fun _ _ _ _ _ => pts_nil) (fun _ _ _ _ _ => (pe_bmk (K := K) rfl PySem.F.plainAttrs_str PySem.F.slot_str_index PySem.F.type_str_index mt_SIX (pe_glob (by rfl) T.m_SIGNS T.r_SIGNS) (pa_cons (pv 4) pa_nil)))) pa_nil))))))
      (pss_one (ps_ret (pe_lst (pa_stark (K := K) rfl (pv 2) (pa_cons (pe_op op_mod (pe_callB (kSUM (K := K) rfl rfl) (by rfl) T.g_sum boot_sum (pa_cons (pv 2) pa_nil)) (pe_glob (by rfl) T.m_BYTE T.r_BYTE)) pa_nil)))))))))), ?_⟩
  rintro _ F ms Q Ea ⟨x, w, ps, ts, rfl, hS, ⟨w1, w2, p1, p2, p3, t1, t2, ht⟩, q⟩
  obtain ⟨i, j, m, hi, hj⟩ := id hS
  walk_at "al"
  refine ae_meth ?_
  walk_at "al"
  refine ⟨x, fldS m w ps, rfl, .inr ⟨i, hi⟩, fld_no (by decide +kernel) (by decide +kernel) (by decide +kernel), ?_⟩
  walk_at "al"
  refine ⟨x, w, ps, ts, rfl, hS, w2, t1, t2, ht, fun F1 e1 => ?_⟩
  walk_at "al"
  refine ae_lstO ?_
  walk_at "al"
  refine ae_fld ?_
  walk_at "al"
  refine ⟨x, T.c_Sign, fldS m w ps, .int w, rfl, .inr ⟨i, hi⟩, T.k_Sign, T.n_Sign_width, rfl, ?_⟩
  walk_at "al"
  refine ae_fld ?_
  walk_at "al"
  refine ⟨x, T.c_Sign, fldS m w ps, .tup (ps.map pD), rfl, .inr ⟨i, hi⟩, T.k_Sign, T.n_Sign_pairs, rfl, ?_⟩
  walk_at "al"
  refine ⟨by simp, fun l => ?_⟩
  rw [List.length_map]
  walk_at "al"
  refine as_for ?_
  refine ai_tup ?_
  refine ae_fld ?_
  walk_at "al"
  refine ⟨x, T.c_Sign, fldS m w ps, .tup (ps.map pD), rfl, .inr ⟨i + 1, hi⟩, T.k_Sign, T.n_Sign_pairs, rfl, ?_⟩
  have fl : (flat ps).length = 2 * ps.length := flat_len ps
  refine ⟨_, rfl, fun i F' ms' S' => ms' = (l, .lst (([77, w, (ps.length : Int)] ++ (flat (ps.take i)).map (fun c => (ix c : Int))).map D.int)) :: ms ∧ ∃ a b c, S' = [some (.ref x), some (.tup (ts.map D.str)), some (.ref l), a, b, c],
    ⟨rfl, none, none, none, rfl⟩, fun _ _ _ _ _ _ => trivial, ?_, ?_⟩
  · rintro n d F' ms' S' e hd ⟨rfl, a, b, c, rfl⟩ F'' e''
    obtain ⟨p, hp, rfl⟩ := pairs_at hd
    have hn : n < ps.length := (List.getElem?_eq_some_iff.mp hp).1
    obtain ⟨g1, g2⟩ := flat_mem hp
    have ft : (flat (ps.take n)).length = 2 * n := by rw [flat_len, List.length_take]; omega
    refine ag_name ?_
    walk_at "al"
    refine ae_bmL ?_
    walk_at "al"
    refine ⟨_, .inr ⟨0, l, rfl, rfl⟩, ?_⟩
    walk_at "al"
    refine ae_lc (gw_name (by simp)) gm_name ?_
    refine ai_str ?_
    walk_at "al"
    refine ⟨pS p, rfl, fun i F' ms2 acc => ms2 = (l, .lst (([77, w, (ps.length : Int)] ++ (flat (ps.take n)).map (fun c => (ix c : Int))).map D.int)) :: ms ∧ acc = ([p.1, p.2].take i).map fun c => D.int (ix c : Int), ⟨rfl, rfl⟩, fun _ _ _ _ _ _ => trivial, ?_, ?_⟩
    · rintro i2 d F3 ms3 acc e3 hd3 ⟨rfl, rfl⟩ F4 e4
      obtain ⟨c, hc, rfl⟩ := chars_at hd3
      have hc' : ([p.1, p.2] : List Nat)[i2]? = some c := hc
      have hcL : c ∈ SG.cps.toList := by
        have := List.mem_of_getElem? hc'
        simp at this
        rcases this with rfl | rfl
        · exact SG_L (p2 _ g1)
        · exact SG_L (p2 _ g2)
      refine ag_name ?_
      walk_at "al"
      refine ae_bmS ?_
      walk_at "al"
      refine am_sindex (a := SG) (b := sg c) (SG_all c hcL).1 ?_
      refine ⟨?_, rfl, ?_⟩
      · rw [List.length_map, List.length_take]
        show min i2 2 < 100000
        omega
      · rw [List.take_succ, hc', List.map_append]
        rfl
    · rintro F3 ms3 acc e3 ⟨rfl, rfl⟩ F4 e4
      walk_at "al"
      refine am_extend 0 (l := l) rfl ?_ ?_
      · rw [List.length_map, List.length_append, List.length_map, List.length_map, ft]
        show 3 + 2 * n + 2 ≤ 100000
        omega
      refine ⟨?_, _, _, _, rfl⟩
      show (l, MO.lst _) :: ms = _
      rw [List.take_succ, hp]
      unfold flat
      simp [charsD, pS]
  · rintro F' ms' S' eA ⟨rfl, a, b, c, rfl⟩
    rw [List.length_map, List.take_length]
    walk_at "al"
    refine ae_bmL ?_
    walk_at "al"
    refine ⟨_, .inr ⟨0, l, rfl, rfl⟩, ?_⟩
    walk_at "al"
    refine am_append 0 (l := l) rfl ?_ ?_
    · rw [List.length_map, List.length_append, List.length_map, fl]
      show 3 + 2 * ps.length < 100000
      omega
    rw [List.length_map]
    walk_at "al"
    refine as_for ?_
    refine ai_tup ?_
    walk_at "al"
    refine ⟨_, rfl, fun i F' ms' S' => ms' = (l, .lst ((hdI w ps ts.length ++ (ts.take i).flatMap tI).map D.int)) :: ms ∧ ∃ a b c, S' = [some (.ref x), some (.tup (ts.map D.str)), some (.ref l), a, b, c],
      ⟨?_, a, b, c, rfl⟩, fun _ _ _ _ _ _ => trivial, ?_, ?_⟩
    · show (l, MO.lst _) :: ms = _
      unfold hdI
      simp
    · rintro n d F' ms' S' e hd ⟨rfl, a, b, c, rfl⟩ F'' e''
      obtain ⟨t, hp, rfl⟩ := strs_at hd
      have hn : n < ts.length := (List.getElem?_eq_some_iff.mp hp).1
      obtain ⟨tl1, tl2, tl3, _⟩ := ht t (List.mem_of_getElem? hp)
      have hb := len_body (w := w) (ps := ps) (n := ts.length) p1 (fun t h => (ht t (List.mem_of_mem_take h)).2.1) w2 (show (ts.take n).length ≤ 12 by rw [List.length_take]; omega)
      have tlen : t.cps.toList.length = t.length := rfl
      refine ag_name ?_
      walk_at "al"
      refine ae_bmL ?_
      walk_at "al"
      refine ⟨_, .inr ⟨0, l, rfl, rfl⟩, ?_⟩
      walk_at "al"
      refine ac_lenS (z := t) (by omega) ?_
      walk_at "al"
      refine am_append 0 (l := l) rfl (by rw [List.length_map]; omega) ?_
      walk_at "al"
      refine ae_bmL ?_
      walk_at "al"
      refine ⟨_, .inr ⟨0, l, rfl, rfl⟩, ?_⟩
      walk_at "al"
      refine ae_lc (gw_name (by simp)) gm_name ?_
      refine ai_str ?_
      walk_at "al"
      refine ⟨fun i F' ms2 acc => ms2 = (l, .lst ((hdI w ps ts.length ++ (ts.take n).flatMap tI).map D.int ++ [.int (t.length : Int)])) :: ms ∧ acc = (t.cps.toList.take i).map fun c => .int (ix c : Int), ⟨rfl, rfl⟩, fun _ _ _ _ _ _ => trivial, ?_, ?_⟩
      · rintro i2 d F3 ms3 acc e3 hd3 ⟨rfl, rfl⟩ F4 e4
        obtain ⟨c, hc, rfl⟩ := chars_at hd3
        refine ag_name ?_
        walk_at "al"
        refine ae_bmS ?_
        walk_at "al"
        refine am_sindex (a := SG) (b := sg c) (SG_all c (SG_32 (tl3 c (List.mem_of_getElem? hc)))).1 ?_
        refine ⟨?_, rfl, ?_⟩
        · rw [List.length_map, List.length_take]
          omega
        · rw [List.take_succ, hc, List.map_append]
          rfl
      · rintro F3 ms3 acc e3 ⟨rfl, rfl⟩ F4 e4
        rw [chars_len]
        have e5 : t.cps.toList.take t.length = t.cps.toList := List.take_length
        rw [e5]
        walk_at "al"
        refine am_extend 0 (l := l) rfl ?_ ?_
        · rw [List.length_append, List.length_map, List.length_map]
          show _ + 1 + _ ≤ 100000
          omega
        refine ⟨?_, _, _, _, rfl⟩
        show (l, MO.lst _) :: ms = _
        rw [List.take_succ, hp]
        simp [tI, List.flatMap_append]
    · rintro F' ms' S' e ⟨rfl, a, b, c, rfl⟩
      rw [List.length_map, List.take_length]
      have hb := len_body (w := w) (ps := ps) (n := ts.length) p1 (fun t h => (ht t h).2.1) w2 t2
      refine as_ret (ae_dropm ?_)
      refine ae_lstO ?_
      refine aa_star ?_
      walk_at "al"
      refine ⟨_, .inl (.inr ⟨0, l, rfl, rfl⟩), ?_⟩
      walk_at "al"
      refine ac_sumO (ns := bodyI w ps ts) 0 rfl ?_
      walk_at "al"
      refine ar_modI (by decide) ?_
      walk_at "al"
      refine ⟨by rw [List.length_append, List.length_map]; show _ + 1 ≤ 100000; omega, fun l2 => ⟨1, by show 1 < (_ :: _ :: ms).length; simp, ?_⟩⟩
      have hq := q F' l2 ((e1.trans eA).trans e)
      have ec : (codeI w ps ts).map D.int = (bodyI w ps ts).map D.int ++ [.int ((bodyI w ps ts).sum % 256)] := by unfold codeI; rw [List.map_append]; rfl
      rw [ec] at hq
      exact hq
theorem ok_Reader___init__ (T : Txt K mg) : OK_Reader___init__ P w base T := by
  refine fn_ok T.F_Reader___init__ sc_Reader___init__ (by rintro _ _ _ _ _ ⟨r, l, R, rfl, _⟩; rfl) (fun cdv A outer s H E hr => ?_)
  have hu64 := hr.units
  refine ⟨_, (pss_cons (ps_fld (pv 0) (pv 1) (by rfl))
      (pss_one (ps_fld (pv 0) pe_int (by rfl)))), ?_⟩
  rintro _ F _ Q Ea ⟨r, l, R, rfl, rfl, q⟩
  walk_at "al"
  refine as_fld ?_
  walk_at "al"
  refine ⟨0, r, T.c_Reader, [], rfl, rfl, T.k_Reader, T.n_Reader_code, by show 0 < 1000; decide, ?_⟩
  walk_at "al"
  refine as_fld ?_
  walk_at "al"
  refine ⟨0, r, T.c_Reader, _, rfl, rfl, T.k_Reader, T.n_Reader_spot, Nat.lt_of_le_of_lt (putD_len _ _ _) (by show 1 < 1000; decide), ?_⟩
  exact q
theorem ok_Reader_read_byte (T : Txt K mg) (G_is_int_in : OK_is_int_in P w base T) : OK_Reader_read_byte P w base T := by
  refine fn_ok T.F_Reader_read_byte sc_Reader_read_byte (by rintro _ _ _ _ _ ⟨i, j, r, l, p, xs, lo, hi, v, rfl, _⟩; rfl) (fun cdv A outer s H E hr => ?_)
  have hu64 := hr.units
  refine ⟨_, (pss_cons (ps_if ((pw_or (pt_cmpR (kEQ (K := K) rfl hu64) (pe_fldk (K := K) rfl (pv 0) (by rfl)) (pe_callB (kLEN (K := K) rfl) (by rfl) T.g_len boot_len (pa_cons (pe_fldk (K := K) rfl (pv 0) (by rfl)) pa_nil)) (nomark _)) (pw_or1 (pt_not (pt_val (pe_call G_is_int_in (hr.mono (by first | decide | omega)) (by rfl) T.m_is_int_in T.F_is_int_in.kp T.b_is_int_in .nil pass0 (pa_cons (pe_ix (kIX (K := K) rfl) (pe_fldk (K := K) rfl (pv 0) (by rfl)) (pe_fldk (K := K) rfl (pv 0) (by rfl)) (fun _ _ => rfl)) (pa_cons (pv 1) (pa_cons (pv 2) pa_nil))))))))).pt (pss_one ps_never) pss_nil)
      (pss_cons (ps_fldaugk (K := K) rfl (pv 0) pe_int iop_add)
      (pss_one (ps_ret (pe_ix (kIX (K := K) rfl) (pe_fldk (K := K) rfl (pv 0) (by rfl)) (pe_op op_sub (pe_fldk (K := K) rfl (pv 0) (by rfl)) pe_int) (fun _ _ => rfl)))))), ?_⟩
  rintro _ F ms Q Ea ⟨i, j, r, l, p, xs, lo, hi, v, rfl, hi0, hj0, hp, v1, v2, hx, q⟩
  have hil : i < ms.length := (List.getElem?_eq_some_iff.mp hi0).1
  have hpl : p < xs.length := (List.getElem?_eq_some_iff.mp hp).1
  walk_at "al"
  refine ae_fld ?_
  walk_at "al"
  refine ⟨r, T.c_Reader, _, .int (p : Int), rfl, .inr ⟨i, hi0⟩, T.k_Reader, T.n_Reader_spot, rfl, ?_⟩
  walk_at "al"
  refine ae_fld ?_
  walk_at "al"
  refine ⟨r, T.c_Reader, _, .ref l, rfl, .inr ⟨i, hi0⟩, T.k_Reader, T.n_Reader_code, rfl, ?_⟩
  walk_at "al"
  refine ac_lenO j hj0 ?_
  rw [List.length_map]
  walk_at "al"
  refine and_dF' (by omega) ?_
  walk_at "al"
  refine ae_fld ?_
  walk_at "al"
  refine ⟨r, T.c_Reader, _, .ref l, rfl, .inr ⟨i, hi0⟩, T.k_Reader, T.n_Reader_code, rfl, ?_⟩
  refine ae_fld ?_
  walk_at "al"
  refine ⟨r, T.c_Reader, _, .int (p : Int), rfl, .inr ⟨i, hi0⟩, T.k_Reader, T.n_Reader_spot, rfl, ?_⟩
  refine ar_ixO j hj0 (atI_of (j := p) rfl (ints_at hp)) ?_
  walk_at "al"
  refine ⟨v, lo, hi, rfl, ?_⟩
  rw [decide_eq_true v1, decide_eq_true v2]
  walk_at "al"
  refine and_nT ?_
  walk_at "al"
  refine as_fldaug ?_
  walk_at "al"
  refine ⟨i, r, T.c_Reader, _, (p : Int), rfl, hi0, T.k_Reader, T.n_Reader_spot, rfl, ?_⟩
  walk_at "al"
  refine ⟨1, i, _, rfl, hi0, by show 2 < 1000; decide, ?_⟩
  have es : (i, 0) = (i, 0) := rfl
  have e2 : ms.set i (r, MO.ins T.c_Reader (putD "spot" (.int ((p : Int) + 1)) [("code", .ref l), ("spot", .int (p : Int))])) = ms.set i (r, rO T.c_Reader l (p + 1)) := rfl
  rw [e2]
  have hi1 : (ms.set i (r, rO T.c_Reader l (p + 1)))[i]? = some (r, rO T.c_Reader l (p + 1)) := set_get hil
  have hj1 : (ms.set i (r, rO T.c_Reader l (p + 1)))[j]? = some (l, .lst (xs.map D.int)) := ne_set hi0 hj0
  walk_at "al"
  refine ae_fld ?_
  walk_at "al"
  refine ⟨r, T.c_Reader, _, .ref l, rfl, .inr ⟨i, hi1⟩, T.k_Reader, T.n_Reader_code, rfl, ?_⟩
  walk_at "al"
  refine ae_fld ?_
  walk_at "al"
  refine ⟨r, T.c_Reader, _, .int ((p + 1 : Nat) : Int), rfl, .inr ⟨i, hi1⟩, T.k_Reader, T.n_Reader_spot, rfl, ?_⟩
  walk_at "al"
  refine ar_ixO j hj1 (atI_of (j := p) (by omega) (ints_at hp)) ?_
  exact q
theorem ok_Reader_read_letter (T : Txt K mg) (G_Reader_read_byte : OK_Reader_read_byte P w base T) : OK_Reader_read_letter P w base T := by
  refine fn_ok T.F_Reader_read_letter sc_Reader_read_letter (by rintro _ _ _ _ _ ⟨i, j, k, r, l, u, p, xs, us, c, rfl, _⟩; rfl) (fun cdv A outer s H E hr => ?_)
  have hu64 := hr.units
  refine ⟨_, (pss_cons (ps_set (i := 2) sc_Reader_read_letter.nd rfl (by first | exact Or.inl rfl | exact Or.inr rfl) (pe_ix (kIX (K := K) rfl) (pe_glob (by rfl) T.m_LETTERS T.r_LETTERS) (pe_meth (pv 0) T.k_Reader T.Me_Reader_read_byte G_Reader_read_byte (hr.mono (by first | decide | omega)) T.b_Reader_read_byte .nil pass0 (pa_cons pe_int (pa_cons (pe_op op_sub (pe_callB (kLEN (K := K) rfl) (by rfl) T.g_len boot_len (pa_cons (pe_glob (by rfl) T.m_LETTERS T.r_LETTERS) pa_nil)) pe_int) pa_nil))) (fun _ _ => rfl)))
      (pss_cons (ps_if (pt_cmpR (kIN (K := K) rfl) (pv 2) (pv 1) (by with_unfolding_all rfl)) (pss_one ps_never) pss_nil)
      (pss_one (ps_ret (pv 2))))), ?_⟩
  rintro _ F ms Q Ea ⟨i, j, k, r, l, u, p, xs, us, c, rfl, hi0, hj0, hk0, hp, hc, hcu, hx, q⟩
  obtain ⟨_, _, _, i3⟩ := SG_all c (SG_L hc)
  obtain ⟨i4, i5⟩ := i3 (inL_ne hc)
  walk_at "al"
  refine ae_meth ?_
  walk_at "al"
  refine ⟨r, _, rfl, .inr ⟨i, hi0⟩, rO_no (by decide +kernel) (by decide +kernel), ?_⟩
  walk_at "al"
  refine ac_lenS (z := LET) (by decide +kernel) ?_
  walk_at "al"
  refine ⟨i, j, r, l, p, xs, 0, _, _, rfl, hi0, hj0, hp, by omega, (by rw [show LET.length = 36 by decide +kernel]; omega), hx, ?_⟩
  refine ar_ixS (z := LET) (c := c) (by decide +kernel) (atI_of rfl i5) ?_
  walk_at "al"
  refine ar_INo k (xs := us) (ne_set hi0 hk0) ?_
  walk_at "al"
  refine and_dF hcu ?_
  walk_at "al"
  exact q
theorem ok_Reader_read_pairs (T : Txt K mg) (G_Reader_read_byte : OK_Reader_read_byte P w base T) (G_Reader_read_letter : OK_Reader_read_letter P w base T) : OK_Reader_read_pairs P w base T := by
  refine fn_ok T.F_Reader_read_pairs sc_Reader_read_pairs (by rintro _ _ _ _ _ ⟨i, j, r, l, p, xs, rest, ps, rfl, _⟩; rfl) (fun cdv A outer s H E hr => ?_)
  have hu64 := hr.units
  refine ⟨_, (pss_cons (ps_set (i := 1) sc_Reader_read_pairs.nd rfl (by first | exact Or.inl rfl | exact Or.inr rfl) (pe_lst pa_nil))
      (pss_cons (ps_for PassesOwn.never rfl (pi_range1 (by rfl) T.g_range (pa_cons (pe_op (kMUL (K := K) rfl) pe_int (pe_meth (pv 0) T.k_Reader T.Me_Reader_read_byte G_Reader_read_byte (hr.mono (by first | decide | omega)) T.b_Reader_read_byte .nil pass0 (pa_cons pe_int (pa_cons (pe_glob (by rfl) T.m_MAX_PAIRS T.r_MAX_PAIRS) pa_nil)))) pa_nil)) (pg_name (i := 2) sc_Reader_read_pairs.nd rfl (by first | exact Or.inl rfl | exact Or.inr rfl)) (pss_one (ps_expr (pe_bmk (K := K) rfl PySem.F.plainAttrs_list PySem.F.slot_list_append PySem.F.type_list_append mt_append (pv 1) (pa_cons (pe_meth (pv 0) T.k_Reader T.Me_Reader_read_letter G_Reader_read_letter (hr.mono (by first | decide | omega)) T.b_Reader_read_letter .nil pass0 (pa_cons (pv 1) pa_nil)) pa_nil)))))
      (pss_one (ps_ret (pe_callTy (kTUPLE (K := K) rfl) (by rfl) T.g_tuple boot_tuple (pa_cons (pe_lc rfl sc_Reader_read_pairs.nd (pi_range3 (by rfl) T.g_range (pa_cons pe_int (pa_cons (pe_callB (kLEN (K := K) rfl) (by rfl) T.g_len boot_len (pa_cons (pv 1) pa_nil)) (pa_cons pe_int pa_nil)))) (own := [("index", 3)]) (@BlkOk.mk N_Reader_read_pairs (defScope s_Reader_read_pairs) _ _ rfl (by decide +kernel) (by decide +kernel) (by decide +kernel) (by decide +kernel)) (fun _ _ _ _ _ => (pg_name (i := 3) sc_Reader_read_pairs.nd rfl (by first | exact Or.inl rfl | exact Or.inr rfl))) (fun _ _ _ _ _ => pts_nil) (fun _ _ _ _ _ => (pe_op (kADD (K := K) rfl) (pe_ix (kIX (K := K) rfl) (pv 1) (pv 3) (fun _ _ => rfl)) (pe_ix (kIX (K := K) rfl) (pv 1) (pe_op (kADD (K := K) rfl) (pv 3) pe_int) (fun _ _ => rfl))))) pa_nil)))))), ?_⟩
  rintro _ F ms Q Ea ⟨i, j, r, l, p, xs, rest, ps, rfl, hi0, hj0, hd0, p1, p2, p3, hx, q⟩
  have hil : i < ms.length := (List.getElem?_eq_some_iff.mp hi0).1
  obtain ⟨hp, hd1⟩ := drop_get hd0
  have fl : (flat ps).length = 2 * ps.length := flat_len ps
  have hat : ∀ n c, (flat ps)[n]? = some c → xs[p + 1 + n]? = some (ix c : Int) := fun n c h => by
    rw [← List.getElem?_drop, hd1, List.getElem?_append_left (by rw [List.length_map]; exact (List.getElem?_eq_some_iff.mp h).1), List.getElem?_map, h]
    rfl
  walk_at "al"
  refine ae_lstO ?_
  walk_at "al"
  refine ⟨by simp, fun u => ?_⟩
  walk_at "al"
  refine as_for ?_
  refine ai_rng1 ?_
  walk_at "al"
  refine ae_meth ?_
  walk_at "al"
  refine ⟨r, _, rfl, .inr ⟨i + 1, hi0⟩, rO_no (by decide +kernel) (by decide +kernel), ?_⟩
  walk_at "al"
  refine ⟨i + 1, j + 1, r, l, p, xs, 0, 10, _, rfl, hi0, hj0, hp, by omega, by omega, hx, ?_⟩
  refine ar_MULi (.inl ⟨by decide, by decide⟩) ?_
  walk_at "al"
  refine ⟨_, rfl, by omega, by omega, fun n F' ms' S' => ms' = (u, .lst (((flat ps).take n).map sg |>.map D.str)) :: ms.set i (r, rO T.c_Reader l (p + 1 + n)) ∧ ∃ a b, S' = [some (.ref r), some (.ref u), a, b], ⟨rfl, none, none, rfl⟩, fun _ _ _ _ _ _ => trivial, ?_, ?_⟩
  · rintro n d F' ms' S' e hd ⟨rfl, a, b, rfl⟩ F'' e''
    obtain ⟨hn, rfl⟩ := range_at hd
    have hn2 : n < (flat ps).length := by omega
    have hi1 : ((u, MO.lst (((flat ps).take n).map sg |>.map D.str)) :: ms.set i (r, rO T.c_Reader l (p + 1 + n)))[i + 1]? = some (r, rO T.c_Reader l (p + 1 + n)) := set_get hil
    have hj1 : ((u, MO.lst (((flat ps).take n).map sg |>.map D.str)) :: ms.set i (r, rO T.c_Reader l (p + 1 + n)))[j + 1]? = some (l, .lst (xs.map D.int)) := ne_set hi0 hj0
    refine ag_name ?_
    walk_at "al"
    refine ae_bmL ?_
    walk_at "al"
    refine ⟨_, .inr ⟨0, u, rfl, rfl⟩, ?_⟩
    walk_at "al"
    refine ae_meth ?_
    walk_at "al"
    refine ⟨r, _, rfl, .inr ⟨i + 1, hi1⟩, rO_no (by decide +kernel) (by decide +kernel), ?_⟩
    walk_at "al"
    refine ⟨i + 1, j + 1, 0, r, l, u, p + 1 + n, xs, _, (flat ps)[n], rfl, hi1, hj1, rfl, hat n _ (List.getElem?_eq_getElem hn2), p2 _ (List.getElem_mem hn2), take_new p3 hn2, hx, ?_⟩
    walk_at "al"
    refine am_append 0 (l := u) rfl ?_ ?_
    · rw [List.length_map, List.length_map, List.length_take]; omega
    refine ⟨?_, _, _, rfl⟩
    show (u, MO.lst _) :: (ms.set i _).set i _ = _
    rw [set_set, List.take_succ, List.getElem?_eq_getElem hn2, List.map_append, List.map_append]
    rfl
  · rintro F' ms' S' e ⟨rfl, a, b, rfl⟩
    rw [range_len, show (2 * (ps.length : Int)).toNat = 2 * ps.length by omega, ← fl, List.take_length]
    refine as_ret (ae_dropm ?_)
    walk_at "al"
    refine ae_lc (gw_name (by simp)) gm_name ?_
    refine ai_rng3 ?_
    walk_at "al"
    refine ac_lenO 0 (l := u) rfl ?_
    rw [List.length_map, List.length_map, fl]
    walk_at "al"
    refine ⟨0, _, 2, ps.length, rfl, by have := rgc2 p1; simpa using this, fun n F' ms' acc => ms' = (u, .lst ((flat ps).map sg |>.map D.str)) :: ms.set i (r, rO T.c_Reader l (p + 1 + 2 * ps.length)) ∧ acc = (ps.take n).map pD, ⟨rfl, rfl⟩, fun _ _ _ _ _ _ => trivial, ?_, ?_⟩
    · rintro n d F3 ms3 acc e3 hd ⟨rfl, rfl⟩ F4 e4
      obtain ⟨hn, rfl⟩ := rangeC_at hd
      obtain ⟨f1, f2⟩ := flat_get (List.getElem?_eq_getElem hn)
      refine ag_name ?_
      walk_at "al"
      refine ar_ixO 0 (l := u) rfl (atI_of (j := 2 * n) (d := .str (sg ps[n].1)) (by omega) (by rw [List.getElem?_map, List.getElem?_map, f1]; rfl)) ?_
      walk_at "al"
      refine ar_ixO 0 (l := u) rfl (atI_of (j := 2 * n + 1) (d := .str (sg ps[n].2)) (by omega) (by rw [List.getElem?_map, List.getElem?_map, f2]; rfl)) ?_
      refine ar_ADDs (by show 1 + 1 ≤ 100000; decide) ?_
      refine ⟨by rw [List.length_map, List.length_take]; omega, rfl, ?_⟩
      rw [List.take_succ, List.getElem?_eq_getElem hn, List.map_append]
      rfl
    · rintro F3 ms3 acc e3 ⟨rfl, rfl⟩ F4 e4
      rw [rangeC_len, List.take_length]
      walk_at "al"
      refine ac_tupleL (.inl rfl) fun F5 e5 => ?_
      exact ⟨0, Nat.zero_lt_succ _, q F5 (((e.trans e3).trans e4).trans e5)⟩
theorem ok_Reader_read_text (T : Txt K mg) (G_Reader_read_byte : OK_Reader_read_byte P w base T) : OK_Reader_read_text P w base T := by
  refine fn_ok T.F_Reader_read_text sc_Reader_read_text (by rintro _ _ _ _ _ ⟨i, j, r, l, p, xs, rest, w, t, rfl, _⟩; rfl) (fun cdv A outer s H E hr => ?_)
  have hu64 := hr.units
  refine ⟨_, (pss_cons (ps_set (i := 2) sc_Reader_read_text.nd rfl (by first | exact Or.inl rfl | exact Or.inr rfl) (pe_meth (pv 0) T.k_Reader T.Me_Reader_read_byte G_Reader_read_byte (hr.mono (by first | decide | omega)) T.b_Reader_read_byte .nil pass0 (pa_cons pe_int (pa_cons (pv 1) pa_nil))))
      (pss_cons (ps_set (i := 3) sc_Reader_read_text.nd rfl (by first | exact Or.inl rfl | exact Or.inr rfl) (pe_lst pa_nil))
      (pss_cons (ps_for PassesOwn.never rfl (pi_range1 (by rfl) T.g_range (pa_cons (pv 2) pa_nil)) (pg_name (i := 4) sc_Reader_read_text.nd rfl (by first | exact Or.inl rfl | exact Or.inr rfl)) (pss_cons (ps_set (i := 5) sc_Reader_read_text.nd rfl (by first | exact Or.inl rfl | exact Or.inr rfl) (pe_ifExp (pt_chain op_lt op_lt pe_int (pv 4) (pe_op op_sub (pv 2) pe_int)) (pe_callB (kLEN (K := K) rfl) (by rfl) T.g_len boot_len (pa_cons (pe_glob (by rfl) T.m_LETTERS T.r_LETTERS) pa_nil)) (pe_op op_sub (pe_callB (kLEN (K := K) rfl) (by rfl) T.g_len boot_len (pa_cons (pe_glob (by rfl) T.m_LETTERS T.r_LETTERS) pa_nil)) pe_int)))
      (pss_one (ps_expr (pe_bmk (K := K) rfl PySem.F.plainAttrs_list PySem.F.slot_list_append PySem.F.type_list_append mt_append (pv 3) (pa_cons (pe_ix (kIX (K := K) rfl) (pe_glob (by rfl) T.m_SIGNS T.r_SIGNS) (pe_meth (pv 0) T.k_Reader T.Me_Reader_read_byte G_Reader_read_byte (hr.mono (by first | decide | omega)) T.b_Reader_read_byte .nil pass0 (pa_cons pe_int (pa_cons (pv 5) pa_nil))) (fun _ _ => rfl)) pa_nil))))))
      (pss_one (ps_ret (pe_bmk (K := K) rfl PySem.F.plainAttrs_str PySem.F.slot_str_join PySem.F.type_str_join (kJOIN (K := K) rfl) pe_str (pa_cons (pv 3) pa_nil))))))), ?_⟩
  rintro _ F ms Q Ea ⟨i, j, r, l, p, xs, rest, w, t, rfl, hi0, hj0, hd0, ⟨t1, t2, t3, ⟨a, ha, haL⟩, ⟨b, hb, hbL⟩⟩, w2, hx, q⟩
  have hil : i < ms.length := (List.getElem?_eq_some_iff.mp hi0).1
  have tlen : t.cps.toList.length = t.length := rfl
  obtain ⟨hp, hd1⟩ := drop_get (show xs.drop p = (t.length : Int) :: (t.cps.toList.map (fun c => (ix c : Int)) ++ rest) from hd0)
  have hat : ∀ n c, t.cps.toList[n]? = some c → xs[p + 1 + n]? = some (ix c : Int) := fun n c h => by
    rw [← List.getElem?_drop, hd1, List.getElem?_append_left (by rw [List.length_map]; exact (List.getElem?_eq_some_iff.mp h).1), List.getElem?_map, h]
    rfl
  walk_at "al"
  refine ae_meth ?_
  walk_at "al"
  refine ⟨r, _, rfl, .inr ⟨i, hi0⟩, rO_no (by decide +kernel) (by decide +kernel), ?_⟩
  walk_at "al"
  refine ⟨i, j, r, l, p, xs, 1, w, _, rfl, hi0, hj0, hp, t1, t2, hx, ?_⟩
  walk_at "al"
  refine ae_lstO ?_
  walk_at "al"
  refine ⟨by simp, fun u => ?_⟩
  walk_at "al"
  refine as_for ?_
  refine ai_rng1 ?_
  walk_at "al"
  refine ⟨_, rfl, by omega, by omega, fun n F' ms' S' => ms' = (u, .lst ((t.cps.toList.take n).map sg |>.map D.str)) :: ms.set i (r, rO T.c_Reader l (p + 1 + n)) ∧ ∃ a b, S' = [some (.ref r), some (.int w), some (.int (t.length : Int)), some (.ref u), a, b], ⟨rfl, none, none, rfl⟩, fun _ _ _ _ _ _ => trivial, ?_, ?_⟩
  · rintro n d F' ms' S' e hd ⟨rfl, a', b', rfl⟩ F'' e''
    obtain ⟨hn, rfl⟩ := range_at hd
    have hn2 : n < t.cps.toList.length := by omega
    obtain ⟨c, hc⟩ : ∃ c, t.cps.toList[n]? = some c := ⟨_, List.getElem?_eq_getElem hn2⟩
    obtain ⟨_, s2, s3, s4⟩ := SG_all c (SG_32 (t3 c (List.mem_of_getElem? hc)))
    have hi1 : ((u, MO.lst ((t.cps.toList.take n).map sg |>.map D.str)) :: ms.set i (r, rO T.c_Reader l (p + 1 + n)))[i + 1]? = some (r, rO T.c_Reader l (p + 1 + n)) := set_get hil
    have hj1 : ((u, MO.lst ((t.cps.toList.take n).map sg |>.map D.str)) :: ms.set i (r, rO T.c_Reader l (p + 1 + n)))[j + 1]? = some (l, .lst (xs.map D.int)) := ne_set hi0 hj0
    have edge : ¬ (0 < n ∧ (n : Int) < (t.length : Int) - 1) → ix c ≤ 35 := fun h => by
      refine (s4 (inL_ne ?_)).1
      by_cases h0 : n = 0
      · subst h0
        rw [ha] at hc
        cases hc
        exact haL
      · have : n = t.length - 1 := by omega
        subst this
        rw [hb] at hc
        cases hc
        exact hbL
    refine ag_name ?_
    walk_at "al"
    have fin : ∀ (h : Int) (S' : Sg), (ix c : Int) ≤ h → S'[0]? = some (some (.ref r)) → S'[3]? = some (some (.ref u)) → S'[5]? = some (some (.int h)) → True := fun _ _ _ _ _ _ => trivial
    by_cases h0 : 0 < n
    · refine and_dT (by omega) ?_
      walk_at "al"
      by_cases h1 : (n : Int) < (t.length : Int) - 1
      · refine and_dT (by omega) ?_
        walk_at "al"
        refine ac_lenS (z := LET) (by decide +kernel) ?_
        walk_at "al"
        refine ae_bmL ?_
        walk_at "al"
        refine ⟨_, .inr ⟨0, u, rfl, rfl⟩, ?_⟩
        walk_at "al"
        refine ae_meth ?_
        walk_at "al"
        refine ⟨r, _, rfl, .inr ⟨i + 1, hi1⟩, rO_no (by decide +kernel) (by decide +kernel), ?_⟩
        walk_at "al"
        refine ⟨i + 1, j + 1, r, l, p + 1 + n, xs, 0, _, _, rfl, hi1, hj1, hat n c hc, by omega, by rw [show LET.length = 36 by decide +kernel]; omega, hx, ?_⟩
        refine ar_ixS (z := SG) (c := c) (by decide +kernel) (atI_of rfl s2) ?_
        walk_at "al"
        refine am_append 0 (l := u) rfl ?_ ?_
        · rw [List.length_map, List.length_map, List.length_take]; omega
        refine ⟨?_, _, _, rfl⟩
        show (u, MO.lst _) :: (ms.set i _).set i _ = _
        rw [set_set, List.take_succ, hc, List.map_append, List.map_append]
        rfl
      · refine and_dF (by omega) ?_
        have he := edge (fun z => h1 z.2)
        walk_at "al"
        refine ac_lenS (z := LET) (by decide +kernel) ?_
        walk_at "al"
        refine ae_bmL ?_
        walk_at "al"
        refine ⟨_, .inr ⟨0, u, rfl, rfl⟩, ?_⟩
        walk_at "al"
        refine ae_meth ?_
        walk_at "al"
        refine ⟨r, _, rfl, .inr ⟨i + 1, hi1⟩, rO_no (by decide +kernel) (by decide +kernel), ?_⟩
        walk_at "al"
        refine ⟨i + 1, j + 1, r, l, p + 1 + n, xs, 0, _, _, rfl, hi1, hj1, hat n c hc, by omega, by rw [show LET.length = 36 by decide +kernel]; omega, hx, ?_⟩
        refine ar_ixS (z := SG) (c := c) (by decide +kernel) (atI_of rfl s2) ?_
        walk_at "al"
        refine am_append 0 (l := u) rfl ?_ ?_
        · rw [List.length_map, List.length_map, List.length_take]; omega
        refine ⟨?_, _, _, rfl⟩
        show (u, MO.lst _) :: (ms.set i _).set i _ = _
        rw [set_set, List.take_succ, hc, List.map_append, List.map_append]
        rfl
    · refine and_dF (by omega) ?_
      have he := edge (fun z => h0 z.1)
      walk_at "al"
      refine ac_lenS (z := LET) (by decide +kernel) ?_
      walk_at "al"
      refine ae_bmL ?_
      walk_at "al"
      refine ⟨_, .inr ⟨0, u, rfl, rfl⟩, ?_⟩
      walk_at "al"
      refine ae_meth ?_
      walk_at "al"
      refine ⟨r, _, rfl, .inr ⟨i + 1, hi1⟩, rO_no (by decide +kernel) (by decide +kernel), ?_⟩
      walk_at "al"
      refine ⟨i + 1, j + 1, r, l, p + 1 + n, xs, 0, _, _, rfl, hi1, hj1, hat n c hc, by omega, by rw [show LET.length = 36 by decide +kernel]; omega, hx, ?_⟩
      refine ar_ixS (z := SG) (c := c) (by decide +kernel) (atI_of rfl s2) ?_
      walk_at "al"
      refine am_append 0 (l := u) rfl ?_ ?_
      · rw [List.length_map, List.length_map, List.length_take]; omega
      refine ⟨?_, _, _, rfl⟩
      show (u, MO.lst _) :: (ms.set i _).set i _ = _
      rw [set_set, List.take_succ, hc, List.map_append, List.map_append]
      rfl
  · rintro F' ms' S' e ⟨rfl, a', b', rfl⟩
    rw [range_len, show ((t.length : Nat) : Int).toNat = t.length by omega, ← tlen, List.take_length]
    refine as_frz (i := 3) (l := u) 0 rfl rfl fun F3 e3 => ?_
    walk_at "al"
    refine ae_bmS ?_
    walk_at "al"
    refine am_join (ys := t.cps.toList.map sg) (.inl (.inl rfl)) ?_ ?_
    · have : ((t.cps.toList.map sg).map (·.length)).sum = t.cps.toList.length := by
        rw [List.map_map]
        exact sum_ones _
      have e0 : (Str.ofString "").length = 0 := rfl
      rw [this, List.length_map, e0]
      omega
    rw [join_sg]
    exact q F3 (e.trans e3)
end
theorem cutL_take {α : Type} {xs : List α} {p : Nat} (h : p ≤ xs.length) : cutL xs none (some (p : Int)) = xs.take p := by
  have e1 : HT.sIx xs.length 0 none = 0 := rfl
  have e2 : HT.sIx xs.length xs.length (some (p : Int)) = p := by rw [HT.sIx_nat]; omega
  unfold cutL
  rw [e1, e2, List.drop_zero, Nat.sub_zero]
section
variable {P : Program} {w : World} {K : Frg} {mg : Str → Option Value} {base : Heap}
theorem ok_decode (T : Txt K mg) (G_Sign___init__ : OK_Sign___init__ P w base T) (G_Reader___init__ : OK_Reader___init__ P w base T) (G_Reader_read_byte : OK_Reader_read_byte P w base T) (G_Reader_read_pairs : OK_Reader_read_pairs P w base T) (G_Reader_read_text : OK_Reader_read_text P w base T) : OK_decode P w base T := by
  refine fn_ok T.F_decode sc_decode (by rintro _ _ _ _ _ ⟨j, l, w, ps, ts, rfl, _⟩; rfl) (fun cdv A outer s H E hr => ?_)
  have hu64 := hr.units
  refine ⟨_, (pss_cons (ps_if (pt_not (pt_val (pe_callB (kISI (K := K) rfl) (by rfl) T.g_isinstance boot_isinstance (pa_cons (pv 0) (pa_cons (pe_bltn (v := .ty "list") (by rfl) T.g_list boot_list rfl) pa_nil))))) (pss_one ps_never) pss_nil)
      (pss_cons (ps_set (i := 1) sc_decode.nd rfl (by first | exact Or.inl rfl | exact Or.inr rfl) (pe_make T.M_Reader G_Reader___init__ (hr.mono (by first | decide | omega)) (by rfl) T.m_Reader T.b_Reader___init__ .nil pass0 (pa_cons (pv 0) pa_nil)))
      (pss_cons (ps_expr (pe_meth (pv 1) T.k_Reader T.Me_Reader_read_byte G_Reader_read_byte (hr.mono (by first | decide | omega)) T.b_Reader_read_byte .nil pass0 (pa_cons (pe_glob (by rfl) T.m_TAG T.r_TAG) (pa_cons (pe_glob (by rfl) T.m_TAG T.r_TAG) pa_nil))))
      (pss_cons (ps_set (i := 2) sc_decode.nd rfl (by first | exact Or.inl rfl | exact Or.inr rfl) (pe_meth (pv 1) T.k_Reader T.Me_Reader_read_byte G_Reader_read_byte (hr.mono (by first | decide | omega)) T.b_Reader_read_byte .nil pass0 (pa_cons pe_int (pa_cons (pe_glob (by rfl) T.m_MAX_WIDTH T.r_MAX_WIDTH) pa_nil))))
      (pss_cons (ps_set (i := 3) sc_decode.nd rfl (by first | exact Or.inl rfl | exact Or.inr rfl) (pe_make T.M_Sign G_Sign___init__ (hr.mono (by first | decide | omega)) (by rfl) T.m_Sign T.b_Sign___init__ .nil pass0 (pa_cons (pv 2) (pa_cons (pe_meth0 (pv 1) T.k_Reader T.Me_Reader_read_pairs G_Reader_read_pairs (hr.mono (by first | decide | omega)) T.b_Reader_read_pairs .nil pass0 ) pa_nil))))
      (pss_cons (ps_set (i := 4) sc_decode.nd rfl (by first | exact Or.inl rfl | exact Or.inr rfl) (pe_callTy (kTUPLE (K := K) rfl) (by rfl) T.g_tuple boot_tuple (pa_cons (pe_lc rfl sc_decode.nd (pi_range1 (by rfl) T.g_range (pa_cons (pe_meth (pv 1) T.k_Reader T.Me_Reader_read_byte G_Reader_read_byte (hr.mono (by first | decide | omega)) T.b_Reader_read_byte .nil pass0 (pa_cons pe_int (pa_cons (pe_glob (by rfl) T.m_MAX_TEXTS T.r_MAX_TEXTS) pa_nil))) pa_nil)) (own := [("index", 5)]) (@BlkOk.mk N_decode (defScope s_decode) _ _ rfl (by decide +kernel) (by decide +kernel) (by decide +kernel) (by decide +kernel)) (fun _ _ _ _ _ => (pg_name (i := 5) sc_decode.nd rfl (by first | exact Or.inl rfl | exact Or.inr rfl))) (fun _ _ _ _ _ => pts_nil) (fun _ _ _ _ _ => (pe_meth (pv 1) T.k_Reader T.Me_Reader_read_text G_Reader_read_text (hr.mono (by first | decide | omega)) T.b_Reader_read_text .nil pass0 (pa_cons (pv 2) pa_nil)))) pa_nil)))
      (pss_cons (ps_set (i := 6) sc_decode.nd rfl (by first | exact Or.inl rfl | exact Or.inr rfl) (pe_op op_mod (pe_callB (kSUM (K := K) rfl rfl) (by rfl) T.g_sum boot_sum (pa_cons (pe_slice (kSLC (K := K) rfl) (pv 0) po_none (po_some (pe_fldk (K := K) rfl (pv 1) (by rfl)))) pa_nil)) (pe_glob (by rfl) T.m_BYTE T.r_BYTE)))
      (pss_cons (ps_expr (pe_meth (pv 1) T.k_Reader T.Me_Reader_read_byte G_Reader_read_byte (hr.mono (by first | decide | omega)) T.b_Reader_read_byte .nil pass0 (pa_cons (pv 6) (pa_cons (pv 6) pa_nil))))
      (pss_cons (ps_if (pt_cmpR op_lt (pe_fldk (K := K) rfl (pv 1) (by rfl)) (pe_callB (kLEN (K := K) rfl) (by rfl) T.g_len boot_len (pa_cons (pv 0) pa_nil)) (nomark _)) (pss_one ps_never) pss_nil)
      (pss_one (ps_ret (pe_tup (pa_cons (pv 3) (pa_cons (pv 4) pa_nil)))))))))))))), ?_⟩
  rintro _ F ms Q Ea ⟨j, l, w, ps, ts, rfl, hj, ⟨w1, w2, p1, p2, p3, t1, t2, ht⟩, q⟩
  have hb := len_body (w := w) (ps := ps) (n := ts.length) p1 (fun t h => (ht t h).2.1) w2 t2
  have hlen : (codeI w ps ts).length = (bodyI w ps ts).length + 1 := by unfold codeI; rw [List.length_append]; rfl
  have hb' : (bodyI w ps ts).length ≤ 400 := hb
  have fl : (flat ps).length = 2 * ps.length := flat_len ps
  have hcode : codeI w ps ts = 77 :: w :: (ps.length : Int) :: ((flat ps).map (fun c => (ix c : Int)) ++ ((ts.length : Int) :: (ts.flatMap tI ++ [(bodyI w ps ts).sum % 256]))) := by
    have gen : ∀ s : Int, bodyI w ps ts ++ [s] = 77 :: w :: (ps.length : Int) :: ((flat ps).map (fun c => (ix c : Int)) ++ ((ts.length : Int) :: (ts.flatMap tI ++ [s]))) := by
      intro s
      unfold bodyI hdI
      simp
    exact gen _
  have hblen : (bodyI w ps ts).length = 4 + 2 * ps.length + (ts.flatMap tI).length := by
    unfold bodyI hdI
    rw [List.length_append, List.length_append, List.length_append, List.length_map, fl]
    show 3 + 2 * ps.length + 1 + _ = _
    omega
  have hlast : (codeI w ps ts)[(bodyI w ps ts).length]? = some ((bodyI w ps ts).sum % 256) := by
    unfold codeI
    rw [List.getElem?_append_right (Nat.le_refl _), Nat.sub_self]
    rfl
  have htake : (codeI w ps ts).take (bodyI w ps ts).length = bodyI w ps ts := by unfold codeI; rw [List.take_append_of_le_length (Nat.le_refl _), List.take_length]
  have hd3 : (codeI w ps ts).drop 3 = (flat ps).map (fun c => (ix c : Int)) ++ ((ts.length : Int) :: (ts.flatMap tI ++ [(bodyI w ps ts).sum % 256])) := by rw [hcode]; rfl
  have hd2 : (codeI w ps ts).drop 2 = (ps.length : Int) :: ((flat ps).map (fun c => (ix c : Int)) ++ ((ts.length : Int) :: (ts.flatMap tI ++ [(bodyI w ps ts).sum % 256]))) := by rw [hcode]; rfl
  have g0 : (codeI w ps ts)[0]? = some 77 := by rw [hcode]; rfl
  have g1 : (codeI w ps ts)[1]? = some w := by rw [hcode]; rfl
  have hdn : (codeI w ps ts).drop (2 + 1 + 2 * ps.length) = (ts.length : Int) :: (ts.flatMap tI ++ [(bodyI w ps ts).sum % 256]) := by
    rw [show 2 + 1 + 2 * ps.length = 3 + (flat ps).length by omega, ← List.drop_drop, hd3]
    rw [List.drop_append_of_le_length (by rw [List.length_map]; exact Nat.le_refl _), List.drop_of_length_le (by rw [List.length_map]; exact Nat.le_refl _)]
    rfl
  obtain ⟨gn, hdt⟩ := drop_get hdn
  generalize hxs : codeI w ps ts = xs at *
  generalize hbs : bodyI w ps ts = bs at *
  have hx : xs.length ≤ 5000 := by omega
  walk_at "al"
  refine isiO_list j hj ?_
  walk_at "al"
  refine ae_make (dds := []) (fun _ => .nil) ?_
  walk_at "al"
  intro r F1 e1
  refine ⟨r, l, _, rfl, rfl, rfl, ?_⟩
  walk_at "al"
  refine ae_meth ?_
  walk_at "al"
  refine ⟨r, _, rfl, .inr ⟨0, rfl⟩, rO_no (by decide +kernel) (by decide +kernel), ?_⟩
  walk_at "al"
  refine ⟨0, j + 1, r, l, 0, xs, 77, 77, 77, rfl, rfl, hj, g0, by omega, by omega, hx, ?_⟩
  walk_at "al"
  refine ae_meth ?_
  walk_at "al"
  refine ⟨r, _, rfl, .inr ⟨0, rfl⟩, rO_no (by decide +kernel) (by decide +kernel), ?_⟩
  walk_at "al"
  refine ⟨0, j + 1, r, l, 1, xs, 1, 24, w, rfl, rfl, hj, g1, w1, w2, hx, ?_⟩
  walk_at "al"
  refine ae_make (dds := []) (fun _ => .nil) ?_
  walk_at "al"
  refine ae_meth ?_
  walk_at "al"
  refine ⟨r, _, rfl, .inr ⟨0, rfl⟩, rO_no (by decide +kernel) (by decide +kernel), ?_⟩
  walk_at "al"
  refine ⟨0, j + 1, r, l, 2, xs, _, ps, rfl, rfl, hj, hd2, p1, p2, p3, hx, fun F2 e2 => ?_⟩
  walk_at "al"
  intro x F3 e3
  refine ⟨x, w, ps, _, rfl, w1, w2, p1, p2, p3, rfl, fun m F4 e4 => ⟨rfl, ?_⟩⟩
  walk_at "al"
  refine ae_lc (gw_name (by simp)) gm_name ?_
  refine ai_rng1 ?_
  walk_at "al"
  refine ae_meth ?_
  walk_at "al"
  refine ⟨r, _, rfl, .inr ⟨2, rfl⟩, rO_no (by decide +kernel) (by decide +kernel), ?_⟩
  walk_at "al"
  refine ⟨2, j + 3, r, l, 2 + 1 + 2 * ps.length, xs, 1, 12, _, rfl, rfl, hj, gn, by omega, by omega, hx, ?_⟩
  walk_at "al"
  refine ⟨_, rfl, by omega, by omega, fun n F' ms' acc => ms' = (m, .dic (kvsOf ps)) :: (x, .ins T.c_Sign (fldS m w ps)) :: (r, rO T.c_Reader l (2 + 1 + 2 * ps.length + 1 + ((ts.take n).flatMap tI).length)) :: ms ∧ acc = (ts.take n).map D.str, ⟨rfl, rfl⟩, fun _ _ _ _ _ _ => trivial, ?_, ?_⟩
  · rintro n d F5 ms5 acc e5 hd ⟨rfl, rfl⟩ F6 e6
    obtain ⟨hn, rfl⟩ := range_at hd
    have hn2 : n < ts.length := by omega
    refine ag_name ?_
    walk_at "al"
    refine ae_meth ?_
    walk_at "al"
    refine ⟨r, _, rfl, .inr ⟨2, rfl⟩, rO_no (by decide +kernel) (by decide +kernel), ?_⟩
    walk_at "al"
    have hsplit : ts.flatMap tI = (ts.take n).flatMap tI ++ (tI ts[n] ++ (ts.drop (n + 1)).flatMap tI) := by
      conv => lhs; rw [show ts = ts.take n ++ ts[n] :: ts.drop (n + 1) by rw [List.getElem_cons_drop, List.take_append_drop]]
      rw [List.flatMap_append, List.flatMap_cons]
    have hdp : xs.drop (2 + 1 + 2 * ps.length + 1 + ((ts.take n).flatMap tI).length) = tI ts[n] ++ ((ts.drop (n + 1)).flatMap tI ++ [bs.sum % 256]) := by
      rw [← List.drop_drop, hdt, hsplit, List.append_assoc, List.drop_append_of_le_length (Nat.le_refl _), List.drop_of_length_le (Nat.le_refl _), List.append_assoc]
      rfl
    refine ⟨2, j + 3, r, l, _, xs, _, w, ts[n], rfl, rfl, hj, hdp, ht _ (List.getElem_mem hn2), w2, hx, fun F7 e7 => ?_⟩
    refine ⟨by rw [List.length_map, List.length_take]; omega, ?_, ?_⟩
    · rw [List.take_succ, List.getElem?_eq_getElem hn2]
      have el : (tI ts[n]).length = 1 + ts[n].length := by unfold tI; rw [List.length_cons, List.length_map]; show ts[n].length + 1 = _; omega
      have e9 : (List.flatMap tI (ts.take n ++ (some ts[n]).toList)).length = ((ts.take n).flatMap tI).length + (1 + ts[n].length) := by
        rw [List.flatMap_append, List.length_append]
        show _ + (tI ts[n] ++ []).length = _
        rw [List.append_nil, el]
      rw [e9]
      show _ :: _ :: (r, rO T.c_Reader l _) :: ms = _
      rw [show 2 + 1 + 2 * ps.length + 1 + ((ts.take n).flatMap tI).length + 1 + ts[n].length = 2 + 1 + 2 * ps.length + 1 + (((ts.take n).flatMap tI).length + (1 + ts[n].length)) by omega]
    · rw [List.take_succ, List.getElem?_eq_getElem hn2, List.map_append]
      rfl
  · rintro F5 ms5 acc e5 ⟨rfl, rfl⟩ F6 e6
    rw [range_len, show ((ts.length : Nat) : Int).toNat = ts.length by omega, List.take_length]
    rw [show 2 + 1 + 2 * ps.length + 1 + (ts.flatMap tI).length = bs.length by omega]
    walk_at "al"
    refine ac_tupleL (.inl rfl) fun F7 e7 => ?_
    walk_at "al"
    refine ae_sl ?_
    walk_at "al"
    refine ao_none ?_
    refine ao_some ?_
    refine ae_fld ?_
    walk_at "al"
    refine ⟨r, T.c_Reader, _, .int (bs.length : Int), rfl, .inr ⟨2, rfl⟩, T.k_Reader, T.n_Reader_spot, rfl, ?_⟩
    refine ⟨_, rfl, ?_⟩
    refine sl_L (.inr ⟨j + 3, l, rfl, hj⟩) fun F8 e8 => ?_
    rw [cutL_take (by rw [List.length_map]; omega), ← List.map_take, htake]
    walk_at "al"
    refine ac_sumL (ns := bs) ?_
    walk_at "al"
    refine ar_modI (by decide) ?_
    walk_at "al"
    refine ae_meth ?_
    walk_at "al"
    refine ⟨r, _, rfl, .inr ⟨2, rfl⟩, rO_no (by decide +kernel) (by decide +kernel), ?_⟩
    walk_at "al"
    refine ⟨2, j + 3, r, l, bs.length, xs, _, _, _, rfl, rfl, hj, hlast, by omega, by omega, hx, ?_⟩
    walk_at "al"
    refine ae_fld ?_
    walk_at "al"
    refine ⟨r, T.c_Reader, _, .int ((bs.length + 1 : Nat) : Int), rfl, .inr ⟨2, rfl⟩, T.k_Reader, T.n_Reader_spot, rfl, ?_⟩
    walk_at "al"
    refine ac_lenO (j + 3) (l := l) hj ?_
    rw [List.length_map]
    walk_at "al"
    refine and_dF (by omega) ?_
    walk_at "al"
    refine ae_tup ?_
    walk_at "al"
    refine ⟨by simp, fun F9 e9 => ?_⟩
    exact q F9 x m r _ (((((((((e1.trans e2).trans e3).trans e4).trans e5).trans e6).trans e7).trans e8)).trans e9)
end

theorem lt1 {a b : Nat} : (sg a).cps.toList < (sg b).cps.toList ↔ a < b := by
  show ([a] : List Nat) < [b] ↔ a < b
  rw [List.cons_lt_cons_iff]
  simp
theorem minS_comm (a b : Nat) : minS (sg a) (sg b) = minS (sg b) (sg a) := by
  unfold minS
  rcases Nat.lt_trichotomy a b with h | h | h
  · rw [if_neg (fun z => by have := lt1.mp z; omega), if_pos (lt1.mpr h)]
  · subst h; rfl
  · rw [if_pos (lt1.mpr h), if_neg (fun z => by have := lt1.mp z; omega)]
theorem minS_self (a : Nat) : minS (sg a) (sg a) = sg a := by unfold minS; split <;> rfl
theorem minS_min (a b : Nat) : minS (sg a) (sg b) = sg (min a b) := by
  unfold minS
  by_cases h : b < a
  · rw [if_pos (lt1.mpr h), Nat.min_eq_right (Nat.le_of_lt h)]
  · rw [if_neg (fun z => h (lt1.mp z)), Nat.min_eq_left (Nat.le_of_not_lt h)]
theorem pieceS_pc (ps : List Pr) (c : Nat) : pieceS ps c = sg (pc ps c) := by
  unfold pieceS pc
  cases ps.find? fun p => c = p.1 ∨ c = p.2 with
  | none => rfl
  | some p => exact minS_min _ _
theorem sg_inj {a b : Nat} : sg a = sg b ↔ a = b := ⟨fun q => by
  have e : [a] = [b] := congrArg (fun s : Str => s.cps.toList) q
  simpa using e, fun e => by rw [e]⟩
theorem links_at {gs : List Lk} {n : Nat} {d : D} (h : (gs.map lD)[n]? = some d) : ∃ k, gs[n]? = some k ∧ d = lD k := by
  rw [List.getElem?_map] at h
  cases e : gs[n]? with
  | none => rw [e] at h; cases h
  | some p => rw [e] at h; exact ⟨p, rfl, (Option.some.inj h).symm⟩
theorem links_succ (ps : List Pr) (b a : List Nat) (n : Nat) : linksF ps b a (n + 1) = linksF ps b a n ++ (lkAt ps b a n).toList := by
  unfold linksF
  rw [List.range_succ, List.filterMap_append]
  congr 1
theorem links_len (ps : List Pr) (b a : List Nat) (n : Nat) : (linksF ps b a n).length ≤ n := by
  unfold linksF
  exact Nat.le_trans (List.length_filterMap_le ..) (by rw [List.length_range]; exact Nat.le_refl _)
theorem lets_take {gs : List Lk} {n : Nat} {k : Lk} (h : gs[n]? = some k) : letsF (gs.take (n + 1)) = letsF (gs.take n) ++ [k.2.1, k.2.2].filter fun c => decide (c ≠ 32) := by
  unfold letsF
  rw [List.take_succ, h, List.flatMap_append]
  simp
theorem lets_len (gs : List Lk) : (letsF gs).length ≤ 2 * gs.length := by
  induction gs with
  | nil => exact Nat.le_refl _
  | cons k gs ih =>
    show ([k.2.1, k.2.2].filter _ ++ letsF gs).length ≤ _
    rw [List.length_append, List.length_cons]
    have := List.length_filter_le (fun c => decide (c ≠ 32)) [k.2.1, k.2.2]
    have e : ([k.2.1, k.2.2] : List Nat).length = 2 := rfl
    omega
theorem mem_sg {xs : List Nat} {c : Nat} : decide (sg c ∈ xs.map sg) = decide (c ∈ xs) := by
  by_cases h : c ∈ xs
  · rw [decide_eq_true h, decide_eq_true (List.mem_map.mpr ⟨c, h, rfl⟩)]
  · rw [decide_eq_false h, decide_eq_false]
    intro z
    obtain ⟨b, hb, e⟩ := List.mem_map.mp z
    exact h (sg_inj.mp e ▸ hb)
section
variable {P : Program} {w : World} {K : Frg} {mg : Str → Option Value} {base : Heap}
theorem ok_Sign_piece (T : Txt K mg) : OK_Sign_piece P w base T := by
  refine fn_ok T.F_Sign_piece sc_Sign_piece (by rintro _ _ _ _ _ ⟨x, w, ps, c, rfl, _⟩; rfl) (fun cdv A outer s H E hr => ?_)
  have hu64 := hr.units
  refine ⟨_, (pss_one (ps_ret (pe_callB (call_MIN rfl) (by rfl) T.g_min boot_min (pa_cons (pv 1) (pa_cons (pe_dget2 (hu_of hr) (pe_fldk (K := K) rfl (pv 0) (by rfl)) (pv 1) (pv 1) ⟨rfl, rfl, rfl, rfl⟩) pa_nil))))), ?_⟩
  rintro _ F ms Q Ea ⟨x, w, ps, c, rfl, ⟨i, j, m, hi, hj⟩, q⟩
  walk_at "al"
  refine ae_dget2 ?_
  refine ae_fld ?_
  walk_at "al"
  refine ⟨x, T.c_Sign, fldS m w ps, .ref m, rfl, .inr ⟨i, hi⟩, T.k_Sign, T.n_Sign_mates, rfl, ?_⟩
  refine ⟨kvsOf ps, .inr ⟨j, m, rfl, hj⟩, ?_⟩
  walk_at "al"
  refine ⟨kS c, rfl, .inr ⟨j, m, rfl, hj⟩, ?_⟩
  rw [val_kvs]
  unfold pieceS at q
  cases hf : ps.find? fun p => c = p.1 ∨ c = p.2 with
  | none =>
    rw [hf] at q
    show AA _ tNil _ _ _ _
    walk_at "al"
    refine ac_minS (j := sg c) ?_
    rw [minS_self]
    exact q
  | some p =>
    rw [hf] at q
    show AA _ tNil _ _ _ _
    walk_at "al"
    refine ac_minS (j := sg (if c = p.1 then p.2 else p.1)) ?_
    have hp := List.find?_some hf
    simp only [decide_eq_true_eq] at hp
    have e : minS (sg c) (sg (if c = p.1 then p.2 else p.1)) = minS (sg p.1) (sg p.2) := by
      rcases hp with h | h
      · subst h; rw [if_pos rfl]
      · by_cases h1 : c = p.1
        · rw [if_pos h1, ← h1]
        · rw [if_neg h1, h, minS_comm]
    rw [e]
    exact q
theorem ok_links (T : Txt K mg) (G_Sign_piece : OK_Sign_piece P w base T) : OK_links P w base T := by
  refine fn_ok T.F_links sc_links (by rintro _ _ _ _ _ ⟨x, w, ps, b, a, rfl, _⟩; rfl) (fun cdv A outer s H E hr => ?_)
  have hu64 := hr.units
  refine ⟨_, (pss_cons (ps_set (i := 3) sc_links.nd rfl (by first | exact Or.inl rfl | exact Or.inr rfl) (pe_lst pa_nil))
      (pss_cons (ps_for PassesOwn.never rfl (pi_range1 (by rfl) T.g_range (pa_cons (pe_fldk (K := K) rfl (pv 0) (by rfl)) pa_nil)) (pg_name (i := 4) sc_links.nd rfl (by first | exact Or.inl rfl | exact Or.inr rfl)) (pss_cons (ps_par (i := 5) (j := 6) rfl sc_links.nd rfl rfl (by decide) rfl rfl (pa_cons (pe_meth (pv 0) T.k_Sign T.Me_Sign_piece G_Sign_piece (hr.mono (by first | decide | omega)) T.b_Sign_piece .nil pass0 (pa_cons (pe_ix (kIX (K := K) rfl) (pv 1) (pv 4) (fun _ _ => rfl)) pa_nil)) (pa_cons (pe_meth (pv 0) T.k_Sign T.Me_Sign_piece G_Sign_piece (hr.mono (by first | decide | omega)) T.b_Sign_piece .nil pass0 (pa_cons (pe_ix (kIX (K := K) rfl) (pv 2) (pv 4) (fun _ _ => rfl)) pa_nil)) pa_nil)) (by rfl))
      (pss_one (ps_if (pt_cmpR (kNE (K := K) rfl hu64) (pv 5) (pv 6) (nomark _)) (pss_one (ps_expr (pe_bmk (K := K) rfl PySem.F.plainAttrs_list PySem.F.slot_list_append PySem.F.type_list_append mt_append (pv 3) (pa_cons (pe_tup (pa_cons (pv 4) (pa_cons (pv 5) (pa_cons (pv 6) pa_nil)))) pa_nil)))) pss_nil))))
      (pss_one (ps_ret (pv 3))))), ?_⟩
  rintro _ F ms Q Ea ⟨x, w, ps, b, a, rfl, hS, w0, w1, hb, ha, q⟩
  obtain ⟨i, j, m, hi, hj⟩ := id hS
  walk_at "al"
  refine ae_lstO ?_
  walk_at "al"
  refine ⟨by simp, fun l => ?_⟩
  walk_at "al"
  refine as_for ?_
  refine ai_rng1 ?_
  refine aa_cons ?_
  refine ae_fld ?_
  walk_at "al"
  refine ⟨x, T.c_Sign, fldS m w ps, .int w, rfl, .inr ⟨i + 1, hi⟩, T.k_Sign, T.n_Sign_width, rfl, ?_⟩
  walk_at "al"
  refine ⟨w, rfl, by omega, by omega, fun n F' ms' S' => ms' = (l, .lst ((linksF ps b.cps.toList a.cps.toList n).map lD)) :: ms ∧ ∃ e1 e2 e3, S' = [some (.ref x), some (.str b), some (.str a), some (.ref l), e1, e2, e3], ⟨rfl, none, none, none, rfl⟩, fun _ _ _ _ _ _ => trivial, ?_, ?_⟩
  · rintro n d F1 ms1 S1 e1 hd ⟨rfl, a4, a5, a6, rfl⟩ F2 e2
    obtain ⟨hn, rfl⟩ := range_at hd
    have hnb : n < b.cps.toList.length := by have : b.cps.toList.length = b.length := rfl; omega
    have hna : n < a.cps.toList.length := by have : a.cps.toList.length = a.length := rfl; omega
    have hS1 : Sgn T.c_Sign ((l, MO.lst ((linksF ps b.cps.toList a.cps.toList n).map lD)) :: ms) x w ps := ⟨i + 1, j + 1, m, hi, hj⟩
    have ll := links_len ps b.cps.toList a.cps.toList n
    refine ag_name ?_
    walk_at "al"
    refine ae_meth ?_
    walk_at "al"
    refine ⟨x, fldS m w ps, rfl, .inr ⟨i + 1, hi⟩, fld_no (by decide +kernel) (by decide +kernel) (by decide +kernel), ?_⟩
    walk_at "al"
    refine ar_ixS (z := b) (c := b.cps.toList[n]) (by omega) (atI_of (j := n) (by omega) (List.getElem?_eq_getElem hnb)) ?_
    walk_at "al"
    refine ⟨x, w, ps, _, rfl, hS1, ?_⟩
    rw [pieceS_pc]
    walk_at "al"
    refine ae_meth ?_
    walk_at "al"
    refine ⟨x, fldS m w ps, rfl, .inr ⟨i + 1, hi⟩, fld_no (by decide +kernel) (by decide +kernel) (by decide +kernel), ?_⟩
    walk_at "al"
    refine ar_ixS (z := a) (c := a.cps.toList[n]) (by omega) (atI_of (j := n) (by omega) (List.getElem?_eq_getElem hna)) ?_
    walk_at "al"
    refine ⟨x, w, ps, _, rfl, hS1, ?_⟩
    rw [pieceS_pc]
    walk_at "al"
    have gb : b.cps.toList.getD n 0 = b.cps.toList[n] := by rw [List.getD_eq_getElem?_getD, List.getElem?_eq_getElem hnb]; rfl
    have ga : a.cps.toList.getD n 0 = a.cps.toList[n] := by rw [List.getD_eq_getElem?_getD, List.getElem?_eq_getElem hna]; rfl
    by_cases hc : pc ps b.cps.toList[n] = pc ps a.cps.toList[n]
    · refine and_ndT (sg_inj.mpr hc) ?_
      walk_at "al"
      refine ⟨?_, _, _, _, rfl⟩
      rw [links_succ, show lkAt ps b.cps.toList a.cps.toList n = none by unfold lkAt; rw [gb, ga, if_pos hc]]
      simp
    · refine and_ndF (fun z => hc (sg_inj.mp z)) ?_
      walk_at "al"
      refine ae_bmL ?_
      walk_at "al"
      refine ⟨_, .inr ⟨0, l, rfl, rfl⟩, ?_⟩
      walk_at "al"
      refine ae_tup ?_
      walk_at "al"
      refine ⟨by simp, fun F3 e3 => ?_⟩
      walk_at "al"
      refine am_append 0 (l := l) rfl (by rw [List.length_map]; omega) ?_
      refine ⟨?_, _, _, _, rfl⟩
      rw [links_succ, show lkAt ps b.cps.toList a.cps.toList n = some (n, pc ps b.cps.toList[n], pc ps a.cps.toList[n]) by unfold lkAt; rw [gb, ga, if_neg hc]]
      show (l, MO.lst _) :: ms = _
      rw [List.map_append]
      simp [lD]
  · rintro F1 ms1 S1 e1 ⟨rfl, a4, a5, a6, rfl⟩
    rw [range_len]
    refine as_ret (ae_frz ?_)
    walk_at "al"
    exact ⟨0, l, _, rfl, rfl, fun F2 e2 => q F2 (e1.trans e2)⟩
theorem ok_shares (T : Txt K mg) : OK_shares P w base T := by
  refine fn_ok T.F_shares sc_shares (by rintro _ _ _ _ _ ⟨gs, k, rfl, _⟩; rfl) (fun cdv A outer s H E hr => ?_)
  have hu64 := hr.units
  refine ⟨_, (pss_cons (ps_setLc2 (i := 2) rfl sc_shares.nd rfl rfl (by rfl) (pi_listk (K := K) rfl (pv 0)) (own := [("place", 3), ("old", 4), ("new", 5), ("piece", 6)]) (vs1 := [6]) (@BlkOk.mk N_shares (defScope s_shares) _ _ rfl (by decide +kernel) (by decide +kernel) (by decide +kernel) (by decide +kernel)) (by decide) (fun _ _ _ _ _ => (pg_tupk (K := K) (n := 3) rfl rfl (pgs_cons (pg_name (i := 3) sc_shares.nd rfl (by first | exact Or.inl rfl | exact Or.inr rfl)) (pgs_cons (pg_name (i := 4) sc_shares.nd rfl (by first | exact Or.inl rfl | exact Or.inr rfl)) (pgs_cons (pg_name (i := 5) sc_shares.nd rfl (by first | exact Or.inl rfl | exact Or.inr rfl)) pgs_nil))))) (fun _ _ _ _ _ => pts_nil) (fun _ _ _ _ _ => (pi_tupk (K := K) rfl (pe_tup (pa_cons (pv 4) (pa_cons (pv 5) pa_nil))))) (fun _ _ _ _ _ => (pg_name (i := 6) sc_shares.nd rfl (by first | exact Or.inl rfl | exact Or.inr rfl))) (fun _ _ _ _ _ => (pts_one (pt_cmpR (kNE (K := K) rfl hu64) (pv 6) (pe_glob (by rfl) T.m_BLANK T.r_BLANK) (nomark _)))) (fun _ _ _ _ _ => (pv 6)))
      (pss_one (ps_ret (pe_or (pe_cmpR (kIN (K := K) rfl) (pe_ix (kIX (K := K) rfl) (pv 1) pe_int (fun _ _ => rfl)) (pv 2) (by with_unfolding_all rfl)) (pe_one (pe_cmpR (kIN (K := K) rfl) (pe_ix (kIX (K := K) rfl) (pv 1) pe_int (fun _ _ => rfl)) (pv 2) (by with_unfolding_all rfl))))))), ?_⟩
  rintro _ F ms Q Ea ⟨gs, k, rfl, hg, q⟩
  walk_at "al"
  refine ae_lc2 (gw_tup (gws_cons gm_name (gw_name (by simp)) (gws_cons gm_name (gw_name (by simp)) (gws_cons gm_name (gw_name (by simp)) gws_nil)))) (gm_tup (gms_cons gm_name (gms_cons gm_name (gms_cons gm_name gms_nil)))) (gw_name (by simp)) gm_name ?_
  refine ai_list ?_
  walk_at "al"
  refine .inl ⟨_, .inl rfl, fun n F' ms' acc => ms' = ms ∧ acc = ((letsF (gs.take n)).map sg).map D.str, ⟨rfl, rfl⟩, fun _ _ _ _ _ _ => trivial, ?_, ?_⟩
  · rintro n d F1 ms1 acc e1 hd ⟨rfl, rfl⟩ F2 e2
    obtain ⟨k1, hk, rfl⟩ := links_at hd
    have hn : n < gs.length := (List.getElem?_eq_some_iff.mp hk).1
    have hll := lets_len (gs.take n)
    have hlt : (gs.take n).length ≤ 24 := by rw [List.length_take]; omega
    refine ag_tup rfl ?_
    refine ags_cons (ag_name ?_)
    refine ags_cons (ag_name ?_)
    refine ags_cons (ag_name ?_)
    refine ags_nil ?_
    walk_at "al"
    refine ai_tup ?_
    refine ae_tup ?_
    walk_at "al"
    refine ⟨by simp, fun F3 e3 => ?_⟩
    refine ⟨_, rfl, fun n2 F' ms' acc => ms' = ms1 ∧ acc = ((letsF (gs.take n) ++ (([k1.2.1, k1.2.2].take n2).filter fun c => decide (c ≠ 32))).map sg).map D.str, ⟨rfl, by simp⟩, fun _ _ _ _ _ _ => trivial, ?_, ?_⟩
    · rintro n2 d F4 ms4 acc e4 hd ⟨rfl, rfl⟩ F5 e5
      obtain ⟨c, hc, rfl⟩ : ∃ c, [k1.2.1, k1.2.2][n2]? = some c ∧ d = .str (sg c) := by
        match n2, hd with
        | 0, hd => cases hd; exact ⟨_, rfl, rfl⟩
        | 1, hd => cases hd; exact ⟨_, rfl, rfl⟩
      refine ag_name ?_
      walk_at "al"
      have hfl := List.length_filter_le (fun c => decide (c ≠ 32)) ([k1.2.1, k1.2.2].take n2)
      have hf2 : ([k1.2.1, k1.2.2].take n2).length ≤ 2 := by rw [List.length_take]; exact Nat.min_le_right _ _
      refine ⟨fun hb => ?_, fun hb => ?_⟩
      · have h32 : c ≠ 32 := fun z => by
          subst z
          simp [show sg 32 = Str.ofString " " from rfl] at hb
        walk_at "al"
        refine ⟨by rw [List.length_map, List.length_map, List.length_append]; omega, rfl, ?_⟩
        rw [List.take_succ, hc, List.filter_append, ← List.append_assoc, List.map_append, List.map_append]
        simp [h32]
      · have h32 : c = 32 := by
          simp at hb
          exact sg_inj.mp hb
        refine ⟨rfl, ?_⟩
        rw [List.take_succ, hc, List.filter_append]
        simp [h32]
    · rintro F4 ms4 acc e4 ⟨rfl, rfl⟩
      refine ⟨rfl, ?_⟩
      rw [lets_take hk]
      rfl
  · rintro F1 ms1 acc e1 ⟨rfl, rfl⟩ F2 e2
    rw [List.length_map, List.take_length]
    walk_at "al"
    refine ar_ixT (d := .str (sg k.2.1)) (atI_of (j := 1) rfl rfl) ?_
    walk_at "al"
    refine ar_INl (xs := (letsF gs).map sg) (.inl (.inl (.inl rfl))) ?_
    rw [mem_sg]
    walk_at "al"
    have hq := q F2 (e1.trans e2)
    unfold sharesF at hq
    refine ⟨fun h1 => ?_, fun h1 => ?_⟩
    · walk_at "al"
      refine ar_ixT (d := .str (sg k.2.2)) (atI_of (j := 2) rfl rfl) ?_
      walk_at "al"
      refine ar_INl (xs := (letsF gs).map sg) (.inl (.inl (.inl rfl))) ?_
      rw [mem_sg]
      rw [h1, Bool.false_or] at hq
      exact hq
    · rw [h1, Bool.true_or] at hq
      exact hq
end
theorem sorted_uniq : ∀ {xs ys : List Nat}, xs.Pairwise (· ≤ ·) → ys.Pairwise (· ≤ ·) → xs.Perm ys → xs = ys
  | [], ys, _, _, p => p.nil_eq
  | x :: xs, [], _, _, p => by have := p.length_eq; simp at this
  | x :: xs, y :: ys, h1, h2, p => by
    have hx := List.pairwise_cons.mp h1
    have hy := List.pairwise_cons.mp h2
    have m1 : x ∈ y :: ys := p.mem_iff.mp (List.mem_cons_self ..)
    have m2 : y ∈ x :: xs := p.mem_iff.mpr (List.mem_cons_self ..)
    have e : x = y := by
      rcases List.mem_cons.mp m1 with e | e
      · exact e
      · rcases List.mem_cons.mp m2 with e2 | e2
        · exact e2.symm
        · exact Nat.le_antisymm (hx.1 _ e2) (hy.1 _ e)
    subst e
    rw [sorted_uniq hx.2 hy.2 (List.Perm.cons_inv p)]
theorem sorted_sg : ∀ {cs : List Nat}, sortedS (cs.map sg) = true → cs.Pairwise (· ≤ ·)
  | [], _ => List.Pairwise.nil
  | [c], _ => List.pairwise_singleton ..
  | a :: b :: r, h => by
    have h2 : (!ltCps (sg b).cps.toList (sg a).cps.toList && sortedS ((b :: r).map sg)) = true := h
    rw [Bool.and_eq_true] at h2
    have ih := sorted_sg (cs := b :: r) h2.2
    have hab : a ≤ b := by
      have := h2.1
      by_cases z : b < a
      · exfalso
        have e : ltCps (sg b).cps.toList (sg a).cps.toList = true := by
          show ltCps [b] [a] = true
          simp [ltCps, z]
        rw [e] at this
        cases this
      · omega
    refine List.pairwise_cons.mpr ⟨fun c hc => ?_, ih⟩
    rcases List.mem_cons.mp hc with rfl | hc
    · exact hab
    · exact Nat.le_trans hab ((List.pairwise_cons.mp ih).1 c hc)
theorem perm_sg {ys : List Str} {xs : List Nat} (h : ys.Perm (xs.map sg)) : ∃ cs : List Nat, ys = cs.map sg ∧ cs.Perm xs := by
  have hall : ∀ y ∈ ys, ∃ c, y = sg c := fun y hy => by
    obtain ⟨c, _, hc⟩ := List.mem_map.mp (h.mem_iff.mp hy)
    exact ⟨c, hc.symm⟩
  obtain ⟨cs, rfl⟩ : ∃ cs : List Nat, ys = cs.map sg := by
    clear h
    induction ys with
    | nil => exact ⟨[], rfl⟩
    | cons y ys ih =>
      obtain ⟨c, rfl⟩ := hall y (List.mem_cons_self ..)
      obtain ⟨cs, rfl⟩ := ih fun z hz => hall z (List.mem_cons_of_mem _ hz)
      exact ⟨c :: cs, rfl⟩
  refine ⟨cs, rfl, ?_⟩
  have h2 := h.map (fun s : Str => s.cps.toList.headD 0)
  rw [List.map_map, List.map_map] at h2
  have hid : ((fun s : Str => s.cps.toList.headD 0) ∘ sg) = (id : Nat → Nat) := rfl
  rw [hid, List.map_id, List.map_id] at h2
  exact h2
theorem eqv_strs : ∀ (xs ys : List Str), eqvD (.lst (xs.map D.str)) (.lst (ys.map D.str)) = decide (xs = ys)
  | [], [] => rfl
  | [], y :: ys => by simp [eqvD, toPy, toPyL, PyData.eqv, PyData.eqvAll]
  | x :: xs, [] => by simp [eqvD, toPy, toPyL, PyData.eqv, PyData.eqvAll]
  | x :: xs, y :: ys => by
    have ih := eqv_strs xs ys
    simp only [eqvD, toPy, toPyL, PyData.eqv, PyData.eqvAll, List.map_cons] at ih ⊢
    rw [ih]
    by_cases h : x = y
    · by_cases h2 : xs = ys
      · simp [h, h2]
      · simp [h, h2]
    · simp [h]
theorem any_closed (gs : List Lk) : (gs.map fun k => decide (32 ∈ [k.2.1, k.2.2])).any id = !gs.all (fun k => decide (k.2.1 ≠ 32) && decide (k.2.2 ≠ 32)) := by
  rw [List.any_map]
  induction gs with
  | nil => rfl
  | cons k gs ih =>
    rw [List.any_cons, List.all_cons, ih, Bool.not_and]
    congr 1
    by_cases a : k.2.1 = 32 <;> by_cases b : k.2.2 = 32 <;> simp [a, b, eq_comm]
section
variable {P : Program} {w : World} {K : Frg} {mg : Str → Option Value} {base : Heap}
theorem ok_is_closed (T : Txt K mg) : OK_is_closed P w base T := by
  refine fn_ok T.F_is_closed sc_is_closed (by rintro _ _ _ _ _ ⟨gs, rfl, _⟩; rfl) (fun cdv A outer s H E hr => ?_)
  have hu64 := hr.units
  refine ⟨_, (pss_cons (ps_if (pt_val (pe_callB (kANY (K := K) rfl rfl) (by rfl) T.g_any boot_any (pa_cons (pe_lc rfl sc_is_closed.nd (pi_listk (K := K) rfl (pv 0)) (own := [("place", 1), ("old", 2), ("new", 3)]) (@BlkOk.mk N_is_closed (defScope s_is_closed) _ _ rfl (by decide +kernel) (by decide +kernel) (by decide +kernel) (by decide +kernel)) (fun _ _ _ _ _ => (pg_tupk (K := K) (n := 3) rfl rfl (pgs_cons (pg_name (i := 1) sc_is_closed.nd rfl (by first | exact Or.inl rfl | exact Or.inr rfl)) (pgs_cons (pg_name (i := 2) sc_is_closed.nd rfl (by first | exact Or.inl rfl | exact Or.inr rfl)) (pgs_cons (pg_name (i := 3) sc_is_closed.nd rfl (by first | exact Or.inl rfl | exact Or.inr rfl)) pgs_nil))))) (fun _ _ _ _ _ => pts_nil) (fun _ _ _ _ _ => (pe_cmpR (kIN (K := K) rfl) (pe_glob (by rfl) T.m_BLANK T.r_BLANK) (pe_tup (pa_cons (pv 2) (pa_cons (pv 3) pa_nil))) (by with_unfolding_all rfl)))) pa_nil))) (pss_one (ps_ret pe_bl)) pss_nil)
      (pss_one (ps_ret (pe_cmpR (kEQ (K := K) rfl hu64) (pe_callB (kSRT (K := K) rfl) (by rfl) T.g_sorted boot_sorted (pa_cons (pe_lc rfl sc_is_closed.nd (pi_listk (K := K) rfl (pv 0)) (own := [("place", 1), ("old", 2), ("new", 3)]) (@BlkOk.mk N_is_closed (defScope s_is_closed) _ _ rfl (by decide +kernel) (by decide +kernel) (by decide +kernel) (by decide +kernel)) (fun _ _ _ _ _ => (pg_tupk (K := K) (n := 3) rfl rfl (pgs_cons (pg_name (i := 1) sc_is_closed.nd rfl (by first | exact Or.inl rfl | exact Or.inr rfl)) (pgs_cons (pg_name (i := 2) sc_is_closed.nd rfl (by first | exact Or.inl rfl | exact Or.inr rfl)) (pgs_cons (pg_name (i := 3) sc_is_closed.nd rfl (by first | exact Or.inl rfl | exact Or.inr rfl)) pgs_nil))))) (fun _ _ _ _ _ => pts_nil) (fun _ _ _ _ _ => (pv 2))) pa_nil)) (pe_callB (kSRT (K := K) rfl) (by rfl) T.g_sorted boot_sorted (pa_cons (pe_lc rfl sc_is_closed.nd (pi_listk (K := K) rfl (pv 0)) (own := [("place", 1), ("old", 2), ("new", 3)]) (@BlkOk.mk N_is_closed (defScope s_is_closed) _ _ rfl (by decide +kernel) (by decide +kernel) (by decide +kernel) (by decide +kernel)) (fun _ _ _ _ _ => (pg_tupk (K := K) (n := 3) rfl rfl (pgs_cons (pg_name (i := 1) sc_is_closed.nd rfl (by first | exact Or.inl rfl | exact Or.inr rfl)) (pgs_cons (pg_name (i := 2) sc_is_closed.nd rfl (by first | exact Or.inl rfl | exact Or.inr rfl)) (pgs_cons (pg_name (i := 3) sc_is_closed.nd rfl (by first | exact Or.inl rfl | exact Or.inr rfl)) pgs_nil))))) (fun _ _ _ _ _ => pts_nil) (fun _ _ _ _ _ => (pv 3))) pa_nil)) (nomark _))))), ?_⟩
  rintro _ F ms Q Ea ⟨gs, rfl, hg, hlt, q⟩
  walk_at "al"
  refine ae_lc (gw_tup (gws_cons gm_name (gw_name (by simp)) (gws_cons gm_name (gw_name (by simp)) (gws_cons gm_name (gw_name (by simp)) gws_nil)))) (gm_tup (gms_cons gm_name (gms_cons gm_name (gms_cons gm_name gms_nil)))) ?_
  refine ai_list ?_
  walk_at "al"
  refine .inl ⟨_, .inl rfl, fun n F' ms' acc => ms' = ms ∧ acc = ((gs.take n).map fun k => decide (32 ∈ [k.2.1, k.2.2])).map D.bl, ⟨rfl, rfl⟩, fun _ _ _ _ _ _ => trivial, ?_, ?_⟩
  · rintro n d F1 ms1 acc e1 hd ⟨rfl, rfl⟩ F2 e2
    obtain ⟨k1, hk, rfl⟩ := links_at hd
    have hn : n < gs.length := (List.getElem?_eq_some_iff.mp hk).1
    refine ag_tup rfl ?_
    refine ags_cons (ag_name ?_)
    refine ags_cons (ag_name ?_)
    refine ags_cons (ag_name ?_)
    refine ags_nil ?_
    walk_at "al"
    refine ae_tup ?_
    walk_at "al"
    refine ⟨by simp, fun F3 e3 => ?_⟩
    refine ar_INl (x := sg 32) (xs := [k1.2.1, k1.2.2].map sg) (.inr rfl) ?_
    rw [mem_sg]
    refine ⟨by rw [List.length_map, List.length_map, List.length_take]; omega, rfl, ?_⟩
    rw [List.take_succ, hk, List.map_append, List.map_append]
    rfl
  · rintro F1 ms1 acc e1 ⟨rfl, rfl⟩ F2 e2
    rw [List.length_map, List.take_length]
    walk_at "al"
    refine ac_any (bs := gs.map fun k => decide (32 ∈ [k.2.1, k.2.2])) rfl ?_
    walk_at "al"
    rw [any_closed]
    have hq := q F2 (e1.trans e2)
    unfold closedF at hq
    cases hall : gs.all (fun k => decide (k.2.1 ≠ 32) && decide (k.2.2 ≠ 32)) with
    | false =>
      rw [hall, Bool.false_and] at hq
      refine and_nF ?_
      walk_at "al"
      exact hq
    | true =>
      rw [hall, Bool.true_and] at hq
      refine and_nT ?_
      walk_at "al"
      refine ae_lc (gw_tup (gws_cons gm_name (gw_name (by simp)) (gws_cons gm_name (gw_name (by simp)) (gws_cons gm_name (gw_name (by simp)) gws_nil)))) (gm_tup (gms_cons gm_name (gms_cons gm_name (gms_cons gm_name gms_nil)))) ?_
      refine ai_list ?_
      walk_at "al"
      refine .inl ⟨_, .inl rfl, fun n F' ms' acc => ms' = ms1 ∧ acc = (((gs.take n).map (·.2.1)).map sg).map D.str, ⟨rfl, rfl⟩, fun _ _ _ _ _ _ => trivial, ?_, ?_⟩
      · rintro n d F3 ms3 acc e3 hd ⟨rfl, rfl⟩ F4 e4
        obtain ⟨k1, hk, rfl⟩ := links_at hd
        have hn : n < gs.length := (List.getElem?_eq_some_iff.mp hk).1
        refine ag_tup rfl ?_
        refine ags_cons (ag_name ?_)
        refine ags_cons (ag_name ?_)
        refine ags_cons (ag_name ?_)
        refine ags_nil ?_
        walk_at "al"
        refine ⟨by rw [List.length_map, List.length_map, List.length_map, List.length_take]; omega, rfl, ?_⟩
        rw [List.take_succ, hk, List.map_append, List.map_append, List.map_append]
        rfl
      · rintro F3 ms3 acc e3 ⟨rfl, rfl⟩ F4 e4
        rw [List.length_map, List.take_length]
        walk_at "al"
        refine ac_sortS (xs := (gs.map (·.2.1)).map sg) (.inl (.inl rfl)) (by rw [List.length_map, List.length_map]; omega) fun F5 ys1 e5 hp1 hs1 => ?_
        walk_at "al"
        refine ae_lc (gw_tup (gws_cons gm_name (gw_name (by simp)) (gws_cons gm_name (gw_name (by simp)) (gws_cons gm_name (gw_name (by simp)) gws_nil)))) (gm_tup (gms_cons gm_name (gms_cons gm_name (gms_cons gm_name gms_nil)))) ?_
        refine ai_list ?_
        walk_at "al"
        refine .inl ⟨_, .inl rfl, fun n F' ms' acc => ms' = ms3 ∧ acc = (((gs.take n).map (·.2.2)).map sg).map D.str, ⟨rfl, rfl⟩, fun _ _ _ _ _ _ => trivial, ?_, ?_⟩
        · rintro n d F6 ms6 acc e6 hd ⟨rfl, rfl⟩ F7 e7
          obtain ⟨k1, hk, rfl⟩ := links_at hd
          have hn : n < gs.length := (List.getElem?_eq_some_iff.mp hk).1
          refine ag_tup rfl ?_
          refine ags_cons (ag_name ?_)
          refine ags_cons (ag_name ?_)
          refine ags_cons (ag_name ?_)
          refine ags_nil ?_
          walk_at "al"
          refine ⟨by rw [List.length_map, List.length_map, List.length_map, List.length_take]; omega, rfl, ?_⟩
          rw [List.take_succ, hk, List.map_append, List.map_append, List.map_append]
          rfl
        · rintro F6 ms6 acc e6 ⟨rfl, rfl⟩ F7 e7
          rw [List.length_map, List.take_length]
          walk_at "al"
          refine ac_sortS (xs := (gs.map (·.2.2)).map sg) (.inl (.inl rfl)) (by rw [List.length_map, List.length_map]; omega) fun F8 ys2 e8 hp2 hs2 => ?_
          obtain ⟨c1, rfl, q1⟩ := perm_sg hp1
          obtain ⟨c2, rfl, q2⟩ := perm_sg hp2
          have ok1 : ∀ {cs : List Nat}, (∀ c ∈ cs, c < 128) → okL ((cs.map sg).map D.str) = true ∧ depL ((cs.map sg).map D.str) = 0 := fun {cs} h => chr_ok fun x hx => by
            obtain ⟨s, hs, rfl⟩ := List.mem_map.mp hx
            obtain ⟨c, hc, rfl⟩ := List.mem_map.mp hs
            exact ⟨c, rfl, h c hc⟩
          obtain ⟨o1, o2⟩ := ok1 (cs := c1) fun c hc => by
            obtain ⟨k, hk, rfl⟩ := List.mem_map.mp (q1.mem_iff.mp hc)
            exact (hlt k hk).1
          obtain ⟨o3, o4⟩ := ok1 (cs := c2) fun c hc => by
            obtain ⟨k, hk, rfl⟩ := List.mem_map.mp (q2.mem_iff.mp hc)
            exact (hlt k hk).2
          refine ar_EQd (d := .lst ((c1.map sg).map D.str)) (e := .lst ((c2.map sg).map D.str)) o1 o3 (by show depL ((c1.map sg).map D.str) + 1 ≤ 64; omega) (by show depL ((c2.map sg).map D.str) + 1 ≤ 64; omega) ?_
          rw [eqv_strs]
          have hfin := q F8 ((((((e1.trans e2).trans e3).trans e4).trans e5).trans e6).trans (e7.trans e8))
          unfold closedF at hfin
          rw [hall, Bool.true_and] at hfin
          have e9 : decide (c1.map sg = c2.map sg) = decide ((gs.map (·.2.1)).Perm (gs.map (·.2.2))) := by
            by_cases hp : (gs.map (·.2.1)).Perm (gs.map (·.2.2))
            · rw [decide_eq_true hp]
              refine decide_eq_true ?_
              rw [sorted_uniq (sorted_sg hs1) (sorted_sg hs2) ((q1.trans hp).trans q2.symm)]
            · rw [decide_eq_false hp]
              refine decide_eq_false fun z => hp ?_
              have e := congrArg (List.map fun s : Str => s.cps.toList.headD 0) z
              rw [List.map_map, List.map_map] at e
              have hid : ((fun s : Str => s.cps.toList.headD 0) ∘ sg) = (id : Nat → Nat) := rfl
              rw [hid, List.map_id, List.map_id] at e
              subst e
              exact q1.symm.trans q2
          rw [e9]
          exact hfin
end

theorem tog_len (k : Lk) (found : List (List Lk)) : (togF k found).length ≤ found.flatten.length + 1 := by
  have gen : ∀ (l : List (List Lk)) (t : List Lk), (l.foldl (fun t g => g ++ t) t).length = l.flatten.length + t.length := by
    intro l
    induction l with
    | nil => intro t; simp
    | cons g l ih => intro t; rw [List.foldl_cons, ih, List.length_append, List.flatten_cons, List.length_append]; omega
  have fl : ∀ l : List (List Lk), (l.filter fun g => sharesF g k).flatten.length ≤ l.flatten.length := by
    intro l
    induction l with
    | nil => exact Nat.le_refl _
    | cons g l ih =>
      rw [List.filter_cons]
      split
      · rw [List.flatten_cons, List.flatten_cons, List.length_append, List.length_append]; omega
      · rw [List.flatten_cons, List.length_append]; omega
  unfold togF
  rw [gen]
  have := fl found
  simp only [List.length_singleton]
  omega
theorem step_len (found : List (List Lk)) (k : Lk) : (stepG found k).flatten.length = found.flatten.length + 1 ∧ (stepG found k).length ≤ found.length + 1 := by
  have gen : ∀ (l : List (List Lk)) (t : List Lk), (l.foldl (fun t g => g ++ t) t).length = l.flatten.length + t.length := by
    intro l
    induction l with
    | nil => intro t; simp
    | cons g l ih => intro t; rw [List.foldl_cons, ih, List.length_append, List.flatten_cons, List.length_append]; omega
  have sp : ∀ l : List (List Lk), (l.filter fun g => sharesF g k).flatten.length + (l.filter fun g => !sharesF g k).flatten.length = l.flatten.length := by
    intro l
    induction l with
    | nil => rfl
    | cons g l ih =>
      rw [List.filter_cons, List.filter_cons, List.flatten_cons, List.length_append]
      cases sharesF g k with
      | true => simp only [if_true, Bool.not_true, Bool.false_eq_true, if_false, List.flatten_cons, List.length_append]; omega
      | false => simp only [if_true, Bool.not_false, Bool.false_eq_true, if_false, List.flatten_cons, List.length_append]; omega
  unfold stepG togF
  refine ⟨?_, ?_⟩
  · rw [List.flatten_append, List.length_append, List.flatten_cons, List.flatten_nil, List.append_nil, gen]
    have := sp found
    simp only [List.length_singleton]
    omega
  · rw [List.length_append]
    have := List.length_filter_le (fun g => !sharesF g k) found
    simp only [List.length_singleton]
    omega
theorem tog_take {k : Lk} {found : List (List Lk)} {n : Nat} {g : List Lk} (h : found[n]? = some g) : togF k (found.take (n + 1)) = if sharesF g k = true then g ++ togF k (found.take n) else togF k (found.take n) := by
  unfold togF
  rw [List.take_succ, h, List.filter_append, List.foldl_append]
  cases hs : sharesF g k with
  | true => simp [hs]
  | false => simp [hs]
theorem oth_take {k : Lk} {found : List (List Lk)} {n : Nat} {g : List Lk} (h : found[n]? = some g) : ((found.take (n + 1)).filter fun g => !sharesF g k) = if sharesF g k = true then (found.take n).filter (fun g => !sharesF g k) else (found.take n).filter (fun g => !sharesF g k) ++ [g] := by
  rw [List.take_succ, h, List.filter_append]
  cases hs : sharesF g k with
  | true => simp [hs]
  | false => simp [hs]
theorem mem_flat_len {found : List (List Lk)} {n : Nat} {g : List Lk} (h : found[n]? = some g) : g.length + (found.take n).flatten.length ≤ found.flatten.length := by
  have hn := (List.getElem?_eq_some_iff.mp h)
  obtain ⟨hn, e⟩ := hn
  have hs : found = found.take n ++ g :: found.drop (n + 1) := by rw [← e, List.getElem_cons_drop, List.take_append_drop]
  conv => rhs; rw [hs]
  rw [List.flatten_append, List.flatten_cons, List.length_append, List.length_append]
  omega
theorem groups_take {ks : List Lk} {n : Nat} {k : Lk} (h : ks[n]? = some k) : groupsF (ks.take (n + 1)) = stepG (groupsF (ks.take n)) k := by
  unfold groupsF
  rw [List.take_succ, h, List.foldl_append]
  rfl
theorem groups_len : ∀ (ks : List Lk), (groupsF ks).flatten.length = ks.length ∧ (groupsF ks).length ≤ ks.length := by
  have gen : ∀ (ks : List Lk) (f : List (List Lk)), (ks.foldl stepG f).flatten.length = f.flatten.length + ks.length ∧ (ks.foldl stepG f).length ≤ f.length + ks.length := by
    intro ks
    induction ks with
    | nil => intro f; exact ⟨rfl, Nat.le_refl _⟩
    | cons k ks ih =>
      intro f
      obtain ⟨s1, s2⟩ := step_len f k
      obtain ⟨i1, i2⟩ := ih (stepG f k)
      rw [List.foldl_cons, List.length_cons]
      exact ⟨by omega, by omega⟩
  intro ks
  have := gen ks []
  simpa [groupsF] using this
theorem gd_at {f : List (List Lk)} {n : Nat} {d : D} (h : (f.map gD)[n]? = some d) : ∃ g, f[n]? = some g ∧ d = gD g := by
  rw [List.getElem?_map] at h
  cases e : f[n]? with
  | none => rw [e] at h; cases h
  | some p => rw [e] at h; exact ⟨p, rfl, (Option.some.inj h).symm⟩
section
variable {P : Program} {w : World} {K : Frg} {mg : Str → Option Value} {base : Heap}
theorem as_drops {Γ} {ts : TS} {F p S} {A : AEnds} : ∀ (n : Nat) {J : Ms}, AS Γ ts F (p :: J.drop n) S A → AS Γ ts F (p :: J) S A
  | 0, _, h => h
  | _ + 1, [], h => h
  | n + 1, q :: J, h => as_dropm 1 (as_drops n (J := J) h) (by simp)
theorem ok_groups (T : Txt K mg) (G_shares : OK_shares P w base T) : OK_groups P w base T := by
  refine fn_ok T.F_groups sc_groups (by rintro _ _ _ _ _ ⟨ks, rfl, _⟩; rfl) (fun cdv A outer s H E hr => ?_)
  have hu64 := hr.units
  refine ⟨_, (pss_cons (ps_set (i := 1) sc_groups.nd rfl (by first | exact Or.inl rfl | exact Or.inr rfl) (pe_lst pa_nil))
      (pss_cons (ps_for PassesOwn.never rfl (pi_listk (K := K) rfl (pv 0)) (pg_name (i := 2) sc_groups.nd rfl (by first | exact Or.inl rfl | exact Or.inr rfl)) (pss_cons (ps_par (i := 3) (j := 4) rfl sc_groups.nd rfl rfl (by decide) rfl rfl (pa_cons (pe_lst (pa_cons (pv 2) pa_nil)) (pa_cons (pe_lst pa_nil) pa_nil)) (by rfl))
      (pss_cons (ps_for PassesOwn.never rfl (pi_listk (K := K) rfl (pv 1)) (pg_name (i := 5) sc_groups.nd rfl (by first | exact Or.inl rfl | exact Or.inr rfl)) (pss_one (ps_if (pt_val (pe_call G_shares (hr.mono (by first | decide | omega)) (by rfl) T.m_shares T.F_shares.kp T.b_shares .nil pass0 (pa_cons (pv 5) (pa_cons (pv 2) pa_nil)))) (pss_one (ps_set (i := 3) sc_groups.nd rfl (by first | exact Or.inl rfl | exact Or.inr rfl) (pe_op (kADD (K := K) rfl) (pv 5) (pv 3)))) (pss_one (ps_expr (pe_bmk (K := K) rfl PySem.F.plainAttrs_list PySem.F.slot_list_append PySem.F.type_list_append mt_append (pv 4) (pa_cons (pv 5) pa_nil)))))))
      (pss_one (ps_set (i := 1) sc_groups.nd rfl (by first | exact Or.inl rfl | exact Or.inr rfl) (pe_op (kADD (K := K) rfl) (pv 4) (pe_lst (pa_cons (pv 3) pa_nil))))))))
      (pss_one (ps_ret (pv 1))))), ?_⟩
  rintro _ F ms Q Ea ⟨ks, rfl, hk24, q⟩
  walk_at "al"
  refine ae_lstO ?_
  walk_at "al"
  refine ⟨by simp, fun l0 => ?_⟩
  walk_at "al"
  refine as_for ?_
  refine ai_list ?_
  walk_at "al"
  refine .inl ⟨_, .inl rfl, fun n F' ms' S' => ∃ (l : Addr) (J : Ms) (a b c d : Option D), ms' = (l, .lst ((groupsF (ks.take n)).map gD)) :: J ∧ J.drop (J.length - ms.length) = ms ∧ S' = [some (.lst (ks.map lD)), some (.ref l), a, b, c, d], ⟨l0, ms, none, none, none, none, rfl, by simp, rfl⟩, fun _ _ _ _ _ _ => trivial, ?_, ?_⟩
  · rintro n d F1 ms1 S1 e1 hd ⟨l, J, a, b, c, dd, rfl, hJ, rfl⟩ F2 e2
    obtain ⟨k, hk, rfl⟩ := links_at hd
    have hn : n < ks.length := (List.getElem?_eq_some_iff.mp hk).1
    obtain ⟨f1, f2⟩ := groups_len (ks.take n)
    have hlt : (ks.take n).length ≤ 24 := by rw [List.length_take]; omega
    generalize hf : groupsF (ks.take n) = found at f1 f2 ⊢
    refine ag_name ?_
    walk_at "al"
    refine ae_lstF ?_
    walk_at "al"
    refine ⟨by simp, fun F3 e3 => ?_⟩
    walk_at "al"
    refine ae_lstO ?_
    walk_at "al"
    refine ⟨by simp, fun lo => ?_⟩
    walk_at "al"
    refine as_for ?_
    refine ai_list ?_
    walk_at "al"
    refine .inr ⟨1, l, _, rfl, rfl, fun m F' ms' S' => ms' = (lo, .lst (((found.take m).filter fun g => !sharesF g k).map gD)) :: (l, .lst (found.map gD)) :: J ∧ ∃ e, S' = [some (.lst (ks.map lD)), some (.ref l), some (lD k), some (.lst ((togF k (found.take m)).map lD)), some (.ref lo), e], ⟨rfl, dd, rfl⟩, fun i F' ms' S' e h => ⟨1, by rw [h.1]; rfl⟩, ?_, ?_⟩
    · rintro m d F4 ms4 S4 e4 hd4 ⟨rfl, e, rfl⟩ F5 e5
      obtain ⟨g, hg, rfl⟩ := gd_at hd4
      have hm : m < found.length := (List.getElem?_eq_some_iff.mp hg).1
      have hgl := mem_flat_len hg
      have htl := tog_len k (found.take m)
      refine ag_name ?_
      walk_at "al"
      refine ⟨g, k, rfl, by omega, fun F6 e6 => ?_⟩
      walk_at "al"
      have t1 := tog_take (k := k) hg
      have t2 := oth_take (k := k) hg
      cases hs : sharesF g k with
      | true =>
        rw [hs, if_pos rfl] at t1 t2
        walk_at "al"
        refine ar_ADDl (xs := g.map lD) (ys := (togF k (found.take m)).map lD) (by rw [List.length_map, List.length_map]; omega) fun F7 e7 => ?_
        walk_at "al"
        refine ⟨by rw [t2], some (gD g), ?_⟩
        rw [t1, List.map_append]
        rfl
      | false =>
        rw [hs, if_neg (by decide)] at t1 t2
        walk_at "al"
        refine ae_bmL ?_
        walk_at "al"
        refine ⟨_, .inr ⟨0, lo, rfl, rfl⟩, ?_⟩
        walk_at "al"
        have hol := List.length_filter_le (fun g => !sharesF g k) (found.take m)
        have hol2 : (found.take m).length ≤ 24 := by rw [List.length_take]; omega
        refine am_append 0 (l := lo) rfl (by rw [List.length_map]; omega) ?_
        refine ⟨?_, some (gD g), ?_⟩
        · rw [t2, List.map_append]
          rfl
        · rw [t1]
          rfl
    · rintro F4 ms4 S4 e4 ⟨rfl, e, rfl⟩
      rw [List.length_map, List.take_length]
      have hol := List.length_filter_le (fun g => !sharesF g k) found
      walk_at "al"
      refine ae_lstF ?_
      walk_at "al"
      refine ⟨by simp, fun F5 e5 => ?_⟩
      refine ar_ADDoo 0 (l := lo) rfl (by rw [List.length_map]; show _ + 1 ≤ 100000; omega) fun l2 => ?_
      walk_at "al"
      refine ⟨l2, (lo, .lst ((found.filter fun g => !sharesF g k).map gD)) :: (l, .lst (found.map gD)) :: J, _, _, _, _, ?_, ?_, rfl⟩
      · rw [groups_take hk, hf]
        unfold stepG
        rw [List.map_append]
        rfl
      · have hJl : (J.drop (J.length - ms.length)).length = ms.length := by rw [hJ]
        rw [List.length_drop] at hJl
        show (_ :: _ :: J).drop ((_ :: _ :: J).length - ms.length) = ms
        rw [List.length_cons, List.length_cons, show J.length + 1 + 1 - ms.length = (J.length - ms.length) + 1 + 1 by omega]
        exact hJ
  · rintro F1 ms1 S1 e1 ⟨l, J, a, b, c, dd, rfl, hJ, rfl⟩
    rw [List.length_map, List.take_length]
    refine as_drops (J.length - ms.length) ?_
    rw [hJ]
    refine as_frz 0 (i := 1) rfl rfl fun F2 e2 => ?_
    walk_at "al"
    exact q F2 (e1.trans e2)
end

theorem kS_dec (a b : Nat) : decide (kS a = kS b) = decide (a = b) := by
  by_cases e : a = b
  · rw [e]; simp
  · rw [decide_eq_false e, decide_eq_false fun h => e (kS_inj.mp h).symm]
theorem valD_cnt (c : Nat) (z : D) : ∀ m : Cn, (valD (cntD m) (kS c)).getD (.int 0) = .int (valC m c)
  | [] => rfl
  | p :: m => by
    have ih := valD_cnt c z m
    unfold valD cntD valC at ih ⊢
    rw [List.map_cons, List.find?_cons, List.find?_cons, kS_dec]
    cases e : decide (p.1 = c) with
    | true => rfl
    | false => exact ih
theorem any_cnt (c : Nat) : ∀ m : Cn, ((cntD m).any fun kv => decide (kv.1 = kS c)) = m.any fun p => decide (p.1 = c)
  | [] => rfl
  | p :: m => by
    have ih := any_cnt c m
    unfold cntD at ih ⊢
    rw [List.map_cons, List.any_cons, List.any_cons, ih, kS_dec]
theorem put_cnt (m : Cn) (c : Nat) (z : Int) : putKD (cntD m) (kS c) (.int z) = cntD (setC m c z) := by
  unfold putKD setC
  rw [any_cnt]
  cases m.any fun p => decide (p.1 = c) with
  | false => simp [cntD]
  | true =>
    rw [if_pos rfl, if_pos rfl]
    unfold cntD
    rw [List.map_map, List.map_map]
    apply List.map_congr_left
    rintro ⟨a, y⟩ _
    show (if kS a = kS c then (kS a, D.int z) else (kS a, D.int y)) = (kS (if a = c then (a, z) else (a, y)).1, D.int (if a = c then (a, z) else (a, y)).2)
    by_cases e : a = c
    · rw [if_pos e, if_pos (by rw [e])]
    · rw [if_neg e, if_neg fun h => e (kS_inj.mp h).symm]
theorem setC_len (m : Cn) (c : Nat) (z : Int) : (setC m c z).length ≤ m.length + 1 := by
  unfold setC
  split
  · rw [List.length_map]; omega
  · rw [List.length_append]; exact Nat.le_refl _
theorem cnt_take {ks : List Lk} {n : Nat} {k : Lk} (h : ks[n]? = some k) : cntF (ks.take (n + 1)) = stepC (cntF (ks.take n)) k := by
  unfold cntF
  rw [List.take_succ, h, List.foldl_append]
  rfl
theorem stepC_len (m : Cn) (k : Lk) : (stepC m k).length ≤ m.length + 2 := by
  unfold stepC
  have h1 := setC_len m k.2.1 (valC m k.2.1 + 1)
  have h2 := setC_len (setC m k.2.1 (valC m k.2.1 + 1)) k.2.2 (valC (setC m k.2.1 (valC m k.2.1 + 1)) k.2.2 - 1)
  omega
theorem cnt_len (ks : List Lk) : (cntF ks).length ≤ 2 * ks.length := by
  have gen : ∀ (ks : List Lk) (m : Cn), (ks.foldl stepC m).length ≤ m.length + 2 * ks.length := by
    intro ks
    induction ks with
    | nil => intro m; simp
    | cons k ks ih =>
      intro m
      have := ih (stepC m k)
      have := stepC_len m k
      rw [List.foldl_cons, List.length_cons]
      omega
  have := gen ks []
  simpa [cntF] using this
theorem setC_new {m : Cn} {c : Nat} {z : Int} (h : ∀ r ∈ m, r.1 ≠ c) : setC m c z = m ++ [(c, z)] := by
  unfold setC
  have : m.any (fun p => decide (p.1 = c)) = false := by
    rw [List.any_eq_false]
    intro r hr
    simpa using h r hr
  rw [this]
  rfl
theorem nd_take {m : Cn} (h : (m.map (·.1)).Nodup) {i : Nat} {p : Nat × Int} (hp : m[i]? = some p) : ∀ r ∈ m.take i, r.1 ≠ p.1 := by
  obtain ⟨hi, e⟩ := List.getElem?_eq_some_iff.mp hp
  have hs : m = m.take i ++ p :: m.drop (i + 1) := by rw [← e, List.getElem_cons_drop, List.take_append_drop]
  rw [hs, List.map_append, List.nodup_append] at h
  intro r hr
  exact h.2.2 r.1 (List.mem_map_of_mem hr) p.1 (by simp)
theorem setC_nd {m : Cn} (c : Nat) (z : Int) (h : (m.map (·.1)).Nodup) : ((setC m c z).map (·.1)).Nodup := by
  unfold setC
  cases e : m.any fun p => decide (p.1 = c) with
  | true =>
    rw [if_pos rfl, List.map_map]
    have : m.map ((fun p : Nat × Int => p.1) ∘ fun p => if p.1 = c then (p.1, z) else p) = m.map (·.1) := by
      apply List.map_congr_left
      intro p _
      show (if p.1 = c then (p.1, z) else p).1 = p.1
      split <;> rfl
    rw [this]
    exact h
  | false =>
    rw [if_neg (by decide), List.map_append, List.nodup_append]
    rw [List.any_eq_false] at e
    refine ⟨h, by simp, ?_⟩
    intro a ha b hb
    obtain ⟨p, hp, rfl⟩ := List.mem_map.mp ha
    have hb : b = c := by simpa using hb
    subst hb
    simpa using e p hp
theorem cnt_nd (ks : List Lk) : ((cntF ks).map (·.1)).Nodup := by
  have gen : ∀ (ks : List Lk) (m : Cn), (m.map (·.1)).Nodup → ((ks.foldl stepC m).map (·.1)).Nodup := by
    intro ks
    induction ks with
    | nil => intro m h; exact h
    | cons k ks ih => intro m h; exact ih _ (setC_nd _ _ (setC_nd _ _ h))
  exact gen ks [] List.nodup_nil
section
variable {P : Program} {w : World} {K : Frg} {mg : Str → Option Value} {base : Heap}
theorem ok_surplus (T : Txt K mg) : OK_surplus P w base T := by
  refine fn_ok T.F_surplus sc_surplus (by rintro _ _ _ _ _ ⟨ks, rfl, _⟩; rfl) (fun cdv A outer s H E hr => ?_)
  have hu64 := hr.units
  refine ⟨_, (pss_cons (ps_set (i := 1) sc_surplus.nd rfl (by first | exact Or.inl rfl | exact Or.inr rfl) pe_dnewK)
      (pss_cons (ps_for PassesOwn.never rfl (pi_listk (K := K) rfl (pv 0)) (pg_tupk (K := K) (n := 3) rfl rfl (pgs_cons (pg_name (i := 2) sc_surplus.nd rfl (by first | exact Or.inl rfl | exact Or.inr rfl)) (pgs_cons (pg_name (i := 3) sc_surplus.nd rfl (by first | exact Or.inl rfl | exact Or.inr rfl)) (pgs_cons (pg_name (i := 4) sc_surplus.nd rfl (by first | exact Or.inl rfl | exact Or.inr rfl)) pgs_nil)))) (pss_cons (ps_dput (hu_of hr) (pv 1) (pv 3) (pe_op (kADD (K := K) rfl) (pe_dget2 (hu_of hr) (pv 1) (pv 3) pe_int ⟨rfl, rfl, rfl, rfl⟩) pe_int) (by rfl))
      (pss_one (ps_dput (hu_of hr) (pv 1) (pv 4) (pe_op op_sub (pe_dget2 (hu_of hr) (pv 1) (pv 4) pe_int ⟨rfl, rfl, rfl, rfl⟩) pe_int) (by rfl)))))
      (pss_one (ps_ret (pe_lock (pe_dc rfl sc_surplus.nd (pi_items (pv 1)) (own := [("piece", 5), ("count", 6)]) (@BlkOk.mk N_surplus (defScope s_surplus) _ _ rfl (by decide +kernel) (by decide +kernel) (by decide +kernel) (by decide +kernel)) (fun _ _ _ _ _ => (pg_tupk (K := K) (n := 2) rfl rfl (pgs_cons (pg_name (i := 5) sc_surplus.nd rfl (by first | exact Or.inl rfl | exact Or.inr rfl)) (pgs_cons (pg_name (i := 6) sc_surplus.nd rfl (by first | exact Or.inl rfl | exact Or.inr rfl)) pgs_nil)))) (fun _ _ _ _ _ => (pts_one ((pw_and (pt_cmpR op_gt (pv 6) pe_int (nomark _)) (pw_and1 (pt_cmpR (kNE (K := K) rfl hu64) (pv 5) (pe_glob (by rfl) T.m_BLANK T.r_BLANK) (nomark _))))).pt)) (fun _ _ _ _ _ => (pv 5)) (fun _ _ _ _ _ => (pv 6)))))))), ?_⟩
  rintro _ F ms Q Ea ⟨ks, rfl, hk24, q⟩
  walk_at "al"
  refine ae_dnewO fun m => ?_
  walk_at "al"
  refine as_for ?_
  refine ai_list ?_
  walk_at "al"
  refine .inl ⟨_, .inl rfl, fun n F' ms' S' => ms' = (m, .dic (cntD (cntF (ks.take n)))) :: ms ∧ ∃ a b c, S' = [some (.lst (ks.map lD)), some (.ref m), a, b, c, none, none], ⟨rfl, none, none, none, rfl⟩, fun _ _ _ _ _ _ => trivial, ?_, ?_⟩
  · rintro n d F1 ms1 S1 e1 hd ⟨rfl, a, b, c, rfl⟩ F2 e2
    obtain ⟨k, hk, rfl⟩ := links_at hd
    have hn : n < ks.length := (List.getElem?_eq_some_iff.mp hk).1
    have hlt : (ks.take n).length ≤ 24 := by rw [List.length_take]; omega
    have hcl := cnt_len (ks.take n)
    refine ag_tup rfl ?_
    refine ags_cons (ag_name ?_)
    refine ags_cons (ag_name ?_)
    refine ags_cons (ag_name ?_)
    refine ags_nil ?_
    walk_at "al"
    refine as_dput ?_
    walk_at "al"
    refine ae_dget2 ?_
    walk_at "al"
    refine ⟨_, .inr ⟨0, m, rfl, rfl⟩, ?_⟩
    walk_at "al"
    refine ⟨kS k.2.1, rfl, .inr ⟨0, m, rfl, rfl⟩, ?_⟩
    rw [valD_cnt k.2.1 .non]
    walk_at "al"
    refine ⟨0, m, _, kS k.2.1, rfl, rfl, rfl, by unfold cntD; rw [List.length_map]; omega, ?_⟩
    rw [put_cnt]
    walk_at "al"
    have hl2 := setC_len (cntF (ks.take n)) k.2.1 (valC (cntF (ks.take n)) k.2.1 + 1)
    refine as_dput ?_
    walk_at "al"
    refine ae_dget2 ?_
    walk_at "al"
    refine ⟨_, .inr ⟨0, m, rfl, rfl⟩, ?_⟩
    walk_at "al"
    refine ⟨kS k.2.2, rfl, .inr ⟨0, m, rfl, rfl⟩, ?_⟩
    rw [valD_cnt k.2.2 .non]
    walk_at "al"
    refine ⟨0, m, _, kS k.2.2, rfl, rfl, rfl, by unfold cntD; rw [List.length_map]; omega, ?_⟩
    rw [put_cnt]
    refine ⟨?_, _, _, _, rfl⟩
    rw [cnt_take hk]
    rfl
  · rintro F1 ms1 S1 e1 ⟨rfl, a, b, c, rfl⟩
    rw [List.length_map, List.take_length]
    have hcl := cnt_len ks
    walk_at "al"
    refine ae_dropm ?_
    refine ae_frzd ?_
    refine ae_lock 0 rfl fun od vs rk => ?_
    refine ae_dc (gw_tup (gws_cons gm_name (gw_name (by simp)) (gws_cons gm_name (gw_name (by simp)) gws_nil))) (gm_tup (gms_cons gm_name (gms_cons gm_name gms_nil))) ?_
    refine ai_items ?_
    walk_at "al"
    refine ⟨m, od, vs, _, 0, rfl, rfl, rk, ?_⟩
    refine ⟨fun i F' ms' acc => ms' = (m, .raw (.frz od (.dK vs))) :: ms ∧ acc = cntD (((cntF ks).take i).filter fun p => decide (p.2 > 0) && !decide (p.1 = 32)), ⟨rfl, rfl⟩, ?_, ?_, ?_⟩
    · rintro i F' ms' acc e' ⟨rfl, rfl⟩
      exact ⟨0, rfl⟩
    · rintro i d F2 ms2 acc e2 hd ⟨rfl, rfl⟩ F3 e3
      have hp : ∃ p : Nat × Int, (cntF ks)[i]? = some p ∧ d = .tup [.str (sg p.1), .int p.2] := by
        unfold itemsD cntD at hd
        rw [List.map_map, List.getElem?_map] at hd
        cases e : (cntF ks)[i]? with
        | none => rw [e] at hd; cases hd
        | some p => rw [e] at hd; exact ⟨p, rfl, (Option.some.inj hd).symm⟩
      obtain ⟨p, hp, rfl⟩ := hp
      refine ag_tup rfl ?_
      refine ags_cons (ag_name ?_)
      refine ags_cons (ag_name ?_)
      refine ags_nil ?_
      have hft := List.length_filter_le (fun p : Nat × Int => decide (p.2 > 0) && !decide (p.1 = 32)) ((cntF ks).take i)
      have hft2 : ((cntF ks).take i).length ≤ 48 := by rw [List.length_take]; omega
      have fin : ∀ b : Bool, b = (decide (p.2 > 0) && !decide (p.1 = 32)) → (((cntF ks).take (i + 1)).filter fun p => decide (p.2 > 0) && !decide (p.1 = 32)) = if b = true then setC (((cntF ks).take i).filter fun p => decide (p.2 > 0) && !decide (p.1 = 32)) p.1 p.2 else ((cntF ks).take i).filter fun p => decide (p.2 > 0) && !decide (p.1 = 32) := by
        intro b hb
        rw [List.take_succ, hp, List.filter_append]
        cases b with
        | false => simp [← hb]
        | true =>
          rw [if_pos rfl, setC_new]
          · simp [← hb]
          · intro r hr e
            have hr := (List.mem_filter.mp hr).1
            exact nd_take (cnt_nd ks) hp r hr e
      have s32 : decide (sg p.1 = Str.ofString " ") = decide (p.1 = 32) := by
        by_cases e : p.1 = 32
        · rw [e]; rfl
        · rw [decide_eq_false e, decide_eq_false]
          intro h
          rw [← show sg 32 = Str.ofString " " from rfl] at h
          exact e (by simpa [sg] using congrArg Str.cps h)
      walk_at "al"
      refine ⟨fun hb => ?_, fun hb => ⟨fun z => Bool.noConfusion z, fun _ => ?_⟩⟩
      · walk_at "al"
        refine ⟨fun hb2 => ?_, fun hb2 => ?_⟩
        · walk_at "al"
          refine ⟨kS p.1, rfl, ?_⟩
          walk_at "al"
          refine ⟨by unfold cntD; rw [List.length_map]; omega, rfl, ?_⟩
          rw [put_cnt]
          have := fin true (by rw [show decide (p.2 > 0) = true from hb, ← s32, hb2]; rfl)
          rw [if_pos rfl] at this
          rw [this]
        · refine ⟨rfl, ?_⟩
          have := fin false (by rw [show decide (p.2 > 0) = true from hb, ← s32, hb2]; rfl)
          rw [if_neg (by decide)] at this
          rw [this]
      · refine ⟨rfl, ?_⟩
        have := fin false (by rw [show decide (p.2 > 0) = false from hb]; rfl)
        rw [if_neg (by decide)] at this
        rw [this]
    · rintro F2 ms2 acc e2 ⟨rfl, rfl⟩ l
      refine ⟨1, rfl, 0, l, _, rfl, rfl, fun F3 e3 => ⟨0, by simp, ?_⟩⟩
      have := q F3 (e1.trans (e2.trans e3))
      have hl : (itemsD (cntD (cntF ks))).length = (cntF ks).length := by unfold itemsD cntD; rw [List.length_map, List.length_map]
      rw [hl, List.take_length]
      exact this
end

theorem row_lt {w : Int} {z : Str} (h : okRow w z) (i : Nat) : z.cps.toList.getD i 0 < 128 := by
  rw [List.getD_eq_getElem?_getD]
  cases e : z.cps.toList[i]? with
  | none => show 0 < 128; decide
  | some c =>
    show c < 128
    rcases h.2 c (List.mem_of_getElem? e) with r | r
    · rw [r]; decide
    · exact inL_lt r
theorem pc_lt {ps : List Pr} (h : ∀ c ∈ flat ps, inL c) {c : Nat} (hc : c < 128) : pc ps c < 128 := by
  unfold pc
  cases e : ps.find? (fun p => c = p.1 ∨ c = p.2) with
  | none => exact hc
  | some p =>
    have hp := List.mem_of_find?_eq_some e
    have : p.1 < 128 := inL_lt (h p.1 (List.mem_flatMap.mpr ⟨p, hp, by simp⟩))
    show min p.1 p.2 < 128
    omega
theorem links_lt {ps : List Pr} {w : Int} {b a : Str} (h : ∀ c ∈ flat ps, inL c) (hb : okRow w b) (ha : okRow w a) (n : Nat) : ∀ k ∈ linksF ps b.cps.toList a.cps.toList n, k.2.1 < 128 ∧ k.2.2 < 128 := by
  intro k hk
  unfold linksF at hk
  obtain ⟨i, _, hi⟩ := List.mem_filterMap.mp hk
  unfold lkAt at hi
  split at hi
  · cases hi
  · cases hi
    exact ⟨pc_lt h (row_lt hb i), pc_lt h (row_lt ha i)⟩
theorem tog_mem {k : Lk} {f : List (List Lk)} {x : Lk} (h : x ∈ togF k f) : x = k ∨ x ∈ f.flatten := by
  have gen : ∀ (l : List (List Lk)) (t : List Lk), x ∈ l.foldl (fun t g => g ++ t) t → x ∈ t ∨ x ∈ l.flatten := by
    intro l
    induction l with
    | nil => intro t h; exact .inl h
    | cons g l ih =>
      intro t h
      rw [List.foldl_cons] at h
      rcases ih _ h with r | r
      · rcases List.mem_append.mp r with r | r
        · exact .inr (by rw [List.flatten_cons]; exact List.mem_append_left _ r)
        · exact .inl r
      · exact .inr (by rw [List.flatten_cons]; exact List.mem_append_right _ r)
  rcases gen _ _ h with r | r
  · exact .inl (by simpa using r)
  · obtain ⟨g, hg, hx⟩ := List.mem_flatten.mp r
    exact .inr (List.mem_flatten.mpr ⟨g, (List.mem_filter.mp hg).1, hx⟩)
theorem groups_mem (ks : List Lk) {x : Lk} (h : x ∈ (groupsF ks).flatten) : x ∈ ks := by
  have gen : ∀ (ks : List Lk) (f : List (List Lk)), x ∈ (ks.foldl stepG f).flatten → x ∈ f.flatten ∨ x ∈ ks := by
    intro ks
    induction ks with
    | nil => intro f h; exact .inl h
    | cons k ks ih =>
      intro f h
      rcases ih _ h with r | r
      · unfold stepG at r
        rw [List.flatten_append] at r
        rcases List.mem_append.mp r with r | r
        · obtain ⟨g, hg, hx⟩ := List.mem_flatten.mp r
          exact .inl (List.mem_flatten.mpr ⟨g, (List.mem_filter.mp hg).1, hx⟩)
        · have r : x ∈ togF k f := by simpa using r
          rcases tog_mem r with r | r
          · exact .inr (by rw [r]; exact List.mem_cons_self ..)
          · exact .inl r
      · exact .inr (List.mem_cons_of_mem _ r)
  rcases gen ks [] h with r | r
  · cases r
  · exact r
section
variable {P : Program} {w : World} {K : Frg} {mg : Str → Option Value} {base : Heap}
theorem ok_cost (T : Txt K mg) (G_Sign_piece : OK_Sign_piece P w base T) (G_links : OK_links P w base T) (G_surplus : OK_surplus P w base T) (G_groups : OK_groups P w base T) (G_is_closed : OK_is_closed P w base T) : OK_cost P w base T := by
  refine fn_ok T.F_cost sc_cost (by rintro _ _ _ _ _ ⟨x, wd, ps, b, a, rfl, _⟩; rfl) (fun cdv A outer s H E hr => ?_)
  have hu64 := hr.units
  refine ⟨_, (pss_cons (ps_set (i := 3) sc_cost.nd rfl (by first | exact Or.inl rfl | exact Or.inr rfl) (pe_call G_links (hr.mono (by first | decide | omega)) (by rfl) T.m_links T.F_links.kp T.b_links .nil pass0 (pa_cons (pv 0) (pa_cons (pv 1) (pa_cons (pv 2) pa_nil)))))
      (pss_cons (ps_set (i := 4) sc_cost.nd rfl (by first | exact Or.inl rfl | exact Or.inr rfl) (pe_callB (kLEN (K := K) rfl) (by rfl) T.g_len boot_len (pa_cons (pe_lc rfl sc_cost.nd (pi_listk (K := K) rfl (pv 3)) (own := [("place", 5), ("old", 6), ("new", 7)]) (@BlkOk.mk N_cost (defScope s_cost) _ _ rfl (by decide +kernel) (by decide +kernel) (by decide +kernel) (by decide +kernel)) (fun _ _ _ _ _ => (pg_tupk (K := K) (n := 3) rfl rfl (pgs_cons (pg_name (i := 5) sc_cost.nd rfl (by first | exact Or.inl rfl | exact Or.inr rfl)) (pgs_cons (pg_name (i := 6) sc_cost.nd rfl (by first | exact Or.inl rfl | exact Or.inr rfl)) (pgs_cons (pg_name (i := 7) sc_cost.nd rfl (by first | exact Or.inl rfl | exact Or.inr rfl)) pgs_nil))))) (fun _ _ _ _ _ => (pts_one (pt_cmpR (kNE (K := K) rfl hu64) (pv 7) (pe_glob (by rfl) T.m_BLANK T.r_BLANK) (nomark _)))) (fun _ _ _ _ _ => (pv 7))) pa_nil)))
      (pss_cons (ps_set (i := 8) sc_cost.nd rfl (by first | exact Or.inl rfl | exact Or.inr rfl) (pe_callB (kLEN (K := K) rfl) (by rfl) T.g_len boot_len (pa_cons (pe_lc rfl sc_cost.nd (pi_listk (K := K) rfl (pe_call G_groups (hr.mono (by first | decide | omega)) (by rfl) T.m_groups T.F_groups.kp T.b_groups .nil pass0 (pa_cons (pv 3) pa_nil))) (own := [("group", 9)]) (@BlkOk.mk N_cost (defScope s_cost) _ _ rfl (by decide +kernel) (by decide +kernel) (by decide +kernel) (by decide +kernel)) (fun _ _ _ _ _ => (pg_name (i := 9) sc_cost.nd rfl (by first | exact Or.inl rfl | exact Or.inr rfl))) (fun _ _ _ _ _ => (pts_one (pt_val (pe_call G_is_closed (hr.mono (by first | decide | omega)) (by rfl) T.m_is_closed T.F_is_closed.kp T.b_is_closed .nil pass0 (pa_cons (pv 9) pa_nil))))) (fun _ _ _ _ _ => (pv 9))) pa_nil)))
      (pss_cons (ps_set (i := 10) sc_cost.nd rfl (by first | exact Or.inl rfl | exact Or.inr rfl) pe_int)
      (pss_cons (ps_for PassesOwn.never rfl (pi_zipS (by rfl) T.g_zip (pa_cons (pv 1) (pa_cons (pv 2) pa_nil))) (pg_tupk (K := K) (n := 2) rfl rfl (pgs_cons (pg_name (i := 6) sc_cost.nd rfl (by first | exact Or.inl rfl | exact Or.inr rfl)) (pgs_cons (pg_name (i := 7) sc_cost.nd rfl (by first | exact Or.inl rfl | exact Or.inr rfl)) pgs_nil))) (pss_one (ps_aug (i := 10) sc_cost.nd rfl (by first | exact Or.inl rfl | exact Or.inr rfl) (pe_callTy call_INT (by rfl) T.g_int boot_int (pa_cons (pe_and (pe_cmpR (kNE (K := K) rfl hu64) (pv 6) (pv 7) (nomark _)) (pe_one (pe_cmpR (kEQ (K := K) rfl hu64) (pe_meth (pv 0) T.k_Sign T.Me_Sign_piece G_Sign_piece (hr.mono (by first | decide | omega)) T.b_Sign_piece .nil pass0 (pa_cons (pv 6) pa_nil)) (pe_meth (pv 0) T.k_Sign T.Me_Sign_piece G_Sign_piece (hr.mono (by first | decide | omega)) T.b_Sign_piece .nil pass0 (pa_cons (pv 7) pa_nil)) (nomark _)))) pa_nil)) ip_add)))
      (pss_one (ps_ret (pe_tup (pa_cons (pe_op (kADD (K := K) rfl) (pe_op (kADD (K := K) rfl) (pv 4) (pe_sumVals rfl (by rfl) T.g_sum (pe_call G_surplus (hr.mono (by first | decide | omega)) (by rfl) T.m_surplus T.F_surplus.kp T.b_surplus .nil pass0 (pa_cons (pv 3) pa_nil)))) (pv 8)) (pa_cons (pv 10) pa_nil)))))))))), ?_⟩
  rintro _ F ms Q Ea ⟨x, wd, ps, b, a, rfl, hS, hw0, hw24, hin, hb, ha, q⟩
  walk_at "al"
  refine ⟨x, wd, ps, b, a, rfl, hS, hw0, hw24, hb.1, ha.1, fun F1 e1 => ?_⟩
  generalize hks : linksF ps b.cps.toList a.cps.toList wd.toNat = ks
  have hk24 : ks.length ≤ 24 := by
    rw [← hks]
    have := links_len ps b.cps.toList a.cps.toList wd.toNat
    omega
  walk_at "al"
  refine ae_lc (gw_tup (gws_cons gm_name (gw_name (by simp)) (gws_cons gm_name (gw_name (by simp)) (gws_cons gm_name (gw_name (by simp)) gws_nil)))) (gm_tup (gms_cons gm_name (gms_cons gm_name (gms_cons gm_name gms_nil)))) ?_
  refine ai_list ?_
  walk_at "al"
  refine .inl ⟨_, .inl rfl, fun n F' ms' acc => ms' = ms ∧ acc = (((ks.take n).filter fun k => !decide (k.2.2 = 32)).map fun k => sg k.2.2).map D.str, ⟨rfl, rfl⟩, fun _ _ _ _ _ _ => trivial, ?_, ?_⟩
  · rintro n d F2 ms1 acc e2 hd ⟨rfl, rfl⟩ F3 e3
    obtain ⟨k1, hk, rfl⟩ := links_at hd
    have hn : n < ks.length := (List.getElem?_eq_some_iff.mp hk).1
    refine ag_tup rfl ?_
    refine ags_cons (ag_name ?_)
    refine ags_cons (ag_name ?_)
    refine ags_cons (ag_name ?_)
    refine ags_nil ?_
    have hfl := List.length_filter_le (fun k : Lk => !decide (k.2.2 = 32)) (ks.take n)
    have hf2 : (ks.take n).length ≤ 24 := by rw [List.length_take]; omega
    walk_at "al"
    refine ⟨fun hb => ?_, fun hb => ?_⟩
    · have h32 : k1.2.2 ≠ 32 := fun z => by
        rw [z] at hb
        simp [show sg 32 = Str.ofString " " from rfl] at hb
      walk_at "al"
      refine ⟨by rw [List.length_map, List.length_map]; omega, rfl, ?_⟩
      rw [List.take_succ, hk, List.filter_append, List.map_append, List.map_append]
      simp [h32]
    · have h32 : k1.2.2 = 32 := by
        have hb := of_decide_eq_true (by simpa using hb : decide (sg k1.2.2 = Str.ofString " ") = true)
        rw [← show sg 32 = Str.ofString " " from rfl] at hb
        simpa [sg] using congrArg Str.cps hb
      refine ⟨rfl, ?_⟩
      rw [List.take_succ, hk, List.filter_append]
      simp [h32]
  rintro F2 ms1 acc e2 ⟨rfl, rfl⟩ F3 e3
  rw [List.length_map, List.take_length]
  have hfl := List.length_filter_le (fun k : Lk => !decide (k.2.2 = 32)) ks
  walk_at "al"
  rw [List.length_map, List.length_map]
  obtain ⟨gl1, gl2⟩ := groups_len ks
  have klt := links_lt hin hb ha wd.toNat
  rw [hks] at klt
  refine ae_lc (gw_name (by simp)) gm_name ?_
  refine ai_list ?_
  walk_at "al"
  refine ⟨ks, rfl, hk24, fun F4 e4 => ?_⟩
  refine .inl ⟨_, .inl rfl, fun n F' ms' acc => ms' = ms1 ∧ acc = (((groupsF ks).take n).filter closedF).map gD, ⟨rfl, rfl⟩, fun _ _ _ _ _ _ => trivial, ?_, ?_⟩
  · rintro n d F5 ms1 acc e5 hd ⟨rfl, rfl⟩ F6 e6
    obtain ⟨g, hg, rfl⟩ := gd_at hd
    have hgm := List.mem_of_getElem? hg
    have hgl := mem_flat_len hg
    refine ag_name ?_
    have hfl := List.length_filter_le closedF ((groupsF ks).take n)
    have hf2 : ((groupsF ks).take n).length ≤ 24 := by rw [List.length_take]; omega
    walk_at "al"
    refine ⟨g, rfl, by omega, fun k hk => klt k (groups_mem ks (List.mem_flatten.mpr ⟨g, hgm, hk⟩)), fun F7 e7 => ?_⟩
    walk_at "al"
    have tk : (((groupsF ks).take (n + 1)).filter closedF) = if closedF g = true then ((groupsF ks).take n).filter closedF ++ [g] else ((groupsF ks).take n).filter closedF := by
      rw [List.take_succ, hg, List.filter_append]
      cases h : closedF g with
      | true => simp [h]
      | false => simp [h]
    refine ⟨fun hc => ?_, fun hc => ?_⟩
    · rw [if_pos hc] at tk
      walk_at "al"
      refine ⟨by rw [List.length_map]; omega, rfl, ?_⟩
      rw [tk, List.map_append]
      rfl
    · rw [hc, if_neg (by decide)] at tk
      exact ⟨rfl, by rw [tk]⟩
  rintro F5 ms1 acc e5 ⟨rfl, rfl⟩ F6 e6
  rw [List.length_map, List.take_length]
  have hlb : (b.cps.toList).length = b.length := Array.length_toList
  have hla : (a.cps.toList).length = a.length := Array.length_toList
  have hb1 := hb.1
  have ha1 := ha.1
  have hcb : (charsD b).length = wd.toNat := by unfold charsD; rw [List.length_map]; omega
  have hca : (charsD a).length = wd.toNat := by unfold charsD; rw [List.length_map]; omega
  walk_at "al"
  rw [List.length_map]
  refine as_for ?_
  refine ai_zipS ?_
  walk_at "al"
  refine ⟨b, a, rfl, by omega, ?_⟩
  refine ⟨fun n F' ms' S' => ms' = ms1 ∧ ∃ u v, S' = [some (.ref x), some (.str b), some (.str a), some (.lst (ks.map lD)), some (.int ((ks.filter fun k => !decide (k.2.2 = 32)).length : Int)), none, u, v, some (.int (((groupsF ks).filter closedF).length : Int)), none, some (.int (turnedF ps b.cps.toList a.cps.toList n))], ⟨rfl, none, none, rfl⟩, fun _ _ _ _ _ _ => trivial, ?_, ?_⟩
  · rintro n d F7 ms7 S7 e7 hd ⟨rfl, u, v, rfl⟩ F8 e8
    have hn : n < wd.toNat := by
      have := (List.getElem?_eq_some_iff.mp hd).1
      rw [zipD_len (by omega)] at this
      omega
    have hnb : b.cps.toList[n]? = some (b.cps.toList.getD n 0) := by rw [List.getD_eq_getElem?_getD, List.getElem?_eq_getElem (by omega)]; rfl
    have hna : a.cps.toList[n]? = some (a.cps.toList.getD n 0) := by rw [List.getD_eq_getElem?_getD, List.getElem?_eq_getElem (by omega)]; rfl
    have hz := zipD_get (xs := charsD b) (ys := charsD a) (i := n) (d := .str (sg (b.cps.toList.getD n 0))) (e := .str (sg (a.cps.toList.getD n 0))) (by unfold charsD; rw [List.getElem?_map, hnb]; rfl) (by unfold charsD; rw [List.getElem?_map, hna]; rfl)
    rw [hz] at hd
    cases hd
    generalize hcc : b.cps.toList.getD n 0 = c at hz
    generalize hdd : a.cps.toList.getD n 0 = d at hz
    obtain ⟨i, j, m, hi, hj⟩ := hS
    have fin : turnedF ps b.cps.toList a.cps.toList (n + 1) = turnedF ps b.cps.toList a.cps.toList n + (if (decide (c ≠ d) && decide (pc ps c = pc ps d)) = true then 1 else 0) := by
      unfold turnedF
      rw [List.range_succ, List.filter_append, List.length_append]
      rw [Int.natCast_add]
      congr 1
      rw [List.filter_cons, hcc, hdd, List.filter_nil]
      by_cases h : (decide (c ≠ d) && decide (pc ps c = pc ps d)) = true
      · rw [if_pos h, if_pos h]; rfl
      · rw [if_neg h, if_neg h]; rfl
    refine ag_tup rfl ?_
    refine ags_cons (ag_name ?_)
    refine ags_cons (ag_name ?_)
    refine ags_nil ?_
    walk_at "al"
    refine as_aug rfl ?_
    walk_at "al"
    refine ⟨fun hb => ?_, fun hb => ?_⟩
    · have hne : c ≠ d := fun z => by
        rw [z] at hb
        simp at hb
      walk_at "al"
      refine ae_meth ?_
      walk_at "al"
      refine ⟨x, fldS m wd ps, rfl, .inr ⟨i, hi⟩, fld_no (by decide +kernel) (by decide +kernel) (by decide +kernel), ?_⟩
      walk_at "al"
      refine ⟨x, wd, ps, _, rfl, ⟨i, j, m, hi, hj⟩, ?_⟩
      rw [pieceS_pc]
      walk_at "al"
      refine ae_meth ?_
      walk_at "al"
      refine ⟨x, fldS m wd ps, rfl, .inr ⟨i, hi⟩, fld_no (by decide +kernel) (by decide +kernel) (by decide +kernel), ?_⟩
      walk_at "al"
      refine ⟨x, wd, ps, _, rfl, ⟨i, j, m, hi, hj⟩, ?_⟩
      rw [pieceS_pc]
      walk_at "al"
      refine ac_intB ?_
      refine ⟨_, rfl, rfl, some (.str (sg c)), some (.str (sg d)), ?_⟩
      rw [fin, decide_eq_true hne, Bool.true_and, ← decide_eq_decide.mpr (sg_inj (a := pc ps c) (b := pc ps d))]
      rfl
    · have he : c = d := by
        have hb := of_decide_eq_true (by simpa using hb : decide (sg c = sg d) = true)
        exact sg_inj.mp hb
      walk_at "al"
      refine ac_intB ?_
      refine ⟨_, rfl, rfl, some (.str (sg c)), some (.str (sg d)), ?_⟩
      rw [fin, decide_eq_false (fun z => z he), Bool.false_and]
      rfl
  · rintro F7 ms7 S7 e7 ⟨rfl, u, v, rfl⟩
    rw [zipD_len (by omega), hcb]
    walk_at "al"
    refine ae_tup ?_
    walk_at "al"
    refine ae_sumVals ?_
    walk_at "al"
    refine ⟨ks, rfl, hk24, fun F8 e8 => ?_⟩
    refine ⟨cntD (surF ks), (surF ks).map (·.2), .inl rfl, by unfold cntD; rw [List.map_map, List.map_map]; rfl, ?_⟩
    walk_at "al"
    refine ⟨by simp, fun F9 e9 => ?_⟩
    have := q F9 (by exact e1.trans (e2.trans (e3.trans (e4.trans (e5.trans (e6.trans (e7.trans (e8.trans e9))))))))
    unfold costD carriedF at this
    rw [hks] at this
    exact this
end

theorem mulS_all (n : Int) : ∀ c ∈ (mulS sp1 n).cps.toList, c = 32 := by
  intro c hc
  have hc : c ∈ (List.replicate n.toNat [32]).flatten := hc
  obtain ⟨l, hl, hc⟩ := List.mem_flatten.mp hc
  rw [List.eq_of_mem_replicate hl] at hc
  simpa using hc
theorem cps_app (a b : Str) : (a ++ b).cps.toList = a.cps.toList ++ b.cps.toList := Array.toList_append ..
theorem blank_ok {w : Int} (h : 0 ≤ w) : okRow w (mulS sp1 w) := ⟨by rw [mulS_len1]; omega, fun c hc => .inl (mulS_all w c hc)⟩
theorem shown_ok {w o : Int} {t : Str} (ht : textOk w t) (h0 : 0 ≤ o) (h1 : o + (t.length : Int) ≤ w) : okRow w (shown w t o) := by
  refine ⟨?_, fun c hc => ?_⟩
  · unfold shown
    rw [str_len_add, str_len_add, mulS_len1, mulS_len1]
    omega
  · unfold shown at hc
    rw [cps_app, cps_app] at hc
    rcases List.mem_append.mp hc with hc | hc
    · rcases List.mem_append.mp hc with hc | hc
      · exact .inl (mulS_all _ c hc)
      · exact ht.2.2.1 c hc
    · exact .inl (mulS_all _ c hc)
theorem layK_get : ∀ (L : Lay) (n i : Nat), (layK n L)[i]? = (L[i]?).map fun v => ((.inl ((n + i : Nat) : Int) : Key), vD v)
  | [], n, i => by simp [layK]
  | v :: L, n, 0 => by simp [layK]
  | v :: L, n, i + 1 => by
    unfold layK
    rw [List.getElem?_cons_succ, layK_get L (n + 1) i, List.getElem?_cons_succ, show n + 1 + i = n + (i + 1) by omega]
theorem layK_len : ∀ (L : Lay) (n : Nat), (layK n L).length = L.length
  | [], _ => rfl
  | v :: L, n => by unfold layK; rw [List.length_cons, List.length_cons, layK_len L]
theorem layK_app : ∀ (L : Lay) (n : Nat) (v : Cst × Int), layK n (L ++ [v]) = layK n L ++ [(.inl ((n + L.length : Nat) : Int), vD v)]
  | [], n, v => rfl
  | u :: L, n, v => by
    show (_, _) :: layK (n + 1) (L ++ [v]) = (_, _) :: (layK (n + 1) L ++ _)
    rw [layK_app L (n + 1) v, List.length_cons, show n + 1 + L.length = n + (L.length + 1) by omega]
theorem put_lay {L : Lay} {i : Nat} (h : L.length = i) (v : Cst × Int) : putKD (layK 0 L) (.inl (i : Int)) (vD v) = layK 0 (L ++ [v]) := by
  unfold putKD
  rw [if_neg, layK_app, Nat.zero_add, h]
  intro hh
  obtain ⟨kv, hm, hk⟩ := List.any_eq_true.mp hh
  obtain ⟨j, hj⟩ := List.getElem?_of_mem hm
  have hjl := (List.getElem?_eq_some_iff.mp hj).1
  rw [layK_len] at hjl
  rw [layK_get] at hj
  cases e : L[j]? with
  | none => rw [e] at hj; cases hj
  | some v =>
    rw [e] at hj
    cases hj
    have hk := of_decide_eq_true hk
    injection hk with hk
    omega
theorem tots_get {ps : List Pr} {w : Int} {row t : Str} {L : Lay} {i : Nat} {v : Cst × Int} (h : L[i]? = some v) : (tots ps w row t L)[i]? = some (addC (costP ps row (shown w t (i : Int)) w) v.1, v.2) := by
  unfold tots
  rw [List.getElem?_map, List.getElem?_zipIdx, h]
  simp
theorem tots_len {ps : List Pr} {w : Int} {row t : Str} {L : Lay} : (tots ps w row t L).length = L.length := by
  unfold tots
  rw [List.length_map, List.length_zipIdx]
theorem fold_some : ∀ (L : Lay) (b : Cst) (y : Int), ∃ c, (L.foldl stepB (some b, y)).1 = some c
  | [], b, y => ⟨b, rfl⟩
  | v :: L, b, y => by
    rw [List.foldl_cons]
    show ∃ c, (L.foldl stepB (if ltC v.1 b = true then (some v.1, v.2) else if v.1 = b then (some b, y + v.2) else (some b, y))).1 = some c
    split
    · exact fold_some L _ _
    · split
      · exact fold_some L _ _
      · exact fold_some L _ _
theorem best_some {ps : List Pr} {w : Int} {row t : Str} {L : Lay} (h : L ≠ []) : ∃ c, (bestF ps w row t L).1 = some c := by
  unfold bestF
  cases e : tots ps w row t L with
  | nil =>
    have := tots_len (ps := ps) (w := w) (row := row) (t := t) (L := L)
    rw [e] at this
    exact absurd (List.length_eq_zero_iff.mp this.symm) h
  | cons v r => exact fold_some r _ _
theorem lex_lt (a b : Cst) : HT.lexLt [a.1, a.2] [b.1, b.2] = ltC a b := by
  unfold ltC
  show (if a.1 = b.1 then (if a.2 = b.2 then HT.lexLt [] [] else decide (a.2 < b.2)) else decide (a.1 < b.1)) = _
  by_cases h1 : a.1 = b.1
  · rw [if_pos h1, if_pos h1]
    by_cases h2 : a.2 = b.2
    · rw [if_pos h2, h2]
      simp [HT.lexLt]
    · rw [if_neg h2]
  · rw [if_neg h1, if_neg h1]
theorem eqv_cD (a b : Cst) : eqvD (cD a) (cD b) = decide (a = b) := by
  obtain ⟨a1, a2⟩ := a
  obtain ⟨b1, b2⟩ := b
  simp only [eqvD, cD, toPy, toPyL, PyData.eqv, PyData.eqvAll]
  by_cases h1 : a1 = b1 <;> by_cases h2 : a2 = b2 <;> simp [h1, h2]
theorem Sgn.setR {C : Addr} {ms : Ms} {x l : Addr} {w : Int} {ps : List Pr} {n : Nat} {L : Lay} {m' : MO} (hn : ms[n]? = some (l, .dic (layK 0 L))) (hL : L ≠ []) : Sgn C ms x w ps → Sgn C (ms.set n (l, m')) x w ps := fun ⟨i, j, m, h1, h2⟩ => by
  refine ⟨i, j, m, ?_, ?_⟩
  · rw [List.getElem?_set_ne]
    · exact h1
    · rintro rfl
      rw [hn] at h1
      cases h1
  · rw [List.getElem?_set_ne]
    · exact h2
    · rintro rfl
      rw [hn] at h2
      injection h2 with h2
      injection h2 with _ h2
      injection h2 with h2
      cases L with
      | nil => exact hL rfl
      | cons v L =>
        cases ps with
        | nil => cases h2
        | cons p ps =>
          injection h2 with h2 _
          injection h2 with h2 _
          cases h2
theorem offN_pos {w : Int} {t : Str} (h : textOk w t) : 1 ≤ offN w t ∧ (offN w t : Int) = w - t.length + 1 := by
  have := h.2.1
  unfold offN
  omega
section
variable {P : Program} {w : World} {K : Frg} {mg : Str → Option Value} {base : Heap}
theorem ok_Sign_blank (T : Txt K mg) : OK_Sign_blank P w base T := by
  refine fn_ok T.F_Sign_blank sc_Sign_blank (by rintro _ _ _ _ _ ⟨x, w, ps, rfl, _⟩; rfl) (fun cdv A outer s H E hr => ?_)
  have hu64 := hr.units
  refine ⟨_, (pss_one (ps_ret (pe_op (kMUL (K := K) rfl) (pe_glob (by rfl) T.m_BLANK T.r_BLANK) (pe_fldk (K := K) rfl (pv 0) (by rfl))))), ?_⟩
  rintro _ F ms Q Ea ⟨x, w, ps, rfl, ⟨i, j, m, hi, hj⟩, w0, w1, q⟩
  walk_at "al"
  refine ae_fld ?_
  walk_at "al"
  refine ⟨x, T.c_Sign, fldS m w ps, .int w, rfl, .inr ⟨i, hi⟩, T.k_Sign, T.n_Sign_width, rfl, ?_⟩
  refine ar_MULs (z := sp1) (by omega) (by omega) (by show 1 * w.toNat ≤ 100000; omega) ?_
  exact q
theorem ok_Sign_row_of (T : Txt K mg) : OK_Sign_row_of P w base T := by
  refine fn_ok T.F_Sign_row_of sc_Sign_row_of (by rintro _ _ _ _ _ ⟨x, w, ps, t, o, rfl, _⟩; rfl) (fun cdv A outer s H E hr => ?_)
  have hu64 := hr.units
  refine ⟨_, (pss_one (ps_ret (pe_op (kADD (K := K) rfl) (pe_op (kADD (K := K) rfl) (pe_op (kMUL (K := K) rfl) (pe_glob (by rfl) T.m_BLANK T.r_BLANK) (pv 2)) (pv 1)) (pe_op (kMUL (K := K) rfl) (pe_glob (by rfl) T.m_BLANK T.r_BLANK) (pe_op op_sub (pe_op op_sub (pe_fldk (K := K) rfl (pv 0) (by rfl)) (pv 2)) (pe_callB (kLEN (K := K) rfl) (by rfl) T.g_len boot_len (pa_cons (pv 1) pa_nil))))))), ?_⟩
  rintro _ F ms Q Ea ⟨x, w, ps, t, o, rfl, ⟨i, j, m, hi, hj⟩, w1, o0, ow, q⟩
  walk_at "al"
  refine ar_MULs (z := sp1) (by omega) (by omega) (by show 1 * o.toNat ≤ 100000; omega) ?_
  walk_at "al"
  have l1 := mulS_len1 o
  refine ar_ADDs (i := mulS sp1 o) (j := t) (by omega) ?_
  walk_at "al"
  refine ae_fld ?_
  walk_at "al"
  refine ⟨x, T.c_Sign, fldS m w ps, .int w, rfl, .inr ⟨i, hi⟩, T.k_Sign, T.n_Sign_width, rfl, ?_⟩
  walk_at "al"
  refine ac_lenS (z := t) (by omega) ?_
  walk_at "al"
  refine ar_MULs (z := sp1) (by omega) (by omega) (by show 1 * (w - o - t.length).toNat ≤ 100000; omega) ?_
  have l2 := mulS_len1 (w - o - t.length)
  refine ar_ADDs (by rw [str_len_add]; omega) ?_
  exact q
theorem ok_offsets_of (T : Txt K mg) : OK_offsets_of P w base T := by
  refine fn_ok T.F_offsets_of sc_offsets_of (by rintro _ _ _ _ _ ⟨x, w, ps, t, rfl, _⟩; rfl) (fun cdv A outer s H E hr => ?_)
  have hu64 := hr.units
  refine ⟨_, (pss_one (ps_ret (pe_listRg rfl (by rfl) T.g_list (prg_1 (by rfl) T.g_range (pe_op (kADD (K := K) rfl) (pe_op op_sub (pe_fldk (K := K) rfl (pv 0) (by rfl)) (pe_callB (kLEN (K := K) rfl) (by rfl) T.g_len boot_len (pa_cons (pv 1) pa_nil))) pe_int))))), ?_⟩
  rintro _ F ms Q Ea ⟨x, wd, ps, t, rfl, ⟨i, j, m, hi, hj⟩, w1, ht, q⟩
  have t2 := ht.2.1
  walk_at "al"
  refine ae_listRg1 ?_
  walk_at "al"
  refine ae_fld ?_
  walk_at "al"
  refine ⟨x, T.c_Sign, fldS m wd ps, .int wd, rfl, .inr ⟨i, hi⟩, T.k_Sign, T.n_Sign_width, rfl, ?_⟩
  walk_at "al"
  refine ac_lenS (z := t) (by omega) ?_
  walk_at "al"
  exact ⟨by omega, by omega, fun F2 e2 => q F2 e2⟩
theorem ok_add (T : Txt K mg) : OK_add P w base T := by
  refine fn_ok T.F_add sc_add (by rintro _ _ _ _ _ ⟨a, b, rfl, _⟩; rfl) (fun cdv A outer s H E hr => ?_)
  have hu64 := hr.units
  refine ⟨_, (pss_one (ps_ret (pe_tup (pa_cons (pe_op (kADD (K := K) rfl) (pe_ix (kIX (K := K) rfl) (pv 0) pe_int (fun _ _ => rfl)) (pe_ix (kIX (K := K) rfl) (pv 1) pe_int (fun _ _ => rfl))) (pa_cons (pe_op (kADD (K := K) rfl) (pe_ix (kIX (K := K) rfl) (pv 0) pe_int (fun _ _ => rfl)) (pe_ix (kIX (K := K) rfl) (pv 1) pe_int (fun _ _ => rfl))) pa_nil))))), ?_⟩
  rintro _ F ms Q Ea ⟨a, b, rfl, q⟩
  walk_at "al"
  refine ae_tup ?_
  walk_at "al"
  refine ar_ixT (d := .int a.1) rfl ?_
  walk_at "al"
  refine ar_ixT (d := .int b.1) rfl ?_
  walk_at "al"
  refine ar_ixT (d := .int a.2) rfl ?_
  walk_at "al"
  refine ar_ixT (d := .int b.2) rfl ?_
  walk_at "al"
  exact ⟨by simp, fun F1 e1 => q F1 e1⟩
theorem ok_fixed_cost (T : Txt K mg) (G_Sign_check_texts : OK_Sign_check_texts P w base T) (G_check_offsets : OK_check_offsets P w base T) (G_Sign_blank : OK_Sign_blank P w base T) (G_Sign_row_of : OK_Sign_row_of P w base T) (G_cost : OK_cost P w base T) (G_add : OK_add P w base T) : OK_fixed_cost P w base T := by
  refine fn_ok T.F_fixed_cost sc_fixed_cost (by rintro _ _ _ _ _ ⟨x, wd, ps, ts, os, rfl, _⟩; rfl) (fun cdv A outer s H E hr => ?_)
  have hu64 := hr.units
  refine ⟨_, (pss_cons (ps_expr (pe_meth (pv 0) T.k_Sign T.Me_Sign_check_texts G_Sign_check_texts (hr.mono (by first | decide | omega)) T.b_Sign_check_texts .nil pass0 (pa_cons (pv 1) pa_nil)))
      (pss_cons (ps_expr (pe_call G_check_offsets (hr.mono (by first | decide | omega)) (by rfl) T.m_check_offsets T.F_check_offsets.kp T.b_check_offsets .nil pass0 (pa_cons (pv 0) (pa_cons (pv 1) (pa_cons (pv 2) pa_nil)))))
      (pss_cons (ps_par (i := 3) (j := 4) rfl sc_fixed_cost.nd rfl rfl (by decide) rfl rfl (pa_cons (pe_tup (pa_cons pe_int (pa_cons pe_int pa_nil))) (pa_cons (pe_prop (pv 0) T.k_Sign T.P_Sign_blank G_Sign_blank (hr.mono (by first | decide | omega)) T.b_Sign_blank .nil pass0 (by rfl)) pa_nil)) (by rfl))
      (pss_cons (ps_for PassesOwn.never rfl (pi_zipk (K := K) rfl (by rfl) T.g_zip (pa_cons (pv 1) (pa_cons (pv 2) pa_nil))) (pg_tupk (K := K) (n := 2) rfl rfl (pgs_cons (pg_name (i := 5) sc_fixed_cost.nd rfl (by first | exact Or.inl rfl | exact Or.inr rfl)) (pgs_cons (pg_name (i := 6) sc_fixed_cost.nd rfl (by first | exact Or.inl rfl | exact Or.inr rfl)) pgs_nil))) (pss_cons (ps_set (i := 7) sc_fixed_cost.nd rfl (by first | exact Or.inl rfl | exact Or.inr rfl) (pe_meth (pv 0) T.k_Sign T.Me_Sign_row_of G_Sign_row_of (hr.mono (by first | decide | omega)) T.b_Sign_row_of .nil pass0 (pa_cons (pv 5) (pa_cons (pv 6) pa_nil))))
      (pss_cons (ps_set (i := 3) sc_fixed_cost.nd rfl (by first | exact Or.inl rfl | exact Or.inr rfl) (pe_call G_add (hr.mono (by first | decide | omega)) (by rfl) T.m_add T.F_add.kp T.b_add .nil pass0 (pa_cons (pv 3) (pa_cons (pe_call G_cost (hr.mono (by first | decide | omega)) (by rfl) T.m_cost T.F_cost.kp T.b_cost .nil pass0 (pa_cons (pv 0) (pa_cons (pv 4) (pa_cons (pv 7) pa_nil)))) pa_nil))))
      (pss_one (ps_set (i := 4) sc_fixed_cost.nd rfl (by first | exact Or.inl rfl | exact Or.inr rfl) (pv 7))))))
      (pss_one (ps_ret (pv 3))))))), ?_⟩
  rintro _ F ms Q Ea ⟨x, wd, ps, ts, os, rfl, ⟨i, j, m, hi, hj⟩, ⟨w1, w2, hp, hpL, hpN, ht1, ht2, ht⟩, hO, q⟩
  walk_at "al"
  refine ae_meth ?_
  walk_at "al"
  refine ⟨x, fldS m wd ps, rfl, .inr ⟨i, hi⟩, fld_no (by decide +kernel) (by decide +kernel) (by decide +kernel), ?_⟩
  walk_at "al"
  refine ⟨x, wd, ps, ts, rfl, ⟨i, j, m, hi, hj⟩, w2, ht1, ht2, ht, fun F1 e1 => ?_⟩
  walk_at "al"
  refine ⟨x, wd, ps, ts, os, rfl, ⟨i, j, m, hi, hj⟩, w2, ht2, ht, hO, fun F2 e2 => ?_⟩
  walk_at "al"
  refine ae_tup ?_
  walk_at "al"
  refine ⟨by simp, fun F3 e3 => ?_⟩
  walk_at "al"
  refine ae_prop ?_
  walk_at "al"
  refine ⟨x, _, rfl, .inr ⟨i, hi⟩, x, wd, ps, rfl, ⟨i, j, m, hi, hj⟩, by omega, w2, ?_⟩
  walk_at "al"
  refine as_for ?_
  refine ai_zipT ?_
  walk_at "al"
  have h0 := hO.1
  refine ⟨_, _, rfl, by rw [List.length_map, List.length_map, hO.1], ?_⟩
  refine ⟨fun n F' ms' S' => ms' = ms ∧ okRow wd (((ts.zip os).take n).foldl (stepF ps wd) ((0, 0), mulS sp1 wd)).2 ∧ ∃ a b c, S' = [some (.ref x), some (.tup (ts.map D.str)), some (.tup (os.map D.int)), some (cD (((ts.zip os).take n).foldl (stepF ps wd) ((0, 0), mulS sp1 wd)).1), some (.str (((ts.zip os).take n).foldl (stepF ps wd) ((0, 0), mulS sp1 wd)).2), a, b, c], ⟨rfl, blank_ok (by omega), none, none, none, rfl⟩, fun _ _ _ _ _ _ => trivial, ?_, ?_⟩
  · rintro n d F4 ms4 S4 e4 hd ⟨rfl, hrow, a, b, c, rfl⟩ F5 e5
    obtain ⟨_, _, h1, h2, rfl⟩ := zipD_inv hd
    obtain ⟨t, hti, rfl⟩ := strs_at h1
    obtain ⟨o, hoi, rfl⟩ := ints_at' h2
    obtain ⟨o1, o2⟩ := hO.2 n _ _ hti hoi
    have htk := ht _ (List.mem_of_getElem? hti)
    have hz : (ts.zip os)[n]? = some (t, o) := List.getElem?_zip_eq_some.mpr ⟨hti, hoi⟩
    have hs : ((ts.zip os).take (n + 1)).foldl (stepF ps wd) ((0, 0), mulS sp1 wd) = stepF ps wd (((ts.zip os).take n).foldl (stepF ps wd) ((0, 0), mulS sp1 wd)) (t, o) := by
      rw [List.take_succ, hz, List.foldl_append]
      rfl
    generalize ((ts.zip os).take n).foldl (stepF ps wd) ((0, 0), mulS sp1 wd) = st at hs hrow ⊢
    have hsh := shown_ok htk o1 o2
    refine ag_tup rfl ?_
    refine ags_cons (ag_name ?_)
    refine ags_cons (ag_name ?_)
    refine ags_nil ?_
    walk_at "al"
    refine ae_meth ?_
    walk_at "al"
    refine ⟨x, fldS m wd ps, rfl, .inr ⟨i, hi⟩, fld_no (by decide +kernel) (by decide +kernel) (by decide +kernel), ?_⟩
    walk_at "al"
    refine ⟨x, wd, ps, t, o, rfl, ⟨i, j, m, hi, hj⟩, w2, o1, o2, ?_⟩
    walk_at "al"
    refine ⟨x, wd, ps, st.2, shown wd t o, rfl, ⟨i, j, m, hi, hj⟩, by omega, w2, hpL, hrow, hsh, fun F6 e6 => ?_⟩
    walk_at "al"
    refine ⟨st.1, costP ps st.2 (shown wd t o) wd, rfl, fun F7 e7 => ?_⟩
    walk_at "al"
    refine ⟨rfl, ?_, some (.str t), some (.int o), some (.str (shown wd t o)), ?_⟩
    · rw [hs]
      exact hsh
    · rw [hs]
      rfl
  · rintro F4 ms4 S4 e4 ⟨rfl, hrow, a, b, c, rfl⟩
    have hzl : (zipD (ts.map D.str) (os.map D.int)).length = (ts.zip os).length := by
      rw [zipD_len (by rw [List.length_map, List.length_map, hO.1]), List.length_map, List.length_zip, hO.1, Nat.min_self]
    rw [hzl, List.take_length]
    walk_at "al"
    exact q _ (e1.trans (e2.trans (e3.trans e4)))
theorem ok_best_of (T : Txt K mg) (G_Sign_row_of : OK_Sign_row_of P w base T) (G_cost : OK_cost P w base T) (G_add : OK_add P w base T) : OK_best_of P w base T := by
  refine fn_ok T.F_best_of sc_best_of (by rintro _ _ _ _ _ ⟨n, l, x, wd, ps, row, t, L, rfl, _⟩; rfl) (fun cdv A outer s H E hr => ?_)
  have hu64 := hr.units
  refine ⟨_, (pss_cons (ps_asg (pe_tup (pa_cons pe_non (pa_cons pe_int pa_nil))) (pg_tupk (K := K) (n := 2) rfl rfl (pgs_cons (pg_name (i := 4) sc_best_of.nd rfl (by first | exact Or.inl rfl | exact Or.inr rfl)) (pgs_cons (pg_name (i := 5) sc_best_of.nd rfl (by first | exact Or.inl rfl | exact Or.inr rfl)) pgs_nil))))
      (pss_cons (ps_lock (ps_for PassesOwn.never rfl (pi_items (pv 3)) (pg_tupk (K := K) (n := 2) rfl rfl (pgs_cons (pg_name (i := 6) sc_best_of.nd rfl (by first | exact Or.inl rfl | exact Or.inr rfl)) (pgs_cons (pg_tupk (K := K) (n := 2) rfl rfl (pgs_cons (pg_name (i := 7) sc_best_of.nd rfl (by first | exact Or.inl rfl | exact Or.inr rfl)) (pgs_cons (pg_name (i := 8) sc_best_of.nd rfl (by first | exact Or.inl rfl | exact Or.inr rfl)) pgs_nil))) pgs_nil))) (pss_cons (ps_set (i := 9) sc_best_of.nd rfl (by first | exact Or.inl rfl | exact Or.inr rfl) (pe_call G_add (hr.mono (by first | decide | omega)) (by rfl) T.m_add T.F_add.kp T.b_add .nil pass0 (pa_cons (pe_call G_cost (hr.mono (by first | decide | omega)) (by rfl) T.m_cost T.F_cost.kp T.b_cost .nil pass0 (pa_cons (pv 0) (pa_cons (pv 1) (pa_cons (pe_meth (pv 0) T.k_Sign T.Me_Sign_row_of G_Sign_row_of (hr.mono (by first | decide | omega)) T.b_Sign_row_of .nil pass0 (pa_cons (pv 2) (pa_cons (pv 6) pa_nil))) pa_nil)))) (pa_cons (pv 7) pa_nil))))
      (pss_one (ps_if ((pw_or (pt_cmpR op_ISN (pv 4) pe_non (nomark _)) (pw_or1 (pt_cmpR (kLTT (K := K) rfl hu64) (pv 9) (pv 4) (nomark _))))).pt (pss_one (ps_par (i := 4) (j := 5) rfl sc_best_of.nd rfl rfl (by decide) rfl rfl (pa_cons (pv 9) (pa_cons (pv 8) pa_nil)) (by rfl))) (pss_one (ps_if (pt_cmpR (kEQ (K := K) rfl hu64) (pv 9) (pv 4) (nomark _)) (pss_one (ps_aug (i := 5) sc_best_of.nd rfl (by first | exact Or.inl rfl | exact Or.inr rfl) (pv 8) ip_add)) pss_nil)))))))
      (pss_one (ps_ret (pe_tup (pa_cons (pv 4) (pa_cons (pv 5) pa_nil))))))), ?_⟩
  rintro _ F ms Q Ea ⟨n, l, x, wd, ps, row, t, L, rfl, hn, hS, w0, w2, hpL, hrow, ht, hL, q⟩
  obtain ⟨of1, of2⟩ := offN_pos ht
  have hLn : L ≠ [] := by rintro rfl; simp at hL; omega
  walk_at "al"
  refine as_asgG ?_
  refine ae_tup ?_
  walk_at "al"
  refine ⟨by simp, fun F1 e1 => ?_⟩
  refine ag_tup rfl ?_
  refine ags_cons (ag_name ?_)
  refine ags_cons (ag_name ?_)
  refine ags_nil ?_
  walk_at "al"
  refine as_lock n hn fun od vs rk => ?_
  have hS2 : Sgn T.c_Sign (ms.set n (l, .raw (.frz od (.dK vs)))) x wd ps := hS.setR hn hLn
  have hM : (ms.set n (l, .raw (.frz od (.dK vs))))[n]? = some (l, .raw (.frz od (.dK vs))) := set_get (List.getElem?_eq_some_iff.mp hn).1
  have hBack : (ms.set n (l, .raw (.frz od (.dK vs)))).set n (l, .dic (layK 0 L)) = ms := by rw [set_set]; exact set_same hn
  generalize ms.set n (l, .raw (.frz od (.dK vs))) = M at hS2 hM hBack ⊢
  obtain ⟨i, j, m, hi, hj⟩ := hS2
  refine as_for ?_
  refine ai_items ?_
  walk_at "al"
  refine ⟨l, od, vs, _, n, rfl, hM, rk, ?_⟩
  refine ⟨fun k F' ms' S' => ms' = M ∧ ∃ a b c d, S' = [some (.ref x), some (.str row), some (.str t), some (.ref l), some (bsD (((tots ps wd row t L).take k).foldl stepB (none, 0)).1), some (.int (((tots ps wd row t L).take k).foldl stepB (none, 0)).2), a, b, c, d], ⟨rfl, none, none, none, none, rfl⟩, ?_, ?_, ?_⟩
  · rintro k F2 ms2 S2 e2 ⟨rfl, _⟩
    exact ⟨n, hM⟩
  · rintro k d F2 ms2 S2 e2 hd ⟨rfl, a, b, c, e, rfl⟩ F3 e3
    obtain ⟨v, hv, rfl⟩ : ∃ v, L[k]? = some v ∧ d = .tup [.int (k : Int), vD v] := by
      unfold itemsD at hd
      rw [List.getElem?_map, layK_get] at hd
      cases e : L[k]? with
      | none => rw [e] at hd; cases hd
      | some v => rw [e] at hd; exact ⟨v, rfl, by rw [← Option.some.inj hd, Nat.zero_add]; rfl⟩
    have hk := (List.getElem?_eq_some_iff.mp hv).1
    have o2 : (k : Int) + (t.length : Int) ≤ wd := by omega
    have hsh := shown_ok ht (by omega : 0 ≤ (k : Int)) o2
    have hs : ((tots ps wd row t L).take (k + 1)).foldl stepB (none, 0) = stepB (((tots ps wd row t L).take k).foldl stepB (none, 0)) (addC (costP ps row (shown wd t (k : Int)) wd) v.1, v.2) := by
      rw [List.take_succ, tots_get hv, List.foldl_append]
      rfl
    generalize ((tots ps wd row t L).take k).foldl stepB (none, 0) = st at hs ⊢
    obtain ⟨bo, wy⟩ := st
    refine ag_tup rfl ?_
    refine ags_cons (ag_name ?_)
    refine ags_cons (ag_tup rfl ?_) 
    refine ags_cons (ag_name ?_)
    refine ags_cons (ag_name ?_)
    refine ags_nil ?_
    refine ags_nil ?_
    walk_at "al"
    refine ae_meth ?_
    walk_at "al"
    refine ⟨x, fldS m wd ps, rfl, .inr ⟨i, hi⟩, fld_no (by decide +kernel) (by decide +kernel) (by decide +kernel), ?_⟩
    walk_at "al"
    refine ⟨x, wd, ps, t, _, rfl, ⟨i, j, m, hi, hj⟩, w2, by omega, o2, ?_⟩
    walk_at "al"
    refine ⟨x, wd, ps, row, _, rfl, ⟨i, j, m, hi, hj⟩, w0, w2, hpL, hrow, hsh, fun F6 e6 => ?_⟩
    walk_at "al"
    refine ⟨costP ps row (shown wd t (k : Int)) wd, v.1, rfl, fun F7 e7 => ?_⟩
    generalize addC (costP ps row (shown wd t (k : Int)) wd) v.1 = tot at hs ⊢
    have fin : ∀ (b : Option Cst) (y : Int), stepB (bo, wy) (tot, v.2) = (b, y) → ((tots ps wd row t L).take (k + 1)).foldl stepB (none, 0) = (b, y) := fun b y h => hs.trans h
    cases bo with
    | none =>
      dsimp only [bsD]
      walk_at "al"
      refine ⟨rfl, some (.int (k : Int)), some (cD v.1), some (.int v.2), some (cD tot), ?_⟩
      rw [fin (some tot) v.2 rfl]
      rfl
    | some c =>
      dsimp only [bsD]
      walk_at "al"
      refine isN_tup (ds := [.int c.1, .int c.2]) ?_
      walk_at "al"
      refine ar_LTT (ns := [tot.1, tot.2]) (ks := [c.1, c.2]) ?_
      rw [lex_lt]
      walk_at "al"
      refine ⟨fun hb => ?_, fun hb => ?_⟩
      · walk_at "al"
        refine ⟨rfl, some (.int (k : Int)), some (cD v.1), some (.int v.2), some (cD tot), ?_⟩
        rw [fin (some tot) v.2 (by show (if ltC tot c = true then _ else _) = _; rw [if_pos hb])]
        rfl
      · walk_at "al"
        refine ar_EQd (d := cD tot) (e := cD c) rfl rfl (Nat.le_of_ble_eq_true rfl) (Nat.le_of_ble_eq_true rfl) ?_
        rw [eqv_cD]
        walk_at "al"
        refine ⟨fun hc => ?_, fun hc => ?_⟩
        · have hc := of_decide_eq_true hc
          refine as_aug rfl ?_
          walk_at "al"
          refine ⟨rfl, some (.int (k : Int)), some (cD v.1), some (.int v.2), some (cD tot), ?_⟩
          rw [fin (some c) (wy + v.2) (by show (if ltC tot c = true then _ else if tot = c then _ else _) = _; rw [hb, if_neg (by decide), if_pos hc])]
          rfl
        · have hc := of_decide_eq_false hc
          refine as_next ?_
          refine ⟨rfl, some (.int (k : Int)), some (cD v.1), some (.int v.2), some (cD tot), ?_⟩
          rw [fin (some c) wy (by show (if ltC tot c = true then _ else if tot = c then _ else _) = _; rw [hb, if_neg (by decide), if_neg hc])]
          rfl
  · rintro F2 ms2 S2 e2 ⟨rfl, a, b, c, d, rfl⟩
    have hl : (itemsD (layK 0 L)).length = (tots ps wd row t L).length := by unfold itemsD; rw [List.length_map, layK_len, tots_len]
    refine ⟨n, hM, ?_⟩
    rw [hBack, hl, List.take_length]
    walk_at "al"
    refine ae_tup ?_
    walk_at "al"
    refine ⟨by simp, fun F3 e3 => ?_⟩
    have := q F3 (e1.trans (e2.trans e3))
    obtain ⟨best, hbest⟩ := best_some (ps := ps) (w := wd) (row := row) (t := t) hLn
    unfold vD bestP at this
    unfold bestF at this hbest
    rw [hbest] at this ⊢
    exact this
end
theorem lay_len {ps : List Pr} {wd : Int} (t : Str) (r : List Str) : ((layersF ps wd (t :: r)).headD []).length = offN wd t := by
  cases r with
  | nil => show (List.replicate (offN wd t) _).length = _; rw [List.length_replicate]
  | cons t' r => show (List.map _ (List.range (offN wd t))).length = _; rw [List.length_map, List.length_range]
theorem rowsF_eq {ps : List Pr} {wd : Int} (t t' : Str) (r : List Str) : (layersF ps wd (t :: t' :: r)).headD [] = (List.range (offN wd t)).map fun (o : Nat) => bestP ps wd (shown wd t (o : Int)) t' ((layersF ps wd (t' :: r)).headD []) := rfl
theorem layK_rep (n : Nat) : ∀ k, layK k (List.replicate n ((0, 0), 1)) = (List.range' k n).map fun i => ((.inl ((i : Nat) : Int) : Key), vD ((0, 0), 1)) := by
  induction n with
  | zero => intro k; rfl
  | succ n ih =>
    intro k
    rw [List.replicate_succ, List.range'_succ, List.map_cons]
    show (_, _) :: layK (k + 1) _ = _
    rw [ih (k + 1)]
theorem offs_at {wd : Int} {t : Str} {k : Nat} {d : D} (hd : ((List.range (offN wd t)).map fun (o : Nat) => D.int (o : Int))[k]? = some d) : k < offN wd t ∧ d = .int (k : Int) := by
  have hk := (List.getElem?_eq_some_iff.mp hd).1
  rw [List.length_map, List.length_range] at hk
  rw [List.getElem?_map, List.getElem?_range hk] at hd
  exact ⟨hk, (Option.some.inj hd).symm⟩
theorem rep_take {α : Type} (a : α) {n i : Nat} (h : i < n) : List.replicate (i + 1) a = List.replicate i a ++ [a] := List.replicate_succ'
section
variable {P : Program} {w : World} {K : Frg} {mg : Str → Option Value} {base : Heap}
theorem ok_costs_from (T : Txt K mg) (G_offsets_of : OK_offsets_of P w base T) (G_Sign_row_of : OK_Sign_row_of P w base T) (G_best_of : OK_best_of P w base T) : OK_costs_from P w base T := by
  refine fn_ok T.F_costs_from sc_costs_from (by rintro _ _ _ _ _ ⟨x, wd, ps, ts, rfl, _⟩; rfl) (fun cdv A outer s H E hr => ?_)
  have hu64 := hr.units
  refine ⟨_, (pss_cons (ps_set (i := 2) sc_costs_from.nd rfl (by first | exact Or.inl rfl | exact Or.inr rfl) (pe_lst (pa_cons (pe_dc rfl sc_costs_from.nd (pi_listk (K := K) rfl (pe_call G_offsets_of (hr.mono (by first | decide | omega)) (by rfl) T.m_offsets_of T.F_offsets_of.kp T.b_offsets_of .nil pass0 (pa_cons (pv 0) (pa_cons (pe_ix (kIX (K := K) rfl) (pv 1) (pe_un un_neg pe_int) (fun _ _ => rfl)) pa_nil)))) (own := [("offset", 3)]) (@BlkOk.mk N_costs_from (defScope s_costs_from) _ _ rfl (by decide +kernel) (by decide +kernel) (by decide +kernel) (by decide +kernel)) (fun _ _ _ _ _ => (pg_name (i := 3) sc_costs_from.nd rfl (by first | exact Or.inl rfl | exact Or.inr rfl))) (fun _ _ _ _ _ => pts_nil) (fun _ _ _ _ _ => (pv 3)) (fun _ _ _ _ _ => (pe_tup (pa_cons (pe_tup (pa_cons pe_int (pa_cons pe_int pa_nil))) (pa_cons pe_int pa_nil))))) pa_nil)))
      (pss_cons (ps_for PassesOwn.never rfl (pi_range3 (by rfl) T.g_range (pa_cons (pe_op op_sub (pe_callB (kLEN (K := K) rfl) (by rfl) T.g_len boot_len (pa_cons (pv 1) pa_nil)) pe_int) (pa_cons (pe_un un_neg pe_int) (pa_cons (pe_un un_neg pe_int) pa_nil)))) (pg_name (i := 4) sc_costs_from.nd rfl (by first | exact Or.inl rfl | exact Or.inr rfl)) (pss_cons (ps_set (i := 5) sc_costs_from.nd rfl (by first | exact Or.inl rfl | exact Or.inr rfl) pe_dnewK)
      (pss_cons (ps_for PassesOwn.never rfl (pi_listk (K := K) rfl (pe_call G_offsets_of (hr.mono (by first | decide | omega)) (by rfl) T.m_offsets_of T.F_offsets_of.kp T.b_offsets_of .nil pass0 (pa_cons (pv 0) (pa_cons (pe_ix (kIX (K := K) rfl) (pv 1) (pv 4) (fun _ _ => rfl)) pa_nil)))) (pg_name (i := 3) sc_costs_from.nd rfl (by first | exact Or.inl rfl | exact Or.inr rfl)) (pss_one (ps_dput (hu_of hr) (pv 5) (pv 3) (pe_call G_best_of (hr.mono (by first | decide | omega)) (by rfl) T.m_best_of T.F_best_of.kp T.b_best_of .nil pass0 (pa_cons (pv 0) (pa_cons (pe_meth (pv 0) T.k_Sign T.Me_Sign_row_of G_Sign_row_of (hr.mono (by first | decide | omega)) T.b_Sign_row_of .nil pass0 (pa_cons (pe_ix (kIX (K := K) rfl) (pv 1) (pv 4) (fun _ _ => rfl)) (pa_cons (pv 3) pa_nil))) (pa_cons (pe_ix (kIX (K := K) rfl) (pv 1) (pe_op (kADD (K := K) rfl) (pv 4) pe_int) (fun _ _ => rfl)) (pa_cons (pe_ix (kIX (K := K) rfl) (pv 2) pe_int (fun _ _ => rfl)) pa_nil))))) (by rfl))))
      (pss_one (ps_set (i := 2) sc_costs_from.nd rfl (by first | exact Or.inl rfl | exact Or.inr rfl) (pe_op (kADD (K := K) rfl) (pe_lst (pa_cons (pv 5) pa_nil)) (pv 2)))))))
      (pss_one (ps_ret (pv 2))))), ?_⟩
  rintro _ F ms Q Ea ⟨x, wd, ps, ts, rfl, hS, ⟨w1, w2, hp, hpL, hpN, ht1, ht2, ht⟩, q⟩
  obtain ⟨i, j, m, hi, hj⟩ := hS
  have hlast : ts[ts.length - 1]? = some (ts[ts.length - 1]'(by omega)) := List.getElem?_eq_getElem (by omega)
  generalize ts[ts.length - 1]'(by omega) = tl at hlast
  have htl := ht _ (List.mem_of_getElem? hlast)
  have hat : atI (ts.map D.str) (-1) = some (.str tl) := atI_neg (j := ts.length - 1) (by rw [List.length_map]; omega) (by rw [List.getElem?_map, hlast]; rfl) (by decide)
  obtain ⟨of1, of2⟩ := offN_pos htl
  have tl1 := htl.1
  walk_at "al"
  refine ae_lstF ?_
  refine aa_cons ?_
  refine ae_dc (gw_name (by simp)) gm_name ?_
  refine ai_list ?_
  walk_at "al"
  refine ae_neg (fun _ => rfl) ?_
  walk_at "al"
  refine ar_ixT (d := .str tl) hat ?_
  walk_at "al"
  refine ⟨x, wd, ps, tl, rfl, ⟨i, j, m, hi, hj⟩, w2, htl, fun F1 e1 => ?_⟩
  refine .inl ⟨_, .inl rfl, fun k F' ms' acc => ms' = ms ∧ acc = layK 0 (List.replicate k ((0, 0), 1)), ⟨rfl, rfl⟩, fun _ _ _ _ _ _ => trivial, ?_, ?_⟩
  · rintro k d F2 ms2 acc e2 hd ⟨rfl, rfl⟩ F3 e3
    obtain ⟨hk, rfl⟩ := offs_at hd
    refine ag_name ?_
    walk_at "al"
    refine ⟨_, rfl, ?_⟩
    refine ae_tup ?_
    walk_at "al"
    refine ae_tup ?_
    walk_at "al"
    refine ⟨by simp, fun F4 e4 => ?_⟩
    walk_at "al"
    refine ⟨by simp, fun F5 e5 => ?_⟩
    refine ⟨by rw [layK_len, List.length_replicate]; omega, rfl, ?_⟩
    rw [rep_take (n := k + 1) _ (by omega)]
    exact put_lay (by rw [List.length_replicate]) ((0, 0), 1)
  rintro F2 ms2 acc e2 ⟨rfl, rfl⟩ l
  rw [List.length_map, List.length_range]
  walk_at "al"
  refine ⟨by simp, fun F3 e3 => ?_⟩
  walk_at "al"
  refine as_for ?_
  refine ai_rng3 ?_
  walk_at "al"
  rw [List.length_map]
  refine ae_neg (fun _ => rfl) ?_
  walk_at "al"
  refine ae_neg (fun _ => rfl) ?_
  walk_at "al"
  refine ⟨(ts.length : Int) - 2, -1, -1, ts.length - 1, rfl, ?_, ?_⟩
  · have := RgC.neg (i := (ts.length : Int) - 2) (j := -1) (by omega) (by omega) (by decide) (by decide)
    rw [show ((ts.length : Int) - 2 - -1).toNat = ts.length - 1 by omega] at this
    exact this
  refine ⟨fun n F' ms' S' => ∃ (l : Addr) (rest : List D) (a b c : Option D), rest.length ≤ n ∧ ms' = (l, .dic (layK 0 ((layersF ps wd (ts.drop (ts.length - 1 - n))).headD []))) :: ms2 ∧ S' = [some (.ref x), some (.tup (ts.map D.str)), some (.lst (.ref l :: rest)), a, b, c], ?_, fun _ _ _ _ _ _ => trivial, ?_, ?_⟩
  · refine ⟨l, [], none, none, none, Nat.le_refl _, ?_, rfl⟩
    rw [Nat.sub_zero]
    have hd1 : ts.drop (ts.length - 1) = [tl] := by
      have h1 : ts.length - 1 < ts.length := by omega
      rw [List.drop_eq_getElem_cons h1, show ts.length - 1 + 1 = ts.length by omega, List.drop_length]
      rw [List.getElem?_eq_getElem h1] at hlast
      rw [Option.some.inj hlast]
    rw [hd1]
    rfl
  · rintro n d F4 ms4 S4 e4 hd ⟨l, rest, a, b, c, hrest, rfl, rfl⟩ F5 e5
    obtain ⟨hn, rfl⟩ := rangeC_at hd
    have hi0 : ts.length - 2 - n < ts.length := by omega
    have hi1 : ts.length - 1 - n < ts.length := by omega
    have g0 : ts[ts.length - 2 - n]? = some (ts[ts.length - 2 - n]'hi0) := List.getElem?_eq_getElem hi0
    have g1 : ts[ts.length - 1 - n]? = some (ts[ts.length - 1 - n]'hi1) := List.getElem?_eq_getElem hi1
    have d0 : ts.drop (ts.length - 2 - n) = ts[ts.length - 2 - n]'hi0 :: ts.drop (ts.length - 1 - n) := by
      rw [List.drop_eq_getElem_cons hi0, show ts.length - 2 - n + 1 = ts.length - 1 - n by omega]
    have d1 : ts.drop (ts.length - 1 - n) = ts[ts.length - 1 - n]'hi1 :: ts.drop (ts.length - 1 - n + 1) := List.drop_eq_getElem_cons hi1
    generalize ts[ts.length - 2 - n]'hi0 = t0 at g0 d0
    generalize ts[ts.length - 1 - n]'hi1 = t1 at g1 d1
    have ht0 := ht _ (List.mem_of_getElem? g0)
    have hto := ht _ (List.mem_of_getElem? g1)
    have at0 : atI (ts.map D.str) ((ts.length : Int) - 2 + (n : Int) * -1) = some (.str t0) := atI_of (j := ts.length - 2 - n) (by omega) (by rw [List.getElem?_map, g0]; rfl)
    have at1 : atI (ts.map D.str) ((ts.length : Int) - 2 + (n : Int) * -1 + 1) = some (.str t1) := atI_of (j := ts.length - 1 - n) (by omega) (by rw [List.getElem?_map, g1]; rfl)
    have llen : ((layersF ps wd (ts.drop (ts.length - 1 - n))).headD []).length = offN wd t1 := by rw [d1]; exact lay_len _ _
    have hrow : (layersF ps wd (ts.drop (ts.length - 1 - (n + 1)))).headD [] = (List.range (offN wd t0)).map fun (o : Nat) => bestP ps wd (shown wd t0 (o : Int)) t1 ((layersF ps wd (ts.drop (ts.length - 1 - n))).headD []) := by
      rw [show ts.length - 1 - (n + 1) = ts.length - 2 - n by omega, d0, d1]
      exact rowsF_eq _ _ _
    generalize (layersF ps wd (ts.drop (ts.length - 1 - n))).headD [] = L at llen hrow ⊢
    obtain ⟨of3, of4⟩ := offN_pos ht0
    have tl0 := ht0.1
    refine ag_name ?_
    walk_at "al"
    refine ae_dnewO fun p => ?_
    walk_at "al"
    refine as_for ?_
    refine ai_list ?_
    walk_at "al"
    refine ar_ixT (d := .str t0) at0 ?_
    walk_at "al"
    refine ⟨x, wd, ps, t0, rfl, ⟨i + 2, j + 2, m, hi, hj⟩, w2, ht0, fun F6 e6 => ?_⟩
    refine .inl ⟨_, .inl rfl, fun k F' ms' S' => ms' = (p, .dic (layK 0 (((List.range (offN wd t0)).map fun (o : Nat) => bestP ps wd (shown wd t0 (o : Int)) t1 L).take k))) :: (l, .dic (layK 0 L)) :: ms2 ∧ ∃ a, S' = [some (.ref x), some (.tup (ts.map D.str)), some (.lst (.ref l :: rest)), a, some (.int ((ts.length : Int) - 2 + (n : Int) * -1)), some (.ref p)], ⟨rfl, a, rfl⟩, fun _ _ _ _ _ _ => trivial, ?_, ?_⟩
    · rintro k d F7 ms7 S7 e7 hd ⟨rfl, a, rfl⟩ F8 e8
      obtain ⟨hk, rfl⟩ := offs_at hd
      have hsh := shown_ok ht0 (by omega : 0 ≤ (k : Int)) (by omega)
      refine ag_name ?_
      refine as_dput ?_
      walk_at "al"
      refine ae_meth ?_
      walk_at "al"
      refine ⟨x, fldS m wd ps, rfl, .inr ⟨i + 2, hi⟩, fld_no (by decide +kernel) (by decide +kernel) (by decide +kernel), ?_⟩
      walk_at "al"
      refine ar_ixT (d := .str t0) at0 ?_
      walk_at "al"
      refine ⟨x, wd, ps, t0, _, rfl, ⟨i + 2, j + 2, m, hi, hj⟩, w2, by omega, by omega, ?_⟩
      walk_at "al"
      refine ar_ixT (d := .str t1) at1 ?_
      walk_at "al"
      refine ar_ixL (d := .ref l) (atI_of (j := 0) rfl rfl) ?_
      walk_at "al"
      refine ⟨1, l, x, wd, ps, _, t1, L, rfl, rfl, ⟨i + 2, j + 2, m, hi, hj⟩, by omega, w2, hpL, hsh, hto, llen, fun F9 e9 => ?_⟩
      walk_at "al"
      have hlen : (((List.range (offN wd t0)).map fun (o : Nat) => bestP ps wd (shown wd t0 (o : Int)) t1 L).take k).length = k := by
        rw [List.length_take, List.length_map, List.length_range]; omega
      refine ⟨0, p, _, .inl (k : Int), rfl, rfl, rfl, by rw [layK_len, hlen]; omega, ?_, _, rfl⟩
      rw [put_lay hlen]
      rw [List.take_succ, List.getElem?_map, List.getElem?_range hk]
      rfl
    · rintro F7 ms7 S7 e7 ⟨rfl, a, rfl⟩
      rw [List.length_map, List.length_range, List.take_of_length_le (by rw [List.length_map, List.length_range]; omega)]
      refine as_asg (ae_dropm ?_)
      walk_at "al"
      refine ae_lstF ?_
      walk_at "al"
      refine ⟨by simp, fun F8 e8 => ?_⟩
      walk_at "al"
      refine ar_ADDl (by simp; omega) fun F9 e9 => ?_
      refine ⟨1, by simp, p, .ref l :: rest, a, _, _, by simp; omega, ?_, rfl⟩
      rw [hrow]
      rfl
  · rintro F4 ms4 S4 e4 ⟨l, rest, a, b, c, hrest, rfl, rfl⟩
    have hl : (rangeC ((ts.length : Int) - 2) (-1) (ts.length - 1)).length = ts.length - 1 := rangeC_len
    rw [hl, Nat.sub_self]
    walk_at "al"
    exact q _ _ _ (e1.trans (e2.trans (e3.trans e4)))
theorem ok_season_cost (T : Txt K mg) (G_Sign_check_texts : OK_Sign_check_texts P w base T) (G_Sign_blank : OK_Sign_blank P w base T) (G_costs_from : OK_costs_from P w base T) (G_best_of : OK_best_of P w base T) : OK_season_cost P w base T := by
  refine fn_ok T.F_season_cost sc_season_cost (by rintro _ _ _ _ _ ⟨x, wd, ps, ts, rfl, _⟩; rfl) (fun cdv A outer s H E hr => ?_)
  have hu64 := hr.units
  refine ⟨_, (pss_cons (ps_expr (pe_meth (pv 0) T.k_Sign T.Me_Sign_check_texts G_Sign_check_texts (hr.mono (by first | decide | omega)) T.b_Sign_check_texts .nil pass0 (pa_cons (pv 1) pa_nil)))
      (pss_one (ps_ret (pe_ix (kIX (K := K) rfl) (pe_call G_best_of (hr.mono (by first | decide | omega)) (by rfl) T.m_best_of T.F_best_of.kp T.b_best_of .nil pass0 (pa_cons (pv 0) (pa_cons (pe_prop (pv 0) T.k_Sign T.P_Sign_blank G_Sign_blank (hr.mono (by first | decide | omega)) T.b_Sign_blank .nil pass0 (by rfl)) (pa_cons (pe_ix (kIX (K := K) rfl) (pv 1) pe_int (fun _ _ => rfl)) (pa_cons (pe_ix (kIX (K := K) rfl) (pe_call G_costs_from (hr.mono (by first | decide | omega)) (by rfl) T.m_costs_from T.F_costs_from.kp T.b_costs_from .nil pass0 (pa_cons (pv 0) (pa_cons (pv 1) pa_nil))) pe_int (fun _ _ => rfl)) pa_nil))))) pe_int (fun _ _ => rfl))))), ?_⟩
  rintro _ F ms Q Ea ⟨x, wd, ps, ts, rfl, ⟨i, j, m, hi, hj⟩, hOk, q⟩
  obtain ⟨w1, w2, hp, hpL, hpN, ht1, ht2, ht⟩ := id hOk
  walk_at "al"
  refine ae_meth ?_
  walk_at "al"
  refine ⟨x, fldS m wd ps, rfl, .inr ⟨i, hi⟩, fld_no (by decide +kernel) (by decide +kernel) (by decide +kernel), ?_⟩
  walk_at "al"
  refine ⟨x, wd, ps, ts, rfl, ⟨i, j, m, hi, hj⟩, w2, ht1, ht2, ht, fun F1 e1 => ?_⟩
  refine as_ret (ae_dropm ?_)
  walk_at "al"
  refine ae_prop ?_
  walk_at "al"
  refine ⟨x, _, rfl, .inr ⟨i, hi⟩, x, wd, ps, rfl, ⟨i, j, m, hi, hj⟩, by omega, w2, ?_⟩
  walk_at "al"
  obtain ⟨t0, r, rfl⟩ : ∃ t0 r, ts = t0 :: r := by
    cases ts with
    | nil => simp at ht1
    | cons t r => exact ⟨t, r, rfl⟩
  refine ar_ixT (d := .str t0) (atI_of (j := 0) rfl rfl) ?_
  walk_at "al"
  refine ⟨x, wd, ps, _, rfl, ⟨i, j, m, hi, hj⟩, hOk, fun F2 l rest e2 => ?_⟩
  walk_at "al"
  refine ar_ixL (d := .ref l) (atI_of (j := 0) rfl rfl) ?_
  walk_at "al"
  refine ⟨0, l, x, wd, ps, _, t0, _, rfl, rfl, ⟨i + 1, j + 1, m, hi, hj⟩, by omega, w2, hpL, blank_ok (by omega), ht _ (List.mem_cons_self ..), lay_len _ _, fun F3 e3 => ?_⟩
  walk_at "al"
  refine ar_ixT (d := cD (seasonF ps wd (t0 :: r))) rfl ?_
  exact ⟨0, by simp, q F3 (e1.trans (e2.trans e3))⟩
end

def leP (a b : Cst) : Prop := a.1 < b.1 ∨ (a.1 = b.1 ∧ a.2 ≤ b.2)
theorem ltC_iff (a b : Cst) : ltC a b = true ↔ a.1 < b.1 ∨ (a.1 = b.1 ∧ a.2 < b.2) := by
  unfold ltC
  split
  · rename_i h
    rw [decide_eq_true_iff]
    omega
  · rename_i h
    rw [decide_eq_true_iff]
    omega
theorem leP_refl (a : Cst) : leP a a := .inr ⟨rfl, Int.le_refl _⟩
theorem leP_trans {a b c : Cst} (h : leP a b) (k : leP b c) : leP a c := by unfold leP at *; omega
theorem leP_add {a b c : Cst} (h : leP a b) : leP (addC c a) (addC c b) := by unfold leP addC at *; dsimp only; omega
theorem leP_not {a b : Cst} (h : leP a b) : ltC b a = false := by
  cases e : ltC b a with
  | false => rfl
  | true => have := (ltC_iff b a).mp e; unfold leP at h; omega
theorem not_leP {a b : Cst} (h : ¬ ltC b a = true) : leP a b := by
  rw [ltC_iff] at h
  unfold leP
  omega
theorem stepB_le : ∀ (L : Lay) (b : BS) (c : Cst), (L.foldl stepB b).1 = some c → (∀ b0, b.1 = some b0 → leP c b0) ∧ ∀ v ∈ L, leP c v.1
  | [], b, c, h => ⟨fun b0 e => by rw [List.foldl_nil, e] at h; cases h; exact leP_refl _, fun v hv => by cases hv⟩
  | v :: L, b, c, h => by
    rw [List.foldl_cons] at h
    obtain ⟨h1, h2⟩ := stepB_le L _ c h
    have key : (∀ b0, b.1 = some b0 → leP c b0) ∧ leP c v.1 := by
      obtain ⟨bo, y⟩ := b
      cases bo with
      | none => exact ⟨fun b0 e => (nomatch e), h1 _ rfl⟩
      | some b =>
        have e : stepB (some b, y) v = if ltC v.1 b = true then (some v.1, v.2) else if v.1 = b then (some b, y + v.2) else (some b, y) := rfl
        rw [e] at h1
        by_cases l : ltC v.1 b = true
        · rw [if_pos l] at h1
          have hv := h1 _ rfl
          refine ⟨fun b0 e => ?_, hv⟩
          cases e
          refine leP_trans hv ?_
          have := (ltC_iff _ _).mp l
          unfold leP
          omega
        · rw [if_neg l] at h1
          have hb : leP c b := by
            split at h1
            · exact h1 _ rfl
            · exact h1 _ rfl
          exact ⟨fun b0 e => by cases e; exact hb, leP_trans hb (not_leP l)⟩
    refine ⟨key.1, fun u hu => ?_⟩
    rcases List.mem_cons.mp hu with rfl | hu
    · exact key.2
    · exact h2 u hu
theorem best_le {ps : List Pr} {w : Int} {row t : Str} {L : Lay} {i : Nat} {v : Cst × Int} (h : L[i]? = some v) : leP (bestP ps w row t L).1 (addC (costP ps row (shown w t (i : Int)) w) v.1) := by
  have hL : L ≠ [] := by rintro rfl; simp at h
  obtain ⟨c, hc⟩ := best_some (ps := ps) (w := w) (row := row) (t := t) hL
  have := (stepB_le _ _ c hc).2 _ (List.mem_of_getElem? (tots_get h))
  unfold bestP
  rw [hc]
  exact this
def sumC (ps : List Pr) (w : Int) : Str → List (Str × Int) → Cst
  | _, [] => (0, 0)
  | row, p :: r => addC (costP ps row (shown w p.1 p.2) w) (sumC ps w (shown w p.1 p.2) r)
theorem addC_assoc (a b c : Cst) : addC (addC a b) c = addC a (addC b c) := by unfold addC; dsimp only; rw [Int.add_assoc, Int.add_assoc]
theorem addC_zero (a : Cst) : addC a (0, 0) = a := by unfold addC; simp
theorem zero_addC (a : Cst) : addC (0, 0) a = a := by unfold addC; simp
theorem fix_sum (ps : List Pr) (w : Int) : ∀ (L : List (Str × Int)) (tot : Cst) (row : Str), (L.foldl (stepF ps w) (tot, row)).1 = addC tot (sumC ps w row L)
  | [], tot, row => (addC_zero tot).symm
  | p :: L, tot, row => by
    rw [List.foldl_cons]
    show (L.foldl (stepF ps w) (addC tot (costP ps row (shown w p.1 p.2) w), shown w p.1 p.2)).1 = _
    rw [fix_sum ps w L, addC_assoc]
    rfl
theorem head_le (ps : List Pr) (w : Int) : ∀ (r : List Str) (t : Str) (o : Int) (os : List Int), okOff w (t :: r) (o :: os) → (∀ x ∈ t :: r, textOk w x) →
    ∃ v, ((layersF ps w (t :: r)).headD [])[o.toNat]? = some v ∧ leP v.1 (sumC ps w (shown w t o) (r.zip os))
  | [], t, o, os, hO, ht => by
    obtain ⟨o1, o2⟩ := hO.2 0 t o rfl rfl
    have h := offN_pos (ht t (List.mem_cons_self ..))
    refine ⟨((0, 0), 1), ?_, leP_refl _⟩
    show (List.replicate (offN w t) ((0, 0), 1))[o.toNat]? = _
    rw [List.getElem?_replicate, if_pos (by omega)]
  | t' :: r, t, o, [], hO, ht => by have := hO.1; simp at this
  | t' :: r, t, o, o' :: os, hO, ht => by
    obtain ⟨o1, o2⟩ := hO.2 0 t o rfl rfl
    obtain ⟨o3, o4⟩ := hO.2 1 t' o' rfl rfl
    have h := offN_pos (ht t (List.mem_cons_self ..))
    have hO' : okOff w (t' :: r) (o' :: os) := ⟨by have := hO.1; simpa using this, fun i x y h1 h2 => hO.2 (i + 1) x y h1 h2⟩
    obtain ⟨v, hv1, hv2⟩ := head_le ps w r t' o' os hO' fun x hx => ht x (List.mem_cons_of_mem _ hx)
    rw [rowsF_eq]
    refine ⟨_, by rw [List.getElem?_map, List.getElem?_range (by omega)]; rfl, ?_⟩
    have hb := best_le (ps := ps) (w := w) (row := shown w t (o.toNat : Int)) (t := t') hv1
    rw [show ((o.toNat : Nat) : Int) = o by omega, show ((o'.toNat : Nat) : Int) = o' by omega] at hb
    show leP (bestP ps w (shown w t (o.toNat : Int)) t' ((layersF ps w (t' :: r)).headD [])).1 _
    rw [show ((o.toNat : Nat) : Int) = o by omega]
    exact leP_trans hb (leP_add hv2)
theorem price_ge {ps : List Pr} {w : Int} {ts : List Str} {os : List Int} (hOk : okSeason w ps ts) (hO : okOff w ts os) : ltC (fixF ps w ts os) (seasonF ps w ts) = false := by
  obtain ⟨w1, w2, hp, hpL, hpN, ht1, ht2, ht⟩ := hOk
  cases ts with
  | nil => simp at ht1
  | cons t r =>
    cases os with
    | nil => have := hO.1; simp at this
    | cons o os =>
      obtain ⟨o1, o2⟩ := hO.2 0 t o rfl rfl
      obtain ⟨v, hv1, hv2⟩ := head_le ps w r t o os hO ht
      refine leP_not ?_
      unfold fixF
      rw [fix_sum, zero_addC]
      have hb := best_le (ps := ps) (w := w) (row := mulS sp1 w) (t := t) hv1
      rw [show ((o.toNat : Nat) : Int) = o by omega] at hb
      exact leP_trans hb (leP_add hv2)
/-! the bytes tell the texts -/
theorem ix_inj {a b : Nat} (ha : a = 32 ∨ inL a) (hb : b = 32 ∨ inL b) (h : ix a = ix b) : a = b := by
  have m : ∀ c, c = 32 ∨ inL c → c ∈ SG.cps.toList := by
    intro c hc
    rcases hc with rfl | hc
    · decide +kernel
    · exact (by decide +kernel : ∀ c ∈ LET.cps.toList, c ∈ SG.cps.toList) c hc
  have key : ∀ a ∈ SG.cps.toList, ∀ b ∈ SG.cps.toList, ix a = ix b → a = b := by decide +kernel
  exact key a (m a ha) b (m b hb) h
theorem map_ix_inj : ∀ (x y : List Nat), (∀ c ∈ x, c = 32 ∨ inL c) → (∀ c ∈ y, c = 32 ∨ inL c) → x.map (fun c => (ix c : Int)) = y.map (fun c => (ix c : Int)) → x = y
  | [], [], _, _, _ => rfl
  | [], b :: y, _, _, h => by simp at h
  | a :: x, [], _, _, h => by simp at h
  | a :: x, b :: y, hx, hy, h => by
    rw [List.map_cons, List.map_cons] at h
    injection h with h1 h2
    rw [ix_inj (hx a (List.mem_cons_self ..)) (hy b (List.mem_cons_self ..)) (Int.ofNat.inj h1), map_ix_inj x y (fun c hc => hx c (List.mem_cons_of_mem _ hc)) (fun c hc => hy c (List.mem_cons_of_mem _ hc)) h2]
theorem texts_inj {w : Int} : ∀ (x y : List Str), (∀ t ∈ x, textOk w t) → (∀ t ∈ y, textOk w t) → x.flatMap tI = y.flatMap tI → x = y
  | [], [], _, _, _ => rfl
  | [], b :: y, _, _, h => by rw [List.flatMap_cons] at h; unfold tI at h; simp at h
  | a :: x, [], _, _, h => by rw [List.flatMap_cons] at h; unfold tI at h; simp at h
  | a :: x, b :: y, hx, hy, h => by
    rw [List.flatMap_cons, List.flatMap_cons] at h
    unfold tI at h
    rw [List.cons_append, List.cons_append] at h
    injection h with h1 h2
    have hl : (a.cps.toList.map fun c => (ix c : Int)).length = (b.cps.toList.map fun c => (ix c : Int)).length := by
      rw [List.length_map, List.length_map]
      exact Int.ofNat.inj h1
    obtain ⟨h3, h4⟩ := List.append_inj h2 hl
    have e := map_ix_inj _ _ (hx a (List.mem_cons_self ..)).2.2.1 (hy b (List.mem_cons_self ..)).2.2.1 h3
    have e : a = b := by
      obtain ⟨⟨a⟩⟩ := a
      obtain ⟨⟨b⟩⟩ := b
      exact congrArg (fun l => (⟨⟨l⟩⟩ : Str)) e
    rw [e, texts_inj x y (fun t ht => hx t (List.mem_cons_of_mem _ ht)) (fun t ht => hy t (List.mem_cons_of_mem _ ht)) h4]
theorem code_inj {w : Int} {ps : List Pr} {x y : List Str} (hx : ∀ t ∈ x, textOk w t) (hy : ∀ t ∈ y, textOk w t) (h : codeI w ps x = codeI w ps y) : x = y := by
  unfold codeI at h
  have h := (List.append_inj' h rfl).1
  unfold bodyI at h
  have hl : (hdI w ps x.length).length = (hdI w ps y.length).length := by unfold hdI; simp
  obtain ⟨_, h2⟩ := List.append_inj h hl
  exact texts_inj x y hx hy h2
theorem cutL_last {α : Type} (l : List α) (a : α) : cutL (l ++ [a]) none (some (-1)) = l := by
  have hl : (l ++ [a]).length = l.length + 1 := by simp
  have e1 : HT.sIx (l ++ [a]).length 0 none = 0 := rfl
  have e2 : HT.sIx (l ++ [a]).length (l ++ [a]).length (some (-1)) = l.length := by
    show (if (-1 : Int) < 0 then (-1 + ((l ++ [a]).length : Int)).toNat else min (-1 : Int).toNat (l ++ [a]).length) = _
    rw [if_pos (by decide)]
    omega
  unfold cutL
  rw [e1, e2, List.drop_zero, Nat.sub_zero, List.take_left]
theorem code_cut (w : Int) (ps : List Pr) (ts : List Str) : cutL ((codeI w ps ts).map D.int) none (some (-1)) = (bodyI w ps ts).map D.int := by
  unfold codeI
  rw [List.map_append]
  exact cutL_last _ _
theorem code_cut3 (w : Int) (ps : List Pr) (ts : List Str) : cutL ((codeI w ps ts).map D.int) none (some 3) = [.int 77, .int w, .int (ps.length : Int)] := by
  have h : (3 : Nat) ≤ ((codeI w ps ts).map D.int).length := by
    unfold codeI bodyI hdI
    simp only [List.length_map, List.length_append, List.length_cons]
    omega
  have := cutL_take (xs := (codeI w ps ts).map D.int) h
  refine this.trans ?_
  rfl
theorem code_last (w : Int) (ps : List Pr) (ts : List Str) : atI ((codeI w ps ts).map D.int) (-1) = some (.int ((bodyI w ps ts).sum % 256)) := by
  refine atI_neg (j := (bodyI w ps ts).length) ?_ ?_ (by decide)
  · unfold codeI
    rw [List.length_map, List.length_append]
    simp
    omega
  · unfold codeI
    rw [List.map_append, List.getElem?_append_right (by rw [List.length_map]; omega), List.length_map, Nat.sub_self]
    rfl
theorem code_len (w : Int) (ps : List Pr) (ts : List Str) : ((codeI w ps ts).length : Int) = 5 + 2 * (ps.length : Int) + (ts.length : Int) + (ts.map fun t => (t.length : Int)).sum := by
  have gen : ∀ ts : List Str, ((ts.flatMap tI).length : Int) = (ts.length : Int) + (ts.map fun t => (t.length : Int)).sum := by
    intro ts
    induction ts with
    | nil => rfl
    | cons t ts ih =>
      have e : (tI t).length = 1 + t.length := by unfold tI; rw [List.length_cons, List.length_map]; show t.length + 1 = _; omega
      rw [List.flatMap_cons, List.length_append, e, List.length_cons, List.map_cons, List.sum_cons]
      omega
  have g := gen ts
  have f := flat_len ps
  unfold codeI bodyI hdI
  simp only [List.length_append, List.length_cons, List.length_nil, List.length_map]
  omega

def ZT : List D := [.str "ABMW6", .str "ACB", .str "AB69MW"]
theorem zs_at {r : Int} (h0 : 0 ≤ r) (h1 : r < 3) : ∃ z, atI ZT r = some (.str z) ∧ z.length ≤ 100 ∧ z.cps.toList.Nodup ∧ (∀ c ∈ z.cps.toList, inL c) ∧ 0 < z.length := by
  obtain rfl | rfl | rfl : r = 0 ∨ r = 1 ∨ r = 2 := by omega
  · exact ⟨"ABMW6", rfl, by decide +kernel, by decide +kernel, by unfold inL; decide +kernel, by decide +kernel⟩
  · exact ⟨"ACB", rfl, by decide +kernel, by decide +kernel, by unfold inL; decide +kernel, by decide +kernel⟩
  · exact ⟨"AB69MW", rfl, by decide +kernel, by decide +kernel, by unfold inL; decide +kernel, by decide +kernel⟩
theorem show_eq : Str.ofString "show " = Str.ofString "show" ++ Str.ofString " " := by decide +kernel
theorem text_lt {w : Int} {ts : List Str} (h : ∀ t ∈ ts, textOk w t) : ∀ t ∈ ts, ∀ c ∈ t.cps.toList, c < 128 := by
  intro t ht c hc
  rcases (h t ht).2.2.1 c hc with rfl | h
  · decide
  · exact inL_lt h
theorem num_lt {o : Int} (h : 0 ≤ o) (h2 : o < 100) : ∀ c ∈ (numS o).cps.toList, c < 128 := by
  have key : ∀ n ∈ List.range 100, ∀ c ∈ (numS (n : Int)).cps.toList, c < 128 := by decide +kernel
  have := key o.toNat (List.mem_range.mpr (by omega))
  rwa [show ((o.toNat : Nat) : Int) = o by omega] at this
theorem line_lt {w : Int} {ts : List Str} {os : List Int} (w2 : w ≤ 24) (ht : ∀ t ∈ ts, textOk w t) (hO : okOff w ts os) {p : Str × Int} (hp : p ∈ ts.zip os) : ∀ c ∈ (lineS p.1 p.2).cps.toList, c < 128 := by
  intro c hc
  obtain ⟨i, hi⟩ := List.getElem?_of_mem hp
  obtain ⟨h1, h2⟩ := List.getElem?_zip_eq_some.mp hi
  obtain ⟨o1, o2⟩ := hO.2 i _ _ h1 h2
  have hpt := ht _ (List.mem_of_getElem? h1)
  unfold lineS at hc
  rw [cps_app, cps_app, cps_app, cps_app] at hc
  rcases List.mem_append.mp hc with hc | hc
  · rcases List.mem_append.mp hc with hc | hc
    · rcases List.mem_append.mp hc with hc | hc
      · rcases List.mem_append.mp hc with hc | hc
        · exact (by decide +kernel : ∀ c ∈ (Str.ofString "show").cps.toList, c < 128) c hc
        · exact (by decide +kernel : ∀ c ∈ (Str.ofString " ").cps.toList, c < 128) c hc
      · have := hpt.1
        exact num_lt o1 (by omega) c hc
    · exact (by decide +kernel : ∀ c ∈ (Str.ofString " ").cps.toList, c < 128) c hc
  · exact text_lt ht _ (List.mem_of_getElem? h1) c hc
theorem pairs_ok : ∀ {ps : List Pr}, okPs ps → okL (ps.map pD) = true ∧ depL (ps.map pD) = 0
  | [], _ => ⟨rfl, rfl⟩
  | p :: ps, h => by
    obtain ⟨h1, h2⟩ := pairs_ok (ps := ps) fun c hc => h c (List.mem_append_right _ hc)
    have e : okD (pD p) = true := okS fun c hc => by
      have hc : c ∈ [p.1, p.2] := hc
      exact inL_lt (h c (List.mem_append_left _ hc))
    exact ⟨by show (okD (pD p) && okL (ps.map pD)) = true; rw [e, h1]; rfl, by show max 0 (depL (ps.map pD)) = 0; rw [h2]; rfl⟩
section
variable {P : Program} {w : World} {K : Frg} {mg : Str → Option Value} {base : Heap}
theorem ok_law (T : Txt K mg) (G_Sign___init__ : OK_Sign___init__ P w base T) (G_fixed_cost : OK_fixed_cost P w base T) (G_season_cost : OK_season_cost P w base T) (G_format_season : OK_format_season P w base T) (G_parse_season : OK_parse_season P w base T) (G_encode : OK_encode P w base T) (G_decode : OK_decode P w base T)
    (G__law_random : OK__law_random P w base T) (G__law_below : OK__law_below P w base T) (G__law_pairs : OK__law_pairs P w base T) (G__law_texts : OK__law_texts P w base T) : OK_law P w base T := by
  refine fn_ok T.F_law sc_law (by rintro _ _ _ _ _ ⟨ns, rfl, _⟩; rfl) (fun cdv A outer s H E hr => ?_)
  have hu64 := hr.units
  refine ⟨_, (pss_cons (ps_set (i := 1) sc_law.nd rfl (by first | exact Or.inl rfl | exact Or.inr rfl) (pe_call G__law_random (hr.mono (by first | decide | omega)) (by rfl) T.m__law_random T.F__law_random.kp T.b__law_random .nil pass0 (pa_cons (pv 0) (pa_cons pe_int pa_nil))))
      (pss_cons (ps_set (i := 2) sc_law.nd rfl (by first | exact Or.inl rfl | exact Or.inr rfl) (pe_ix (kIX (K := K) rfl) (pe_lst (pa_cons pe_str (pa_cons pe_str (pa_cons pe_str pa_nil)))) (pe_call G__law_below (hr.mono (by first | decide | omega)) (by rfl) T.m__law_below T.F__law_below.kp T.b__law_below .nil pass0 (pa_cons (pv 1) (pa_cons pe_int pa_nil))) (fun _ _ => rfl)))
      (pss_cons (ps_asg (pe_tup (pa_cons (pe_op (kADD (K := K) rfl) pe_int (pe_call G__law_below (hr.mono (by first | decide | omega)) (by rfl) T.m__law_below T.F__law_below.kp T.b__law_below .nil pass0 (pa_cons (pv 1) (pa_cons pe_int pa_nil)))) (pa_cons (pe_call G__law_pairs (hr.mono (by first | decide | omega)) (by rfl) T.m__law_pairs T.F__law_pairs.kp T.b__law_pairs .nil pass0 (pa_cons (pv 1) (pa_cons (pv 2) pa_nil))) pa_nil))) (pg_tup rfl (pgs_cons (pg_name (i := 3) sc_law.nd rfl (by first | exact Or.inl rfl | exact Or.inr rfl)) (pgs_cons (pg_name (i := 4) sc_law.nd rfl (by first | exact Or.inl rfl | exact Or.inr rfl)) pgs_nil))))
      (pss_cons (ps_asg (pe_tup (pa_cons (pe_make T.M_Sign G_Sign___init__ (hr.mono (by first | decide | omega)) (by rfl) T.m_Sign T.b_Sign___init__ .nil pass0 (pa_cons (pv 3) (pa_cons (pv 4) pa_nil))) (pa_cons (pe_call G__law_texts (hr.mono (by first | decide | omega)) (by rfl) T.m__law_texts T.F__law_texts.kp T.b__law_texts .nil pass0 (pa_cons (pv 1) (pa_cons pe_int (pa_cons (pv 3) (pa_cons (pv 2) pa_nil))))) pa_nil))) (pg_tup rfl (pgs_cons (pg_name (i := 5) sc_law.nd rfl (by first | exact Or.inl rfl | exact Or.inr rfl)) (pgs_cons (pg_name (i := 6) sc_law.nd rfl (by first | exact Or.inl rfl | exact Or.inr rfl)) pgs_nil))))
      (pss_cons (ps_set (i := 7) sc_law.nd rfl (by first | exact Or.inl rfl | exact Or.inr rfl) (pe_callTy (kTUPLE (K := K) rfl) (by rfl) T.g_tuple boot_tuple (pa_cons (pe_lc rfl sc_law.nd (pi_tupk (K := K) rfl (pv 6)) (own := [("_law_text_here", 8)]) (@BlkOk.mk N_law (defScope s_law) _ _ rfl (by decide +kernel) (by decide +kernel) (by decide +kernel) (by decide +kernel)) (fun _ _ _ _ _ => (pg_name (i := 8) sc_law.nd rfl (by first | exact Or.inl rfl | exact Or.inr rfl))) (fun _ _ _ _ _ => pts_nil) (fun _ _ _ _ _ => (pe_call G__law_below (hr.mono (by first | decide | omega)) (by rfl) T.m__law_below T.F__law_below.kp T.b__law_below .nil pass0 (pa_cons (pv 1) (pa_cons (pe_op (kADD (K := K) rfl) (pe_op op_sub (pv 3) (pe_callB (kLEN (K := K) rfl) (by rfl) T.g_len boot_len (pa_cons (pv 8) pa_nil))) pe_int) pa_nil))))) pa_nil)))
      (pss_cons (ps_set (i := 8) sc_law.nd rfl (by first | exact Or.inl rfl | exact Or.inr rfl) (pe_call G_format_season (hr.mono (by first | decide | omega)) (by rfl) T.m_format_season T.F_format_season.kp T.b_format_season .nil pass0 (pa_cons (pv 5) (pa_cons (pv 6) (pa_cons (pv 7) pa_nil)))))
      (pss_cons (ps_asg (pe_call G_parse_season (hr.mono (by first | decide | omega)) (by rfl) T.m_parse_season T.F_parse_season.kp T.b_parse_season .nil pass0 (pa_cons (pv 8) pa_nil)) (pg_tup rfl (pgs_cons (pg_name (i := 9) sc_law.nd rfl (by first | exact Or.inl rfl | exact Or.inr rfl)) (pgs_cons (pg_name (i := 10) sc_law.nd rfl (by first | exact Or.inl rfl | exact Or.inr rfl)) (pgs_cons (pg_name (i := 11) sc_law.nd rfl (by first | exact Or.inl rfl | exact Or.inr rfl)) pgs_nil)))))
      (pss_cons (ps_if (pt_cmpR (kNE (K := K) rfl hu64) (pe_tup (pa_cons (pe_fldk (K := K) rfl (pv 9) (by rfl)) (pa_cons (pe_fldk (K := K) rfl (pv 9) (by rfl)) (pa_cons (pv 10) (pa_cons (pv 11) pa_nil))))) (pe_tup (pa_cons (pv 3) (pa_cons (pv 4) (pa_cons (pv 6) (pa_cons (pv 7) pa_nil))))) (nomark _)) (pss_one (ps_ret pe_bl)) pss_nil)
      (pss_cons (ps_if ((pw_or (pt_cmpR (kNE (K := K) rfl hu64) (pe_call G_format_season (hr.mono (by first | decide | omega)) (by rfl) T.m_format_season T.F_format_season.kp T.b_format_season .nil pass0 (pa_cons (pv 9) (pa_cons (pv 10) (pa_cons (pv 11) pa_nil)))) (pv 8) (nomark _)) (pw_or1 (pt_cmpR (kNE (K := K) rfl hu64) (pe_call G_encode (hr.mono (by first | decide | omega)) (by rfl) T.m_encode T.F_encode.kp T.b_encode .nil pass0 (pa_cons (pv 9) (pa_cons (pv 10) pa_nil))) (pe_call G_encode (hr.mono (by first | decide | omega)) (by rfl) T.m_encode T.F_encode.kp T.b_encode .nil pass0 (pa_cons (pv 5) (pa_cons (pv 6) pa_nil))) (nomark _))))).pt (pss_one (ps_ret pe_bl)) pss_nil)
      (pss_cons (ps_set (i := 12) sc_law.nd rfl (by first | exact Or.inl rfl | exact Or.inr rfl) (pe_bmk (K := K) rfl PySem.F.plainAttrs_str PySem.F.slot_str_split PySem.F.type_str_split mt_SPL (pv 8) (pa_cons pe_str pa_nil)))
      (pss_cons (ps_if ((pw_or (pt_cmpR (kNE (K := K) rfl hu64) (pe_ix (kIX (K := K) rfl) (pv 12) pe_int (fun _ _ => rfl)) (pe_bmk (K := K) rfl PySem.F.plainAttrs_str PySem.F.slot_str_join PySem.F.type_str_join (kJOIN (K := K) rfl) pe_str (pa_cons (pe_op (kADD (K := K) rfl) (pe_lst (pa_cons pe_str (pa_cons (pe_callTy call_STRI (by rfl) T.g_str boot_str (pa_cons (pv 3) pa_nil)) pa_nil))) (pe_callTy (kLIST (K := K) rfl rfl) (by rfl) T.g_list boot_list (pa_cons (pv 4) pa_nil))) pa_nil)) (nomark _)) (pw_or1 (pt_cmpR (kNE (K := K) rfl hu64) (pe_callB (kLEN (K := K) rfl) (by rfl) T.g_len boot_len (pa_cons (pv 12) pa_nil)) (pe_op (kADD (K := K) rfl) pe_int (pe_callB (kLEN (K := K) rfl) (by rfl) T.g_len boot_len (pa_cons (pv 6) pa_nil))) (nomark _))))).pt (pss_one (ps_ret pe_bl)) pss_nil)
      (pss_cons (ps_if (pt_cmpR (kNE (K := K) rfl hu64) (pe_slice (kSLC (K := K) rfl) (pv 12) (po_some pe_int) po_none) (pe_lc rfl sc_law.nd (pi_range1 (by rfl) T.g_range (pa_cons (pe_callB (kLEN (K := K) rfl) (by rfl) T.g_len boot_len (pa_cons (pv 6) pa_nil)) pa_nil)) (own := [("_law_k", 13)]) (@BlkOk.mk N_law (defScope s_law) _ _ rfl (by decide +kernel) (by decide +kernel) (by decide +kernel) (by decide +kernel)) (fun _ _ _ _ _ => (pg_name (i := 13) sc_law.nd rfl (by first | exact Or.inl rfl | exact Or.inr rfl))) (fun _ _ _ _ _ => pts_nil) (fun _ _ _ _ _ => (pe_op (kADD (K := K) rfl) (pe_op (kADD (K := K) rfl) (pe_op (kADD (K := K) rfl) pe_str (pe_callTy call_STRI (by rfl) T.g_str boot_str (pa_cons (pe_ix (kIX (K := K) rfl) (pv 7) (pv 13) (fun _ _ => rfl)) pa_nil))) pe_str) (pe_ix (kIX (K := K) rfl) (pv 6) (pv 13) (fun _ _ => rfl))))) (nomark _)) (pss_one (ps_ret pe_bl)) pss_nil)
      (pss_cons (ps_asg (pe_call G_decode (hr.mono (by first | decide | omega)) (by rfl) T.m_decode T.F_decode.kp T.b_decode .nil pass0 (pa_cons (pe_call G_encode (hr.mono (by first | decide | omega)) (by rfl) T.m_encode T.F_encode.kp T.b_encode .nil pass0 (pa_cons (pv 5) (pa_cons (pv 6) pa_nil))) pa_nil)) (pg_tup rfl (pgs_cons (pg_name (i := 14) sc_law.nd rfl (by first | exact Or.inl rfl | exact Or.inr rfl)) (pgs_cons (pg_name (i := 15) sc_law.nd rfl (by first | exact Or.inl rfl | exact Or.inr rfl)) pgs_nil))))
      (pss_cons (ps_if (pt_cmpR (kNE (K := K) rfl hu64) (pe_tup (pa_cons (pe_fldk (K := K) rfl (pv 14) (by rfl)) (pa_cons (pe_fldk (K := K) rfl (pv 14) (by rfl)) (pa_cons (pv 15) pa_nil)))) (pe_tup (pa_cons (pv 3) (pa_cons (pv 4) (pa_cons (pv 6) pa_nil)))) (nomark _)) (pss_one (ps_ret pe_bl)) pss_nil)
      (pss_cons (ps_set (i := 16) sc_law.nd rfl (by first | exact Or.inl rfl | exact Or.inr rfl) (pe_call G_encode (hr.mono (by first | decide | omega)) (by rfl) T.m_encode T.F_encode.kp T.b_encode .nil pass0 (pa_cons (pv 5) (pa_cons (pv 6) pa_nil))))
      (pss_cons (ps_if ((pw_or (pt_cmpR (kNE (K := K) rfl hu64) (pe_op op_mod (pe_callTy call_INT (by rfl) T.g_int boot_int (pa_cons (pe_callB (kSUM (K := K) rfl rfl) (by rfl) T.g_sum boot_sum (pa_cons (pe_slice (kSLC (K := K) rfl) (pv 16) po_none (po_some (pe_un un_neg pe_int))) pa_nil)) pa_nil)) pe_int) (pe_ix (kIX (K := K) rfl) (pv 16) (pe_un un_neg pe_int) (fun _ _ => rfl)) (nomark _)) (pw_or1 (pt_cmpR (kNE (K := K) rfl hu64) (pe_slice (kSLC (K := K) rfl) (pv 16) po_none (po_some pe_int)) (pe_lst (pa_cons pe_int (pa_cons (pv 3) (pa_cons (pe_callB (kLEN (K := K) rfl) (by rfl) T.g_len boot_len (pa_cons (pv 4) pa_nil)) pa_nil)))) (nomark _))))).pt (pss_one (ps_ret pe_bl)) pss_nil)
      (pss_cons (ps_if (pt_cmpR (kNE (K := K) rfl hu64) (pe_callB (kLEN (K := K) rfl) (by rfl) T.g_len boot_len (pa_cons (pv 16) pa_nil)) (pe_op (kADD (K := K) rfl) (pe_op (kADD (K := K) rfl) (pe_op (kADD (K := K) rfl) pe_int (pe_op (kMUL (K := K) rfl) pe_int (pe_callB (kLEN (K := K) rfl) (by rfl) T.g_len boot_len (pa_cons (pv 4) pa_nil)))) (pe_callB (kLEN (K := K) rfl) (by rfl) T.g_len boot_len (pa_cons (pv 6) pa_nil))) (pe_callB (kSUM (K := K) rfl rfl) (by rfl) T.g_sum boot_sum (pa_cons (pe_lc rfl sc_law.nd (pi_tupk (K := K) rfl (pv 6)) (own := [("_law_one", 17)]) (@BlkOk.mk N_law (defScope s_law) _ _ rfl (by decide +kernel) (by decide +kernel) (by decide +kernel) (by decide +kernel)) (fun _ _ _ _ _ => (pg_name (i := 17) sc_law.nd rfl (by first | exact Or.inl rfl | exact Or.inr rfl))) (fun _ _ _ _ _ => pts_nil) (fun _ _ _ _ _ => (pe_callB (kLEN (K := K) rfl) (by rfl) T.g_len boot_len (pa_cons (pv 17) pa_nil)))) pa_nil))) (nomark _)) (pss_one (ps_ret pe_bl)) pss_nil)
      (pss_cons (ps_set (i := 18) sc_law.nd rfl (by first | exact Or.inl rfl | exact Or.inr rfl) (pe_call G_fixed_cost (hr.mono (by first | decide | omega)) (by rfl) T.m_fixed_cost T.F_fixed_cost.kp T.b_fixed_cost .nil pass0 (pa_cons (pv 5) (pa_cons (pv 6) (pa_cons (pv 7) pa_nil)))))
      (pss_cons (ps_if ((pw_or (pt_cmpR (kNE (K := K) rfl hu64) (pe_call G_fixed_cost (hr.mono (by first | decide | omega)) (by rfl) T.m_fixed_cost T.F_fixed_cost.kp T.b_fixed_cost .nil pass0 (pa_cons (pv 9) (pa_cons (pv 10) (pa_cons (pv 11) pa_nil)))) (pv 18) (nomark _)) (pw_or1 (pt_cmpR (kNE (K := K) rfl hu64) (pe_call G_fixed_cost (hr.mono (by first | decide | omega)) (by rfl) T.m_fixed_cost T.F_fixed_cost.kp T.b_fixed_cost .nil pass0 (pa_cons (pv 14) (pa_cons (pv 15) (pa_cons (pv 7) pa_nil)))) (pv 18) (nomark _))))).pt (pss_one (ps_ret pe_bl)) pss_nil)
      (pss_cons (ps_if (pt_cmpR (kLTT (K := K) rfl hu64) (pv 18) (pe_call G_season_cost (hr.mono (by first | decide | omega)) (by rfl) T.m_season_cost T.F_season_cost.kp T.b_season_cost .nil pass0 (pa_cons (pv 5) (pa_cons (pv 6) pa_nil))) (nomark _)) (pss_one (ps_ret pe_bl)) pss_nil)
      (pss_cons (ps_set (i := 19) sc_law.nd rfl (by first | exact Or.inl rfl | exact Or.inr rfl) (pe_call G__law_texts (hr.mono (by first | decide | omega)) (by rfl) T.m__law_texts T.F__law_texts.kp T.b__law_texts .nil pass0 (pa_cons (pv 1) (pa_cons pe_int (pa_cons (pv 3) (pa_cons (pv 2) pa_nil))))))
      (pss_one (ps_ret (pe_cmpR (kEQ (K := K) rfl hu64) (pe_cmpR (kEQ (K := K) rfl hu64) (pe_call G_encode (hr.mono (by first | decide | omega)) (by rfl) T.m_encode T.F_encode.kp T.b_encode .nil pass0 (pa_cons (pv 5) (pa_cons (pv 19) pa_nil))) (pv 16) (nomark _)) (pe_cmpR (kEQ (K := K) rfl hu64) (pv 19) (pv 6) (nomark _)) (nomark _))))))))))))))))))))))))), ?_⟩
  rintro _ F ms Q Ea ⟨ns, rfl, hn, q⟩
  walk_at "al"
  refine ⟨ns, rfl, hn, fun F1 l st e1 hst => ?_⟩
  walk_at "al"
  refine ae_lstF ?_
  walk_at "al"
  refine ⟨by simp, fun F2 e2 => ?_⟩
  walk_at "al"
  refine ⟨0, l, st, 3, rfl, rfl, hst, by decide, by decide, fun st2 r hst2 r0 r1 => ?_⟩
  obtain ⟨z, hz, hz1, hz2, hz3, hz4⟩ := zs_at r0 r1
  refine ar_ixL (d := .str z) hz ?_
  walk_at "al"
  refine as_asgG ?_
  refine ae_tup ?_
  walk_at "al"
  refine ⟨0, l, st2, 24, rfl, rfl, hst2, by decide, by decide, fun st3 w0 hst3 w1 w2 => ?_⟩
  walk_at "al"
  refine ⟨0, l, st3, z, rfl, rfl, hst3, hz1, hz2, hz3, fun st4 F3 ps e3 hst4 hp1 hp2 hp3 => ?_⟩
  have hpL : ∀ c ∈ flat ps, inL c := fun c hc => hz3 c (hp2 c hc)
  walk_at "al"
  refine ⟨by simp, fun F3' e3' => ?_⟩
  refine ag_tup rfl ?_
  refine ags_cons (ag_name ?_)
  refine ags_cons (ag_name ?_)
  refine ags_nil ?_
  refine as_norm (S' := [_, _, _, _, _, _, _, _, _, _, _, _, _, _, _, _, _, _, _, _]) rfl ?_
  walk_at "al"
  refine as_asgG ?_
  refine ae_tup ?_
  walk_at "al"
  refine ae_make (dds := []) (fun _ => .nil) ?_
  walk_at "al"
  intro x F4 e4
  refine ⟨x, 1 + w0, ps, _, rfl, by omega, by omega, by omega, hpL, hp3, rfl, fun m F5 e5 => ⟨rfl, ?_⟩⟩
  walk_at "al"
  refine ⟨2, l, st4, 1 + w0, z, rfl, rfl, hst4, by omega, by omega, hz4, hz1, hz3, fun st5 F6 ts e6 hst5 ht1 ht2 ht => ?_⟩
  have hOk : okSeason (1 + w0) ps ts := ⟨by omega, by omega, by omega, hpL, hp3, ht1, ht2, ht⟩
  walk_at "al"
  refine ⟨by simp, fun F7 e7 => ?_⟩
  refine ag_tup rfl ?_
  refine ags_cons (ag_name ?_)
  refine ags_cons (ag_name ?_)
  refine ags_nil ?_
  refine as_norm (S' := [_, _, _, _, _, _, _, _, _, _, _, _, _, _, _, _, _, _, _, _]) rfl ?_
  walk_at "al"
  refine ae_lc (gw_name (by simp)) gm_name ?_
  refine ai_tup ?_
  walk_at "al"
  refine ⟨_, rfl, fun n F' ms' acc => ∃ (st7 : List D) (os : List Int), ms' = (m, .dic (kvsOf ps)) :: (x, .ins T.c_Sign (fldS m (1 + w0) ps)) :: (l, .lst st7) :: ms ∧ St st7 ∧ acc = os.map D.int ∧ os.length = n ∧ ∀ (i : Nat) (t : Str) (o : Int), ts[i]? = some t → os[i]? = some o → 0 ≤ o ∧ o + (t.length : Int) ≤ 1 + w0, ⟨st5, [], rfl, hst5, rfl, rfl, fun i t o _ h => by simp at h⟩, fun _ _ _ _ _ _ => trivial, ?_, ?_⟩
  · rintro n d3 F8 ms3 acc e8 hd3 ⟨st7, os, rfl, hst7, rfl, hl, ho⟩ F9 e9
    obtain ⟨t, hp, rfl⟩ := strs_at hd3
    have hn : n < ts.length := (List.getElem?_eq_some_iff.mp hp).1
    obtain ⟨g1, g2, _⟩ := ht t (List.mem_of_getElem? hp)
    refine ag_name ?_
    walk_at "al"
    refine ac_lenS (z := t) (by omega) ?_
    walk_at "al"
    refine ⟨2, l, st7, _, rfl, rfl, hst7, by omega, by omega, fun st8 o hst8 o0 o1 => ?_⟩
    refine ⟨by rw [List.length_map]; omega, st8, os ++ [o], rfl, hst8, by rw [List.map_append]; rfl, by rw [List.length_append, hl]; rfl, ?_⟩
    intro i t' o' h1 h2
    by_cases hi : i < os.length
    · rw [List.getElem?_append_left hi] at h2
      exact ho i t' o' h1 h2
    · have hi2 : i = n := by
        have := (List.getElem?_eq_some_iff.mp h2).1
        rw [List.length_append] at this
        simp at this
        omega
      subst hi2
      rw [List.getElem?_append_right (by omega), hl, Nat.sub_self] at h2
      rw [hp] at h1
      cases h1
      cases h2
      exact ⟨o0, by omega⟩
  · rintro F8 ms3 acc e8 ⟨st7, os, rfl, hst7, rfl, hl, ho⟩ F9 e9
    rw [List.length_map] at hl
    have hO : okOff (1 + w0) ts os := ⟨hl, ho⟩
    obtain ⟨hs1, hs2⟩ := lines_sum hOk hO
    have slen := season_len hOk hO
    have hM0 : ((m, MO.dic (kvsOf ps)) :: (x, .ins T.c_Sign (fldS m (1 + w0) ps)) :: (l, .lst st7) :: ms)[0]? = some (m, .dic (kvsOf ps)) := rfl
    have hM1 : ((m, MO.dic (kvsOf ps)) :: (x, .ins T.c_Sign (fldS m (1 + w0) ps)) :: (l, .lst st7) :: ms)[1]? = some (x, .ins T.c_Sign (fldS m (1 + w0) ps)) := rfl
    have hM2 : ((m, MO.dic (kvsOf ps)) :: (x, .ins T.c_Sign (fldS m (1 + w0) ps)) :: (l, .lst st7) :: ms)[2]? = some (l, .lst st7) := rfl
    generalize (m, MO.dic (kvsOf ps)) :: (x, .ins T.c_Sign (fldS m (1 + w0) ps)) :: (l, .lst st7) :: ms = M at hM0 hM1 hM2 ⊢
    obtain ⟨pk1, pk2⟩ := pairs_ok (ps := ps) hpL
    have tk1 := okL_strs (text_lt ht)
    have d4 : okD (.tup [.int (1 + w0), .tup (ps.map pD), .tup (ts.map D.str), .tup (os.map D.int)]) = true := by
      show (true && (okL (ps.map pD) && (okL (ts.map D.str) && (okL (os.map D.int) && true)))) = true
      rw [pk1, tk1, okL_ints]; rfl
    have d4d : dep (.tup [.int (1 + w0), .tup (ps.map pD), .tup (ts.map D.str), .tup (os.map D.int)]) ≤ 64 := by
      show max 0 (max (depL (ps.map pD) + 1) (max (depL (ts.map D.str) + 1) (max (depL (os.map D.int) + 1) 0))) + 1 ≤ 64
      rw [pk2, depL_strs, depL_ints]; decide
    have d3 : okD (.tup [.int (1 + w0), .tup (ps.map pD), .tup (ts.map D.str)]) = true := by
      show (true && (okL (ps.map pD) && (okL (ts.map D.str) && true))) = true
      rw [pk1, tk1]; rfl
    have d3d : dep (.tup [.int (1 + w0), .tup (ps.map pD), .tup (ts.map D.str)]) ≤ 64 := by
      show max 0 (max (depL (ps.map pD) + 1) (max (depL (ts.map D.str) + 1) 0)) + 1 ≤ 64
      rw [pk2, depL_strs]; decide
    have dc : okD (.lst ((codeI (1 + w0) ps ts).map D.int)) = true := by unfold okD; exact okL_ints _
    have dcd : dep (.lst ((codeI (1 + w0) ps ts).map D.int)) ≤ 64 := by unfold dep; rw [depL_ints]; decide
    walk_at "al"
    refine ac_tupleL (.inl rfl) fun F10 e10 => ?_
    walk_at "al"
    refine ⟨x, 1 + w0, ps, ts, os, rfl, ⟨1, 0, m, hM1, hM0⟩, hOk, hO, fun F11 e11 => ?_⟩
    walk_at "al"
    refine as_asgG ?_
    walk_at "al"
    refine ⟨1 + w0, ps, ts, os, rfl, hOk, hO, fun F12 y m2 R e12 hR => ?_⟩
    obtain ⟨kl, hkl⟩ := hR _ _ hM2
    obtain ⟨kx, hkx⟩ := hR _ _ hM1
    obtain ⟨km, hkm⟩ := hR _ _ hM0
    refine ag_tup rfl ?_
    refine ags_cons (ag_name ?_)
    refine ags_cons (ag_name ?_)
    refine ags_cons (ag_name ?_)
    refine ags_nil ?_
    refine as_norm (S' := [_, _, _, _, _, _, _, _, _, _, _, _, _, _, _, _, _, _, _, _]) rfl ?_
    walk_at "al"
    refine ae_tup ?_
    walk_at "al"
    refine ae_fld ?_
    walk_at "al"
    refine ⟨y, T.c_Sign, fldS m2 (1 + w0) ps, .int (1 + w0), rfl, .inr ⟨1, rfl⟩, T.k_Sign, T.n_Sign_width, rfl, ?_⟩
    walk_at "al"
    refine ae_fld ?_
    walk_at "al"
    refine ⟨y, T.c_Sign, fldS m2 (1 + w0) ps, .tup (ps.map pD), rfl, .inr ⟨1, rfl⟩, T.k_Sign, T.n_Sign_pairs, rfl, ?_⟩
    walk_at "al"
    refine ⟨by simp, fun F13 e13 => ?_⟩
    refine ae_tup ?_
    walk_at "al"
    refine ⟨by simp, fun F14 e14 => ?_⟩
    refine ar_NEd d4 d4 d4d d4d ?_
    rw [eqv_self _ d4]
    walk_at "al"
    refine ⟨y, 1 + w0, ps, ts, os, rfl, ⟨1, 0, m2, rfl, rfl⟩, hOk, hO, fun F15 e15 => ?_⟩
    walk_at "al"
    refine and_ndT' rfl ?_
    walk_at "al"
    refine ⟨y, 1 + w0, ps, ts, rfl, ⟨1, 0, m2, rfl, rfl⟩, hOk, fun F16 l1 e16 => ?_⟩
    walk_at "al"
    refine ⟨x, 1 + w0, ps, ts, rfl, ⟨kx + 3, km + 3, m, hkx, hkm⟩, hOk, fun F17 l2 e17 => ?_⟩
    refine ar_frzR 0 rfl fun F18 e18 => ?_
    refine ar_frzL 0 rfl fun F19 e19 => ?_
    refine ar_NEd dc dc dcd dcd ?_
    rw [eqv_self _ dc]
    walk_at "al"
    refine ae_bmS ?_
    walk_at "al"
    refine am_split (a := seasonS (1 + w0) ps ts os) (b := Str.ofString "\n") rfl (by omega) fun F20 e20 => ?_
    rw [lines_split hOk hO]
    walk_at "al"
    refine ar_ixL (d := .str (headS (1 + w0) ps)) (atI_of (j := 0) rfl rfl) ?_
    walk_at "al"
    refine ae_bmS ?_
    walk_at "al"
    refine ae_lstF ?_
    walk_at "al"
    refine ac_strI (by omega) ?_
    walk_at "al"
    refine ⟨by simp, fun F21 e21 => ?_⟩
    walk_at "al"
    refine ac_listF (.inr rfl) fun F22 e22 => ?_
    refine ar_ADDl (by rw [List.length_map]; show 2 + _ ≤ 100000; omega) fun F23 e23 => ?_
    walk_at "al"
    refine am_join (ys := Str.ofString "sign" :: numS (1 + w0) :: ps.map pS) (.inl (.inl (by rw [List.map_cons, List.map_cons, List.map_map]; rfl))) ?_ ?_
    · have h := head_sum (w := 1 + w0) (ps := ps) (by omega) (by omega) (by omega)
      have b : (Str.ofString " ").length = 1 := rfl
      rw [b, List.length_cons, List.length_cons, List.length_map]
      omega
    walk_at "al"
    refine and_ndT' rfl ?_
    walk_at "al"
    rw [List.length_map, List.length_map, hs2]
    refine and_ndT (by omega) ?_
    walk_at "al"
    refine ae_sl ?_
    walk_at "al"
    refine ao_some ?_
    walk_at "al"
    refine ao_none ?_
    refine sl_L (.inl (.inl rfl)) fun F24 e24 => ?_
    have ecut : cutL ((linesS (1 + w0) ps ts os).map D.str) (some 1) none = ((ts.zip os).map fun p => lineS p.1 p.2).map D.str := by
      refine (cutL_drop (xs := (linesS (1 + w0) ps ts os).map D.str) (p := 1) (by rw [List.length_map, hs2]; omega)).trans ?_
      rfl
    rw [ecut]
    walk_at "al"
    refine ae_lc (gw_name (by simp)) gm_name ?_
    refine ai_rng1 ?_
    walk_at "al"
    rw [List.length_map]
    refine ⟨_, rfl, by omega, by omega, fun n F' ms' acc => ms' = (m2, MO.dic (kvsOf ps)) :: (y, MO.ins T.c_Sign (fldS m2 (1 + w0) ps)) :: R ∧ acc = (((ts.zip os).map fun p => lineS p.1 p.2).take n).map D.str, ⟨rfl, rfl⟩, fun _ _ _ _ _ _ => trivial, ?_, ?_⟩
    · rintro n d3 F15 ms4 acc e15 hd3 ⟨rfl, rfl⟩ F16 e16
      obtain ⟨hn, rfl⟩ := range_at hd3
      have hn1 : n < ts.length := by omega
      have hn2 : n < os.length := by omega
      have ht1' : ts[n]? = some ts[n] := List.getElem?_eq_getElem hn1
      have ho1' : os[n]? = some os[n] := List.getElem?_eq_getElem hn2
      obtain ⟨o1, o2⟩ := ho n _ _ ht1' ho1'
      obtain ⟨g1, g2, _⟩ := ht _ (List.getElem_mem hn1)
      have nl := num_len o1 (by omega : os[n] < 100)
      have b : (Str.ofString " ").length = 1 := rfl
      have a : (Str.ofString "show ").length = 5 := rfl
      refine ag_name ?_
      walk_at "al"
      refine ar_ixT (d := .int os[n]) (atI_of (j := n) (by omega) (by rw [List.getElem?_map, ho1']; rfl)) ?_
      walk_at "al"
      refine ac_strI (by omega) ?_
      refine ar_ADDs (i := Str.ofString "show ") (j := numS os[n]) (by rw [a]; omega) ?_
      walk_at "al"
      refine ar_ADDs (i := Str.ofString "show " ++ numS os[n]) (j := Str.ofString " ") (by rw [str_len_add, a, b]; omega) ?_
      walk_at "al"
      refine ar_ixT (d := .str ts[n]) (atI_of (j := n) (by omega) (by rw [List.getElem?_map, ht1']; rfl)) ?_
      refine ar_ADDs (i := Str.ofString "show " ++ numS os[n] ++ Str.ofString " ") (j := ts[n]) (by rw [str_len_add, str_len_add, a, b]; omega) ?_
      refine ⟨by rw [List.length_map, List.length_take]; omega, rfl, ?_⟩
      rw [List.take_succ, line_at ht1' ho1', List.map_append, show_eq]
      rfl
    rintro F25 ms4 acc e25 ⟨rfl, rfl⟩ F26 e26
    have hzl : ((ts.zip os).map fun p => lineS p.1 p.2).length = ts.length := by rw [List.length_map, List.length_zip, hO.1, Nat.min_self]
    rw [range_len, show ((ts.length : Nat) : Int).toNat = ts.length by omega, ← hzl, List.take_length]
    have dl : okD (.lst (((ts.zip os).map fun p => lineS p.1 p.2).map D.str)) = true := by
      unfold okD
      refine okL_strs fun t ht' c hc => ?_
      obtain ⟨p, hp, rfl⟩ := List.mem_map.mp ht'
      exact line_lt (by omega) ht hO hp c hc
    have dld : dep (.lst (((ts.zip os).map fun p => lineS p.1 p.2).map D.str)) ≤ 64 := by unfold dep; rw [depL_strs]; decide
    refine ar_NEd dl dl dld dld ?_
    rw [eqv_self _ dl]
    walk_at "al"
    refine as_asgG ?_
    walk_at "al"
    refine ⟨x, 1 + w0, ps, ts, rfl, ⟨kx + 2, km + 2, m, hkx, hkm⟩, hOk, fun F27 l3 e27 => ?_⟩
    walk_at "al"
    refine ⟨0, l3, 1 + w0, ps, ts, rfl, rfl, hOk, fun F28 z2 m3 r3 p3 e28 => ?_⟩
    refine ag_tup rfl ?_
    refine ags_cons (ag_name ?_)
    refine ags_cons (ag_name ?_)
    refine ags_nil ?_
    refine as_norm (S' := [_, _, _, _, _, _, _, _, _, _, _, _, _, _, _, _, _, _, _, _]) rfl ?_
    walk_at "al"
    refine ae_tup ?_
    walk_at "al"
    refine ae_fld ?_
    walk_at "al"
    refine ⟨z2, T.c_Sign, fldS m3 (1 + w0) ps, .int (1 + w0), rfl, .inr ⟨1, rfl⟩, T.k_Sign, T.n_Sign_width, rfl, ?_⟩
    walk_at "al"
    refine ae_fld ?_
    walk_at "al"
    refine ⟨z2, T.c_Sign, fldS m3 (1 + w0) ps, .tup (ps.map pD), rfl, .inr ⟨1, rfl⟩, T.k_Sign, T.n_Sign_pairs, rfl, ?_⟩
    walk_at "al"
    refine ⟨by simp, fun F29 e29 => ?_⟩
    refine ae_tup ?_
    walk_at "al"
    refine ⟨by simp, fun F30 e30 => ?_⟩
    refine ar_NEd d3 d3 d3d d3d ?_
    rw [eqv_self _ d3]
    walk_at "al"
    refine ⟨x, 1 + w0, ps, ts, rfl, ⟨kx + 6, km + 6, m, hkx, hkm⟩, hOk, fun F31 l4 e31 => ?_⟩
    walk_at "al"
    refine ae_sl ?_
    walk_at "al"
    refine ao_none ?_
    refine ao_some ?_
    refine ae_neg (g := fun i => -i) (fun _ => rfl) ?_
    walk_at "al"
    refine sl_L (.inr ⟨0, l4, rfl, rfl⟩) fun F32 e32 => ?_
    rw [code_cut]
    walk_at "al"
    refine ac_sumL ?_
    walk_at "al"
    refine ac_intI ?_
    walk_at "al"
    refine ar_modI (j := 256) (by decide) ?_
    walk_at "al"
    refine ae_neg (g := fun i => -i) (fun _ => rfl) ?_
    walk_at "al"
    refine ar_ixO 0 (l := l4) rfl (code_last _ _ _) ?_
    walk_at "al"
    refine and_ndT' rfl ?_
    walk_at "al"
    refine ae_sl ?_
    walk_at "al"
    refine ao_none ?_
    refine ao_some ?_
    walk_at "al"
    refine sl_L (.inr ⟨0, l4, rfl, rfl⟩) fun F33 e33 => ?_
    rw [code_cut3]
    refine ae_lstF ?_
    walk_at "al"
    refine ⟨by simp, fun F34 e34 => ?_⟩
    rw [List.length_map]
    refine ar_NEd (d := .lst ([77, 1 + w0, (ps.length : Int)].map D.int)) (e := .lst ([77, 1 + w0, (ps.length : Int)].map D.int)) rfl rfl (Nat.le_of_ble_eq_true rfl) (Nat.le_of_ble_eq_true rfl) ?_
    rw [eqv_self _ rfl]
    walk_at "al"
    refine ac_lenO 0 (l := l4) rfl ?_
    rw [List.length_map, code_len]
    walk_at "al"
    refine ar_MULi (.inl ⟨by decide, by decide⟩) ?_
    walk_at "al"
    refine ae_lc (gw_name (by simp)) gm_name ?_
    refine ai_tup ?_
    walk_at "al"
    refine ⟨_, rfl, fun n F' ms' acc => ms' = (l4, MO.lst ((codeI (1 + w0) ps ts).map D.int)) :: (m3, MO.dic (kvsOf ps)) :: (z2, MO.ins T.c_Sign (fldS m3 (1 + w0) ps)) :: (r3, rO T.c_Reader l3 p3) :: (l3, MO.lst ((codeI (1 + w0) ps ts).map D.int)) :: (m2, MO.dic (kvsOf ps)) :: (y, MO.ins T.c_Sign (fldS m2 (1 + w0) ps)) :: R ∧ acc = ((ts.take n).map fun t => (t.length : Int)).map D.int, ⟨rfl, rfl⟩, fun _ _ _ _ _ _ => trivial, ?_, ?_⟩
    · rintro n d F35 ms5 acc e35 hd ⟨rfl, rfl⟩ F36 e36
      obtain ⟨t, hp, rfl⟩ := strs_at hd
      have hn : n < ts.length := (List.getElem?_eq_some_iff.mp hp).1
      obtain ⟨g1, g2, _⟩ := ht t (List.mem_of_getElem? hp)
      refine ag_name ?_
      walk_at "al"
      refine ac_lenS (z := t) (by omega) ?_
      refine ⟨by rw [List.length_map, List.length_map, List.length_take]; omega, rfl, ?_⟩
      rw [List.take_succ, hp, List.map_append, List.map_append]
      rfl
    rintro F35 ms5 acc e35 ⟨rfl, rfl⟩ F36 e36
    rw [List.length_map, List.take_length]
    walk_at "al"
    refine ac_sumL ?_
    walk_at "al"
    rw [List.length_map]
    refine and_ndT rfl ?_
    walk_at "al"
    refine ⟨x, 1 + w0, ps, ts, os, rfl, ⟨kx + 7, km + 7, m, hkx, hkm⟩, hOk, hO, fun F37 e37 => ?_⟩
    walk_at "al"
    refine ⟨y, 1 + w0, ps, ts, os, rfl, ⟨6, 5, m2, rfl, rfl⟩, hOk, hO, fun F38 e38 => ?_⟩
    walk_at "al"
    have dp : okD (cD (fixF ps (1 + w0) ts os)) = true := rfl
    have dpd : dep (cD (fixF ps (1 + w0) ts os)) ≤ 64 := Nat.le_of_ble_eq_true rfl
    refine ar_NEd dp dp dpd dpd ?_
    rw [eqv_self _ dp]
    walk_at "al"
    refine ⟨z2, 1 + w0, ps, ts, os, rfl, ⟨2, 1, m3, rfl, rfl⟩, hOk, hO, fun F39 e39 => ?_⟩
    walk_at "al"
    refine ar_NEd dp dp dpd dpd ?_
    rw [eqv_self _ dp]
    walk_at "al"
    refine ⟨x, 1 + w0, ps, ts, rfl, ⟨kx + 7, km + 7, m, hkx, hkm⟩, hOk, fun F40 e40 => ?_⟩
    refine ar_LTT (ns := [(fixF ps (1 + w0) ts os).1, (fixF ps (1 + w0) ts os).2]) (ks := [(seasonF ps (1 + w0) ts).1, (seasonF ps (1 + w0) ts).2]) ?_
    rw [lex_lt, price_ge hOk hO]
    walk_at "al"
    refine ⟨kl + 7, l, st7, 1 + w0, z, rfl, hkl, hst7, by omega, by omega, hz4, hz1, hz3, fun st8 F41 us e41 hst8 hu1 hu2 hu => ?_⟩
    have hOu : okSeason (1 + w0) ps us := ⟨by omega, by omega, by omega, hpL, hp3, hu1, hu2, hu⟩
    have hS8 : Sgn T.c_Sign (R.set kl (l, .lst st8)) x (1 + w0) ps := Sgn.setL hkl ⟨kx, km, m, hkx, hkm⟩
    obtain ⟨kx2, km2, m4, hkx2, hkm2⟩ := hS8
    walk_at "al"
    refine ⟨x, 1 + w0, ps, us, rfl, ⟨kx2 + 7, km2 + 7, m4, hkx2, hkm2⟩, hOu, fun F42 l5 e42 => ?_⟩
    walk_at "al"
    refine ar_frzL 0 rfl fun F43 e43 => ?_
    refine ar_frzR 0 rfl fun F44 e44 => ?_
    have du : okD (.lst ((codeI (1 + w0) ps us).map D.int)) = true := by unfold okD; exact okL_ints _
    have dud : dep (.lst ((codeI (1 + w0) ps us).map D.int)) ≤ 64 := by unfold dep; rw [depL_ints]; decide
    refine ar_EQd du dc dud dcd ?_
    rw [eqvL_ints]
    walk_at "al"
    have tk2 := okL_strs (text_lt hu)
    refine ar_EQd (d := .tup (us.map D.str)) (e := .tup (ts.map D.str)) (by unfold okD; exact tk2) (by unfold okD; exact tk1) (by unfold dep; rw [depL_strs]; decide) (by unfold dep; rw [depL_strs]; decide) ?_
    rw [eqvT_strs]
    walk_at "al"
    have hfin : decide (codeI (1 + w0) ps us = codeI (1 + w0) ps ts) = decide (us = ts) := by
      by_cases h : us = ts
      · rw [h, decide_eq_true rfl, decide_eq_true rfl]
      · rw [decide_eq_false h, decide_eq_false (fun e => h (code_inj hu ht e))]
    rw [hfin, decide_eq_true rfl]
    exact q _ _
end

section
variable {P : Program} {w : World} {K : Frg} {mg : Str → Option Value} {base : Heap}
theorem all_ok (T : Txt K mg) : OK_law P w base T :=
  have h1 : OK__law_below P w base T := ok__law_below T
  have h2 : OK__law_shuffled P w base T := ok__law_shuffled T h1
  have h3 : OK_is_int_in P w base T := ok_is_int_in T
  have h4 : OK_Sign___init__ P w base T := ok_Sign___init__ T h3 (ok_is_pair T)
  have h5 : OK_Sign_check_texts P w base T := ok_Sign_check_texts T (ok_Sign_is_text T)
  have h6 : OK_check_offsets P w base T := ok_check_offsets T h3
  have h7 : OK_format_season P w base T := ok_format_season T h5 h6
  have h8 : OK_parse_season P w base T := ok_parse_season T h4 h5 h6 (ok_read_number T)
  have h9 : OK_Sign_piece P w base T := ok_Sign_piece T
  have h10 : OK_cost P w base T := ok_cost T h9 (ok_links T h9) (ok_surplus T) (ok_groups T (ok_shares T)) (ok_is_closed T)
  have h11 : OK_Sign_blank P w base T := ok_Sign_blank T
  have h12 : OK_Sign_row_of P w base T := ok_Sign_row_of T
  have h13 : OK_add P w base T := ok_add T
  have h14 : OK_best_of P w base T := ok_best_of T h12 h10 h13
  have h15 : OK_costs_from P w base T := ok_costs_from T (ok_offsets_of T) h12 h14
  have h16 : OK_season_cost P w base T := ok_season_cost T h5 h11 h15 h14
  have h17 : OK_fixed_cost P w base T := ok_fixed_cost T h5 h6 h11 h12 h10 h13
  have h20 : OK_Reader_read_byte P w base T := ok_Reader_read_byte T h3
  have h21 : OK_Reader_read_letter P w base T := ok_Reader_read_letter T h20
  have h22 : OK_decode P w base T := ok_decode T h4 (ok_Reader___init__ T) h20 (ok_Reader_read_pairs T h20 h21) (ok_Reader_read_text T h20)
  ok_law T h4 h17 h16 h7 h8 (ok_encode T h5) h22 (ok__law_random T) h1 (ok__law_pairs T h1 h2) (ok__law_texts T h1 (ok__law_text T h1))
end
theorem all_mk {l : PySem.W.OpenLaw} {w : World} {K : PySem.W.Frag} {h : Heap} {mg : Str → Option Value} {fa : Addr}
    {c_Sign : Addr}
    {c_Reader : Addr}
    {a0 : Addr} {od0 an0 : Option Addr} {sl0 : Array (Option Value)} {oc0 kV0 dc0 pm0 cd0 ct0 : Value}
    {a1 : Addr} {od1 an1 : Option Addr} {sl1 : Array (Option Value)} {oc1 kV1 dc1 pm1 cd1 ct1 : Value}
    {a2 : Addr} {od2 an2 : Option Addr} {sl2 : Array (Option Value)} {oc2 kV2 dc2 pm2 cd2 ct2 : Value}
    {tT2 tz2 : Addr} {odT2 odz2 : Option Addr} {nT2 nz2 : Nat} {slT2 slz2 : Array (Option Value)}
    {a3 : Addr} {od3 an3 : Option Addr} {sl3 : Array (Option Value)} {oc3 kV3 dc3 pm3 cd3 ct3 : Value}
    {p3 : Addr} {rs3 : List Value}
    {a4 : Addr} {od4 an4 : Option Addr} {sl4 : Array (Option Value)} {oc4 kV4 dc4 pm4 cd4 ct4 : Value}
    {a5 : Addr} {od5 an5 : Option Addr} {sl5 : Array (Option Value)} {oc5 kV5 dc5 pm5 cd5 ct5 : Value}
    {a6 : Addr} {od6 an6 : Option Addr} {sl6 : Array (Option Value)} {oc6 kV6 dc6 pm6 cd6 ct6 : Value}
    {a7 : Addr} {od7 an7 : Option Addr} {sl7 : Array (Option Value)} {oc7 kV7 dc7 pm7 cd7 ct7 : Value}
    {a8 : Addr} {od8 an8 : Option Addr} {sl8 : Array (Option Value)} {oc8 kV8 dc8 pm8 cd8 ct8 : Value}
    {a9 : Addr} {od9 an9 : Option Addr} {sl9 : Array (Option Value)} {oc9 kV9 dc9 pm9 cd9 ct9 : Value}
    {a10 : Addr} {od10 an10 : Option Addr} {sl10 : Array (Option Value)} {oc10 kV10 dc10 pm10 cd10 ct10 : Value}
    {a11 : Addr} {od11 an11 : Option Addr} {sl11 : Array (Option Value)} {oc11 kV11 dc11 pm11 cd11 ct11 : Value}
    {a12 : Addr} {od12 an12 : Option Addr} {sl12 : Array (Option Value)} {oc12 kV12 dc12 pm12 cd12 ct12 : Value}
    {a13 : Addr} {od13 an13 : Option Addr} {sl13 : Array (Option Value)} {oc13 kV13 dc13 pm13 cd13 ct13 : Value}
    {a14 : Addr} {od14 an14 : Option Addr} {sl14 : Array (Option Value)} {oc14 kV14 dc14 pm14 cd14 ct14 : Value}
    {a15 : Addr} {od15 an15 : Option Addr} {sl15 : Array (Option Value)} {oc15 kV15 dc15 pm15 cd15 ct15 : Value}
    {a16 : Addr} {od16 an16 : Option Addr} {sl16 : Array (Option Value)} {oc16 kV16 dc16 pm16 cd16 ct16 : Value}
    {a17 : Addr} {od17 an17 : Option Addr} {sl17 : Array (Option Value)} {oc17 kV17 dc17 pm17 cd17 ct17 : Value}
    {a18 : Addr} {od18 an18 : Option Addr} {sl18 : Array (Option Value)} {oc18 kV18 dc18 pm18 cd18 ct18 : Value}
    {a19 : Addr} {od19 an19 : Option Addr} {sl19 : Array (Option Value)} {oc19 kV19 dc19 pm19 cd19 ct19 : Value}
    {a20 : Addr} {od20 an20 : Option Addr} {sl20 : Array (Option Value)} {oc20 kV20 dc20 pm20 cd20 ct20 : Value}
    {a21 : Addr} {od21 an21 : Option Addr} {sl21 : Array (Option Value)} {oc21 kV21 dc21 pm21 cd21 ct21 : Value}
    {a22 : Addr} {od22 an22 : Option Addr} {sl22 : Array (Option Value)} {oc22 kV22 dc22 pm22 cd22 ct22 : Value}
    {a23 : Addr} {od23 an23 : Option Addr} {sl23 : Array (Option Value)} {oc23 kV23 dc23 pm23 cd23 ct23 : Value}
    {a24 : Addr} {od24 an24 : Option Addr} {sl24 : Array (Option Value)} {oc24 kV24 dc24 pm24 cd24 ct24 : Value}
    {a25 : Addr} {od25 an25 : Option Addr} {sl25 : Array (Option Value)} {oc25 kV25 dc25 pm25 cd25 ct25 : Value}
    {a26 : Addr} {od26 an26 : Option Addr} {sl26 : Array (Option Value)} {oc26 kV26 dc26 pm26 cd26 ct26 : Value}
    {a27 : Addr} {od27 an27 : Option Addr} {sl27 : Array (Option Value)} {oc27 kV27 dc27 pm27 cd27 ct27 : Value}
    {a28 : Addr} {od28 an28 : Option Addr} {sl28 : Array (Option Value)} {oc28 kV28 dc28 pm28 cd28 ct28 : Value}
    {a29 : Addr} {od29 an29 : Option Addr} {sl29 : Array (Option Value)} {oc29 kV29 dc29 pm29 cd29 ct29 : Value}
    {a30 : Addr} {od30 an30 : Option Addr} {sl30 : Array (Option Value)} {oc30 kV30 dc30 pm30 cd30 ct30 : Value}
    {a31 : Addr} {od31 an31 : Option Addr} {sl31 : Array (Option Value)} {oc31 kV31 dc31 pm31 cd31 ct31 : Value}
    {a32 : Addr} {od32 an32 : Option Addr} {sl32 : Array (Option Value)} {oc32 kV32 dc32 pm32 cd32 ct32 : Value}
    {a33 : Addr} {od33 an33 : Option Addr} {sl33 : Array (Option Value)} {oc33 kV33 dc33 pm33 cd33 ct33 : Value}
    {a34 : Addr} {od34 an34 : Option Addr} {sl34 : Array (Option Value)} {oc34 kV34 dc34 pm34 cd34 ct34 : Value}
    {a35 : Addr} {od35 an35 : Option Addr} {sl35 : Array (Option Value)} {oc35 kV35 dc35 pm35 cd35 ct35 : Value}
    {a36 : Addr} {od36 an36 : Option Addr} {sl36 : Array (Option Value)} {oc36 kV36 dc36 pm36 cd36 ct36 : Value}
    {a37 : Addr} {od37 an37 : Option Addr} {sl37 : Array (Option Value)} {oc37 kV37 dc37 pm37 cd37 ct37 : Value}
    {t_BLANK : Tok}
    {t_BYTE : Tok}
    {t_DIGITS : Tok}
    {t_LETTERS : Tok}
    {t_MAX_DIGITS : Tok}
    {t_MAX_PAIRS : Tok}
    {t_MAX_TEXTS : Tok}
    {t_MAX_WIDTH : Tok}
    {t_SHOW : Tok}
    {t_SIGN : Tok}
    {t_SIGNS : Tok}
    {t_TAG : Tok} (X : K.In h) (G : h.Ns mainGlobals mg) (hfa : mg "law" = some (.ref fa))
    (hc_Sign : PySem.W.nsIn K mainGlobals "Sign" = some (some (.ref c_Sign)))
    (pg_Sign : PySem.W.plainGet K c_Sign Str.empty = true)
    (hd_Sign : PySem.W.hasDictIn K c_Sign = true)
    (po_Sign : PySem.W.plainOver K c_Sign = true)
    (sa_Sign : PySem.W.findIn K (.ref c_Sign) "__setattr__" = some (some (.builtin "object.__setattr__")))
    (mk_Sign : PySem.W.makesIn K c_Sign = true)
    (kc_Sign : PySem.W.keepIn K (.ref c_Sign) = true)
    (n_Sign_width : PySem.W.findIn K (.ref c_Sign) "width" = some none)
    (n_Sign_pairs : PySem.W.findIn K (.ref c_Sign) "pairs" = some none)
    (n_Sign_mates : PySem.W.findIn K (.ref c_Sign) "mates" = some none)
    (hc_Reader : PySem.W.nsIn K mainGlobals "Reader" = some (some (.ref c_Reader)))
    (pg_Reader : PySem.W.plainGet K c_Reader Str.empty = true)
    (hd_Reader : PySem.W.hasDictIn K c_Reader = true)
    (po_Reader : PySem.W.plainOver K c_Reader = true)
    (sa_Reader : PySem.W.findIn K (.ref c_Reader) "__setattr__" = some (some (.builtin "object.__setattr__")))
    (mk_Reader : PySem.W.makesIn K c_Reader = true)
    (kc_Reader : PySem.W.keepIn K (.ref c_Reader) = true)
    (n_Reader_code : PySem.W.findIn K (.ref c_Reader) "code" = some none)
    (n_Reader_spot : PySem.W.findIn K (.ref c_Reader) "spot" = some none)
    (h0 : PySem.W.nsIn K mainGlobals "is_int_in" = some (some (.ref a0)))
    (l0 : K.lookup a0 = some ⟨oc0, od0, .func (PySem.W.fnOf "is_int_in" "is_int_in" (defArgs s_is_int_in) (defBody s_is_int_in) (defScope s_is_int_in) .none kV0 dc0 pm0 an0 cd0 ct0), sl0⟩)
    (cd_0 : PySem.W.codeIn K cd0 "is_int_in" = true)
    (k0 : PySem.W.keepIn K (.ref a0) = true)
    (h1 : PySem.W.nsIn K mainGlobals "is_pair" = some (some (.ref a1)))
    (l1 : K.lookup a1 = some ⟨oc1, od1, .func (PySem.W.fnOf "is_pair" "is_pair" (defArgs s_is_pair) (defBody s_is_pair) (defScope s_is_pair) .none kV1 dc1 pm1 an1 cd1 ct1), sl1⟩)
    (cd_1 : PySem.W.codeIn K cd1 "is_pair" = true)
    (k1 : PySem.W.keepIn K (.ref a1) = true)
    (h2 : PySem.W.findIn K (.ref c_Sign) "__init__" = some (some (.ref a2)))
    (i2 : PySem.W.isFn K (.ref a2) = true)
    (l2 : K.lookup a2 = some ⟨oc2, od2, .func (PySem.W.fnOf "__init__" "Sign.__init__" (defArgs s_Sign___init__) (defBody s_Sign___init__) (defScope s_Sign___init__) (.ref tT2) kV2 dc2 pm2 an2 cd2 ct2), sl2⟩)
    (cd_2 : PySem.W.codeIn K cd2 "Sign.__init__" = true)
    (k2 : PySem.W.keepIn K (.ref a2) = true)
    (hT2 : K.lookup tT2 = some ⟨.type "tuple", odT2, .seq #[.ref tz2] nT2, slT2⟩)
    (hz2 : K.lookup tz2 = some ⟨.type "tuple", odz2, .seq #[] nz2, slz2⟩)
    (h3 : PySem.W.findIn K (.ref c_Sign) "blank" = some (some (.ref p3)))
    (hg3 : PySem.W.specialIn K (.ref p3) "__get__" = some (some (.builtin "property.__get__")))
    (ht3 : PySem.W.takesIn K (.ref p3) = some true)
    (hr3 : PySem.W.recIn K p3 "property" = some (.ref a3 :: rs3))
    (l3 : K.lookup a3 = some ⟨oc3, od3, .func (PySem.W.fnOf "blank" "Sign.blank" (defArgs s_Sign_blank) (defBody s_Sign_blank) (defScope s_Sign_blank) .none kV3 dc3 pm3 an3 cd3 ct3), sl3⟩)
    (cd_3 : PySem.W.codeIn K cd3 "Sign.blank" = true)
    (k3 : PySem.W.keepIn K (.ref a3) = true)
    (h4 : PySem.W.findIn K (.ref c_Sign) "piece" = some (some (.ref a4)))
    (i4 : PySem.W.isFn K (.ref a4) = true)
    (l4 : K.lookup a4 = some ⟨oc4, od4, .func (PySem.W.fnOf "piece" "Sign.piece" (defArgs s_Sign_piece) (defBody s_Sign_piece) (defScope s_Sign_piece) .none kV4 dc4 pm4 an4 cd4 ct4), sl4⟩)
    (cd_4 : PySem.W.codeIn K cd4 "Sign.piece" = true)
    (k4 : PySem.W.keepIn K (.ref a4) = true)
    (h5 : PySem.W.findIn K (.ref c_Sign) "row_of" = some (some (.ref a5)))
    (i5 : PySem.W.isFn K (.ref a5) = true)
    (l5 : K.lookup a5 = some ⟨oc5, od5, .func (PySem.W.fnOf "row_of" "Sign.row_of" (defArgs s_Sign_row_of) (defBody s_Sign_row_of) (defScope s_Sign_row_of) .none kV5 dc5 pm5 an5 cd5 ct5), sl5⟩)
    (cd_5 : PySem.W.codeIn K cd5 "Sign.row_of" = true)
    (k5 : PySem.W.keepIn K (.ref a5) = true)
    (h6 : PySem.W.findIn K (.ref c_Sign) "is_text" = some (some (.ref a6)))
    (i6 : PySem.W.isFn K (.ref a6) = true)
    (l6 : K.lookup a6 = some ⟨oc6, od6, .func (PySem.W.fnOf "is_text" "Sign.is_text" (defArgs s_Sign_is_text) (defBody s_Sign_is_text) (defScope s_Sign_is_text) .none kV6 dc6 pm6 an6 cd6 ct6), sl6⟩)
    (cd_6 : PySem.W.codeIn K cd6 "Sign.is_text" = true)
    (k6 : PySem.W.keepIn K (.ref a6) = true)
    (h7 : PySem.W.findIn K (.ref c_Sign) "check_texts" = some (some (.ref a7)))
    (i7 : PySem.W.isFn K (.ref a7) = true)
    (l7 : K.lookup a7 = some ⟨oc7, od7, .func (PySem.W.fnOf "check_texts" "Sign.check_texts" (defArgs s_Sign_check_texts) (defBody s_Sign_check_texts) (defScope s_Sign_check_texts) .none kV7 dc7 pm7 an7 cd7 ct7), sl7⟩)
    (cd_7 : PySem.W.codeIn K cd7 "Sign.check_texts" = true)
    (k7 : PySem.W.keepIn K (.ref a7) = true)
    (h8 : PySem.W.nsIn K mainGlobals "links" = some (some (.ref a8)))
    (l8 : K.lookup a8 = some ⟨oc8, od8, .func (PySem.W.fnOf "links" "links" (defArgs s_links) (defBody s_links) (defScope s_links) .none kV8 dc8 pm8 an8 cd8 ct8), sl8⟩)
    (cd_8 : PySem.W.codeIn K cd8 "links" = true)
    (k8 : PySem.W.keepIn K (.ref a8) = true)
    (h9 : PySem.W.nsIn K mainGlobals "surplus" = some (some (.ref a9)))
    (l9 : K.lookup a9 = some ⟨oc9, od9, .func (PySem.W.fnOf "surplus" "surplus" (defArgs s_surplus) (defBody s_surplus) (defScope s_surplus) .none kV9 dc9 pm9 an9 cd9 ct9), sl9⟩)
    (cd_9 : PySem.W.codeIn K cd9 "surplus" = true)
    (k9 : PySem.W.keepIn K (.ref a9) = true)
    (h10 : PySem.W.nsIn K mainGlobals "groups" = some (some (.ref a10)))
    (l10 : K.lookup a10 = some ⟨oc10, od10, .func (PySem.W.fnOf "groups" "groups" (defArgs s_groups) (defBody s_groups) (defScope s_groups) .none kV10 dc10 pm10 an10 cd10 ct10), sl10⟩)
    (cd_10 : PySem.W.codeIn K cd10 "groups" = true)
    (k10 : PySem.W.keepIn K (.ref a10) = true)
    (h11 : PySem.W.nsIn K mainGlobals "shares" = some (some (.ref a11)))
    (l11 : K.lookup a11 = some ⟨oc11, od11, .func (PySem.W.fnOf "shares" "shares" (defArgs s_shares) (defBody s_shares) (defScope s_shares) .none kV11 dc11 pm11 an11 cd11 ct11), sl11⟩)
    (cd_11 : PySem.W.codeIn K cd11 "shares" = true)
    (k11 : PySem.W.keepIn K (.ref a11) = true)
    (h12 : PySem.W.nsIn K mainGlobals "is_closed" = some (some (.ref a12)))
    (l12 : K.lookup a12 = some ⟨oc12, od12, .func (PySem.W.fnOf "is_closed" "is_closed" (defArgs s_is_closed) (defBody s_is_closed) (defScope s_is_closed) .none kV12 dc12 pm12 an12 cd12 ct12), sl12⟩)
    (cd_12 : PySem.W.codeIn K cd12 "is_closed" = true)
    (k12 : PySem.W.keepIn K (.ref a12) = true)
    (h13 : PySem.W.nsIn K mainGlobals "cost" = some (some (.ref a13)))
    (l13 : K.lookup a13 = some ⟨oc13, od13, .func (PySem.W.fnOf "cost" "cost" (defArgs s_cost) (defBody s_cost) (defScope s_cost) .none kV13 dc13 pm13 an13 cd13 ct13), sl13⟩)
    (cd_13 : PySem.W.codeIn K cd13 "cost" = true)
    (k13 : PySem.W.keepIn K (.ref a13) = true)
    (h14 : PySem.W.nsIn K mainGlobals "offsets_of" = some (some (.ref a14)))
    (l14 : K.lookup a14 = some ⟨oc14, od14, .func (PySem.W.fnOf "offsets_of" "offsets_of" (defArgs s_offsets_of) (defBody s_offsets_of) (defScope s_offsets_of) .none kV14 dc14 pm14 an14 cd14 ct14), sl14⟩)
    (cd_14 : PySem.W.codeIn K cd14 "offsets_of" = true)
    (k14 : PySem.W.keepIn K (.ref a14) = true)
    (h15 : PySem.W.nsIn K mainGlobals "check_offsets" = some (some (.ref a15)))
    (l15 : K.lookup a15 = some ⟨oc15, od15, .func (PySem.W.fnOf "check_offsets" "check_offsets" (defArgs s_check_offsets) (defBody s_check_offsets) (defScope s_check_offsets) .none kV15 dc15 pm15 an15 cd15 ct15), sl15⟩)
    (cd_15 : PySem.W.codeIn K cd15 "check_offsets" = true)
    (k15 : PySem.W.keepIn K (.ref a15) = true)
    (h16 : PySem.W.nsIn K mainGlobals "add" = some (some (.ref a16)))
    (l16 : K.lookup a16 = some ⟨oc16, od16, .func (PySem.W.fnOf "add" "add" (defArgs s_add) (defBody s_add) (defScope s_add) .none kV16 dc16 pm16 an16 cd16 ct16), sl16⟩)
    (cd_16 : PySem.W.codeIn K cd16 "add" = true)
    (k16 : PySem.W.keepIn K (.ref a16) = true)
    (h17 : PySem.W.nsIn K mainGlobals "fixed_cost" = some (some (.ref a17)))
    (l17 : K.lookup a17 = some ⟨oc17, od17, .func (PySem.W.fnOf "fixed_cost" "fixed_cost" (defArgs s_fixed_cost) (defBody s_fixed_cost) (defScope s_fixed_cost) .none kV17 dc17 pm17 an17 cd17 ct17), sl17⟩)
    (cd_17 : PySem.W.codeIn K cd17 "fixed_cost" = true)
    (k17 : PySem.W.keepIn K (.ref a17) = true)
    (h18 : PySem.W.nsIn K mainGlobals "costs_from" = some (some (.ref a18)))
    (l18 : K.lookup a18 = some ⟨oc18, od18, .func (PySem.W.fnOf "costs_from" "costs_from" (defArgs s_costs_from) (defBody s_costs_from) (defScope s_costs_from) .none kV18 dc18 pm18 an18 cd18 ct18), sl18⟩)
    (cd_18 : PySem.W.codeIn K cd18 "costs_from" = true)
    (k18 : PySem.W.keepIn K (.ref a18) = true)
    (h19 : PySem.W.nsIn K mainGlobals "best_of" = some (some (.ref a19)))
    (l19 : K.lookup a19 = some ⟨oc19, od19, .func (PySem.W.fnOf "best_of" "best_of" (defArgs s_best_of) (defBody s_best_of) (defScope s_best_of) .none kV19 dc19 pm19 an19 cd19 ct19), sl19⟩)
    (cd_19 : PySem.W.codeIn K cd19 "best_of" = true)
    (k19 : PySem.W.keepIn K (.ref a19) = true)
    (h20 : PySem.W.nsIn K mainGlobals "season_cost" = some (some (.ref a20)))
    (l20 : K.lookup a20 = some ⟨oc20, od20, .func (PySem.W.fnOf "season_cost" "season_cost" (defArgs s_season_cost) (defBody s_season_cost) (defScope s_season_cost) .none kV20 dc20 pm20 an20 cd20 ct20), sl20⟩)
    (cd_20 : PySem.W.codeIn K cd20 "season_cost" = true)
    (k20 : PySem.W.keepIn K (.ref a20) = true)
    (h21 : PySem.W.nsIn K mainGlobals "read_number" = some (some (.ref a21)))
    (l21 : K.lookup a21 = some ⟨oc21, od21, .func (PySem.W.fnOf "read_number" "read_number" (defArgs s_read_number) (defBody s_read_number) (defScope s_read_number) .none kV21 dc21 pm21 an21 cd21 ct21), sl21⟩)
    (cd_21 : PySem.W.codeIn K cd21 "read_number" = true)
    (k21 : PySem.W.keepIn K (.ref a21) = true)
    (h22 : PySem.W.nsIn K mainGlobals "format_season" = some (some (.ref a22)))
    (l22 : K.lookup a22 = some ⟨oc22, od22, .func (PySem.W.fnOf "format_season" "format_season" (defArgs s_format_season) (defBody s_format_season) (defScope s_format_season) .none kV22 dc22 pm22 an22 cd22 ct22), sl22⟩)
    (cd_22 : PySem.W.codeIn K cd22 "format_season" = true)
    (k22 : PySem.W.keepIn K (.ref a22) = true)
    (h23 : PySem.W.nsIn K mainGlobals "parse_season" = some (some (.ref a23)))
    (l23 : K.lookup a23 = some ⟨oc23, od23, .func (PySem.W.fnOf "parse_season" "parse_season" (defArgs s_parse_season) (defBody s_parse_season) (defScope s_parse_season) .none kV23 dc23 pm23 an23 cd23 ct23), sl23⟩)
    (cd_23 : PySem.W.codeIn K cd23 "parse_season" = true)
    (k23 : PySem.W.keepIn K (.ref a23) = true)
    (h24 : PySem.W.nsIn K mainGlobals "encode" = some (some (.ref a24)))
    (l24 : K.lookup a24 = some ⟨oc24, od24, .func (PySem.W.fnOf "encode" "encode" (defArgs s_encode) (defBody s_encode) (defScope s_encode) .none kV24 dc24 pm24 an24 cd24 ct24), sl24⟩)
    (cd_24 : PySem.W.codeIn K cd24 "encode" = true)
    (k24 : PySem.W.keepIn K (.ref a24) = true)
    (h25 : PySem.W.findIn K (.ref c_Reader) "__init__" = some (some (.ref a25)))
    (i25 : PySem.W.isFn K (.ref a25) = true)
    (l25 : K.lookup a25 = some ⟨oc25, od25, .func (PySem.W.fnOf "__init__" "Reader.__init__" (defArgs s_Reader___init__) (defBody s_Reader___init__) (defScope s_Reader___init__) .none kV25 dc25 pm25 an25 cd25 ct25), sl25⟩)
    (cd_25 : PySem.W.codeIn K cd25 "Reader.__init__" = true)
    (k25 : PySem.W.keepIn K (.ref a25) = true)
    (h26 : PySem.W.findIn K (.ref c_Reader) "read_byte" = some (some (.ref a26)))
    (i26 : PySem.W.isFn K (.ref a26) = true)
    (l26 : K.lookup a26 = some ⟨oc26, od26, .func (PySem.W.fnOf "read_byte" "Reader.read_byte" (defArgs s_Reader_read_byte) (defBody s_Reader_read_byte) (defScope s_Reader_read_byte) .none kV26 dc26 pm26 an26 cd26 ct26), sl26⟩)
    (cd_26 : PySem.W.codeIn K cd26 "Reader.read_byte" = true)
    (k26 : PySem.W.keepIn K (.ref a26) = true)
    (h27 : PySem.W.findIn K (.ref c_Reader) "read_letter" = some (some (.ref a27)))
    (i27 : PySem.W.isFn K (.ref a27) = true)
    (l27 : K.lookup a27 = some ⟨oc27, od27, .func (PySem.W.fnOf "read_letter" "Reader.read_letter" (defArgs s_Reader_read_letter) (defBody s_Reader_read_letter) (defScope s_Reader_read_letter) .none kV27 dc27 pm27 an27 cd27 ct27), sl27⟩)
    (cd_27 : PySem.W.codeIn K cd27 "Reader.read_letter" = true)
    (k27 : PySem.W.keepIn K (.ref a27) = true)
    (h28 : PySem.W.findIn K (.ref c_Reader) "read_pairs" = some (some (.ref a28)))
    (i28 : PySem.W.isFn K (.ref a28) = true)
    (l28 : K.lookup a28 = some ⟨oc28, od28, .func (PySem.W.fnOf "read_pairs" "Reader.read_pairs" (defArgs s_Reader_read_pairs) (defBody s_Reader_read_pairs) (defScope s_Reader_read_pairs) .none kV28 dc28 pm28 an28 cd28 ct28), sl28⟩)
    (cd_28 : PySem.W.codeIn K cd28 "Reader.read_pairs" = true)
    (k28 : PySem.W.keepIn K (.ref a28) = true)
    (h29 : PySem.W.findIn K (.ref c_Reader) "read_text" = some (some (.ref a29)))
    (i29 : PySem.W.isFn K (.ref a29) = true)
    (l29 : K.lookup a29 = some ⟨oc29, od29, .func (PySem.W.fnOf "read_text" "Reader.read_text" (defArgs s_Reader_read_text) (defBody s_Reader_read_text) (defScope s_Reader_read_text) .none kV29 dc29 pm29 an29 cd29 ct29), sl29⟩)
    (cd_29 : PySem.W.codeIn K cd29 "Reader.read_text" = true)
    (k29 : PySem.W.keepIn K (.ref a29) = true)
    (h30 : PySem.W.nsIn K mainGlobals "decode" = some (some (.ref a30)))
    (l30 : K.lookup a30 = some ⟨oc30, od30, .func (PySem.W.fnOf "decode" "decode" (defArgs s_decode) (defBody s_decode) (defScope s_decode) .none kV30 dc30 pm30 an30 cd30 ct30), sl30⟩)
    (cd_30 : PySem.W.codeIn K cd30 "decode" = true)
    (k30 : PySem.W.keepIn K (.ref a30) = true)
    (h31 : PySem.W.nsIn K mainGlobals "_law_random" = some (some (.ref a31)))
    (l31 : K.lookup a31 = some ⟨oc31, od31, .func (PySem.W.fnOf "_law_random" "_law_random" (defArgs s__law_random) (defBody s__law_random) (defScope s__law_random) .none kV31 dc31 pm31 an31 cd31 ct31), sl31⟩)
    (cd_31 : PySem.W.codeIn K cd31 "_law_random" = true)
    (k31 : PySem.W.keepIn K (.ref a31) = true)
    (h32 : PySem.W.nsIn K mainGlobals "_law_below" = some (some (.ref a32)))
    (l32 : K.lookup a32 = some ⟨oc32, od32, .func (PySem.W.fnOf "_law_below" "_law_below" (defArgs s__law_below) (defBody s__law_below) (defScope s__law_below) .none kV32 dc32 pm32 an32 cd32 ct32), sl32⟩)
    (cd_32 : PySem.W.codeIn K cd32 "_law_below" = true)
    (k32 : PySem.W.keepIn K (.ref a32) = true)
    (h33 : PySem.W.nsIn K mainGlobals "_law_shuffled" = some (some (.ref a33)))
    (l33 : K.lookup a33 = some ⟨oc33, od33, .func (PySem.W.fnOf "_law_shuffled" "_law_shuffled" (defArgs s__law_shuffled) (defBody s__law_shuffled) (defScope s__law_shuffled) .none kV33 dc33 pm33 an33 cd33 ct33), sl33⟩)
    (cd_33 : PySem.W.codeIn K cd33 "_law_shuffled" = true)
    (k33 : PySem.W.keepIn K (.ref a33) = true)
    (h34 : PySem.W.nsIn K mainGlobals "_law_pairs" = some (some (.ref a34)))
    (l34 : K.lookup a34 = some ⟨oc34, od34, .func (PySem.W.fnOf "_law_pairs" "_law_pairs" (defArgs s__law_pairs) (defBody s__law_pairs) (defScope s__law_pairs) .none kV34 dc34 pm34 an34 cd34 ct34), sl34⟩)
    (cd_34 : PySem.W.codeIn K cd34 "_law_pairs" = true)
    (k34 : PySem.W.keepIn K (.ref a34) = true)
    (h35 : PySem.W.nsIn K mainGlobals "_law_text" = some (some (.ref a35)))
    (l35 : K.lookup a35 = some ⟨oc35, od35, .func (PySem.W.fnOf "_law_text" "_law_text" (defArgs s__law_text) (defBody s__law_text) (defScope s__law_text) .none kV35 dc35 pm35 an35 cd35 ct35), sl35⟩)
    (cd_35 : PySem.W.codeIn K cd35 "_law_text" = true)
    (k35 : PySem.W.keepIn K (.ref a35) = true)
    (h36 : PySem.W.nsIn K mainGlobals "_law_texts" = some (some (.ref a36)))
    (l36 : K.lookup a36 = some ⟨oc36, od36, .func (PySem.W.fnOf "_law_texts" "_law_texts" (defArgs s__law_texts) (defBody s__law_texts) (defScope s__law_texts) .none kV36 dc36 pm36 an36 cd36 ct36), sl36⟩)
    (cd_36 : PySem.W.codeIn K cd36 "_law_texts" = true)
    (k36 : PySem.W.keepIn K (.ref a36) = true)
    (h37 : PySem.W.nsIn K mainGlobals "law" = some (some (.ref a37)))
    (l37 : K.lookup a37 = some ⟨oc37, od37, .func (PySem.W.fnOf "law" "law" (defArgs s_law) (defBody s_law) (defScope s_law) .none kV37 dc37 pm37 an37 cd37 ct37), sl37⟩)
    (cd_37 : PySem.W.codeIn K cd37 "law" = true)
    (k37 : PySem.W.keepIn K (.ref a37) = true)
    (z_abs : PySem.W.nsIn K mainGlobals "abs" = some none)
    (z_all : PySem.W.nsIn K mainGlobals "all" = some none)
    (z_any : PySem.W.nsIn K mainGlobals "any" = some none)
    (z_bool : PySem.W.nsIn K mainGlobals "bool" = some none)
    (z_enumerate : PySem.W.nsIn K mainGlobals "enumerate" = some none)
    (z_int : PySem.W.nsIn K mainGlobals "int" = some none)
    (z_isinstance : PySem.W.nsIn K mainGlobals "isinstance" = some none)
    (z_len : PySem.W.nsIn K mainGlobals "len" = some none)
    (z_list : PySem.W.nsIn K mainGlobals "list" = some none)
    (z_min : PySem.W.nsIn K mainGlobals "min" = some none)
    (z_range : PySem.W.nsIn K mainGlobals "range" = some none)
    (z_sorted : PySem.W.nsIn K mainGlobals "sorted" = some none)
    (z_str : PySem.W.nsIn K mainGlobals "str" = some none)
    (z_sum : PySem.W.nsIn K mainGlobals "sum" = some none)
    (z_tuple : PySem.W.nsIn K mainGlobals "tuple" = some none)
    (z_zip : PySem.W.nsIn K mainGlobals "zip" = some none)
    (y_BLANK : PySem.W.nsIn K mainGlobals "BLANK" = some (some (.str " " t_BLANK)))
    (y_BYTE : PySem.W.nsIn K mainGlobals "BYTE" = some (some (.int 256 t_BYTE)))
    (y_DIGITS : PySem.W.nsIn K mainGlobals "DIGITS" = some (some (.str "0123456789" t_DIGITS)))
    (y_LETTERS : PySem.W.nsIn K mainGlobals "LETTERS" = some (some (.str "ABCDEFGHIJKLMNOPQRSTUVWXYZ0123456789" t_LETTERS)))
    (y_MAX_DIGITS : PySem.W.nsIn K mainGlobals "MAX_DIGITS" = some (some (.int 2 t_MAX_DIGITS)))
    (y_MAX_PAIRS : PySem.W.nsIn K mainGlobals "MAX_PAIRS" = some (some (.int 10 t_MAX_PAIRS)))
    (y_MAX_TEXTS : PySem.W.nsIn K mainGlobals "MAX_TEXTS" = some (some (.int 12 t_MAX_TEXTS)))
    (y_MAX_WIDTH : PySem.W.nsIn K mainGlobals "MAX_WIDTH" = some (some (.int 24 t_MAX_WIDTH)))
    (y_SHOW : PySem.W.nsIn K mainGlobals "SHOW" = some (some (.str "show" t_SHOW)))
    (y_SIGN : PySem.W.nsIn K mainGlobals "SIGN" = some (some (.str "sign" t_SIGN)))
    (y_SIGNS : PySem.W.nsIn K mainGlobals "SIGNS" = some (some (.str "ABCDEFGHIJKLMNOPQRSTUVWXYZ0123456789 " t_SIGNS)))
    (y_TAG : PySem.W.nsIn K mainGlobals "TAG" = some (some (.int 77 t_TAG))) :
    ∃ fd : FuncData, (∀ (s : Shared) (v : Value), BindsTo s fd ⟨[v], []⟩ [("_law_script", v)]) ∧ ∀ base : Heap, K.In base → base.Ns mainGlobals mg → FnOk l.prog w K mg base CX0 7 fa fd ["_law_script"] (toSp K spLaw) := by
  have e := hfa.symm.trans (PySem.W.mg_of X G h37)
  cases e
  have F0 := fun_mk (st := s_is_int_in) l0 cd_0 k0
  have b0 := F0.binds (ps := ["value", "low", "high"]) fun _ _ _ _ _ _ us hl => match us, hl with | [_, _, _], _ => rfl
  have F1 := fun_mk (st := s_is_pair) l1 cd_1 k1
  have b1 := F1.binds (ps := ["value"]) fun _ _ _ _ _ _ us hl => match us, hl with | [_], _ => rfl
  have D2 : DflV K (.ref tT2) [V.ref tz2] := .inr ⟨by simp, tT2, _, [.ref tz2], _, rfl, hT2, rfl, .cons rfl .nil⟩
  have F2 : FunD K "__init__" "Sign.__init__" (defArgs s_Sign___init__) (defBody s_Sign___init__) (defScope s_Sign___init__) [V.ref tz2] [] a2 (PySem.W.fnOf "__init__" "Sign.__init__" (defArgs s_Sign___init__) (defBody s_Sign___init__) (defScope s_Sign___init__) (.ref tT2) kV2 dc2 pm2 an2 cd2 ct2) := ⟨⟨_, _, _, _, _, _, _, _, _, _, rfl, l2, cd_2, D2, .inl rfl⟩, k2⟩
  obtain ⟨eb2, rb2, b02⟩ := F2.binds1 (ps := ["self", "width", "pairs"]) 3 1 (by simp) rfl (fun T kV doc pm an cdv ct us its hu hi => match us, its, hu, hi with | [_, _, _], [_], _, _ => ⟨_, rfl, rfl⟩)
  have b2 : Binds K (PySem.W.fnOf "__init__" "Sign.__init__" (defArgs s_Sign___init__) (defBody s_Sign___init__) (defScope s_Sign___init__) (.ref tT2) kV2 dc2 pm2 an2 cd2 ct2) ["self", "width", "pairs"] [] := by cases rb2; exact b02
  obtain ⟨e2, v2, bd2⟩ := F2.binds1 (ps := ["self", "width", "pairs"]) 2 0 (by simp) rfl (fun T kV doc pm an cdv ct us its hu hi => match us, its, hu, hi with | [_, _], [_], _, _ => ⟨_, rfl, rfl⟩)
  have F3 := fun_mk (st := s_Sign_blank) l3 cd_3 k3
  have b3 := F3.binds (ps := ["self"]) fun _ _ _ _ _ _ us hl => match us, hl with | [_], _ => rfl
  have F4 := fun_mk (st := s_Sign_piece) l4 cd_4 k4
  have b4 := F4.binds (ps := ["self", "letter"]) fun _ _ _ _ _ _ us hl => match us, hl with | [_, _], _ => rfl
  have F5 := fun_mk (st := s_Sign_row_of) l5 cd_5 k5
  have b5 := F5.binds (ps := ["self", "text", "offset"]) fun _ _ _ _ _ _ us hl => match us, hl with | [_, _, _], _ => rfl
  have F6 := fun_mk (st := s_Sign_is_text) l6 cd_6 k6
  have b6 := F6.binds (ps := ["self", "value"]) fun _ _ _ _ _ _ us hl => match us, hl with | [_, _], _ => rfl
  have F7 := fun_mk (st := s_Sign_check_texts) l7 cd_7 k7
  have b7 := F7.binds (ps := ["self", "texts"]) fun _ _ _ _ _ _ us hl => match us, hl with | [_, _], _ => rfl
  have F8 := fun_mk (st := s_links) l8 cd_8 k8
  have b8 := F8.binds (ps := ["sign", "before", "after"]) fun _ _ _ _ _ _ us hl => match us, hl with | [_, _, _], _ => rfl
  have F9 := fun_mk (st := s_surplus) l9 cd_9 k9
  have b9 := F9.binds (ps := ["changed"]) fun _ _ _ _ _ _ us hl => match us, hl with | [_], _ => rfl
  have F10 := fun_mk (st := s_groups) l10 cd_10 k10
  have b10 := F10.binds (ps := ["changed"]) fun _ _ _ _ _ _ us hl => match us, hl with | [_], _ => rfl
  have F11 := fun_mk (st := s_shares) l11 cd_11 k11
  have b11 := F11.binds (ps := ["group", "link"]) fun _ _ _ _ _ _ us hl => match us, hl with | [_, _], _ => rfl
  have F12 := fun_mk (st := s_is_closed) l12 cd_12 k12
  have b12 := F12.binds (ps := ["group"]) fun _ _ _ _ _ _ us hl => match us, hl with | [_], _ => rfl
  have F13 := fun_mk (st := s_cost) l13 cd_13 k13
  have b13 := F13.binds (ps := ["sign", "before", "after"]) fun _ _ _ _ _ _ us hl => match us, hl with | [_, _, _], _ => rfl
  have F14 := fun_mk (st := s_offsets_of) l14 cd_14 k14
  have b14 := F14.binds (ps := ["sign", "text"]) fun _ _ _ _ _ _ us hl => match us, hl with | [_, _], _ => rfl
  have F15 := fun_mk (st := s_check_offsets) l15 cd_15 k15
  have b15 := F15.binds (ps := ["sign", "texts", "offsets"]) fun _ _ _ _ _ _ us hl => match us, hl with | [_, _, _], _ => rfl
  have F16 := fun_mk (st := s_add) l16 cd_16 k16
  have b16 := F16.binds (ps := ["one", "other"]) fun _ _ _ _ _ _ us hl => match us, hl with | [_, _], _ => rfl
  have F17 := fun_mk (st := s_fixed_cost) l17 cd_17 k17
  have b17 := F17.binds (ps := ["sign", "texts", "offsets"]) fun _ _ _ _ _ _ us hl => match us, hl with | [_, _, _], _ => rfl
  have F18 := fun_mk (st := s_costs_from) l18 cd_18 k18
  have b18 := F18.binds (ps := ["sign", "texts"]) fun _ _ _ _ _ _ us hl => match us, hl with | [_, _], _ => rfl
  have F19 := fun_mk (st := s_best_of) l19 cd_19 k19
  have b19 := F19.binds (ps := ["sign", "row", "text", "layer"]) fun _ _ _ _ _ _ us hl => match us, hl with | [_, _, _, _], _ => rfl
  have F20 := fun_mk (st := s_season_cost) l20 cd_20 k20
  have b20 := F20.binds (ps := ["sign", "texts"]) fun _ _ _ _ _ _ us hl => match us, hl with | [_, _], _ => rfl
  have F21 := fun_mk (st := s_read_number) l21 cd_21 k21
  have b21 := F21.binds (ps := ["word"]) fun _ _ _ _ _ _ us hl => match us, hl with | [_], _ => rfl
  have F22 := fun_mk (st := s_format_season) l22 cd_22 k22
  have b22 := F22.binds (ps := ["sign", "texts", "offsets"]) fun _ _ _ _ _ _ us hl => match us, hl with | [_, _, _], _ => rfl
  have F23 := fun_mk (st := s_parse_season) l23 cd_23 k23
  have b23 := F23.binds (ps := ["text"]) fun _ _ _ _ _ _ us hl => match us, hl with | [_], _ => rfl
  have F24 := fun_mk (st := s_encode) l24 cd_24 k24
  have b24 := F24.binds (ps := ["sign", "texts"]) fun _ _ _ _ _ _ us hl => match us, hl with | [_, _], _ => rfl
  have F25 := fun_mk (st := s_Reader___init__) l25 cd_25 k25
  have b25 := F25.binds (ps := ["self", "code"]) fun _ _ _ _ _ _ us hl => match us, hl with | [_, _], _ => rfl
  have F26 := fun_mk (st := s_Reader_read_byte) l26 cd_26 k26
  have b26 := F26.binds (ps := ["self", "low", "high"]) fun _ _ _ _ _ _ us hl => match us, hl with | [_, _, _], _ => rfl
  have F27 := fun_mk (st := s_Reader_read_letter) l27 cd_27 k27
  have b27 := F27.binds (ps := ["self", "used"]) fun _ _ _ _ _ _ us hl => match us, hl with | [_, _], _ => rfl
  have F28 := fun_mk (st := s_Reader_read_pairs) l28 cd_28 k28
  have b28 := F28.binds (ps := ["self"]) fun _ _ _ _ _ _ us hl => match us, hl with | [_], _ => rfl
  have F29 := fun_mk (st := s_Reader_read_text) l29 cd_29 k29
  have b29 := F29.binds (ps := ["self", "width"]) fun _ _ _ _ _ _ us hl => match us, hl with | [_, _], _ => rfl
  have F30 := fun_mk (st := s_decode) l30 cd_30 k30
  have b30 := F30.binds (ps := ["code"]) fun _ _ _ _ _ _ us hl => match us, hl with | [_], _ => rfl
  have F31 := fun_mk (st := s__law_random) l31 cd_31 k31
  have b31 := F31.binds (ps := ["_law_script", "_law_salt"]) fun _ _ _ _ _ _ us hl => match us, hl with | [_, _], _ => rfl
  have F32 := fun_mk (st := s__law_below) l32 cd_32 k32
  have b32 := F32.binds (ps := ["_law_d", "_law_limit"]) fun _ _ _ _ _ _ us hl => match us, hl with | [_, _], _ => rfl
  have F33 := fun_mk (st := s__law_shuffled) l33 cd_33 k33
  have b33 := F33.binds (ps := ["_law_d", "_law_items"]) fun _ _ _ _ _ _ us hl => match us, hl with | [_, _], _ => rfl
  have F34 := fun_mk (st := s__law_pairs) l34 cd_34 k34
  have b34 := F34.binds (ps := ["_law_d", "_law_letters"]) fun _ _ _ _ _ _ us hl => match us, hl with | [_, _], _ => rfl
  have F35 := fun_mk (st := s__law_text) l35 cd_35 k35
  have b35 := F35.binds (ps := ["_law_d", "_law_most", "_law_letters"]) fun _ _ _ _ _ _ us hl => match us, hl with | [_, _, _], _ => rfl
  have F36 := fun_mk (st := s__law_texts) l36 cd_36 k36
  have b36 := F36.binds (ps := ["_law_d", "_law_most", "_law_width", "_law_letters"]) fun _ _ _ _ _ _ us hl => match us, hl with | [_, _, _, _], _ => rfl
  have F37 := fun_mk (st := s_law) l37 cd_37 k37
  have b37 := F37.binds (ps := ["_law_script"]) fun _ _ _ _ _ _ us hl => match us, hl with | [_], _ => rfl
  let T : Txt K mg := {
    c_Sign := c_Sign,
    m_Sign := PySem.W.mg_of X G hc_Sign,
    k_Sign := ⟨pg_Sign, hd_Sign, po_Sign, sa_Sign⟩,
    n_Sign_width := n_Sign_width,
    n_Sign_pairs := n_Sign_pairs,
    n_Sign_mates := n_Sign_mates,
    c_Reader := c_Reader,
    m_Reader := PySem.W.mg_of X G hc_Reader,
    k_Reader := ⟨pg_Reader, hd_Reader, po_Reader, sa_Reader⟩,
    n_Reader_code := n_Reader_code,
    n_Reader_spot := n_Reader_spot,
    F_is_int_in := F0,
    b_is_int_in := b0,
    a_is_int_in := a0,
    d_is_int_in := _,
    m_is_int_in := PySem.W.mg_of X G h0,
    F_is_pair := F1,
    b_is_pair := b1,
    a_is_pair := a1,
    d_is_pair := _,
    m_is_pair := PySem.W.mg_of X G h1,
    z_Sign___init__ := [V.ref tz2],
    F_Sign___init__ := F2,
    zr_Sign___init__ := fun _ => .cons (.tup (.inr ⟨_, #[], _, hz2, rfl, rfl, Nat.zero_le _, .nil⟩) .nil) .nil,
    e_Sign___init__ := e2,
    vd_Sign___init__ := v2,
    bd_Sign___init__ := bd2,
    b_Sign___init__ := b2,
    a_Sign___init__ := a2,
    d_Sign___init__ := _,
    M_Sign := ⟨mk_Sign, h2, i2, kc_Sign⟩,
    F_Sign_blank := F3,
    b_Sign_blank := b3,
    a_Sign_blank := a3,
    d_Sign_blank := _,
    p_Sign_blank := p3,
    P_Sign_blank := ⟨h3, hg3, ht3, ⟨rs3, hr3⟩⟩,
    F_Sign_piece := F4,
    b_Sign_piece := b4,
    a_Sign_piece := a4,
    d_Sign_piece := _,
    Me_Sign_piece := ⟨h4, i4, k4⟩,
    F_Sign_row_of := F5,
    b_Sign_row_of := b5,
    a_Sign_row_of := a5,
    d_Sign_row_of := _,
    Me_Sign_row_of := ⟨h5, i5, k5⟩,
    F_Sign_is_text := F6,
    b_Sign_is_text := b6,
    a_Sign_is_text := a6,
    d_Sign_is_text := _,
    Me_Sign_is_text := ⟨h6, i6, k6⟩,
    F_Sign_check_texts := F7,
    b_Sign_check_texts := b7,
    a_Sign_check_texts := a7,
    d_Sign_check_texts := _,
    Me_Sign_check_texts := ⟨h7, i7, k7⟩,
    F_links := F8,
    b_links := b8,
    a_links := a8,
    d_links := _,
    m_links := PySem.W.mg_of X G h8,
    F_surplus := F9,
    b_surplus := b9,
    a_surplus := a9,
    d_surplus := _,
    m_surplus := PySem.W.mg_of X G h9,
    F_groups := F10,
    b_groups := b10,
    a_groups := a10,
    d_groups := _,
    m_groups := PySem.W.mg_of X G h10,
    F_shares := F11,
    b_shares := b11,
    a_shares := a11,
    d_shares := _,
    m_shares := PySem.W.mg_of X G h11,
    F_is_closed := F12,
    b_is_closed := b12,
    a_is_closed := a12,
    d_is_closed := _,
    m_is_closed := PySem.W.mg_of X G h12,
    F_cost := F13,
    b_cost := b13,
    a_cost := a13,
    d_cost := _,
    m_cost := PySem.W.mg_of X G h13,
    F_offsets_of := F14,
    b_offsets_of := b14,
    a_offsets_of := a14,
    d_offsets_of := _,
    m_offsets_of := PySem.W.mg_of X G h14,
    F_check_offsets := F15,
    b_check_offsets := b15,
    a_check_offsets := a15,
    d_check_offsets := _,
    m_check_offsets := PySem.W.mg_of X G h15,
    F_add := F16,
    b_add := b16,
    a_add := a16,
    d_add := _,
    m_add := PySem.W.mg_of X G h16,
    F_fixed_cost := F17,
    b_fixed_cost := b17,
    a_fixed_cost := a17,
    d_fixed_cost := _,
    m_fixed_cost := PySem.W.mg_of X G h17,
    F_costs_from := F18,
    b_costs_from := b18,
    a_costs_from := a18,
    d_costs_from := _,
    m_costs_from := PySem.W.mg_of X G h18,
    F_best_of := F19,
    b_best_of := b19,
    a_best_of := a19,
    d_best_of := _,
    m_best_of := PySem.W.mg_of X G h19,
    F_season_cost := F20,
    b_season_cost := b20,
    a_season_cost := a20,
    d_season_cost := _,
    m_season_cost := PySem.W.mg_of X G h20,
    F_read_number := F21,
    b_read_number := b21,
    a_read_number := a21,
    d_read_number := _,
    m_read_number := PySem.W.mg_of X G h21,
    F_format_season := F22,
    b_format_season := b22,
    a_format_season := a22,
    d_format_season := _,
    m_format_season := PySem.W.mg_of X G h22,
    F_parse_season := F23,
    b_parse_season := b23,
    a_parse_season := a23,
    d_parse_season := _,
    m_parse_season := PySem.W.mg_of X G h23,
    F_encode := F24,
    b_encode := b24,
    a_encode := a24,
    d_encode := _,
    m_encode := PySem.W.mg_of X G h24,
    F_Reader___init__ := F25,
    b_Reader___init__ := b25,
    a_Reader___init__ := a25,
    d_Reader___init__ := _,
    M_Reader := ⟨mk_Reader, h25, i25, kc_Reader⟩,
    F_Reader_read_byte := F26,
    b_Reader_read_byte := b26,
    a_Reader_read_byte := a26,
    d_Reader_read_byte := _,
    Me_Reader_read_byte := ⟨h26, i26, k26⟩,
    F_Reader_read_letter := F27,
    b_Reader_read_letter := b27,
    a_Reader_read_letter := a27,
    d_Reader_read_letter := _,
    Me_Reader_read_letter := ⟨h27, i27, k27⟩,
    F_Reader_read_pairs := F28,
    b_Reader_read_pairs := b28,
    a_Reader_read_pairs := a28,
    d_Reader_read_pairs := _,
    Me_Reader_read_pairs := ⟨h28, i28, k28⟩,
    F_Reader_read_text := F29,
    b_Reader_read_text := b29,
    a_Reader_read_text := a29,
    d_Reader_read_text := _,
    Me_Reader_read_text := ⟨h29, i29, k29⟩,
    F_decode := F30,
    b_decode := b30,
    a_decode := a30,
    d_decode := _,
    m_decode := PySem.W.mg_of X G h30,
    F__law_random := F31,
    b__law_random := b31,
    a__law_random := a31,
    d__law_random := _,
    m__law_random := PySem.W.mg_of X G h31,
    F__law_below := F32,
    b__law_below := b32,
    a__law_below := a32,
    d__law_below := _,
    m__law_below := PySem.W.mg_of X G h32,
    F__law_shuffled := F33,
    b__law_shuffled := b33,
    a__law_shuffled := a33,
    d__law_shuffled := _,
    m__law_shuffled := PySem.W.mg_of X G h33,
    F__law_pairs := F34,
    b__law_pairs := b34,
    a__law_pairs := a34,
    d__law_pairs := _,
    m__law_pairs := PySem.W.mg_of X G h34,
    F__law_text := F35,
    b__law_text := b35,
    a__law_text := a35,
    d__law_text := _,
    m__law_text := PySem.W.mg_of X G h35,
    F__law_texts := F36,
    b__law_texts := b36,
    a__law_texts := a36,
    d__law_texts := _,
    m__law_texts := PySem.W.mg_of X G h36,
    F_law := F37,
    b_law := b37,
    a_law := fa,
    d_law := _,
    m_law := PySem.W.mg_of X G h37,
    g_abs := PySem.W.mg_none_of X G z_abs,
    g_all := PySem.W.mg_none_of X G z_all,
    g_any := PySem.W.mg_none_of X G z_any,
    g_bool := PySem.W.mg_none_of X G z_bool,
    g_enumerate := PySem.W.mg_none_of X G z_enumerate,
    g_int := PySem.W.mg_none_of X G z_int,
    g_isinstance := PySem.W.mg_none_of X G z_isinstance,
    g_len := PySem.W.mg_none_of X G z_len,
    g_list := PySem.W.mg_none_of X G z_list,
    g_min := PySem.W.mg_none_of X G z_min,
    g_range := PySem.W.mg_none_of X G z_range,
    g_sorted := PySem.W.mg_none_of X G z_sorted,
    g_str := PySem.W.mg_none_of X G z_str,
    g_sum := PySem.W.mg_none_of X G z_sum,
    g_tuple := PySem.W.mg_none_of X G z_tuple,
    g_zip := PySem.W.mg_none_of X G z_zip,
    u_BLANK := _,
    m_BLANK := PySem.W.mg_of X G y_BLANK,
    r_BLANK := ⟨_, rfl⟩,
    u_BYTE := _,
    m_BYTE := PySem.W.mg_of X G y_BYTE,
    r_BYTE := ⟨_, rfl⟩,
    u_DIGITS := _,
    m_DIGITS := PySem.W.mg_of X G y_DIGITS,
    r_DIGITS := ⟨_, rfl⟩,
    u_LETTERS := _,
    m_LETTERS := PySem.W.mg_of X G y_LETTERS,
    r_LETTERS := ⟨_, rfl⟩,
    u_MAX_DIGITS := _,
    m_MAX_DIGITS := PySem.W.mg_of X G y_MAX_DIGITS,
    r_MAX_DIGITS := ⟨_, rfl⟩,
    u_MAX_PAIRS := _,
    m_MAX_PAIRS := PySem.W.mg_of X G y_MAX_PAIRS,
    r_MAX_PAIRS := ⟨_, rfl⟩,
    u_MAX_TEXTS := _,
    m_MAX_TEXTS := PySem.W.mg_of X G y_MAX_TEXTS,
    r_MAX_TEXTS := ⟨_, rfl⟩,
    u_MAX_WIDTH := _,
    m_MAX_WIDTH := PySem.W.mg_of X G y_MAX_WIDTH,
    r_MAX_WIDTH := ⟨_, rfl⟩,
    u_SHOW := _,
    m_SHOW := PySem.W.mg_of X G y_SHOW,
    r_SHOW := ⟨_, rfl⟩,
    u_SIGN := _,
    m_SIGN := PySem.W.mg_of X G y_SIGN,
    r_SIGN := ⟨_, rfl⟩,
    u_SIGNS := _,
    m_SIGNS := PySem.W.mg_of X G y_SIGNS,
    r_SIGNS := ⟨_, rfl⟩,
    u_TAG := _,
    m_TAG := PySem.W.mg_of X G y_TAG,
    r_TAG := ⟨_, rfl⟩ }
  exact ⟨T.d_law, fun s v => .of_eq rfl, fun base _ _ => all_ok T⟩
theorem walk {l : PySem.W.OpenLaw} {q : Program} {loose : List Str} {XP : (Str → Option Value) → Heap → Prop} {YP : World → Heap → Prop} {d : DefRec} {K : Params → PySem.W.Frag} (hn : l.most = some 63) (hdf : d.params.defaults = [])
    (hY : ∀ (w : World) (h : Heap), YP w h → (K w.params).In h)
    (F : ∀ (w : World) (mg : Str → Option Value) (fa : Addr) (h : Heap), (K w.params).In h → h.Ns mainGlobals mg → mg d.name = some (.ref fa) →
      ∃ fd : FuncData, (∀ (s : Shared) (u : Value), BindsTo s fd ⟨[u], []⟩ [("_law_script", u)]) ∧ ∀ base : Heap, (K w.params).In base → base.Ns mainGlobals mg → FnOk l.prog w (K w.params) mg base CX0 7 fa fd ["_law_script"] (toSp (K w.params) spLaw)) :
    PySem.W.WalkO q loose XP YP l.row.toRowW d [] (fun f vs => PySem.call f vs) :=
  L2.walk_of (n := 63) (k := 7) (x := "_law_script") (CX := fun _ => CX0) (sp := fun w => toSp (K w.params) spLaw) hn (by decide) hdf ⟨rfl, by decide, by decide⟩ hY F (fun w H a ns hl _ hS => start_law hS fun F ms => ⟨ns, rfl, hl, fun _ _ => rfl⟩) fun _ _ _ _ _ z => z
end K36

open PySem PySem.W PyProof.Rows in
set_option maxRecDepth 100000 in
set_option maxHeartbeats 0 in
theorem PySem.Challenge.cw_marqueeletters_k36_whole_seasons_as_text_holds : PySem.Challenge.rw_marqueeletters_k36_whole_seasons_as_text.Holds := by
  w_on; o_law; k_head; (case hw => w_witness2)
  k_fill
  refine K36.walk (l := PySem.Challenge.rw_marqueeletters_k36_whole_seasons_as_text) rfl rfl (fun w h Y => PySem.W.kIn_of Y) ?F
  case F =>
    intro w mg fa h KX G hmg
    refine' K36.all_mk KX G hmg ?hc_Sign ?pg_Sign ?hd_Sign ?po_Sign ?sa_Sign ?mk_Sign ?kc_Sign ?n_Sign_width ?n_Sign_pairs ?n_Sign_mates ?hc_Reader ?pg_Reader ?hd_Reader ?po_Reader ?sa_Reader ?mk_Reader ?kc_Reader ?n_Reader_code ?n_Reader_spot ?h0 ?l0 ?cd_0 ?k0 ?h1 ?l1 ?cd_1 ?k1 ?h2 ?i2 ?l2 ?cd_2 ?k2 ?hT2 ?hz2 ?h3 ?hg3 ?ht3 ?hr3 ?l3 ?cd_3 ?k3 ?h4 ?i4 ?l4 ?cd_4 ?k4 ?h5 ?i5 ?l5 ?cd_5 ?k5 ?h6 ?i6 ?l6 ?cd_6 ?k6 ?h7 ?i7 ?l7 ?cd_7 ?k7 ?h8 ?l8 ?cd_8 ?k8 ?h9 ?l9 ?cd_9 ?k9 ?h10 ?l10 ?cd_10 ?k10 ?h11 ?l11 ?cd_11 ?k11 ?h12 ?l12 ?cd_12 ?k12 ?h13 ?l13 ?cd_13 ?k13 ?h14 ?l14 ?cd_14 ?k14 ?h15 ?l15 ?cd_15 ?k15 ?h16 ?l16 ?cd_16 ?k16 ?h17 ?l17 ?cd_17 ?k17 ?h18 ?l18 ?cd_18 ?k18 ?h19 ?l19 ?cd_19 ?k19 ?h20 ?l20 ?cd_20 ?k20 ?h21 ?l21 ?cd_21 ?k21 ?h22 ?l22 ?cd_22 ?k22 ?h23 ?l23 ?cd_23 ?k23 ?h24 ?l24 ?cd_24 ?k24 ?h25 ?i25 ?l25 ?cd_25 ?k25 ?h26 ?i26 ?l26 ?cd_26 ?k26 ?h27 ?i27 ?l27 ?cd_27 ?k27 ?h28 ?i28 ?l28 ?cd_28 ?k28 ?h29 ?i29 ?l29 ?cd_29 ?k29 ?h30 ?l30 ?cd_30 ?k30 ?h31 ?l31 ?cd_31 ?k31 ?h32 ?l32 ?cd_32 ?k32 ?h33 ?l33 ?cd_33 ?k33 ?h34 ?l34 ?cd_34 ?k34 ?h35 ?l35 ?cd_35 ?k35 ?h36 ?l36 ?cd_36 ?k36 ?h37 ?l37 ?cd_37 ?k37 ?z_abs ?z_all ?z_any ?z_bool ?z_enumerate ?z_int ?z_isinstance ?z_len ?z_list ?z_min ?z_range ?z_sorted ?z_str ?z_sum ?z_tuple ?z_zip ?y_BLANK ?y_BYTE ?y_DIGITS ?y_LETTERS ?y_MAX_DIGITS ?y_MAX_PAIRS ?y_MAX_TEXTS ?y_MAX_WIDTH ?y_SHOW ?y_SIGN ?y_SIGNS ?y_TAG
    (case hc_Sign => k_is)
    (case pg_Sign => k_is)
    (case hd_Sign => k_is)
    (case po_Sign => k_is)
    (case sa_Sign => k_is)
    (case mk_Sign => k_is)
    (case kc_Sign => k_is)
    (case n_Sign_width => k_is)
    (case n_Sign_pairs => k_is)
    (case n_Sign_mates => k_is)
    (case hc_Reader => k_is)
    (case pg_Reader => k_is)
    (case hd_Reader => k_is)
    (case po_Reader => k_is)
    (case sa_Reader => k_is)
    (case mk_Reader => k_is)
    (case kc_Reader => k_is)
    (case n_Reader_code => k_is)
    (case n_Reader_spot => k_is)
    (case h0 => k_is)
    (case l0 => k_is)
    (case cd_0 => k_is)
    (case k0 => k_is)
    (case h1 => k_is)
    (case l1 => k_is)
    (case cd_1 => k_is)
    (case k1 => k_is)
    (case h2 => k_is)
    (case i2 => k_is)
    (case l2 => k_is)
    (case cd_2 => k_is)
    (case k2 => k_is)
    (case hT2 => k_is)
    (case hz2 => k_is)
    (case h3 => k_is)
    (case hg3 => k_is)
    (case ht3 => k_is)
    (case hr3 => k_is)
    (case l3 => k_is)
    (case cd_3 => k_is)
    (case k3 => k_is)
    (case h4 => k_is)
    (case i4 => k_is)
    (case l4 => k_is)
    (case cd_4 => k_is)
    (case k4 => k_is)
    (case h5 => k_is)
    (case i5 => k_is)
    (case l5 => k_is)
    (case cd_5 => k_is)
    (case k5 => k_is)
    (case h6 => k_is)
    (case i6 => k_is)
    (case l6 => k_is)
    (case cd_6 => k_is)
    (case k6 => k_is)
    (case h7 => k_is)
    (case i7 => k_is)
    (case l7 => k_is)
    (case cd_7 => k_is)
    (case k7 => k_is)
    (case h8 => k_is)
    (case l8 => k_is)
    (case cd_8 => k_is)
    (case k8 => k_is)
    (case h9 => k_is)
    (case l9 => k_is)
    (case cd_9 => k_is)
    (case k9 => k_is)
    (case h10 => k_is)
    (case l10 => k_is)
    (case cd_10 => k_is)
    (case k10 => k_is)
    (case h11 => k_is)
    (case l11 => k_is)
    (case cd_11 => k_is)
    (case k11 => k_is)
    (case h12 => k_is)
    (case l12 => k_is)
    (case cd_12 => k_is)
    (case k12 => k_is)
    (case h13 => k_is)
    (case l13 => k_is)
    (case cd_13 => k_is)
    (case k13 => k_is)
    (case h14 => k_is)
    (case l14 => k_is)
    (case cd_14 => k_is)
    (case k14 => k_is)
    (case h15 => k_is)
    (case l15 => k_is)
    (case cd_15 => k_is)
    (case k15 => k_is)
    (case h16 => k_is)
    (case l16 => k_is)
    (case cd_16 => k_is)
    (case k16 => k_is)
    (case h17 => k_is)
    (case l17 => k_is)
    (case cd_17 => k_is)
    (case k17 => k_is)
    (case h18 => k_is)
    (case l18 => k_is)
    (case cd_18 => k_is)
    (case k18 => k_is)
    (case h19 => k_is)
    (case l19 => k_is)
    (case cd_19 => k_is)
    (case k19 => k_is)
    (case h20 => k_is)
    (case l20 => k_is)
    (case cd_20 => k_is)
    (case k20 => k_is)
    (case h21 => k_is)
    (case l21 => k_is)
    (case cd_21 => k_is)
    (case k21 => k_is)
    (case h22 => k_is)
    (case l22 => k_is)
    (case cd_22 => k_is)
    (case k22 => k_is)
    (case h23 => k_is)
    (case l23 => k_is)
    (case cd_23 => k_is)
    (case k23 => k_is)
    (case h24 => k_is)
    (case l24 => k_is)
    (case cd_24 => k_is)
    (case k24 => k_is)
    (case h25 => k_is)
    (case i25 => k_is)
    (case l25 => k_is)
    (case cd_25 => k_is)
    (case k25 => k_is)
    (case h26 => k_is)
    (case i26 => k_is)
    (case l26 => k_is)
    (case cd_26 => k_is)
    (case k26 => k_is)
    (case h27 => k_is)
    (case i27 => k_is)
    (case l27 => k_is)
    (case cd_27 => k_is)
    (case k27 => k_is)
    (case h28 => k_is)
    (case i28 => k_is)
    (case l28 => k_is)
    (case cd_28 => k_is)
    (case k28 => k_is)
    (case h29 => k_is)
    (case i29 => k_is)
    (case l29 => k_is)
    (case cd_29 => k_is)
    (case k29 => k_is)
    (case h30 => k_is)
    (case l30 => k_is)
    (case cd_30 => k_is)
    (case k30 => k_is)
    (case h31 => k_is)
    (case l31 => k_is)
    (case cd_31 => k_is)
    (case k31 => k_is)
    (case h32 => k_is)
    (case l32 => k_is)
    (case cd_32 => k_is)
    (case k32 => k_is)
    (case h33 => k_is)
    (case l33 => k_is)
    (case cd_33 => k_is)
    (case k33 => k_is)
    (case h34 => k_is)
    (case l34 => k_is)
    (case cd_34 => k_is)
    (case k34 => k_is)
    (case h35 => k_is)
    (case l35 => k_is)
    (case cd_35 => k_is)
    (case k35 => k_is)
    (case h36 => k_is)
    (case l36 => k_is)
    (case cd_36 => k_is)
    (case k36 => k_is)
    (case h37 => k_is)
    (case l37 => k_is)
    (case cd_37 => k_is)
    (case k37 => k_is)
    (case z_abs => k_is)
    (case z_all => k_is)
    (case z_any => k_is)
    (case z_bool => k_is)
    (case z_enumerate => k_is)
    (case z_int => k_is)
    (case z_isinstance => k_is)
    (case z_len => k_is)
    (case z_list => k_is)
    (case z_min => k_is)
    (case z_range => k_is)
    (case z_sorted => k_is)
    (case z_str => k_is)
    (case z_sum => k_is)
    (case z_tuple => k_is)
    (case z_zip => k_is)
    (case y_BLANK => k_is)
    (case y_BYTE => k_is)
    (case y_DIGITS => k_is)
    (case y_LETTERS => k_is)
    (case y_MAX_DIGITS => k_is)
    (case y_MAX_PAIRS => k_is)
    (case y_MAX_TEXTS => k_is)
    (case y_MAX_WIDTH => k_is)
    (case y_SHOW => k_is)
    (case y_SIGN => k_is)
    (case y_SIGNS => k_is)
    (case y_TAG => k_is)

