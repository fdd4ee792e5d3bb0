import PyProof.Rows.All
import Wide.All
import OpenK.AllK
import Wide.FinOn
import HandS.ForMost
import HandS.Base
import HandS.Call
import HandS.List
import HandS.Comp
import HandS.Ends
import HandS.Dict
import HandS.Iter
import HandS.Text
import HandS.Words
import HandS.Exc
import HandS.Walk
import HandS.Evl
import HandS.Conv
import HandS.TupAny
import HandS.Codes
import HandS.IsInst
import HandS.Property
import HandS.WordsExc
import HandS.StrMore
import PyProof.ListStr
import KE.GoesMore
import HandS.Zip
import HandS.ClsMeth
import HandS.Defaults
import HandS.Replace
import HandS.Star
import KE.KUnpackStar
import HandS.StrSplit
import HandS.DictComp
import HandS.More
import KE.GoesZip
import HandS.Sort
import PyProof.SumAny
import HandS.Strs
import HandS.SetFor
import KE.DataMinMax
import KE.SortData
import HandS.GenBody
import HandS.GenYield
import HandS.GenCall
import HandS.GenList
import PyProof.ZipIter
import HandS.Lambda
import HandS.ExcIs
import HandS.EndTab
import HandS.ExcOwn
import KE.KNestM
import HandS.EndOwn
import HandS.TryOnly
import HandS.ListItems
import HandS.ExcInit
import HandS.ExcField
import KE.KExcIs
import HandS.WordsDict
import KE.KDictKeyed
import KE.KeyNested
import KE.KDictWalk
import HandS.TupMul
import KE.DatumOrd
import KE.KDflt
import OpenK.KCall
import PySem.Challenge.RW_marqueeletters_k14_invalid_texts_and_off
set_option Elab.async false
set_option linter.all false
set_option maxRecDepth 100000
set_option maxHeartbeats 4000000
/-! A layer of our own over HandS: values as deep data, the heap as a frozen part and owned objects. -/
namespace AL
open PySem L2
abbrev Frg := PySem.W.Frag
abbrev Ex : Hp → Hp → Prop := Evl.Ex
theorem Ex.refl {H : Hp} : Ex H H := Evl.Ex.refl H
theorem Ex.trans {H H1 H2 : Hp} (a : Ex H H1) (b : Ex H1 H2) : Ex H H2 := Evl.Ex.trans a b

/-- deep data -/
inductive D where
  | non | bl (b : Bool) | int (i : Int) | str (x : Str) | ref (a : Addr) | ty (n : String)
  | tup (ds : List D) | lst (ds : List D) | rdl (ds : List D) | dic (kvs : List (Key × D))

mutual
inductive Rep (K : Frg) (F : Hp) : D → V → Prop
  | non : Rep K F .non .non
  | bl (b : Bool) : Rep K F (.bl b) (.bl b)
  | int (i : Int) : Rep K F (.int i) (.int i)
  | str (x : Str) : Rep K F (.str x) (.str x)
  | ref (a : Addr) : Rep K F (.ref a) (.ref a)
  | ty (n : String) : Rep K F (.ty n) (.ty n)
  | tup {a : Addr} {xs : List V} {ds : List D} : SqT K F a xs → RepL K F ds xs → Rep K F (.tup ds) (.ref a)
  | lst {a : Addr} {xs : List V} {ds : List D} : F a = some (.lst xs) → RepL K F ds xs → Rep K F (.lst ds) (.ref a)
  | rdl {a : Addr} {xs : List V} {ds : List D} : SqL K F a xs → RepL K F ds xs → Rep K F (.rdl ds) (.ref a)
  | dic {a : Addr} {xs : List (Key × V)} {ds : List (Key × D)} : F a = some (.dK xs) → RepK K F ds xs → Rep K F (.dic ds) (.ref a)
inductive RepL (K : Frg) (F : Hp) : List D → List V → Prop
  | nil : RepL K F [] []
  | cons {d : D} {v : V} {ds : List D} {vs : List V} : Rep K F d v → RepL K F ds vs → RepL K F (d :: ds) (v :: vs)
inductive RepK (K : Frg) (F : Hp) : List (Key × D) → List (Key × V) → Prop
  | nil : RepK K F [] []
  | cons {k : Key} {d : D} {v : V} {ds : List (Key × D)} {vs : List (Key × V)} : Rep K F d v → RepK K F ds vs → RepK K F ((k, d) :: ds) ((k, v) :: vs)
end
theorem ex_t {K : Frg} {H H' : Hp} {a : Addr} {xs : List V} (e : Ex H H') (h : SqT K H a xs) : SqT K H' a xs := Evl.ex_t e h
theorem ex_l {K : Frg} {H H' : Hp} {a : Addr} {xs : List V} (e : Ex H H') (h : SqL K H a xs) : SqL K H' a xs := Evl.ex_l e h
section
variable {K : Frg} {F F' : Hp}
mutual
theorem Rep.mono (e : Ex F F') : ∀ {d : D} {v : V}, Rep K F d v → Rep K F' d v
  | _, _, .non => .non
  | _, _, .bl b => .bl b
  | _, _, .int i => .int i
  | _, _, .str x => .str x
  | _, _, .ref a => .ref a
  | _, _, .ty n => .ty n
  | _, _, .tup h r => .tup (ex_t e h) (RepL.mono e r)
  | _, _, .lst h r => .lst (e _ _ h) (RepL.mono e r)
  | _, _, .rdl h r => .rdl (ex_l e h) (RepL.mono e r)
  | _, _, .dic h r => .dic (e _ _ h) (RepK.mono e r)
theorem RepL.mono (e : Ex F F') : ∀ {ds : List D} {vs : List V}, RepL K F ds vs → RepL K F' ds vs
  | _, _, .nil => .nil
  | _, _, .cons h r => .cons (Rep.mono e h) (RepL.mono e r)
theorem RepK.mono (e : Ex F F') : ∀ {ds : List (Key × D)} {vs : List (Key × V)}, RepK K F ds vs → RepK K F' ds vs
  | _, _, .nil => .nil
  | _, _, .cons h r => .cons (Rep.mono e h) (RepK.mono e r)
end
theorem RepL.len : ∀ {ds : List D} {vs : List V}, RepL K F ds vs → ds.length = vs.length
  | _, _, .nil => rfl
  | _, _, .cons _ r => by rw [List.length_cons, List.length_cons, RepL.len r]
theorem RepL.get : ∀ {ds : List D} {vs : List V} {i : Nat} {v : V}, RepL K F ds vs → vs[i]? = some v → ∃ d, ds[i]? = some d ∧ Rep K F d v
  | _, _, _, _, .nil, h => by simp at h
  | _, _, 0, _, .cons h _, e => by simp at e; subst e; exact ⟨_, rfl, h⟩
  | _, _, i + 1, _, .cons _ r, e => by simp at e; obtain ⟨d, h1, h2⟩ := RepL.get r e; exact ⟨d, by simpa using h1, h2⟩
theorem RepL.getD : ∀ {ds : List D} {vs : List V} {i : Nat} {d : D}, RepL K F ds vs → ds[i]? = some d → ∃ v, vs[i]? = some v ∧ Rep K F d v
  | _, _, _, _, .nil, h => by simp at h
  | _, _, 0, _, .cons h _, e => by simp at e; subst e; exact ⟨_, rfl, h⟩
  | _, _, i + 1, _, .cons _ r, e => by simp at e; obtain ⟨d, h1, h2⟩ := RepL.getD r e; exact ⟨d, by simpa using h1, h2⟩
theorem RepL.append : ∀ {ds es : List D} {vs ws : List V}, RepL K F ds vs → RepL K F es ws → RepL K F (ds ++ es) (vs ++ ws)
  | _, _, _, _, .nil, s => s
  | _, _, _, _, .cons h r, s => .cons h (RepL.append r s)
theorem RepL.one {d : D} {v : V} (h : Rep K F d v) : RepL K F [d] [v] := .cons h .nil
theorem RepL.set {d : D} {v : V} (h : Rep K F d v) : ∀ {ds : List D} {vs : List V} (i : Nat), RepL K F ds vs → RepL K F (ds.set i d) (vs.set i v)
  | _, _, _, .nil => .nil
  | _, _, 0, .cons _ r => .cons h r
  | _, _, i + 1, .cons q r => .cons q (RepL.set h i r)
theorem RepL.take : ∀ {ds : List D} {vs : List V} (n : Nat), RepL K F ds vs → RepL K F (ds.take n) (vs.take n)
  | _, _, 0, _ => .nil
  | _, _, _ + 1, .nil => .nil
  | _, _, n + 1, .cons h r => .cons h (RepL.take n r)
theorem RepL.drop : ∀ {ds : List D} {vs : List V} (n : Nat), RepL K F ds vs → RepL K F (ds.drop n) (vs.drop n)
  | _, _, 0, r => r
  | _, _, _ + 1, .nil => .nil
  | _, _, n + 1, .cons _ r => RepL.drop n r
theorem RepL.eraseIdx : ∀ {ds : List D} {vs : List V} (n : Nat), RepL K F ds vs → RepL K F (ds.eraseIdx n) (vs.eraseIdx n)
  | _, _, _, .nil => .nil
  | _, _, 0, .cons _ r => r
  | _, _, n + 1, .cons h r => .cons h (RepL.eraseIdx n r)
theorem RepK.len : ∀ {ds : List (Key × D)} {vs : List (Key × V)}, RepK K F ds vs → ds.length = vs.length
  | _, _, .nil => rfl
  | _, _, .cons _ r => by rw [List.length_cons, List.length_cons, RepK.len r]
theorem RepK.append : ∀ {ds es : List (Key × D)} {vs ws : List (Key × V)}, RepK K F ds vs → RepK K F es ws → RepK K F (ds ++ es) (vs ++ ws)
  | _, _, _, _, .nil, s => s
  | _, _, _, _, .cons h r, s => .cons h (RepK.append r s)
end

/-! ### owned objects -/
inductive MO where
  | lst (ds : List D) | dic (kvs : List (Key × D)) | ins (C : Addr) (fs : List (Str × D)) | raw (o : HO)
inductive RepF (K : Frg) (F : Hp) : List (Str × D) → List (Str × V) → Prop
  | nil : RepF K F [] []
  | cons {k : Str} {d : D} {v : V} {ds : List (Str × D)} {vs : List (Str × V)} : Rep K F d v → RepF K F ds vs → RepF K F ((k, d) :: ds) ((k, v) :: vs)
def MRep (K : Frg) (F H : Hp) (a : Addr) : MO → Prop
  | .lst ds => ∃ vs, H a = some (.lst vs) ∧ RepL K F ds vs
  | .dic ds => ∃ vs, H a = some (.dK vs) ∧ RepK K F ds vs
  | .ins C fs => ∃ dx gs, H a = some (.ins C dx gs) ∧ F dx = some (.own a) ∧ RepF K F fs gs
  | .raw o => H a = some o
abbrev Ms := List (Addr × MO)
structure Hold (K : Frg) (F : Hp) (ms : Ms) (H : Hp) : Prop where
  ex : Ex F H
  own : ∀ p ∈ ms, F p.1 = none ∧ MRep K F H p.1 p.2
  nd : (ms.map Prod.fst).Nodup
section
variable {K : Frg} {F F' H : Hp} {ms : Ms}
theorem RepF.mono (e : Ex F F') : ∀ {ds : List (Str × D)} {vs : List (Str × V)}, RepF K F ds vs → RepF K F' ds vs
  | _, _, .nil => .nil
  | _, _, .cons h r => .cons (h.mono e) (RepF.mono e r)
theorem RepF.look : ∀ {ds : List (Str × D)} {vs : List (Str × V)} {f : Str} {d : D}, RepF K F ds vs → ds.lookup f = some d → ∃ v, vs.lookup f = some v ∧ Rep K F d v
  | _, _, _, _, .nil, h => by simp at h
  | _, _, f, d, .cons (k := k) h r, e => by
    rw [List.lookup_cons] at e ⊢
    cases q : f == k with
    | true => rw [q] at e; cases e; exact ⟨_, rfl, h⟩
    | false => rw [q] at e; exact RepF.look r e
theorem RepF.lookN : ∀ {ds : List (Str × D)} {vs : List (Str × V)} {f : Str}, RepF K F ds vs → ds.lookup f = none → vs.lookup f = none
  | _, _, _, .nil, h => rfl
  | _, _, f, .cons (k := k) h r, e => by
    rw [List.lookup_cons] at e ⊢
    cases q : f == k with
    | true => rw [q] at e; cases e
    | false => rw [q] at e; exact RepF.lookN r e
theorem RepF.len : ∀ {ds : List (Str × D)} {vs : List (Str × V)}, RepF K F ds vs → ds.length = vs.length
  | _, _, .nil => rfl
  | _, _, .cons _ r => by rw [List.length_cons, List.length_cons, RepF.len r]
def putD (f : Str) (d : D) : List (Str × D) → List (Str × D)
  | [] => [(f, d)]
  | (g, e) :: r => if g = f then (f, d) :: r else (g, e) :: putD f d r
theorem RepF.put {f : Str} {d : D} {v : V} (h : Rep K F d v) : ∀ {ds : List (Str × D)} {vs : List (Str × V)}, RepF K F ds vs → RepF K F (putD f d ds) (putF f v vs)
  | _, _, .nil => .cons h .nil
  | _, _, .cons (k := k) q r => by
    unfold putD putF
    split
    · rename_i e; subst e; exact .cons h r
    · exact .cons q (RepF.put h r)
theorem MRep.mono (e : Ex F F') : ∀ {m : MO} {a : Addr}, MRep K F H a m → MRep K F' H a m
  | .lst _, _, ⟨vs, h, r⟩ => ⟨vs, h, r.mono e⟩
  | .dic _, _, ⟨vs, h, r⟩ => ⟨vs, h, r.mono e⟩
  | .ins _ _, _, ⟨dx, gs, h, q, r⟩ => ⟨dx, gs, h, e _ _ q, r.mono e⟩
  | .raw _, _, h => h
theorem MRep.there : ∀ {m : MO} {a : Addr}, MRep K F H a m → ∃ o, H a = some o
  | .lst _, _, ⟨_, h, _⟩ => ⟨_, h⟩
  | .dic _, _, ⟨_, h, _⟩ => ⟨_, h⟩
  | .ins _ _, _, ⟨_, _, h, _⟩ => ⟨_, h⟩
  | .raw _, _, h => ⟨_, h⟩
theorem MRep.at {H' : Hp} : ∀ {m : MO} {a : Addr}, MRep K F H a m → H' a = H a → MRep K F H' a m
  | .lst _, _, ⟨vs, h, r⟩, e => ⟨vs, e.trans h, r⟩
  | .dic _, _, ⟨vs, h, r⟩, e => ⟨vs, e.trans h, r⟩
  | .ins _ _, _, ⟨dx, gs, h, q, r⟩, e => ⟨dx, gs, e.trans h, q, r⟩
  | .raw _, _, h, e => Eq.trans e h
theorem free_of (e : Ex F H) {p : Addr} (h : H p = none) : F p = none := Evl.fresh_back e h
theorem Hold.free (h : Hold K F ms H) {p : Addr} (hp : H p = none) : F p = none := free_of h.ex hp
theorem Hold.ne (h : Hold K F ms H) {p : Addr} (hp : H p = none) : ∀ q ∈ ms, q.1 ≠ p := fun q hq e => by
  obtain ⟨o, ho⟩ := (h.own q hq).2.there
  rw [e, hp] at ho
  cases ho
/-- a new frozen object -/
theorem Hold.laid (h : Hold K F ms H) {p : Addr} (o : HO) (hp : H p = none) : Ex F (upd F p o) ∧ Hold K (upd F p o) ms (upd H p o) := by
  have e : Ex F (upd F p o) := Evl.Ex.new (h.free hp)
  refine ⟨e, fun a u q => ?_, fun q hq => ?_, h.nd⟩
  · by_cases ha : a = p
    · subst ha; rw [upd_same] at q ⊢; exact q
    · rw [upd_ne ha] at q ⊢; exact h.ex _ _ q
  · have ne := h.ne hp q hq
    refine ⟨by rw [upd_ne ne]; exact (h.own q hq).1, ((h.own q hq).2.mono e).at (upd_ne ne)⟩
/-- a new owned object -/
theorem Hold.made (h : Hold K F ms H) {p : Addr} {o : HO} {m : MO} (hp : H p = none) (hm : MRep K F (upd H p o) p m) : Hold K F ((p, m) :: ms) (upd H p o) := by
  refine ⟨h.ex.trans (Evl.Ex.new hp), fun q hq => ?_, ?_⟩
  · rcases List.mem_cons.mp hq with rfl | hq
    · exact ⟨h.free hp, hm⟩
    · exact ⟨(h.own q hq).1, (h.own q hq).2.at (upd_ne (h.ne hp q hq))⟩
  · rw [List.map_cons]
    refine List.nodup_cons.mpr ⟨fun hm' => ?_, h.nd⟩
    obtain ⟨q, hq, e⟩ := List.mem_map.mp hm'
    exact h.ne hp q hq e
theorem Hold.at (h : Hold K F ms H) {i : Nat} {l : Addr} {m : MO} (hi : ms[i]? = some (l, m)) : F l = none ∧ MRep K F H l m := h.own (l, m) (List.mem_of_getElem? hi)
theorem map_fst_set {i : Nat} {l : Addr} {m m' : MO} : ∀ {ms : Ms} {i : Nat}, ms[i]? = some (l, m) → (ms.set i (l, m')).map Prod.fst = ms.map Prod.fst
  | [], _, h => by simp at h
  | _ :: _, 0, h => by simp at h; subst h; rfl
  | _ :: r, i + 1, h => by
    show _ :: (r.set i (l, m')).map Prod.fst = _ :: r.map Prod.fst
    rw [map_fst_set (i := i) (by simpa using h)]
/-- an owned object is changed -/
theorem Hold.set (h : Hold K F ms H) {i : Nat} {l : Addr} {m m' : MO} {o : HO} (hi : ms[i]? = some (l, m)) (hm : MRep K F (upd H l o) l m') : Hold K F (ms.set i (l, m')) (upd H l o) := by
  have hl := h.at hi
  refine ⟨Evl.Ex.mut h.ex hl.1, fun q hq => ?_, by rw [map_fst_set (i := i) hi]; exact h.nd⟩
  obtain ⟨j, hj⟩ := List.getElem?_of_mem hq
  by_cases e : j = i
  · subst e
    have hlt : j < ms.length := (List.getElem?_eq_some_iff.mp hi).1
    rw [List.getElem?_set_self hlt] at hj
    cases hj
    exact ⟨hl.1, hm⟩
  · rw [List.getElem?_set_ne (Ne.symm e)] at hj
    have hq' := h.own q (List.mem_of_getElem? hj)
    refine ⟨hq'.1, hq'.2.at (upd_ne fun z => e ?_)⟩
    have h1 : (ms.map Prod.fst)[j]? = some q.1 := by rw [List.getElem?_map, hj]; rfl
    have h2 : (ms.map Prod.fst)[i]? = some q.1 := by rw [List.getElem?_map, hi, z]; rfl
    exact nodup_ix' h.nd h1 h2
where
  nodup_ix' {N : List Addr} (hN : N.Nodup) {i j : Nat} {x : Addr} (a : N[i]? = some x) (b : N[j]? = some x) : i = j := by
    obtain ⟨h1, e1⟩ := List.getElem?_eq_some_iff.mp a
    obtain ⟨h2, e2⟩ := List.getElem?_eq_some_iff.mp b
    exact (List.getElem_inj hN).mp (e1.trans e2.symm)
theorem Hold.drop (h : Hold K F ms H) (i : Nat) : Hold K F (ms.eraseIdx i) H :=
  ⟨h.ex, fun q hq => h.own q (List.mem_of_mem_eraseIdx hq), by
    have e : (ms.eraseIdx i).map Prod.fst = (ms.map Prod.fst).eraseIdx i := map_erase _ _
    rw [e]
    exact h.nd.sublist (List.eraseIdx_sublist _ _)⟩
where
  map_erase : ∀ (l : Ms) (i : Nat), (l.eraseIdx i).map Prod.fst = (l.map Prod.fst).eraseIdx i
    | [], _ => rfl
    | _ :: _, 0 => rfl
    | p :: r, i + 1 => by
      show p.1 :: (r.eraseIdx i).map Prod.fst = p.1 :: (r.map Prod.fst).eraseIdx i
      rw [map_erase r i]
theorem Hold.tl {p : Addr × MO} (h : Hold K F (p :: ms) H) : Hold K F ms H := h.drop 0
/-- an owned object freezes -/
theorem Hold.freeze (h : Hold K F ms H) {i : Nat} {l : Addr} {m : MO} (hi : ms[i]? = some (l, m)) : ∃ o, H l = some o ∧ Ex F (upd F l o) ∧ Hold K (upd F l o) (ms.eraseIdx i) H := by
  have hl := h.at hi
  obtain ⟨o, ho⟩ := hl.2.there
  have e : Ex F (upd F l o) := Evl.Ex.new hl.1
  have d := h.drop i
  refine ⟨o, ho, e, fun a u q => ?_, fun q hq => ?_, d.nd⟩
  · by_cases ha : a = l
    · subst ha; rw [upd_same] at q; rw [← q]; exact ho
    · rw [upd_ne ha] at q; exact h.ex _ _ q
  · have hq' := d.own q hq
    have ne : q.1 ≠ l := fun z => by
      obtain ⟨j, hj⟩ := List.getElem?_of_mem hq
      rw [List.getElem?_eraseIdx] at hj
      have two : ∀ k, ms[k]? = some q → k = i := fun k hk => by
        have h1 : (ms.map Prod.fst)[k]? = some q.1 := by rw [List.getElem?_map, hk]; rfl
        have h2 : (ms.map Prod.fst)[i]? = some q.1 := by rw [List.getElem?_map, hi, z]; rfl
        exact Hold.set.nodup_ix' h.nd h1 h2
      split at hj
      · have := two _ hj; omega
      · have := two _ hj; omega
    exact ⟨by rw [upd_ne ne]; exact hq'.1, hq'.2.mono e⟩
end

/-! ### the slots -/
abbrev Sg := List (Option D)
def SRep (K : Frg) (F : Hp) (S : Sg) (σ : St) : Prop := S.length = σ.length ∧ ∀ (i : Nat) (d : D), S[i]? = some (some d) → ∃ v, σ[i]? = some (some v) ∧ Rep K F d v
section
variable {K : Frg} {F F' : Hp} {S : Sg} {σ : St}
theorem SRep.mono (e : Ex F F') (h : SRep K F S σ) : SRep K F' S σ := ⟨h.1, fun i d q => by
  obtain ⟨v, h1, h2⟩ := h.2 i d q
  exact ⟨v, h1, h2.mono e⟩⟩
theorem SRep.set (h : SRep K F S σ) {i : Nat} {d : D} {v : V} (r : Rep K F d v) : SRep K F (S.set i (some d)) (σ.set i (some v)) := by
  refine ⟨by rw [List.length_set, List.length_set]; exact h.1, fun j e q => ?_⟩
  by_cases hj : j = i
  · subst hj
    by_cases hl : j < S.length
    · rw [List.getElem?_set_self hl] at q
      cases q
      exact ⟨v, by rw [List.getElem?_set_self (by rw [← h.1]; exact hl)], r⟩
    · rw [List.getElem?_eq_none (by rw [List.length_set]; omega)] at q
      cases q
  · rw [List.getElem?_set_ne (Ne.symm hj)] at q ⊢
    exact h.2 j e q
theorem SRep.setN (h : SRep K F S σ) {i : Nat} : SRep K F (S.set i none) (σ.set i none) := by
  refine ⟨by rw [List.length_set, List.length_set]; exact h.1, fun j e q => ?_⟩
  by_cases hj : j = i
  · subst hj
    by_cases hl : j < S.length
    · rw [List.getElem?_set_self hl] at q
      cases q
    · rw [List.getElem?_eq_none (by rw [List.length_set]; omega)] at q
      cases q
  · rw [List.getElem?_set_ne (Ne.symm hj)] at q ⊢
    exact h.2 j e q
/-- another datum for the value in a slot -/
theorem SRep.re (h : SRep K F S σ) {i : Nat} {d : D} (r : ∀ v, σ[i]? = some (some v) → Rep K F d v) {d0 : D} (h0 : S[i]? = some (some d0)) : SRep K F (S.set i (some d)) σ := by
  refine ⟨by rw [List.length_set]; exact h.1, fun j e q => ?_⟩
  by_cases hj : j = i
  · subst hj
    have hl : j < S.length := (List.getElem?_eq_some_iff.mp h0).1
    rw [List.getElem?_set_self hl] at q
    cases q
    obtain ⟨v, h1, _⟩ := h.2 j d0 h0
    exact ⟨v, h1, r v h1⟩
  · rw [List.getElem?_set_ne (Ne.symm hj)] at q
    exact h.2 j e q
def wipeS (S : Sg) : List Nat → Sg
  | [] => S
  | v :: vs => (wipeS S vs).set v none
theorem SRep.wipe (h : SRep K F S σ) : ∀ vs : List Nat, SRep K F (wipeS S vs) (L2.wipe σ vs)
  | [] => h
  | v :: vs => SRep.setN (SRep.wipe h vs)
theorem SRep.weak (h : SRep K F S σ) {S' : Sg} (hl : S'.length = S.length) (hw : ∀ (i : Nat) d, S'[i]? = some (some d) → S[i]? = some (some d)) : SRep K F S' σ :=
  ⟨hl.trans h.1, fun i d q => h.2 i d (hw i d q)⟩
end

/-! ### the judgements -/
abbrev QE := Hp → Ms → D → Prop
/-- what is wanted of an exception: its class, its attributes -/
abbrev XA := Addr → List (Str × D) → Hp → Ms → Prop
/-- where one stands: the written part, what is wanted of an exception (concretely, abstractly) -/
structure Cg where
  K : Frg
  E : XK
  Ea : XA
/-- the attributes of an exception: its own dict -/
def XDat (K : Frg) (F H : Hp) (dx : Option Addr) (fs : List (Str × D)) : Prop := (dx = none ∧ fs = []) ∨ ∃ d gs, dx = some d ∧ fs ≠ [] ∧ F d = some (.xd gs) ∧ RepF K F fs gs
def XLe (Γ : Cg) (R : Ms) (F : Hp) : Prop := ∀ F' ms' C dx fs H', Ex F F' → Hold Γ.K F' (ms' ++ R) H' → XDat Γ.K F' H' dx fs → Γ.Ea C fs F' ms' → Γ.E (.ref C) dx H'
theorem XLe.ex {Γ : Cg} {R : Ms} {F F' : Hp} (x : XLe Γ R F) (e : Ex F F') : XLe Γ R F' := fun F2 ms' C dx fs H' e2 => x F2 ms' C dx fs H' (e.trans e2)
abbrev QS := Hp → Ms → Sg → Prop
def AE (Γ : Cg) (te : TE) (F : Hp) (ms : Ms) (S : Sg) (Q : QE) : Prop := ∀ (R : Ms) σ H (Qc : VK), SRep Γ.K F S σ → Hold Γ.K F (ms ++ R) H → XLe Γ R F → (∀ F' ms' d v H', Ex F F' → Hold Γ.K F' (ms' ++ R) H' → Rep Γ.K F' d v → Q F' ms' d → Qc v H') → te σ H Qc
def AA (Γ : Cg) (ta : TA) (F : Hp) (ms : Ms) (S : Sg) (Q : Hp → Ms → List D → Prop) : Prop := ∀ (R : Ms) σ H (Qc : List V → Hp → Prop), SRep Γ.K F S σ → Hold Γ.K F (ms ++ R) H → XLe Γ R F → (∀ F' ms' ds vs H', Ex F F' → Hold Γ.K F' (ms' ++ R) H' → RepL Γ.K F' ds vs → Q F' ms' ds → Qc vs H') → ta σ H Qc
def AT (Γ : Cg) (tt : TT) (F : Hp) (ms : Ms) (S : Sg) (Q : Hp → Ms → Bool → Prop) : Prop := ∀ (R : Ms) σ H (Qc : Bool → Hp → Prop), SRep Γ.K F S σ → Hold Γ.K F (ms ++ R) H → XLe Γ R F → (∀ F' ms' b H', Ex F F' → Hold Γ.K F' (ms' ++ R) H' → Q F' ms' b → Qc b H') → tt σ H Qc
def AR (K : Frg) (r : R2) (x y : D) (F : Hp) (ms : Ms) (Q : QE) : Prop := ∀ (R : Ms) u v H (Qc : VK), Rep K F x u → Rep K F y v → Hold K F (ms ++ R) H → (∀ F' ms' d v H', Ex F F' → Hold K F' (ms' ++ R) H' → Rep K F' d v → Q F' ms' d → Qc v H') → r u v H Qc
def AC (K : Frg) (r : List V → Hp → VK → Prop) (ds : List D) (F : Hp) (ms : Ms) (Q : QE) : Prop := ∀ (R : Ms) vs H (Qc : VK), RepL K F ds vs → Hold K F (ms ++ R) H → (∀ F' ms' d v H', Ex F F' → Hold K F' (ms' ++ R) H' → Rep K F' d v → Q F' ms' d → Qc v H') → r vs H Qc
/-- a method of a built-in type: the receiver, the arguments -/
def AM (K : Frg) (T : String) (r : V → List V → Hp → VK → Prop) (x : D) (ds : List D) (F : Hp) (ms : Ms) (Q : QE) : Prop := ∀ (R : Ms) u vs H (Qc : VK), Rep K F x u → RepL K F ds vs → Hold K F (ms ++ R) H → (∀ F' ms' d v H', Ex F F' → Hold K F' (ms' ++ R) H' → Rep K F' d v → Q F' ms' d → Qc v H') → r u vs H Qc
structure AEnds where
  nx : QS
  rt : QE
  bk : QS := fun _ _ _ => False
  ct : QS := fun _ _ _ => False
structure Le (Γ : Cg) (R : Ms) (F : Hp) (A : AEnds) (E : Ends) : Prop where
  xe : XLe Γ R F
  nx : ∀ F' ms' S' σ' H', Ex F F' → SRep Γ.K F' S' σ' → Hold Γ.K F' (ms' ++ R) H' → A.nx F' ms' S' → E.nx σ' H'
  rt : ∀ F' ms' d v H', Ex F F' → Hold Γ.K F' (ms' ++ R) H' → Rep Γ.K F' d v → A.rt F' ms' d → E.rt v H'
  bk : ∀ F' ms' S' σ' H', Ex F F' → SRep Γ.K F' S' σ' → Hold Γ.K F' (ms' ++ R) H' → A.bk F' ms' S' → E.bk σ' H'
  ct : ∀ F' ms' S' σ' H', Ex F F' → SRep Γ.K F' S' σ' → Hold Γ.K F' (ms' ++ R) H' → A.ct F' ms' S' → E.ct σ' H'
def AS (Γ : Cg) (ts : TS) (F : Hp) (ms : Ms) (S : Sg) (A : AEnds) : Prop := ∀ (R : Ms) (E : Ends) σ H, SRep Γ.K F S σ → Hold Γ.K F (ms ++ R) H → Le Γ R F A E → ts E σ H
theorem Le.ex {Γ : Cg} {R : Ms} {F F' : Hp} {A : AEnds} {E : Ends} (l : Le Γ R F A E) (e : Ex F F') : Le Γ R F' A E :=
  ⟨l.xe.ex e, fun F'' ms' S' σ' H' x => l.nx F'' ms' S' σ' H' (e.trans x), fun F'' ms' d v H' x => l.rt F'' ms' d v H' (e.trans x), fun F'' ms' S' σ' H' x => l.bk F'' ms' S' σ' H' (e.trans x), fun F'' ms' S' σ' H' x => l.ct F'' ms' S' σ' H' (e.trans x)⟩

section
variable {Γ : Cg} {K : Frg} {F : Hp} {ms : Ms} {S : Sg} {Q : QE} {ta tb te tx : TE} {t u : TT} {r : R2}
/-! ### expressions -/
theorem ae_var {i : Nat} {d : D} (h : S[i]? = some (some d)) (q : Q F ms d) : AE Γ (tVar i) F ms S Q := fun R σ H Qc hs hh x k => by
  obtain ⟨v, h1, h2⟩ := hs.2 i d h
  exact ⟨v, h1, k F ms d v H Ex.refl hh h2 q⟩
theorem ae_int {i : Int} (q : Q F ms (.int i)) : AE Γ (tC (.int i)) F ms S Q := fun R σ H Qc hs hh x k => k F ms _ _ H Ex.refl hh (.int i) q
theorem ae_bl {i : Bool} (q : Q F ms (.bl i)) : AE Γ (tC (.bl i)) F ms S Q := fun R σ H Qc hs hh x k => k F ms _ _ H Ex.refl hh (.bl i) q
theorem ae_str {i : Str} (q : Q F ms (.str i)) : AE Γ (tC (.str i)) F ms S Q := fun R σ H Qc hs hh x k => k F ms _ _ H Ex.refl hh (.str i) q
theorem ae_non (q : Q F ms .non) : AE Γ (tC .non) F ms S Q := fun R σ H Qc hs hh x k => k F ms _ _ H Ex.refl hh .non q
theorem ae_ty {n : String} (q : Q F ms (.ty n)) : AE Γ (tC (.ty n)) F ms S Q := fun R σ H Qc hs hh x k => k F ms _ _ H Ex.refl hh (.ty n) q
theorem ae_ref {a : Addr} (q : Q F ms (.ref a)) : AE Γ (tC (.ref a)) F ms S Q := fun R σ H Qc hs hh x k => k F ms _ _ H Ex.refl hh (.ref a) q
theorem AE.mono {Q' : QE} (h : AE Γ te F ms S Q) (m : ∀ F' ms' d, Ex F F' → Q F' ms' d → Q' F' ms' d) : AE Γ te F ms S Q' := fun R σ H Qc hs hh x k => h R σ H Qc hs hh x fun F' ms' d v H' e ho hr q => k F' ms' d v H' e ho hr (m F' ms' d e q)
theorem AS.mono {ts : TS} {A A' : AEnds} (h : AS Γ ts F ms S A) (m1 : ∀ F' ms' S', Ex F F' → A.nx F' ms' S' → A'.nx F' ms' S') (m2 : ∀ F' ms' d, Ex F F' → A.rt F' ms' d → A'.rt F' ms' d)
    (m3 : ∀ F' ms' S', Ex F F' → A.bk F' ms' S' → A'.bk F' ms' S') (m4 : ∀ F' ms' S', Ex F F' → A.ct F' ms' S' → A'.ct F' ms' S') : AS Γ ts F ms S A' := fun R E σ H hs hh l =>
  h R E σ H hs hh ⟨l.xe, fun F' ms' S' σ' H' e a b q => l.nx F' ms' S' σ' H' e a b (m1 _ _ _ e q), fun F' ms' d v H' e a b q => l.rt F' ms' d v H' e a b (m2 _ _ _ e q), fun F' ms' S' σ' H' e a b q => l.bk F' ms' S' σ' H' e a b (m3 _ _ _ e q), fun F' ms' S' σ' H' e a b q => l.ct F' ms' S' σ' H' e a b (m4 _ _ _ e q)⟩
theorem ae_op (h : AE Γ ta F ms S fun F1 ms1 x => AE Γ tb F1 ms1 S fun F2 ms2 y => AR Γ.K r x y F2 ms2 Q) : AE Γ (tOp r ta tb) F ms S Q := fun R σ H Qc hs hh x k =>
  h R σ H _ hs hh x fun F1 ms1 x1 v1 H1 e1 h1 r1 q1 => q1 R σ H1 _ (hs.mono e1) h1 (x.ex e1) fun F2 ms2 y v2 H2 e2 h2 r2 q2 => q2 R v1 v2 H2 Qc (r1.mono e2) r2 h2 fun F3 ms3 d v3 H3 e3 h3 r3 q3 => k F3 ms3 d v3 H3 ((e1.trans e2).trans e3) h3 r3 q3
theorem ae_un {r1 : V → Hp → VK → Prop} (h : AE Γ ta F ms S fun F1 ms1 x => ∀ (R : Ms) u H (Qc : VK), Rep Γ.K F1 x u → Hold Γ.K F1 (ms1 ++ R) H → (∀ F' ms' d v H', Ex F1 F' → Hold Γ.K F' (ms' ++ R) H' → Rep Γ.K F' d v → Q F' ms' d → Qc v H') → r1 u H Qc) : AE Γ (tUn r1 ta) F ms S Q := fun R σ H Qc hs hh x k =>
  h R σ H _ hs hh x fun F1 ms1 x1 v1 H1 e1 h1 r1 q1 => q1 R v1 H1 Qc r1 h1 fun F3 ms3 d v3 H3 e3 h3 r3 q3 => k F3 ms3 d v3 H3 (e1.trans e3) h3 r3 q3
theorem ae_neg {f : Int → V} {g : Int → Int} (hf : ∀ i, f i = .int (g i)) (h : AE Γ ta F ms S fun F1 ms1 x => ∃ i, x = .int i ∧ Q F1 ms1 (.int (g i))) : AE Γ (tUn (rU f) ta) F ms S Q := ae_un (AE.mono h fun F1 ms1 x e ⟨i, hx, q⟩ R u H Qc hr hh k => by
  subst hx
  cases hr
  refine ⟨i, rfl, ?_⟩
  rw [hf]
  exact k F1 ms1 _ _ H Ex.refl hh (.int _) q)
theorem aa_nil {Q : Hp → Ms → List D → Prop} (q : Q F ms []) : AA Γ tNil F ms S Q := fun R σ H Qc hs hh x k => k F ms [] [] H Ex.refl hh .nil q
theorem aa_cons {tr : TA} {Q : Hp → Ms → List D → Prop} (h : AE Γ te F ms S fun F1 ms1 x => AA Γ tr F1 ms1 S fun F2 ms2 xs => Q F2 ms2 (x :: xs)) : AA Γ (tCons te tr) F ms S Q := fun R σ H Qc hs hh x k =>
  h R σ H _ hs hh x fun F1 ms1 x1 v1 H1 e1 h1 r1 q1 => q1 R σ H1 _ (hs.mono e1) h1 (x.ex e1) fun F2 ms2 xs vs H2 e2 h2 r2 q2 => k F2 ms2 (x1 :: xs) (v1 :: vs) H2 (e1.trans e2) h2 (.cons (r1.mono e2) r2) q2
theorem ae_tup {ta : TA} (h : AA Γ ta F ms S fun F1 ms1 xs => xs.length ≤ 100000 ∧ ∀ F2, Ex F1 F2 → Q F2 ms1 (.tup xs)) : AE Γ (tTup ta) F ms S Q := fun R σ H Qc hs hh x k =>
  h R σ H _ hs hh x fun F1 ms1 xs vs H1 e1 h1 r1 q1 => ⟨Evl.sz_of (by rw [← r1.len]; exact q1.1), fun p hp => by
    obtain ⟨e2, h2⟩ := h1.laid (.tup vs) hp
    exact k _ ms1 (.tup xs) _ _ (e1.trans e2) h2 (.tup (SqT.of upd_same) (r1.mono e2)) (q1.2 _ e2)⟩
/-- a displayed list, frozen -/
theorem ae_lstF {ta : TA} (h : AA Γ ta F ms S fun F1 ms1 xs => xs.length ≤ 100000 ∧ ∀ F2, Ex F1 F2 → Q F2 ms1 (.lst xs)) : AE Γ (tLst ta) F ms S Q := fun R σ H Qc hs hh x k =>
  h R σ H _ hs hh x fun F1 ms1 xs vs H1 e1 h1 r1 q1 => ⟨Evl.sz_of (by rw [← r1.len]; exact q1.1), fun p hp => by
    obtain ⟨e2, h2⟩ := h1.laid (.lst vs) hp
    exact k _ ms1 (.lst xs) _ _ (e1.trans e2) h2 (.lst upd_same (r1.mono e2)) (q1.2 _ e2)⟩
/-- a displayed list, owned -/
theorem ae_lstO {ta : TA} (h : AA Γ ta F ms S fun F1 ms1 xs => xs.length ≤ 100000 ∧ ∀ l, Q F1 ((l, .lst xs) :: ms1) (.ref l)) : AE Γ (tLst ta) F ms S Q := fun R σ H Qc hs hh x k =>
  h R σ H _ hs hh x fun F1 ms1 xs vs H1 e1 h1 r1 q1 => ⟨Evl.sz_of (by rw [← r1.len]; exact q1.1), fun p hp =>
    k _ _ (.ref p) _ _ e1 (h1.made (m := .lst xs) hp ⟨vs, upd_same, r1⟩) (.ref p) (q1.2 p)⟩
theorem ae_dnewO (h : ∀ l, Q F ((l, .dic []) :: ms) (.ref l)) : AE Γ tDNewK F ms S Q := fun R σ H Qc hs hh x k p hp => k _ _ (.ref p) _ _ Ex.refl (hh.made (m := .dic []) hp ⟨[], upd_same, .nil⟩) (.ref p) (h p)
theorem ae_call1 {rc : List V → Hp → VK → Prop} {ta : TA} (h : AA Γ ta F ms S fun F1 ms1 xs => AC Γ.K rc xs F1 ms1 Q) : AE Γ (tCB rc ta) F ms S Q := fun R σ H Qc hs hh x k =>
  h R σ H _ hs hh x fun F1 ms1 xs vs H1 e1 h1 r1 q1 => q1 R vs H1 Qc r1 h1 fun F2 ms2 d v H2 e2 h2 r2 q2 => k F2 ms2 d v H2 (e1.trans e2) h2 r2 q2
theorem ae_if (h : AT Γ t F ms S fun F1 ms1 b => (b = true → AE Γ ta F1 ms1 S Q) ∧ (b = false → AE Γ tb F1 ms1 S Q)) : AE Γ (tIf t ta tb) F ms S Q := fun R σ H Qc hs hh x k =>
  h R σ H _ hs hh x fun F1 ms1 b H1 e1 h1 q1 => by
    cases b with
    | true => exact q1.1 rfl R σ H1 Qc (hs.mono e1) h1 (x.ex e1) fun F2 ms2 d v H2 e2 h2 r2 q2 => k F2 ms2 d v H2 (e1.trans e2) h2 r2 q2
    | false => exact q1.2 rfl R σ H1 Qc (hs.mono e1) h1 (x.ex e1) fun F2 ms2 d v H2 e2 h2 r2 q2 => k F2 ms2 d v H2 (e1.trans e2) h2 r2 q2
theorem ae_andV (h : AE Γ ta F ms S fun F1 ms1 x => ∃ b, x = .bl b ∧ (b = true → AE Γ tb F1 ms1 S Q) ∧ (b = false → Q F1 ms1 (.bl false))) : AE Γ (tAndV ta tb) F ms S Q := fun R σ H Qc hs hh x k =>
  h R σ H _ hs hh x fun F1 ms1 x1 v1 H1 e1 h1 r1 ⟨b, hx, p1, p2⟩ => by
    subst hx
    cases r1
    refine ⟨b, rfl, ?_⟩
    cases b with
    | true => exact p1 rfl R σ H1 Qc (hs.mono e1) h1 (x.ex e1) fun F2 ms2 d v H2 e2 h2 r2 q2 => k F2 ms2 d v H2 (e1.trans e2) h2 r2 q2
    | false => exact k F1 ms1 _ _ H1 e1 h1 (.bl false) (p2 rfl)
theorem ae_orV (h : AE Γ ta F ms S fun F1 ms1 x => ∃ b, x = .bl b ∧ (b = false → AE Γ tb F1 ms1 S Q) ∧ (b = true → Q F1 ms1 (.bl true))) : AE Γ (tOrV ta tb) F ms S Q := fun R σ H Qc hs hh x k =>
  h R σ H _ hs hh x fun F1 ms1 x1 v1 H1 e1 h1 r1 ⟨b, hx, p1, p2⟩ => by
    subst hx
    cases r1
    refine ⟨b, rfl, ?_⟩
    cases b with
    | false => exact p1 rfl R σ H1 Qc (hs.mono e1) h1 (x.ex e1) fun F2 ms2 d v H2 e2 h2 r2 q2 => k F2 ms2 d v H2 (e1.trans e2) h2 r2 q2
    | true => exact k F1 ms1 _ _ H1 e1 h1 (.bl true) (p2 rfl)
theorem ae_notV (h : AE Γ ta F ms S fun F1 ms1 x => ∃ b, x = .bl b ∧ Q F1 ms1 (.bl (!b))) : AE Γ (tNotV ta) F ms S Q := fun R σ H Qc hs hh x k =>
  h R σ H _ hs hh x fun F1 ms1 x1 v1 H1 e1 h1 r1 ⟨b, hx, p1⟩ => by
    subst hx
    cases r1
    exact ⟨b, rfl, k F1 ms1 _ _ H1 e1 h1 (.bl _) p1⟩
/-! ### tests -/
variable {QT : Hp → Ms → Bool → Prop}
theorem at_test (h : AE Γ ta F ms S fun F1 ms1 x => ∃ b, x = .bl b ∧ QT F1 ms1 b) : AT Γ (tTest ta) F ms S QT := fun R σ H Qc hs hh x k =>
  h R σ H _ hs hh x fun F1 ms1 x1 v1 H1 e1 h1 r1 ⟨b, hx, p1⟩ => by
    subst hx
    cases r1
    exact ⟨b, rfl, k F1 ms1 b H1 e1 h1 p1⟩
theorem at_B (h : AE Γ ta F ms S fun F1 ms1 x => ∃ b, x = .bl b ∧ QT F1 ms1 b) : AT Γ (tB ta) F ms S QT := fun R σ H Qc hs hh x k =>
  h R σ H _ hs hh x fun F1 ms1 x1 v1 H1 e1 h1 r1 ⟨b, hx, p1⟩ => by
    subst hx
    cases r1
    exact ⟨b, rfl, k F1 ms1 b H1 e1 h1 p1⟩
theorem at_and (h : AT Γ t F ms S fun F1 ms1 b => (b = true → AT Γ u F1 ms1 S QT) ∧ (b = false → QT F1 ms1 false)) : AT Γ (tAnd t u) F ms S QT := fun R σ H Qc hs hh x k =>
  h R σ H _ hs hh x fun F1 ms1 b H1 e1 h1 q1 => by
    cases b with
    | true => exact q1.1 rfl R σ H1 Qc (hs.mono e1) h1 (x.ex e1) fun F2 ms2 d H2 e2 h2 q2 => k F2 ms2 d H2 (e1.trans e2) h2 q2
    | false => exact k F1 ms1 _ H1 e1 h1 (q1.2 rfl)
theorem at_or (h : AT Γ t F ms S fun F1 ms1 b => (b = false → AT Γ u F1 ms1 S QT) ∧ (b = true → QT F1 ms1 true)) : AT Γ (tOr t u) F ms S QT := fun R σ H Qc hs hh x k =>
  h R σ H _ hs hh x fun F1 ms1 b H1 e1 h1 q1 => by
    cases b with
    | false => exact q1.1 rfl R σ H1 Qc (hs.mono e1) h1 (x.ex e1) fun F2 ms2 d H2 e2 h2 q2 => k F2 ms2 d H2 (e1.trans e2) h2 q2
    | true => exact k F1 ms1 _ H1 e1 h1 (q1.2 rfl)
theorem at_not (h : AT Γ t F ms S fun F1 ms1 b => QT F1 ms1 (!b)) : AT Γ (tNot t) F ms S QT := fun R σ H Qc hs hh x k =>
  h R σ H _ hs hh x fun F1 ms1 b H1 e1 h1 q1 => k F1 ms1 _ H1 e1 h1 q1
theorem at_yes (q : QT F ms true) : AT Γ tYes F ms S QT := fun R σ H Qc hs hh x k => k F ms true H Ex.refl hh q
theorem AT.mono {Q' : Hp → Ms → Bool → Prop} (h : AT Γ t F ms S QT) (m : ∀ F' ms' d, Ex F F' → QT F' ms' d → Q' F' ms' d) : AT Γ t F ms S Q' := fun R σ H Qc hs hh x k => h R σ H Qc hs hh x fun F' ms' d H' e ho q => k F' ms' d H' e ho (m F' ms' d e q)

/-! ### operators -/
theorem ar_I0 {g : Int → Int → V} {f : Int → Int → D} (hg : ∀ F i j, Rep K F (f i j) (g i j)) {i j : Int} (q : Q F ms (f i j)) : AR K (rI0 g) (.int i) (.int j) F ms Q := fun R u v H Qc hu hv hh k => by
  cases hu; cases hv
  exact ⟨i, j, rfl, rfl, k F ms _ _ H Ex.refl hh (hg F i j) q⟩
theorem ar_I {C : Int → Int → Prop} {g : Int → Int → V} {f : Int → Int → D} (hg : ∀ F i j, Rep K F (f i j) (g i j)) {i j : Int} (c : C i j) (q : Q F ms (f i j)) : AR K (rI C g) (.int i) (.int j) F ms Q := fun R u v H Qc hu hv hh k => by
  cases hu; cases hv
  exact ⟨i, j, rfl, rfl, c, k F ms _ _ H Ex.refl hh (hg F i j) q⟩
theorem ar_addI {i j : Int} (q : Q F ms (.int (i + j))) : AR K (rI0 fun i j => .int (i + j)) (.int i) (.int j) F ms Q := ar_I0 (f := fun i j => .int (i + j)) (fun _ _ _ => .int _) q
theorem ar_subI {i j : Int} (q : Q F ms (.int (i - j))) : AR K (rI0 fun i j => .int (i - j)) (.int i) (.int j) F ms Q := ar_I0 (f := fun i j => .int (i - j)) (fun _ _ _ => .int _) q
theorem ar_mulI {i j : Int} (c : CMul i j) (q : Q F ms (.int (i * j))) : AR K (rI CMul fun i j => .int (i * j)) (.int i) (.int j) F ms Q := ar_I (f := fun i j => .int (i * j)) (fun _ _ _ => .int _) c q
theorem ar_modI {i j : Int} (c : 0 < j) (q : Q F ms (.int (i % j))) : AR K (rI (fun _ j => 0 < j) fun i j => .int (i % j)) (.int i) (.int j) F ms Q := ar_I (f := fun i j => .int (i % j)) (fun _ _ _ => .int _) c q
theorem ar_divI {i j : Int} (c : CDiv i j) (q : Q F ms (.int (i / j))) : AR K (rI CDiv fun i j => .int (i / j)) (.int i) (.int j) F ms Q := ar_I (f := fun i j => .int (i / j)) (fun _ _ _ => .int _) c q
theorem ar_powI {i j : Int} (c : CPow i j) (q : Q F ms (.int (i ^ j.toNat))) : AR K (rI CPow fun i j => .int (i ^ j.toNat)) (.int i) (.int j) F ms Q := ar_I (f := fun i j => .int (i ^ j.toNat)) (fun _ _ _ => .int _) c q
theorem ar_ltI {i j : Int} (q : Q F ms (.bl (decide (i < j)))) : AR K (rI0 fun i j => .bl (decide (i < j))) (.int i) (.int j) F ms Q := ar_I0 (f := fun i j => .bl (decide (i < j))) (fun _ _ _ => .bl _) q
theorem ar_leI {i j : Int} (q : Q F ms (.bl (decide (i ≤ j)))) : AR K (rI0 fun i j => .bl (decide (i ≤ j))) (.int i) (.int j) F ms Q := ar_I0 (f := fun i j => .bl (decide (i ≤ j))) (fun _ _ _ => .bl _) q
theorem ar_gtI {i j : Int} (q : Q F ms (.bl (decide (j < i)))) : AR K (rI0 fun i j => .bl (decide (j < i))) (.int i) (.int j) F ms Q := ar_I0 (f := fun i j => .bl (decide (j < i))) (fun _ _ _ => .bl _) q
theorem ar_geI {i j : Int} (q : Q F ms (.bl (decide (j ≤ i)))) : AR K (rI0 fun i j => .bl (decide (j ≤ i))) (.int i) (.int j) F ms Q := ar_I0 (f := fun i j => .bl (decide (j ≤ i))) (fun _ _ _ => .bl _) q
theorem ar_eqI {i j : Int} (q : Q F ms (.bl (decide (i = j)))) : AR K rEq (.int i) (.int j) F ms Q := fun R u v H Qc hu hv hh k => by
  cases hu; cases hv
  refine ⟨rfl, k F ms (.bl (decide (i = j))) _ H Ex.refl hh ?_ q⟩
  have e : decide (V.int i = V.int j) = decide (i = j) := by rw [dec_int]; by_cases z : i = j <;> simp [z]
  rw [e]
  exact .bl _
theorem ar_eqS {i j : Str} (q : Q F ms (.bl (decide (i = j)))) : AR K rEq (.str i) (.str j) F ms Q := fun R u v H Qc hu hv hh k => by
  cases hu; cases hv
  refine ⟨rfl, k F ms (.bl (decide (i = j))) _ H Ex.refl hh ?_ q⟩
  have e : decide (V.str i = V.str j) = decide (i = j) := by by_cases z : i = j <;> simp [z]
  rw [e]
  exact .bl _
theorem ar_eqB {i j : Bool} (q : Q F ms (.bl (decide (i = j)))) : AR K rEq (.bl i) (.bl j) F ms Q := fun R u v H Qc hu hv hh k => by
  cases hu; cases hv
  refine ⟨rfl, k F ms (.bl (decide (i = j))) _ H Ex.refl hh ?_ q⟩
  have e : decide (V.bl i = V.bl j) = decide (i = j) := by by_cases z : i = j <;> simp [z]
  rw [e]
  exact .bl _
theorem ar_neI {i j : Int} (q : Q F ms (.bl (!decide (i = j)))) : AR K rNe (.int i) (.int j) F ms Q := fun R u v H Qc hu hv hh k => by
  cases hu; cases hv
  refine ⟨rfl, k F ms (.bl (!decide (i = j))) _ H Ex.refl hh ?_ q⟩
  have e : decide (V.int i = V.int j) = decide (i = j) := by rw [dec_int]; by_cases z : i = j <;> simp [z]
  rw [e]
  exact .bl _
theorem ar_neS {i j : Str} (q : Q F ms (.bl (!decide (i = j)))) : AR K rNe (.str i) (.str j) F ms Q := fun R u v H Qc hu hv hh k => by
  cases hu; cases hv
  refine ⟨rfl, k F ms (.bl (!decide (i = j))) _ H Ex.refl hh ?_ q⟩
  have e : decide (V.str i = V.str j) = decide (i = j) := by by_cases z : i = j <;> simp [z]
  rw [e]
  exact .bl _
end
end AL

set_option Elab.async false
set_option linter.all false
set_option maxRecDepth 100000
set_option maxHeartbeats 4000000
namespace AL
open PySem L2
section
variable {K : Frg} {F : Hp} {ms : Ms} {S : Sg} {Q : QE} {ta tb te tx : TE} {t u : TT} {r : R2}
/-! ### operators by the kinds of their data: one rule a sign -/
theorem ar_inl {r r' : R2} {x y : D} (h : AR K r x y F ms Q) : AR K (fun x y H Q => r x y H Q ∨ r' x y H Q) x y F ms Q := fun R u v H Qc hu hv hh k => .inl (h R u v H Qc hu hv hh k)
theorem ar_inr {r r' : R2} {x y : D} (h : AR K r' x y F ms Q) : AR K (fun x y H Q => r x y H Q ∨ r' x y H Q) x y F ms Q := fun R u v H Qc hu hv hh k => .inr (h R u v H Qc hu hv hh k)
def rAddS' : R2 := fun x y H Q => ∃ i j, x = .str i ∧ y = .str j ∧ i.length + j.length ≤ sizeLine ∧ Q (.str (i ++ j)) H
/-- + -/
def rADD (K : Frg) : R2 := fun x y H Q => (rI0 fun i j => .int (i + j)) x y H Q ∨ (rAddS' x y H Q ∨ (rCat x y H Q ∨ rCatA K x y H Q))
theorem op_ADD {X : Cx} : OpR X (binaryOp .Add) (rADD X.K) := op_add.or (op_add_str.or (op_cat.or op_catA))
theorem ar_ADDi {i j : Int} (q : Q F ms (.int (i + j))) : AR K (rADD K) (.int i) (.int j) F ms Q := ar_inl (ar_addI q)
theorem ar_ADDs {i j : Str} (h : i.length + j.length ≤ 100000) (q : Q F ms (.str (i ++ j))) : AR K (rADD K) (.str i) (.str j) F ms Q := ar_inr (ar_inl fun R u v H Qc hu hv hh k => by
  cases hu; cases hv
  exact ⟨i, j, rfl, rfl, Evl.sz_of h, k F ms _ _ H Ex.refl hh (.str _) q⟩)
/-- two frozen lists: a new frozen one -/
theorem ar_ADDl {xs ys : List D} (h : xs.length + ys.length ≤ 100000) (q : ∀ F', Ex F F' → Q F' ms (.lst (xs ++ ys))) : AR K (rADD K) (.lst xs) (.lst ys) F ms Q := ar_inr (ar_inr (ar_inl fun R u v H Qc hu hv hh k => by
  cases hu with
  | lst h1 r1 =>
    cases hv with
    | lst h2 r2 =>
      refine ⟨_, _, _, _, rfl, rfl, hh.ex _ _ h1, hh.ex _ _ h2, Evl.sz_of (by rw [← r1.len, ← r2.len]; exact h), fun p hp => ?_⟩
      obtain ⟨e, hh'⟩ := hh.laid (.lst _) hp
      exact k _ ms _ _ _ e hh' (.lst upd_same ((r1.append r2).mono e)) (q _ e)))
/-- .. a new owned one -/
theorem ar_ADDlo {xs ys : List D} (h : xs.length + ys.length ≤ 100000) (q : ∀ l, Q F ((l, .lst (xs ++ ys)) :: ms) (.ref l)) : AR K (rADD K) (.lst xs) (.lst ys) F ms Q := ar_inr (ar_inr (ar_inl fun R u v H Qc hu hv hh k => by
  cases hu with
  | lst h1 r1 =>
    cases hv with
    | lst h2 r2 =>
      refine ⟨_, _, _, _, rfl, rfl, hh.ex _ _ h1, hh.ex _ _ h2, Evl.sz_of (by rw [← r1.len, ← r2.len]; exact h), fun p hp => ?_⟩
      exact k F ((p, .lst (xs ++ ys)) :: ms) (.ref p) _ _ Ex.refl (hh.made (m := .lst (xs ++ ys)) hp ⟨_, upd_same, r1.append r2⟩) (.ref p) (q p)))
theorem ar_ADDt {xs ys : List D} (h : xs.length + ys.length ≤ 100000) (q : ∀ F', Ex F F' → Q F' ms (.tup (xs ++ ys))) : AR K (rADD K) (.tup xs) (.tup ys) F ms Q := ar_inr (ar_inr (ar_inr fun R u v H Qc hu hv hh k => by
  cases hu with
  | tup h1 r1 =>
    cases hv with
    | tup h2 r2 =>
      refine ⟨_, _, _, _, rfl, rfl, ex_t hh.ex h1, ex_t hh.ex h2, Evl.sz_of (by rw [← r1.len, ← r2.len]; exact h), fun e => ?_, fun _ e => ?_, fun _ _ p hp => ?_⟩
      · subst e
        cases r1
        exact k F ms (.tup ys) _ H Ex.refl hh (.tup h2 r2) (q F Ex.refl)
      · subst e
        cases r2
        have q' := q F Ex.refl
        rw [List.append_nil] at q'
        exact k F ms (.tup xs) _ H Ex.refl hh (.tup h1 r1) q'
      · obtain ⟨e, hh'⟩ := hh.laid (.tup _) hp
        exact k _ ms _ _ _ e hh' (.tup (SqT.of upd_same) ((r1.append r2).mono e)) (q _ e)))
theorem ar_SUB {i j : Int} (q : Q F ms (.int (i - j))) : AR K (rI0 fun i j => .int (i - j)) (.int i) (.int j) F ms Q := ar_subI q
/-- text * int -/
def mulS (z : Str) (n : Int) : Str := ⟨(List.replicate n.toNat z.cps.toList).flatten.toArray⟩
def rRepS : R2 := fun x y H Q => ∃ z n, x = .str z ∧ y = .int n ∧ n ≤ 100000 ∧ -100000 ≤ n ∧ z.length * n.toNat ≤ 100000 ∧ Q (.str (mulS z n)) H
theorem foldl_rep (a : Array Nat) : ∀ (n : Nat) (b : Array Nat), (List.replicate n a).foldl (· ++ ·) b = b ++ (List.replicate n a.toList).flatten.toArray
  | 0, b => by simp
  | n + 1, b => by
    rw [List.replicate_succ, List.foldl_cons, foldl_rep a n, List.replicate_succ, List.flatten_cons]
    apply Array.ext'
    simp [Array.append_assoc]
theorem len_flat {α : Type} (l : List α) : ∀ n : Nat, (List.replicate n l).flatten.length = l.length * n
  | 0 => by simp
  | n + 1 => by
    rw [List.replicate_succ, List.flatten_cons, List.length_append, len_flat l n, Nat.mul_succ, Nat.add_comm]
theorem op_repS {X : Cx} : OpR X (binaryOp .Mult) rRepS := by
  intro pins s σ H x y v u Q I rx ry h
  obtain ⟨z, n, rfl, rfl, h1, h2, h3, q⟩ := h
  obtain ⟨t, rfl⟩ := rx
  obtain ⟨t', rfl⟩ := ry
  have hz : z.length * n.toNat ≤ sizeLine := Evl.sz_of h3
  refine PySem.P.mul_str ?_ (fun a b => ?_) (fun a b => ?_) ?_
  · have e1 : decide (n < -(2 ^ 63 : Int)) = false := decide_eq_false (by omega)
    have e2 : decide (n ≥ (2 ^ 63 : Int)) = false := decide_eq_false (by omega)
    rw [e1, e2]; rfl
  · have hn : 0 < n := by omega
    have hb : (z.length : Int) ≤ 100000 := by
      have : z.length * 1 ≤ z.length * n.toNat := Nat.mul_le_mul_left _ (by omega)
      omega
    have : (2 ^ 63 - 1 : Int) / n ≥ (2 ^ 63 - 1) / 100000 := by
      apply (Int.le_ediv_iff_mul_le hn).mpr
      have h5 : (2 ^ 63 - 1 : Int) / 100000 = 92233720368547 := by decide
      rw [h5]
      omega
    have h6 : (2 ^ 63 - 1 : Int) / 100000 = 92233720368547 := by decide
    rw [h6] at this
    omega
  · exact decide_eq_false (by omega)
  · have fin : ∀ (w : Str) (tk : Tok) (s' : Shared), w = mulS z n → Inv X pins σ H s' → EP X pins σ Q (.str w tk) s' := fun w tk s' e I' => ⟨.str w, H, I', ⟨tk, rfl⟩, by rw [e]; exact q⟩
    by_cases hn : n < 1
    · rw [if_pos hn]
      refine ⟨by decide, fin _ _ _ ?_ (I.tok _)⟩
      have e : n.toNat = 0 := by omega
      unfold mulS
      rw [e]; rfl
    · rw [if_neg hn]
      by_cases hc : (n == 1 || z.length == 0) = true
      · rw [if_pos hc]
        refine fin _ _ _ ?_ I
        unfold mulS
        rcases Bool.or_eq_true _ _ ▸ hc with h5 | h5
        · have e : n = 1 := by simpa using h5
          subst e
          show z = ⟨(List.replicate 1 z.cps.toList).flatten.toArray⟩
          simp [List.replicate_succ]
        · have e : z.cps = #[] := by
            have h6 : z.cps.size = 0 := by
              have h7 : z.length = 0 := by simpa using h5
              exact h7
            exact Array.eq_empty_of_size_eq_zero h6
          obtain ⟨c⟩ := z
          have e : c = #[] := e
          subst e
          simp
      · rw [if_neg hc]
        have e : (⟨(List.replicate n.toNat z.cps).foldl (· ++ ·) #[]⟩ : Str) = mulS z n := by
          unfold mulS
          rw [foldl_rep]
          simp
        have hl : (mulS z n).length ≤ sizeLine := by
          show (List.replicate n.toNat z.cps.toList).flatten.toArray.size ≤ sizeLine
          rw [List.size_toArray, len_flat]
          have : z.cps.toList.length = z.length := by simp [Str.length]
          rw [this]
          exact hz
        rw [e]
        exact ⟨hl, fin _ _ _ rfl (I.tok _)⟩
/-- * -/
def rMUL (K : Frg) : R2 := fun x y H Q => (rI CMul fun i j => .int (i * j)) x y H Q ∨ (rRepS x y H Q ∨ rRep x y H Q)
theorem op_MUL {X : Cx} : OpR X (binaryOp .Mult) (rMUL X.K) := op_mul.or (op_repS.or op_rep)
theorem ar_MULi {i j : Int} (c : CMul i j) (q : Q F ms (.int (i * j))) : AR K (rMUL K) (.int i) (.int j) F ms Q := ar_inl (ar_mulI c q)
theorem ar_MULs {z : Str} {n : Int} (h1 : n ≤ 100000) (h2 : -100000 ≤ n) (h3 : z.length * n.toNat ≤ 100000) (q : Q F ms (.str (mulS z n))) : AR K (rMUL K) (.str z) (.int n) F ms Q := ar_inr (ar_inl fun R u v H Qc hu hv hh k => by
  cases hu; cases hv
  exact ⟨z, n, rfl, rfl, h1, h2, h3, k F ms _ _ H Ex.refl hh (.str _) q⟩)
theorem repL_rep {xs : List D} {vs : List V} (r : RepL K F xs vs) : ∀ n : Nat, RepL K F (List.replicate n xs).flatten (List.replicate n vs).flatten
  | 0 => .nil
  | n + 1 => by
    rw [List.replicate_succ, List.replicate_succ, List.flatten_cons, List.flatten_cons]
    exact r.append (repL_rep r n)
theorem ar_MULl {xs : List D} {n : Int} (h1 : n ≤ 100000) (h2 : -100000 ≤ n) (h3 : xs.length * n.toNat ≤ 100000) (q : ∀ F', Ex F F' → Q F' ms (.lst (List.replicate n.toNat xs).flatten)) : AR K (rMUL K) (.lst xs) (.int n) F ms Q := ar_inr (ar_inr fun R u v H Qc hu hv hh k => by
  cases hv
  cases hu with
  | lst ha r1 =>
    refine ⟨_, n, _, rfl, rfl, hh.ex _ _ ha, by omega, by omega, Evl.sz_of (by rw [← r1.len]; exact h3), fun p hp => ?_⟩
    obtain ⟨e, hh'⟩ := hh.laid (.lst _) hp
    exact k _ ms _ _ _ e hh' (.lst upd_same ((repL_rep r1 _).mono e)) (q _ e))

/-! ### an item -/
theorem at_rep {ds : List D} {vs : List V} {i : Int} {d : D} (r : RepL K F ds vs) (h : atI ds i = some d) : ∃ v, atI vs i = some v ∧ Rep K F d v := by
  unfold atI at h ⊢
  rw [← r.len]
  cases e : ixN ds.length i with
  | none => rw [e] at h; cases h
  | some j => rw [e] at h; exact r.getD h
theorem ar_ixL {ds : List D} {i : Int} {d : D} (h : atI ds i = some d) (q : Q F ms d) : AR K (rIx K) (.lst ds) (.int i) F ms Q := fun R u v H Qc hu hv hh k => by
  cases hv
  cases hu with
  | lst ha r1 =>
    obtain ⟨w, hw, rw'⟩ := at_rep r1 h
    exact .inl ⟨_, _, i, w, rfl, rfl, SqL.of (hh.ex _ _ ha), hw, k F ms d w H Ex.refl hh rw' q⟩
theorem ar_ixR {ds : List D} {i : Int} {d : D} (h : atI ds i = some d) (q : Q F ms d) : AR K (rIx K) (.rdl ds) (.int i) F ms Q := fun R u v H Qc hu hv hh k => by
  cases hv
  cases hu with
  | rdl ha r1 =>
    obtain ⟨w, hw, rw'⟩ := at_rep r1 h
    exact .inl ⟨_, _, i, w, rfl, rfl, ex_l hh.ex ha, hw, k F ms d w H Ex.refl hh rw' q⟩
theorem get_app {i : Nat} {p : Addr × MO} {R : Ms} (h : ms[i]? = some p) : (ms ++ R)[i]? = some p := by
  rw [List.getElem?_append_left (List.getElem?_eq_some_iff.mp h).1]
  exact h
theorem set_app {i : Nat} {p p' : Addr × MO} {R : Ms} (h : ms[i]? = some p) : (ms ++ R).set i p' = ms.set i p' ++ R := List.set_append_left _ _ (List.getElem?_eq_some_iff.mp h).1
theorem ar_ixO {l : Addr} {ds : List D} {i : Int} {d : D} (n : Nat) (hn : ms[n]? = some (l, .lst ds)) (h : atI ds i = some d) (q : Q F ms d) : AR K (rIx K) (.ref l) (.int i) F ms Q := fun R u v H Qc hu hv hh k => by
  cases hv
  cases hu with
  | ref =>
    obtain ⟨_, vs, hl, r1⟩ := hh.at (get_app hn)
    obtain ⟨w, hw, rw'⟩ := at_rep r1 h
    exact .inl ⟨_, _, i, w, rfl, rfl, SqL.of hl, hw, k F ms d w H Ex.refl hh rw' q⟩
theorem ar_ixT {ds : List D} {i : Int} {d : D} (h : atI ds i = some d) (q : Q F ms d) : AR K (rIx K) (.tup ds) (.int i) F ms Q := fun R u v H Qc hu hv hh k => by
  cases hv
  cases hu with
  | tup ha r1 =>
    obtain ⟨w, hw, rw'⟩ := at_rep r1 h
    exact .inr (.inl ⟨_, _, i, w, rfl, rfl, ex_t hh.ex ha, hw, k F ms d w H Ex.refl hh rw' q⟩)
def sg (c : Nat) : Str := ⟨#[c]⟩
theorem ar_ixS {z : Str} {i : Int} {c : Nat} (hz : z.length ≤ 100000) (h : atI z.cps.toList i = some c) (q : Q F ms (.str (sg c))) : AR K (rIx K) (.str z) (.int i) F ms Q := fun R u v H Qc hu hv hh k => by
  cases hv
  cases hu with
  | str => exact .inr (.inr ⟨z, i, c, rfl, rfl, Evl.sz_of hz, h, k F ms _ _ H Ex.refl hh (.str _) q⟩)

/-! ### calls of built-ins -/
def rLEN (K : Frg) : List V → Hp → VK → Prop := fun xs H Q => ∃ x n, xs = [x] ∧ LenV K x H n ∧ Q (.int n) H
theorem call_LEN {X : Cx} : CallR X (.builtin "len") (rLEN X.K) := call_len
theorem ac1 {rc : List V → Hp → VK → Prop} {d : D} (h : ∀ (R : Ms) v H (Qc : VK), Rep K F d v → Hold K F (ms ++ R) H → (∀ F' ms' d v H', Ex F F' → Hold K F' (ms' ++ R) H' → Rep K F' d v → Q F' ms' d → Qc v H') → rc [v] H Qc) : AC K rc [d] F ms Q := fun R vs H Qc hv hh k => by
  cases hv with
  | cons h1 h2 =>
    cases h2
    exact h R _ H Qc h1 hh k
theorem ac_lenS {z : Str} (hz : z.length ≤ 100000) (q : Q F ms (.int z.length)) : AC K (rLEN K) [.str z] F ms Q := ac1 fun R v H Qc hv hh k => by
  cases hv
  exact ⟨_, z.length, rfl, ⟨Evl.sz_of hz, rfl⟩, k F ms _ _ H Ex.refl hh (.int _) q⟩
theorem ac_lenL {ds : List D} (q : Q F ms (.int ds.length)) : AC K (rLEN K) [.lst ds] F ms Q := ac1 fun R v H Qc hv hh k => by
  cases hv with
  | lst ha r => exact ⟨_, ds.length, rfl, .inl ⟨_, SqL.of (hh.ex _ _ ha), r.len⟩, k F ms _ _ H Ex.refl hh (.int _) q⟩
theorem ac_lenR {ds : List D} (q : Q F ms (.int ds.length)) : AC K (rLEN K) [.rdl ds] F ms Q := ac1 fun R v H Qc hv hh k => by
  cases hv with
  | rdl ha r => exact ⟨_, ds.length, rfl, .inl ⟨_, ex_l hh.ex ha, r.len⟩, k F ms _ _ H Ex.refl hh (.int _) q⟩
theorem ac_lenT {ds : List D} (q : Q F ms (.int ds.length)) : AC K (rLEN K) [.tup ds] F ms Q := ac1 fun R v H Qc hv hh k => by
  cases hv with
  | tup ha r => exact ⟨_, ds.length, rfl, .inr ⟨_, ex_t hh.ex ha, r.len⟩, k F ms _ _ H Ex.refl hh (.int _) q⟩
theorem ac_lenO {l : Addr} {ds : List D} (n : Nat) (hn : ms[n]? = some (l, .lst ds)) (q : Q F ms (.int ds.length)) : AC K (rLEN K) [.ref l] F ms Q := ac1 fun R v H Qc hv hh k => by
  cases hv with
  | ref =>
    obtain ⟨_, vs, hl, r⟩ := hh.at (get_app hn)
    exact ⟨_, ds.length, rfl, .inl ⟨_, SqL.of hl, r.len⟩, k F ms _ _ H Ex.refl hh (.int _) q⟩
end
end AL

set_option Elab.async false
set_option linter.all false
set_option maxRecDepth 100000
set_option maxHeartbeats 4000000
namespace AL
open PySem L2
theorem Hold.perm {K : Frg} {F H : Hp} {ms ms' : Ms} (h : Hold K F ms H) (p : ms'.Perm ms) : Hold K F ms' H :=
  ⟨h.ex, fun q hq => h.own q (p.mem_iff.mp hq), (p.map Prod.fst).nodup_iff.mpr h.nd⟩
section
variable {Γ : Cg} {K : Frg} {F : Hp} {ms : Ms} {S : Sg} {Q : QE} {ta tb te tx : TE} {t u : TT} {r : R2} {ts tu tw : TS} {A : AEnds}
/-! ### statements -/
theorem as_seq (h : AS Γ ts F ms S { A with nx := fun F' ms' S' => AS Γ tu F' ms' S' A }) : AS Γ (tSeq ts tu) F ms S A := fun R E σ H hs hh l =>
  h R { E with nx := tu E } σ H hs hh ⟨l.xe, fun F' ms' S' σ' H' e a b q => q R E σ' H' a b (l.ex e), l.rt, l.bk, l.ct⟩
theorem as_next (q : A.nx F ms S) : AS Γ tNext F ms S A := fun R E σ H hs hh l => l.nx F ms S σ H Ex.refl hs hh q
theorem as_break (q : A.bk F ms S) : AS Γ tBreak F ms S A := fun R E σ H hs hh l => l.bk F ms S σ H Ex.refl hs hh q
theorem as_cont (q : A.ct F ms S) : AS Γ tCont F ms S A := fun R E σ H hs hh l => l.ct F ms S σ H Ex.refl hs hh q
theorem as_drop (h : AE Γ te F ms S fun F' ms' _ => A.nx F' ms' S) : AS Γ (tDrop te) F ms S A := fun R E σ H hs hh l =>
  h R σ H _ hs hh l.xe fun F' ms' d v H' e ho hr q => l.nx F' ms' S σ H' e (hs.mono e) ho q
theorem as_ret (h : AE Γ te F ms S A.rt) : AS Γ (tRet te) F ms S A := fun R E σ H hs hh l => h R σ H _ hs hh l.xe fun F' ms' d v H' e ho hr q => l.rt F' ms' d v H' e ho hr q
theorem as_retN (q : A.rt F ms .non) : AS Γ tRetN F ms S A := fun R E σ H hs hh l => l.rt F ms .non .non H Ex.refl hh .non q
theorem as_if (h : AT Γ t F ms S fun F' ms' b => (b = true → AS Γ tu F' ms' S A) ∧ (b = false → AS Γ tw F' ms' S A)) : AS Γ (tIfS t tu tw) F ms S A := fun R E σ H hs hh l =>
  h R σ H _ hs hh l.xe fun F' ms' b H' e ho q => by
    cases b with
    | true => exact q.1 rfl R E σ H' (hs.mono e) ho (l.ex e)
    | false => exact q.2 rfl R E σ H' (hs.mono e) ho (l.ex e)
/-! ### targets -/
def AG (Γ : Cg) (g : TG) (d : D) (F : Hp) (ms : Ms) (S : Sg) (N : QS) : Prop := ∀ (R : Ms) v σ H (Nc : St → Hp → Prop), Rep Γ.K F d v → SRep Γ.K F S σ → Hold Γ.K F (ms ++ R) H → XLe Γ R F → (∀ F' ms' S' σ' H', Ex F F' → SRep Γ.K F' S' σ' → Hold Γ.K F' (ms' ++ R) H' → N F' ms' S' → Nc σ' H') → g v σ H Nc
def AGs (Γ : Cg) (g : TGs) (ds : List D) (F : Hp) (ms : Ms) (S : Sg) (N : QS) : Prop := ∀ (R : Ms) vs σ H (Nc : St → Hp → Prop), RepL Γ.K F ds vs → SRep Γ.K F S σ → Hold Γ.K F (ms ++ R) H → XLe Γ R F → (∀ F' ms' S' σ' H', Ex F F' → SRep Γ.K F' S' σ' → Hold Γ.K F' (ms' ++ R) H' → N F' ms' S' → Nc σ' H') → g vs σ H Nc
variable {g : TG} {gs : TGs} {N : QS}
theorem ag_name {i : Nat} {d : D} (q : N F ms (S.set i (some d))) : AG Γ (gName i) d F ms S N := fun R v σ H Nc hv hs hh x k => k F ms _ _ H Ex.refl (hs.set hv) hh q
theorem ags_nil (q : N F ms S) : AGs Γ gNil [] F ms S N := fun R vs σ H Nc hv hs hh x k => by
  cases hv
  exact ⟨rfl, k F ms S σ H Ex.refl hs hh q⟩
theorem ags_cons {d : D} {ds : List D} (h : AG Γ g d F ms S fun F' ms' S' => AGs Γ gs ds F' ms' S' N) : AGs Γ (gCons g gs) (d :: ds) F ms S N := fun R vs σ H Nc hv hs hh x k => by
  cases hv with
  | cons h1 h2 =>
    exact ⟨_, _, rfl, h R _ σ H _ h1 hs hh x fun F' ms' S' σ' H' e a b q => q R _ σ' H' Nc (h2.mono e) a b (x.ex e) fun F2 ms2 S2 σ2 H2 e2 a2 b2 q2 => k F2 ms2 S2 σ2 H2 (e.trans e2) a2 b2 q2⟩
theorem ag_tup {n : Nat} {ds : List D} (hn : ds.length = n) (h : AGs Γ gs ds F ms S N) : AG Γ (gTup Γ.K n gs) (.tup ds) F ms S N := fun R v σ H Nc hv hs hh x k => by
  cases hv with
  | tup h1 r1 => exact ⟨_, _, rfl, ex_t hh.ex h1, by rw [← r1.len]; exact hn, h R _ σ H Nc r1 hs hh x k⟩
theorem as_asgG (h : AE Γ te F ms S fun F' ms' d => AG Γ g d F' ms' S A.nx) : AS Γ (tAsg te g) F ms S A := fun R E σ H hs hh l =>
  h R σ H _ hs hh l.xe fun F' ms' d v H' e ho hr q => q R v σ H' _ hr (hs.mono e) ho (l.xe.ex e) fun F2 ms2 S2 σ2 H2 e2 a b q2 => l.nx F2 ms2 S2 σ2 H2 (e.trans e2) a b q2
theorem as_asg {i : Nat} (h : AE Γ te F ms S fun F' ms' d => A.nx F' ms' (S.set i (some d))) : AS Γ (tAsg te (gName i)) F ms S A := as_asgG (h.mono fun _ _ _ _ q => ag_name q)
theorem as_par {i j : Nat} {ta : TA} (h : AA Γ ta F ms S fun F' ms' ds => ∃ x y, ds = [x, y] ∧ A.nx F' ms' ((S.set i (some x)).set j (some y))) : AS Γ (tPar i j ta) F ms S A := fun R E σ H hs hh l =>
  h R σ H _ hs hh l.xe fun F' ms' ds vs H' e ho hr ⟨x, y, hd, q⟩ => by
    subst hd
    cases hr with
    | cons h1 h2 =>
      cases h2 with
      | cons h3 h4 =>
        cases h4
        exact ⟨_, _, rfl, l.nx F' ms' _ _ H' e (((hs.mono e).set h1).set h3) ho q⟩
theorem as_aug {i : Nat} {f : Int → Int → Int} {a : Int} (h0 : S[i]? = some (some (.int a))) (h : AE Γ te F ms S fun F' ms' d => ∃ b, d = .int b ∧ A.nx F' ms' (S.set i (some (.int (f a b))))) : AS Γ (tAug i te (ipI f)) F ms S A := fun R E σ H hs hh l => by
  obtain ⟨v, h1, h2⟩ := hs.2 i _ h0
  cases h2
  refine ⟨_, h1, h R σ H _ hs hh l.xe fun F' ms' d v H' e ho hr ⟨b, hd, q⟩ => ?_⟩
  subst hd
  cases hr
  exact ⟨a, b, rfl, rfl, l.nx F' ms' _ _ H' e ((hs.mono e).set (.int _)) ho q⟩
/-- an owned list's item is set -/
theorem ag_subO {to ti : TE} {d : D} (h : AE Γ to F ms S fun F1 ms1 o => AE Γ ti F1 ms1 S fun F2 ms2 i => ∃ (n : Nat) (l : Addr) (ds : List D) (z : Int) (j : Nat), o = .ref l ∧ i = .int z ∧ ms2[n]? = some (l, .lst ds) ∧ ixN ds.length z = some j ∧ N F2 (ms2.set n (l, .lst (ds.set j d))) S) :
    AG Γ (gSub to ti rSetL) d F ms S N := fun R v σ H Nc hv hs hh x k =>
  h R σ H _ hs hh x fun F1 ms1 o ov H1 e1 h1 r1 q1 => q1 R σ H1 _ (hs.mono e1) h1 (x.ex e1) fun F2 ms2 i iv H2 e2 h2 r2 ⟨n, l, ds, z, j, ho, hi, hn, hj, q⟩ => by
    subst ho hi
    cases r2
    cases r1
    obtain ⟨_, vs, hl, r⟩ := h2.at (get_app hn)
    refine ⟨l, vs, z, j, rfl, rfl, hl, by rw [← r.len]; exact hj, k F2 (ms2.set n (l, .lst (ds.set j d))) S σ _ (e1.trans e2) (hs.mono (e1.trans e2)) ?_ q⟩
    rw [← set_app hn]
    exact h2.set (get_app hn) ⟨_, upd_same, r.set (hv.mono (e1.trans e2)) j⟩
/-! ### owned things are dropped or freeze -/
theorem as_dropm (n : Nat) (h : AS Γ ts F (ms.eraseIdx n) S A) (hn : n < ms.length) : AS Γ ts F ms S A := fun R E σ H hs hh l => h R E σ H hs (by
  have := hh.drop n
  rw [List.eraseIdx_append_of_lt_length hn] at this
  exact this) l
theorem as_drop1 {p : Addr × MO} (h : AS Γ ts F ms S A) : AS Γ ts F (p :: ms) S A := as_dropm 0 h (Nat.zero_lt_succ _)
/-- the owned list of slot i freezes -/
theorem as_frz {i : Nat} {l : Addr} {ds : List D} (n : Nat) (hn : ms[n]? = some (l, .lst ds)) (hi : S[i]? = some (some (.ref l))) (h : ∀ F', Ex F F' → AS Γ ts F' (ms.eraseIdx n) (S.set i (some (.lst ds))) A) : AS Γ ts F ms S A := fun R E σ H hs hh k => by
  obtain ⟨_, vs, hl, r⟩ := hh.at (get_app hn)
  obtain ⟨o, ho, e, h2⟩ := hh.freeze (get_app hn)
  rw [hl] at ho
  cases ho
  rw [List.eraseIdx_append_of_lt_length (List.getElem?_eq_some_iff.mp hn).1] at h2
  refine h _ e R E σ H ((hs.mono e).re (fun v hv => ?_) hi) h2 (k.ex e)
  obtain ⟨v', h3, h4⟩ := hs.2 i _ hi
  rw [hv] at h3
  cases h3
  cases h4
  exact .lst upd_same (r.mono e)
/-- the owned dict of slot i freezes -/
theorem as_frzd {i : Nat} {l : Addr} {ds : List (Key × D)} (n : Nat) (hn : ms[n]? = some (l, .dic ds)) (hi : S[i]? = some (some (.ref l))) (h : ∀ F', Ex F F' → AS Γ ts F' (ms.eraseIdx n) (S.set i (some (.dic ds))) A) : AS Γ ts F ms S A := fun R E σ H hs hh k => by
  obtain ⟨_, vs, hl, r⟩ := hh.at (get_app hn)
  obtain ⟨o, ho, e, h2⟩ := hh.freeze (get_app hn)
  rw [hl] at ho
  cases ho
  rw [List.eraseIdx_append_of_lt_length (List.getElem?_eq_some_iff.mp hn).1] at h2
  refine h _ e R E σ H ((hs.mono e).re (fun v hv => ?_) hi) h2 (k.ex e)
  obtain ⟨v', h3, h4⟩ := hs.2 i _ hi
  rw [hv] at h3
  cases h3
  cases h4
  exact .dic upd_same (r.mono e)
/-- at a value: the list that is handed on freezes -/
theorem ae_frz (h : AE Γ te F ms S fun F' ms' d => ∃ (n : Nat) (l : Addr) (ds : List D), d = .ref l ∧ ms'[n]? = some (l, .lst ds) ∧ ∀ F2, Ex F' F2 → Q F2 (ms'.eraseIdx n) (.lst ds)) : AE Γ te F ms S Q := fun R σ H Qc hs hh x k =>
  h R σ H _ hs hh x fun F' ms' d v H' e ho hr ⟨n, l, ds, hd, hn, q⟩ => by
    subst hd
    cases hr
    obtain ⟨_, vs, hl, r⟩ := ho.at (get_app hn)
    obtain ⟨o, ho', e2, h2⟩ := ho.freeze (get_app hn)
    rw [hl] at ho'
    cases ho'
    rw [List.eraseIdx_append_of_lt_length (List.getElem?_eq_some_iff.mp hn).1] at h2
    exact k _ _ (.lst ds) _ H' (e.trans e2) h2 (.lst upd_same (r.mono e2)) (q _ e2)
theorem ae_frzd (h : AE Γ te F ms S fun F' ms' d => ∃ (n : Nat) (l : Addr) (ds : List (Key × D)), d = .ref l ∧ ms'[n]? = some (l, .dic ds) ∧ ∀ F2, Ex F' F2 → Q F2 (ms'.eraseIdx n) (.dic ds)) : AE Γ te F ms S Q := fun R σ H Qc hs hh x k =>
  h R σ H _ hs hh x fun F' ms' d v H' e ho hr ⟨n, l, ds, hd, hn, q⟩ => by
    subst hd
    cases hr
    obtain ⟨_, vs, hl, r⟩ := ho.at (get_app hn)
    obtain ⟨o, ho', e2, h2⟩ := ho.freeze (get_app hn)
    rw [hl] at ho'
    cases ho'
    rw [List.eraseIdx_append_of_lt_length (List.getElem?_eq_some_iff.mp hn).1] at h2
    exact k _ _ (.dic ds) _ H' (e.trans e2) h2 (.dic upd_same (r.mono e2)) (q _ e2)
/-- .. and owned things are dropped behind a value -/
theorem ae_dropm (h : AE Γ te F ms S fun F' ms' d => ∃ n, n < ms'.length ∧ Q F' (ms'.eraseIdx n) d) : AE Γ te F ms S Q := fun R σ H Qc hs hh x k =>
  h R σ H _ hs hh x fun F' ms' d v H' e ho hr ⟨n, hn, q⟩ => k F' (ms'.eraseIdx n) d v H' e (by
    have := ho.drop n
    rw [List.eraseIdx_append_of_lt_length hn] at this
    exact this) hr q
/-! ### frames: what a call does not see -/
theorem ae_framed {ms1 ms2 : Ms} {Ea : XA} (hE : ∀ C fs F' ms', Ea C fs F' ms' → Γ.Ea C fs F' (ms' ++ ms2)) (h : AE { Γ with Ea := Ea } te F ms1 S fun F' ms' d => Q F' (ms' ++ ms2) d) : AE Γ te F (ms1 ++ ms2) S Q := fun R σ H Qc hs hh x k =>
  h (ms2 ++ R) σ H Qc hs (by rw [← List.append_assoc]; exact hh) (fun F' ms' C dx fs H' e ho hx he => x F' (ms' ++ ms2) C dx fs H' e (by rw [List.append_assoc]; exact ho) hx (hE C fs F' ms' he)) fun F' ms' d v H' e ho hr q => k F' (ms' ++ ms2) d v H' e (by rw [List.append_assoc]; exact ho) hr q

/-! ### what is walked -/
structure ItD (K : Frg) (J : It) (F : Hp) (G : Ms → Prop) (ds : List D) : Prop where
  goes : ∀ (R : Ms) i H F' ms', i < ds.length → Ex F F' → Hold K F' (ms' ++ R) H → G ms' → J.go i H
  stops : ∀ (R : Ms) H F' ms', Ex F F' → Hold K F' (ms' ++ R) H → G ms' → J.stop ds.length H
  yields : ∀ (R : Ms) i H x H' F' ms', i < ds.length → Ex F F' → Hold K F' (ms' ++ R) H → G ms' → J.yld i H x H' → ∃ F'' d, Ex F' F'' ∧ Hold K F'' (ms' ++ R) H' ∧ ds[i]? = some d ∧ Rep K F'' d x
def AI (Γ : Cg) (wi : TI) (F : Hp) (ms : Ms) (S : Sg) (P : Hp → Ms → List D → (Ms → Prop) → Prop) : Prop := ∀ (R : Ms) σ H (Rc : It → Hp → Prop), SRep Γ.K F S σ → Hold Γ.K F (ms ++ R) H → XLe Γ R F →
  (∀ F' ms' ds G J H', Ex F F' → Hold Γ.K F' (ms' ++ R) H' → ItD Γ.K J F' G ds → P F' ms' ds G → Rc J H') → wi σ H Rc
theorem as_for {wi : TI} (h : AI Γ wi F ms S fun F1 ms1 ds G => ∃ I : Nat → Hp → Ms → Sg → Prop, I 0 F1 ms1 S ∧ (∀ i F' ms' S', Ex F1 F' → I i F' ms' S' → G ms') ∧
    (∀ i d F' ms' S', Ex F1 F' → ds[i]? = some d → I i F' ms' S' → ∀ F'', Ex F' F'' → AG Γ g d F'' ms' S' fun F2 ms2 S2 => AS Γ tu F2 ms2 S2 { A with nx := I (i + 1), ct := I (i + 1), bk := A.nx }) ∧
    (∀ F' ms' S', Ex F1 F' → I ds.length F' ms' S' → A.nx F' ms' S')) : AS Γ (tFor wi g tu) F ms S A := fun R E σ H hs hh l =>
  h R σ H _ hs hh l.xe fun F1 ms1 ds G J H1 e1 h1 it ⟨I, i0, iG, ib, ie⟩ => by
    refine ⟨fun i m σ' H' => m = ds.length - i ∧ i ≤ ds.length ∧ ∃ F' ms' S', Ex F1 F' ∧ SRep Γ.K F' S' σ' ∧ Hold Γ.K F' (ms' ++ R) H' ∧ I i F' ms' S', ⟨_, rfl, Nat.zero_le _, F1, ms1, S, Ex.refl, hs.mono e1, h1, i0⟩, ?_⟩
    rintro i m σ' H' ⟨rfl, hi, F', ms', S', e', hs', hh', p⟩
    have hG := iG i F' ms' S' e' p
    by_cases hlt : i < ds.length
    · refine .inr ⟨it.goes R i H' F' ms' hlt e' hh' hG, fun σ2 H2 => ∃ F2 ms2 S2, Ex F1 F2 ∧ SRep Γ.K F2 S2 σ2 ∧ Hold Γ.K F2 (ms2 ++ R) H2 ∧ I (i + 1) F2 ms2 S2, fun σ2 H2 ⟨F2, ms2, S2, e2, a2, b2, q2⟩ => ⟨ds.length - (i + 1), by omega, rfl, hlt, F2, ms2, S2, e2, a2, b2, q2⟩, fun x H2 y => ?_⟩
      obtain ⟨F2, d, e2, hh2, hd, hr⟩ := it.yields R i H' x H2 F' ms' hlt e' hh' hG y
      refine ib i d F' ms' S' e' hd p F2 e2 R x σ' H2 _ hr (hs'.mono e2) hh2 (l.xe.ex ((e1.trans e').trans e2)) fun F3 ms3 S3 σ3 H3 e3 a3 b3 q3 => ?_
      refine q3 R _ σ3 H3 a3 b3 ⟨l.xe.ex (((e1.trans e').trans e2).trans e3), fun F4 ms4 S4 σ4 H4 e4 a4 b4 q4 => ⟨F4, ms4, S4, ((e'.trans e2).trans e3).trans e4, a4, b4, q4⟩, fun F4 ms4 d4 v4 H4 e4 b4 r4 q4 => l.rt F4 ms4 d4 v4 H4 ((((e1.trans e').trans e2).trans e3).trans e4) b4 r4 q4,
        fun F4 ms4 S4 σ4 H4 e4 a4 b4 q4 => l.nx F4 ms4 S4 σ4 H4 ((((e1.trans e').trans e2).trans e3).trans e4) a4 b4 q4, fun F4 ms4 S4 σ4 H4 e4 a4 b4 q4 => ⟨F4, ms4, S4, ((e'.trans e2).trans e3).trans e4, a4, b4, q4⟩⟩
    · have ei : i = ds.length := by omega
      subst ei
      exact .inl ⟨it.stops R H' F' ms' e' hh' hG, l.nx F' ms' S' σ' H' (e1.trans e') hs' hh' (ie F' ms' S' e' p)⟩
theorem as_while (I : Nat → Hp → Ms → Sg → Prop) (m0 : Nat) (h0 : I m0 F ms S) (hb : ∀ m F' ms' S', Ex F F' → I m F' ms' S' → AT Γ t F' ms' S' fun F2 ms2 b => (b = true → AS Γ tu F2 ms2 S' { A with nx := fun F3 ms3 S3 => ∃ m', m' < m ∧ I m' F3 ms3 S3, ct := fun F3 ms3 S3 => ∃ m', m' < m ∧ I m' F3 ms3 S3, bk := A.nx }) ∧ (b = false → A.nx F2 ms2 S')) :
    AS Γ (tWhile t tu) F ms S A := fun R E σ H hs hh l => by
  refine ⟨fun m σ' H' => ∃ F' ms' S', Ex F F' ∧ SRep Γ.K F' S' σ' ∧ Hold Γ.K F' (ms' ++ R) H' ∧ I m F' ms' S', ⟨m0, F, ms, S, Ex.refl, hs, hh, h0⟩, ?_⟩
  rintro m σ' H' ⟨F', ms', S', e', hs', hh', p⟩
  refine hb m F' ms' S' e' p R σ' H' _ hs' hh' (l.xe.ex e') fun F2 ms2 b H2 e2 hh2 q => ?_
  cases b with
  | true =>
    refine ⟨fun σ3 H3 => ∃ m', m' < m ∧ ∃ F' ms' S', Ex F F' ∧ SRep Γ.K F' S' σ3 ∧ Hold Γ.K F' (ms' ++ R) H3 ∧ I m' F' ms' S', fun σ3 H3 z => z, ?_⟩
    exact q.1 rfl R _ σ' H2 (hs'.mono e2) hh2 ⟨l.xe.ex (e'.trans e2), fun F4 ms4 S4 σ4 H4 e4 a4 b4 ⟨m', lt, q4⟩ => ⟨m', lt, F4, ms4, S4, (e'.trans e2).trans e4, a4, b4, q4⟩, fun F4 ms4 d4 v4 H4 e4 b4 r4 q4 => l.rt F4 ms4 d4 v4 H4 ((e'.trans e2).trans e4) b4 r4 q4,
      fun F4 ms4 S4 σ4 H4 e4 a4 b4 q4 => l.nx F4 ms4 S4 σ4 H4 ((e'.trans e2).trans e4) a4 b4 q4, fun F4 ms4 S4 σ4 H4 e4 a4 b4 ⟨m', lt, q4⟩ => ⟨m', lt, F4, ms4, S4, (e'.trans e2).trans e4, a4, b4, q4⟩⟩
  | false => exact l.nx F2 ms2 S' σ' H2 (e'.trans e2) (hs'.mono e2) hh2 (q.2 rfl)
variable {P : Hp → Ms → List D → (Ms → Prop) → Prop}
/-- over a list: frozen, the script, or an owned one -/
theorem ai_list {tl : TE} (h : AE Γ tl F ms S fun F1 ms1 d => (∃ ds : List D, (d = .lst ds ∨ d = .rdl ds) ∧ P F1 ms1 ds fun _ => True) ∨ ∃ (n : Nat) (l : Addr) (ds : List D), d = .ref l ∧ ms1[n]? = some (l, MO.lst ds) ∧ P F1 ms1 ds fun ms' => ∃ n : Nat, ms'[n]? = some (l, MO.lst ds)) : AI Γ (iList Γ.K tl) F ms S P := fun R σ H Rc hs hh x k =>
  h R σ H _ hs hh x fun F1 ms1 d v H1 e1 h1 r1 q => by
    rcases q with ⟨ds, hd, p⟩ | ⟨n, l, ds, hd, hn, p⟩
    · obtain ⟨a, xs, rfl, hq, rl⟩ : ∃ a xs, v = .ref a ∧ SqL Γ.K F1 a xs ∧ RepL Γ.K F1 ds xs := by
        rcases hd with rfl | rfl
        · cases r1 with
          | lst ha r => exact ⟨_, _, rfl, SqL.of ha, r⟩
        · cases r1 with
          | rdl ha r => exact ⟨_, _, rfl, ha, r⟩
      refine ⟨a, rfl, ⟨xs, ex_l h1.ex hq⟩, k F1 ms1 ds (fun _ => True) _ H1 e1 h1 ⟨fun _ i H' F' ms' hi e' hh' _ => ?_, fun _ H' F' ms' e' hh' _ => ?_, fun _ i H' x H2 F' ms' hi e' hh' _ y => ?_⟩ p⟩
      · exact ⟨xs, xs[i]'(by rw [← rl.len]; exact hi), ex_l hh'.ex (ex_l e' hq), by simp [show i < xs.length by rw [← rl.len]; exact hi]⟩
      · exact ⟨xs, ex_l hh'.ex (ex_l e' hq), by rw [rl.len]; exact Nat.le_refl _⟩
      · obtain ⟨y1, y2⟩ := y
        subst y1
        obtain ⟨d, hd, rd⟩ := rl.get (y2 xs (ex_l hh'.ex (ex_l e' hq)))
        exact ⟨F', d, Ex.refl, hh', hd, rd.mono e'⟩
    · subst hd
      cases r1
      obtain ⟨_, xs, hl, rl⟩ := h1.at (get_app hn)
      refine ⟨l, rfl, ⟨xs, SqL.of hl⟩, k F1 ms1 ds _ _ H1 e1 h1 ⟨fun _ i H' F' ms' hi e' hh' ⟨n', hn'⟩ => ?_, fun _ H' F' ms' e' hh' ⟨n', hn'⟩ => ?_, fun _ i H' x H2 F' ms' hi e' hh' ⟨n', hn'⟩ y => ?_⟩ p⟩
      · obtain ⟨_, xs', hl', rl'⟩ := hh'.at (get_app hn')
        exact ⟨xs', xs'[i]'(by rw [← rl'.len]; exact hi), SqL.of hl', by simp [show i < xs'.length by rw [← rl'.len]; exact hi]⟩
      · obtain ⟨_, xs', hl', rl'⟩ := hh'.at (get_app hn')
        exact ⟨xs', SqL.of hl', by rw [rl'.len]; exact Nat.le_refl _⟩
      · obtain ⟨_, xs', hl', rl'⟩ := hh'.at (get_app hn')
        obtain ⟨y1, y2⟩ := y
        subst y1
        obtain ⟨d, hd, rd⟩ := rl'.get (y2 xs' (SqL.of hl'))
        exact ⟨F', d, Ex.refl, hh', hd, rd⟩
theorem ai_tup {tl : TE} (h : AE Γ tl F ms S fun F1 ms1 d => ∃ ds, d = .tup ds ∧ P F1 ms1 ds fun _ => True) : AI Γ (iTup Γ.K tl) F ms S P := fun R σ H Rc hs hh x k =>
  h R σ H _ hs hh x fun F1 ms1 d v H1 e1 h1 r1 ⟨ds, hd, p⟩ => by
    subst hd
    cases r1 with
    | @tup a xs _ hq rl =>
      refine ⟨a, rfl, ⟨xs, ex_t h1.ex hq⟩, k F1 ms1 ds (fun _ => True) _ H1 e1 h1 ⟨fun _ i H' F' ms' hi e' hh' _ => ?_, fun _ H' F' ms' e' hh' _ => ?_, fun _ i H' x H2 F' ms' hi e' hh' _ y => ?_⟩ p⟩
      · exact ⟨xs, xs[i]'(by rw [← rl.len]; exact hi), ex_t hh'.ex (ex_t e' hq), by simp [show i < xs.length by rw [← rl.len]; exact hi]⟩
      · exact ⟨xs, ex_t hh'.ex (ex_t e' hq), by rw [rl.len]; exact Nat.le_refl _⟩
      · obtain ⟨y1, y2⟩ := y
        subst y1
        obtain ⟨d, hd, rd⟩ := rl.get (y2 xs (ex_t hh'.ex (ex_t e' hq)))
        exact ⟨F', d, Ex.refl, hh', hd, rd.mono e'⟩
def rangeD (lo : Int) (n : Nat) : List D := (List.range n).map fun i => .int (lo + (i : Nat))
theorem rangeD_len (lo : Int) (n : Nat) : (rangeD lo n).length = n := by unfold rangeD; rw [List.length_map, List.length_range]
theorem rangeD_get {lo : Int} {n i : Nat} (h : i < n) : (rangeD lo n)[i]? = some (.int (lo + (i : Nat))) := by
  unfold rangeD
  rw [List.getElem?_map, List.getElem?_range h]
  rfl
theorem it_range {lo : Int} {n : Nat} {F1 : Hp} : ItD K (Itr lo n) F1 (fun _ => True) (rangeD lo n) where
  goes := fun _ i H F' ms' hi _ _ _ => by rw [rangeD_len] at hi; exact hi
  stops := fun _ H F' ms' _ _ _ => by rw [rangeD_len]; exact Nat.le_refl _
  yields := fun _ i H x H' F' ms' hi _ hh' _ y => by
    rw [rangeD_len] at hi
    obtain ⟨y1, y2⟩ := y
    subst y1 y2
    exact ⟨F', _, Ex.refl, hh', rangeD_get hi, .int _⟩
theorem ai_rng1 {ta : TA} (h : AA Γ ta F ms S fun F1 ms1 ds => ∃ n : Int, ds = [.int n] ∧ n < 2 ^ 62 ∧ -(2 ^ 62) ≤ n ∧ P F1 ms1 (rangeD 0 n.toNat) fun _ => True) : AI Γ (iRng1 ta) F ms S P := fun R σ H Rc hs hh x k =>
  h R σ H _ hs hh x fun F1 ms1 ds vs H1 e1 h1 r1 ⟨n, hd, n1, n2, p⟩ => by
    subst hd
    cases r1 with
    | cons a b =>
      cases b
      cases a
      exact ⟨n, rfl, n2, n1, k F1 ms1 _ _ _ H1 e1 h1 it_range p⟩
theorem ai_rng2 {ta : TA} (h : AA Γ ta F ms S fun F1 ms1 ds => ∃ m n : Int, ds = [.int m, .int n] ∧ (-(2 ^ 62) ≤ m ∧ m < 2 ^ 62 ∧ -(2 ^ 62) ≤ n ∧ n < 2 ^ 62) ∧ P F1 ms1 (rangeD m (n - m).toNat) fun _ => True) : AI Γ (iRng2 ta) F ms S P := fun R σ H Rc hs hh x k =>
  h R σ H _ hs hh x fun F1 ms1 ds vs H1 e1 h1 r1 ⟨m, n, hd, n1, p⟩ => by
    subst hd
    cases r1 with
    | cons a b =>
      cases b with
      | cons b c =>
        cases c
        cases a
        cases b
        exact ⟨m, n, rfl, n1, k F1 ms1 _ _ _ H1 e1 h1 it_range p⟩
def charsD (z : Str) : List D := z.cps.toList.map fun c => .str (sg c)
theorem ai_str {te : TE} (h : AE Γ te F ms S fun F1 ms1 d => ∃ z, d = .str z ∧ P F1 ms1 (charsD z) fun _ => True) : AI Γ (iStr te) F ms S P := fun R σ H Rc hs hh x k =>
  h R σ H _ hs hh x fun F1 ms1 d v H1 e1 h1 r1 ⟨z, hd, p⟩ => by
    subst hd
    cases r1
    have hl : (charsD z).length = z.cps.size := by unfold charsD; rw [List.length_map, Array.length_toList]
    refine ⟨z, rfl, k F1 ms1 (charsD z) (fun _ => True) _ H1 e1 h1 ⟨fun _ i H' F' ms' hi e' hh' _ => by rw [hl] at hi; exact hi, fun _ H' F' ms' e' hh' _ => by rw [hl]; exact Nat.le_refl _, fun _ i H' x H2 F' ms' hi e' hh' _ y => ?_⟩ p⟩
    obtain ⟨y1, c, y2, y3⟩ := y
    subst y1 y3
    refine ⟨F', _, Ex.refl, hh', ?_, .str _⟩
    unfold charsD
    rw [List.getElem?_map, Array.getElem?_toList, y2]
    rfl
end
end AL

set_option Elab.async false
set_option linter.all false
set_option maxRecDepth 100000
set_option maxHeartbeats 4000000
namespace AL
open PySem L2
/-! ### comprehensions -/
theorem wipe_get (σ : St) (j : Nat) : ∀ vs : List Nat, (L2.wipe σ vs)[j]? = if j ∈ vs then σ[j]?.map (fun _ => none) else σ[j]?
  | [] => by simp [L2.wipe]
  | v :: vs => by
    unfold L2.wipe
    by_cases h : v = j
    · subst h
      rw [List.getElem?_set]
      simp only [if_true, List.mem_cons, true_or, wipe_length]
      by_cases hl : v < σ.length
      · rw [if_pos hl, List.getElem?_eq_getElem hl]; rfl
      · rw [if_neg hl, List.getElem?_eq_none (by omega)]; rfl
    · rw [List.getElem?_set_ne h, wipe_get σ j vs]
      have e : (j ∈ v :: vs) ↔ j ∈ vs := by simp [Ne.symm h]
      simp only [e]
theorem wipe_set {σ : St} {i : Nat} {x : Option V} {vs : List Nat} (h : i ∈ vs) : L2.wipe (σ.set i x) vs = L2.wipe σ vs := by
  apply List.ext_getElem?
  intro j
  rw [wipe_get, wipe_get]
  by_cases e : i = j
  · subst e
    rw [if_pos h, if_pos h, List.getElem?_set]
    simp only [if_true]
    by_cases hl : i < σ.length
    · rw [if_pos hl, List.getElem?_eq_getElem hl]; rfl
    · rw [if_neg hl, List.getElem?_eq_none (by omega)]
  · rw [List.getElem?_set_ne e]
theorem wipe_wipe (σ : St) (vs : List Nat) : L2.wipe (L2.wipe σ vs) vs = L2.wipe σ vs := by
  apply List.ext_getElem?
  intro j
  rw [wipe_get, wipe_get]
  split
  · cases σ[j]? <;> rfl
  · rfl
/-- a target that stores in the block's own slots alone -/
def GW (g : TG) (vs : List Nat) : Prop := ∀ v σ H N τ, L2.wipe σ vs = τ → g v σ H N → g v σ H fun σ2 H2 => N σ2 H2 ∧ L2.wipe σ2 vs = τ
def GWs (g : TGs) (vs : List Nat) : Prop := ∀ xs σ H N τ, L2.wipe σ vs = τ → g xs σ H N → g xs σ H fun σ2 H2 => N σ2 H2 ∧ L2.wipe σ2 vs = τ
theorem gw_name {i : Nat} {vs : List Nat} (h : i ∈ vs) : GW (gName i) vs := fun v σ H N τ e q => ⟨q, by rw [wipe_set h]; exact e⟩
theorem gws_nil {vs : List Nat} : GWs gNil vs := fun xs σ H N τ e q => ⟨q.1, q.2, e⟩
theorem gws_cons {g : TG} {gs : TGs} {vs : List Nat} (gm : ∀ v σ H N N', (∀ σ2 H2, N σ2 H2 → N' σ2 H2) → g v σ H N → g v σ H N') (h : GW g vs) (hs : GWs gs vs) : GWs (gCons g gs) vs := fun xs σ H N τ e ⟨v, r, hx, q⟩ =>
  ⟨v, r, hx, gm v σ H _ _ (fun σ2 H2 ⟨a, b⟩ => hs r σ2 H2 N τ b a) (h v σ H _ τ e q)⟩
theorem gm_name {i : Nat} : ∀ v σ H N N', (∀ σ2 H2, N σ2 H2 → N' σ2 H2) → gName i v σ H N → gName i v σ H N' := fun v σ H N N' m q => m _ _ q
theorem gms_nil : ∀ v σ H N N', (∀ σ2 H2, N σ2 H2 → N' σ2 H2) → gNil v σ H N → gNil v σ H N' := fun v σ H N N' m q => ⟨q.1, m _ _ q.2⟩
theorem gms_cons {g : TG} {gs : TGs} (gm : ∀ v σ H N N', (∀ σ2 H2, N σ2 H2 → N' σ2 H2) → g v σ H N → g v σ H N') (gsm : ∀ v σ H N N', (∀ σ2 H2, N σ2 H2 → N' σ2 H2) → gs v σ H N → gs v σ H N') : ∀ v σ H N N', (∀ σ2 H2, N σ2 H2 → N' σ2 H2) → gCons g gs v σ H N → gCons g gs v σ H N' :=
  fun v σ H N N' m ⟨x, r, hx, q⟩ => ⟨x, r, hx, gm x σ H _ _ (fun σ2 H2 q2 => gsm r σ2 H2 N N' m q2) q⟩
theorem gm_tup {K : Frg} {n : Nat} {gs : TGs} (gsm : ∀ v σ H N N', (∀ σ2 H2, N σ2 H2 → N' σ2 H2) → gs v σ H N → gs v σ H N') : ∀ v σ H N N', (∀ σ2 H2, N σ2 H2 → N' σ2 H2) → gTup K n gs v σ H N → gTup K n gs v σ H N' :=
  fun v σ H N N' m ⟨a, xs, e, h1, h2, q⟩ => ⟨a, xs, e, h1, h2, gsm xs σ H N N' m q⟩
theorem gw_tup {K : Frg} {n : Nat} {gs : TGs} {vs : List Nat} (h : GWs gs vs) : GW (gTup K n gs) vs := fun v σ H N τ e ⟨a, xs, hv, h1, h2, q⟩ => ⟨a, xs, hv, h1, h2, h xs σ H N τ e q⟩
/-- nothing may be raised -/
abbrev Cg.nox (Γ : Cg) : Cg := { Γ with E := E0, Ea := fun _ _ _ _ => False }
theorem xle0 {Γ : Cg} {R : Ms} {F : Hp} : XLe Γ.nox R F := fun _ _ _ _ _ _ _ _ _ h => h.elim
section
variable {Γ : Cg} {K : Frg} {F : Hp} {ms : Ms} {S : Sg} {Q : QE} {ta tb te tx : TE} {t u tt : TT} {r : R2} {ts tu tw : TS} {A : AEnds} {g : TG} {wi : TI} {vs : List Nat}
theorem mid_get {ms R : Ms} {p : Addr × MO} : (ms ++ p :: R)[ms.length]? = some p := by rw [List.getElem?_append_right (Nat.le_refl _), Nat.sub_self]; rfl
theorem mid_erase {ms R : Ms} {p : Addr × MO} : (ms ++ p :: R).eraseIdx ms.length = ms ++ R := by rw [List.eraseIdx_append_of_length_le (Nat.le_refl _), Nat.sub_self]; rfl
theorem mid_set {ms R : Ms} {p q : Addr × MO} : (ms ++ p :: R).set ms.length q = ms ++ q :: R := by rw [List.set_append_right _ _ (Nat.le_refl _), Nat.sub_self]; rfl
theorem ae_lc (hg : GW g vs) (gm : ∀ v σ H N N', (∀ σ2 H2, N σ2 H2 → N' σ2 H2) → g v σ H N → g v σ H N') (h : AI Γ wi F ms S fun F1 ms1 ds G => ∃ I : Nat → Hp → Ms → List D → Prop, I 0 F1 ms1 [] ∧ (∀ i F' ms' acc, Ex F1 F' → I i F' ms' acc → G ms') ∧
    (∀ i d F' ms' acc, Ex F1 F' → ds[i]? = some d → I i F' ms' acc → ∀ F'', Ex F' F'' → AG Γ.nox g d F'' ms' (wipeS S vs) fun F2 ms2 S2 => AT Γ.nox tt F2 ms2 S2 fun F3 ms3 b => (b = true → AE Γ.nox te F3 ms3 S2 fun F4 ms4 y => acc.length < 100000 ∧ I (i + 1) F4 ms4 (acc ++ [y])) ∧ (b = false → I (i + 1) F3 ms3 acc)) ∧
    (∀ F' ms' acc, Ex F1 F' → I ds.length F' ms' acc → ∀ F'', Ex F' F'' → Q F'' ms' (.lst acc))) : AE Γ (tLc wi g tt te vs) F ms S Q := fun R σ H Qc hs hh x k =>
  h R σ H _ hs hh x fun F1 ms1 ds G J H1 e1 h1 it ⟨I, i0, iG, ib, ie⟩ => by
    intro D hD
    refine ⟨fun i m H' => m = ds.length - i ∧ i ≤ ds.length ∧ ∃ F' ms' acc, Ex F1 F' ∧ Hold Γ.K F' (ms' ++ (D, .lst acc) :: R) H' ∧ I i F' ms' acc, ⟨_, rfl, Nat.zero_le _, F1, ms1, [], Ex.refl, ?_, i0⟩, ?_⟩
    · exact (h1.made (m := .lst []) hD ⟨[], upd_same, .nil⟩).perm List.perm_middle
    rintro i m H' ⟨rfl, hi, F', ms', acc, e', hh', p⟩
    have hG := iG i F' ms' acc e' p
    by_cases hlt : i < ds.length
    · refine .inr ⟨it.goes _ i H' F' ms' hlt e' hh' hG, fun H2 => ∃ F2 ms2 acc2, Ex F1 F2 ∧ Hold Γ.K F2 (ms2 ++ (D, .lst acc2) :: R) H2 ∧ I (i + 1) F2 ms2 acc2, fun H2 ⟨F2, ms2, acc2, e2, b2, q2⟩ => ⟨ds.length - (i + 1), by omega, rfl, hlt, F2, ms2, acc2, e2, b2, q2⟩, fun x H2 y => ?_⟩
      obtain ⟨F2, d, e2, hh2, hd, hr⟩ := it.yields _ i H' x H2 F' ms' hlt e' hh' hG y
      refine gm x _ H2 _ _ (fun σ2 H3 z => ⟨z.2, z.1⟩) (hg x _ H2 _ _ (wipe_wipe σ vs) ?_)
      refine ib i d F' ms' acc e' hd p F2 e2 _ x (L2.wipe σ vs) H2 _ hr (((hs.mono e1).mono (e'.trans e2)).wipe vs) hh2 xle0 fun F3 ms3 S3 σ3 H3 e3 a3 b3 q3 => ?_
      refine q3 _ σ3 H3 _ a3 b3 xle0 fun F4 ms4 b H4 e4 b4 q4 => ?_
      cases b with
      | true =>
        refine q4.1 rfl _ σ3 H4 _ (a3.mono e4) b4 xle0 fun F5 ms5 d5 v5 H5 e5 b5 r5 q5 => ?_
        obtain ⟨_, vs5, hl, rl⟩ := b5.at mid_get
        refine ⟨vs5, hl, Evl.sz_lt (by rw [← rl.len]; exact q5.1), F5, ms5, acc ++ [d5], (((e'.trans e2).trans e3).trans e4).trans e5, ?_, q5.2⟩
        have := b5.set (m' := .lst (acc ++ [d5])) (o := .lst (vs5 ++ [v5])) mid_get ⟨_, upd_same, rl.append (RepL.one r5)⟩
        rw [mid_set] at this
        exact this
      | false => exact ⟨F4, ms4, acc, ((e'.trans e2).trans e3).trans e4, b4, q4.2 rfl⟩
    · have ei : i = ds.length := by omega
      subst ei
      refine .inl ⟨it.stops _ H' F' ms' e' hh' hG, ?_⟩
      obtain ⟨_, vsD, hl, rl⟩ := hh'.at mid_get
      obtain ⟨o, ho, e2, h2⟩ := hh'.freeze mid_get
      rw [hl] at ho
      cases ho
      rw [mid_erase] at h2
      exact k _ ms' (.lst acc) _ H' ((e1.trans e').trans e2) h2 (.lst upd_same (rl.mono e2)) (ie F' ms' acc e' p _ e2)

/-! ### defs -/
abbrev ASp := List D → Hp → Ms → QE → XA → Prop
def toSp (K : Frg) (sp : ASp) : Sp := fun vs H Q E => ∃ F ms R ds Qa Ea, Hold K F (ms ++ R) H ∧ RepL K F ds vs ∧ sp ds F ms Qa Ea ∧ (∀ F' ms' d v H', Ex F F' → Hold K F' (ms' ++ R) H' → Rep K F' d v → Qa F' ms' d → Q v H') ∧ XLe ⟨K, E, Ea⟩ R F
theorem ae_call {sp : ASp} {ta : TA} (h : AA Γ ta F ms S fun F1 ms1 ds => sp ds F1 ms1 Q Γ.Ea) : AE Γ (tCall (toSp Γ.K sp) [] Γ.E ta) F ms S Q := fun R σ H Qc hs hh x k =>
  h R σ H _ hs hh x fun F1 ms1 ds vs H1 e1 h1 r1 q1 => by
    show toSp Γ.K sp (vs ++ []) H1 Qc Γ.E
    rw [List.append_nil]
    exact ⟨F1, ms1, R, ds, Q, Γ.Ea, h1, r1, q1, fun F' ms' d v H' e => k F' ms' d v H' (e1.trans e), x.ex e1⟩
/-- with defaults -/
theorem ae_callD {sp : ASp} {ta : TA} {dvs : List V} {dds : List D} (hd : ∀ F, RepL Γ.K F dds dvs) (h : AA Γ ta F ms S fun F1 ms1 ds => sp (ds ++ dds) F1 ms1 Q Γ.Ea) : AE Γ (tCall (toSp Γ.K sp) dvs Γ.E ta) F ms S Q := fun R σ H Qc hs hh x k =>
  h R σ H _ hs hh x fun F1 ms1 ds vs H1 e1 h1 r1 q1 => ⟨F1, ms1, R, ds ++ dds, Q, Γ.Ea, h1, r1.append (hd F1), q1, fun F' ms' d v H' e => k F' ms' d v H' (e1.trans e), x.ex e1⟩
/-- an instance: frozen or owned -/
def InsF (K : Frg) (F : Hp) (a C : Addr) (fs : List (Str × D)) : Prop := ∃ dx gs, F a = some (.ins C dx gs) ∧ F dx = some (.own a) ∧ RepF K F fs gs
theorem InsF.mono {F' : Hp} {a C : Addr} {fs : List (Str × D)} (e : Ex F F') : InsF K F a C fs → InsF K F' a C fs := fun ⟨dx, gs, h1, h2, h3⟩ => ⟨dx, gs, e _ _ h1, e _ _ h2, h3.mono e⟩
def InsA (K : Frg) (F : Hp) (ms : Ms) (a C : Addr) (fs : List (Str × D)) : Prop := InsF K F a C fs ∨ ∃ n : Nat, ms[n]? = some (a, MO.ins C fs)
theorem InsA.to {a C : Addr} {fs : List (Str × D)} {R : Ms} {H : Hp} (i : InsA K F ms a C fs) (hh : Hold K F (ms ++ R) H) : ∃ dx gs, H a = some (.ins C dx gs) ∧ F dx = some (.own a) ∧ RepF K F fs gs := by
  rcases i with ⟨dx, gs, h1, h2, h3⟩ | ⟨n, hn⟩
  · exact ⟨dx, gs, hh.ex _ _ h1, h2, h3⟩
  · exact (hh.at (get_app hn)).2
theorem ae_fld {f : Str} (h : AE Γ ta F ms S fun F1 ms1 x => ∃ a C fs d, x = .ref a ∧ InsA Γ.K F1 ms1 a C fs ∧ Cls Γ.K C ∧ NoAttr Γ.K C f ∧ fs.lookup f = some d ∧ Q F1 ms1 d) : AE Γ (tFld Γ.K ta f) F ms S Q := fun R σ H Qc hs hh x k =>
  h R σ H _ hs hh x fun F1 ms1 d1 v1 H1 e1 h1 r1 ⟨a, C, fs, d, hx, hi, hc, hn, hl, q⟩ => by
    subst hx
    cases r1
    obtain ⟨dx, gs, i1, i2, i3⟩ := hi.to h1
    obtain ⟨v, hv, rv⟩ := i3.look hl
    exact ⟨a, C, dx, gs, v, rfl, i1, hc, hn, hv, k F1 ms1 d v H1 e1 h1 rv q⟩
theorem as_fld {f : Str} {tv : TE} (h : AE Γ tv F ms S fun F1 ms1 y => AE Γ ta F1 ms1 S fun F2 ms2 x => ∃ (n : Nat) (a C : Addr) (fs : List (Str × D)), x = .ref a ∧ ms2[n]? = some (a, .ins C fs) ∧ Cls Γ.K C ∧ NoAttr Γ.K C f ∧ fs.length < 1000 ∧ A.nx F2 (ms2.set n (a, .ins C (putD f y fs))) S) :
    AS Γ (sFld Γ.K ta tv f) F ms S A := fun R E σ H hs hh l =>
  h R σ H _ hs hh l.xe fun F1 ms1 y vy H1 e1 h1 r1 q1 => q1 R σ H1 _ (hs.mono e1) h1 (l.xe.ex e1) fun F2 ms2 x2 v2 H2 e2 h2 r2 ⟨n, a, C, fs, hx, hn, hc, hna, hl, q⟩ => by
    subst hx
    cases r2
    obtain ⟨_, dx, gs, i1, i2, i3⟩ := h2.at (get_app hn)
    refine ⟨a, C, dx, gs, rfl, i1, hc, hna, by rw [← i3.len]; exact hl, l.nx F2 (ms2.set n (a, .ins C (putD f y fs))) S σ _ (e1.trans e2) (hs.mono (e1.trans e2)) ?_ q⟩
    rw [← set_app hn]
    exact h2.set (get_app hn) ⟨dx, _, upd_same, i2, i3.put (r1.mono e2)⟩
theorem ae_meth {C : Addr} {m : Str} {sp : ASp} {ta' : TA} (h : AE Γ ta F ms S fun F1 ms1 x => ∃ a fs, x = .ref a ∧ InsA Γ.K F1 ms1 a C fs ∧ fs.lookup m = none ∧ AA Γ ta' F1 ms1 S fun F2 ms2 ds => sp (.ref a :: ds) F2 ms2 Q Γ.Ea) :
    AE Γ (tMeth C m (toSp Γ.K sp) [] Γ.E ta ta') F ms S Q := fun R σ H Qc hs hh x k =>
  h R σ H _ hs hh x fun F1 ms1 d1 v1 H1 e1 h1 r1 ⟨a, fs, hx, hi, hl, q⟩ => by
    subst hx
    cases r1
    obtain ⟨dx, gs, i1, i2, i3⟩ := hi.to h1
    refine ⟨a, dx, gs, rfl, i1, i3.lookN hl, q R σ H1 _ (hs.mono e1) h1 (x.ex e1) fun F2 ms2 ds vs H2 e2 h2 r2 q2 => ?_⟩
    show toSp Γ.K sp (V.ref a :: (vs ++ [])) H2 Qc Γ.E
    rw [List.append_nil]
    exact ⟨F2, ms2, R, .ref a :: ds, Q, Γ.Ea, h2, .cons (.ref a) r2, q2, fun F' ms' d v H' e => k F' ms' d v H' ((e1.trans e2).trans e), x.ex (e1.trans e2)⟩
theorem ae_prop {C : Addr} {sp : ASp} (h : AE Γ ta F ms S fun F1 ms1 x => ∃ a fs, x = .ref a ∧ InsA Γ.K F1 ms1 a C fs ∧ sp [.ref a] F1 ms1 Q Γ.Ea) : AE Γ (tProp C (toSp Γ.K sp) [] Γ.E ta) F ms S Q := fun R σ H Qc hs hh x k =>
  h R σ H _ hs hh x fun F1 ms1 d1 v1 H1 e1 h1 r1 ⟨a, fs, hx, hi, q⟩ => by
    subst hx
    cases r1
    obtain ⟨dx, gs, i1, i2, i3⟩ := hi.to h1
    exact ⟨a, dx, gs, rfl, i1, F1, ms1, R, [.ref a], Q, Γ.Ea, h1, .cons (.ref a) .nil, q, fun F' ms' d v H' e => k F' ms' d v H' (e1.trans e), x.ex e1⟩
theorem ae_make {C : Addr} {sp : ASp} {ta' : TA} {dvs : List V} {dds : List D} (hd : ∀ F, RepL Γ.K F dds dvs) (h : AA Γ ta' F ms S fun F1 ms1 ds => ∀ x F2, Ex F1 F2 → sp (.ref x :: (ds ++ dds)) F2 ((x, .ins C []) :: ms1) (fun F' ms' d => d = .non ∧ Q F' ms' (.ref x)) Γ.Ea) :
    AE Γ (tMake C (toSp Γ.K sp) dvs Γ.E ta') F ms S Q := fun R σ H Qc hs hh x k =>
  h R σ H _ hs hh x fun F1 ms1 ds vs H1 e1 h1 r1 q1 => by
    intro a dx na ndx ne
    obtain ⟨e2, h2⟩ := h1.laid (.own a) ndx
    have na2 : upd H1 dx (.own a) a = none := by rw [upd_ne ne.symm]; exact na
    have h3 := h2.made (m := .ins C []) (o := .ins C dx []) na2 ⟨dx, [], upd_same, upd_same, .nil⟩
    refine ⟨_, (a, .ins C []) :: ms1, R, .ref a :: (ds ++ dds), _, Γ.Ea, h3, .cons (.ref a) ((r1.mono e2).append (hd _)), q1 a _ e2, fun F' ms' d v H' e ho hr ⟨hdn, q⟩ => ?_, x.ex (e1.trans e2)⟩
    subst hdn
    cases hr
    exact ⟨rfl, k F' ms' (.ref a) _ H' ((e1.trans e2).trans e) ho (.ref a) q⟩
end
def startS (N : List Str) (ds : List D) : Sg := ds.map some ++ List.replicate (N.length - ds.length) none
theorem start_rep {K : Frg} {F : Hp} {N : List Str} : ∀ {ds : List D} {vs : List V}, RepL K F ds vs → SRep K F (startS N ds) (L2.start N vs) := fun {ds vs} r => by
  unfold startS L2.start
  refine ⟨by simp [r.len], fun i d h => ?_⟩
  by_cases hi : i < ds.length
  · rw [List.getElem?_append_left (by simpa using hi), List.getElem?_map] at h
    cases e : ds[i]? with
    | none => rw [e] at h; cases h
    | some d' =>
      rw [e] at h
      cases h
      obtain ⟨v, hv, rv⟩ := r.getD e
      refine ⟨v, ?_, rv⟩
      rw [List.getElem?_append_left (by rw [List.length_map, ← r.len]; exact hi), List.getElem?_map, hv]
      rfl
  · rw [List.getElem?_append_right (by simpa using hi), List.getElem?_replicate] at h
    split at h <;> cases h
section
variable {P : Program} {w : World} {K : Frg} {mg : Str → Option Value} {base : Heap}
/-- a def that raises nothing -/
theorem fn_ok {x qual : Str} {st : Stmt} {f : Addr} {fd : FuncData} {N ps : List Str} {k : Nat} {sp : ASp} (F : Fun K x qual st f fd) (Sc : FnScope N ps (defScope st)) (len : ∀ ds F ms Q E, sp ds F ms Q E → ds.length = ps.length)
    (hbody : ∀ (cdv : Value) (A : Around) (outer : List Env) (s : Shared) (H : Hp) (E : XK), Room k (A.deeper (PyProof.Rows.envOfC qual (defScope st) s.heap.objs.size f cdv)) → ∃ t, PSs (cxOf CX0 P w K mg base N qual (defScope st) f cdv A outer s H E).nox (defBody st) t ∧
      ∀ ds F ms Q Ea, sp ds F ms Q Ea → AS ⟨K, E0, fun _ _ _ _ => False⟩ t F ms (startS N ds) { nx := fun F' ms' _ => Q F' ms' .non, rt := Q }) : FnOk P w K mg base CX0 (k + 1) f fd ps (toSp K sp) := by
  refine F.ok Sc (fun vs H Q E h => ?_) (fun cdv A outer s H vs Q E hr h => ?_)
  · obtain ⟨F0, ms, R, ds, Qa, Ea, h1, h2, h3, _⟩ := h
    rw [← h2.len]
    exact len _ _ _ _ _ h3
  · obtain ⟨F0, ms, R, ds, Qa, Ea, h1, h2, h3, h4, h5⟩ := h
    obtain ⟨t, ht, q⟩ := hbody cdv A outer s H E hr
    refine ⟨t, ht, q ds F0 ms Qa Ea h3 R _ _ H (start_rep h2) h1 ⟨fun _ _ _ _ _ _ _ _ _ z => z.elim, fun F' ms' S' σ' H' e a b q' => h4 F' ms' .non .non H' e b .non q', fun F' ms' d v H' e b r q' => h4 F' ms' d v H' e b r q', fun _ _ _ _ _ _ _ _ z => z.elim, fun _ _ _ _ _ _ _ _ z => z.elim⟩⟩
/-- a def that may raise -/
theorem fn_okX {x qual : Str} {st : Stmt} {f : Addr} {fd : FuncData} {N ps : List Str} {k : Nat} {sp : ASp} (F : Fun K x qual st f fd) (Sc : FnScope N ps (defScope st)) (len : ∀ ds F ms Q E, sp ds F ms Q E → ds.length = ps.length)
    (hbody : ∀ (cdv : Value) (A : Around) (outer : List Env) (s : Shared) (H : Hp) (E : XK), Room k (A.deeper (PyProof.Rows.envOfC qual (defScope st) s.heap.objs.size f cdv)) → ∃ t, PSs (cxOf (L2.CX P w) P w K mg base N qual (defScope st) f cdv A outer s H E) (defBody st) t ∧
      ∀ ds F ms Q Ea, sp ds F ms Q Ea → AS ⟨K, E, Ea⟩ t F ms (startS N ds) { nx := fun F' ms' _ => Q F' ms' .non, rt := Q }) : FnOk P w K mg base (L2.CX P w) (k + 1) f fd ps (toSp K sp) := by
  refine F.okX Sc (fun vs H Q E h => ?_) (fun cdv A outer s H vs Q E hr h => ?_)
  · obtain ⟨F0, ms, R, ds, Qa, Ea, h1, h2, h3, _⟩ := h
    rw [← h2.len]
    exact len _ _ _ _ _ h3
  · obtain ⟨F0, ms, R, ds, Qa, Ea, h1, h2, h3, h4, h5⟩ := h
    obtain ⟨t, ht, q⟩ := hbody cdv A outer s H E hr
    exact ⟨t, ht, q ds F0 ms Qa Ea h3 R _ _ H (start_rep h2) h1 ⟨h5, fun F' ms' S' σ' H' e a b q' => h4 F' ms' .non .non H' e b .non q', fun F' ms' d v H' e b r q' => h4 F' ms' d v H' e b r q', fun _ _ _ _ _ _ _ _ z => z.elim, fun _ _ _ _ _ _ _ _ z => z.elim⟩⟩
end
end AL

set_option Elab.async false
set_option linter.all false
set_option maxRecDepth 100000
set_option maxHeartbeats 4000000
namespace AL
open PySem L2
/-! ### two more built-ins at the library's level: list(text), min of texts -/
theorem richCmp_lt_str {prog : Program} {w : World} {A : Around} {E Q : Value → Shared → Prop} {s : Shared} {x y : Str} {t u : Tok} (h : Q (.bool (decide (x.cps.toList < y.cps.toList))) s) : wpAny (model prog w) A (richCompare .Lt (.str x t) (.str y u)) Q E s :=
  wpAny_richCompare_same (op := .Lt) (T := "str") (typeIs_str s x t) (typeIs_str s y u) PyProof.Rows.slot_str_lt
    (wpAny_call_entry PyProof.Rows.slot_str_lt (typeIs_str s x t) PyProof.Rows.entry_str_lt (show wpAny _ _ (ret (.bool (x.cps.toList < y.cps.toList))) _ _ s from wpAny_pure ⟨_, rfl, by simp, h⟩) (PyProof.Rows.args_str_lt _ _))
theorem cmp_strs {prog : Program} {w : World} {A : Around} {P : Nat → Value → Prop} (val : Nat → Str) (hval : ∀ i v, P i v → ∃ t, v = .str (val i) t) :
    CmpOf prog w A .Lt P (fun i j => decide ((val i).cps.toList < (val j).cps.toList)) := fun i j vi vj s Q E hi hj h => by
  obtain ⟨t, rfl⟩ := hval i vi hi
  obtain ⟨u, rfl⟩ := hval j vj hj
  exact richCmp_lt_str h
section
variable {X : Cx}
def minS (x y : Str) : Str := if y.cps.toList < x.cps.toList then y else x
/-- min(a, b) of texts -/
def rMinS : List V → Hp → VK → Prop := fun xs H Q => ∃ x y, xs = [.str x, .str y] ∧ Q (.str (minS x y)) H
theorem call_minS (hc : X.calm = true) : CallR X (.builtin "min") rMinS := by
  intro pins s σ H xs us Q I r h
  obtain ⟨x, y, rfl, q⟩ := h
  obtain ⟨u, w', rfl, ⟨t, rfl⟩, ⟨t', rfl⟩⟩ := vals2 r
  have hT : (s.heap.push { cls := .type "tuple", data := .seq #[Value.str x t, Value.str y t'] }).IsTuple s.heap.objs.size #[Value.str x t, Value.str y t'] := ⟨_, Heap.get?_push_size _ rfl, rfl, 0, rfl⟩
  refine call_min_two (wpAny_pyIter_tuple hT ?_)
  have hsz : (s.heap.push { cls := .type "tuple", data := .seq #[Value.str x t, Value.str y t'] }).objs.size = s.heap.objs.size + 1 := Heap.size_push ..
  refine ⟨_, [_, s.heap.objs.size], [_], _, _, _, _, rfl, Walks.tuple (A := X.A.in1) (I.ok.hd hc) _ s.heap.objs.size (by rw [hsz]; exact Nat.ne_of_lt (Nat.lt_succ_self _)) #[Value.str x t, Value.str y t'],
    ⟨⟨_, Heap.get?_push_size _ rfl, rfl, rfl⟩, hT.push _⟩, fun c hcm => ?_, by simp, cmp_strs (fun i => if i = 0 then x else y) (fun i v hv => ?_), fun v h' tk hP hk => ?_⟩
  · show c < ((s.heap.push _).push _).objs.size
    rw [Heap.size_push, hsz]
    rcases List.mem_cons.mp hcm with rfl | hcm
    · rw [hsz]; exact Nat.lt_succ_self _
    · rcases List.mem_cons.mp hcm with rfl | hcm
      · exact Nat.lt_succ_of_lt (Nat.lt_succ_self _)
      · cases hcm
  · match i, hv with
    | 0, hv => simp at hv; exact ⟨t, by simp [hv]⟩
    | 1, hv => simp at hv; exact ⟨t', by simp [hv]⟩
    | n + 2, hv => simp at hv
  · have hold : ∀ c o, s.heap.get? c = some o → h'.get? c = some o := fun c o e => by
      refine hk c o (fun hm => ?_) (Heap.get?_push_of_some _ (Heap.get?_push_of_some _ e))
      rcases List.mem_cons.mp hm with e1 | hm
      · have := Heap.lt_size e; rw [e1, hsz] at this; exact Nat.lt_irrefl _ (Nat.lt_of_succ_lt this)
      · cases hm
    refine ⟨.str (minS x y), H, I.kept hold, ?_, q⟩
    have hsz2 : (#[Value.str x t, Value.str y t'] : Array Value).size - 1 = 1 := by simp
    rw [hsz2] at hP
    unfold minS
    by_cases hba : y.cps.toList < x.cps.toList
    · have e : argBest (fun i j => decide ((if i = 0 then x else y).cps.toList < (if j = 0 then x else y).cps.toList)) 1 = 1 := by simp [argBest, hba]
      rw [e] at hP
      rw [if_pos hba]
      have : v = .str y t' := by simpa using hP.symm
      exact ⟨t', this⟩
    · have e : argBest (fun i j => decide ((if i = 0 then x else y).cps.toList < (if j = 0 then x else y).cps.toList)) 1 = 0 := by simp [argBest, hba]
      rw [e] at hP
      rw [if_neg hba]
      have : v = .str x t := by simpa using hP.symm
      exact ⟨t, this⟩
/-- min of a text of two signs -/
def rMinT : List V → Hp → VK → Prop := fun xs H Q => ∃ a b : Nat, xs = [.str ⟨#[a, b]⟩] ∧ Q (.str (minS (sg a) (sg b))) H
theorem call_minT (hc : X.calm = true) : CallR X (.builtin "min") rMinT := by
  intro pins s σ H xs us Q I r h
  obtain ⟨a, b, rfl, q⟩ := h
  obtain ⟨u, rfl, t, rfl⟩ := vals1 r
  refine call_min_walk (wpAny_pyIter_str fun o St W st => ?_)
  have hsz : (s.heap.push o).objs.size = s.heap.objs.size + 1 := Heap.size_push ..
  refine ⟨_, _, _, _, _, _, _, rfl, W X.A.in1 (I.ok.hd hc), st, fun c hcm => ?_, by simp, cmp_strs (fun i => if i = 0 then sg a else sg b) (fun i v hv => ?_), fun v h' tk hP hk => ?_⟩
  · rcases List.mem_cons.mp hcm with rfl | hcm
    · show s.heap.objs.size < (s.heap.push o).objs.size
      rw [hsz]; exact Nat.lt_succ_self _
    · cases hcm
  · obtain ⟨c, u, h1, h2⟩ := hv
    match i, h1 with
    | 0, h1 => simp at h1; exact ⟨u, by rw [h2, ← h1]; rfl⟩
    | 1, h1 => simp at h1; exact ⟨u, by rw [h2, ← h1]; rfl⟩
    | n + 2, h1 => simp at h1
  · have hold : ∀ c o, s.heap.get? c = some o → h'.get? c = some o := fun c o e => by
      refine hk c o (fun hm => ?_) (Heap.get?_push_of_some _ e)
      rcases List.mem_cons.mp hm with e1 | hm
      · have := Heap.lt_size e; rw [e1] at this; exact Nat.lt_irrefl _ this
      · cases hm
    refine ⟨.str (minS (sg a) (sg b)), H, I.kept hold, ?_, q⟩
    have hsz2 : (⟨#[a, b]⟩ : Str).cps.size - 1 = 1 := by simp
    rw [hsz2] at hP
    unfold minS
    by_cases hba : (sg b).cps.toList < (sg a).cps.toList
    · have e : argBest (fun i j => decide ((if i = 0 then sg a else sg b).cps.toList < (if j = 0 then sg a else sg b).cps.toList)) 1 = 1 := by simp [argBest, hba]
      rw [e] at hP
      rw [if_pos hba]
      obtain ⟨c, u, h1, h2⟩ := hP
      simp at h1
      exact ⟨u, by rw [h2, ← h1]; rfl⟩
    · have e : argBest (fun i j => decide ((if i = 0 then sg a else sg b).cps.toList < (if j = 0 then sg a else sg b).cps.toList)) 1 = 0 := by simp [argBest, hba]
      rw [e] at hP
      rw [if_neg hba]
      obtain ⟨c, u, h1, h2⟩ := hP
      simp at h1
      exact ⟨u, by rw [h2, ← h1]; rfl⟩
def rListT : List V → Hp → VK → Prop := fun xs H Q => ∃ z : Str, xs = [.str z] ∧ z.cps.size ≤ sizeLine ∧ ∀ l, H l = none → Q (.ref l) (upd H l (.lst (z.cps.toList.map fun c => V.str (sg c))))
theorem call_list_T (hc : X.calm = true) : CallR X (.type "list") rListT := by
  intro pins s σ H xs us Q I r h
  obtain ⟨z, rfl, hz, q⟩ := h
  obtain ⟨u, rfl, t, rfl⟩ := vals1 r
  refine call_list_str (I.ok.hd hc) z t (fun h' tk acc' c' hk hS hacc => ?_) hz
  refine ⟨.ref s.heap.objs.size, _, I.laid hk (Nat.le_refl _) (show ObjOk X.prog X.w _ h' _ (.lst (z.cps.toList.map fun c => V.str (sg c))) from ⟨?_, acc'.toList, c', ?_, ?_⟩), rfl, q _ (I.hok.fresh (Nat.le_refl _))⟩
  · rw [List.length_map, Array.length_toList]; exact hz
  · have el : acc'.toList.length = acc'.size := by simp
    refine vals_of_at (by rw [List.length_map, Array.length_toList, el, hacc.1]) fun j x w h1 h2 => ?_
    obtain ⟨c, u, h3, h4⟩ := hacc.2 j w (by rw [← Array.getElem?_toList]; exact h2)
    rw [List.getElem?_map, Array.getElem?_toList, h3] at h1
    cases h1
    exact ⟨u, h4⟩
  · rw [Array.toArray_toList]; exact hS
def rListS' (K : Frg) : List V → Hp → VK → Prop := fun xs H Q => ∃ p ys, xs = [.ref p] ∧ (SqL K H p ys ∨ SqT K H p ys) ∧ ∀ l, H l = none → Q (.ref l) (upd H l (.lst ys))
def rLIST (K : Frg) : List V → Hp → VK → Prop := fun xs H Q => rListS' K xs H Q ∨ rListT xs H Q
theorem cor {f : Value} {r r' : List V → Hp → VK → Prop} (h : CallR X f r) (h' : CallR X f r') : CallR X f fun xs H Q => r xs H Q ∨ r' xs H Q := by
  intro pins s σ H xs us Q I rs q
  rcases q with q | q
  · exact h pins s σ H xs us Q I rs q
  · exact h' pins s σ H xs us Q I rs q
theorem call_LIST (hc : X.calm = true) : CallR X (.type "list") (rLIST X.K) := cor call_list_of (call_list_T hc)
def rMinI : List V → Hp → VK → Prop := fun xs H Q => ∃ i j, xs = [.int i, .int j] ∧ Q (.int (if j < i then j else i)) H
def rMIN : List V → Hp → VK → Prop := fun xs H Q => rMinI xs H Q ∨ (rMinS xs H Q ∨ rMinT xs H Q)
theorem call_MIN (hc : X.calm = true) : CallR X (.builtin "min") rMIN := cor (call_min2 hc) (cor (call_minS hc) (call_minT hc))
def rMaxI : List V → Hp → VK → Prop := fun xs H Q => ∃ i j, xs = [.int i, .int j] ∧ Q (.int (if j > i then j else i)) H
theorem call_MAX2 (hc : X.calm = true) : CallR X (.builtin "max") rMaxI := call_max2 hc
def rABS : List V → Hp → VK → Prop := fun xs H Q => ∃ i, xs = [.int i] ∧ Q (.int (if i < 0 then -i else i)) H
theorem call_ABS : CallR X (.builtin "abs") rABS := call_abs
def rTUPLE (K : Frg) : List V → Hp → VK → Prop := fun xs H Q => ∃ p ys, xs = [.ref p] ∧ ((SqL K H p ys ∧ ∀ l, H l = none → Q (.ref l) (upd H l (.tup ys))) ∨ (SqT K H p ys ∧ Q (.ref p) H))
theorem call_TUPLE : CallR X (.type "tuple") (rTUPLE X.K) := call_tuple_of
def rSTRI : List V → Hp → VK → Prop := fun xs H Q => ∃ i, xs = [.int i] ∧ i.natAbs.log2 < 1920 ∧ Q (.str (toString i)) H
theorem call_STRI : CallR X (.type "str") rSTRI := call_str_int
def rINT : List V → Hp → VK → Prop := fun xs H Q => ((∃ i, xs = [.int i] ∧ Q (.int i) H) ∨ ∃ k, xs = [.bl k] ∧ Q (.int (if k then 1 else 0)) H) ∨ ∃ a n, xs = [.str a] ∧ PySem.intText? a = some n ∧ a.length ≤ 640 ∧ Q (.int n) H
theorem call_INT : CallR X (.type "int") rINT := cor call_int1 call_int_str
end
section
variable {Γ : Cg} {K : Frg} {F : Hp} {ms : Ms} {S : Sg} {Q : QE} {ta tb te tx : TE} {t u tt : TT} {r : R2} {ts tu tw : TS} {A : AEnds}
theorem rep_l {d : D} {a : Addr} {H : Hp} {ds : List D} (hd : d = .lst ds ∨ d = .rdl ds) {v : V} (r : Rep K F d v) (e : Ex F H) : ∃ p ys, v = .ref p ∧ SqL K H p ys ∧ RepL K F ds ys := by
  rcases hd with rfl | rfl
  · cases r with
    | lst h r => exact ⟨_, _, rfl, SqL.of (e _ _ h), r⟩
  · cases r with
    | rdl h r => exact ⟨_, _, rfl, ex_l e h, r⟩
theorem ac2 {rc : List V → Hp → VK → Prop} {d d2 : D} (h : ∀ (R : Ms) v v2 H (Qc : VK), Rep K F d v → Rep K F d2 v2 → Hold K F (ms ++ R) H → (∀ F' ms' d v H', Ex F F' → Hold K F' (ms' ++ R) H' → Rep K F' d v → Q F' ms' d → Qc v H') → rc [v, v2] H Qc) : AC K rc [d, d2] F ms Q := fun R vs H Qc hv hh k => by
  cases hv with
  | cons h1 h2 =>
    cases h2 with
    | cons h2 h3 =>
      cases h3
      exact h R _ _ H Qc h1 h2 hh k
theorem AC.or1 {rc rc' : List V → Hp → VK → Prop} {ds : List D} (h : AC K rc ds F ms Q) : AC K (fun xs H Q => rc xs H Q ∨ rc' xs H Q) ds F ms Q := fun R vs H Qc hv hh k => .inl (h R vs H Qc hv hh k)
theorem AC.or2 {rc rc' : List V → Hp → VK → Prop} {ds : List D} (h : AC K rc' ds F ms Q) : AC K (fun xs H Q => rc xs H Q ∨ rc' xs H Q) ds F ms Q := fun R vs H Qc hv hh k => .inr (h R vs H Qc hv hh k)
theorem ac_abs {i : Int} (q : Q F ms (.int (if i < 0 then -i else i))) : AC K rABS [.int i] F ms Q := ac1 fun R v H Qc hv hh k => by
  cases hv
  exact ⟨i, rfl, k F ms _ _ H Ex.refl hh (.int _) q⟩
/-- list(x): a new list, frozen or owned -/
theorem ac_listF {d : D} {ds : List D} (hd : (d = .lst ds ∨ d = .rdl ds) ∨ d = .tup ds) (q : ∀ F', Ex F F' → Q F' ms (.lst ds)) : AC K (rLIST K) [d] F ms Q := AC.or1 (ac1 fun R v H Qc hv hh k => by
  have : ∃ p ys, v = .ref p ∧ (SqL K H p ys ∨ SqT K H p ys) ∧ RepL K F ds ys := by
    rcases hd with hd | rfl
    · obtain ⟨p, ys, h1, h2, h3⟩ := rep_l (a := 0) hd hv hh.ex
      exact ⟨p, ys, h1, .inl h2, h3⟩
    · cases hv with
      | tup h r => exact ⟨_, _, rfl, .inr (ex_t hh.ex h), r⟩
  obtain ⟨p, ys, rfl, h2, h3⟩ := this
  refine ⟨p, ys, rfl, h2, fun l hl => ?_⟩
  obtain ⟨e, hh'⟩ := hh.laid (.lst ys) hl
  exact k _ ms (.lst ds) _ _ e hh' (.lst upd_same (h3.mono e)) (q _ e))
theorem ac_listO {d : D} {ds : List D} (hd : (d = .lst ds ∨ d = .rdl ds) ∨ d = .tup ds) (q : ∀ l, Q F ((l, .lst ds) :: ms) (.ref l)) : AC K (rLIST K) [d] F ms Q := AC.or1 (ac1 fun R v H Qc hv hh k => by
  have : ∃ p ys, v = .ref p ∧ (SqL K H p ys ∨ SqT K H p ys) ∧ RepL K F ds ys := by
    rcases hd with hd | rfl
    · obtain ⟨p, ys, h1, h2, h3⟩ := rep_l (a := 0) hd hv hh.ex
      exact ⟨p, ys, h1, .inl h2, h3⟩
    · cases hv with
      | tup h r => exact ⟨_, _, rfl, .inr (ex_t hh.ex h), r⟩
  obtain ⟨p, ys, rfl, h2, h3⟩ := this
  refine ⟨p, ys, rfl, h2, fun l hl => ?_⟩
  exact k F ((l, .lst ds) :: ms) (.ref l) _ _ Ex.refl (hh.made (m := .lst ds) hl ⟨ys, upd_same, h3⟩) (.ref l) (q l))
theorem ac_listOo {l0 : Addr} {ds : List D} (n : Nat) (hn : ms[n]? = some (l0, .lst ds)) (q : ∀ l, Q F ((l, .lst ds) :: ms) (.ref l)) : AC K (rLIST K) [.ref l0] F ms Q := AC.or1 (ac1 fun R v H Qc hv hh k => by
  cases hv
  obtain ⟨_, ys, hl, h3⟩ := hh.at (get_app hn)
  refine ⟨l0, ys, rfl, .inl (SqL.of hl), fun l hl => ?_⟩
  exact k F ((l, .lst ds) :: ms) (.ref l) _ _ Ex.refl (hh.made (m := .lst ds) hl ⟨ys, upd_same, h3⟩) (.ref l) (q l))
theorem repL_chars (z : Str) : RepL K F (charsD z) (z.cps.toList.map fun c => V.str (sg c)) := by
  unfold charsD
  induction z.cps.toList with
  | nil => exact .nil
  | cons c r ih => exact .cons (.str _) ih
theorem ac_listT {z : Str} (hz : z.length ≤ 100000) (q : ∀ F', Ex F F' → Q F' ms (.lst (charsD z))) : AC K (rLIST K) [.str z] F ms Q := AC.or2 (ac1 fun R v H Qc hv hh k => by
  cases hv
  refine ⟨z, rfl, Evl.sz_of hz, fun l hl => ?_⟩
  obtain ⟨e, hh'⟩ := hh.laid (.lst (z.cps.toList.map fun c => V.str (sg c))) hl
  exact k _ ms (.lst (charsD z)) _ _ e hh' (.lst upd_same (repL_chars z)) (q _ e))
theorem ac_tupleL {d : D} {ds : List D} (hd : d = .lst ds ∨ d = .rdl ds) (q : ∀ F', Ex F F' → Q F' ms (.tup ds)) : AC K (rTUPLE K) [d] F ms Q := ac1 fun R v H Qc hv hh k => by
  obtain ⟨p, ys, rfl, h2, h3⟩ := rep_l (a := 0) hd hv hh.ex
  refine ⟨p, ys, rfl, .inl ⟨h2, fun l hl => ?_⟩⟩
  obtain ⟨e, hh'⟩ := hh.laid (.tup ys) hl
  exact k _ ms (.tup ds) _ _ e hh' (.tup (SqT.of upd_same) (h3.mono e)) (q _ e)
theorem ac_tupleT {ds : List D} (q : Q F ms (.tup ds)) : AC K (rTUPLE K) [.tup ds] F ms Q := ac1 fun R v H Qc hv hh k => by
  cases hv with
  | tup h r => exact ⟨_, _, rfl, .inr ⟨ex_t hh.ex h, k F ms (.tup ds) _ _ Ex.refl hh (.tup h r) q⟩⟩
theorem ac_minI {i j : Int} (q : Q F ms (.int (if j < i then j else i))) : AC K rMIN [.int i, .int j] F ms Q := AC.or1 (ac2 fun R v v2 H Qc hv hv2 hh k => by
  cases hv; cases hv2
  exact ⟨i, j, rfl, k F ms _ _ H Ex.refl hh (.int _) q⟩)
theorem ac_minS {i j : Str} (q : Q F ms (.str (minS i j))) : AC K rMIN [.str i, .str j] F ms Q := AC.or2 (AC.or1 (ac2 fun R v v2 H Qc hv hv2 hh k => by
  cases hv; cases hv2
  exact ⟨i, j, rfl, k F ms _ _ H Ex.refl hh (.str _) q⟩))
theorem ac_minT {a b : Nat} (q : Q F ms (.str (minS (sg a) (sg b)))) : AC K rMIN [.str ⟨#[a, b]⟩] F ms Q := AC.or2 (AC.or2 (ac1 fun R v H Qc hv hh k => by
  cases hv
  exact ⟨a, b, rfl, k F ms _ _ H Ex.refl hh (.str _) q⟩))
theorem ac_maxI {i j : Int} (q : Q F ms (.int (if j > i then j else i))) : AC K rMaxI [.int i, .int j] F ms Q := ac2 fun R v v2 H Qc hv hv2 hh k => by
  cases hv; cases hv2
  exact ⟨i, j, rfl, k F ms _ _ H Ex.refl hh (.int _) q⟩
theorem ac_strI {i : Int} (hi : i.natAbs < 1000000) (q : Q F ms (.str (toString i))) : AC K rSTRI [.int i] F ms Q := ac1 fun R v H Qc hv hh k => by
  cases hv
  refine ⟨i, rfl, ?_, k F ms _ _ H Ex.refl hh (.str _) q⟩
  by_cases h0 : i.natAbs = 0
  · rw [h0]; decide
  · have h1 : i.natAbs.log2 < 20 := (Nat.log2_lt h0).mpr (by omega)
    omega
theorem ac_intI {i : Int} (q : Q F ms (.int i)) : AC K rINT [.int i] F ms Q := AC.or1 (AC.or1 (ac1 fun R v H Qc hv hh k => by
  cases hv
  exact ⟨i, rfl, k F ms _ _ H Ex.refl hh (.int _) q⟩))
theorem ac_intB {b : Bool} (q : Q F ms (.int (if b then 1 else 0))) : AC K rINT [.bl b] F ms Q := AC.or1 (AC.or2 (ac1 fun R v H Qc hv hh k => by
  cases hv
  exact ⟨b, rfl, k F ms _ _ H Ex.refl hh (.int _) q⟩))
theorem ac_intS {z : Str} {n : Int} (h : PySem.intText? z = some n) (hz : z.length ≤ 640) (q : Q F ms (.int n)) : AC K rINT [.str z] F ms Q := AC.or2 (ac1 fun R v H Qc hv hh k => by
  cases hv
  exact ⟨z, n, rfl, h, hz, k F ms _ _ H Ex.refl hh (.int _) q⟩)
/-! ### isinstance -/
def kindD : D → String
  | .non => "NoneType" | .bl _ => "bool" | .int _ => "int" | .str _ => "str" | .tup _ => "tuple" | .lst _ => "list" | .rdl _ => "list" | .dic _ => "dict" | .ref _ => "" | .ty _ => ""
theorem ty_of {d : D} {v : V} {H : Hp} (r : Rep K F d v) (e : Ex F H) (hd : kindD d ≠ "") (hr : ∀ ds, d ≠ .rdl ds) : TyX K H v (.type (kindD d)) := by
  cases r with
  | non => exact .base .non
  | bl b => exact .base (.bl b)
  | int i => exact .base (.int i)
  | str x => exact .base (.str x)
  | ref a => exact absurd rfl hd
  | ty n => exact absurd rfl hd
  | tup h r =>
    rcases ex_t e h with (h | ⟨o, h⟩) | ⟨o, _, _, h, hc, _⟩
    · exact .base (.tup h)
    · exact .fTuple h
    · exact .kTuple h hc
  | lst h r => exact .base (.lst (e _ _ h))
  | rdl h r => exact absurd rfl (hr _)
  | dic h r => exact .base (.dK (e _ _ h))
theorem ac_isi {d : D} {n : String} (hd : kindD d ≠ "" := by decide) (hr : ∀ ds, d ≠ .rdl ds := by (intro ds h; cases h)) {b : Bool} (hk : kitB (kindD d) n = some b) (q : Q F ms (.bl b)) : AC K (rIsi K) [d, .ty n] F ms Q := ac2 fun R v v2 H Qc hv hv2 hh k => by
  cases hv2
  exact ⟨v, .ty n, _, _, b, rfl, .ty n, ty_of hv hh.ex hd hr, kit_ty hk, k F ms _ _ H Ex.refl hh (.bl _) q⟩
/-- an owned list -/
theorem ac_isiO {l : Addr} {ds : List D} {n : String} (j : Nat) (hj : ms[j]? = some (l, .lst ds)) {b : Bool} (hk : kitB "list" n = some b) (q : Q F ms (.bl b)) : AC K (rIsi K) [.ref l, .ty n] F ms Q := ac2 fun R v v2 H Qc hv hv2 hh k => by
  cases hv2; cases hv
  obtain ⟨_, vs, hl, _⟩ := hh.at (get_app hj)
  exact ⟨_, .ty n, _, _, b, rfl, .ty n, .base (.lst hl), kit_ty hk, k F ms _ _ H Ex.refl hh (.bl _) q⟩
end
end AL

set_option Elab.async false
set_option linter.all false
set_option maxRecDepth 100000
set_option maxHeartbeats 4000000
namespace AL
open PySem L2
/-! ### plain data, == -/
mutual
def toPy : D → PyData
  | .non => .none
  | .bl b => .bool b
  | .int i => .int i
  | .str x => .str x
  | .tup ds => .tuple (toPyL ds)
  | .lst ds => .list (toPyL ds)
  | .rdl ds => .list (toPyL ds)
  | .ref _ => .none
  | .ty _ => .none
  | .dic _ => .none
def toPyL : List D → List PyData
  | [] => []
  | d :: ds => toPy d :: toPyL ds
end
mutual
/-- no objects in it, its texts of plain signs -/
def okD : D → Bool
  | .non => true
  | .bl _ => true
  | .int _ => true
  | .str x => PyData.strOk x
  | .tup ds => okL ds
  | .lst ds => okL ds
  | .rdl ds => okL ds
  | .ref _ => false
  | .ty _ => false
  | .dic _ => false
def okL : List D → Bool
  | [] => true
  | d :: ds => okD d && okL ds
end
mutual
def dep : D → Nat
  | .tup ds => depL ds + 1
  | .lst ds => depL ds + 1
  | .rdl ds => depL ds + 1
  | .non => 0
  | .bl _ => 0
  | .int _ => 0
  | .str _ => 0
  | .ref _ => 0
  | .ty _ => 0
  | .dic _ => 0
def depL : List D → Nat
  | [] => 0
  | d :: ds => max (dep d) (depL ds)
end
def eqvD (d e : D) : Bool := PyData.eqv (toPy d) (toPy e)
mutual
theorem lay_ok : ∀ d : D, okD d = true → (toPy d).canLay0 = true
  | .non, _ => rfl
  | .bl _, _ => rfl
  | .int _, _ => rfl
  | .str x, h => by
    unfold okD at h
    unfold toPy PyData.canLay0
    exact h
  | .tup ds, h => by
    unfold okD at h
    unfold toPy PyData.canLay0
    exact layL_ok ds h
  | .lst ds, h => by
    unfold okD at h
    unfold toPy PyData.canLay0
    exact layL_ok ds h
  | .rdl ds, h => by
    unfold okD at h
    unfold toPy PyData.canLay0
    exact layL_ok ds h
  | .ref _, h => by unfold okD at h; cases h
  | .ty _, h => by unfold okD at h; cases h
  | .dic _, h => by unfold okD at h; cases h
theorem layL_ok : ∀ ds : List D, okL ds = true → PyData.canLayAll0 (toPyL ds) = true
  | [], _ => rfl
  | d :: ds, h => by
    unfold okL at h
    rw [Bool.and_eq_true] at h
    unfold toPyL PyData.canLayAll0
    rw [lay_ok d h.1, layL_ok ds h.2]
    rfl
end
mutual
theorem dep_ok : ∀ d : D, (toPy d).depth = dep d
  | .non => rfl
  | .bl _ => rfl
  | .int _ => rfl
  | .str x => rfl
  | .tup ds => by unfold toPy PyData.depth dep; rw [depL_ok ds]
  | .lst ds => by unfold toPy PyData.depth dep; rw [depL_ok ds]
  | .rdl ds => by unfold toPy PyData.depth dep; rw [depL_ok ds]
  | .ref _ => rfl
  | .ty _ => rfl
  | .dic _ => rfl
theorem depL_ok : ∀ ds : List D, PyData.depthAll (toPyL ds) = depL ds
  | [] => rfl
  | d :: ds => by unfold toPyL PyData.depthAll depL; rw [dep_ok d, depL_ok ds]
end
theorem shaped_ok {d : D} (h : okD d = true) (h2 : dep d ≤ 64) : SeqAt.shaped (toPy d) = true := by
  unfold SeqAt.shaped
  rw [lay_ok d h, dep_ok d, decide_eq_true h2]
  rfl
section
variable {K : Frg} {F H : Hp}
mutual
theorem dp_of (e : Ex F H) : ∀ {d : D} {v : V}, okD d = true → Rep K F d v → Dp K H v (toPy d)
  | _, _, _, .non => by unfold toPy; exact .non
  | _, _, _, .bl b => by unfold toPy; exact .bl b
  | _, _, _, .int i => by unfold toPy; exact .int i
  | _, _, _, .str x => by unfold toPy; exact .str x
  | .ref _, _, h, _ => by unfold okD at h; cases h
  | .ty _, _, h, _ => by unfold okD at h; cases h
  | _, _, h, .tup q r => by unfold okD at h; unfold toPy; exact .tup (ex_t e q) (dpL_of e h r)
  | _, _, h, .lst q r => by unfold okD at h; unfold toPy; exact .lst (SqL.of (e _ _ q)) (dpL_of e h r)
  | _, _, h, .rdl q r => by unfold okD at h; unfold toPy; exact .lst (ex_l e q) (dpL_of e h r)
  | .dic _, _, h, _ => by unfold okD at h; cases h
theorem dpL_of (e : Ex F H) : ∀ {ds : List D} {vs : List V}, okL ds = true → RepL K F ds vs → DpAll K H vs (toPyL ds)
  | _, _, _, .nil => by unfold toPyL; exact .nil
  | _, _, h, .cons q r => by
    unfold okL at h
    rw [Bool.and_eq_true] at h
    unfold toPyL
    exact .cons (dp_of e h.1 q) (dpL_of e h.2 r)
end
end
theorem eqv_self : ∀ d : D, okD d = true → eqvD d d = true := fun d h => by
  unfold eqvD
  exact SeqAt.eqv_refl _ (lay_ok d h)
/-- ==, != -/
def rEQ (K : Frg) : R2 := fun x y H Q => rEq x y H Q ∨ rEqD K x y H Q
def rNE (K : Frg) : R2 := fun x y H Q => rNe x y H Q ∨ rNeD K x y H Q
theorem op_EQ {X : Cx} (hu : X.A.units + 64 < cLine) : OpR X (compareOp .Eq) (rEQ X.K) := op_eq.or (op_eqD hu)
theorem op_NE {X : Cx} (hu : X.A.units + 64 < cLine) : OpR X (compareOp .NotEq) (rNE X.K) := op_ne.or (op_neD hu)
section
variable {Γ : Cg} {K : Frg} {F : Hp} {ms : Ms} {S : Sg} {Q : QE} {ta tb te tx : TE} {t u tt : TT} {r : R2} {ts tu tw : TS} {A : AEnds}
theorem ar_EQi {i j : Int} (q : Q F ms (.bl (decide (i = j)))) : AR K (rEQ K) (.int i) (.int j) F ms Q := ar_inl (ar_eqI q)
theorem ar_EQs {i j : Str} (q : Q F ms (.bl (decide (i = j)))) : AR K (rEQ K) (.str i) (.str j) F ms Q := ar_inl (ar_eqS q)
theorem ar_EQb {i j : Bool} (q : Q F ms (.bl (decide (i = j)))) : AR K (rEQ K) (.bl i) (.bl j) F ms Q := ar_inl (ar_eqB q)
theorem ar_NEi {i j : Int} (q : Q F ms (.bl (!decide (i = j)))) : AR K (rNE K) (.int i) (.int j) F ms Q := ar_inl (ar_neI q)
theorem ar_NEs {i j : Str} (q : Q F ms (.bl (!decide (i = j)))) : AR K (rNE K) (.str i) (.str j) F ms Q := ar_inl (ar_neS q)
theorem ar_EQd {d e : D} (h1 : okD d = true) (h2 : okD e = true) (h3 : dep d ≤ 64) (h4 : dep e ≤ 64) (q : Q F ms (.bl (eqvD d e))) : AR K (rEQ K) d e F ms Q := ar_inr fun R u v H Qc hu hv hh k =>
  ⟨toPy d, toPy e, dp_of hh.ex h1 hu, dp_of hh.ex h2 hv, shaped_ok h1 h3, shaped_ok h2 h4, k F ms _ _ H Ex.refl hh (.bl _) q⟩
theorem ar_NEd {d e : D} (h1 : okD d = true) (h2 : okD e = true) (h3 : dep d ≤ 64) (h4 : dep e ≤ 64) (q : Q F ms (.bl (!eqvD d e))) : AR K (rNE K) d e F ms Q := ar_inr fun R u v H Qc hu hv hh k =>
  ⟨toPy d, toPy e, dp_of hh.ex h1 hu, dp_of hh.ex h2 hv, shaped_ok h1 h3, shaped_ok h2 h4, k F ms _ _ H Ex.refl hh (.bl _) q⟩
/-- an owned list of plain data, compared -/
theorem ar_EQo {l : Addr} {ds : List D} {e : D} (n : Nat) (hn : ms[n]? = some (l, .lst ds)) (h1 : okL ds = true) (h2 : okD e = true) (h3 : depL ds < 64) (h4 : dep e ≤ 64) (q : Q F ms (.bl (eqvD (.lst ds) e))) : AR K (rEQ K) (.ref l) e F ms Q := ar_inr fun R u v H Qc hu hv hh k => by
  cases hu
  obtain ⟨_, vs, hl, r⟩ := hh.at (get_app hn)
  have hd : okD (.lst ds) = true := by unfold okD; exact h1
  have hd2 : dep (.lst ds) ≤ 64 := by unfold dep; omega
  exact ⟨toPy (.lst ds), toPy e, by unfold toPy; exact .lst (SqL.of hl) (dpL_of hh.ex h1 r), dp_of hh.ex h2 hv, shaped_ok hd hd2, shaped_ok h2 h4, k F ms _ _ H Ex.refl hh (.bl _) q⟩
theorem ar_NEo {l : Addr} {ds : List D} {e : D} (n : Nat) (hn : ms[n]? = some (l, .lst ds)) (h1 : okL ds = true) (h2 : okD e = true) (h3 : depL ds < 64) (h4 : dep e ≤ 64) (q : Q F ms (.bl (!eqvD (.lst ds) e))) : AR K (rNE K) (.ref l) e F ms Q := ar_inr fun R u v H Qc hu hv hh k => by
  cases hu
  obtain ⟨_, vs, hl, r⟩ := hh.at (get_app hn)
  have hd : okD (.lst ds) = true := by unfold okD; exact h1
  have hd2 : dep (.lst ds) ≤ 64 := by unfold dep; omega
  exact ⟨toPy (.lst ds), toPy e, by unfold toPy; exact .lst (SqL.of hl) (dpL_of hh.ex h1 r), dp_of hh.ex h2 hv, shaped_ok hd hd2, shaped_ok h2 h4, k F ms _ _ H Ex.refl hh (.bl _) q⟩
/-! ### is -/
def rISN : R2 := fun x y H Q => y = .non ∧ Q (.bl (decide (x = .non))) H
def rNOTN : R2 := fun x y H Q => y = .non ∧ Q (.bl (!decide (x = .non))) H
theorem op_ISN {X : Cx} : OpR X (compareOp .Is) rISN := op_isN
theorem op_NOTN {X : Cx} : OpR X (compareOp .IsNot) rNOTN := op_notN
def isN : D → Bool
  | .non => true
  | _ => false
theorem isN_v {d : D} {v : V} (r : Rep K F d v) : decide (v = .non) = isN d := by
  cases r <;> first | rfl | exact decide_eq_false (fun h => by cases h)
theorem ar_isN {d : D} (q : Q F ms (.bl (isN d))) : AR K rISN d .non F ms Q := fun R u v H Qc hu hv hh k => by
  cases hv
  refine ⟨rfl, ?_⟩
  rw [isN_v hu]
  exact k F ms _ _ H Ex.refl hh (.bl _) q
theorem ar_notN {d : D} (q : Q F ms (.bl (!isN d))) : AR K rNOTN d .non F ms Q := fun R u v H Qc hu hv hh k => by
  cases hv
  refine ⟨rfl, ?_⟩
  rw [isN_v hu]
  exact k F ms _ _ H Ex.refl hh (.bl _) q
/-! ### in -/
def rInS1 : R2 := fun x y H Q => ∃ (c : Nat) (z : Str), x = .str ⟨#[c]⟩ ∧ y = .str z ∧ Q (.bl (decide (c ∈ z.cps.toList))) H
def rNotInS1 : R2 := fun x y H Q => ∃ (c : Nat) (z : Str), x = .str ⟨#[c]⟩ ∧ y = .str z ∧ Q (.bl (!decide (c ∈ z.cps.toList))) H
def rIN (K : Frg) : R2 := fun x y H Q => rInS1 x y H Q ∨ rIn K false x y H Q
def rNOTIN (K : Frg) : R2 := fun x y H Q => rNotInS1 x y H Q ∨ rIn K true x y H Q
theorem op_INN {X : Cx} : OpR X (compareOp .In) (rIN X.K) := op_in_sign.or op_in_seq
theorem op_NOTINN {X : Cx} : OpR X (compareOp .NotIn) (rNOTIN X.K) := op_notIn_sign.or op_notIn_seq
theorem ar_INs {c : Nat} {z : Str} (q : Q F ms (.bl (decide (c ∈ z.cps.toList)))) : AR K (rIN K) (.str (sg c)) (.str z) F ms Q := ar_inl fun R u v H Qc hu hv hh k => by
  cases hu; cases hv
  exact ⟨c, z, rfl, rfl, k F ms _ _ H Ex.refl hh (.bl _) q⟩
theorem ar_NOTINs {c : Nat} {z : Str} (q : Q F ms (.bl (!decide (c ∈ z.cps.toList)))) : AR K (rNOTIN K) (.str (sg c)) (.str z) F ms Q := ar_inl fun R u v H Qc hu hv hh k => by
  cases hu; cases hv
  exact ⟨c, z, rfl, rfl, k F ms _ _ H Ex.refl hh (.bl _) q⟩
end
end AL

set_option Elab.async false
set_option linter.all false
set_option maxRecDepth 100000
set_option maxHeartbeats 4000000
namespace AL
open PySem L2
def keyD : D → Option Key
  | .int i => some (.inl i)
  | .str x => some (.inr x)
  | _ => none
theorem key_rep {K : Frg} {F : Hp} {d : D} {v : V} {k : Key} (r : Rep K F d v) (h : keyD d = some k) : v = kV k := by
  cases r <;> first | (unfold keyD at h; cases h; done) | (unfold keyD at h; cases h; rfl)
def valD (kvs : List (Key × D)) (k : Key) : Option D := (kvs.find? fun kv => decide (kv.1 = k)).map (·.2)
def putKD (kvs : List (Key × D)) (k : Key) (d : D) : List (Key × D) := if kvs.any (fun kv => decide (kv.1 = k)) then kvs.map (fun kv => if kv.1 = k then (kv.1, d) else kv) else kvs ++ [(k, d)]
section
variable {K : Frg} {F : Hp}
theorem RepK.val : ∀ {ds : List (Key × D)} {vs : List (Key × V)} (k : Key), RepK K F ds vs → (valD ds k = none ∧ valV vs k = none) ∨ ∃ d v, valD ds k = some d ∧ valV vs k = some v ∧ Rep K F d v
  | _, _, k, .nil => .inl ⟨rfl, rfl⟩
  | _, _, k, .cons (k := k') (d := d) (v := v) h r => by
    by_cases e : k' = k
    · refine .inr ⟨d, v, ?_, ?_, h⟩
      · unfold valD; rw [List.find?_cons]; simp [e]
      · exact valV_pos e
    · rcases RepK.val k r with ⟨a, b⟩ | ⟨d', v', a, b, c⟩
      · refine .inl ⟨?_, by rw [valV_neg e]; exact b⟩
        unfold valD at a ⊢; rw [List.find?_cons]; simp only [decide_eq_false e]; exact a
      · refine .inr ⟨d', v', ?_, by rw [valV_neg e]; exact b, c⟩
        unfold valD at a ⊢; rw [List.find?_cons]; simp only [decide_eq_false e]; exact a
theorem RepK.any : ∀ {ds : List (Key × D)} {vs : List (Key × V)} (k : Key), RepK K F ds vs → (ds.any fun kv => decide (kv.1 = k)) = (vs.any fun kv => decide (kv.1 = k))
  | _, _, k, .nil => rfl
  | _, _, k, .cons h r => by rw [List.any_cons, List.any_cons, RepK.any k r]
theorem RepK.repl {d : D} {v : V} (h0 : Rep K F d v) (k : Key) : ∀ {ds : List (Key × D)} {vs : List (Key × V)}, RepK K F ds vs → RepK K F (ds.map fun kv => if kv.1 = k then (kv.1, d) else kv) (vs.map fun kv => if kv.1 = k then (kv.1, v) else kv)
  | _, _, .nil => .nil
  | _, _, .cons (k := k') h r => by
    rw [List.map_cons, List.map_cons]
    by_cases e : k' = k
    · rw [if_pos e, if_pos e]; exact .cons h0 (RepK.repl h0 k r)
    · rw [if_neg e, if_neg e]; exact .cons h (RepK.repl h0 k r)
theorem RepK.put {d : D} {v : V} (h0 : Rep K F d v) (k : Key) {ds : List (Key × D)} {vs : List (Key × V)} (r : RepK K F ds vs) : RepK K F (putKD ds k d) (putK vs k v) := by
  unfold putKD putK
  rw [r.any k]
  split
  · exact r.repl h0 k
  · exact r.append (.cons h0 .nil)
end
def cutL {α : Type} (xs : List α) (lo hi : Option Int) : List α := (xs.drop (HT.sIx xs.length 0 lo)).take (HT.sIx xs.length xs.length hi - HT.sIx xs.length 0 lo)
section
variable {Γ : Cg} {K : Frg} {F : Hp} {ms : Ms} {S : Sg} {Q : QE} {ta tb te tx : TE} {t u tt : TT} {r : R2} {ts tu tw : TS} {A : AEnds}
/-- x is a dict of these pairs: frozen or owned -/
def DicA (K : Frg) (F : Hp) (ms : Ms) (x : D) (kvs : List (Key × D)) : Prop := x = .dic kvs ∨ ∃ (n : Nat) (l : Addr), x = .ref l ∧ ms[n]? = some (l, MO.dic kvs)
theorem DicA.to {x : D} {kvs : List (Key × D)} {R : Ms} {H : Hp} {v : V} (i : DicA K F ms x kvs) (hh : Hold K F (ms ++ R) H) (r : Rep K F x v) : ∃ a vs, v = .ref a ∧ H a = some (.dK vs) ∧ RepK K F kvs vs := by
  rcases i with rfl | ⟨n, l, rfl, hn⟩
  · cases r with
    | dic h q => exact ⟨_, _, rfl, hh.ex _ _ h, q⟩
  · cases r
    obtain ⟨_, vs, h, q⟩ := hh.at (get_app hn)
    exact ⟨l, vs, rfl, h, q⟩
theorem ae_dget {td ty : TE} (h : AE Γ td F ms S fun F1 ms1 x => AE Γ ty F1 ms1 S fun F2 ms2 y => ∃ k kvs d, keyD y = some k ∧ DicA Γ.K F2 ms2 x kvs ∧ valD kvs k = some d ∧ Q F2 ms2 d) : AE Γ (tDGet td ty) F ms S Q := fun R σ H Qc hs hh x k =>
  h R σ H _ hs hh x fun F1 ms1 d1 v1 H1 e1 h1 r1 q1 => q1 R σ H1 _ (hs.mono e1) h1 (x.ex e1) fun F2 ms2 y vy H2 e2 h2 r2 ⟨key, kvs, d, hk, hd, hv, q⟩ => by
    obtain ⟨a, vs, rfl, ha, rk⟩ := hd.to h2 (r1.mono e2)
    have ey := key_rep r2 hk
    subst ey
    rcases rk.val key with ⟨z, _⟩ | ⟨d', v', z1, z2, z3⟩
    · rw [hv] at z; cases z
    · rw [hv] at z1
      cases z1
      exact ⟨a, v', rfl, by rw [← z2]; exact DGet.k ha, k F2 ms2 d v' H2 (e1.trans e2) h2 z3 q⟩
theorem ae_din {td ty : TE} (h : AE Γ ty F ms S fun F1 ms1 y => AE Γ td F1 ms1 S fun F2 ms2 x => ∃ k kvs, keyD y = some k ∧ DicA Γ.K F2 ms2 x kvs ∧ Q F2 ms2 (.bl (valD kvs k).isSome)) : AE Γ (tDIn ty td) F ms S Q := fun R σ H Qc hs hh x k =>
  h R σ H _ hs hh x fun F1 ms1 y vy H1 e1 h1 r1 q1 => q1 R σ H1 _ (hs.mono e1) h1 (x.ex e1) fun F2 ms2 d1 v1 H2 e2 h2 r2 ⟨key, kvs, hk, hd, q⟩ => by
    obtain ⟨a, vs, rfl, ha, rk⟩ := hd.to h2 r2
    have ey := key_rep (r1.mono e2) hk
    subst ey
    refine ⟨a, _, rfl, DGet.k ha, k F2 ms2 _ _ H2 (e1.trans e2) h2 ?_ q⟩
    rcases rk.val key with ⟨z1, z2⟩ | ⟨d', v', z1, z2, _⟩
    · rw [z1, z2]; exact .bl false
    · rw [z1, z2]; exact .bl true
theorem ae_dnotin {td ty : TE} (h : AE Γ ty F ms S fun F1 ms1 y => AE Γ td F1 ms1 S fun F2 ms2 x => ∃ k kvs, keyD y = some k ∧ DicA Γ.K F2 ms2 x kvs ∧ Q F2 ms2 (.bl (!(valD kvs k).isSome))) : AE Γ (tDNotIn ty td) F ms S Q := fun R σ H Qc hs hh x k =>
  h R σ H _ hs hh x fun F1 ms1 y vy H1 e1 h1 r1 q1 => q1 R σ H1 _ (hs.mono e1) h1 (x.ex e1) fun F2 ms2 d1 v1 H2 e2 h2 r2 ⟨key, kvs, hk, hd, q⟩ => by
    obtain ⟨a, vs, rfl, ha, rk⟩ := hd.to h2 r2
    have ey := key_rep (r1.mono e2) hk
    subst ey
    refine ⟨a, _, rfl, DGet.k ha, k F2 ms2 _ _ H2 (e1.trans e2) h2 ?_ q⟩
    rcases rk.val key with ⟨z1, z2⟩ | ⟨d', v', z1, z2, _⟩
    · rw [z1, z2]; exact .bl true
    · rw [z1, z2]; exact .bl false
theorem ae_dget2 {td ty : TE} (h : AE Γ td F ms S fun F1 ms1 x => ∃ kvs, DicA Γ.K F1 ms1 x kvs ∧ AE Γ ty F1 ms1 S fun F2 ms2 y => AE Γ tx F2 ms2 S fun F3 ms3 z => ∃ k, keyD y = some k ∧ DicA Γ.K F3 ms3 x kvs ∧ Q F3 ms3 ((valD kvs k).getD z)) : AE Γ (tDGet2 td ty tx) F ms S Q := fun R σ H Qc hs hh x k =>
  h R σ H _ hs hh x fun F1 ms1 d1 v1 H1 e1 h1 r1 ⟨kvs, hd0, q1⟩ => by
    obtain ⟨a, vs, rfl, ha, rk⟩ := hd0.to h1 r1
    refine ⟨a, rfl, .inl ⟨vs, .inl ha⟩, q1 R σ H1 _ (hs.mono e1) h1 (x.ex e1) fun F2 ms2 y vy H2 e2 h2 r2 q2 => q2 R σ H2 _ (hs.mono (e1.trans e2)) h2 (x.ex (e1.trans e2)) fun F3 ms3 z vz H3 e3 h3 r3 ⟨key, hk, hd, q⟩ => ?_⟩
    obtain ⟨a', vs', ea, ha', rk'⟩ := hd.to h3 (r1.mono (e2.trans e3))
    cases ea
    have ey := key_rep (r2.mono e3) hk
    subst ey
    refine ⟨_, DGet.k ha', k F3 ms3 _ _ H3 ((e1.trans e2).trans e3) h3 ?_ q⟩
    rcases rk'.val key with ⟨z1, z2⟩ | ⟨d', v', z1, z2, z3⟩
    · rw [z1, z2]; exact r3
    · rw [z1, z2]; exact z3
theorem length_putKD (kvs : List (Key × D)) (k : Key) (d : D) : (putKD kvs k d).length ≤ kvs.length + 1 := by
  unfold putKD
  split
  · rw [List.length_map]; exact Nat.le_succ _
  · rw [List.length_append, List.length_singleton]; exact Nat.le_refl _
theorem as_dput {td ty tv : TE} (h : AE Γ tv F ms S fun F1 ms1 v => AE Γ td F1 ms1 S fun F2 ms2 x => AE Γ ty F2 ms2 S fun F3 ms3 y => ∃ (n : Nat) (l : Addr) (kvs : List (Key × D)) (k : Key), x = .ref l ∧ ms3[n]? = some (l, .dic kvs) ∧ keyD y = some k ∧ kvs.length < 100000 ∧ A.nx F3 (ms3.set n (l, .dic (putKD kvs k v))) S) :
    AS Γ (sDPut td ty tv) F ms S A := fun R E σ H hs hh l =>
  h R σ H _ hs hh l.xe fun F1 ms1 v vv H1 e1 h1 r1 q1 => q1 R σ H1 _ (hs.mono e1) h1 (l.xe.ex e1) fun F2 ms2 x2 v2 H2 e2 h2 r2 q2 => q2 R σ H2 _ (hs.mono (e1.trans e2)) h2 (l.xe.ex (e1.trans e2)) fun F3 ms3 y vy H3 e3 h3 r3 ⟨n, a, kvs, key, hx, hn, hk, hz, q⟩ => by
    subst hx
    cases r2
    have ey := key_rep r3 hk
    subst ey
    obtain ⟨_, vs, ha, rk⟩ := h3.at (get_app hn)
    refine ⟨a, _, rfl, DPut.k ha (Evl.sz_lt (by rw [← rk.len]; exact hz)), l.nx F3 (ms3.set n (a, .dic (putKD kvs key v))) S σ _ ((e1.trans e2).trans e3) (hs.mono ((e1.trans e2).trans e3)) ?_ q⟩
    rw [← set_app hn]
    exact h3.set (get_app hn) ⟨_, upd_same, rk.put (r1.mono (e2.trans e3)) key⟩
/-! ### methods of built-in types -/
theorem ae_bmS {rm : V → List V → Hp → VK → Prop} {to : TE} {ta : TA} (h : AE Γ to F ms S fun F1 ms1 x => ∃ z, x = .str z ∧ AA Γ ta F1 ms1 S fun F2 ms2 ds => AM Γ.K "str" rm (.str z) ds F2 ms2 Q) : AE Γ (tBM Γ.K "str" rm to ta) F ms S Q := fun R σ H Qc hs hh x k =>
  h R σ H _ hs hh x fun F1 ms1 d1 v1 H1 e1 h1 r1 ⟨z, hz, q1⟩ => by
    subst hz
    cases r1
    exact ⟨rfl, q1 R σ H1 _ (hs.mono e1) h1 (x.ex e1) fun F2 ms2 ds vs H2 e2 h2 r2 q2 => q2 R _ vs H2 Qc (.str z) r2 h2 fun F3 ms3 d v H3 e3 h3 r3 q3 => k F3 ms3 d v H3 ((e1.trans e2).trans e3) h3 r3 q3⟩
theorem ae_bmS0 {rm : V → List V → Hp → VK → Prop} {to : TE} (h : AE Γ to F ms S fun F1 ms1 x => ∃ z, x = .str z ∧ AM Γ.K "str" rm (.str z) [] F1 ms1 Q) : AE Γ (tBM0 Γ.K "str" rm to) F ms S Q := fun R σ H Qc hs hh x k =>
  h R σ H _ hs hh x fun F1 ms1 d1 v1 H1 e1 h1 r1 ⟨z, hz, q1⟩ => by
    subst hz
    cases r1
    exact ⟨rfl, q1 R _ [] H1 Qc (.str z) .nil h1 fun F3 ms3 d v H3 e3 h3 r3 q3 => k F3 ms3 d v H3 (e1.trans e3) h3 r3 q3⟩
/-- a list: frozen or owned, with its items -/
def LstA (F : Hp) (ms : Ms) (x : D) (ds : List D) : Prop := (x = .lst ds ∨ x = .rdl ds) ∨ ∃ (n : Nat) (l : Addr), x = .ref l ∧ ms[n]? = some (l, MO.lst ds)
theorem LstA.to {x : D} {ds : List D} {R : Ms} {H : Hp} {v : V} (i : LstA F ms x ds) (hh : Hold K F (ms ++ R) H) (r : Rep K F x v) : ∃ a vs, v = .ref a ∧ SqL K H a vs ∧ RepL K F ds vs := by
  rcases i with hd | ⟨n, l, rfl, hn⟩
  · exact rep_l (a := 0) hd r hh.ex
  · cases r
    obtain ⟨_, vs, h, q⟩ := hh.at (get_app hn)
    exact ⟨l, vs, rfl, SqL.of h, q⟩
theorem ae_bmL {rm : V → List V → Hp → VK → Prop} {to : TE} {ta : TA} (h : AE Γ to F ms S fun F1 ms1 x => ∃ ds0, LstA F1 ms1 x ds0 ∧ AA Γ ta F1 ms1 S fun F2 ms2 ds => AM Γ.K "list" rm x ds F2 ms2 Q) : AE Γ (tBM Γ.K "list" rm to ta) F ms S Q := fun R σ H Qc hs hh x k =>
  h R σ H _ hs hh x fun F1 ms1 d1 v1 H1 e1 h1 r1 ⟨ds0, hl, q1⟩ => by
    obtain ⟨a, vs0, rfl, ha, _⟩ := hl.to h1 r1
    exact ⟨.inl ⟨rfl, _, ha⟩, q1 R σ H1 _ (hs.mono e1) h1 (x.ex e1) fun F2 ms2 ds vs H2 e2 h2 r2 q2 => q2 R _ vs H2 Qc (r1.mono e2) r2 h2 fun F3 ms3 d v H3 e3 h3 r3 q3 => k F3 ms3 d v H3 ((e1.trans e2).trans e3) h3 r3 q3⟩
theorem ae_bmL0 {rm : V → List V → Hp → VK → Prop} {to : TE} (h : AE Γ to F ms S fun F1 ms1 x => ∃ ds0, LstA F1 ms1 x ds0 ∧ AM Γ.K "list" rm x [] F1 ms1 Q) : AE Γ (tBM0 Γ.K "list" rm to) F ms S Q := fun R σ H Qc hs hh x k =>
  h R σ H _ hs hh x fun F1 ms1 d1 v1 H1 e1 h1 r1 ⟨ds0, hl, q1⟩ => by
    obtain ⟨a, vs0, rfl, ha, _⟩ := hl.to h1 r1
    exact ⟨.inl ⟨rfl, _, ha⟩, q1 R _ [] H1 Qc r1 .nil h1 fun F3 ms3 d v H3 e3 h3 r3 q3 => k F3 ms3 d v H3 (e1.trans e3) h3 r3 q3⟩
theorem am_append {l : Addr} {xs : List D} {d : D} (n : Nat) (hn : ms[n]? = some (l, .lst xs)) (hz : xs.length < 100000) (q : Q F (ms.set n (l, .lst (xs ++ [d]))) .non) : AM K "list" rAppend (.ref l) [d] F ms Q := fun R u vs H Qc hu hv hh k => by
  cases hu
  cases hv with
  | cons h1 h2 =>
    cases h2
    obtain ⟨_, ys, hl, r⟩ := hh.at (get_app hn)
    refine ⟨l, ys, _, rfl, rfl, hl, Evl.sz_lt (by rw [← r.len]; exact hz), k F (ms.set n (l, .lst (xs ++ [d]))) .non _ _ Ex.refl ?_ .non q⟩
    rw [← set_app hn]
    exact hh.set (get_app hn) ⟨_, upd_same, r.append (RepL.one h1)⟩
theorem am_popAt {l : Addr} {xs : List D} {z : Int} {j : Nat} {d : D} (n : Nat) (hn : ms[n]? = some (l, .lst xs)) (hz : z = (j : Int)) (hx : xs.length ≤ 100000) (hj : xs[j]? = some d) (q : Q F (ms.set n (l, .lst (xs.eraseIdx j))) d) : AM K "list" rPopAt (.ref l) [.int z] F ms Q := fun R u vs H Qc hu hv hh k => by
  cases hu
  cases hv with
  | cons h1 h2 =>
    cases h2
    cases h1
    obtain ⟨_, ys, hl, r⟩ := hh.at (get_app hn)
    obtain ⟨v, hv, rv⟩ := r.getD hj
    have hlt : j < ys.length := (List.getElem?_eq_some_iff.mp hv).1
    have := r.len
    subst hz
    refine ⟨l, ys, (j : Int), j, v, rfl, rfl, hl, by omega, by omega, ?_, hv, k F (ms.set n (l, .lst (xs.eraseIdx j))) d v _ Ex.refl ?_ rv q⟩
    · unfold seqIndex?
      simp
      omega
    · rw [← set_app hn]
      exact hh.set (get_app hn) ⟨_, upd_same, r.eraseIdx j⟩
def rJOIN (K : Frg) : V → List V → Hp → VK → Prop := fun x xs H Q => ∃ a p, ∃ ys : List Str, x = .str a ∧ xs = [.ref p] ∧ (SqL K H p (ys.map V.str) ∨ SqT K H p (ys.map V.str)) ∧ (ys.map (·.length)).sum + ys.length * a.length ≤ 16777216 ∧ Q (.str (Txt.join a ys)) H
theorem mt_JOIN {X : Cx} : MtR X "str.join" (rJOIN X.K) := mt_join
theorem strs_rep : ∀ {ys : List Str} {vs : List V}, RepL K F (ys.map D.str) vs → vs = ys.map V.str
  | [], _, .nil => rfl
  | y :: ys, _, .cons h r => by
    cases h
    rw [strs_rep r]
    rfl
theorem am_join {a : Str} {ys : List Str} {x : D} (hx : (x = .lst (ys.map D.str) ∨ x = .rdl (ys.map D.str)) ∨ x = .tup (ys.map D.str)) (hz : (ys.map (·.length)).sum + ys.length * a.length ≤ 1000000) (q : Q F ms (.str (Txt.join a ys))) : AM K "str" (rJOIN K) (.str a) [x] F ms Q := fun R u vs H Qc hu hv hh k => by
  cases hu
  cases hv with
  | @cons _ v1 _ _ h1 h2 =>
    cases h2
    suffices hs : ∃ p, v1 = V.ref p ∧ (SqL K H p (ys.map V.str) ∨ SqT K H p (ys.map V.str)) by
      obtain ⟨p, e, hp⟩ := hs
      exact ⟨a, p, ys, rfl, by rw [e], hp, by omega, k F ms _ _ H Ex.refl hh (.str _) q⟩
    rcases hx with hx | rfl
    · obtain ⟨p, zs, e, h3, h4⟩ := rep_l (a := 0) hx h1 hh.ex
      rw [strs_rep h4] at h3
      exact ⟨p, e, .inl h3⟩
    · cases h1 with
      | tup h3 h4 =>
        rw [strs_rep h4] at h3
        exact ⟨_, rfl, .inr (ex_t hh.ex h3)⟩
/-! ### slices -/
def AO (Γ : Cg) (to : TO) (F : Hp) (ms : Ms) (S : Sg) (Q : Hp → Ms → Option Int → Prop) : Prop := ∀ (R : Ms) σ H (Qc : Option Int → Hp → Prop), SRep Γ.K F S σ → Hold Γ.K F (ms ++ R) H → XLe Γ R F → (∀ F' ms' o H', Ex F F' → Hold Γ.K F' (ms' ++ R) H' → Q F' ms' o → Qc o H') → to σ H Qc
theorem ao_none {Q : Hp → Ms → Option Int → Prop} (q : Q F ms none) : AO Γ tNoPart F ms S Q := fun R σ H Qc hs hh x k => k F ms none H Ex.refl hh q
theorem ao_some {Q : Hp → Ms → Option Int → Prop} (h : AE Γ te F ms S fun F' ms' d => ∃ i, d = .int i ∧ Q F' ms' (some i)) : AO Γ (tPart te) F ms S Q := fun R σ H Qc hs hh x k =>
  h R σ H _ hs hh x fun F1 ms1 d1 v1 H1 e1 h1 r1 ⟨i, hi, q⟩ => by
    subst hi
    cases r1
    exact ⟨i, rfl, k F1 ms1 (some i) H1 e1 h1 q⟩
def ASl (K : Frg) (r : V → Option Int → Option Int → Hp → VK → Prop) (x : D) (lo hi : Option Int) (F : Hp) (ms : Ms) (Q : QE) : Prop := ∀ (R : Ms) u H (Qc : VK), Rep K F x u → Hold K F (ms ++ R) H → (∀ F' ms' d v H', Ex F F' → Hold K F' (ms' ++ R) H' → Rep K F' d v → Q F' ms' d → Qc v H') → r u lo hi H Qc
theorem ae_sl {r : V → Option Int → Option Int → Hp → VK → Prop} {tl th : TO} (h : AE Γ te F ms S fun F1 ms1 x => AO Γ tl F1 ms1 S fun F2 ms2 lo => AO Γ th F2 ms2 S fun F3 ms3 hi => ASl Γ.K r x lo hi F3 ms3 Q) : AE Γ (tSl r te tl th) F ms S Q := fun R σ H Qc hs hh x k =>
  h R σ H _ hs hh x fun F1 ms1 d1 v1 H1 e1 h1 r1 q1 => q1 R σ H1 _ (hs.mono e1) h1 (x.ex e1) fun F2 ms2 lo H2 e2 h2 q2 => q2 R σ H2 _ (hs.mono (e1.trans e2)) h2 (x.ex (e1.trans e2)) fun F3 ms3 hi H3 e3 h3 q3 =>
    q3 R v1 H3 Qc (r1.mono (e2.trans e3)) h3 fun F4 ms4 d v H4 e4 h4 r4 q4 => k F4 ms4 d v H4 (((e1.trans e2).trans e3).trans e4) h4 r4 q4
def rSLC (K : Frg) : V → Option Int → Option Int → Hp → VK → Prop := fun x lo hi H Q => rSlL K x lo hi H Q ∨ (rSlA K x lo hi H Q ∨ rSlS x lo hi H Q)
theorem sl_SLC {X : Cx} : SlR X (rSLC X.K) := sl_list.or (sl_tupA.or sl_str)
theorem cut_rep {ds : List D} {vs : List V} (r : RepL K F ds vs) (lo hi : Option Int) : RepL K F (cutL ds lo hi) (cutV vs lo hi) := by
  unfold cutL cutV
  rw [r.len]
  exact (r.drop _).take _
theorem sl_L {x : D} {ds : List D} {lo hi : Option Int} (hx : LstA F ms x ds) (q : ∀ F', Ex F F' → Q F' ms (.lst (cutL ds lo hi))) : ASl K (rSLC K) x lo hi F ms Q := fun R u H Qc hu hh k => by
  obtain ⟨a, vs, rfl, ha, r⟩ := hx.to hh hu
  refine .inl ⟨a, vs, rfl, ha, fun p hp => ?_⟩
  obtain ⟨e, hh'⟩ := hh.laid (.lst (cutV vs lo hi)) hp
  exact k _ ms _ _ _ e hh' (.lst upd_same ((cut_rep r lo hi).mono e)) (q _ e)
theorem sl_Lo {x : D} {ds : List D} {lo hi : Option Int} (hx : LstA F ms x ds) (q : ∀ l, Q F ((l, .lst (cutL ds lo hi)) :: ms) (.ref l)) : ASl K (rSLC K) x lo hi F ms Q := fun R u H Qc hu hh k => by
  obtain ⟨a, vs, rfl, ha, r⟩ := hx.to hh hu
  refine .inl ⟨a, vs, rfl, ha, fun p hp => ?_⟩
  exact k F ((p, .lst (cutL ds lo hi)) :: ms) (.ref p) _ _ Ex.refl (hh.made (m := .lst (cutL ds lo hi)) hp ⟨_, upd_same, cut_rep r lo hi⟩) (.ref p) (q p)
theorem sIx_le (n d : Nat) (hd : d ≤ n) (o : Option Int) : True := trivial
theorem sl_T {ds : List D} {lo hi : Option Int} (q : ∀ F', Ex F F' → Q F' ms (.tup (cutL ds lo hi))) : ASl K (rSLC K) (.tup ds) lo hi F ms Q := fun R u H Qc hu hh k => by
  cases hu with
  | @tup a xs _ h r =>
    refine .inr (.inl ⟨a, xs, rfl, ex_t hh.ex h, fun hw => ?_, fun _ p hp => ?_⟩)
    · have q' := q F Ex.refl
      have e : cutL ds lo hi = ds := by
        unfold cutL
        rw [r.len, hw.1, hw.2, List.drop_zero, Nat.sub_zero, ← r.len, List.take_length]
      rw [e] at q'
      exact k F ms _ _ H Ex.refl hh (.tup h r) q'
    · obtain ⟨e, hh'⟩ := hh.laid (.tup (cutV xs lo hi)) hp
      exact k _ ms _ _ _ e hh' (.tup (SqT.of upd_same) ((cut_rep r lo hi).mono e)) (q _ e)
theorem sl_S {z : Str} {lo hi : Option Int} (hz : z.length ≤ 100000) (q : Q F ms (.str (cutS z lo hi))) : ASl K (rSLC K) (.str z) lo hi F ms Q := fun R u H Qc hu hh k => by
  cases hu
  exact .inr (.inr ⟨z, rfl, Evl.sz_of hz, k F ms _ _ H Ex.refl hh (.str _) q⟩)
end
end AL

set_option Elab.async false
set_option linter.all false
set_option maxRecDepth 100000
set_option maxHeartbeats 4000000
namespace AL
open PySem PySem.Spec PyProof.Rows L2
open AutoSeq1 (wpAny_loadPart')
/-! ### enumerate of a tuple, of a text -/
def IteT (K : Frg) (a : Addr) : It :=
  ⟨fun i H => ∃ (xs : List V) (x : V), SqT K H a xs ∧ xs[i]? = some x, fun i H v H' => ∃ T x, v = .ref T ∧ H T = none ∧ H' = upd H T (.tup [.int (i : Nat), x]) ∧ ∀ xs, SqT K H a xs → xs[i]? = some x, fun i H => ∃ xs : List V, SqT K H a xs ∧ xs.length = i⟩
theorem turn_enumT {P : Program} {w : World} {K : Frg} {elts : List Expr} {kk : Nat} {tpos : Pos} (a e it : Addr) :
    Turn P w K (.Tuple elts kk tpos) (IteT K a) [e, it] e (fun i h => (∃ old, IsEnum h e it ((i : Nat) : Int) old) ∧ h.IsTupleIter it a i ∧ e ≠ it) where
  mem := by simp
  obj := fun i h st b hb => by
    obtain ⟨⟨old, he⟩, ⟨o, ho, hc, hd⟩, _⟩ := st
    have e' : b = e ∨ b = it := by simpa using hb
    rcases e' with z | z
    · rw [z]; exact ⟨_, he, fun v q => nomatch q⟩
    · rw [z]; exact ⟨o, ho, fun v q => by rw [hd] at q; cases q⟩
  keep := fun i h h' st k => let ⟨⟨old, he⟩, hi, hne⟩ := st; ⟨⟨old, k e (by simp) _ he⟩, hi.at fun o q => k it (by simp) o q, hne⟩
  item := by
    intro X hP hw hK hc i pins s σ H E I hf st hg
    subst hP hw hK
    obtain ⟨⟨old, he⟩, hit, hne⟩ := st
    obtain ⟨xs, x, hq, hx⟩ := hg
    obtain ⟨its, rv, p, hz⟩ := I.tuple hq
    obtain ⟨u, hu, ru⟩ := rv.get hx
    have hel : e < s.heap.objs.size := Heap.lt_size he
    have hil : it < s.heap.objs.size := by obtain ⟨_, q, _⟩ := hit; exact Heap.lt_size q
    have ite : ∃ o, s.heap.get? it = some o ∧ o.cls = .type "tuple_iterator" := by obtain ⟨o, q, c, _⟩ := hit; exact ⟨o, q, c⟩
    have hta : a ≠ it := fun z => by
      obtain ⟨o, q, c⟩ := ite
      obtain ⟨o', q', c', _⟩ := id p
      rw [z, q] at q'; cases q'; rw [c] at c'; injection c' with z1; exact absurd z1 (by decide)
    have hea : e ≠ a := fun z => by
      obtain ⟨o', q', c', _⟩ := id p
      have he' := he
      rw [z] at he'
      rw [show s.heap.get? a = _ from he'] at q'
      cases q'
      injection c' with z1
      exact absurd z1 (by decide)
    have hx' : its.toArray[i]? = some u := by simpa using hu
    have hlt : i < its.toArray.size := (Array.getElem?_eq_some_iff.mp hx').1
    refine wpAny_pyNext_enum_itemD (Draws.tuple (A := X.A.in1) (I.ok.hd hc) it a hta its.toArray) he ⟨hit, p⟩ hlt hne (by simp [hne, hea]) fun y h' tk hy ho hit' hT hsz hk => ?_
    have ey : y = u := by
      have hy' : its.toArray[i]? = some y := hy
      rw [hx'] at hy'; cases hy'; rfl
    subst ey
    refine ⟨_, rfl, wpAny_letOwnedTupleGo_enum (s := { s with heap := h', toks := tk + 1 }) ho fun h'' he' sb => ?_⟩
    have hT2 : h''.get? s.heap.objs.size = some { cls := .type "tuple", data := .seq #[.int i tk, y] } := (sb.2 _ (Nat.ne_of_gt hel)).trans hT
    have new : ObjOk X.prog X.w (upd H s.heap.objs.size (.tup [.int (i : Nat), x])) h'' s.heap.objs.size (.tup [.int (i : Nat), x]) :=
      ⟨by show 2 ≤ sizeLine; decide, [.int i tk, y], .cons ⟨_, rfl⟩ (.cons ru .nil), ⟨_, hT2, rfl, _, rfl⟩⟩
    have I1 : Inv X pins σ (upd H s.heap.objs.size (.tup [.int (i : Nat), x])) { s with heap := h'', toks := tk + 1 } :=
      I.turnedNew (ch := [e, it]) (fun b ob hb q => (sb.2 b (fun z => hb (by simp [z]))).trans (hk b ob (fun z => hb (by simp [z])) (fun z => hb (by simp [z])) q)) hf (Nat.le_refl _) new
    refine ⟨.ref s.heap.objs.size, _, I1, rfl, ⟨_, x, rfl, I.hok.fresh (Nat.le_refl _), rfl, fun ys hy => by rw [I.tuple_inj hy hq]; exact hx⟩, ⟨⟨y, ?_⟩, hit'.1.at fun o q => (sb.2 it (Ne.symm hne)).trans q, hne⟩, fun b hb => ?_⟩
    · have e1 : ((i + 1 : Nat) : Int) = (i : Int) + 1 := by omega
      rw [e1]; exact he'
    · have hb' : b < s.heap.objs.size := by
        have e' : b = e ∨ b = it := by simpa using hb
        rcases e' with z | z
        · rw [z]; exact hel
        · rw [z]; exact hil
      rw [upd_ne (Nat.ne_of_lt hb')]
      exact (hf b hb).1
  done := by
    intro X hP hw hK hc i pins s σ H E I hf st hg
    subst hP hw hK
    obtain ⟨⟨old, he⟩, hit, hne⟩ := st
    obtain ⟨xs, hq, hx⟩ := hg
    obtain ⟨its, rv, p, hz⟩ := I.tuple hq
    obtain ⟨f0, f1, f2, f3, f4, f5⟩ := hf it (by simp)
    have hl := rv.length
    have hta : a ≠ it := fun z => by
      obtain ⟨o, q, c, _⟩ := hit
      obtain ⟨o', q', c', _⟩ := id p
      rw [z, q] at q'; cases q'; rw [c] at c'; injection c' with z1; exact absurd z1 (by decide)
    have hn : its.toArray.size = i := by simp; omega
    exact wpAny_pyNext_enum_endD (Draws.tuple (A := X.A.in1) (I.ok.hd hc) it a hta its.toArray) he ⟨by rw [hn]; exact hit, p⟩ fun h' eb => ⟨rfl, I.turned (t' := s.toks) (fun b o hb q => eb b o hb q) f0 f1 f3 f4 f5⟩
  self := fun A i s Q E st h => let ⟨⟨_, he⟩, _⟩ := st; wpAny_pyIter_enum he h
def IteS (z : Str) : It :=
  ⟨fun i H => i < z.cps.size, fun i H v H' => ∃ T c, v = .ref T ∧ H T = none ∧ H' = upd H T (.tup [.int (i : Nat), .str ⟨#[c]⟩]) ∧ z.cps[i]? = some c, fun i H => i = z.cps.size⟩
theorem turn_enumS {P : Program} {w : World} {K : Frg} {elts : List Expr} {kk : Nat} {tpos : Pos} (z : Str) (t : Tok) (e it : Addr) :
    Turn P w K (.Tuple elts kk tpos) (IteS z) [e, it] e (fun i h => (∃ old, IsEnum h e it ((i : Nat) : Int) old) ∧ h.IsStrIter it (strIterType z) z t i ∧ e ≠ it) where
  mem := by simp
  obj := fun i h st b hb => by
    obtain ⟨⟨old, he⟩, ⟨o, ho, hc, hd⟩, _⟩ := st
    have e' : b = e ∨ b = it := by simpa using hb
    rcases e' with z | z
    · rw [z]; exact ⟨_, he, fun v q => nomatch q⟩
    · rw [z]; exact ⟨o, ho, fun v q => by rw [hd] at q; cases q⟩
  keep := fun i h h' st k => let ⟨⟨old, he⟩, ⟨o, ho, r⟩, hne⟩ := st; ⟨⟨old, k e (by simp) _ he⟩, ⟨o, k it (by simp) o ho, r⟩, hne⟩
  item := by
    intro X hP hw hK hc i pins s σ H E I hf st hg
    subst hP hw hK
    obtain ⟨⟨old, he⟩, hit, hne⟩ := st
    have hel : e < s.heap.objs.size := Heap.lt_size he
    have hil : it < s.heap.objs.size := by obtain ⟨_, q, _⟩ := hit; exact Heap.lt_size q
    refine wpAny_pyNext_enum_itemD (Draws.text (A := X.A.in1) (I.ok.hd hc) it z t) he hit hg hne (by simp [hne]) fun y h' tk hy ho hit' hT hsz hk => ?_
    obtain ⟨c, u, hcx, ey⟩ := hy
    subst ey
    refine ⟨_, rfl, wpAny_letOwnedTupleGo_enum (s := { s with heap := h', toks := tk + 1 }) ho fun h'' he' sb => ?_⟩
    have hT2 : h''.get? s.heap.objs.size = some { cls := .type "tuple", data := .seq #[.int i tk, .str ⟨#[c]⟩ u] } := (sb.2 _ (Nat.ne_of_gt hel)).trans hT
    have new : ObjOk X.prog X.w (upd H s.heap.objs.size (.tup [.int (i : Nat), .str ⟨#[c]⟩])) h'' s.heap.objs.size (.tup [.int (i : Nat), .str ⟨#[c]⟩]) :=
      ⟨by show 2 ≤ sizeLine; decide, [.int i tk, .str ⟨#[c]⟩ u], .cons ⟨_, rfl⟩ (.cons ⟨_, rfl⟩ .nil), ⟨_, hT2, rfl, _, rfl⟩⟩
    have I1 : Inv X pins σ (upd H s.heap.objs.size (.tup [.int (i : Nat), .str ⟨#[c]⟩])) { s with heap := h'', toks := tk + 1 } :=
      I.turnedNew (ch := [e, it]) (fun b ob hb q => (sb.2 b (fun z => hb (by simp [z]))).trans (hk b ob (fun z => hb (by simp [z])) (fun z => hb (by simp [z])) q)) hf (Nat.le_refl _) new
    refine ⟨.ref s.heap.objs.size, _, I1, rfl, ⟨_, c, rfl, I.hok.fresh (Nat.le_refl _), rfl, hcx⟩, ⟨⟨.str ⟨#[c]⟩ u, ?_⟩, ?_, hne⟩, fun b hb => ?_⟩
    · have e1 : ((i + 1 : Nat) : Int) = (i : Int) + 1 := by omega
      rw [e1]; exact he'
    · obtain ⟨o, ho, r⟩ := hit'
      exact ⟨o, (sb.2 it (Ne.symm hne)).trans ho, r⟩
    · have hb' : b < s.heap.objs.size := by
        have e' : b = e ∨ b = it := by simpa using hb
        rcases e' with z | z
        · rw [z]; exact hel
        · rw [z]; exact hil
      rw [upd_ne (Nat.ne_of_lt hb')]
      exact (hf b hb).1
  done := by
    intro X hP hw hK hc i pins s σ H E I hf st hg
    subst hP hw hK
    obtain ⟨⟨old, he⟩, hit, hne⟩ := st
    have hg' : i = z.cps.size := hg
    subst hg'
    obtain ⟨f0, f1, f2, f3, f4, f5⟩ := hf it (by simp)
    exact wpAny_pyNext_enum_endD (Draws.text (A := X.A.in1) (I.ok.hd hc) it z t) he hit fun h' eb => ⟨rfl, I.turned (t' := s.toks) (fun b o hb q => eb b o hb q) f0 f1 f3 f4 f5⟩
  self := fun A i s Q E st h => let ⟨⟨_, he⟩, _⟩ := st; wpAny_pyIter_enum he h
set_option maxHeartbeats 1000000 in
theorem meets_enumerate_newB1 {v : Value} {o : Obj} {H : Heap → Prop} (B : Begins v o H) :
    Meets (Builtin.«enumerate.__new__» ⟨[.type "enumerate", v], []⟩) (fun _ R s => H s.heap ∧
      R (.ok (.ret (.ref (s.heap.push o).objs.size))) { s with heap := (s.heap.push o).push { cls := .type "enumerate", data := .fields #[.none, .bool false, .ref s.heap.objs.size, rawInt 0, .none, .none] } }) :=
  .of_wp fun prog w A R s h => by
    obtain ⟨hp, g, d, tk, os⟩ := s; obtain ⟨h1, h⟩ := h
    have hsub := sub_enumerate
    have q1 : ∀ {A' : Around} {E : Value → Shared → Prop} {Q : Value → Shared → Prop}, Q (.ref hp.objs.size) ⟨hp.push o, g, d, tk, os⟩ → wpAny (model prog w) A' (pyIter v) Q E ⟨hp, g, d, tk, os⟩ :=
      fun q => B.iter prog w _ _ ⟨hp, g, d, tk, os⟩ _ h1 q
    wp_walk using q1
    refine wpAny_stack_any fun st => wpAny_pure ?_
    split
    · rename_i c _ _ _ _ _
      cases (c == Value.type "enumerate")
      · wp_walk using q1
        exact ⟨_, rfl, h⟩
      · wp_walk using q1
        exact ⟨_, rfl, h⟩
    · wp_walk using q1
      exact ⟨_, rfl, h⟩
def iEnumA (K : Frg) (ta : TA) : TI := fun σ H R => ta σ H fun vs H1 => (∃ a xs, vs = [.ref a] ∧ SqL K H1 a xs ∧ R (Ite K a) H1) ∨ (∃ a xs, vs = [.ref a] ∧ SqT K H1 a xs ∧ R (IteT K a) H1) ∨ ∃ z, vs = [.str z] ∧ R (IteS z) H1
theorem pi_enumA {X : Cx} {e : Expr} {ta : TA} {p pos tpos : Pos} {elts : List Expr} {kk : Nat} (hg : Gl X "enumerate") (hm : X.mg "enumerate" = none) (ha : PA X [e] ta) (hs : starEach [e] X.env = [(false, eval e X.env)] := by rfl) :
    PI X (.Tuple elts kk tpos) (.Call (.Name "enumerate" p) [e] [] pos) (iEnumA X.K ta) := by
  refine ⟨fun pins s σ H R I h => ?_⟩
  refine Call_ (ld_blt I hg hm boot_enumerate (PyProof.Rows.callWith_type1 (thn (ha.run pos pins s σ H _ I h) fun us s1 ⟨vs, H1, I1, r1, q1⟩ => ?_) hs rfl))
  have fresh2 : ∀ b ∈ [s1.heap.objs.size + 1, s1.heap.objs.size], FpOk X pins H1 b := fun b hb => by
    have e' : b = s1.heap.objs.size + 1 ∨ b = s1.heap.objs.size := by simpa using hb
    have hle : s1.heap.objs.size ≤ b := by
      rcases e' with z | z
      · rw [z]; exact Nat.le_add_right _ _
      · rw [z]; exact Nat.le_refl _
    exact I1.fpOk hle (I1.hok.fresh hle)
  rcases q1 with ⟨a, xs, ex, hq, q⟩ | ⟨a, xs, ex, hq, q⟩ | ⟨z, ex, q⟩
  · subst ex
    cases r1 with
    | cons r rr =>
      cases rr
      cases r
      obtain ⟨its, rv, p', hz⟩ := I1.list hq
      refine call_enumerate_list p'.isList fun h' he hit hsz hk => wpAny_pyIter_enum he ?_
      have I2 : Inv X pins σ H1 { s1 with heap := h' } := I1.kept (t' := s1.toks) hk
      exact ⟨s1.heap.objs.size + 1, [s1.heap.objs.size + 1, s1.heap.objs.size], _, _, H1, rfl, I2, turn_enum a (s1.heap.objs.size + 1) s1.heap.objs.size, ⟨⟨.none, he⟩, hit, Nat.succ_ne_self _⟩, fresh2, q⟩
  · subst ex
    cases r1 with
    | cons r rr =>
      cases rr
      cases r
      obtain ⟨its, rv, p', hz⟩ := I1.tuple hq
      refine enumT p' fun h' he hit hk => wpAny_pyIter_enum he ?_
      have I2 : Inv X pins σ H1 { s1 with heap := h' } := I1.kept (t' := s1.toks) hk
      exact ⟨s1.heap.objs.size + 1, [s1.heap.objs.size + 1, s1.heap.objs.size], _, _, H1, rfl, I2, turn_enumT a (s1.heap.objs.size + 1) s1.heap.objs.size, ⟨⟨.none, he⟩, hit, Nat.succ_ne_self _⟩, fresh2, q⟩
  · subst ex
    cases r1 with
    | cons r rr =>
      cases rr
      obtain ⟨t, rfl⟩ := r
      refine call_enumerate_str fun h' he hit hsz hk => wpAny_pyIter_enum he ?_
      have I2 : Inv X pins σ H1 { s1 with heap := h' } := I1.kept (t' := s1.toks) hk
      exact ⟨s1.heap.objs.size + 1, [s1.heap.objs.size + 1, s1.heap.objs.size], _, _, H1, rfl, I2, turn_enumS z t (s1.heap.objs.size + 1) s1.heap.objs.size, ⟨⟨.none, he⟩, hit, Nat.succ_ne_self _⟩, fresh2, q⟩
where
  enumT {prog : Program} {w : World} {A : Around} {E : Value → Shared → Prop} {s : Shared} {l : Addr} {items : Array Value} {Q : Value → Shared → Prop} (hL : IsTup s.heap l items)
    (h : ∀ h', IsEnum h' (s.heap.objs.size + 1) s.heap.objs.size 0 .none → h'.IsTupleIter s.heap.objs.size l 0 → (∀ b o, s.heap.get? b = some o → h'.get? b = some o) → Q (.ref (s.heap.objs.size + 1)) { s with heap := h' }) :
    wpAny (model prog w) A (call (.type "enumerate") [.ref l]) Q E s := by
    have B := begins_tuple l items
    refine callType_new F.called_enumerate (by decide) (F.typeCall_enumerate_1 _) (F.newCall_enumerate_1 _) (fun obj => F.args_object_init_2 obj _) F.entry_enumerate_new
      (meets_enumerate_newB1 B) ⟨hL, ?_⟩
    have hz : (s.heap.push { cls := .type "tuple_iterator", data := .fields #[.ref l, .int 0 0] }).objs.size = s.heap.objs.size + 1 := Heap.size_push ..
    show _ ∧ _
    rw [hz]
    have he : IsEnum ((s.heap.push { cls := .type "tuple_iterator", data := .fields #[.ref l, .int 0 0] }).push { cls := .type "enumerate", data := .fields #[.none, .bool false, .ref s.heap.objs.size, rawInt 0, .none, .none] }) (s.heap.objs.size + 1) s.heap.objs.size 0 .none := by
      have := Heap.get?_push_size (s.heap.push { cls := .type "tuple_iterator", data := .fields #[.ref l, .int 0 0] }) (o := { cls := .type "enumerate", data := .fields #[.none, .bool false, .ref s.heap.objs.size, rawInt 0, .none, .none] }) rfl
      rw [hz] at this; exact this
    exact ⟨⟨_, he, rfl⟩, h _ he ⟨_, Heap.get?_push_of_some _ (Heap.get?_push_size _ rfl), rfl, rfl⟩ fun b o x => Heap.get?_push_of_some _ (Heap.get?_push_of_some _ x)⟩
end AL

set_option Elab.async false
set_option linter.all false
set_option maxRecDepth 100000
set_option maxHeartbeats 4000000
namespace AL
open PySem L2
def enumD (ds : List D) : List D := ds.zipIdx.map fun p => .tup [.int (p.2 : Nat), p.1]
theorem enumD_len (ds : List D) : (enumD ds).length = ds.length := by unfold enumD; rw [List.length_map, List.length_zipIdx]
theorem enumD_get {ds : List D} {i : Nat} {d : D} (h : ds[i]? = some d) : (enumD ds)[i]? = some (.tup [.int (i : Nat), d]) := by
  unfold enumD
  rw [List.getElem?_map, List.getElem?_zipIdx, h]
  simp
theorem enumD_inv {ds : List D} {i : Nat} {e : D} (h : (enumD ds)[i]? = some e) : ∃ d, ds[i]? = some d ∧ e = .tup [.int (i : Nat), d] := by
  unfold enumD at h
  rw [List.getElem?_map, List.getElem?_zipIdx] at h
  cases q : ds[i]? with
  | none => rw [q] at h; simp at h
  | some d => rw [q] at h; simp at h; exact ⟨d, rfl, h.symm⟩
section
variable {Γ : Cg} {K : Frg} {F : Hp} {ms : Ms} {S : Sg} {P : Hp → Ms → List D → (Ms → Prop) → Prop}
theorem pair_rep {R : Ms} {ms' : Ms} {F' H : Hp} {T : Addr} {d e : D} {v w : V} (hh : Hold K F' (ms' ++ R) H) (hT : H T = none) (r1 : Rep K F' d v) (r2 : Rep K F' e w) :
    ∃ F'', Ex F' F'' ∧ Hold K F'' (ms' ++ R) (upd H T (.tup [v, w])) ∧ Rep K F'' (.tup [d, e]) (.ref T) := by
  obtain ⟨e1, h1⟩ := hh.laid (.tup [v, w]) hT
  exact ⟨_, e1, h1, .tup (SqT.of upd_same) (.cons (r1.mono e1) (.cons (r2.mono e1) .nil))⟩
theorem ai_enum {ta : TA} (h : AA Γ ta F ms S fun F1 ms1 xs => (∃ ds : List D, xs = [.lst ds] ∧ P F1 ms1 (enumD ds) fun _ => True) ∨ (∃ ds : List D, xs = [.tup ds] ∧ P F1 ms1 (enumD ds) fun _ => True) ∨ ∃ z, xs = [.str z] ∧ P F1 ms1 (enumD (charsD z)) fun _ => True) : AI Γ (iEnumA Γ.K ta) F ms S P := fun R σ H Rc hs hh x k =>
  h R σ H _ hs hh x fun F1 ms1 xs vs H1 e1 h1 r1 q => by
    rcases q with ⟨ds, hx, p⟩ | ⟨ds, hx, p⟩ | ⟨z, hx, p⟩
    · subst hx
      cases r1 with
      | cons a b =>
        cases b
        cases a with
        | @lst a ys _ ha rl =>
          refine .inl ⟨a, ys, rfl, SqL.of (h1.ex _ _ ha), k F1 ms1 _ (fun _ => True) _ H1 e1 h1 ⟨fun _ i H' F' ms' hi e' hh' _ => ?_, fun _ H' F' ms' e' hh' _ => ?_, fun _ i H' x' H2 F' ms' hi e' hh' _ y => ?_⟩ p⟩
          · rw [enumD_len] at hi
            exact ⟨ys, ys[i]'(by rw [← rl.len]; exact hi), SqL.of (hh'.ex _ _ (e' _ _ ha)), by simp [show i < ys.length by rw [← rl.len]; exact hi]⟩
          · exact ⟨ys, SqL.of (hh'.ex _ _ (e' _ _ ha)), by rw [enumD_len, rl.len]; exact Nat.le_refl _⟩
          · obtain ⟨T, w, y1, y2, y3, y4⟩ := y
            subst y1 y3
            obtain ⟨d, hd, rd⟩ := rl.get (y4 ys (SqL.of (hh'.ex _ _ (e' _ _ ha))))
            obtain ⟨F'', e2, h2, r2⟩ := pair_rep hh' y2 (.int (i : Nat)) (rd.mono e')
            exact ⟨F'', _, e2, h2, enumD_get hd, r2⟩
    · subst hx
      cases r1 with
      | cons a b =>
        cases b
        cases a with
        | @tup a ys _ ha rl =>
          refine .inr (.inl ⟨a, ys, rfl, ex_t h1.ex ha, k F1 ms1 _ (fun _ => True) _ H1 e1 h1 ⟨fun _ i H' F' ms' hi e' hh' _ => ?_, fun _ H' F' ms' e' hh' _ => ?_, fun _ i H' x' H2 F' ms' hi e' hh' _ y => ?_⟩ p⟩)
          · rw [enumD_len] at hi
            exact ⟨ys, ys[i]'(by rw [← rl.len]; exact hi), ex_t hh'.ex (ex_t e' ha), by simp [show i < ys.length by rw [← rl.len]; exact hi]⟩
          · exact ⟨ys, ex_t hh'.ex (ex_t e' ha), by rw [enumD_len, rl.len]⟩
          · obtain ⟨T, w, y1, y2, y3, y4⟩ := y
            subst y1 y3
            obtain ⟨d, hd, rd⟩ := rl.get (y4 ys (ex_t hh'.ex (ex_t e' ha)))
            obtain ⟨F'', e2, h2, r2⟩ := pair_rep hh' y2 (.int (i : Nat)) (rd.mono e')
            exact ⟨F'', _, e2, h2, enumD_get hd, r2⟩
    · subst hx
      cases r1 with
      | cons a b =>
        cases b
        cases a
        have hl : (charsD z).length = z.cps.size := by unfold charsD; rw [List.length_map, Array.length_toList]
        refine .inr (.inr ⟨z, rfl, k F1 ms1 _ (fun _ => True) _ H1 e1 h1 ⟨fun _ i H' F' ms' hi e' hh' _ => ?_, fun _ H' F' ms' e' hh' _ => ?_, fun _ i H' x' H2 F' ms' hi e' hh' _ y => ?_⟩ p⟩)
        · rw [enumD_len, hl] at hi; exact hi
        · show (enumD (charsD z)).length = z.cps.size
          rw [enumD_len, hl]
        · obtain ⟨T, c, y1, y2, y3, y4⟩ := y
          subst y1 y3
          obtain ⟨F'', e2, h2, r2⟩ := pair_rep hh' y2 (.int (i : Nat)) (.str ⟨#[c]⟩)
          refine ⟨F'', _, e2, h2, enumD_get ?_, r2⟩
          unfold charsD
          rw [List.getElem?_map, Array.getElem?_toList, y4]
          rfl
end
/-! ### static methods -/
/-- C.m is a staticmethod: its record at p, its def at g -/
structure SMet (K : Frg) (C : Addr) (mc : Value) (m : Str) (p g : Addr) : Prop where
  rd : PySem.W.readsIn K C mc = true
  ga : PySem.W.specialIn K (.ref C) "__getattribute__" = some (some (.builtin "type.__getattribute__"))
  at_ : PySem.W.findCls K (.ref C) mc m = some (.get (.builtin "staticmethod.__get__") (.ref p) .none (.ref C))
  rc : ∃ rest, PySem.W.recIn K p "staticmethod" = some (.ref g :: rest)
/-- .. reached through an instance of C -/
structure SInst (K : Frg) (C : Addr) (m : Str) (p g : Addr) : Prop where
  pg : PySem.W.plainGet K C Str.empty = true
  ic : PySem.W.isClsIn K C = true
  at_ : PySem.W.findIn K (.ref C) m = some (some (.ref p))
  ty : PySem.W.typeIn K (.ref p) = some (.type "staticmethod")
  get : PySem.W.specialIn K (.ref p) "__get__" = some (some (.builtin "staticmethod.__get__"))
  tk : PySem.W.takesIn K (.ref p) = some false
  cp : PySem.W.copiedNames.contains m = false
  rc : ∃ rest, PySem.W.recIn K p "staticmethod" = some (.ref g :: rest)
/-- e.m(..), e the class at C, m a static method -/
def tSMeth (C : Addr) (sp : Sp) (E : XK) (ta : TE) (t : TA) : TE := fun σ H Q => ta σ H fun x H1 => x = .ref C ∧ t σ H1 fun vs H2 => sp vs H2 Q E
/-- o.m(..), o an instance of the class at C -/
def tSMethI (C : Addr) (m : Str) (sp : Sp) (E : XK) (ta : TE) (t : TA) : TE := fun σ H Q => ta σ H fun x H1 => ∃ a dx fs, x = .ref a ∧ H1 a = some (.ins C dx fs) ∧ fs.lookup m = none ∧ t σ H1 fun vs H2 => sp vs H2 Q E
section
variable {X : Cx} {CX : CXT} {k : Nat} {f C p g : Addr} {mc : Value} {fd : FuncData} {ps : List Str} {sp : Sp} {E : XK} {m : Str} {pos apos : Pos} {e o : Expr} {es : List Expr} {ta : TE} {t : TA}
theorem pe_smeth {pl : Sem Bool} (he : PE X o ta) (c : SMet X.K C mc m p g) (hk : PySem.W.keepIn X.K (.ref g) = true) (F : FnOk X.prog X.w X.K X.mg X.base CX k g fd ps sp) (hr : Room k X.A) (hb : Binds X.K fd ps []) (hx : Passes CX X E) (ha : PA X (e :: es) t)
    (hst : starEach (e :: es) X.env = (false, eval e X.env) :: starEach es X.env := by rfl) (hpl : (backTo pos (starEach es X.env)).any (·.1) = false := by rfl)
    (ht : eval (.Call (.Attribute o m apos) (e :: es) [] pos) X.env = (do
      let ov ← eval o X.env
      standAt apos.atName
      let (f, first) ← holding [ov] (getMethod ov m pl)
      callWith pos f first (backTo pos (starEach (e :: es) X.env)) (backToKw pos (keywordEach [] X.env))) := by rfl) :
    PE X (.Call (.Attribute o m apos) (e :: es) [] pos) (tSMeth C sp E ta t) := by
  refine ⟨fun pins s σ H Q I h => ?_⟩
  refine PySem.W.methodCall_KW (pl := pl) (thn (he.run pins s σ H _ I h) fun u s1 ⟨x, H1, I1, rx, ex, q⟩ => ?_) ht
  subst ex
  obtain rfl : u = Value.ref C := rx
  obtain ⟨rest, hp⟩ := c.rc
  refine PySem.W.method_cls I1.kIn c.ga (PySem.W.cls_bind I1.kIn c.rd c.at_ (wpAny_call (PySem.W.sm_get (s := { s1 with toks := s1.toks + 1 }) I1.kIn hp (PySem.W.handed_on rfl ?_))))
  have I2 := I1.tok (s1.toks + 1)
  refine PySem.W.callWith_K (first := []) (h₀ := X.base) I.ok.mod.kin hk (thn (ha.run pos pins _ σ H1 _ I2 q) fun us s2 ⟨vs, H2, I2, r, q2⟩ => ⟨I2.kIn, ?_⟩) hst hpl
  exact run_fn (us := us) (vs := vs) (dvs := []) (ds := []) F hr hb .nil hx I2 r (by rw [List.append_nil]; exact q2)
theorem pe_smethI {pl : Sem Bool} (he : PE X o ta) (c : SInst X.K C m p g) (hk : PySem.W.keepIn X.K (.ref g) = true) (F : FnOk X.prog X.w X.K X.mg X.base CX k g fd ps sp) (hr : Room k X.A) (hb : Binds X.K fd ps []) (hx : Passes CX X E) (ha : PA X (e :: es) t)
    (hst : starEach (e :: es) X.env = (false, eval e X.env) :: starEach es X.env := by rfl) (hpl : (backTo pos (starEach es X.env)).any (·.1) = false := by rfl)
    (ht : eval (.Call (.Attribute o m apos) (e :: es) [] pos) X.env = (do
      let ov ← eval o X.env
      standAt apos.atName
      let (f, first) ← holding [ov] (getMethod ov m pl)
      callWith pos f first (backTo pos (starEach (e :: es) X.env)) (backToKw pos (keywordEach [] X.env))) := by rfl) :
    PE X (.Call (.Attribute o m apos) (e :: es) [] pos) (tSMethI C m sp E ta t) := by
  refine ⟨fun pins s σ H Q I h => ?_⟩
  refine PySem.W.methodCall_KW (pl := pl) (thn (he.run pins s σ H _ I h) fun u s1 ⟨x, H1, I1, rx, a, dx, fs, ex, ea, l, q⟩ => ?_) ht
  subst ex
  obtain rfl : u = Value.ref a := rx
  obtain ⟨rest, hp⟩ := c.rc
  obtain ⟨mA, O, rel, _, _, _⟩ := ins_get I1.hok ea
  obtain ⟨od, J, hl⟩ := O.look
  have z : mA m = none := RelO.none_of (by have q := rel m; rw [l] at q; exact q)
  have hn : PySem.W.lookIn m od = some none := by rw [hl m, z]
  refine PySem.W.method_usual (r := some (.ref p)) I1.kIn J (PySem.W.plainGet_of (show PySem.W.plainGet X.K C m = true from c.pg)).1 (PySem.W.plainGet_of (show PySem.W.plainGet X.K C m = true from c.pg)).2 c.at_ ?_ ?_
  · show ((PySem.W.typeIn X.K (.ref p)).any fun t => t != .type "function" && t != .type "method_descriptor" && t != .type "wrapper_descriptor") = true
    rw [c.ty]
    first
    | rfl
    | decide +kernel
  · refine PySem.W.get_bind I1.kIn J (PySem.W.plainGet_of (show PySem.W.plainGet X.K C m = true from c.pg)).1 (ClX.find_cm c.ic c.at_ c.get c.tk c.cp hn) (PySem.W.plainGet_of (show PySem.W.plainGet X.K C m = true from c.pg)).2 ?_
    refine wpAny_call (PySem.W.sm_get (s := { s1 with toks := s1.toks + 1 }) I1.kIn hp (PySem.W.handed_on rfl ?_))
    have I2 := I1.tok (s1.toks + 1)
    refine PySem.W.callWith_K (first := []) (h₀ := X.base) I.ok.mod.kin hk (thn (ha.run pos pins _ σ H1 _ I2 q) fun us s2 ⟨vs, H2, I2, r, q2⟩ => ⟨I2.kIn, ?_⟩) hst hpl
    exact run_fn (us := us) (vs := vs) (dvs := []) (ds := []) F hr hb .nil hx I2 r (by rw [List.append_nil]; exact q2)
end
section
variable {Γ : Cg} {K : Frg} {F : Hp} {ms : Ms} {S : Sg} {Q : QE} {ta : TE} {ta' : TA} {C : Addr} {m : Str} {sp : ASp}
theorem ae_smeth (h : AE Γ ta F ms S fun F1 ms1 x => x = .ref C ∧ AA Γ ta' F1 ms1 S fun F2 ms2 ds => sp ds F2 ms2 Q Γ.Ea) : AE Γ (tSMeth C (toSp Γ.K sp) Γ.E ta ta') F ms S Q := fun R σ H Qc hs hh x k =>
  h R σ H _ hs hh x fun F1 ms1 d1 v1 H1 e1 h1 r1 ⟨hx, q⟩ => by
    subst hx
    cases r1
    exact ⟨rfl, q R σ H1 _ (hs.mono e1) h1 (x.ex e1) fun F2 ms2 ds vs H2 e2 h2 r2 q2 => ⟨F2, ms2, R, ds, Q, Γ.Ea, h2, r2, q2, fun F' ms' d v H' e => k F' ms' d v H' ((e1.trans e2).trans e), x.ex (e1.trans e2)⟩⟩
theorem ae_smethI (h : AE Γ ta F ms S fun F1 ms1 x => ∃ a fs, x = .ref a ∧ InsA Γ.K F1 ms1 a C fs ∧ fs.lookup m = none ∧ AA Γ ta' F1 ms1 S fun F2 ms2 ds => sp ds F2 ms2 Q Γ.Ea) : AE Γ (tSMethI C m (toSp Γ.K sp) Γ.E ta ta') F ms S Q := fun R σ H Qc hs hh x k =>
  h R σ H _ hs hh x fun F1 ms1 d1 v1 H1 e1 h1 r1 ⟨a, fs, hx, hi, hl, q⟩ => by
    subst hx
    cases r1
    obtain ⟨dx, gs, i1, i2, i3⟩ := hi.to h1
    exact ⟨a, dx, gs, rfl, i1, i3.lookN hl, q R σ H1 _ (hs.mono e1) h1 (x.ex e1) fun F2 ms2 ds vs H2 e2 h2 r2 q2 => ⟨F2, ms2, R, ds, Q, Γ.Ea, h2, r2, q2, fun F' ms' d v H' e => k F' ms' d v H' ((e1.trans e2).trans e), x.ex (e1.trans e2)⟩⟩
end
end AL

set_option Elab.async false
set_option linter.all false
set_option maxRecDepth 100000
set_option maxHeartbeats 4000000
/-! Rules whose reading names the fragment K outright (so they may stand under binders), and a few more. -/
namespace AL
open PySem L2 PyProof.Rows
section
variable {X : Cx} {K : Frg}
theorem kADD (h : X.K = K) : OpR X (binaryOp .Add) (rADD K) := h ▸ op_ADD
theorem kMUL (h : X.K = K) : OpR X (binaryOp .Mult) (rMUL K) := h ▸ op_MUL
theorem kEQ (h : X.K = K) (hu : X.A.units + 64 < cLine) : OpR X (compareOp .Eq) (rEQ K) := h ▸ op_EQ hu
theorem kNE (h : X.K = K) (hu : X.A.units + 64 < cLine) : OpR X (compareOp .NotEq) (rNE K) := h ▸ op_NE hu
theorem kIN (h : X.K = K) : OpR X (compareOp .In) (rIN K) := h ▸ op_INN
theorem kNOTIN (h : X.K = K) : OpR X (compareOp .NotIn) (rNOTIN K) := h ▸ op_NOTINN
theorem kIX (h : X.K = K) : IxR X (rIx K) := h ▸ ix_seq
theorem kSLC (h : X.K = K) : SlR X (rSLC K) := h ▸ sl_SLC
theorem kLEN (h : X.K = K) : CallR X (.builtin "len") (rLEN K) := h ▸ call_LEN
theorem kLIST (h : X.K = K) (hc : X.calm = true) : CallR X (.type "list") (rLIST K) := h ▸ call_LIST hc
theorem kTUPLE (h : X.K = K) : CallR X (.type "tuple") (rTUPLE K) := h ▸ call_TUPLE
theorem kALL (h : X.K = K) (hc : X.calm = true) : CallR X (.builtin "all") (rAll K) := h ▸ cr_all hc
theorem kISI (h : X.K = K) : CallR X (.builtin "isinstance") (rIsi K) := h ▸ call_isi
theorem kJOIN (h : X.K = K) : MtR X "str.join" (rJOIN K) := h ▸ mt_JOIN
variable {e o : Expr} {es : List Expr} {f name : Str} {pos apos cpos p2 : Pos} {ta te to : TE} {t : TA} {T id : String} {r : V → List V → Hp → VK → Prop} {tg : Expr}
theorem pe_fldk (h : X.K = K) (he : PE X e ta) (hb : attributeBase e f X.env (eval e X.env) = eval e X.env) : PE X (.Attribute e f pos) (tFld K ta f) := h ▸ pe_fld he hb
theorem pe_bmk (h : X.K = K) (pa : PlainAttrs T) (slot : Slot T name id) (hty : typeOf (.builtin id) = pure (.type "method_descriptor")) (hm : MtR X id r) (ho : PE X o to) (ha : PA X (e :: es) t)
    (hbase : attributeBase o name X.env (eval o X.env) = eval o X.env := by rfl)
    (hfew : ((backTo cpos (starEach (e :: es) X.env)).all (fun x => !x.1) && (backToKw cpos (keywordEach [] X.env)).all (fun x => x.1.isSome)
      && decide ((e :: es).length + ([] : List Keyword).length + (if ([] : List Keyword).isEmpty then 0 else 1) < 30)) = true := by rfl)
    (hline : (apos.endLine == cpos.line) = true := by rfl) (hs : starEach (e :: es) X.env = (false, eval e X.env) :: starEach es X.env := by rfl) (hplain : (backTo cpos (starEach es X.env)).any (·.1) = false := by rfl) :
    PE X (.Call (.Attribute o name apos) (e :: es) [] cpos) (tBM K T r to t) := h ▸ pe_bm pa slot hty hm ho ha hbase hfew hline hs hplain
theorem pi_listk (h : X.K = K) (he : PE X e ta) : PI X tg e (iList K ta) := h ▸ pi_list he
theorem pi_tupk (h : X.K = K) (he : PE X e ta) : PI X tg e (iTup K ta) := h ▸ pi_tup he
end
section
variable {Γ : Cg} {K : Frg} {F : Hp} {ms : Ms} {S : Sg} {Q : QE} {ta tb tc : TE} {r r' : R2}
theorem ae_chain (h : AE Γ ta F ms S fun F1 ms1 x => AE Γ tb F1 ms1 S fun F2 ms2 y => AR Γ.K r x y F2 ms2 fun F3 ms3 z => ∃ k, z = .bl k ∧ (k = true → AE Γ tc F3 ms3 S fun F4 ms4 w => AR Γ.K r' y w F4 ms4 Q) ∧ (k = false → Q F3 ms3 (.bl false))) :
    AE Γ (tChain r r' ta tb tc) F ms S Q := fun R σ H Qc hs hh x k =>
  h R σ H _ hs hh x fun F1 ms1 d1 v1 H1 e1 h1 r1 q1 => q1 R σ H1 _ (hs.mono e1) h1 (x.ex e1) fun F2 ms2 d2 v2 H2 e2 h2 r2 q2 =>
    q2 R v1 v2 H2 _ (r1.mono e2) r2 h2 fun F3 ms3 d3 v3 H3 e3 h3 r3 ⟨b, hb, qt, qf⟩ => by
      subst hb
      cases r3
      refine ⟨b, rfl, ?_⟩
      have e13 := (e1.trans e2).trans e3
      cases b with
      | true =>
        rw [if_pos rfl]
        exact qt rfl R σ H3 _ (hs.mono e13) h3 (x.ex e13) fun F4 ms4 d4 v4 H4 e4 h4 r4 q4 => q4 R v2 v4 H4 _ (r2.mono (e3.trans e4)) r4 h4 fun F5 ms5 d v H5 e5 => k F5 ms5 d v H5 ((e13.trans e4).trans e5)
      | false =>
        rw [if_neg (by decide)]
        exact k F3 ms3 _ _ H3 e13 h3 (.bl false) (qf rfl)
theorem ac_all {bs : List Bool} {d : D} (hd : d = .lst (bs.map D.bl)) (q : Q F ms (.bl (bs.all id))) : AC K (rAll K) [d] F ms Q := ac1 fun R v H Qc hv hh k => by
  subst hd
  obtain ⟨a, vs, rfl, hl, rl⟩ : ∃ a vs, v = .ref a ∧ F a = some (.lst vs) ∧ RepL K F (bs.map D.bl) vs := by
    cases hv with
    | lst h r => exact ⟨_, _, rfl, h, r⟩
  have hvs : vs = bs.map V.bl := by
    clear q hl hv hh k
    induction bs generalizing vs with
    | nil => cases rl; rfl
    | cons b bs ih =>
      cases rl with
      | cons h r => cases h; rw [ih _ r]; rfl
  subst hvs
  exact ⟨a, bs, rfl, SqL.of (hh.ex _ _ hl), k F ms _ _ H Ex.refl hh (.bl _) q⟩
end
/-- a def with defaults, that raises nothing -/
theorem fn_okD {P : Program} {w : World} {K : Frg} {mg : Str → Option Value} {base : Heap} {x qual : Str} {st : Stmt} {f : Addr} {fd : FuncData} {N ps : List Str} {dvs : List V} {kws : List (Str × V)} {k : Nat} {sp : ASp} (F : FunD K x qual (defArgs st) (defBody st) (defScope st) dvs kws f fd) (Sc : FnScope N ps (defScope st)) (len : ∀ ds F ms Q E, sp ds F ms Q E → ds.length = ps.length)
    (hbody : ∀ (cdv : Value) (A : Around) (outer : List Env) (s : Shared) (H : Hp) (E : XK), Room k (A.deeper (PyProof.Rows.envOfC qual (defScope st) s.heap.objs.size f cdv)) → ∃ t, PSs (cxOf CX0 P w K mg base N qual (defScope st) f cdv A outer s H E).nox (defBody st) t ∧
      ∀ ds F ms Q Ea, sp ds F ms Q Ea → AS ⟨K, E0, fun _ _ _ _ => False⟩ t F ms (startS N ds) { nx := fun F' ms' _ => Q F' ms' .non, rt := Q }) : FnOk P w K mg base CX0 (k + 1) f fd ps (toSp K sp) := by
  refine F.ok Sc (fun vs H Q E h => ?_) (fun cdv A outer s H vs Q E hr h => ?_)
  · obtain ⟨F0, ms, R, ds, Qa, Ea, h1, h2, h3, _⟩ := h
    rw [← h2.len]
    exact len _ _ _ _ _ h3
  · obtain ⟨F0, ms, R, ds, Qa, Ea, h1, h2, h3, h4, h5⟩ := h
    obtain ⟨t, ht, q⟩ := hbody cdv A outer s H E hr
    refine ⟨t, ht.nox, q ds F0 ms Qa Ea h3 R _ _ H (start_rep h2) h1 ⟨fun _ _ _ _ _ _ _ _ _ z => z.elim, fun F' ms' S' σ' H' e a b q' => h4 F' ms' .non .non H' e b .non q', fun F' ms' d v H' e b r q' => h4 F' ms' d v H' e b r q', fun _ _ _ _ _ _ _ _ z => z.elim, fun _ _ _ _ _ _ _ _ z => z.elim⟩⟩
end AL

set_option Elab.async false
set_option linter.all false
set_option maxRecDepth 100000
set_option maxHeartbeats 4000000
namespace AL
open PySem L2 PyProof.Rows
section
variable {Γ : Cg} {K : Frg} {F : Hp} {ms : Ms} {S : Sg} {Q : QE} {ta tb te tx : TE} {t u tt : TT} {r : R2} {ts tu tw : TS} {A : AEnds} {g : TG} {wi : TI} {vs : List Nat}
theorem isi_non_bool (q : Q F ms (.bl false)) : AC K (rIsi K) [.non, .ty "bool"] F ms Q := ac_isi (b := false) (by show ("NoneType" : String) ≠ ""; decide) (by intro ds h; cases h) (by show kitB "NoneType" "bool" = some false; decide +kernel) q
theorem isi_non_int (q : Q F ms (.bl false)) : AC K (rIsi K) [.non, .ty "int"] F ms Q := ac_isi (b := false) (by show ("NoneType" : String) ≠ ""; decide) (by intro ds h; cases h) (by show kitB "NoneType" "int" = some false; decide +kernel) q
theorem isi_non_str (q : Q F ms (.bl false)) : AC K (rIsi K) [.non, .ty "str"] F ms Q := ac_isi (b := false) (by show ("NoneType" : String) ≠ ""; decide) (by intro ds h; cases h) (by show kitB "NoneType" "str" = some false; decide +kernel) q
theorem isi_non_tuple (q : Q F ms (.bl false)) : AC K (rIsi K) [.non, .ty "tuple"] F ms Q := ac_isi (b := false) (by show ("NoneType" : String) ≠ ""; decide) (by intro ds h; cases h) (by show kitB "NoneType" "tuple" = some false; decide +kernel) q
theorem isi_non_list (q : Q F ms (.bl false)) : AC K (rIsi K) [.non, .ty "list"] F ms Q := ac_isi (b := false) (by show ("NoneType" : String) ≠ ""; decide) (by intro ds h; cases h) (by show kitB "NoneType" "list" = some false; decide +kernel) q
theorem isi_non_dict (q : Q F ms (.bl false)) : AC K (rIsi K) [.non, .ty "dict"] F ms Q := ac_isi (b := false) (by show ("NoneType" : String) ≠ ""; decide) (by intro ds h; cases h) (by show kitB "NoneType" "dict" = some false; decide +kernel) q
theorem isi_bl_bool {b0 : Bool} (q : Q F ms (.bl true)) : AC K (rIsi K) [.bl b0, .ty "bool"] F ms Q := ac_isi (b := true) (by show ("bool" : String) ≠ ""; decide) (by intro ds h; cases h) (by show kitB "bool" "bool" = some true; decide +kernel) q
theorem isi_bl_int {b0 : Bool} (q : Q F ms (.bl true)) : AC K (rIsi K) [.bl b0, .ty "int"] F ms Q := ac_isi (b := true) (by show ("bool" : String) ≠ ""; decide) (by intro ds h; cases h) (by show kitB "bool" "int" = some true; decide +kernel) q
theorem isi_bl_str {b0 : Bool} (q : Q F ms (.bl false)) : AC K (rIsi K) [.bl b0, .ty "str"] F ms Q := ac_isi (b := false) (by show ("bool" : String) ≠ ""; decide) (by intro ds h; cases h) (by show kitB "bool" "str" = some false; decide +kernel) q
theorem isi_bl_tuple {b0 : Bool} (q : Q F ms (.bl false)) : AC K (rIsi K) [.bl b0, .ty "tuple"] F ms Q := ac_isi (b := false) (by show ("bool" : String) ≠ ""; decide) (by intro ds h; cases h) (by show kitB "bool" "tuple" = some false; decide +kernel) q
theorem isi_bl_list {b0 : Bool} (q : Q F ms (.bl false)) : AC K (rIsi K) [.bl b0, .ty "list"] F ms Q := ac_isi (b := false) (by show ("bool" : String) ≠ ""; decide) (by intro ds h; cases h) (by show kitB "bool" "list" = some false; decide +kernel) q
theorem isi_bl_dict {b0 : Bool} (q : Q F ms (.bl false)) : AC K (rIsi K) [.bl b0, .ty "dict"] F ms Q := ac_isi (b := false) (by show ("bool" : String) ≠ ""; decide) (by intro ds h; cases h) (by show kitB "bool" "dict" = some false; decide +kernel) q
theorem isi_int_bool {i : Int} (q : Q F ms (.bl false)) : AC K (rIsi K) [.int i, .ty "bool"] F ms Q := ac_isi (b := false) (by show ("int" : String) ≠ ""; decide) (by intro ds h; cases h) (by show kitB "int" "bool" = some false; decide +kernel) q
theorem isi_int_int {i : Int} (q : Q F ms (.bl true)) : AC K (rIsi K) [.int i, .ty "int"] F ms Q := ac_isi (b := true) (by show ("int" : String) ≠ ""; decide) (by intro ds h; cases h) (by show kitB "int" "int" = some true; decide +kernel) q
theorem isi_int_str {i : Int} (q : Q F ms (.bl false)) : AC K (rIsi K) [.int i, .ty "str"] F ms Q := ac_isi (b := false) (by show ("int" : String) ≠ ""; decide) (by intro ds h; cases h) (by show kitB "int" "str" = some false; decide +kernel) q
theorem isi_int_tuple {i : Int} (q : Q F ms (.bl false)) : AC K (rIsi K) [.int i, .ty "tuple"] F ms Q := ac_isi (b := false) (by show ("int" : String) ≠ ""; decide) (by intro ds h; cases h) (by show kitB "int" "tuple" = some false; decide +kernel) q
theorem isi_int_list {i : Int} (q : Q F ms (.bl false)) : AC K (rIsi K) [.int i, .ty "list"] F ms Q := ac_isi (b := false) (by show ("int" : String) ≠ ""; decide) (by intro ds h; cases h) (by show kitB "int" "list" = some false; decide +kernel) q
theorem isi_int_dict {i : Int} (q : Q F ms (.bl false)) : AC K (rIsi K) [.int i, .ty "dict"] F ms Q := ac_isi (b := false) (by show ("int" : String) ≠ ""; decide) (by intro ds h; cases h) (by show kitB "int" "dict" = some false; decide +kernel) q
theorem isi_str_bool {z : Str} (q : Q F ms (.bl false)) : AC K (rIsi K) [.str z, .ty "bool"] F ms Q := ac_isi (b := false) (by show ("str" : String) ≠ ""; decide) (by intro ds h; cases h) (by show kitB "str" "bool" = some false; decide +kernel) q
theorem isi_str_int {z : Str} (q : Q F ms (.bl false)) : AC K (rIsi K) [.str z, .ty "int"] F ms Q := ac_isi (b := false) (by show ("str" : String) ≠ ""; decide) (by intro ds h; cases h) (by show kitB "str" "int" = some false; decide +kernel) q
theorem isi_str_str {z : Str} (q : Q F ms (.bl true)) : AC K (rIsi K) [.str z, .ty "str"] F ms Q := ac_isi (b := true) (by show ("str" : String) ≠ ""; decide) (by intro ds h; cases h) (by show kitB "str" "str" = some true; decide +kernel) q
theorem isi_str_tuple {z : Str} (q : Q F ms (.bl false)) : AC K (rIsi K) [.str z, .ty "tuple"] F ms Q := ac_isi (b := false) (by show ("str" : String) ≠ ""; decide) (by intro ds h; cases h) (by show kitB "str" "tuple" = some false; decide +kernel) q
theorem isi_str_list {z : Str} (q : Q F ms (.bl false)) : AC K (rIsi K) [.str z, .ty "list"] F ms Q := ac_isi (b := false) (by show ("str" : String) ≠ ""; decide) (by intro ds h; cases h) (by show kitB "str" "list" = some false; decide +kernel) q
theorem isi_str_dict {z : Str} (q : Q F ms (.bl false)) : AC K (rIsi K) [.str z, .ty "dict"] F ms Q := ac_isi (b := false) (by show ("str" : String) ≠ ""; decide) (by intro ds h; cases h) (by show kitB "str" "dict" = some false; decide +kernel) q
theorem isi_tup_bool {ds : List D} (q : Q F ms (.bl false)) : AC K (rIsi K) [.tup ds, .ty "bool"] F ms Q := ac_isi (b := false) (by show ("tuple" : String) ≠ ""; decide) (by intro ds h; cases h) (by show kitB "tuple" "bool" = some false; decide +kernel) q
theorem isi_tup_int {ds : List D} (q : Q F ms (.bl false)) : AC K (rIsi K) [.tup ds, .ty "int"] F ms Q := ac_isi (b := false) (by show ("tuple" : String) ≠ ""; decide) (by intro ds h; cases h) (by show kitB "tuple" "int" = some false; decide +kernel) q
theorem isi_tup_str {ds : List D} (q : Q F ms (.bl false)) : AC K (rIsi K) [.tup ds, .ty "str"] F ms Q := ac_isi (b := false) (by show ("tuple" : String) ≠ ""; decide) (by intro ds h; cases h) (by show kitB "tuple" "str" = some false; decide +kernel) q
theorem isi_tup_tuple {ds : List D} (q : Q F ms (.bl true)) : AC K (rIsi K) [.tup ds, .ty "tuple"] F ms Q := ac_isi (b := true) (by show ("tuple" : String) ≠ ""; decide) (by intro ds h; cases h) (by show kitB "tuple" "tuple" = some true; decide +kernel) q
theorem isi_tup_list {ds : List D} (q : Q F ms (.bl false)) : AC K (rIsi K) [.tup ds, .ty "list"] F ms Q := ac_isi (b := false) (by show ("tuple" : String) ≠ ""; decide) (by intro ds h; cases h) (by show kitB "tuple" "list" = some false; decide +kernel) q
theorem isi_tup_dict {ds : List D} (q : Q F ms (.bl false)) : AC K (rIsi K) [.tup ds, .ty "dict"] F ms Q := ac_isi (b := false) (by show ("tuple" : String) ≠ ""; decide) (by intro ds h; cases h) (by show kitB "tuple" "dict" = some false; decide +kernel) q
theorem isi_lst_bool {ds : List D} (q : Q F ms (.bl false)) : AC K (rIsi K) [.lst ds, .ty "bool"] F ms Q := ac_isi (b := false) (by show ("list" : String) ≠ ""; decide) (by intro ds h; cases h) (by show kitB "list" "bool" = some false; decide +kernel) q
theorem isi_lst_int {ds : List D} (q : Q F ms (.bl false)) : AC K (rIsi K) [.lst ds, .ty "int"] F ms Q := ac_isi (b := false) (by show ("list" : String) ≠ ""; decide) (by intro ds h; cases h) (by show kitB "list" "int" = some false; decide +kernel) q
theorem isi_lst_str {ds : List D} (q : Q F ms (.bl false)) : AC K (rIsi K) [.lst ds, .ty "str"] F ms Q := ac_isi (b := false) (by show ("list" : String) ≠ ""; decide) (by intro ds h; cases h) (by show kitB "list" "str" = some false; decide +kernel) q
theorem isi_lst_tuple {ds : List D} (q : Q F ms (.bl false)) : AC K (rIsi K) [.lst ds, .ty "tuple"] F ms Q := ac_isi (b := false) (by show ("list" : String) ≠ ""; decide) (by intro ds h; cases h) (by show kitB "list" "tuple" = some false; decide +kernel) q
theorem isi_lst_list {ds : List D} (q : Q F ms (.bl true)) : AC K (rIsi K) [.lst ds, .ty "list"] F ms Q := ac_isi (b := true) (by show ("list" : String) ≠ ""; decide) (by intro ds h; cases h) (by show kitB "list" "list" = some true; decide +kernel) q
theorem isi_lst_dict {ds : List D} (q : Q F ms (.bl false)) : AC K (rIsi K) [.lst ds, .ty "dict"] F ms Q := ac_isi (b := false) (by show ("list" : String) ≠ ""; decide) (by intro ds h; cases h) (by show kitB "list" "dict" = some false; decide +kernel) q
theorem isi_dic_bool {kv : List (Key × D)} (q : Q F ms (.bl false)) : AC K (rIsi K) [.dic kv, .ty "bool"] F ms Q := ac_isi (b := false) (by show ("dict" : String) ≠ ""; decide) (by intro ds h; cases h) (by show kitB "dict" "bool" = some false; decide +kernel) q
theorem isi_dic_int {kv : List (Key × D)} (q : Q F ms (.bl false)) : AC K (rIsi K) [.dic kv, .ty "int"] F ms Q := ac_isi (b := false) (by show ("dict" : String) ≠ ""; decide) (by intro ds h; cases h) (by show kitB "dict" "int" = some false; decide +kernel) q
theorem isi_dic_str {kv : List (Key × D)} (q : Q F ms (.bl false)) : AC K (rIsi K) [.dic kv, .ty "str"] F ms Q := ac_isi (b := false) (by show ("dict" : String) ≠ ""; decide) (by intro ds h; cases h) (by show kitB "dict" "str" = some false; decide +kernel) q
theorem isi_dic_tuple {kv : List (Key × D)} (q : Q F ms (.bl false)) : AC K (rIsi K) [.dic kv, .ty "tuple"] F ms Q := ac_isi (b := false) (by show ("dict" : String) ≠ ""; decide) (by intro ds h; cases h) (by show kitB "dict" "tuple" = some false; decide +kernel) q
theorem isi_dic_list {kv : List (Key × D)} (q : Q F ms (.bl false)) : AC K (rIsi K) [.dic kv, .ty "list"] F ms Q := ac_isi (b := false) (by show ("dict" : String) ≠ ""; decide) (by intro ds h; cases h) (by show kitB "dict" "list" = some false; decide +kernel) q
theorem isi_dic_dict {kv : List (Key × D)} (q : Q F ms (.bl true)) : AC K (rIsi K) [.dic kv, .ty "dict"] F ms Q := ac_isi (b := true) (by show ("dict" : String) ≠ ""; decide) (by intro ds h; cases h) (by show kitB "dict" "dict" = some true; decide +kernel) q
theorem isiO_bool {l : Addr} {ds : List D} (n : Nat) (hn : ms[n]? = some (l, .lst ds)) (q : Q F ms (.bl false)) : AC K (rIsi K) [.ref l, .ty "bool"] F ms Q := ac_isiO n hn (b := false) (by decide +kernel) q
theorem isiO_int {l : Addr} {ds : List D} (n : Nat) (hn : ms[n]? = some (l, .lst ds)) (q : Q F ms (.bl false)) : AC K (rIsi K) [.ref l, .ty "int"] F ms Q := ac_isiO n hn (b := false) (by decide +kernel) q
theorem isiO_str {l : Addr} {ds : List D} (n : Nat) (hn : ms[n]? = some (l, .lst ds)) (q : Q F ms (.bl false)) : AC K (rIsi K) [.ref l, .ty "str"] F ms Q := ac_isiO n hn (b := false) (by decide +kernel) q
theorem isiO_tuple {l : Addr} {ds : List D} (n : Nat) (hn : ms[n]? = some (l, .lst ds)) (q : Q F ms (.bl false)) : AC K (rIsi K) [.ref l, .ty "tuple"] F ms Q := ac_isiO n hn (b := false) (by decide +kernel) q
theorem isiO_list {l : Addr} {ds : List D} (n : Nat) (hn : ms[n]? = some (l, .lst ds)) (q : Q F ms (.bl true)) : AC K (rIsi K) [.ref l, .ty "list"] F ms Q := ac_isiO n hn (b := true) (by decide +kernel) q
theorem isiO_dict {l : Addr} {ds : List D} (n : Nat) (hn : ms[n]? = some (l, .lst ds)) (q : Q F ms (.bl false)) : AC K (rIsi K) [.ref l, .ty "dict"] F ms Q := ac_isiO n hn (b := false) (by decide +kernel) q

theorem ar_neB {i j : Bool} (q : Q F ms (.bl (!decide (i = j)))) : AR K rNe (.bl i) (.bl j) F ms Q := fun R u v H Qc hu hv hh k => by
  cases hu; cases hv
  refine ⟨rfl, k F ms (.bl (!decide (i = j))) _ H Ex.refl hh ?_ q⟩
  have e : decide (V.bl i = V.bl j) = decide (i = j) := by cases i <;> cases j <;> simp
  rw [e]
  exact .bl _
theorem ar_NEb {i j : Bool} (q : Q F ms (.bl (!decide (i = j)))) : AR K (rNE K) (.bl i) (.bl j) F ms Q := ar_inl (ar_neB q)
theorem and_T {A B : Prop} (h : A) : (true = true → A) ∧ (true = false → B) := ⟨fun _ => h, fun z => Bool.noConfusion z⟩
theorem and_F {A B : Prop} (h : B) : (false = true → A) ∧ (false = false → B) := ⟨fun z => Bool.noConfusion z, fun _ => h⟩
theorem and_T' {A B : Prop} (h : A) : (true = false → B) ∧ (true = true → A) := ⟨fun z => Bool.noConfusion z, fun _ => h⟩
theorem and_F' {A B : Prop} (h : B) : (false = false → B) ∧ (false = true → A) := ⟨fun _ => h, fun z => Bool.noConfusion z⟩
/-- a comprehension whose list is owned -/
theorem ae_lcO (hg : GW g vs) (gm : ∀ v σ H N N', (∀ σ2 H2, N σ2 H2 → N' σ2 H2) → g v σ H N → g v σ H N') (h : AI Γ wi F ms S fun F1 ms1 ds G => ∃ I : Nat → Hp → Ms → List D → Prop, I 0 F1 ms1 [] ∧ (∀ i F' ms' acc, Ex F1 F' → I i F' ms' acc → G ms') ∧
    (∀ i d F' ms' acc, Ex F1 F' → ds[i]? = some d → I i F' ms' acc → ∀ F'', Ex F' F'' → AG Γ.nox g d F'' ms' (wipeS S vs) fun F2 ms2 S2 => AT Γ.nox tt F2 ms2 S2 fun F3 ms3 b => (b = true → AE Γ.nox te F3 ms3 S2 fun F4 ms4 y => acc.length < 100000 ∧ I (i + 1) F4 ms4 (acc ++ [y])) ∧ (b = false → I (i + 1) F3 ms3 acc)) ∧
    (∀ F' ms' acc, Ex F1 F' → I ds.length F' ms' acc → ∀ l, Q F' ((l, .lst acc) :: ms') (.ref l))) : AE Γ (tLc wi g tt te vs) F ms S Q := fun R σ H Qc hs hh x k =>
  h R σ H _ hs hh x fun F1 ms1 ds G J H1 e1 h1 it ⟨I, i0, iG, ib, ie⟩ => by
    intro D hD
    refine ⟨fun i m H' => m = ds.length - i ∧ i ≤ ds.length ∧ ∃ F' ms' acc, Ex F1 F' ∧ Hold Γ.K F' (ms' ++ (D, .lst acc) :: R) H' ∧ I i F' ms' acc, ⟨_, rfl, Nat.zero_le _, F1, ms1, [], Ex.refl, ?_, i0⟩, ?_⟩
    · exact (h1.made (m := .lst []) hD ⟨[], upd_same, .nil⟩).perm List.perm_middle
    rintro i m H' ⟨rfl, hi, F', ms', acc, e', hh', p⟩
    have hG := iG i F' ms' acc e' p
    by_cases hlt : i < ds.length
    · refine .inr ⟨it.goes _ i H' F' ms' hlt e' hh' hG, fun H2 => ∃ F2 ms2 acc2, Ex F1 F2 ∧ Hold Γ.K F2 (ms2 ++ (D, .lst acc2) :: R) H2 ∧ I (i + 1) F2 ms2 acc2, fun H2 ⟨F2, ms2, acc2, e2, b2, q2⟩ => ⟨ds.length - (i + 1), by omega, rfl, hlt, F2, ms2, acc2, e2, b2, q2⟩, fun x H2 y => ?_⟩
      obtain ⟨F2, d, e2, hh2, hd, hr⟩ := it.yields _ i H' x H2 F' ms' hlt e' hh' hG y
      refine gm x _ H2 _ _ (fun σ2 H3 z => ⟨z.2, z.1⟩) (hg x _ H2 _ _ (wipe_wipe σ vs) ?_)
      refine ib i d F' ms' acc e' hd p F2 e2 _ x (L2.wipe σ vs) H2 _ hr (((hs.mono e1).mono (e'.trans e2)).wipe vs) hh2 xle0 fun F3 ms3 S3 σ3 H3 e3 a3 b3 q3 => ?_
      refine q3 _ σ3 H3 _ a3 b3 xle0 fun F4 ms4 b H4 e4 b4 q4 => ?_
      cases b with
      | true =>
        refine q4.1 rfl _ σ3 H4 _ (a3.mono e4) b4 xle0 fun F5 ms5 d5 v5 H5 e5 b5 r5 q5 => ?_
        obtain ⟨_, vs5, hl, rl⟩ := b5.at mid_get
        refine ⟨vs5, hl, Evl.sz_lt (by rw [← rl.len]; exact q5.1), F5, ms5, acc ++ [d5], (((e'.trans e2).trans e3).trans e4).trans e5, ?_, q5.2⟩
        have := b5.set (m' := .lst (acc ++ [d5])) (o := .lst (vs5 ++ [v5])) mid_get ⟨_, upd_same, rl.append (RepL.one r5)⟩
        rw [mid_set] at this
        exact this
      | false => exact ⟨F4, ms4, acc, ((e'.trans e2).trans e3).trans e4, b4, q4.2 rfl⟩
    · have ei : i = ds.length := by omega
      subst ei
      refine .inl ⟨it.stops _ H' F' ms' e' hh' hG, ?_⟩
      exact k F' ((D, .lst acc) :: ms') (.ref D) _ H' (e1.trans e') (hh'.perm List.perm_middle.symm) (.ref D) (ie F' ms' acc e' p D)
end
/-! ### the start of a law -/
theorem start_law {K : Frg} {H : Hp} {a : Addr} {ns : List Int} {sp : ASp} (hS : SqL K H a (ns.map V.int)) (hq : ∀ F ms, sp [.rdl (ns.map D.int)] F ms (fun _ _ d => d = .bl true) fun _ _ _ _ => False) : toSp K sp [.ref a] H (fun v _ => v = .bl true) fun _ _ _ => False := by
  refine ⟨H, [], [], [.rdl (ns.map D.int)], _, _, ⟨Ex.refl, fun p hp => (List.not_mem_nil hp).elim, List.nodup_nil⟩, .cons (.rdl hS ?_) .nil, hq H [], fun F' ms' d v H' _ _ r e => ?_, fun _ _ _ _ _ _ _ _ _ z => z.elim⟩
  · clear hS hq
    induction ns with
    | nil => exact .nil
    | cons i ns ih => exact .cons (.int i) ih
  · subst e
    cases r
    rfl
end AL

set_option Elab.async false
set_option linter.all false
set_option maxRecDepth 100000
set_option maxHeartbeats 4000000
namespace AL
open PySem L2 PyProof.Rows
section
variable {Γ : Cg} {K : Frg} {F : Hp} {ms : Ms} {S : Sg} {Q : QE} {ta tb te tx : TE} {t u tt : TT} {r : R2} {ts tu tw : TS} {A : AEnds} {g : TG} {wi : TI} {vs : List Nat}
theorem as_cut (P : QS) (h1 : AS Γ ts F ms S { A with nx := P }) (h2 : ∀ F' ms' S', Ex F F' → P F' ms' S' → AS Γ tu F' ms' S' A) : AS Γ (tSeq ts tu) F ms S A :=
  as_seq (h1.mono (fun F' ms' S' e q => h2 F' ms' S' e q) (fun _ _ _ _ q => q) (fun _ _ _ _ q => q) (fun _ _ _ _ q => q))
theorem ae_cut (P : QE) (h1 : AE Γ te F ms S P) (h2 : ∀ F' ms' d, Ex F F' → P F' ms' d → Q F' ms' d) : AE Γ te F ms S Q := h1.mono fun F' ms' d e q => h2 F' ms' d e q
theorem ex_par' {a b : D} {P : D → D → Prop} (h : P a b) : ∃ x y, [a, b] = [x, y] ∧ P x y := ⟨_, _, rfl, h⟩
/-- own[i] = value -/
theorem as_subO {to ti : TE} (h : AE Γ te F ms S fun F0 ms0 d => AE Γ to F0 ms0 S fun F1 ms1 o => AE Γ ti F1 ms1 S fun F2 ms2 i => ∃ (n : Nat) (l : Addr) (ds : List D) (z : Int) (j : Nat), o = .ref l ∧ i = .int z ∧ ms2[n]? = some (l, .lst ds) ∧ ixN ds.length z = some j ∧ A.nx F2 (ms2.set n (l, .lst (ds.set j d))) S) :
    AS Γ (tAsg te (gSub to ti rSetL)) F ms S A := as_asgG (h.mono fun F0 ms0 d e q => ag_subO q)
end
theorem ixN_of {n j : Nat} {z : Int} (hz : z = (j : Int)) (h : j < n) : ixN n z = some j := by
  subst hz
  unfold ixN
  rw [if_pos (by omega), if_pos (by omega)]
  simp
theorem atI_of {α : Type} {xs : List α} {j : Nat} {z : Int} {d : α} (hz : z = (j : Int)) (h : xs[j]? = some d) : atI xs z = some d := by
  unfold atI
  rw [ixN_of hz (List.getElem?_eq_some_iff.mp h).1]
  exact h
theorem ixN_neg {n j : Nat} {z : Int} (hz : z + (n : Int) = (j : Int)) (h : j < n) (h0 : z < 0) : ixN n z = some j := by
  unfold ixN
  rw [if_neg (by omega), if_pos (by omega), hz]
  simp
theorem atI_neg {α : Type} {xs : List α} {j : Nat} {z : Int} {d : α} (hz : z + (xs.length : Int) = (j : Int)) (h : xs[j]? = some d) (h0 : z < 0) : atI xs z = some d := by
  unfold atI
  rw [ixN_neg hz (List.getElem?_eq_some_iff.mp h).1 h0]
  exact h
theorem set_get {ms : Ms} {k : Nat} {p : Addr × MO} (h : k < ms.length) : (ms.set k p)[k]? = some p := by rw [List.getElem?_set_self h]
theorem set_set {ms : Ms} {k : Nat} {p q : Addr × MO} : (ms.set k p).set k q = ms.set k q := by simp
theorem set_same {ms : Ms} {k : Nat} {p : Addr × MO} (h : ms[k]? = some p) : ms.set k p = ms := by
  apply List.ext_getElem?
  intro j
  rw [List.getElem?_set]
  by_cases e : k = j
  · subst e; rw [if_pos rfl, h]; rw [if_pos (List.getElem?_eq_some_iff.mp h).1]
  · rw [if_neg e]
end AL

set_option Elab.async false
set_option linter.all false
set_option maxRecDepth 100000
set_option maxHeartbeats 4000000
namespace AL
open PySem L2 PyProof.Rows StX
section
variable {Γ : Cg} {K : Frg} {F : Hp} {ms : Ms} {S : Sg} {Q : QE} {ta tb te tx tv : TE} {t u tt : TT} {r : R2} {ts tu tw : TS} {A : AEnds} {g : TG} {wi : TI} {vs : List Nat}
theorem am_extend {l : Addr} {xs zs : List D} (n : Nat) (hn : ms[n]? = some (l, .lst xs)) (hz : xs.length + zs.length ≤ 100000) (q : Q F (ms.set n (l, .lst (xs ++ zs))) .non) : AM K "list" rExtend (.ref l) [.lst zs] F ms Q := fun R u vs H Qc hu hv hh k => by
  cases hu
  cases hv with
  | cons h1 h2 =>
    cases h2
    cases h1 with
    | lst hb rb =>
      obtain ⟨_, ys, hl, r⟩ := hh.at (get_app hn)
      refine ⟨l, _, ys, _, rfl, rfl, hl, hh.ex _ _ hb, Evl.sz_of (by rw [← r.len, ← rb.len]; exact hz), k F (ms.set n (l, .lst (xs ++ zs))) .non _ _ Ex.refl ?_ .non q⟩
      rw [← set_app hn]
      exact hh.set (get_app hn) ⟨_, upd_same, r.append rb⟩
def rSIX : V → List V → Hp → VK → Prop := fun x xs H Q => ∃ a b i rest, x = .str a ∧ xs = [.str b] ∧ Builtin.Str.occurrences a b 0 a.length 1 = i :: rest ∧ Q (.int (i : Nat)) H
theorem mt_SIX {X : Cx} : MtR X "str.index" rSIX := mt_sindex
theorem am_sindex {a b : Str} {i : Nat} {rest : List Nat} (h : Builtin.Str.occurrences a b 0 a.length 1 = i :: rest) (q : Q F ms (.int (i : Nat))) : AM K "str" rSIX (.str a) [.str b] F ms Q := fun R u vs H Qc hu hv hh k => by
  cases hu
  cases hv with
  | cons h1 h2 =>
    cases h2
    cases h1
    exact ⟨a, b, i, rest, rfl, rfl, h, k F ms _ _ H Ex.refl hh (.int _) q⟩
theorem rep_ints {ns : List Int} {vs : List V} (h : RepL K F (ns.map D.int) vs) : vs = ns.map V.int := by
  induction ns generalizing vs with
  | nil => cases h; rfl
  | cons n ns ih =>
    cases h with
    | cons a b => cases a; rw [ih b]; rfl
theorem rep_strs {ns : List Str} {vs : List V} (h : RepL K F (ns.map D.str) vs) : vs = ns.map V.str := by
  induction ns generalizing vs with
  | nil => cases h; rfl
  | cons n ns ih =>
    cases h with
    | cons a b => cases a; rw [ih b]; rfl
theorem kSUM {X : Cx} (h : X.K = K) (hc : X.calm = true) : CallR X (.builtin "sum") (rSum K) := h ▸ cr_sum hc
theorem ac_sumL {ns : List Int} (q : Q F ms (.int ns.sum)) : AC K (rSum K) [.lst (ns.map D.int)] F ms Q := ac1 fun R v H Qc hv hh k => by
  cases hv with
  | lst h r =>
    have e := rep_ints r
    subst e
    exact ⟨_, ns, rfl, SqL.of (hh.ex _ _ h), k F ms _ _ H Ex.refl hh (.int _) q⟩
theorem ac_sumO {ns : List Int} {l : Addr} (n : Nat) (hn : ms[n]? = some (l, .lst (ns.map D.int))) (q : Q F ms (.int ns.sum)) : AC K (rSum K) [.ref l] F ms Q := ac1 fun R v H Qc hv hh k => by
  cases hv
  obtain ⟨_, ys, hl, r⟩ := hh.at (get_app hn)
  have e := rep_ints r
  subst e
  exact ⟨_, ns, rfl, SqL.of hl, k F ms _ _ H Ex.refl hh (.int _) q⟩
/-- [*e, ..] -/
theorem aa_star {tr : TA} {Q : Hp → Ms → List D → Prop} (h : AE Γ te F ms S fun F1 ms1 x => ∃ ds, (LstA F1 ms1 x ds ∨ x = .tup ds) ∧ AA Γ tr F1 ms1 S fun F2 ms2 ys => Q F2 ms2 (ds ++ ys)) : AA Γ (tStar Γ.K te tr) F ms S Q := fun R σ H Qc hs hh x k =>
  h R σ H _ hs hh x fun F1 ms1 d1 v1 H1 e1 h1 r1 ⟨ds, hd, q1⟩ => by
    obtain ⟨p, xs, rfl, hsq, rl⟩ : ∃ p xs, v1 = .ref p ∧ (SqT Γ.K H1 p xs ∨ SqL Γ.K H1 p xs) ∧ RepL Γ.K F1 ds xs := by
      rcases hd with hl | rfl
      · obtain ⟨a, vs0, rfl, ha, r⟩ := hl.to h1 r1
        exact ⟨a, vs0, rfl, .inr ha, r⟩
      · cases r1 with
        | tup hq r => exact ⟨_, _, rfl, .inl (ex_t h1.ex hq), r⟩
    exact ⟨p, xs, rfl, hsq, q1 R σ H1 _ (hs.mono e1) h1 (x.ex e1) fun F2 ms2 ys vs2 H2 e2 h2 r2 q2 => k F2 ms2 (ds ++ ys) (xs ++ vs2) H2 (e1.trans e2) h2 ((rl.mono e2).append r2) q2⟩
theorem pa_stark {X : Cx} {e : Expr} {es : List Expr} {tr : TA} {p : Pos} (h : X.K = K) (he : PE X e te) (hr : PA X es tr) (hs : starEach (.Starred e p :: es) X.env = (true, eval e X.env) :: starEach es X.env := by rfl) : PA X (.Starred e p :: es) (tStar K te tr) := h ▸ pa_star he hr hs
theorem ps_fldaugk {X : Cx} {o value : Expr} {f : Str} {tpos pos : Pos} {op : Operator} {rd : V → V → Hp → VK → Prop} (h : X.K = K) (ha : PE X o ta) (hv : PE X value tv) (hop : InOp X op rd) : PS X (.AugAssign (.Attribute o f tpos) op value pos) (sFldAug K ta tv rd f) := h ▸ ps_fldaug ha hv hop
/-- o.f += int -/
theorem as_fldaug {f : Str} (h : AE Γ ta F ms S fun F1 ms1 x => ∃ (n : Nat) (a C : Addr) (fs : List (Str × D)) (i : Int), x = .ref a ∧ ms1[n]? = some (a, .ins C fs) ∧ Cls Γ.K C ∧ NoAttr Γ.K C f ∧ fs.lookup f = some (.int i) ∧
    AE Γ tv F1 ms1 S fun F2 ms2 y => ∃ (j : Int) (n2 : Nat) (fs2 : List (Str × D)), y = .int j ∧ ms2[n2]? = some (a, .ins C fs2) ∧ fs2.length < 1000 ∧ A.nx F2 (ms2.set n2 (a, .ins C (putD f (.int (i + j)) fs2))) S) :
    AS Γ (sFldAug Γ.K ta tv (rI0 fun i j => .int (i + j)) f) F ms S A := fun R E σ H hs hh l =>
  h R σ H _ hs hh l.xe fun F1 ms1 x1 v1 H1 e1 h1 r1 ⟨n, a, C, fs, i, hx, hn, hc, hna, hl, q⟩ => by
    subst hx
    cases r1
    obtain ⟨_, dx, gs, i1, i2, i3⟩ := h1.at (get_app hn)
    obtain ⟨v, hv, rv⟩ := i3.look hl
    refine ⟨a, C, dx, gs, v, rfl, i1, hc, hna, hv, q R σ H1 _ (hs.mono e1) h1 (l.xe.ex e1) fun F2 ms2 y vy H2 e2 h2 r2 ⟨j, n2, fs2, hy, hn2, hlen, q2⟩ => ?_⟩
    subst hy
    cases r2
    cases rv
    obtain ⟨_, dx2, gs2, j1, j2, j3⟩ := h2.at (get_app hn2)
    refine ⟨i, j, rfl, rfl, dx2, gs2, j1, by rw [← j3.len]; exact hlen, l.nx F2 (ms2.set n2 (a, .ins C (putD f (.int (i + j)) fs2))) S σ _ (e1.trans e2) (hs.mono (e1.trans e2)) ?_ q2⟩
    rw [← set_app hn2]
    exact h2.set (get_app hn2) ⟨dx2, _, upd_same, j2, j3.put (.int _)⟩
/-- s in an owned list of texts -/
theorem ar_INo {l : Addr} {x : Str} {xs : List Str} (n : Nat) (hn : ms[n]? = some (l, .lst (xs.map D.str))) (q : Q F ms (.bl (decide (x ∈ xs)))) : AR K (rIN K) (.str x) (.ref l) F ms Q := ar_inr fun R u v H Qc hu hv hh k => by
  cases hu; cases hv
  obtain ⟨_, ys, hl, r⟩ := hh.at (get_app hn)
  have e := rep_strs r
  subst e
  have hin : inV (.str x) (xs.map V.str) = decide (x ∈ xs) := by
    unfold inV
    rw [List.any_map]
    by_cases h : x ∈ xs
    · rw [decide_eq_true h]
      exact List.any_eq_true.mpr ⟨x, h, by simp [eqV]⟩
    · rw [decide_eq_false h]
      rw [List.any_eq_false]
      intro y hy z
      simp [eqV] at z
      exact h (z ▸ hy)
  refine ⟨l, _, rfl, .inl (SqL.of hl), rfl, ?_, ?_⟩
  · rw [List.all_map]
    exact List.all_eq_true.mpr fun y _ => rfl
  · show Qc (.bl (inV (.str x) (xs.map V.str))) H
    rw [hin]
    exact k F ms _ _ H Ex.refl hh (.bl _) q
/-- an owned list + a list: a new owned one -/
theorem ar_ADDoo {l : Addr} {xs ys : List D} (n : Nat) (hn : ms[n]? = some (l, .lst xs)) (h : xs.length + ys.length ≤ 100000) (q : ∀ l2, Q F ((l2, .lst (xs ++ ys)) :: ms) (.ref l2)) : AR K (rADD K) (.ref l) (.lst ys) F ms Q := ar_inr (ar_inr (ar_inl fun R u v H Qc hu hv hh k => by
  cases hu
  obtain ⟨_, vs, hl, r⟩ := hh.at (get_app hn)
  cases hv with
  | lst hb rb =>
    refine ⟨_, _, _, _, rfl, rfl, hl, hh.ex _ _ hb, Evl.sz_of (by rw [← r.len, ← rb.len]; exact h), fun p hp => ?_⟩
    exact k F ((p, .lst (xs ++ ys)) :: ms) (.ref p) _ _ Ex.refl (hh.made (m := .lst (xs ++ ys)) hp ⟨_, upd_same, r.append rb⟩) (.ref p) (q p)))
def rangeC (lo c : Int) (n : Nat) : List D := (List.range n).map fun i => .int (lo + (i : Nat) * c)
theorem ai_rng3 {ta : TA} (h : AA Γ ta F ms S fun F1 ms1 ds => ∃ (i j c : Int) (n : Nat), ds = [.int i, .int j, .int c] ∧ RgC i j c n ∧ P F1 ms1 (rangeC i c n) fun _ => True) : AI Γ (iRng3 ta) F ms S P := fun R σ H Rc hs hh x k =>
  h R σ H _ hs hh x fun F1 ms1 ds vs H1 e1 h1 r1 ⟨i, j, c, n, hd, n1, p⟩ => by
    subst hd
    cases r1 with
    | cons a b =>
      cases b with
      | cons b d =>
        cases d with
        | cons d e =>
          cases e
          cases a
          cases b
          cases d
          refine ⟨i, j, c, n, rfl, n1, k F1 ms1 _ (fun _ => True) _ H1 e1 h1 ⟨fun _ i H F' ms' hi _ _ _ => ?_, fun _ H F' ms' _ _ _ => ?_, fun _ m H x H' F' ms' hi _ hh' _ y => ?_⟩ p⟩
          · unfold rangeC at hi; rw [List.length_map, List.length_range] at hi; exact hi
          · show n ≤ (rangeC i c n).length; unfold rangeC; rw [List.length_map, List.length_range]; exact Nat.le_refl _
          · unfold rangeC at hi; rw [List.length_map, List.length_range] at hi
            obtain ⟨y1, y2⟩ := y
            subst y1 y2
            refine ⟨F', .int (i + (m : Nat) * c), Ex.refl, hh', ?_, .int _⟩
            unfold rangeC
            rw [List.getElem?_map, List.getElem?_range hi]
            rfl
end
theorem rangeC_at {lo c : Int} {n i : Nat} {d : D} (h : (rangeC lo c n)[i]? = some d) : i < n ∧ d = .int (lo + (i : Nat) * c) := by
  have hi := (List.getElem?_eq_some_iff.mp h).1
  unfold rangeC at hi h
  rw [List.length_map, List.length_range] at hi
  rw [List.getElem?_map, List.getElem?_range hi] at h
  exact ⟨hi, (Option.some.inj h).symm⟩
theorem rangeC_len {lo c : Int} {n : Nat} : (rangeC lo c n).length = n := by unfold rangeC; rw [List.length_map, List.length_range]
theorem rgc2 {m : Nat} (h : m ≤ 10) : RgC 0 (2 * (m : Int)) 2 m := by
  have : ∀ m ∈ List.range 11, Builtin.Range.small 0 (2 * (m : Int)) 2 = true ∧ Builtin.Range.rangeSize 0 (2 * (m : Int)) 2 = m := by decide +kernel
  have q := this m (List.mem_range.mpr (by omega))
  exact ⟨by decide, by decide, q.1, q.2⟩
end AL

set_option Elab.async false
set_option linter.all false
set_option maxRecDepth 100000
set_option maxHeartbeats 4000000
namespace AL
open PySem L2 PyProof.Rows
/-! ### a, *b = a list -/
def gStar (K : Frg) (t : TGs) : TG := fun v σ H Q => ∃ l x xs, v = .ref l ∧ SqL K H l (x :: xs) ∧ xs.length ≤ 10000 ∧ ∀ p, H p = none → t [x, .ref p] σ (upd H p (.lst xs)) Q
theorem pg_starL {X : Cx} {K : Frg} {a b : Expr} {k : Nat} {sp pos : Pos} {t : TGs} (hK : X.K = K) (hc : X.calm = true) (h : PGs X [a, b] t)
    (h1 : (assignEach [a, .Starred b sp] X.env).map (·.2) = (assignEach [a, b] X.env).map (·.2) := by rfl) (h2 : (assignEach [a, .Starred b sp] X.env).length = 2 := by rfl) (h3 : (assignEach [a, .Starred b sp] X.env).findIdx? (·.1) = some 1 := by rfl) :
    PG X (.Tuple [a, .Starred b sp] k pos) (gStar K t) := by
  subst hK
  refine ⟨fun pins s σ H v u Q I r hw => ?_⟩
  obtain ⟨l, x, xs, e1, hq, hz, hw⟩ := hw
  subst e1
  cases r
  obtain ⟨its, rv, pl, hz2⟩ := I.list hq
  have hl : s.heap.IsList l its.toArray := pl.isList
  cases rv with
  | @cons _ u0 _ us r0 rr =>
  rw [assign_Tuple]
  refine wpAny_bind (wpAny_standAt ?_)
  unfold unpack
  rw [h2, h3, h1]
  refine wpAny_bind (wpAny_holding ?_)
  have hh := I.ok.hd hc
  have hlen : us.length = xs.length := rr.length.symm
  have hsz : (u0 :: us).toArray.size = us.length + 1 := by simp
  have hlt : l ≠ s.heap.objs.size := by obtain ⟨o, ho, _⟩ := hl; exact Nat.ne_of_lt (Heap.lt_size ho)
  unfold unpackItems
  refine wpAny_bind ?_
  unfold notIterableAtAll
  refine wpAny_bind (wpAny_specialOf hl.typeIs PySem.F.slot_list_iter.lookup ?_)
  refine wpAny_pure ?_
  simp only [Bool.false_eq_true, if_false]
  refine wpAny_bind (wpAny_holding (wpAny_pyIter_list hl ?_))
  refine wpAny_bind (wpAny_holding (PySem.W.kun_draw hlt 1 0 _ _ ⟨_, Heap.get?_push_size _ rfl, rfl, rfl⟩ (hl.push _) (by rw [hsz]; omega) fun h₁ hit₁ hs₁ => ?_))
  have hl₁ : h₁.IsList l (u0 :: us).toArray := (hl.push _).extBut hs₁.extBut hlt
  rw [Nat.zero_add] at hit₁
  have hit₁' := hit₁
  obtain ⟨oi, hoi, _⟩ := hit₁'
  have hl₁' := hl₁
  obtain ⟨ol, hol, _⟩ := hl₁'
  have ht : ((u0 :: us).toArray.toList.drop 0).take 1 = [u0] := rfl
  rw [ht]
  rw [if_neg (show ¬ ([u0].length < 1) from Nat.lt_irrefl 1)]
  refine wpAny_bind (wpAny_holding (PySem.W.kun_collect (s := { s with heap := h₁ }) (T := "list_iterator") (.inr (.inr (.inl rfl))) (PySem.Walks.list (A := X.A.in1) hh s.heap.objs.size l hlt (u0 :: us).toArray) (fun j u st => st.1.typeIs) (k := 1) (by rw [hsz]; omega) ⟨hit₁, hl₁⟩ (Heap.lt_size hoi) (Heap.lt_size hol) (fun h₂ tk hk => ?_) (by rw [hsz]; exact Evl.sz_of (by omega))))
  have hd : (u0 :: us).toArray.toList.drop 1 = us := rfl
  rw [hd]
  show wpAny _ _ (if us.length < 0 then _ else _) _ _ _
  rw [if_neg (Nat.not_lt_zero _)]
  show wpAny _ _ (newList (us.take us.length) >>= fun d => pure ([u0] ++ [d] ++ us.drop us.length)) _ _ _
  rw [List.take_length, List.drop_length]
  have he : ∀ b o, s.heap.get? b = some o → h₂.get? b = some o := fun b o e => hk b o (Nat.ne_of_lt (Heap.lt_size e)) (hs₁.extBut b o (Nat.ne_of_lt (Heap.lt_size e)) (Heap.get?_push_of_some _ e))
  have I2 : Inv X pins σ H { s with heap := h₂, toks := tk } := I.kept (t' := tk) he
  refine wpAny_bind (wpAny_newList ?_)
  refine wpAny_pure ?_
  have hf : H h₂.objs.size = none := I2.hok.fresh (Nat.le_refl _)
  have I3 : Inv X pins σ (upd H h₂.objs.size (.lst xs)) { s with heap := h₂.push { cls := .type "list", data := .seq us.toArray }, toks := tk } := I2.laid (t' := tk) (fun b u e => Heap.get?_push_of_some _ e) (Nat.le_refl _) ⟨Evl.sz_of (by omega), us, 0, rr, Heap.get?_push_size _ rfl⟩
  exact h.run pins _ σ _ [x, .ref h₂.objs.size] [u0, .ref h₂.objs.size] Q I3 (.cons r0 (.cons rfl .nil)) (hw _ hf)
section
variable {Γ : Cg} {K : Frg} {F : Hp} {ms : Ms} {S : Sg} {Q : QE} {ta tb te tx tv : TE} {t u tt : TT} {r : R2} {ts tu tw : TS} {A : AEnds} {g : TG} {gs : TGs} {wi : TI} {vs : List Nat}
theorem ag_star {d : D} {ds : List D} {N : QS} (hz : ds.length ≤ 10000) (h : ∀ F', Ex F F' → AGs Γ gs [d, .lst ds] F' ms S N) : AG Γ (gStar Γ.K gs) (.lst (d :: ds)) F ms S N := fun R v σ H Nc hv hs hh x k => by
  cases hv with
  | lst hl rl =>
    cases rl with
    | @cons _ v0 _ vs r0 rr =>
      refine ⟨_, v0, vs, rfl, SqL.of (hh.ex _ _ hl), by rw [← rr.len]; exact hz, fun p hp => ?_⟩
      obtain ⟨e, hh'⟩ := hh.laid (.lst vs) hp
      exact h _ e R [v0, .ref p] σ _ Nc (.cons (r0.mono e) (.cons (.lst upd_same (rr.mono e)) .nil)) (hs.mono e) hh' (x.ex e) fun F' ms' S' σ' H' e2 => k F' ms' S' σ' H' (e.trans e2)
end
end AL

set_option Elab.async false
set_option linter.all false
set_option maxRecDepth 100000
set_option maxHeartbeats 4000000
namespace AL
open PySem L2 PyProof.Rows
open PySem.Builtin.Str PySem.StrLaws RZ
/-! ### split at one sign, at most twice -/
theorem subAt_one (s : Str) (c i : Nat) : subAt s (sg c) i = decide (s.cps.toList[i]? = some c) := by
  unfold subAt
  have e : (s.cps.extract i (i + (sg c).length)).toList = (s.cps.toList.drop i).take 1 := by
    rw [Array.toList_extract, List.extract_eq_drop_take]
    show ((s.cps.toList.drop i).take (i + 1 - i)) = _
    rw [show i + 1 - i = 1 by omega]
  have b : (s.cps.extract i (i + (sg c).length) == (sg c).cps) = decide ((s.cps.toList.drop i).take 1 = [c]) := by
    rw [← e]
    by_cases h : s.cps.extract i (i + (sg c).length) = (sg c).cps
    · rw [h]
      simp [sg]
    · have h2 : ¬ (s.cps.extract i (i + (sg c).length)).toList = [c] := fun z => h (Array.toList_inj.mp z)
      rw [decide_eq_false h2]
      exact beq_eq_false_iff_ne.mpr h
  rw [b, ← List.head?_drop]
  cases s.cps.toList.drop i with
  | nil => simp
  | cons a l => simp
def ostep (s sub : Str) (hi limit : Nat) (st : Array Nat × Nat) (i : Nat) : Array Nat × Nat :=
  if ((st.fst.size < limit ∧ st.snd ≤ i) ∧ i + sub.length ≤ hi) ∧ subAt s sub i = true then (st.fst.push i, i + sub.length) else (st.fst, st.snd)
theorem occ_fold (s sub : Str) (lo hi limit : Nat) : occurrences s sub lo hi limit = ((List.range' lo (hi + 1 - lo)).foldl (ostep s sub hi limit) (#[], lo)).fst.toList := by
  rw [occ_eq]
  have e : occBody s sub hi limit = fun i st => pure (.yield (ostep s sub hi limit st i)) := by
    funext i st
    unfold occBody ostep
    split <;> rfl
  rw [e, List.forIn_pure_yield_eq_foldl]
  rfl
theorem ostep_skip {s sub : Str} {hi limit : Nat} {st : Array Nat × Nat} : ∀ {l : List Nat}, (∀ i ∈ l, subAt s sub i = false ∨ limit ≤ st.fst.size) → l.foldl (ostep s sub hi limit) st = st
  | [], _ => rfl
  | i :: l, h => by
    have e : ostep s sub hi limit st i = st := by
      unfold ostep
      rw [if_neg]
      rintro ⟨⟨⟨a, _⟩, _⟩, b⟩
      rcases h i (List.mem_cons_self ..) with z | z
      · rw [z] at b; cases b
      · omega
    rw [List.foldl_cons, e]
    exact ostep_skip fun j hj => h j (List.mem_cons_of_mem _ hj)
theorem ostep_hit {s sub : Str} {hi limit : Nat} {st : Array Nat × Nat} {i : Nat} (h1 : st.fst.size < limit) (h2 : st.snd ≤ i) (h3 : i + sub.length ≤ hi) (h4 : subAt s sub i = true) : ostep s sub hi limit st i = (st.fst.push i, i + sub.length) := by
  unfold ostep
  rw [if_pos ⟨⟨⟨h1, h2⟩, h3⟩, h4⟩]
theorem range_cut (a m n : Nat) : List.range' a (m + 1 + n) = List.range' a m ++ (a + m) :: List.range' (a + m + 1) n := by
  have e1 := List.range'_append_1 (s := a) (m := m) (n := 1 + n)
  rw [show m + 1 + n = m + (1 + n) by omega, ← e1, show 1 + n = n + 1 by omega, List.range'_succ]
theorem splitMax2 {x : Str} {P Q R : List Nat} {c : Nat} (hc : c < 256) (hx : x.cps.toList = P ++ c :: (Q ++ c :: R)) (hP : c ∉ P) (hQ : c ∉ Q) : Txt.splitMax x (sg c) 2 = [⟨P.toArray⟩, ⟨Q.toArray⟩, ⟨R.toArray⟩] := by
  have hlen : x.length = P.length + 1 + (Q.length + 1 + R.length) := by
    show x.cps.size = _
    rw [← Array.length_toList, hx]
    simp
    omega
  have hocc : occurrences x (sg c) 0 x.length 2 = [P.length, P.length + 1 + Q.length] := by
    have s1 : (List.range' 0 P.length).foldl (ostep x (sg c) x.length 2) (#[], 0) = (#[], 0) := ostep_skip fun i hi => by
      left
      rw [List.mem_range'_1] at hi
      rw [subAt_one]
      refine decide_eq_false fun z => ?_
      rw [hx, List.getElem?_append_left (by omega)] at z
      exact hP (List.mem_of_getElem? z)
    have s2 : ostep x (sg c) x.length 2 (#[], 0) (0 + P.length) = (#[P.length], P.length + 1) := by
      rw [ostep_hit (by simp) (Nat.zero_le _) (by show _ + 1 ≤ _; omega) (by
        rw [subAt_one]
        refine decide_eq_true ?_
        rw [hx, Nat.zero_add, List.getElem?_append_right (Nat.le_refl _), Nat.sub_self]
        rfl)]
      simp [sg, Str.length]
    have s3 : (List.range' (0 + P.length + 1) Q.length).foldl (ostep x (sg c) x.length 2) (#[P.length], P.length + 1) = (#[P.length], P.length + 1) := ostep_skip fun i hi => by
      left
      rw [List.mem_range'_1] at hi
      rw [subAt_one]
      refine decide_eq_false fun z => ?_
      rw [hx, List.getElem?_append_right (by omega), show i - P.length = (i - P.length - 1) + 1 by omega, List.getElem?_cons_succ, List.getElem?_append_left (by omega)] at z
      exact hQ (List.mem_of_getElem? z)
    have s4 : ostep x (sg c) x.length 2 (#[P.length], P.length + 1) (0 + P.length + 1 + Q.length) = (#[P.length, P.length + 1 + Q.length], P.length + 1 + Q.length + 1) := by
      rw [ostep_hit (by simp) (by show P.length + 1 ≤ _; omega) (by show _ + 1 ≤ _; omega) (by
        rw [subAt_one]
        refine decide_eq_true ?_
        rw [hx, List.getElem?_append_right (by omega), show 0 + P.length + 1 + Q.length - P.length = Q.length + 1 by omega, List.getElem?_cons_succ, List.getElem?_append_right (Nat.le_refl _), Nat.sub_self]
        rfl)]
      simp [sg, Str.length]
    have s5 : (List.range' (0 + P.length + 1 + Q.length + 1) (R.length + 1)).foldl (ostep x (sg c) x.length 2) (#[P.length, P.length + 1 + Q.length], P.length + 1 + Q.length + 1) = (#[P.length, P.length + 1 + Q.length], P.length + 1 + Q.length + 1) := ostep_skip fun i hi => .inr (by simp)
    rw [occ_fold, Nat.sub_zero, show x.length + 1 = P.length + 1 + (Q.length + 1 + (R.length + 1)) by omega, range_cut, List.foldl_append, s1, List.foldl_cons, s2, range_cut, List.foldl_append, s3, List.foldl_cons, s4, s5]
  have k1 : Builtin.Str.strKind (sg c) = 1 := by
    unfold Builtin.Str.strKind sg
    rw [if_pos]
    simp [hc]
  have k2 : ¬ Builtin.Str.strKind x < Builtin.Str.strKind (sg c) := by
    rw [k1]
    unfold Builtin.Str.strKind
    split
    · omega
    · split <;> omega
  have hl : limitOf x 2 = 2 := by
    first
    | rfl
    | (unfold limitOf; simp)
  unfold Txt.splitMax
  rw [hl, hocc, if_neg, if_neg]
  · unfold partsBetween
    show [strSub x 0 P.length, strSub x (P.length + 1) (P.length + 1 + Q.length), strSub x (P.length + 1 + Q.length + 1) x.length] = _
    have ex : ∀ i j, strSub x i j = ⟨((x.cps.toList.take j).drop i).toArray⟩ := fun i j => by
      unfold strSub
      congr 1
      apply Array.toList_inj.mp
      rw [Array.toList_extract, List.extract_eq_drop_take, List.drop_take]
    rw [ex, ex, ex, hx]
    refine List.cons_eq_cons.mpr ⟨?_, List.cons_eq_cons.mpr ⟨?_, List.cons_eq_cons.mpr ⟨?_, rfl⟩⟩⟩
    · simp
    · rw [List.drop_take]
      simp
    · rw [List.drop_take]
      have e1 : List.drop (P.length + 1 + Q.length + 1) (P ++ c :: (Q ++ c :: R)) = R := by
        rw [show P.length + 1 + Q.length + 1 = P.length + (1 + (Q.length + 1)) by omega, ← List.drop_drop, List.drop_left, ← List.drop_drop, List.drop_succ_cons, List.drop_zero, ← List.drop_drop, List.drop_left]
        rfl
      rw [e1, List.take_of_length_le (by omega)]
  · exact fun z => Bool.noConfusion z
  · rw [Bool.not_eq_true, Bool.or_eq_false_iff]
    refine ⟨decide_eq_false ?_, decide_eq_false k2⟩
    show ¬ x.length < 1
    omega
section
variable {Γ : Cg} {K : Frg} {F : Hp} {ms : Ms} {S : Sg} {Q : QE} {ta tb te tx tv : TE} {A : AEnds} {P : Hp → Ms → List D → (Ms → Prop) → Prop}
def rSPL : V → List V → Hp → VK → Prop := fun x xs H Q => ∃ a b, x = .str a ∧ xs = [.str b] ∧ (b.length == 0) = false ∧ a.length + 2 ≤ sizeLine ∧ rNewStrs (Txt.split a b) H Q
def rSPM : V → List V → Hp → VK → Prop := fun x xs H Q => ∃ (a b : Str) (k : Int), x = .str a ∧ xs = [.str b, .int k] ∧ (b.length == 0) = false ∧ -(2 ^ 63) ≤ k ∧ k < 2 ^ 63 ∧ a.length + 2 ≤ sizeLine ∧ rNewStrs (Txt.splitMax a b k) H Q
theorem mt_SPL {X : Cx} : MtR X "str.split" rSPL := mt_split
theorem mt_SPM {X : Cx} : MtR X "str.split" rSPM := mt_splitMax
theorem rep_strl (ys : List Str) : RepL K F (ys.map D.str) (ys.map V.str) := by
  induction ys with
  | nil => exact .nil
  | cons y ys ih => exact .cons (.str y) ih
theorem am_split {a b : Str} (hb : (b.length == 0) = false) (hz : a.length ≤ 99998) (q : ∀ F', Ex F F' → Q F' ms (.lst ((Txt.split a b).map D.str))) : AM K "str" rSPL (.str a) [.str b] F ms Q := fun R u vs H Qc hu hv hh k => by
  cases hu
  cases hv with
  | cons h1 h2 =>
    cases h2
    cases h1
    refine ⟨a, b, rfl, rfl, hb, Evl.sz_of (by omega), fun p hp => ?_⟩
    obtain ⟨e, hh'⟩ := hh.laid (.lst ((Txt.split a b).map V.str)) hp
    exact k _ ms _ _ _ e hh' (.lst upd_same (rep_strl _)) (q _ e)
theorem am_splitMax {a b : Str} {n : Int} (hb : (b.length == 0) = false) (h1 : -(2 ^ 63) ≤ n) (h2 : n < 2 ^ 63) (hz : a.length ≤ 99998) (q : ∀ F', Ex F F' → Q F' ms (.lst ((Txt.splitMax a b n).map D.str))) : AM K "str" rSPM (.str a) [.str b, .int n] F ms Q := fun R u vs H Qc hu hv hh k => by
  cases hu
  cases hv with
  | cons g1 g2 =>
    cases g2 with
    | cons g2 g3 =>
      cases g3
      cases g1
      cases g2
      refine ⟨a, b, n, rfl, rfl, hb, h1, h2, Evl.sz_of (by omega), fun p hp => ?_⟩
      obtain ⟨e, hh'⟩ := hh.laid (.lst ((Txt.splitMax a b n).map V.str)) hp
      exact k _ ms _ _ _ e hh' (.lst upd_same (rep_strl _)) (q _ e)
theorem kANY {X : Cx} (h : X.K = K) (hc : X.calm = true) : CallR X (.builtin "any") (rAny K) := h ▸ cr_any hc
theorem ac_any {bs : List Bool} {d : D} (hd : d = .lst (bs.map D.bl)) (q : Q F ms (.bl (bs.any id))) : AC K (rAny K) [d] F ms Q := ac1 fun R v H Qc hv hh k => by
  subst hd
  obtain ⟨a, vs, rfl, hl, rl⟩ : ∃ a vs, v = .ref a ∧ F a = some (.lst vs) ∧ RepL K F (bs.map D.bl) vs := by
    cases hv with
    | lst h r => exact ⟨_, _, rfl, h, r⟩
  have hvs : vs = bs.map V.bl := by
    clear q hl hv hh k
    induction bs generalizing vs with
    | nil => cases rl; rfl
    | cons b bs ih =>
      cases rl with
      | cons h r => cases h; rw [ih _ r]; rfl
  subst hvs
  exact ⟨a, bs, rfl, SqL.of (hh.ex _ _ hl), k F ms _ _ H Ex.refl hh (.bl _) q⟩
/-- zip of two tuples of one length -/
def zipD (xs ys : List D) : List D := (xs.zip ys).map fun p => .tup [p.1, p.2]
theorem zipD_len {xs ys : List D} (h : xs.length = ys.length) : (zipD xs ys).length = xs.length := by unfold zipD; rw [List.length_map, List.length_zip, h, Nat.min_self]
theorem zipD_get {xs ys : List D} {i : Nat} {d e : D} (h1 : xs[i]? = some d) (h2 : ys[i]? = some e) : (zipD xs ys)[i]? = some (.tup [d, e]) := by
  unfold zipD
  have e2 : (xs.zip ys)[i]? = some (d, e) := List.getElem?_zip_eq_some.mpr ⟨h1, h2⟩
  rw [List.getElem?_map, e2]
  rfl
theorem zipD_inv {xs ys : List D} {i : Nat} {e : D} (h : (zipD xs ys)[i]? = some e) : ∃ a b, xs[i]? = some a ∧ ys[i]? = some b ∧ e = .tup [a, b] := by
  unfold zipD at h
  rw [List.getElem?_map] at h
  cases q : (xs.zip ys)[i]? with
  | none => rw [q] at h; cases h
  | some p =>
    rw [q] at h
    obtain ⟨h1, h2⟩ := List.getElem?_zip_eq_some.mp q
    exact ⟨_, _, h1, h2, (Option.some.inj h).symm⟩
theorem ai_zipT {ta : TA} (h : AA Γ ta F ms S fun F1 ms1 ds => ∃ xs ys : List D, ds = [.tup xs, .tup ys] ∧ xs.length = ys.length ∧ P F1 ms1 (zipD xs ys) fun _ => True) : AI Γ (iZipA Γ.K ta) F ms S P := fun R σ H Rc hs hh x k =>
  h R σ H _ hs hh x fun F1 ms1 ds vs H1 e1 h1 r1 ⟨xs, ys, hd, hl, p⟩ => by
    subst hd
    cases r1 with
    | cons a b =>
      cases b with
      | cons b c =>
        cases c
        cases a with
        | @tup a us _ ha ra =>
          cases b with
          | @tup b ws _ hb rb =>
            refine ⟨a, b, us, ws, rfl, .inr ⟨ex_t h1.ex ha, ex_t h1.ex hb, k F1 ms1 _ (fun _ => True) _ H1 e1 h1 ⟨fun _ i H' F' ms' hi e' hh' _ => ?_, fun _ H' F' ms' e' hh' _ => ?_, fun _ i H' x' H2 F' ms' hi e' hh' _ y => ?_⟩ p⟩⟩
            · rw [zipD_len hl] at hi
              exact ⟨us, ws, us[i]'(by rw [← ra.len]; exact hi), ws[i]'(by rw [← rb.len, ← hl]; exact hi), ex_t hh'.ex (ex_t e' ha), ex_t hh'.ex (ex_t e' hb), by simp [show i < us.length by rw [← ra.len]; exact hi], by simp [show i < ws.length by rw [← rb.len, ← hl]; exact hi]⟩
            · exact ⟨us, ws, ex_t hh'.ex (ex_t e' ha), ex_t hh'.ex (ex_t e' hb), .inl (by rw [zipD_len hl, ra.len]; exact Nat.le_refl _)⟩
            · obtain ⟨T, u, w, y1, y2, y3, y4, y5⟩ := y
              subst y1 y3
              obtain ⟨d, hd, rd⟩ := ra.get (y4 us (ex_t hh'.ex (ex_t e' ha)))
              obtain ⟨e, he, re⟩ := rb.get (y5 ws (ex_t hh'.ex (ex_t e' hb)))
              obtain ⟨F'', e2, h2, r2⟩ := pair_rep hh' y2 (rd.mono e') (re.mono e')
              exact ⟨F'', _, e2, h2, zipD_get hd he, r2⟩
end
theorem pi_zipk {X : Cx} {K : Frg} {e e2 : Expr} {ta : TA} {p pos tpos : Pos} {elts : List Expr} {kk : Nat} (h : X.K = K) (hg : Gl X "zip") (hm : X.mg "zip" = none) (ha : PA X [e, e2] ta)
    (hs : starEach [e, e2] X.env = (false, eval e X.env) :: starEach [e2] X.env := by rfl) (hpl : (backTo pos (starEach [e2] X.env)).any (·.1) = false := by rfl) :
    PI X (.Tuple elts kk tpos) (.Call (.Name "zip" p) [e, e2] [] pos) (iZipA K ta) := h ▸ pi_zipA hg hm ha hs hpl
theorem pg_tupk {X : Cx} {K : Frg} {es : List Expr} {k : Nat} {t : TGs} {n : Nat} {pos : Pos} (hK : X.K = K) (hc : X.calm = true) (h : PGs X es t)
    (hn : (assignEach es X.env).length = n := by rfl) (hst : (assignEach es X.env).findIdx? (·.1) = none := by rfl) : PG X (.Tuple es k pos) (gTup K n t) := hK ▸ pg_tup hc h hn hst
end AL

set_option Elab.async false
set_option linter.all false
set_option maxRecDepth 100000
set_option maxHeartbeats 4000000
namespace AL
open PySem L2 PyProof.Rows
section
variable {Γ : Cg} {K : Frg} {F : Hp} {ms : Ms} {S : Sg} {Q : QE}
theorem ac_tupleO {l : Addr} {ds : List D} (n : Nat) (hn : ms[n]? = some (l, .lst ds)) (q : ∀ F', Ex F F' → Q F' ms (.tup ds)) : AC K (rTUPLE K) [.ref l] F ms Q := ac1 fun R v H Qc hv hh k => by
  cases hv
  obtain ⟨_, ys, hl, r⟩ := hh.at (get_app hn)
  refine ⟨l, ys, rfl, .inl ⟨SqL.of hl, fun p hp => ?_⟩⟩
  obtain ⟨e, hh'⟩ := hh.laid (.tup ys) hp
  exact k _ ms _ _ _ e hh' (.tup (SqT.of upd_same) (r.mono e)) (q _ e)
end
end AL

set_option Elab.async false
set_option linter.all false
set_option maxRecDepth 100000
set_option maxHeartbeats 4000000
/-! Dicts walked over (under a lock), sorted, in, min and max, one new dict by a comprehension. -/
namespace AL
open PySem L2 PyProof.Rows
def kD : Key → D
  | .inl i => .int i
  | .inr s => .str s
theorem rep_kD {K : Frg} {F : Hp} (k : Key) : Rep K F (kD k) (kV k) := by
  cases k with
  | inl i => exact .int i
  | inr s => exact .str s
theorem RepK.getK {K : Frg} {F : Hp} : ∀ {ds : List (Key × D)} {vs : List (Key × V)} {i : Nat} {k : Key} {v : V}, RepK K F ds vs → vs[i]? = some (k, v) → ∃ d, ds[i]? = some (k, d) ∧ Rep K F d v
  | _, _, i, _, _, .nil, e => by simp at e
  | _, _, 0, _, _, .cons h r, e => by
    cases e
    exact ⟨_, rfl, h⟩
  | _, _, i + 1, _, _, .cons h r, e => RepK.getK (i := i) r (by simpa using e)
theorem RepK.lenK {K : Frg} {F : Hp} : ∀ {ds : List (Key × D)} {vs : List (Key × V)}, RepK K F ds vs → ds.length = vs.length
  | _, _, .nil => rfl
  | _, _, .cons _ r => by rw [List.length_cons, List.length_cons, RepK.lenK r]
section
variable {Γ : Cg} {K : Frg} {F : Hp} {ms : Ms} {S : Sg} {Q : QE} {ta tb te tx tv td : TE} {t u tt : TT} {r : R2} {ts tu tw : TS} {A : AEnds} {g : TG} {wi : TI} {vs : List Nat} {P : Hp → Ms → List D → (Ms → Prop) → Prop}
/-- the owned dict at l is locked: what stands at l while it is -/
def Lck (ms : Ms) (l : Addr) (vs : List (Key × V)) : Prop := ∃ (n : Nat) (od : Obj), ms[n]? = some (l, .raw (.frz od (.dK vs)))
/-- the lock goes -/
def unl (K : Frg) (l : Addr) (kvs : List (Key × D)) (vs : List (Key × V)) (od : Obj) (ms : Ms) (P : Ms → Prop) : Prop := ∃ m : Nat, ms[m]? = some (l, .raw (.frz od (.dK vs))) ∧ P (ms.set m (l, .dic kvs))
theorem as_lock {l : Addr} {kvs : List (Key × D)} (n : Nat) (hn : ms[n]? = some (l, .dic kvs)) (h : ∀ od vs, RepK Γ.K F kvs vs → AS Γ ts F (ms.set n (l, .raw (.frz od (.dK vs)))) S { nx := fun F' ms' S' => unl Γ.K l kvs vs od ms' fun m => A.nx F' m S', rt := fun F' ms' d => unl Γ.K l kvs vs od ms' fun m => A.rt F' m d, bk := fun F' ms' S' => unl Γ.K l kvs vs od ms' fun m => A.bk F' m S', ct := fun F' ms' S' => unl Γ.K l kvs vs od ms' fun m => A.ct F' m S' }) :
    AS Γ (tLock ts) F ms S A := fun R E σ H hs hh le => by
  obtain ⟨_, vs, hd, rk⟩ := hh.at (get_app hn)
  refine ⟨l, .dK vs, hd, trivial, fun od => h od vs rk R _ σ _ hs ?_ ⟨le.xe, ?_, ?_, ?_, ?_⟩⟩
  · rw [← set_app hn]
    exact hh.set (get_app hn) upd_same
  · rintro F' ms' S' σ' H' e a b ⟨m, hm, q⟩
    refine ⟨(b.at (get_app hm)).2, le.nx F' _ S' σ' _ e a ?_ q⟩
    rw [← set_app hm]
    exact b.set (get_app hm) ⟨vs, upd_same, rk.mono e⟩
  · rintro F' ms' d v H' e b r ⟨m, hm, q⟩
    refine ⟨(b.at (get_app hm)).2, le.rt F' _ d v _ e ?_ r q⟩
    rw [← set_app hm]
    exact b.set (get_app hm) ⟨vs, upd_same, rk.mono e⟩
  · rintro F' ms' S' σ' H' e a b ⟨m, hm, q⟩
    refine ⟨(b.at (get_app hm)).2, le.bk F' _ S' σ' _ e a ?_ q⟩
    rw [← set_app hm]
    exact b.set (get_app hm) ⟨vs, upd_same, rk.mono e⟩
  · rintro F' ms' S' σ' H' e a b ⟨m, hm, q⟩
    refine ⟨(b.at (get_app hm)).2, le.ct F' _ S' σ' _ e a ?_ q⟩
    rw [← set_app hm]
    exact b.set (get_app hm) ⟨vs, upd_same, rk.mono e⟩
theorem ae_lock {l : Addr} {kvs : List (Key × D)} (n : Nat) (hn : ms[n]? = some (l, .dic kvs)) (h : ∀ od vs, RepK Γ.K F kvs vs → AE Γ te F (ms.set n (l, .raw (.frz od (.dK vs)))) S fun F' ms' d => unl Γ.K l kvs vs od ms' fun m => Q F' m d) :
    AE Γ (tLockE te) F ms S Q := fun R σ H Qc hs hh x k => by
  obtain ⟨_, vs, hd, rk⟩ := hh.at (get_app hn)
  refine ⟨l, .dK vs, hd, trivial, fun od => h od vs rk R σ _ _ hs ?_ x ?_⟩
  · rw [← set_app hn]
    exact hh.set (get_app hn) upd_same
  · rintro F' ms' d v H' e b r ⟨m, hm, q⟩
    refine ⟨(b.at (get_app hm)).2, k F' _ d v _ e ?_ r q⟩
    rw [← set_app hm]
    exact b.set (get_app hm) ⟨vs, upd_same, rk.mono e⟩
def itemsD (kvs : List (Key × D)) : List D := kvs.map fun p => .tup [kD p.1, p.2]
def keysD (kvs : List (Key × D)) : List D := kvs.map fun p => kD p.1
/-- for .. in o.items(), o an owned dict under the lock -/
theorem ai_items (h : AE Γ td F ms S fun F1 ms1 x => ∃ (l : Addr) (od : Obj) (vs : List (Key × V)) (kvs : List (Key × D)) (n : Nat), x = .ref l ∧ ms1[n]? = some (l, .raw (.frz od (.dK vs))) ∧ RepK Γ.K F1 kvs vs ∧ P F1 ms1 (itemsD kvs) fun ms' => ∃ n : Nat, ms'[n]? = some (l, .raw (.frz od (.dK vs)))) :
    AI Γ (iItems td) F ms S P := fun R σ H Rc hs hh x k =>
  h R σ H _ hs hh x fun F1 ms1 d v H1 e1 h1 r1 ⟨l, od, vs, kvs, n, hx, hn, rk, p⟩ => by
    subst hx
    cases r1
    refine ⟨l, od, vs, rfl, (h1.at (get_app hn)).2, k F1 ms1 _ _ _ H1 e1 h1 ⟨fun _ i H' F' ms' hi e' hh' ⟨n', hn'⟩ => ?_, fun _ H' F' ms' e' hh' ⟨n', hn'⟩ => ?_, fun _ i H' x' H2 F' ms' hi e' hh' ⟨n', hn'⟩ y => ?_⟩ p⟩
    · refine ⟨(hh'.at (get_app hn')).2, ?_⟩
      unfold itemsD at hi
      rw [List.length_map, rk.lenK] at hi
      exact hi
    · refine ⟨(hh'.at (get_app hn')).2, ?_⟩
      unfold itemsD
      rw [List.length_map, rk.lenK]
      exact Nat.le_refl _
    · obtain ⟨T, key, v, y1, y2, y3, y4⟩ := y
      subst y2 y4
      obtain ⟨d, hd, rd⟩ := rk.getK y1
      obtain ⟨F'', e2, h2, r2⟩ := pair_rep hh' y3 (rep_kD key) (rd.mono e')
      refine ⟨F'', _, e2, h2, ?_, r2⟩
      unfold itemsD
      rw [List.getElem?_map, hd]
      rfl
theorem ai_keys (h : AE Γ td F ms S fun F1 ms1 x => ∃ (l : Addr) (od : Obj) (vs : List (Key × V)) (kvs : List (Key × D)) (n : Nat), x = .ref l ∧ ms1[n]? = some (l, .raw (.frz od (.dK vs))) ∧ RepK Γ.K F1 kvs vs ∧ P F1 ms1 (keysD kvs) fun ms' => ∃ n : Nat, ms'[n]? = some (l, .raw (.frz od (.dK vs)))) :
    AI Γ (iKeys td) F ms S P := fun R σ H Rc hs hh x k =>
  h R σ H _ hs hh x fun F1 ms1 d v H1 e1 h1 r1 ⟨l, od, vs, kvs, n, hx, hn, rk, p⟩ => by
    subst hx
    cases r1
    refine ⟨l, od, rfl, .inl ⟨vs, (h1.at (get_app hn)).2, k F1 ms1 _ _ _ H1 e1 h1 ⟨fun _ i H' F' ms' hi e' hh' ⟨n', hn'⟩ => ?_, fun _ H' F' ms' e' hh' ⟨n', hn'⟩ => ?_, fun _ i H' x' H2 F' ms' hi e' hh' ⟨n', hn'⟩ y => ?_⟩ p⟩⟩
    · refine ⟨(hh'.at (get_app hn')).2, ?_⟩
      unfold keysD at hi
      rw [List.length_map, rk.lenK] at hi
      exact hi
    · refine ⟨(hh'.at (get_app hn')).2, ?_⟩
      unfold keysD
      rw [List.length_map, rk.lenK]
      exact Nat.le_refl _
    · obtain ⟨y0, key, v, y1, y2⟩ := y
      subst y0 y2
      obtain ⟨d, hd, rd⟩ := rk.getK y1
      refine ⟨F', _, Ex.refl, hh', ?_, rep_kD key⟩
      unfold keysD
      rw [List.getElem?_map, hd]
      rfl
/-! ### sorted -/
theorem rep_intl {F : Hp} (ys : List Int) : RepL K F (ys.map D.int) (ys.map V.int) := by
  induction ys with
  | nil => exact .nil
  | cons y ys ih => exact .cons (.int y) ih
def rSRT (K : Frg) : List V → Hp → VK → Prop := fun xs H Q => rSorted K xs H Q ∨ rSortedS K xs H Q
theorem kSRT {X : Cx} (h : X.K = K) : CallR X (.builtin "sorted") (rSRT K) := h ▸ cor cr_sorted cr_sortedS
theorem lst_of {d : D} {ds : List D} {v : V} {H : Hp} {R : Ms} (hl : LstA F ms d ds) (hh : Hold K F (ms ++ R) H) (r : Rep K F d v) : ∃ a us, v = .ref a ∧ SqL K H a us ∧ RepL K F ds us := by
  obtain ⟨a, us, rfl, ha, rr⟩ := hl.to hh r
  exact ⟨a, us, rfl, ha, rr⟩
theorem ac_sortI {d : D} {ns : List Int} (hl : LstA F ms d (ns.map D.int)) (hz : ns.length < 64) (q : ∀ F' (ns' : List Int), Ex F F' → ns'.Perm ns → ns'.Pairwise (· ≤ ·) → Q F' ms (.lst (ns'.map D.int))) : AC K (rSRT K) [d] F ms Q := AC.or1 (ac1 fun R v H Qc hv hh k => by
  obtain ⟨a, us, rfl, ha, rr⟩ := lst_of hl hh hv
  have e := rep_ints rr
  subst e
  refine ⟨a, ns, rfl, ha, hz, fun ns' p hp hs hn => ?_⟩
  obtain ⟨e, hh'⟩ := hh.laid (.lst (ns'.map V.int)) hn
  exact k _ ms _ _ _ e hh' (.lst upd_same (rep_intl _)) (q _ ns' e hp hs))
theorem ac_sortS {d : D} {xs : List Str} (hl : LstA F ms d (xs.map D.str)) (hz : xs.length < 64) (q : ∀ F' (ys : List Str), Ex F F' → ys.Perm xs → sortedS ys = true → Q F' ms (.lst (ys.map D.str))) : AC K (rSRT K) [d] F ms Q := AC.or2 (ac1 fun R v H Qc hv hh k => by
  obtain ⟨a, us, rfl, ha, rr⟩ := lst_of hl hh hv
  have e := rep_strs rr
  subst e
  refine ⟨a, xs, rfl, ha, hz, fun ys p hp hs hn => ?_⟩
  obtain ⟨e, hh'⟩ := hh.laid (.lst (ys.map V.str)) hn
  exact k _ ms _ _ _ e hh' (.lst upd_same (rep_strl _)) (q _ ys e hp hs))
end
end AL

set_option Elab.async false
set_option linter.all false
set_option maxRecDepth 100000
set_option maxHeartbeats 4000000
namespace AL
open PySem L2 PyProof.Rows
section
variable {Γ : Cg} {K : Frg} {F : Hp} {ms : Ms} {S : Sg} {Q : QE} {ta tb te tx tv tk td : TE} {t u tt tt1 : TT} {r : R2} {ts tu tw : TS} {A : AEnds} {g g1 : TG} {wi wi1 : TI} {vs vs1 : List Nat} {P : Hp → Ms → List D → (Ms → Prop) → Prop}
/-- {k: v for ..}: a new owned dict -/
theorem ae_dc (hg : GW g vs) (gm : ∀ v σ H N N', (∀ σ2 H2, N σ2 H2 → N' σ2 H2) → g v σ H N → g v σ H N') (h : AI Γ wi F ms S fun F1 ms1 ds G => ∃ I : Nat → Hp → Ms → List (Key × D) → Prop, I 0 F1 ms1 [] ∧ (∀ i F' ms' acc, Ex F1 F' → I i F' ms' acc → G ms') ∧
    (∀ i d F' ms' acc, Ex F1 F' → ds[i]? = some d → I i F' ms' acc → ∀ F'', Ex F' F'' → AG Γ.nox g d F'' ms' (wipeS S vs) fun F2 ms2 S2 => AT Γ.nox tt F2 ms2 S2 fun F3 ms3 b => (b = true → AE Γ.nox tk F3 ms3 S2 fun F4 ms4 y => ∃ key, keyD y = some key ∧ AE Γ.nox tv F4 ms4 S2 fun F5 ms5 z => acc.length < 100000 ∧ I (i + 1) F5 ms5 (putKD acc key z)) ∧ (b = false → I (i + 1) F3 ms3 acc)) ∧
    (∀ F' ms' acc, Ex F1 F' → I ds.length F' ms' acc → ∀ l, Q F' ((l, .dic acc) :: ms') (.ref l))) : AE Γ (tDc wi g tt tk tv vs) F ms S Q := fun R σ H Qc hs hh x k =>
  h R σ H _ hs hh x fun F1 ms1 ds G J H1 e1 h1 it ⟨I, i0, iG, ib, ie⟩ => by
    intro D hD
    refine ⟨fun i m H' => m = ds.length - i ∧ i ≤ ds.length ∧ ∃ F' ms' acc, Ex F1 F' ∧ Hold Γ.K F' (ms' ++ (D, .dic acc) :: R) H' ∧ I i F' ms' acc, ⟨_, rfl, Nat.zero_le _, F1, ms1, [], Ex.refl, ?_, i0⟩, ?_⟩
    · exact (h1.made (m := .dic []) hD ⟨[], upd_same, .nil⟩).perm List.perm_middle
    rintro i m H' ⟨rfl, hi, F', ms', acc, e', hh', p⟩
    have hG := iG i F' ms' acc e' p
    by_cases hlt : i < ds.length
    · refine .inr ⟨it.goes _ i H' F' ms' hlt e' hh' hG, fun H2 => ∃ F2 ms2 acc2, Ex F1 F2 ∧ Hold Γ.K F2 (ms2 ++ (D, .dic acc2) :: R) H2 ∧ I (i + 1) F2 ms2 acc2, fun H2 ⟨F2, ms2, acc2, e2, b2, q2⟩ => ⟨ds.length - (i + 1), by omega, rfl, hlt, F2, ms2, acc2, e2, b2, q2⟩, fun x H2 y => ?_⟩
      obtain ⟨F2, d, e2, hh2, hd, hr⟩ := it.yields _ i H' x H2 F' ms' hlt e' hh' hG y
      refine gm x _ H2 _ _ (fun σ2 H3 z => ⟨z.2, z.1⟩) (hg x _ H2 _ _ (wipe_wipe σ vs) ?_)
      refine ib i d F' ms' acc e' hd p F2 e2 _ x (L2.wipe σ vs) H2 _ hr (((hs.mono e1).mono (e'.trans e2)).wipe vs) hh2 xle0 fun F3 ms3 S3 σ3 H3 e3 a3 b3 q3 => ?_
      refine q3 _ σ3 H3 _ a3 b3 xle0 fun F4 ms4 b H4 e4 b4 q4 => ?_
      cases b with
      | true =>
        refine q4.1 rfl _ σ3 H4 _ (a3.mono e4) b4 xle0 fun F5 ms5 d5 v5 H5 e5 b5 r5 ⟨key, hk, q5⟩ => ?_
        have ek := key_rep r5 hk
        subst ek
        refine q5 _ σ3 H5 _ ((a3.mono e4).mono e5) b5 xle0 fun F6 ms6 d6 v6 H6 e6 b6 r6 q6 => ?_
        obtain ⟨_, vs6, hl, rl⟩ := b6.at mid_get
        refine ⟨vs6, key, rfl, hl, Evl.sz_lt (by rw [← rl.lenK]; exact q6.1), F6, ms6, putKD acc key d6, ((((e'.trans e2).trans e3).trans e4).trans e5).trans e6, ?_, q6.2⟩
        have := b6.set (m' := .dic (putKD acc key d6)) (o := .dK (putK vs6 key v6)) mid_get ⟨_, upd_same, rl.put r6 key⟩
        rw [mid_set] at this
        exact this
      | false => exact ⟨F4, ms4, acc, ((e'.trans e2).trans e3).trans e4, b4, q4.2 rfl⟩
    · have ei : i = ds.length := by omega
      subst ei
      refine .inl ⟨it.stops _ H' F' ms' e' hh' hG, ?_⟩
      exact k F' ((D, .dic acc) :: ms') (.ref D) _ H' (e1.trans e') (hh'.perm List.perm_middle.symm) (.ref D) (ie F' ms' acc e' p D)
/-! ### in, of texts -/
theorem in_strs (x : Str) (xs : List Str) : inV (.str x) (xs.map V.str) = decide (x ∈ xs) := by
  unfold inV
  rw [List.any_map]
  by_cases h : x ∈ xs
  · rw [decide_eq_true h]
    exact List.any_eq_true.mpr ⟨x, h, by simp [eqV]⟩
  · rw [decide_eq_false h, List.any_eq_false]
    intro y hy z
    simp [eqV] at z
    exact h (z ▸ hy)
theorem seq_strs {d : D} {xs : List Str} {v : V} {H : Hp} {R : Ms} (hd : LstA F ms d (xs.map D.str) ∨ d = .tup (xs.map D.str)) (hh : Hold K F (ms ++ R) H) (hr : Rep K F d v) : ∃ p, v = .ref p ∧ (SqL K H p (xs.map V.str) ∨ SqT K H p (xs.map V.str)) := by
  rcases hd with hl | rfl
  · obtain ⟨a, us, rfl, ha, rr⟩ := hl.to hh hr
    have e := rep_strs rr
    subst e
    exact ⟨a, rfl, .inl ha⟩
  · cases hr with
    | tup hq rr =>
      have e := rep_strs rr
      subst e
      exact ⟨_, rfl, .inr (ex_t hh.ex hq)⟩
theorem ar_INl {d : D} {x : Str} {xs : List Str} (hd : LstA F ms d (xs.map D.str) ∨ d = .tup (xs.map D.str)) (q : Q F ms (.bl (decide (x ∈ xs)))) : AR K (rIN K) (.str x) d F ms Q := ar_inr fun R u v H Qc hu hv hh k => by
  cases hu
  obtain ⟨p, rfl, hs⟩ := seq_strs hd hh hv
  refine ⟨p, _, rfl, hs, rfl, ?_, ?_⟩
  · rw [List.all_map]
    exact List.all_eq_true.mpr fun y _ => rfl
  · show Qc (.bl (inV (.str x) (xs.map V.str))) H
    rw [in_strs]
    exact k F ms _ _ H Ex.refl hh (.bl _) q
theorem ar_NOTINl {d : D} {x : Str} {xs : List Str} (hd : LstA F ms d (xs.map D.str) ∨ d = .tup (xs.map D.str)) (q : Q F ms (.bl (!decide (x ∈ xs)))) : AR K (rNOTIN K) (.str x) d F ms Q := ar_inr fun R u v H Qc hu hv hh k => by
  cases hu
  obtain ⟨p, rfl, hs⟩ := seq_strs hd hh hv
  refine ⟨p, _, rfl, hs, rfl, ?_, ?_⟩
  · rw [List.all_map]
    exact List.all_eq_true.mpr fun y _ => rfl
  · show Qc (.bl (!inV (.str x) (xs.map V.str))) H
    rw [in_strs]
    exact k F ms _ _ H Ex.refl hh (.bl _) q
end
end AL

set_option Elab.async false
set_option linter.all false
set_option maxRecDepth 100000
set_option maxHeartbeats 4000000
/-! zip of two texts -/
namespace AL
open PySem PySem.Spec PySem.W PyProof.Rows L2
def IteZ (x y : Str) : It :=
  ⟨fun i H => i < x.cps.size ∧ i < y.cps.size, fun i H v H' => ∃ T c d, v = .ref T ∧ H T = none ∧ H' = upd H T (.tup [.str ⟨#[c]⟩, .str ⟨#[d]⟩]) ∧ x.cps[i]? = some c ∧ y.cps[i]? = some d, fun i H => i ≤ x.cps.size ∧ i ≤ y.cps.size ∧ (i = x.cps.size ∨ i = y.cps.size)⟩
theorem turn_zipS {P : Program} {w : World} {K : Frg} {elts : List Expr} {kk : Nat} {tpos : Pos} {x y : Str} {tx ty : Tok} {z TI TO i1 i2 : Addr} (D : ZipSep2 z TI TO i1 i2 [i1] [i2]) :
    Turn P w K (.Tuple elts kk tpos) (IteZ x y) [z, TI, TO, i1, i2] z (fun i h => IsZip h z TI TO .none ∧ IsTupOf2 h TI (.ref i1) (.ref i2) ∧ (∃ a b, IsTupOf2 h TO a b) ∧ h.IsStrIter i1 (strIterType x) x tx i ∧ h.IsStrIter i2 (strIterType y) y ty i) where
  mem := by simp
  obj := fun i h st c hc => by
    obtain ⟨hz, hTI, ⟨a, b, hTO⟩, ⟨o1, e1, _, d1⟩, ⟨o2, e2, _, d2⟩⟩ := st
    have e' : c = z ∨ c = TI ∨ c = TO ∨ c = i1 ∨ c = i2 := by simpa using hc
    rcases e' with q | q | q | q | q
    · rw [q]; exact ⟨_, hz, fun v q => nomatch q⟩
    · rw [q]; exact ⟨_, hTI, fun v q => nomatch q⟩
    · rw [q]; exact ⟨_, hTO, fun v q => nomatch q⟩
    · rw [q]; exact ⟨o1, e1, fun v q => by rw [d1] at q; cases q⟩
    · rw [q]; exact ⟨o2, e2, fun v q => by rw [d2] at q; cases q⟩
  keep := fun i h h' st k => by
    obtain ⟨hz, hTI, ⟨a, b, hTO⟩, ⟨o1, e1, r1⟩, ⟨o2, e2, r2⟩⟩ := st
    exact ⟨k z (by simp) _ hz, k TI (by simp) _ hTI, ⟨a, b, k TO (by simp) _ hTO⟩, ⟨o1, k i1 (by simp) o1 e1, r1⟩, ⟨o2, k i2 (by simp) o2 e2, r2⟩⟩
  item := by
    intro X hP hw hK hc i pins s σ H E I hf st hg
    subst hP hw hK
    obtain ⟨hz, hTI, ⟨a, b, hTO⟩, h1, h2⟩ := st
    obtain ⟨g1, g2⟩ := hg
    have hzl : z < s.heap.objs.size := Heap.lt_size hz
    refine wpAny_pyNext_zipD2_item D (Draws.text (A := X.A.in1) (I.ok.hd hc) i1 x tx) (Draws.text (A := X.A.in1) (I.ok.hd hc) i2 y ty) hz hTI hTO h1 h2 g1 g2 fun x1 x2 h' tk p1 p2 z' TO' h1' h2' hT hsz hk => ?_
    obtain ⟨c, u, hcx, e1⟩ := p1
    obtain ⟨d, u2, hdy, e2⟩ := p2
    subst e1 e2
    refine ⟨_, rfl, wpAny_letOwnedTupleGo_zip (s := { s with heap := h', toks := tk }) z' fun h'' z'' sb => ?_⟩
    have hT2 : h''.get? s.heap.objs.size = some { cls := .type "tuple", data := .seq #[.str ⟨#[c]⟩ u, .str ⟨#[d]⟩ u2] } := (sb.2 _ (Nat.ne_of_gt hzl)).trans hT
    have new : ObjOk X.prog X.w (upd H s.heap.objs.size (.tup [.str ⟨#[c]⟩, .str ⟨#[d]⟩])) h'' s.heap.objs.size (.tup [.str ⟨#[c]⟩, .str ⟨#[d]⟩]) :=
      ⟨by show 2 ≤ sizeLine; decide, [.str ⟨#[c]⟩ u, .str ⟨#[d]⟩ u2], .cons ⟨_, rfl⟩ (.cons ⟨_, rfl⟩ .nil), ⟨_, hT2, rfl, _, rfl⟩⟩
    have I1 : Inv X pins σ (upd H s.heap.objs.size (.tup [.str ⟨#[c]⟩, .str ⟨#[d]⟩])) { s with heap := h'', toks := tk } :=
      I.turnedNew (t' := tk) (ch := [z, TI, TO, i1, i2]) (fun b o hb q => (sb.2 b (fun q' => hb (by simp [q']))).trans (hk b o (fun q' => hb (by simp [q'])) (fun q' => hb (by simp [q'])) (fun q' => hb (by simp [q'])) (fun q' => hb (by simp [q'])) q)) hf (Nat.le_refl _) new
    refine ⟨.ref s.heap.objs.size, _, I1, rfl, ⟨_, c, d, rfl, I.hok.fresh (Nat.le_refl _), rfl, hcx, hdy⟩, ⟨z'', ?_, ⟨.str ⟨#[c]⟩ u, .str ⟨#[d]⟩ u2, ?_⟩, ?_, ?_⟩, fun b hcm => ?_⟩
    · exact (sb.2 _ D.TIz).trans (hk _ _ D.TIz D.TITO D.TIi1 D.TIi2 hTI)
    · exact (sb.2 _ D.TOz).trans TO'
    · obtain ⟨o, ho, r⟩ := h1'
      exact ⟨o, (sb.2 _ (Ne.symm D.zi1)).trans ho, r⟩
    · obtain ⟨o, ho, r⟩ := h2'
      exact ⟨o, (sb.2 _ (Ne.symm D.zi2)).trans ho, r⟩
    · have hlt : b < s.heap.objs.size := by
        have e' : b = z ∨ b = TI ∨ b = TO ∨ b = i1 ∨ b = i2 := by simpa using hcm
        rcases e' with q | q | q | q | q
        · rw [q]; exact hzl
        · rw [q]; exact Heap.lt_size hTI
        · rw [q]; exact Heap.lt_size hTO
        · rw [q]; obtain ⟨_, e1, _⟩ := h1; exact Heap.lt_size e1
        · rw [q]; obtain ⟨_, e2, _⟩ := h2; exact Heap.lt_size e2
      rw [upd_ne (Nat.ne_of_lt hlt)]
      exact (hf b hcm).1
  done := by
    intro X hP hw hK hc i pins s σ H E I hf st hg
    subst hP hw hK
    obtain ⟨hz, hTI, ⟨a, b, hTO⟩, h1, h2⟩ := st
    obtain ⟨g1, g2, g3⟩ := hg
    exact wpAny_pyNext_zipD2_end D (Draws.text (A := X.A.in1) (I.ok.hd hc) i1 x tx) (Draws.text (A := X.A.in1) (I.ok.hd hc) i2 y ty) hz hTI hTO h1 h2 g1 g2 g3 fun h' tk hk => ⟨rfl, I.turnedL (t' := tk) (ch := [z, TI, TO, i1, i2]) (fun c o hb q =>
      hk c o (fun q' => hb (by simp [q'])) (fun q' => hb (by simp [q'])) (fun q' => hb (by simp [q'])) (fun q' => hb (by simp [q'])) q) hf⟩
  self := fun A i s Q E st h => wpAny_pyIter_zip st.1 h
theorem zsep (I : Nat) : ZipSep2 (I + 4) (I + 2) (I + 3) I (I + 1) [I] [I + 1] where
  TIz := (by omega : (I + 2 : Nat) ≠ I + 4)
  TOz := (by omega : (I + 3 : Nat) ≠ I + 4)
  TITO := (by omega : (I + 2 : Nat) ≠ I + 3)
  TIi1 := (by omega : (I + 2 : Nat) ≠ I)
  mem1 := List.mem_singleton.mpr rfl
  zf1 := fun h => (by omega : (I + 4 : Nat) ≠ I) (List.mem_singleton.mp h)
  Tf1 := fun h => (by omega : (I + 3 : Nat) ≠ I) (List.mem_singleton.mp h)
  TIi2 := (by omega : (I + 2 : Nat) ≠ I + 1)
  mem2 := List.mem_singleton.mpr rfl
  zf2 := fun h => (by omega : (I + 4 : Nat) ≠ I + 1) (List.mem_singleton.mp h)
  Tf2 := fun h => (by omega : (I + 3 : Nat) ≠ I + 1) (List.mem_singleton.mp h)
  sep1_2 := fun h => (by omega : (I : Nat) ≠ I + 1) (List.mem_singleton.mp h)
  sep2_1 := fun h => (by omega : (I + 1 : Nat) ≠ I) (List.mem_singleton.mp h)
def iZipS (ta : TA) : TI := fun σ H R => ta σ H fun vs H1 => ∃ x y, vs = [.str x, .str y] ∧ R (IteZ x y) H1
theorem pi_zipS {X : Cx} {e e2 : Expr} {ta : TA} {p pos tpos : Pos} {elts : List Expr} {kk : Nat} (hg : Gl X "zip") (hm : X.mg "zip" = none) (ha : PA X [e, e2] ta)
    (hs : starEach [e, e2] X.env = (false, eval e X.env) :: starEach [e2] X.env := by rfl) (hpl : (backTo pos (starEach [e2] X.env)).any (·.1) = false := by rfl) :
    PI X (.Tuple elts kk tpos) (.Call (.Name "zip" p) [e, e2] [] pos) (iZipS ta) := by
  refine ⟨fun pins s σ H R I h => ?_⟩
  refine Call_ (ld_blt I hg hm PyProof.Rows.boot_zip (PyProof.Rows.callWith_type1 (thn (ha.run pos pins s σ H _ I h) fun us s1 ⟨vs, H1, I1, r1, q1⟩ => ?_) hs hpl))
  obtain ⟨x, y, ex, q⟩ := q1
  subst ex
  cases r1 with
  | cons r rr =>
    cases rr with
    | cons r' rr =>
      cases rr
      obtain ⟨tx, rfl⟩ := r
      obtain ⟨ty, rfl⟩ := r'
      have fresh5 : ∀ c, c ∈ [s1.heap.objs.size + 4, s1.heap.objs.size + 2, s1.heap.objs.size + 3, s1.heap.objs.size, s1.heap.objs.size + 1] → FpOk X pins H1 c := fun c hcm => by
        have e' : c = s1.heap.objs.size + 4 ∨ c = s1.heap.objs.size + 2 ∨ c = s1.heap.objs.size + 3 ∨ c = s1.heap.objs.size ∨ c = s1.heap.objs.size + 1 := by simpa using hcm
        have hle : s1.heap.objs.size ≤ c := by
          rcases e' with z | z | z | z | z <;> omega
        exact I1.fpOk hle (I1.hok.fresh hle)
      refine zip_begins2 (begins_text x tx) (begins_text y ty) trivial trivial fun h' hz hTI hTO h1 h2 hsz hk => wpAny_pyIter_zip hz ?_
      have I2 : Inv X pins σ H1 { s1 with heap := h' } := I1.kept (t' := s1.toks) hk
      have D : ZipSep2 (s1.heap.objs.size + 4) (s1.heap.objs.size + 2) (s1.heap.objs.size + 3) s1.heap.objs.size (s1.heap.objs.size + 1) [s1.heap.objs.size] [s1.heap.objs.size + 1] :=
        zsep s1.heap.objs.size
      exact ⟨s1.heap.objs.size + 4, [s1.heap.objs.size + 4, s1.heap.objs.size + 2, s1.heap.objs.size + 3, s1.heap.objs.size, s1.heap.objs.size + 1], _, _, H1, rfl, I2, turn_zipS (tx := tx) (ty := ty) D, ⟨hz, hTI, ⟨_, _, hTO⟩, ⟨_, h1, rfl, rfl⟩, ⟨_, h2, rfl, rfl⟩⟩, fresh5, q⟩
section
variable {Γ : Cg} {K : Frg} {F : Hp} {ms : Ms} {S : Sg} {P : Hp → Ms → List D → (Ms → Prop) → Prop}
theorem ai_zipS {ta : TA} (h : AA Γ ta F ms S fun F1 ms1 ds => ∃ x y : Str, ds = [.str x, .str y] ∧ x.length = y.length ∧ P F1 ms1 (zipD (charsD x) (charsD y)) fun _ => True) : AI Γ (iZipS ta) F ms S P := fun R σ H Rc hs hh x k =>
  h R σ H _ hs hh x fun F1 ms1 ds vs H1 e1 h1 r1 ⟨x, y, hd, hl, p⟩ => by
    subst hd
    have l1 : ∀ z : Str, (charsD z).length = z.cps.size := fun z => by unfold charsD; rw [List.length_map, Array.length_toList]
    have hl' : x.cps.size = y.cps.size := hl
    have hlz : (zipD (charsD x) (charsD y)).length = x.cps.size := by rw [zipD_len (by rw [l1, l1]; exact hl'), l1]
    cases r1 with
    | cons a b =>
      cases b with
      | cons b c =>
        cases c
        cases a
        cases b
        refine ⟨x, y, rfl, k F1 ms1 _ (fun _ => True) _ H1 e1 h1 ⟨fun _ i H' F' ms' hi e' hh' _ => ?_, fun _ H' F' ms' e' hh' _ => ?_, fun _ i H' x' H2 F' ms' hi e' hh' _ yy => ?_⟩ p⟩
        · rw [hlz] at hi
          exact ⟨hi, by omega⟩
        · show _ ∧ _ ∧ _
          rw [hlz]
          exact ⟨Nat.le_refl _, by omega, .inl rfl⟩
        · obtain ⟨T, c, d, y1, y2, y3, y4, y5⟩ := yy
          subst y1 y3
          obtain ⟨F'', e2, h2, r2⟩ := pair_rep hh' y2 (.str ⟨#[c]⟩) (.str ⟨#[d]⟩)
          refine ⟨F'', _, e2, h2, zipD_get ?_ ?_, r2⟩
          · unfold charsD; rw [List.getElem?_map, Array.getElem?_toList, y4]; rfl
          · unfold charsD; rw [List.getElem?_map, Array.getElem?_toList, y5]; rfl
end
end AL

set_option Elab.async false
set_option linter.all false
set_option maxRecDepth 100000
set_option maxHeartbeats 4000000
/-! sum(d.values()) -/
namespace AL
open PySem PySem.Spec PyProof.Rows L2
theorem preSum_take (is : List Int) : ∀ n, n ≤ is.length → preSum (fun i => is.getD i 0) n = (is.take n).sum
  | 0, _ => rfl
  | n + 1, h => by
    show preSum _ n + _ = _
    have hn : n < is.length := h
    rw [preSum_take is n (by omega), List.take_succ, List.getElem?_eq_getElem hn, List.sum_append]
    simp [List.getD_eq_getElem?_getD, List.getElem?_eq_getElem hn]
def tSumVals (td : TE) : TE := fun σ H Q => td σ H fun x H1 => ∃ (a : Addr) (kvs : List (Key × V)) (is : List Int), x = V.ref a ∧ H1 a = some (.dK kvs) ∧ kvs.map (·.2) = is.map V.int ∧ Q (.int is.sum) H1
theorem pe_sumVals {X : Cx} {o : Expr} {p pos apos mpos : Pos} {td : TE} (hc : X.calm = true) (hg : Gl X "sum") (hm : X.mg "sum" = none) (hd : PE X o td) (hbase : attributeBase o "values" X.env (eval o X.env) = eval o X.env := by rfl) (hline : (apos.endLine == mpos.line) = true := by rfl)
    (hse : starEach [Expr.Call (.Attribute o "values" apos) [] [] mpos] X.env = [(false, eval (Expr.Call (.Attribute o "values" apos) [] [] mpos) X.env)] := by rfl) :
    PE X (.Call (.Name "sum" p) [.Call (.Attribute o "values" apos) [] [] mpos] [] pos) (tSumVals td) := by
  refine ⟨fun pins s σ H Q I h => ?_⟩
  refine wpAny_Call_Name_kw (ld_blt I hg hm (u := .builtin "sum") (by first | rfl | decide +kernel) ?_ (by first | decide +kernel | decide) (by first | decide +kernel | decide))
  rw [hse]
  refine PySem.callWith_builtin1 (wpAny_Call_method0_late hbase hline (thn (hd.run pins s σ H _ I h) fun v s1 ⟨x, H1, I1, r1, a, kvs, is, ex, ha, hv, q⟩ => ?_))
  subst ex
  obtain rfl : v = Value.ref a := r1
  obtain ⟨_, hsys, vs, rel, dof⟩ := dk_of I1.hok ha
  obtain ⟨ep, dat⟩ := dof.dictAt
  have dat' := dat
  obtain ⟨ob, es, ho, ex, hdat, hko, hpr, hnd⟩ := dat'
  refine ⟨"dict", "dict.values", F.plainAttrs_dict, F.slot_dict_values, F.type_dict_values, ⟨ob, ho, ex.1⟩, fun b e => ?_, Calls.callWith_builtin rfl (PySem.evalArgs_none ?_)⟩
  · cases e
    exact ⟨ob, ho, ex.2.1⟩
  refine call_meetsIn F.slot_dict_values ⟨ob, ho, ex.1⟩ F.entry_dict_values (F.args_dict_values_1 _) (meets_dict_values (mixKind X.prog X.w) a hsys) ⟨⟨vs, dof⟩, ?_⟩
  have k1 : ∀ b u, s1.heap.get? b = some u → (s1.heap.push { cls := .type "dict_values", data := .fields #[.ref a] }).get? b = some u := fun b u e => Heap.get?_push_of_some _ e
  have dat1 : (s1.heap.push { cls := .type "dict_values", data := .fields #[.ref a] }).DictAt (mixKind X.prog X.w) a vs ep := dat.keep k1
  have hlv : vs.length = is.length := by
    have e1 := congrArg List.length hv
    rw [List.length_map, List.length_map] at e1
    rw [← e1]
    exact (KV.length rel).symm
  have hval : ∀ (i : Nat) (v : Value), (∃ k, vs[i]? = some (k, v)) → ∃ t, v = Value.int (is.getD i 0) t := fun i v ⟨k, hk⟩ => by
    obtain ⟨x, h1, h2⟩ := KV.at' rel hk
    have e1 : (kvs.map (·.2))[i]? = some x := by rw [List.getElem?_map, h1] <;> rfl
    rw [hv, List.getElem?_map] at e1
    obtain ⟨j, hj, e2⟩ := Option.map_eq_some_iff.mp e1
    subst e2
    obtain ⟨t, e3⟩ := h2
    refine ⟨t, ?_⟩
    rw [e3, List.getD_eq_getElem?_getD, hj] <;> rfl
  refine call_sum_walkAnyS (wpAny_pyIter_values (v := s1.heap.objs.size) (d := a) ⟨_, Heap.get?_push_size _ rfl, rfl, rfl⟩ dat1 ?_)
  have hlt : a < s1.heap.objs.size := Heap.lt_size ho
  have hsz : (s1.heap.push { cls := .type "dict_values", data := .fields #[.ref a] }).objs.size = s1.heap.objs.size + 1 := Heap.size_push _ _
  refine ⟨_, _, _, _, _, _, _, fun i => is.getD i 0, rfl, (Walks.dictValues (knd := mixKind X.prog X.w) (A := X.A.in1) (I.ok.hd hc) (s1.heap.push { cls := .type "dict_values", data := .fields #[.ref a] }).objs.size a (by rw [hsz]; exact Nat.ne_of_lt (Nat.lt_succ_of_lt hlt)) vs ep).toS,
    ⟨⟨_, Heap.get?_push_size _ rfl, rfl, rfl⟩, dat1.keep fun b u e => Heap.get?_push_of_some _ e⟩, fun b hb => ?_, hval, fun s' t' hm => ?_⟩
  · show b < ((s1.heap.push _).push _).objs.size
    rw [Heap.size_push, Heap.size_push]
    rw [hsz] at hb
    rcases List.mem_cons.mp hb with e | hb
    · rw [e]
      exact Nat.lt_succ_self _
    · have e : b = a := List.mem_singleton.mp hb
      rw [e]
      exact Nat.lt_succ_of_lt (Nat.lt_succ_of_lt hlt)
  · have hk : ∀ b u, s1.heap.get? b = some u → s'.heap.get? b = some u := fun b u e =>
      hm.heap b u (fun hI => by
        have e1 := List.mem_singleton.mp hI
        have e2 := Heap.lt_size e
        rw [hsz] at e1
        rw [e1] at e2
        exact absurd e2 (Nat.not_lt.mpr (Nat.le_succ _))) (Heap.get?_push_of_some _ (k1 b u e))
    have hs : preSum (fun i => is.getD i 0) vs.length = is.sum := by
      rw [hlv, preSum_take is is.length (Nat.le_refl _), List.take_length]
    rw [hs, Moved.eq_with hm]
    exact ⟨.int _, H1, I1.kept (t' := s'.toks) hk, ⟨t', rfl⟩, q⟩
section
variable {Γ : Cg} {F : Hp} {ms : Ms} {S : Sg} {Q : QE} {td : TE}
theorem kv_ints {K : Frg} {F : Hp} : ∀ {kvs : List (Key × D)} {vs : List (Key × V)} {is : List Int}, RepK K F kvs vs → kvs.map (·.2) = is.map D.int → vs.map (·.2) = is.map V.int
  | _, _, [], .nil, _ => rfl
  | _, _, [], .cons _ _, e => by cases e
  | _, _, i :: is, .nil, e => by cases e
  | _, _, i :: is, .cons h r, e => by
    rw [List.map_cons, List.map_cons] at e
    injection e with e1 e2
    have e1' := e1
    subst e1'
    cases h
    rw [List.map_cons, List.map_cons, kv_ints r e2]
theorem ae_sumVals (h : AE Γ td F ms S fun F1 ms1 x => ∃ (kvs : List (Key × D)) (is : List Int), DicA Γ.K F1 ms1 x kvs ∧ kvs.map (·.2) = is.map D.int ∧ Q F1 ms1 (.int is.sum)) : AE Γ (tSumVals td) F ms S Q := fun R σ H Qc hs hh x k =>
  h R σ H _ hs hh x fun F1 ms1 d v H1 e1 h1 r1 ⟨kvs, is, hd, hi, q⟩ => by
    obtain ⟨a, vs, rfl, ha, rk⟩ := hd.to h1 r1
    exact ⟨a, vs, is, rfl, ha, kv_ints rk hi, k F1 ms1 _ _ H1 e1 h1 (.int _) q⟩
end
end AL

set_option Elab.async false
set_option linter.all false
set_option maxRecDepth 100000
set_option maxHeartbeats 4000000
/-! a comprehension of two loops -/
namespace AL
open PySem L2 PyProof.Rows
section
variable {Γ : Cg} {K : Frg} {F : Hp} {ms : Ms} {S : Sg} {Q : QE} {te : TE} {tt tt1 : TT} {g g1 : TG} {wi wi1 : TI} {vs vs1 : List Nat}
theorem ae_lc2 (hg : GW g vs) (gm : ∀ v σ H N N', (∀ σ2 H2, N σ2 H2 → N' σ2 H2) → g v σ H N → g v σ H N') (hg1 : GW g1 vs1) (gm1 : ∀ v σ H N N', (∀ σ2 H2, N σ2 H2 → N' σ2 H2) → g1 v σ H N → g1 v σ H N')
    (h : AI Γ wi F ms S fun F1 ms1 ds G => ∃ I : Nat → Hp → Ms → List D → Prop, I 0 F1 ms1 [] ∧ (∀ i F' ms' acc, Ex F1 F' → I i F' ms' acc → G ms') ∧
    (∀ i d F' ms' acc, Ex F1 F' → ds[i]? = some d → I i F' ms' acc → ∀ F'', Ex F' F'' → AG Γ.nox g d F'' ms' (wipeS S vs) fun F2 ms2 S2 => AT Γ.nox tt F2 ms2 S2 fun F3 ms3 b =>
      (b = true → AI Γ.nox wi1 F3 ms3 S2 fun F4 ms4 ds1 G1 => ∃ I1 : Nat → Hp → Ms → List D → Prop, I1 0 F4 ms4 acc ∧ (∀ j F' ms' acc', Ex F4 F' → I1 j F' ms' acc' → G1 ms') ∧
        (∀ j d1 F' ms' acc', Ex F4 F' → ds1[j]? = some d1 → I1 j F' ms' acc' → ∀ F'', Ex F' F'' → AG Γ.nox g1 d1 F'' ms' (wipeS S2 vs1) fun F5 ms5 S5 => AT Γ.nox tt1 F5 ms5 S5 fun F6 ms6 b => (b = true → AE Γ.nox te F6 ms6 S5 fun F7 ms7 y => acc'.length < 100000 ∧ I1 (j + 1) F7 ms7 (acc' ++ [y])) ∧ (b = false → I1 (j + 1) F6 ms6 acc')) ∧
        (∀ F' ms' acc', Ex F4 F' → I1 ds1.length F' ms' acc' → I (i + 1) F' ms' acc')) ∧ (b = false → I (i + 1) F3 ms3 acc)) ∧
    (∀ F' ms' acc, Ex F1 F' → I ds.length F' ms' acc → ∀ F'', Ex F' F'' → Q F'' ms' (.lst acc))) : AE Γ (tLc2 wi g tt wi1 g1 tt1 te vs vs1) F ms S Q := fun R σ H Qc hs hh x k =>
  h R σ H _ hs hh x fun F1 ms1 ds G J H1 e1 h1 it ⟨I, i0, iG, ib, ie⟩ => by
    intro D hD
    refine ⟨fun i m H' => m = ds.length - i ∧ i ≤ ds.length ∧ ∃ F' ms' acc, Ex F1 F' ∧ Hold Γ.K F' (ms' ++ (D, .lst acc) :: R) H' ∧ I i F' ms' acc, ⟨_, rfl, Nat.zero_le _, F1, ms1, [], Ex.refl, ?_, i0⟩, ?_⟩
    · exact (h1.made (m := .lst []) hD ⟨[], upd_same, .nil⟩).perm List.perm_middle
    rintro i m H' ⟨rfl, hi, F', ms', acc, e', hh', p⟩
    have hG := iG i F' ms' acc e' p
    by_cases hlt : i < ds.length
    · refine .inr ⟨it.goes _ i H' F' ms' hlt e' hh' hG, fun H2 => ∃ F2 ms2 acc2, Ex F1 F2 ∧ Hold Γ.K F2 (ms2 ++ (D, .lst acc2) :: R) H2 ∧ I (i + 1) F2 ms2 acc2, fun H2 ⟨F2, ms2, acc2, e2, b2, q2⟩ => ⟨ds.length - (i + 1), by omega, rfl, hlt, F2, ms2, acc2, e2, b2, q2⟩, fun x H2 y => ?_⟩
      obtain ⟨F2, d, e2, hh2, hd, hr⟩ := it.yields _ i H' x H2 F' ms' hlt e' hh' hG y
      refine gm x _ H2 _ _ (fun σ2 H3 z => ⟨z.2, z.1⟩) (hg x _ H2 _ _ (wipe_wipe σ vs) ?_)
      refine ib i d F' ms' acc e' hd p F2 e2 _ x (L2.wipe σ vs) H2 _ hr (((hs.mono e1).mono (e'.trans e2)).wipe vs) hh2 xle0 fun F3 ms3 S3 σ3 H3 e3 a3 b3 q3 => ?_
      refine q3 _ σ3 H3 _ a3 b3 xle0 fun F4 ms4 b H4 e4 b4 q4 => ?_
      have e14 : Ex F1 F4 := (((e'.trans e2).trans e3).trans e4)
      cases b with
      | false => exact ⟨F4, ms4, acc, e14, b4, q4.2 rfl⟩
      | true =>
        refine q4.1 rfl ((D, .lst acc) :: R) σ3 H4 _ (a3.mono e4) b4 xle0 fun F5 ms5 ds1 G1 J1 H5 e5 b5 it1 ⟨I1, j0, jG, jb, je⟩ => ?_
        refine ⟨fun j m H' => m = ds1.length - j ∧ j ≤ ds1.length ∧ ∃ F' ms' acc', Ex F5 F' ∧ Hold Γ.K F' (ms' ++ (D, .lst acc') :: R) H' ∧ I1 j F' ms' acc', ⟨_, rfl, Nat.zero_le _, F5, ms5, acc, Ex.refl, b5, j0⟩, ?_⟩
        rintro j m Hj ⟨rfl, hj, Fj, msj, accj, ej, hhj, pj⟩
        have hGj := jG j Fj msj accj ej pj
        by_cases hltj : j < ds1.length
        · refine .inr ⟨it1.goes _ j Hj Fj msj hltj ej hhj hGj, fun H2 => ∃ F2 ms2 acc2, Ex F5 F2 ∧ Hold Γ.K F2 (ms2 ++ (D, .lst acc2) :: R) H2 ∧ I1 (j + 1) F2 ms2 acc2, fun H2 ⟨F2, ms2, acc2, e2, b2, q2⟩ => ⟨ds1.length - (j + 1), by omega, rfl, hltj, F2, ms2, acc2, e2, b2, q2⟩, fun x2 H6 y2 => ?_⟩
          obtain ⟨F6, d6, e6, hh6, hd6, hr6⟩ := it1.yields _ j Hj x2 H6 Fj msj hltj ej hhj hGj y2
          refine gm1 x2 _ H6 _ _ (fun σ2 H3 z => ⟨z.2, z.1⟩) (hg1 x2 _ H6 _ _ (wipe_wipe σ3 vs1) ?_)
          refine jb j d6 Fj msj accj ej hd6 pj F6 e6 _ x2 (L2.wipe σ3 vs1) H6 _ hr6 (((a3.mono e4).mono ((e5.trans ej).trans e6)).wipe vs1) hh6 xle0 fun F7 ms7 S7 σ7 H7 e7 a7 b7 q7 => ?_
          refine q7 _ σ7 H7 _ a7 b7 xle0 fun F8 ms8 b H8 e8 b8 q8 => ?_
          cases b with
          | true =>
            refine q8.1 rfl _ σ7 H8 _ (a7.mono e8) b8 xle0 fun F9 ms9 d9 v9 H9 e9 b9 r9 q9 => ?_
            obtain ⟨_, vs9, hl, rl⟩ := b9.at mid_get
            refine ⟨vs9, hl, Evl.sz_lt (by rw [← rl.len]; exact q9.1), F9, ms9, accj ++ [d9], (((ej.trans e6).trans e7).trans e8).trans e9, ?_, q9.2⟩
            have := b9.set (m' := .lst (accj ++ [d9])) (o := .lst (vs9 ++ [v9])) mid_get ⟨_, upd_same, rl.append (RepL.one r9)⟩
            rw [mid_set] at this
            exact this
          | false => exact ⟨F8, ms8, accj, ((ej.trans e6).trans e7).trans e8, b8, q8.2 rfl⟩
        · have ejl : j = ds1.length := by omega
          subst ejl
          exact .inl ⟨it1.stops _ Hj Fj msj ej hhj hGj, Fj, msj, accj, (e14.trans e5).trans ej, hhj, je Fj msj accj ej pj⟩
    · have ei : i = ds.length := by omega
      subst ei
      refine .inl ⟨it.stops _ H' F' ms' e' hh' hG, ?_⟩
      obtain ⟨_, vsD, hl, rl⟩ := hh'.at mid_get
      obtain ⟨o, ho, e2, h2⟩ := hh'.freeze mid_get
      rw [hl] at ho
      cases ho
      rw [mid_erase] at h2
      exact k _ ms' (.lst acc) _ H' ((e1.trans e').trans e2) h2 (.lst upd_same (rl.mono e2)) (ie F' ms' acc e' p _ e2)
end
end AL

set_option Elab.async false
set_option linter.all false
set_option maxRecDepth 100000
set_option maxHeartbeats 4000000
/-! tuples of ints compared, list(range(n)) -/
namespace AL
open PySem L2 PyProof.Rows
section
variable {Γ : Cg} {K : Frg} {F : Hp} {ms : Ms} {S : Sg} {Q : QE} {ta : TE}
theorem kLTT {X : Cx} (h : X.K = K) (hu : X.A.units + 64 < cLine) : OpR X (compareOp .Lt) (rLtT K) := h ▸ op_ltT (by omega)
theorem ar_LTT {ns ks : List Int} (q : Q F ms (.bl (HT.lexLt ns ks))) : AR K (rLtT K) (.tup (ns.map D.int)) (.tup (ks.map D.int)) F ms Q := fun R u v H Qc hu hv hh k => by
  cases hu with
  | tup h1 r1 =>
    cases hv with
    | tup h2 r2 =>
      have e1 := rep_ints r1
      have e2 := rep_ints r2
      subst e1
      subst e2
      exact ⟨_, _, _, _, rfl, rfl, ex_t hh.ex h1, ex_t hh.ex h2, k F ms _ _ H Ex.refl hh (.bl _) q⟩
theorem rg_rep (n : Int) : RepL K F ((List.range n.toNat).map fun (o : Nat) => D.int (o : Int)) (rgV 0 n) := by
  have gen : ∀ l : List Nat, RepL K F (l.map fun (o : Nat) => D.int (o : Int)) (l.map fun (i : Nat) => V.int (0 + (i : Int))) := by
    intro l
    induction l with
    | nil => exact .nil
    | cons i l ih =>
      refine .cons ?_ ih
      show Rep K F (D.int (i : Int)) (V.int (0 + (i : Int)))
      rw [Int.zero_add]
      exact .int _
  have := gen (List.range n.toNat)
  unfold rgV
  rw [show n - 0 = n by omega]
  exact this
theorem ae_listRg1 (h : AE Γ ta F ms S fun F1 ms1 x => ∃ n : Int, x = .int n ∧ -100000 ≤ n ∧ n ≤ 100000 ∧ ∀ F2, Ex F1 F2 → Q F2 ms1 (.lst ((List.range n.toNat).map fun (o : Nat) => D.int (o : Int)))) : AE Γ (tLstRg (tRg1 ta)) F ms S Q := fun R σ H Qc hs hh x k =>
  h R σ H _ hs hh x fun F1 ms1 d v H1 e1 h1 r1 ⟨n, hd, b1, b2, q⟩ => by
    subst hd
    cases r1
    refine ⟨n, rfl, ⟨by decide, by decide, by omega, by omega, by omega⟩, fun p hp => ?_⟩
    obtain ⟨e2, h2⟩ := h1.laid (.lst (rgV 0 n)) hp
    exact k _ ms1 (.lst _) _ _ (e1.trans e2) h2 (.lst upd_same (rg_rep n)) (q _ e2)
end
end AL

set_option Elab.async false
set_option linter.all false
set_option maxRecDepth 100000
set_option maxHeartbeats 4000000
/-! owned lists that freeze at an operator; plain lists compared -/
namespace AL
open PySem L2 PyProof.Rows
section
variable {K : Frg} {F : Hp} {ms : Ms} {Q : QE} {r : R2}
theorem ar_frzL {l : Addr} {ds : List D} {y : D} (n : Nat) (hn : ms[n]? = some (l, .lst ds)) (q : ∀ F2, Ex F F2 → AR K r (.lst ds) y F2 (ms.eraseIdx n) Q) : AR K r (.ref l) y F ms Q := fun R u v H Qc hu hv hh k => by
  cases hu
  obtain ⟨_, vs, hl, rp⟩ := hh.at (get_app hn)
  obtain ⟨o, ho, e, h2⟩ := hh.freeze (get_app hn)
  rw [hl] at ho
  cases ho
  rw [List.eraseIdx_append_of_lt_length (List.getElem?_eq_some_iff.mp hn).1] at h2
  exact q _ e R _ v H Qc (.lst upd_same (rp.mono e)) (hv.mono e) h2 fun F' ms' d v' H' e' => k F' ms' d v' H' (e.trans e')
theorem ar_frzR {l : Addr} {ds : List D} {x : D} (n : Nat) (hn : ms[n]? = some (l, .lst ds)) (q : ∀ F2, Ex F F2 → AR K r x (.lst ds) F2 (ms.eraseIdx n) Q) : AR K r x (.ref l) F ms Q := fun R u v H Qc hu hv hh k => by
  cases hv
  obtain ⟨_, vs, hl, rp⟩ := hh.at (get_app hn)
  obtain ⟨o, ho, e, h2⟩ := hh.freeze (get_app hn)
  rw [hl] at ho
  cases ho
  rw [List.eraseIdx_append_of_lt_length (List.getElem?_eq_some_iff.mp hn).1] at h2
  exact q _ e R u _ H Qc (hu.mono e) (.lst upd_same (rp.mono e)) h2 fun F' ms' d v' H' e' => k F' ms' d v' H' (e.trans e')
end
theorem as_norm {Γ : Cg} {ts : TS} {F : Hp} {ms : Ms} {S S' : Sg} {A : AEnds} (e : S = S') (h : AS Γ ts F ms S' A) : AS Γ ts F ms S A := e ▸ h
theorem okL_ints : ∀ ns : List Int, okL (ns.map D.int) = true
  | [] => rfl
  | n :: ns => by show (true && okL (ns.map D.int)) = true; rw [okL_ints ns]; rfl
theorem depL_ints : ∀ ns : List Int, depL (ns.map D.int) = 0
  | [] => rfl
  | n :: ns => by show max 0 (depL (ns.map D.int)) = 0; rw [depL_ints ns]; rfl
theorem depL_strs : ∀ ns : List Str, depL (ns.map D.str) = 0
  | [] => rfl
  | n :: ns => by show max 0 (depL (ns.map D.str)) = 0; rw [depL_strs ns]; rfl
theorem okS {x : Str} (h : ∀ c ∈ x.cps.toList, c < 128) : okD (.str x) = true := by
  show x.cps.all (· < 0x110000) = true
  rw [← Array.all_toList, List.all_eq_true]
  intro c hc
  have := h c hc
  simp
  omega
theorem okL_strs : ∀ {ts : List Str}, (∀ t ∈ ts, ∀ c ∈ t.cps.toList, c < 128) → okL (ts.map D.str) = true
  | [], _ => rfl
  | t :: ts, h => by
    show (okD (.str t) && okL (ts.map D.str)) = true
    rw [okS (h t (List.mem_cons_self ..)), okL_strs fun y hy => h y (List.mem_cons_of_mem _ hy)]
    rfl
theorem eqvL_ints : ∀ (xs ys : List Int), eqvD (.lst (xs.map D.int)) (.lst (ys.map D.int)) = decide (xs = ys)
  | [], [] => rfl
  | [], y :: ys => by simp [eqvD, toPy, toPyL, PyData.eqv, PyData.eqvAll]
  | x :: xs, [] => by simp [eqvD, toPy, toPyL, PyData.eqv, PyData.eqvAll]
  | x :: xs, y :: ys => by
    have ih := eqvL_ints xs ys
    simp only [eqvD, toPy, toPyL, PyData.eqv, PyData.eqvAll, List.map_cons] at ih ⊢
    rw [ih]
    by_cases h : x = y
    · by_cases h2 : xs = ys
      · simp [h, h2]
      · simp [h, h2]
    · simp [h]
theorem eqvT_strs : ∀ (xs ys : List Str), eqvD (.tup (xs.map D.str)) (.tup (ys.map D.str)) = decide (xs = ys)
  | [], [] => rfl
  | [], y :: ys => by simp [eqvD, toPy, toPyL, PyData.eqv, PyData.eqvAll]
  | x :: xs, [] => by simp [eqvD, toPy, toPyL, PyData.eqv, PyData.eqvAll]
  | x :: xs, y :: ys => by
    have ih := eqvT_strs xs ys
    simp only [eqvD, toPy, toPyL, PyData.eqv, PyData.eqvAll, List.map_cons] at ih ⊢
    rw [ih]
    by_cases h : x = y
    · by_cases h2 : xs = ys
      · simp [h, h2]
      · simp [h, h2]
    · simp [h]
theorem eqvL_strs : ∀ (xs ys : List Str), eqvD (.lst (xs.map D.str)) (.lst (ys.map D.str)) = decide (xs = ys)
  | [], [] => rfl
  | [], y :: ys => by simp [eqvD, toPy, toPyL, PyData.eqv, PyData.eqvAll]
  | x :: xs, [] => by simp [eqvD, toPy, toPyL, PyData.eqv, PyData.eqvAll]
  | x :: xs, y :: ys => by
    have ih := eqvL_strs xs ys
    simp only [eqvD, toPy, toPyL, PyData.eqv, PyData.eqvAll, List.map_cons] at ih ⊢
    rw [ih]
    by_cases h : x = y
    · by_cases h2 : xs = ys
      · simp [h, h2]
      · simp [h, h2]
    · simp [h]
end AL

set_option Elab.async false
set_option linter.all false
set_option maxRecDepth 100000
set_option maxHeartbeats 4000000
/-! sorted(set(a list of texts or of ints)) -/
namespace AL
open PySem PySem.Spec L2 PyProof.Rows
theorem nodup_le {β : Type} [DecidableEq β] : ∀ {l U : List β}, l.Nodup → (∀ x ∈ l, x ∈ U) → l.length ≤ U.length
  | [], U, _, _ => Nat.zero_le _
  | b :: l, U, h, s => by
    have ha := s b List.mem_cons_self
    have hn := List.nodup_cons.mp h
    have ih := nodup_le (l := l) (U := U.erase b) hn.2 fun x hx => (List.mem_erase_of_ne (fun e : x = b => hn.1 (by rw [← e]; exact hx))).mpr (s x (List.mem_cons_of_mem _ hx))
    rw [List.length_erase_of_mem ha] at ih
    have := List.length_pos_of_mem ha
    rw [List.length_cons]
    omega
/-- the keys of a set -/
structure KS (P : Program) (w : World) (α : Type) [DecidableEq α] where
  knd : PySem.KeyKind P w α
  val : α → Tok → Value
  kf : Value → α
  is : ∀ k t, knd.is k (val k t) = true
  sc : ∀ k t, (val k t).scannable = true
  kfm : ∀ k t, kf (val k t) = k
def ksI (P : Program) (w : World) : KS P w Int := ⟨intKind P w, Value.int, fun v => match v with | .int k _ => k | _ => 0, fun k t => intKind_is P w k t, fun _ _ => rfl, fun _ _ => rfl⟩
def ksS (P : Program) (w : World) : KS P w Str := ⟨PySem.strKind P w, Value.str, fun v => match v with | .str k _ => k | _ => Str.empty, fun k t => strKind_is P w k t, fun _ _ => rfl, fun _ _ => rfl⟩
section
variable {P : Program} {w : World} {α : Type} [DecidableEq α] (c : KS P w α)
def KS.Good (e : Int × Value) : Prop := ∃ k t, e.2 = c.val k t ∧ e.1 = c.knd.hash k
def KS.key (e : Int × Value) : α := c.kf e.2
/-- a set at a: made of these keys -/
def KS.At (h : Heap) (a : Addr) (ks : List α) : Prop :=
  ∃ o es ep t, h.get? a = some o ∧ o.ExactSet ∧ o.data = .set es ep t ∧ (∀ e ∈ es.toList, c.Good e) ∧ (es.toList.map c.key).Nodup ∧ (∀ k, k ∈ ks ↔ k ∈ es.toList.map c.key) ∧
    es.size < scanBound ∧ t.fits es.size = true ∧ es.size ≤ ks.length ∧ Ris t.place.toList ∧ (w.params.followText "set-order" = true ∨ t.led = true)
variable {c}
theorem KS.At.keep {h h' : Heap} {a : Addr} {ks : List α} (x : c.At h a ks) (k : ∀ o, h.get? a = some o → h'.get? a = some o) : c.At h' a ks := by
  obtain ⟨o, es, ep, t, ho, r⟩ := x
  exact ⟨o, es, ep, t, k o ho, r⟩
theorem KS.elems {l : List (Int × Value)} (g : ∀ e ∈ l, c.Good e) : ElemsOf c.knd l := fun e he => by
  obtain ⟨k, t, h1, h2⟩ := g e he
  exact ⟨⟨k, by rw [h1]; exact c.is k t, h2⟩, by rw [h1]; exact c.sc k t⟩
theorem KS.good_is {e : Int × Value} (g : c.Good e) (k : α) : c.knd.is k e.2 = true ↔ c.key e = k := by
  obtain ⟨k0, t, h1, _⟩ := g
  unfold KS.key
  rw [h1, c.kfm]
  exact ⟨fun h => (c.knd.inj _ _ _ h (c.is k0 t)).symm, fun h => h ▸ c.is k0 t⟩
theorem KS.mem {l : List (Int × Value)} (g : ∀ e ∈ l, c.Good e) (k : α) : k ∈ l.map c.key ↔ ∃ e ∈ l, c.knd.is k e.2 = true := by
  rw [List.mem_map]
  exact ⟨fun ⟨e, he, q⟩ => ⟨e, he, (KS.good_is (g e he) k).2 q⟩, fun ⟨e, he, q⟩ => ⟨e, he, (KS.good_is (g e he) k).1 q⟩⟩
section
variable {A : Around} {E : Value → Shared → Prop} {s : Shared} {a : Addr} {ks : List α}
theorem KS.tail {gv : Bool → Sem Unit} (hgv : ∀ (b : Bool) (u : Shared) (Y : Unit → Shared → Prop), Y () u → wpAny (model P w) A (gv b) Y E u)
    {o : Obj} {es : Array (Int × Value)} {ep : Nat} {t : SetTable} (ho : s.heap.get? a = some o) (hex : o.ExactSet) (hd : o.data = .set es ep t)
    {es1 : Array (Int × Value)} {t2 : SetTable} {ks' : List α} (g1 : ∀ e ∈ es1.toList, c.Good e) (nd1 : (es1.toList.map c.key).Nodup) (m1 : ∀ k, k ∈ ks' ↔ k ∈ es1.toList.map c.key)
    (hb1 : es1.size < scanBound) (hf2 : t2.fits es1.size = true) (hz : es1.size ≤ ks'.length) (hr : Ris t2.place.toList) (hl : w.params.followText "set-order" = true ∨ t2.led = true) {wasDummy : Bool} {Y : Option Bool → Shared → Prop}
    (hY : ∀ h', Heap.SameBut a s.heap h' → c.At h' a ks' → Y (some true) { s with heap := h' }) :
    wpAny (model P w) A (do
        storeSet a es1 t2
        if (!wasDummy && t2.tooFull) = true then do
            gv (relayAll t2 es1 (SetTable.grown es1.size)).2.2
            storeSet a (relayAll t2 es1 (SetTable.grown es1.size)).1 (relayAll t2 es1 (SetTable.grown es1.size)).2.1
            pure (some true)
          else pure (some true)) Y E s := by
  refine wpAny_bind (wpAny_storeSet_of ho hd ?_ (fits_of_scanBound hb1))
  have at1 := store_at (es' := es1) (t' := t2) ho hd
  have same1 := Heap.SameBut.update s.heap a (Obj.putSet es1 t2)
  by_cases hfull : (!wasDummy && t2.tooFull) = true
  · rw [if_pos hfull]
    have perm := relayAll_perm t2 es1 (SetTable.grown es1.size)
    have fit3 := relayAll_fits t2 es1 (SetTable.grown es1.size)
    have ris3 := relayAll_ris t2 es1 (SetTable.grown es1.size)
    have led3 := relayAll_led t2 es1 (SetTable.grown es1.size)
    generalize relayAll t2 es1 (SetTable.grown es1.size) = Z at perm fit3 ris3 led3 ⊢
    obtain ⟨es2, t3, gave⟩ := Z
    dsimp only at perm fit3 ris3 led3 ⊢
    have size2 : es2.size = es1.size := by rw [← Array.length_toList, perm.length_eq, Array.length_toList]
    have small2 : es2.size < scanBound := by rw [size2]; exact hb1
    refine wpAny_bind (hgv _ _ _ ?_)
    refine wpAny_bind (wpAny_storeSet_of at1 rfl ?_ (fits_of_scanBound small2))
    have at2 := store_at (es' := es2) (t' := t3) at1 rfl
    exact wpAny_pure (hY _ (same1.trans (Heap.SameBut.update _ a _)) ⟨_, es2, _, t3, at2, hex, rfl, fun e he => g1 e (perm.mem_iff.mp he), (perm.map c.key).nodup_iff.mpr nd1, fun k => (m1 k).trans (perm.map c.key).mem_iff.symm, small2, fit3, by rw [size2]; exact hz, ris3, hl.imp id fun z => by rw [led3]; exact z⟩)
  · rw [if_neg hfull]
    exact wpAny_pure (hY _ same1 ⟨_, es1, _, t2, at1, hex, rfl, g1, nd1, m1, hb1, hf2, hz, hr, hl⟩)
theorem KS.add {k : α} {tk : Tok} {Y : Bool → Shared → Prop} {U : List α} (R : c.At s.heap a ks) (hU : ∀ j ∈ ks, j ∈ U) (room : U.length + 1 < scanBound)
    (hY : ∀ b h', Heap.SameBut a s.heap h' → c.At h' a (ks ++ [k]) → Y b { s with heap := h' }) :
    wpAny (model P w) A (setAddHashed a (c.val k tk) (c.knd.hash k)) Y E s := by
  obtain ⟨o, es, ep, t, ho, hex, hd, g, nd, hm, hb, hf, hn, hr, hl⟩ := R
  have hbU : es.size ≤ U.length := by
    have z := nodup_le nd fun j hj => hU j ((hm j).2 hj)
    rw [List.length_map, Array.length_toList] at z
    exact z
  have here : c.knd.is k (c.val k tk) = true := c.is k tk
  have scan : (c.val k tk).scannable = true := c.sc k tk
  have els : ElemsOf c.knd es.toList := KS.elems g
  unfold setAddHashed setAddHashedIn
  refine wpAny_holding (wpAny_bind (wpAny_setState_of ho hd hf ?_))
  dsimp only
  rw [byScan_of scan hb els]
  simp only [↓reduceIte]
  unfold setAddByScan
  refine wpAny_bind (wpAny_bind (wpAny_rule (wpAny_bind (wpAny_setScan_of here ho hd hf els ?_))))
  have mem' : ∀ i, i ∈ ks ++ [k] ↔ (i ∈ ks ∨ i = k) := fun i => by rw [List.mem_append, List.mem_singleton]
  cases hfi : List.findIdx? (fun e => c.knd.is k e.2) es.toList with
  | some j =>
    dsimp only
    obtain ⟨hj, pj, _⟩ := List.findIdx?_eq_some_iff_getElem.mp hfi
    have hin : k ∈ ks := (hm k).2 ((KS.mem g k).2 ⟨es.toList[j], List.getElem_mem hj, pj⟩)
    refine wpAny_pure (wpAny_pure (hY _ s.heap (Heap.SameBut.refl a s.heap) ⟨o, es, ep, t, ho, hex, hd, g, nd, fun i => ?_, hb, hf, by rw [List.length_append]; omega, hr, hl⟩))
    rw [mem' i, ← hm i]
    exact ⟨fun z => z.elim id (fun e => e ▸ hin), .inl⟩
  | none =>
    dsimp only
    have hnk : k ∉ es.toList.map c.key := fun z => by
      obtain ⟨e, he, q⟩ := (KS.mem g k).1 z
      have := List.findIdx?_eq_none_iff.mp hfi e he
      rw [q] at this
      cases this
    have hgw : ∀ (b : Bool) {u : Shared} {Y' : Unit → Shared → Prop}, Y' () u → wpAny (model P w) A (match b with | true => rule "set.scan.the-table-gave-way" | false => pure ()) Y' E u :=
      fun b u Y' q => by cases b; exact wpAny_pure q; exact wpAny_rule q
    have perm := layNew_perm t es (c.knd.hash k) (c.val k tk)
    have fit1 := layNew_fits t es (c.knd.hash k) (c.val k tk)
    have ris1 := layNew_ris t es (c.knd.hash k) (c.val k tk) hr
    have led1 := layNew_led t es (c.knd.hash k) (c.val k tk)
    generalize layNew t es (c.knd.hash k) (c.val k tk) = Z at perm fit1 ris1 led1 ⊢
    obtain ⟨es1, t1, wasDummy, gave⟩ := Z
    dsimp only at perm fit1 ris1 led1 ⊢
    rw [Array.toList_push] at perm
    have pc : es1.toList.Perm ((c.knd.hash k, c.val k tk) :: es.toList) := perm.trans (List.perm_append_singleton _ _)
    have pk : (es1.toList.map c.key).Perm (k :: es.toList.map c.key) := by
      have := pc.map c.key
      rw [List.map_cons, show c.key (c.knd.hash k, c.val k tk) = k from c.kfm k tk] at this
      exact this
    have g1 : ∀ e ∈ es1.toList, c.Good e := fun e he => by
      rcases List.mem_cons.mp (pc.mem_iff.mp he) with z | z
      · exact ⟨k, tk, by rw [z], by rw [z]⟩
      · exact g e z
    have nd1 : (es1.toList.map c.key).Nodup := pk.nodup_iff.mpr (List.nodup_cons.mpr ⟨hnk, nd⟩)
    have m1 : ∀ i, i ∈ ks ++ [k] ↔ i ∈ es1.toList.map c.key := fun i => by
      rw [mem' i, hm i, pk.mem_iff, List.mem_cons]
      exact Or.comm
    have size1 : es1.size = es.size + 1 := by rw [← Array.length_toList, pc.length_eq, List.length_cons, Array.length_toList]
    have hb1 : es1.size < scanBound := by omega
    have hz1 : es1.size ≤ (ks ++ [k]).length := by rw [List.length_append, size1]; show _ ≤ ks.length + 1; omega
    have hled : w.params.followText "set-order" = true ∨ t1.led = true := hl.imp id fun z => by rw [led1]; exact z
    refine wpAny_bind (hgw _ ?_)
    have fin : ∀ h', Heap.SameBut a s.heap h' → c.At h' a (ks ++ [k]) → Y true { s with heap := h' } := fun h' sb r => hY true h' sb r
    split
    · refine wpAny_bind ?_
      rw [hashByValue_scannable 8 scan]
      refine wpAny_pure ?_
      refine KS.tail ?_ ho hex hd g1 nd1 m1 hb1 ?_ hz1 ?_ ?_ ?_
      · intro b u Y' q
        exact hgw b q
      · first | (split <;> first | exact fit1 | exact SetTable.fits_plain_off fit1) | exact fit1
      · first | (split <;> exact ris1) | exact ris1
      · first | (split <;> exact hled) | exact hled
      · intro h' sb r
        dsimp only
        exact wpAny_pure (fin h' sb r)
    · refine wpAny_bind (wpAny_pure ?_)
      simp only [↓reduceIte]
      refine KS.tail (fun b u Y' q => hgw b q) ho hex hd g1 nd1 m1 hb1 fit1 hz1 ris1 hled ?_
      intro h' sb r
      dsimp only
      exact wpAny_pure (fin h' sb r)
end
end
end AL

set_option Elab.async false
set_option linter.all false
set_option maxRecDepth 100000
set_option maxHeartbeats 4000000
/-! set(a list) -/
namespace AL
open PySem PySem.Spec L2 PyProof.Rows
section
variable {P : Program} {w : World} {α : Type} [DecidableEq α] {c : KS P w α} {A : Around} {E : Value → Shared → Prop} {s : Shared}
def setNew (w : World) : Obj := { cls := .type "set", dict := none, data := .set #[] 0 (.fresh 0 0 (!w.params.followText "set-order")) }
theorem KS.new {h : Heap} {a : Addr} (ho : h.get? a = some (setNew w)) : c.At h a [] :=
  ⟨_, #[], 0, _, ho, ⟨rfl, rfl, rfl⟩, rfl, (fun e he => nomatch he), List.nodup_nil, (fun k => ⟨fun z => (nomatch z), fun z => (nomatch z)⟩), (by decide), rfl, Nat.le_refl _, List.Pairwise.nil, by
    show _ ∨ (!w.params.followText "set-order") = true
    cases w.params.followText "set-order"
    · exact .inr rfl
    · exact .inl rfl⟩
theorem KS.loop {I : Addr} {fp wr : List Addr} {G : Array GenState → Array GenState → Prop} {n : Nat} {Pv : Nat → Value → Prop} {St : Nat → Shared → Prop} {Y : Result → Shared → Prop}
    (W : WalksS P w A.in1 I fp wr G n Pv St) (S : Addr) (hSf : S ∉ fp) (ks U : List α) (hU : ∀ j ∈ ks, j ∈ U) (hn : n = ks.length) (hb : U.length + 1 < scanBound) (hval : ∀ i v, Pv i v → ∃ k t, ks[i]? = some k ∧ v = c.val k t) :
    ∀ (d i : Nat) (s : Shared), n - i = d → i ≤ n → St i s → c.At s.heap S (ks.take i) → (∀ s', Moved (S :: wr) G s s' → c.At s'.heap S ks → Y (.ok (.ret .none)) s') →
      codeAny (model P w) A (.builtin "set.update.loop" ⟨[.ref S, .ref I], []⟩) Y s := by
  have hSw : S ∉ wr := fun h => hSf (W.sub _ h)
  have up : ∀ b ∈ wr, b ∈ S :: wr := fun b hb => List.mem_cons_of_mem _ hb
  intro d
  induction d with
  | zero =>
    intro i s hd hi hst hS hY
    have hin : i = n := by omega
    subst hin
    refine codeAny_builtin F.entry_set_update_loop ?_
    rw [Around.under_plainId F.plain_set_update_loop _]
    refine (show wpAny (model P w) A.in1 (pyNext (.ref I) >>= _) _ _ s from ?_)
    refine wpAny_bind (W.done s _ _ hst fun s' hm => (show wpAny (model P w) A.in1 (ret Value.none) _ _ s' from ?_))
    rw [List.take_of_length_le (by omega)] at hS
    exact wpAny_pure (hY s' (hm.mono up) (hS.keep fun o e => hm.heap S o hSw e))
  | succ d ih =>
    intro i s hd hi hst hS hY
    have hlt : i < n := by omega
    refine codeAny_builtin F.entry_set_update_loop ?_
    rw [Around.under_plainId F.plain_set_update_loop _]
    refine (show wpAny (model P w) A.in1 (pyNext (.ref I) >>= _) _ _ s from ?_)
    refine wpAny_bind (W.item i s _ _ hlt hst fun v s' hP hst' hm => ?_)
    obtain ⟨z, t, hz, rfl⟩ := hval i v hP
    have hS' : c.At s'.heap S (ks.take i) := hS.keep fun o e => hm.heap S o hSw e
    refine (show wpAny (model P w) A.in1 (holding [c.val z t] (setAdd S (c.val z t)) >>= _) _ _ s' from ?_)
    refine wpAny_bind (wpAny_holding ?_)
    unfold setAdd
    refine wpAny_holding (wpAny_bind (c.knd.pyHash (k := z) (c.is z t) ?_))
    refine KS.add (s := { s' with toks := s'.toks + 1 }) hS' (fun j hj => hU j (List.mem_of_mem_take hj)) hb fun b h' hsb hS2 => ?_
    have e3 : ks.take i ++ [z] = ks.take (i + 1) := by rw [List.take_add_one, hz]; rfl
    rw [e3] at hS2
    refine wpAny_pure ⟨plainId_quiet F.plain_set_update_loop _, ih (i + 1) _ (by omega) hlt (W.frame _ s' _ _ hst' (Nat.le_succ _) fun b hb o e => ?_) hS2 fun s2 hm2 hS3 => ?_⟩
    · rw [hsb.2 b (fun q : b = S => hSf (by rw [← q]; exact hb))]; exact e
    · refine hY s2 (Moved.trans W.gtrans ((hm.mono up).then_heap (Nat.le_succ _) fun b o hb e => ?_) hm2) hS3
      rw [hsb.2 b (fun q : b = S => hb (by rw [q]; exact List.mem_cons_self))]; exact e

set_option maxRecDepth 100000 in
set_option maxHeartbeats 3200000 in
theorem KS.make {l : Addr} {items : Array Value} (ks U : List α) (hU : ∀ j ∈ ks, j ∈ U) {Y : Value → Shared → Prop} (hh : A.handled = none) (hl : s.heap.IsList l items) (hit : ∀ (i : Nat) v, items[i]? = some v → ∃ k t, ks[i]? = some k ∧ v = c.val k t) (hsz : items.size = ks.length) (hb : U.length + 1 < scanBound)
    (h : ∀ (h' : Heap) (tk : Nat), c.At h' s.heap.objs.size ks → (∀ b o, s.heap.get? b = some o → h'.get? b = some o) → Y (.ref s.heap.objs.size) { s with heap := h', toks := tk }) :
    wpAny (model P w) A (call (.type "set") [.ref l]) Y E s := by
  obtain ⟨c0, tl, hmro⟩ := F.called_set.mro
  have hmade := F.called_set.made
  have hsub := F.called_set.sub
  refine wpAny_call (codeAny_of_tree (show wpAny (model P w) _ (callAny (.type "set") _) _ _ _ from ?_))
  refine wpAny_pure ⟨Code.quiet_builtin _ (by decide +kernel), codeAny_builtin F.entry_type_call ?_⟩
  rw [Around.under_plain (weight_type_call_type "set" [.ref l] []) rfl]
  have h1 := F.called_set.notType
  have h2 := F.called_set.canCreate
  have hct := F.typeCall_set_1 (.ref l)
  repeat (any_goals (first | assumption | wp_step))
  refine codeAny_mono (code_set_led1 (.ref l) (E := E) (Q₁ := fun obj u => obj = .ref s.heap.objs.size ∧ u = { s with heap := s.heap.push (setNew w) }) ⟨rfl, rfl⟩) fun r u hr => ?_
  cases r with
  | error e => exact hr
  | ok fl =>
    cases fl with
    | ret obj =>
      obtain ⟨rfl, rfl⟩ := hr
      have hS : (s.heap.push (setNew w)).get? s.heap.objs.size = some (setNew w) := Heap.get?_push_size _ rfl
      have hT : Shared.TypeIs { s with heap := s.heap.push (setNew w) } (.ref s.heap.objs.size) "set" := ⟨_, hS, rfl⟩
      have hli := F.called_set.init.lookup
      have hbi := F.called_set.init.bind (.ref s.heap.objs.size)
      repeat (any_goals (first | assumption | wp_step))
      refine codeAny_mono (codeAny_call_builtin (R := wants (fun r u => r = .none ∧ ∃ h' tk, u = { s with heap := h', toks := tk } ∧ c.At h' s.heap.objs.size ks ∧
          (∀ b o, s.heap.get? b = some o → h'.get? b = some o)) E) F.called_set.init.plain F.entry_set_init (check_set_init_1 hT ?_)) fun r₂ u₂ hr₂ => ?_
      · obtain ⟨ol, hol, hcl, nl, hdl⟩ := hl
        obtain ⟨ocls, odict, odata, oslots⟩ := ol
        simp only at hcl hdl
        subst hcl; subst hdl
        have hol' : (s.heap.push (setNew w)).get? l = some { cls := .type "list", dict := odict, data := .seq items nl, slots := oslots } := Heap.get?_push_of_some _ hol
        have hsls := F.sub_list_set
        have hslf := F.sub_list_frozenset
        have hne : (Value.type "list" == Value.type "dict") = false := by decide
        have hl1 : (s.heap.push (setNew w)).IsList l items := ⟨_, hol', rfl, nl, rfl⟩
        unfold Builtin.«set.__init__» noKeywords Builtin.Frozenset.updateFrom
        generalize hPI : pyIter = PI
        wp_walk
        subst hPI
        refine wpAny_pyIter_list hl1 (wpAny_bind (wpAny_runValue ?_))
        have hlS : l < s.heap.objs.size := Heap.lt_size hol
        have hh3 : A.in1.in1.in1.handled = none := by simp [hh]
        have hneI : l ≠ (s.heap.push (setNew w)).objs.size := by
          rw [Heap.size_push]; exact Nat.ne_of_lt (Nat.lt_succ_of_lt hlS)
        have hSf : s.heap.objs.size ∉ [(s.heap.push (setNew w)).objs.size, l] := by
          rw [Heap.size_push]; simp only [List.mem_cons, List.mem_singleton, List.not_mem_nil, or_false, not_or]
          exact ⟨Nat.ne_of_lt (Nat.lt_succ_self _), Nat.ne_of_gt hlS⟩
        refine KS.loop ((Walks.list hh3 _ l hneI items).toS) s.heap.objs.size hSf ks U hU hsz hb hit (items.size - 0) 0 _ (by omega) (Nat.zero_le _)
          ⟨⟨_, Heap.get?_push_size _ rfl, rfl, rfl⟩, (hl1.push _)⟩ ?hS0 ?hR
        case hS0 => exact KS.new (Heap.get?_push_of_some _ hS)
        case hR =>
          intro s' hm hS'
          obtain ⟨h', g2, d', tk', os'⟩ := s'
          have eg : g2 = s.gens := hm.gens
          have ed : d' = s.drawn := hm.drawn
          have eo : os' = s.os := hm.os
          subst eg; subst ed; subst eo
          refine (show wpAny (model P w) _ _ _ _ _ from wpAny_pure (show wpAny (model P w) _ (ret Value.none) _ _ _ from ?_))
          refine wpAny_pure ⟨rfl, h', tk', rfl, hS', fun b o e => ?_⟩
          have lt0 : b < s.heap.objs.size := Heap.lt_size e
          have ne1 : b ≠ s.heap.objs.size := Nat.ne_of_lt lt0
          have ne2 : b ≠ (s.heap.push (setNew w)).objs.size := by
            rw [Heap.size_push]; exact Nat.ne_of_lt (Nat.lt_succ_of_lt lt0)
          exact hm.heap b o (by simp only [List.mem_cons, List.mem_singleton, List.not_mem_nil, or_false, not_or]; exact ⟨ne1, ne2⟩) (Heap.get?_push_of_some _ (Heap.get?_push_of_some _ e))
      · cases r₂ with
        | error e => exact hr₂
        | ok fl₂ =>
          cases fl₂ with
          | ret r =>
            obtain ⟨rfl, h', tk, rfl, hS', hk'⟩ := hr₂
            repeat (any_goals (first | assumption | wp_step))
            exact h _ _ hS' hk'
          | _ => exact hr₂.elim
    | _ => exact hr.elim
theorem strs_ats : ∀ {us : List Value} {ns : List Str}, StrsAre us ns → ∀ {i : Nat} {v : Value}, us[i]? = some v → ∃ k t, ns[i]? = some k ∧ v = Value.str k t
  | _, _, .nil, i, v, h => by simp at h
  | _, _, .cons k t r, 0, v, h => ⟨k, t, rfl, (Option.some.inj h).symm⟩
  | _, _, .cons k t r, i + 1, v, h => strs_ats r (i := i) h
theorem ints_ats : ∀ {us : List Value} {ns : List Int}, IntsAre us ns → ∀ {i : Nat} {v : Value}, us[i]? = some v → ∃ k t, ns[i]? = some k ∧ v = Value.int k t
  | _, _, .nil, i, v, h => by simp at h
  | _, _, .cons k t r, 0, v, h => ⟨k, t, rfl, (Option.some.inj h).symm⟩
  | _, _, .cons k t r, i + 1, v, h => ints_ats r (i := i) h
/-- sorted(a set of texts) -/
theorem strs_of : ∀ (l : List Value), (∀ v ∈ l, ∃ k tk, v = Value.str k tk) → StrsAre l (l.map (ksS P w).kf)
  | [], _ => .nil
  | v :: l, h => by
    obtain ⟨k, tk, rfl⟩ := h v List.mem_cons_self
    exact .cons k tk (strs_of l fun u hu => h u (List.mem_cons_of_mem _ hu))
theorem sorted_setS {ks : List Str} {a : Addr} {Y : Value → Shared → Prop} (R : (ksS P w).At s.heap a ks) (hh : A.handled = none) (h64 : ks.length < 64)
    (hY : ∀ s' p (out : Array Value) (n : Nat) (ys : List Str), (∀ b o, s.heap.get? b = some o → s'.heap.get? b = some o) → s'.gens = s.gens → s'.os = s.os → s.heap.objs.size ≤ p →
      s'.heap.get? p = some (seqObj "list" out n) → StrsAre out.toList ys → sortedS ys = true → ys.Nodup → (∀ k, k ∈ ys ↔ k ∈ ks) → ys.length ≤ ks.length → Y (.ref p) s') :
    wpAny (model P w) A (call (.builtin "sorted") [.ref a]) Y E s := by
  obtain ⟨o, es, ep, t, ho, hex, hd, g, nd, hm, hb, hf, hn, hr, hl⟩ := R
  refine Calls.call_function_entry kind_sorted plain_sorted entry_sorted (args_sorted1 _) ?_
  unfold Builtin.«sorted»
  refine wpAny_bind (m := checkCount "sorted" 1 1 _) (wpAny_pure (wpAny_bind (collect_set (A := A.in1) hh ⟨o, ho, hex.1, hd⟩ hf hb hr hl fun s1 vs k1 hz g1 o1 pm => ?_)))
  have vlen : vs.length = es.size := by rw [pm.length_eq, List.length_map, Array.length_toList]
  have hS : StrsAre vs (vs.map (ksS P w).kf) := strs_of vs fun v hv => by
    obtain ⟨e, he, q⟩ := List.mem_map.mp (pm.mem_iff.mp hv)
    obtain ⟨k, tk, h1, _⟩ := g e he
    exact ⟨k, tk, by rw [← q]; exact h1⟩
  have pk : (vs.map (ksS P w).kf).Perm (es.toList.map (ksS P w).key) := by
    have q := pm.map (ksS P w).kf
    rw [List.map_map] at q
    exact q
  refine wpAny_bind (wpAny_newList ?_ (by rw [vlen, sizeLine_eq]; omega))
  have atL : (s1.heap.push (seqObj "list" vs.toArray 0)).get? s1.heap.objs.size = some (seqObj "list" vs.toArray 0) := Heap.get?_push_size _ rfl
  refine wpAny_bind (wpAny_holding (wpAny_call_entry slot_list_sort ⟨_, atL, rfl⟩ entry_list_sort
    (list_sort_treeK strKind_oneLt atL hS.keysOf (fun v₁ v₂ rest e => keyKind_strs (by rw [← e]; exact hS)) (by omega) fun st' a1 a2 => ⟨_, rfl, ?_⟩) (args_list_sort _)))
  obtain ⟨ys, b1, b2, b3⟩ := sorted_out_str hS a1 a2
  obtain ⟨n, hc⟩ := sortedHeap_at (vs := vs) (out := (arrOf st').map (·.2)) atL
  have pn : ys.Perm (es.toList.map (ksS P w).key) := b2.trans pk
  refine wpAny_pure ⟨_, rfl, hY _ s1.heap.objs.size _ n ys (fun b u e => ?_) g1 o1 hz hc b1 b3 (pn.nodup_iff.mpr nd) (fun k => by rw [pn.mem_iff, ← hm k]) ?_⟩
  · have q := k1 b u e
    have lt := Heap.lt_size q
    refine (show (sortedHeap (s1.heap.push (seqObj "list" vs.toArray 0)) s1.heap.objs.size vs _).get? b = some u from ?_)
    rw [sortedHeap_old (Nat.ne_of_lt lt) (by rw [size_push']; exact Nat.lt_succ_of_lt lt)]
    exact Heap.get?_push_of_some _ q
  · rw [pn.length_eq, List.length_map, Array.length_toList]; exact hn
theorem KS.toR {ks : List Int} {h : Heap} {a : Addr} (R : (ksI P w).At h a ks) : ∃ n, n ≤ ks.length ∧ (∀ U : List Int, (∀ j ∈ ks, j ∈ U) → n ≤ U.length) ∧ SetR w h a (fun k => decide (k ∈ ks)) n := by
  obtain ⟨o, es, ep, t, ho, hex, hd, g, nd, hm, hb, hf, hn, hr, hl⟩ := R
  refine ⟨es.size, hn, fun U hU => ?_, o, es, ep, t, ho, hex, hd, fun e he => ?_, ?_, fun k => ?_, hb, hf, rfl, hr, hl⟩
  · have z := nodup_le nd fun j hj => hU j ((hm j).2 hj)
    rw [List.length_map, Array.length_toList] at z
    exact z
  · obtain ⟨k, tk, h1, h2⟩ := g e he
    exact ⟨k, tk, h1, h2⟩
  · exact nd
  · rw [decide_eq_true_iff]
    exact hm k
end
section
variable {X : Cx}
/-- sorted(set(xs)), fewer than 64 texts or ints -/
def tSortSet (K : Frg) (ta : TE) : TE := fun σ H Q => ta σ H fun x H1 =>
  (∃ (l : Addr) (xs : List Str), x = .ref l ∧ SqL K H1 l (xs.map V.str) ∧ xs.length < 64 ∧ ∀ (ys : List Str) (p : Addr), sortedS ys = true → ys.Nodup → (∀ y, y ∈ ys ↔ y ∈ xs) → ys.length ≤ xs.length → H1 p = none → Q (.ref p) (upd H1 p (.lst (ys.map V.str)))) ∨
  (∃ (l : Addr) (xs U : List Int), x = .ref l ∧ SqL K H1 l (xs.map V.int) ∧ (∀ j ∈ xs, j ∈ U) ∧ U.length < 64 ∧ ∀ (ys : List Int) (p : Addr), ys.Pairwise (· < ·) → (∀ y, y ∈ ys ↔ y ∈ xs) → ys.length ≤ U.length → H1 p = none → Q (.ref p) (upd H1 p (.lst (ys.map V.int))))
theorem pe_sortSet {a : Expr} {ta : TE} {p p2 q pos : Pos} (hc : X.calm = true) (hg : Gl X "sorted") (hm : X.mg "sorted" = none) (hg2 : Gl X "set") (hm2 : X.mg "set" = none) (ha : PE X a ta)
    (na : starEach [a] X.env = (false, eval a X.env) :: starEach [] X.env := by rfl) : PE X (.Call (.Name "sorted" p) [.Call (.Name "set" p2) [a] [] q] [] pos) (tSortSet X.K ta) := by
  refine ⟨fun pins s σ H Q I h => Call_ (ld_blt I hg hm boot_sorted (PyProof.Rows.callWith_builtin1 (PyProof.Rows.args_cons ?_ rfl) rfl rfl))⟩
  refine Call_ (ld_blt I hg2 hm2 boot_set (PyProof.Rows.callWith_type1 (PyProof.Rows.args_cons (thn (ha.run pins s σ H _ I h) fun v s1 ⟨x, H1, I1, r1, q1⟩ => PyProof.Rows.args_nil ?_) na) na rfl))
  have fin : ∀ (h' : Heap) (tk : Nat), (∀ b o, s1.heap.get? b = some o → h'.get? b = some o) → Inv X pins σ H1 { s1 with heap := h', toks := tk } := fun h' tk hk => I1.kept fun b o e => hk b o e
  have hend : ∀ (u : Shared) (J0 : Inv X pins σ H1 u) (s' : Shared) (pp : Addr) (out : Array Value) (n : Nat) (vs : List V), (∀ b o, u.heap.get? b = some o → s'.heap.get? b = some o) → s'.gens = u.gens → s'.os = u.os → u.heap.objs.size ≤ pp →
      s'.heap.get? pp = some (seqObj "list" out n) → Vals vs out.toList → vs.length < 64 → (H1 pp = none → Q (.ref pp) (upd H1 pp (.lst vs))) → EP X pins σ Q (.ref pp) s' := by
    intro u J0 s' pp out n vs k g o hp hat hv h64 hq
    have hlen : vs.length ≤ sizeLine := by rw [sizeLine_eq]; omega
    have hn : H1 pp = none := J0.hok.fresh hp
    have J : Inv X pins σ (upd H1 pp (.lst vs)) { u with heap := s'.heap, gens := s'.gens, drawn := s'.drawn, toks := s'.toks } :=
      J0.call (ch := []) (Un.laid k hp hn) (J0.hok.laid k hp ⟨hlen, out.toList, n, hv, hat⟩) (by rw [g]; exact J0.bare) (fun _ z => nomatch z)
    have e : s' = { u with heap := s'.heap, gens := s'.gens, drawn := s'.drawn, toks := s'.toks } := by
      cases s'
      cases u
      cases o
      rfl
    rw [e]
    exact ⟨.ref pp, _, J, rfl, hq hn⟩
  rcases q1 with ⟨l, xs, rfl, hq, h64, q1⟩ | ⟨l, xs, U, rfl, hq, hU, h64, q1⟩
  · cases r1
    obtain ⟨its, rv, pl, hz⟩ := I1.list hq
    have hS := rv.strs
    have hlen := rv.length
    rw [List.length_map] at hlen
    refine KS.make (c := ksS X.prog X.w) xs xs (fun _ h => h) (I1.ok.hd hc) pl.isList (fun i v hv => ?_) (by rw [List.size_toArray]; exact hlen.symm) (by unfold scanBound; omega) fun h' tk hR hk => ?_
    · exact strs_ats hS (by simpa using hv)
    · refine PyProof.Rows.args_nil ?_
      refine sorted_setS (P := X.prog) (w := X.w) (s := { s1 with heap := h', toks := tk }) hR (I1.ok.hd hc) h64 fun s' pp out n ys k g o hp hat hs h1 h2 h3 h4 => ?_
      exact hend _ (fin h' tk hk) s' pp out n _ k g o hp hat (vals_of_strs hs) (by rw [List.length_map]; omega) fun hn => q1 ys pp h1 h2 h3 h4 hn
  · cases r1
    obtain ⟨its, rv, pl, hz⟩ := I1.list hq
    have hS := ints_of_vals rv
    have hlen := rv.length
    rw [List.length_map] at hlen
    refine KS.make (c := ksI X.prog X.w) xs U hU (I1.ok.hd hc) pl.isList (fun i v hv => ?_) (by rw [List.size_toArray]; exact hlen.symm) (by unfold scanBound; omega) fun h' tk hR hk => ?_
    · exact ints_ats hS (by simpa using hv)
    · refine PyProof.Rows.args_nil ?_
      obtain ⟨m, hm, hmU, hR⟩ := KS.toR hR
      have hmU := hmU U hU
      refine sorted_set (s := { s1 with heap := h', toks := tk }) hR (I1.ok.hd hc) (by omega) fun s' pp out n ys k g o hp hat hi hs hmm hl => ?_
      exact hend _ (fin h' tk hk) s' pp out n _ k g o hp hat (vals_of_ints hi) (by rw [List.length_map]; omega) fun hn => q1 ys pp hs (fun y => by rw [hmm y, decide_eq_true_iff]) (by omega) hn
end
end AL

set_option Elab.async false
set_option linter.all false
set_option maxRecDepth 100000
set_option maxHeartbeats 4000000
/-! sorted(set(..)), min of a list, dict of a list of pairs: the abstract rules -/
namespace AL
open PySem L2 PyProof.Rows
section
variable {Γ : Cg} {K : Frg} {F : Hp} {ms : Ms} {S : Sg} {Q : QE} {ta : TE}
theorem pe_sortSetk {X : Cx} {a : Expr} {ta : TE} {p p2 q pos : Pos} (h : X.K = K) (hc : X.calm = true) (hg : Gl X "sorted") (hm : X.mg "sorted" = none) (hg2 : Gl X "set") (hm2 : X.mg "set" = none) (ha : PE X a ta)
    (na : starEach [a] X.env = (false, eval a X.env) :: starEach [] X.env := by rfl) : PE X (.Call (.Name "sorted" p) [.Call (.Name "set" p2) [a] [] q] [] pos) (tSortSet K ta) := h ▸ pe_sortSet hc hg hm hg2 hm2 ha na
theorem ae_sortSetS (h : AE Γ ta F ms S fun F1 ms1 x => ∃ xs : List Str, LstA F1 ms1 x (xs.map D.str) ∧ xs.length < 64 ∧ ∀ F2 (ys : List Str), Ex F1 F2 → sortedS ys = true → ys.Nodup → (∀ y, y ∈ ys ↔ y ∈ xs) → ys.length ≤ xs.length → Q F2 ms1 (.lst (ys.map D.str))) :
    AE Γ (tSortSet Γ.K ta) F ms S Q := fun R σ H Qc hs hh x k =>
  h R σ H _ hs hh x fun F1 ms1 d v H1 e1 h1 r1 ⟨xs, hl, h64, q⟩ => by
    obtain ⟨a, us, rfl, ha, rr⟩ := hl.to h1 r1
    have e := rep_strs rr
    subst e
    refine .inl ⟨a, xs, rfl, ha, h64, fun ys p y1 y2 y3 y4 hp => ?_⟩
    obtain ⟨e2, h2⟩ := h1.laid (.lst (ys.map V.str)) hp
    refine k _ ms1 (.lst _) _ _ (e1.trans e2) h2 (.lst upd_same (rep_strl ys)) (q _ ys e2 y1 y2 y3 y4)
theorem rep_intl' : ∀ ns : List Int, RepL K F (ns.map D.int) (ns.map V.int)
  | [] => .nil
  | n :: ns => .cons (.int n) (rep_intl' ns)
theorem ae_sortSetI (h : AE Γ ta F ms S fun F1 ms1 x => ∃ xs : List Int, LstA F1 ms1 x (xs.map D.int) ∧ xs.length < 64 ∧ ∀ F2 (ys : List Int), Ex F1 F2 → ys.Pairwise (· < ·) → (∀ y, y ∈ ys ↔ y ∈ xs) → ys.length ≤ xs.length → Q F2 ms1 (.lst (ys.map D.int))) :
    AE Γ (tSortSet Γ.K ta) F ms S Q := fun R σ H Qc hs hh x k =>
  h R σ H _ hs hh x fun F1 ms1 d v H1 e1 h1 r1 ⟨xs, hl, h64, q⟩ => by
    obtain ⟨a, us, rfl, ha, rr⟩ := hl.to h1 r1
    have e := rep_ints rr
    subst e
    refine .inr ⟨a, xs, xs, rfl, ha, fun _ h => h, h64, fun ys p y1 y2 y3 hp => ?_⟩
    obtain ⟨e2, h2⟩ := h1.laid (.lst (ys.map V.int)) hp
    refine k _ ms1 (.lst _) _ _ (e1.trans e2) h2 (.lst upd_same (rep_intl' ys)) (q _ ys e2 y1 y2 y3)
theorem ae_sortSetU (h : AE Γ ta F ms S fun F1 ms1 x => ∃ xs U : List Int, LstA F1 ms1 x (xs.map D.int) ∧ (∀ j ∈ xs, j ∈ U) ∧ U.length < 64 ∧ ∀ F2 (ys : List Int), Ex F1 F2 → ys.Pairwise (· < ·) → (∀ y, y ∈ ys ↔ y ∈ xs) → ys.length ≤ U.length → Q F2 ms1 (.lst (ys.map D.int))) :
    AE Γ (tSortSet Γ.K ta) F ms S Q := fun R σ H Qc hs hh x k =>
  h R σ H _ hs hh x fun F1 ms1 d v H1 e1 h1 r1 ⟨xs, U, hl, hU, h64, q⟩ => by
    obtain ⟨a, us, rfl, ha, rr⟩ := hl.to h1 r1
    have e := rep_ints rr
    subst e
    refine .inr ⟨a, xs, U, rfl, ha, hU, h64, fun ys p y1 y2 y3 hp => ?_⟩
    obtain ⟨e2, h2⟩ := h1.laid (.lst (ys.map V.int)) hp
    refine k _ ms1 (.lst _) _ _ (e1.trans e2) h2 (.lst upd_same (rep_intl' ys)) (q _ ys e2 y1 y2 y3)
theorem kMINL {X : Cx} (h : X.K = K) (hc : X.calm = true) : CallR X (.builtin "min") (rMin K) := h ▸ cr_min hc
theorem ac_minL {d : D} {ns : List Int} (hl : LstA F ms d (ns.map D.int)) (h0 : 0 < ns.length) (q : ∀ m, m ∈ ns → (∀ y, y ∈ ns → m ≤ y) → Q F ms (.int m)) : AC K (rMin K) [d] F ms Q := ac1 fun R v H Qc hv hh k => by
  obtain ⟨a, us, rfl, ha, rr⟩ := hl.to hh hv
  have e := rep_ints rr
  subst e
  exact ⟨a, ns, rfl, ha, h0, fun m h1 h2 => k F ms _ _ H Ex.refl hh (.int m) (q m h1 h2)⟩
def rDICT (K : Frg) : List V → Hp → VK → Prop := fun xs H Q => ∃ (a : Addr) (ps : List Addr) (kvs : List (Key × V)), xs = [.ref a] ∧ SqL K H a (ps.map V.ref) ∧ Paired (fun p kv => SqT K H p [kV kv.1, kv.2]) ps kvs ∧ ∀ p, H p = none → Q (.ref p) (upd H p (.dK (mergeK [] kvs)))
theorem kDICT {X : Cx} (h : X.K = K) (hc : X.calm = true) : CallR X (.type "dict") (rDICT K) := h ▸ call_dictP hc
def mergeKD (kvs more : List (Key × D)) : List (Key × D) := more.foldl (fun acc kv => putKD acc kv.1 kv.2) kvs
theorem RepK.merge : ∀ {more : List (Key × D)} {mv : List (Key × V)} {ds : List (Key × D)} {vs : List (Key × V)}, RepK K F more mv → RepK K F ds vs → RepK K F (mergeKD ds more) (mergeK vs mv)
  | _, _, _, _, .nil, q => q
  | _, _, _, _, .cons h r, q => by
    unfold mergeKD mergeK
    rw [List.foldl_cons, List.foldl_cons]
    exact RepK.merge r (q.put h _)
theorem kd_inv {H : Hp} : ∀ {kvs : List (Key × D)} {vs : List V}, Ex F H → RepL K F (kvs.map fun p => D.tup [kD p.1, p.2]) vs → ∃ (ps : List Addr) (kv : List (Key × V)), vs = ps.map V.ref ∧ Paired (fun p kv => SqT K H p [kV kv.1, kv.2]) ps kv ∧ RepK K F kvs kv
  | [], _, e, .nil => ⟨[], [], rfl, .nil, .nil⟩
  | (k, d) :: kvs, _, e, .cons h r => by
    obtain ⟨ps, kv, e1, e2, e3⟩ := kd_inv e r
    cases h with
    | @tup a xs _ hq rr =>
      cases rr with
      | cons h1 rr =>
        cases rr with
        | @cons _ v _ _ h2 rr =>
          cases rr
          have hk : ∀ {u : V}, Rep K F (kD k) u → u = kV k := by
            intro u hu
            cases k with
            | inl i => cases hu; rfl
            | inr s => cases hu; rfl
          have hk := hk h1
          subst hk
          exact ⟨a :: ps, (k, v) :: kv, by rw [e1]; rfl, .cons (ex_t e hq) e2, .cons h2 e3⟩
theorem ac_dictP {d : D} {kvs : List (Key × D)} (hl : LstA F ms d (kvs.map fun p => D.tup [kD p.1, p.2])) (q : ∀ l, Q F ((l, .dic (mergeKD [] kvs)) :: ms) (.ref l)) : AC K (rDICT K) [d] F ms Q := ac1 fun R v H Qc hv hh k => by
  obtain ⟨a, us, rfl, ha, rr⟩ := hl.to hh hv
  obtain ⟨ps, kv, e1, e2, e3⟩ := kd_inv hh.ex rr
  subst e1
  refine ⟨a, ps, kv, rfl, ha, e2, fun p hp => ?_⟩
  exact k F ((p, .dic (mergeKD [] kvs)) :: ms) (.ref p) _ _ Ex.refl (hh.made (m := .dic (mergeKD [] kvs)) hp ⟨_, upd_same, RepK.merge e3 .nil⟩) (.ref p) (q p)
theorem merge_new : ∀ (kvs acc : List (Key × D)), ((acc ++ kvs).map (·.1)).Nodup → mergeKD acc kvs = acc ++ kvs
  | [], acc, _ => by rw [List.append_nil]; rfl
  | p :: kvs, acc, h => by
    have hn : acc.any (fun kv => decide (kv.1 = p.1)) = false := by
      rw [List.any_eq_false]
      intro x hx hxp
      have hxp := of_decide_eq_true hxp
      rw [List.map_append] at h
      exact (List.nodup_append.mp h).2.2 x.1 (List.mem_map_of_mem hx) p.1 (by rw [List.map_cons]; exact List.mem_cons_self ..) hxp
    have e : putKD acc p.1 p.2 = acc ++ [p] := by unfold putKD; rw [hn]; rfl
    show mergeKD (putKD acc p.1 p.2) kvs = _
    rw [e, merge_new kvs (acc ++ [p]) (by rw [List.append_assoc]; exact h), List.append_assoc]
    rfl
end
end AL

set_option Elab.async false
set_option linter.all false
set_option maxRecDepth 100000
set_option maxHeartbeats 4000000
/-! comprehensions whose test and value change nothing -/
namespace AL
open PySem L2 PyProof.Rows
section
variable {Γ : Cg} {F : Hp} {ms : Ms} {S : Sg} {Q : QE} {wi : TI} {tt : TT} {te tx : TE} {ta : TA} {v : Nat} {vs : List Nat}
theorem AI.mono {P P' : Hp → Ms → List D → (Ms → Prop) → Prop} (h : AI Γ wi F ms S P) (m : ∀ F1 ms1 ds G, Ex F F1 → P F1 ms1 ds G → P' F1 ms1 ds G) : AI Γ wi F ms S P' := fun R σ H Rc hs hh x k =>
  h R σ H Rc hs hh x fun F1 ms1 ds G J H1 e a b q => k F1 ms1 ds G J H1 e a b (m _ _ _ _ e q)
theorem AA.mono {P P' : Hp → Ms → List D → Prop} (h : AA Γ ta F ms S P) (m : ∀ F' ms' ds, Ex F F' → P F' ms' ds → P' F' ms' ds) : AA Γ ta F ms S P' := fun R σ H Qc hs hh x k =>
  h R σ H Qc hs hh x fun F' ms' ds vs H' e ho hr q => k F' ms' ds vs H' e ho hr (m F' ms' ds e q)
/-- a test and a value that change nothing -/
def Pure (Γ : Cg) (tt : TT) (te : TE) (F : Hp) (ms : Ms) (S : Sg) (b : Bool) (y : D) : Prop := AT Γ.nox tt F ms S fun F3 ms3 b' => ms3 = ms ∧ b' = b ∧ (b = true → AE Γ.nox te F3 ms3 S fun F4 ms4 y' => ms4 = ms ∧ y' = y)
theorem lc_core {α : Type} {xs : List α} {e : α → D} {p : α → Bool} {f : α → D} (hv : v ∈ vs)
    (h : AI Γ wi F ms S fun F1 ms1 ds G => ds = xs.map e ∧ xs.length ≤ 90000 ∧ (∀ m, G m) ∧ (∀ (i : Nat) (x : α), xs[i]? = some x → ∀ F2, Ex F1 F2 → Pure Γ tt te F2 ms1 ((wipeS S vs).set v (some (e x))) (p x) (f x)) ∧ ∀ F2, Ex F1 F2 → Q F2 ms1 (.lst ((xs.filter p).map f))) :
    AE Γ (tLc wi (gName v) tt te vs) F ms S Q := by
  refine ae_lc (gw_name hv) gm_name (h.mono fun F1 ms1 ds G e1 ⟨hd, hlen, hG, hb, q⟩ => ?_)
  subst hd
  refine ⟨fun n F' ms' acc => ms' = ms1 ∧ acc = ((xs.take n).filter p).map f, ⟨rfl, rfl⟩, fun _ _ _ _ _ _ => hG _, ?_, ?_⟩
  · rintro n d F2 ms2 acc e2 hd ⟨rfl, rfl⟩ F3 e3
    obtain ⟨x, hx, rfl⟩ : ∃ x, xs[n]? = some x ∧ d = e x := by
      rw [List.getElem?_map] at hd
      cases hq : xs[n]? with
      | none => rw [hq] at hd; cases hd
      | some x => rw [hq] at hd; exact ⟨x, rfl, (Option.some.inj hd).symm⟩
    have hl : (((xs.take n).filter p).map f).length < 100000 := by
      rw [List.length_map]
      have := List.length_filter_le p (xs.take n)
      rw [List.length_take] at this
      omega
    have hs : ((xs.take (n + 1)).filter p).map f = ((xs.take n).filter p).map f ++ if p x = true then [f x] else [] := by
      rw [List.take_succ, hx, List.filter_append, List.map_append]
      congr 1
      show ([x].filter p).map f = _
      rw [List.filter_cons, List.filter_nil]
      cases p x <;> rfl
    refine ag_name ?_
    refine AT.mono (hb n x hx F3 (e2.trans e3)) fun F4 ms4 b e4 ⟨h1, h2, h3⟩ => ?_
    subst h1
    subst h2
    refine ⟨fun hp => (h3 hp).mono fun F5 ms5 y e5 ⟨a, c⟩ => ?_, fun hp => ⟨rfl, ?_⟩⟩
    · subst a
      subst c
      refine ⟨hl, rfl, ?_⟩
      rw [hs, if_pos hp]
    · rw [hs, if_neg (by rw [hp]; decide), List.append_nil]
  · rintro F2 ms2 acc e2 ⟨rfl, rfl⟩ F3 e3
    rw [List.length_map, List.take_length]
    exact q F3 (e2.trans e3)
theorem lc_list {α : Type} {xs : List α} {e : α → D} {p : α → Bool} {f : α → D} (hv : v ∈ vs)
    (h : AE Γ tx F ms S fun F1 ms1 x => x = .lst (xs.map e) ∧ xs.length ≤ 90000 ∧ (∀ (i : Nat) (x : α), xs[i]? = some x → ∀ F2, Ex F1 F2 → Pure Γ tt te F2 ms1 ((wipeS S vs).set v (some (e x))) (p x) (f x)) ∧ ∀ F2, Ex F1 F2 → Q F2 ms1 (.lst ((xs.filter p).map f))) :
    AE Γ (tLc (iList Γ.K tx) (gName v) tt te vs) F ms S Q := by
  refine lc_core (xs := xs) (e := e) (p := p) (f := f) hv (ai_list (h.mono fun F1 ms1 x e1 ⟨hx, h1, h2, h3⟩ => .inl ⟨_, .inl hx, rfl, h1, fun _ => trivial, h2, h3⟩))
theorem lc_tup {α : Type} {xs : List α} {e : α → D} {p : α → Bool} {f : α → D} (hv : v ∈ vs)
    (h : AE Γ tx F ms S fun F1 ms1 x => x = .tup (xs.map e) ∧ xs.length ≤ 90000 ∧ (∀ (i : Nat) (x : α), xs[i]? = some x → ∀ F2, Ex F1 F2 → Pure Γ tt te F2 ms1 ((wipeS S vs).set v (some (e x))) (p x) (f x)) ∧ ∀ F2, Ex F1 F2 → Q F2 ms1 (.lst ((xs.filter p).map f))) :
    AE Γ (tLc (iTup Γ.K tx) (gName v) tt te vs) F ms S Q := by
  refine lc_core (xs := xs) (e := e) (p := p) (f := f) hv (ai_tup (h.mono fun F1 ms1 x e1 ⟨hx, h1, h2, h3⟩ => ⟨_, hx, rfl, h1, fun _ => trivial, h2, h3⟩))
theorem lc_str {p : Nat → Bool} {f : Nat → D} (hv : v ∈ vs)
    (h : AE Γ tx F ms S fun F1 ms1 x => ∃ z : Str, x = .str z ∧ z.length ≤ 90000 ∧ (∀ (i : Nat) (c : Nat), z.cps.toList[i]? = some c → ∀ F2, Ex F1 F2 → Pure Γ tt te F2 ms1 ((wipeS S vs).set v (some (.str (sg c)))) (p c) (f c)) ∧ ∀ F2, Ex F1 F2 → Q F2 ms1 (.lst ((z.cps.toList.filter p).map f))) :
    AE Γ (tLc (iStr tx) (gName v) tt te vs) F ms S Q := by
  refine ae_lc (gw_name hv) gm_name (ai_str (h.mono fun F1 ms1 x e1 ⟨z, hx, h1, h2, h3⟩ => ⟨z, hx, ?_⟩))
  refine ⟨fun n F' ms' acc => ms' = ms1 ∧ acc = ((z.cps.toList.take n).filter p).map f, ⟨rfl, rfl⟩, fun _ _ _ _ _ _ => trivial, ?_, ?_⟩
  · rintro n d F2 ms2 acc e2 hd ⟨rfl, rfl⟩ F3 e3
    obtain ⟨c, hx, rfl⟩ : ∃ c, z.cps.toList[n]? = some c ∧ d = .str (sg c) := by
      unfold charsD at hd
      rw [List.getElem?_map] at hd
      cases hq : z.cps.toList[n]? with
      | none => rw [hq] at hd; cases hd
      | some x => rw [hq] at hd; exact ⟨x, rfl, (Option.some.inj hd).symm⟩
    have hz : z.cps.toList.length = z.length := Array.length_toList
    have hl : (((z.cps.toList.take n).filter p).map f).length < 100000 := by
      rw [List.length_map]
      have := List.length_filter_le p (z.cps.toList.take n)
      rw [List.length_take] at this
      omega
    have hs : ((z.cps.toList.take (n + 1)).filter p).map f = ((z.cps.toList.take n).filter p).map f ++ if p c = true then [f c] else [] := by
      rw [List.take_succ, hx, List.filter_append, List.map_append]
      congr 1
      show ([c].filter p).map f = _
      rw [List.filter_cons, List.filter_nil]
      cases p c <;> rfl
    refine ag_name ?_
    refine AT.mono (h2 n c hx F3 (e2.trans e3)) fun F4 ms4 b e4 ⟨q1, q2, q3⟩ => ?_
    subst q1
    subst q2
    refine ⟨fun hp => (q3 hp).mono fun F5 ms5 y e5 ⟨a, c⟩ => ?_, fun hp => ⟨rfl, ?_⟩⟩
    · subst a
      subst c
      refine ⟨hl, rfl, ?_⟩
      rw [hs, if_pos hp]
    · rw [hs, if_neg (by rw [hp]; decide), List.append_nil]
  · rintro F2 ms2 acc e2 ⟨rfl, rfl⟩ F3 e3
    have hz : (charsD z).length = z.cps.toList.length := by unfold charsD; rw [List.length_map]
    rw [hz, List.take_length]
    exact h3 F3 (e2.trans e3)
theorem lc_rng {p : Nat → Bool} {f : Nat → D} (hv : v ∈ vs)
    (h : AA Γ ta F ms S fun F1 ms1 ds => ∃ n : Nat, ds = [.int (n : Int)] ∧ n ≤ 90000 ∧ (∀ i, i < n → ∀ F2, Ex F1 F2 → Pure Γ tt te F2 ms1 ((wipeS S vs).set v (some (.int (i : Int)))) (p i) (f i)) ∧ ∀ F2, Ex F1 F2 → Q F2 ms1 (.lst (((List.range n).filter p).map f))) :
    AE Γ (tLc (iRng1 ta) (gName v) tt te vs) F ms S Q := by
  refine ae_lc (gw_name hv) gm_name (ai_rng1 (AA.mono h fun F1 ms1 x e1 ⟨n, hx, h1, h2, h3⟩ => ⟨n, hx, by omega, by omega, ?_⟩))
  refine ⟨fun k F' ms' acc => ms' = ms1 ∧ acc = ((List.range k).filter p).map f, ⟨rfl, rfl⟩, fun _ _ _ _ _ _ => trivial, ?_, ?_⟩
  · rintro k d F2 ms2 acc e2 hd ⟨rfl, rfl⟩ F3 e3
    have hk := (List.getElem?_eq_some_iff.mp hd).1
    rw [rangeD_len] at hk
    rw [rangeD_get hk] at hd
    cases hd
    have hk : k < n := by omega
    rw [Int.zero_add]
    have hl : (((List.range k).filter p).map f).length < 100000 := by
      rw [List.length_map]
      have := List.length_filter_le p (List.range k)
      rw [List.length_range] at this
      omega
    have hs : ((List.range (k + 1)).filter p).map f = ((List.range k).filter p).map f ++ if p k = true then [f k] else [] := by
      rw [List.range_succ, List.filter_append, List.map_append]
      congr 1
      rw [List.filter_cons, List.filter_nil]
      cases p k <;> rfl
    refine ag_name ?_
    refine AT.mono (h2 k hk F3 (e2.trans e3)) fun F4 ms4 b e4 ⟨q1, q2, q3⟩ => ?_
    subst q1
    subst q2
    refine ⟨fun hp => (q3 hp).mono fun F5 ms5 y e5 ⟨a, c⟩ => ?_, fun hp => ⟨rfl, ?_⟩⟩
    · subst a
      subst c
      refine ⟨hl, rfl, ?_⟩
      rw [hs, if_pos hp]
    · rw [hs, if_neg (by rw [hp]; decide), List.append_nil]
  · rintro F2 ms2 acc e2 ⟨rfl, rfl⟩ F3 e3
    rw [rangeD_len, show ((n : Int)).toNat = n from Int.toNat_natCast n]
    exact h3 F3 (e2.trans e3)
end
end AL

set_option Elab.async false
set_option linter.all false
set_option maxRecDepth 100000
set_option maxHeartbeats 4000000
/-! min of a list of pairs of ints -/
namespace AL
open PySem PySem.Spec PyProof.Rows L2
abbrev I2 := Int × Int
def lt2 (a b : I2) : Bool := if a.1 = b.1 then decide (a.2 < b.2) else decide (a.1 < b.1)
def py2 (c : I2) : PyData := .tuple [.int c.1, .int c.2]
def d2 (c : I2) : D := .tup [.int c.1, .int c.2]
theorem lt2_iff (a b : I2) : lt2 a b = true ↔ a.1 < b.1 ∨ (a.1 = b.1 ∧ a.2 < b.2) := by
  unfold lt2
  split
  · rw [decide_eq_true_iff]; omega
  · rw [decide_eq_true_iff]; omega
theorem lt2_data (a b : I2) : PySem.W.dataLt (py2 a) (py2 b) = lt2 a b := by
  rw [Bool.eq_iff_iff, lt2_iff]
  unfold py2
  rw [PySem.W.dataLt_ii, decide_eq_true_iff]
theorem min2 : ∀ (cs : List I2) (c : I2), ∃ m, PySem.W.minD (py2 c) (cs.map py2) = py2 m ∧ m ∈ c :: cs ∧ ∀ y ∈ c :: cs, lt2 y m = false
  | [], c => ⟨c, rfl, List.mem_cons_self .., fun y hy => by
    rw [List.mem_singleton.mp hy]
    cases e : lt2 c c with
    | false => rfl
    | true => have := (lt2_iff c c).mp e; omega⟩
  | b :: cs, c => by
    have tr : ∀ {x y z : I2}, lt2 x y = false → lt2 y z = false → lt2 x z = false := fun {x y z} h1 h2 => by
      cases e : lt2 x z with
      | false => rfl
      | true =>
        have e := (lt2_iff x z).mp e
        have h1 : ¬ (lt2 x y = true) := by rw [h1]; decide
        have h2 : ¬ (lt2 y z = true) := by rw [h2]; decide
        rw [lt2_iff] at h1 h2
        omega
    have e : PySem.W.minD (py2 c) ((b :: cs).map py2) = PySem.W.minD (py2 (if lt2 b c = true then b else c)) (cs.map py2) := by
      unfold PySem.W.minD
      rw [List.map_cons, List.foldl_cons, lt2_data]
      cases lt2 b c <;> rfl
    obtain ⟨m, h1, h2, h3⟩ := min2 cs (if lt2 b c = true then b else c)
    refine ⟨m, e.trans h1, ?_, ?_⟩
    · rcases List.mem_cons.mp h2 with h | h
      · rw [h]
        split
        · exact List.mem_cons_of_mem _ (List.mem_cons_self ..)
        · exact List.mem_cons_self ..
      · exact List.mem_cons_of_mem _ (List.mem_cons_of_mem _ h)
    · have h0 := h3 _ (List.mem_cons_self ..)
      intro y hy
      cases q : lt2 b c with
      | true =>
        rw [q, if_pos rfl] at h0
        rcases List.mem_cons.mp hy with rfl | hy
        · refine tr ?_ h0
          cases z : lt2 y b with
          | false => rfl
          | true =>
            have a1 := (lt2_iff _ _).mp z
            have a2 := (lt2_iff _ _).mp q
            omega
        · rcases List.mem_cons.mp hy with rfl | hy
          · exact h0
          · exact h3 y (List.mem_cons_of_mem _ hy)
      | false =>
        rw [q, if_neg (by decide)] at h0
        rcases List.mem_cons.mp hy with rfl | hy
        · exact h0
        · rcases List.mem_cons.mp hy with rfl | hy
          · exact tr q h0
          · exact h3 y (List.mem_cons_of_mem _ hy)
theorem reads_two {h : Heap} {L : List Value} {a b : Int} {as : List Addr} (r : ReadsAll h L [.int a, .int b] as) : ∃ t u, L = [.int a t, .int b u] := by
  cases r with
  | cons p1 p2 =>
    cases p1
    cases p2 with
    | cons p3 p4 =>
      cases p3
      cases p4
      exact ⟨_, _, rfl⟩
theorem reads_fun {h : Heap} {v : Value} {a b : I2} {as bs : List Addr} (r1 : Reads h v (py2 a) as) (r2 : Reads h v (py2 b) bs) : a = b := by
  unfold py2 at r1 r2
  cases r1 with
  | tuple h1 h2 h3 h4 =>
    cases r2 with
    | tuple k1 k2 k3 k4 =>
      rw [h1] at k1
      cases k1
      rw [h3] at k3
      injection k3 with k3 _
      subst k3
      obtain ⟨t, u, e1⟩ := reads_two h4
      obtain ⟨t', u', e2⟩ := reads_two k4
      rw [e1] at e2
      injection e2 with e3 e2
      injection e2 with e4 _
      injection e3 with e3 _
      injection e4 with e4 _
      exact Prod.ext e3 e4
/-- min of a list of pairs of ints -/
def rMin2 (K : Frg) : List V → Hp → VK → Prop := fun vs H Q => ∃ (a : Addr) (xs : List V) (cs : List I2), vs = [.ref a] ∧ SqL K H a xs ∧ DpAll K H xs (cs.map py2) ∧ cs ≠ [] ∧ cs.length ≤ 100000 ∧
  ∀ (i : Nat) v m, xs[i]? = some v → cs[i]? = some m → (∀ y ∈ cs, lt2 y m = false) → Q v H
section
variable {X : Cx} {K : Frg}
theorem cr_min2 (hc : X.calm = true) (hu : X.A.units + 64 < cLine) : CallR X (.builtin "min") (rMin2 X.K) := by
  intro pins s σ H vs us Q I r h
  obtain ⟨a, xs, cs, rfl, hs, hd, hne, hlen, q⟩ := h
  obtain ⟨its, rv, hl, _⟩ := I.list hs
  rw [Vals.ref1 r]
  obtain ⟨as, hR⟩ := Dp.readsAll I _ _ _ hd rv
  cases cs with
  | nil => exact absurd rfl hne
  | cons c cs =>
    have hal : PySem.W.AlikeAll (py2 c :: cs.map py2) := by
      constructor
      · intro x hx y hy
        have mem : ∀ z ∈ py2 c :: cs.map py2, ∃ w, z = py2 w := fun z hz => by
          rcases List.mem_cons.mp hz with h | h
          · exact ⟨c, h⟩
          · obtain ⟨w, _, e⟩ := List.mem_map.mp h
            exact ⟨w, e.symm⟩
        obtain ⟨p, rfl⟩ := mem x hx
        obtain ⟨r, rfl⟩ := mem y hy
        simp [py2, PySem.W.alike, PySem.W.alikeAll]
      · intro x hx e
        have mem : ∃ w, x = py2 w := by
          rcases List.mem_cons.mp hx with h | h
          · exact ⟨c, h⟩
          · obtain ⟨w, _, e⟩ := List.mem_map.mp h
            exact ⟨w, e.symm⟩
        obtain ⟨p, rfl⟩ := mem
        cases e
    have hdep : PyData.depthAll (py2 c :: cs.map py2) ≤ 2 := by
      have gen : ∀ l : List I2, PyData.depthAll (l.map py2) ≤ 2 := by
        intro l
        induction l with
        | nil => simp [PyData.depthAll]
        | cons a l ih =>
          rw [List.map_cons]
          simp only [PyData.depthAll, py2, PyData.depth] at ih ⊢
          omega
      exact gen (c :: cs)
    refine PySem.W.min_list_data (x := py2 c) (xs := cs.map py2) (as := as) (I.ok.hd hc) hl.isList (by simpa using hR) hal (by omega) fun i v h' tk bs hv hread hk => ?_
    have hR' : ReadsAll s.heap its.toArray.toList (py2 c :: cs.map py2) as := by simpa using hR
    obtain ⟨bs2, hr2, hi, _, _⟩ := PySem.W.readsAll_atA hR' i v hv
    obtain ⟨m, m1, m2, m3⟩ := min2 cs c
    have hci : ∃ w, (c :: cs)[i]? = some w ∧ (py2 c :: cs.map py2).getD i .none = py2 w := by
      have hi' : i < (c :: cs).length := by simpa using hi
      refine ⟨(c :: cs)[i], List.getElem?_eq_getElem hi', ?_⟩
      rw [show py2 c :: cs.map py2 = (c :: cs).map py2 from rfl, List.getD_eq_getElem?_getD, List.getElem?_map, List.getElem?_eq_getElem hi']
      rfl
    obtain ⟨w, hw1, hw2⟩ := hci
    rw [hw2] at hr2
    rw [m1] at hread
    have e := reads_fun (PySem.W.reads_keeps hk hr2) hread
    subst e
    obtain ⟨xv, hx1, hx2⟩ : ∃ xv, xs[i]? = some xv ∧ RelV xv v := by
      have hv' : its[i]? = some v := by simpa using hv
      cases e : xs[i]? with
      | none => rw [rv.none_of e] at hv'; cases hv'
      | some x =>
        obtain ⟨u, hu1, hu2⟩ := rv.get e
        rw [hv'] at hu1
        cases hu1
        exact ⟨x, rfl, hu2⟩
    exact ⟨xv, H, I.kept hk, hx2, q i xv w hx1 hw1 m3⟩
theorem kMIN2 (h : X.K = K) (hc : X.calm = true) (hu : X.A.units + 64 < cLine) : CallR X (.builtin "min") (rMin2 K) := h ▸ cr_min2 hc hu
end
theorem py2_map : ∀ cs : List I2, toPyL (cs.map d2) = cs.map py2
  | [] => rfl
  | c :: cs => by
    show toPy (d2 c) :: toPyL (cs.map d2) = py2 c :: cs.map py2
    rw [py2_map cs]
    rfl
theorem ok2_map : ∀ cs : List I2, okL (cs.map d2) = true
  | [] => rfl
  | c :: cs => by
    show (okD (d2 c) && okL (cs.map d2)) = true
    rw [ok2_map cs]
    rfl
theorem ac_min2 {K : Frg} {F : Hp} {ms : Ms} {Q : QE} {d : D} {cs : List I2} (hl : LstA F ms d (cs.map d2)) (h0 : cs ≠ []) (hz : cs.length ≤ 100000) (q : ∀ m, m ∈ cs → (∀ y ∈ cs, lt2 y m = false) → Q F ms (d2 m)) : AC K (rMin2 K) [d] F ms Q := ac1 fun R v H Qc hv hh k => by
  obtain ⟨a, us, rfl, ha, rr⟩ := hl.to hh hv
  have hd := dpL_of hh.ex (ok2_map cs) rr
  rw [py2_map] at hd
  refine ⟨a, us, cs, rfl, ha, hd, h0, hz, fun i u m hu hm hmin => ?_⟩
  obtain ⟨e, he, hr⟩ := rr.get hu
  rw [List.getElem?_map, hm] at he
  cases he
  exact k F ms (d2 m) u H Ex.refl hh hr (q m (List.mem_of_getElem? hm) hmin)
end AL

set_option Elab.async false
set_option linter.all false
set_option maxRecDepth 100000
set_option maxHeartbeats 4000000
/-! comprehensions within comprehensions -/
namespace AL
open PySem PySem.Spec PyProof.Rows L2
def blkB (N : List Str) (sc scope : Scope) (own : List (Str × Nat)) : Bool :=
  decide (scope.kind = .function) && decide (∀ y ∈ scope.names, scope.names.lookup y.1 = some y.2) && decide (∀ p ∈ own, N[p.2]? = some p.1) &&
  decide (∀ y ∈ scope.names, y.2 = .free → sc.names.lookup y.1 = some .cell ∨ sc.names.lookup y.1 = some .free) && decide (∀ y ∈ scope.names, y.2 = .local ∨ y.2 = .cell → y.1 ∈ own.map (·.1) ∨ y.1 ∉ N)
theorem blkOk_of {N : List Str} {sc scope : Scope} {own : List (Str × Nat)} (h : blkB N sc scope own = true) : BlkOk N sc scope own := by
  unfold blkB at h
  rw [Bool.and_eq_true, Bool.and_eq_true, Bool.and_eq_true, Bool.and_eq_true] at h
  obtain ⟨⟨⟨⟨h1, h2⟩, h3⟩, h4⟩, h5⟩ := h
  exact ⟨of_decide_eq_true h1, of_decide_eq_true h2, of_decide_eq_true h3, of_decide_eq_true h4, of_decide_eq_true h5⟩
end AL

set_option Elab.async false
set_option linter.all false
set_option maxRecDepth 100000
set_option maxHeartbeats 4000000
/-! for loops in the body of a generator -/
namespace PySem
section
variable {M : Model} {A : Around} {R : GenEnd} {Y : Protocol} {n : Nat} {s₀ : Shared} {c : Code} {fs : List Frame} {s : Shared} {env : Env}
  {K : Flow → Sem Fin} {H : Value → Sem Fin} {gd : Bool → Bool} {lv : List Value → List Value}
theorem seg_For {target iter : Expr} {body orelse : List Stmt} {pos : Pos} (hs : ∀ x, foldedSetIterable iter env x = pure x)
    (h : wpAny M (A.over c fs) (eval iter env) (fun x s1 => wpAny M (A.over c fs) (pyIter x) (fun itv s2 => ∀ p, Seg M A R Y n s₀ (.forLoop target itv body orelse env) (M.den (.forLoop target itv body orelse env))
      (.ret (fun r => ((match r with | .ok f => (.pure f : Sem Flow) | .error e => .raise e).onRaise fun (x : Value) => do
        if (← field x 1) == Value.none then unsupported "frame.own-activation:exception-without-traceback"
        setFlight x env.frame).wrap K H gd lv) none (gd false) (lv []) c p [] :: fs) s2) (fun x s' => Seg M A R Y n s₀ c (H x) fs s') s1) (fun x s' => Seg M A R Y n s₀ c (H x) fs s') s) :
    Seg M A R Y n s₀ c ((exec (.For target iter body orelse pos) env).wrap K H gd lv) fs s := by
  rw [exec_For]
  refine seg_at ?_
  show Seg M A R Y n s₀ c ((eval iter env >>= fun v => foldedSetIterable iter env v >>= fun x => standAt iter.pos >>= fun _ => holding [x] (pyIter x) >>= fun it => runOwn (.forLoop target it body orelse env) env).wrap K H gd lv) fs s
  rw [Sem.bind_eq_wrap', Sem.wrap_wrap]
  refine seg_wrap (wpAny_mono h (fun v s1 h1 => ?_) fun _ _ z => z)
  show Seg M A R Y n s₀ c ((foldedSetIterable iter env v >>= fun x => standAt iter.pos >>= fun _ => holding [x] (pyIter x) >>= fun it => runOwn (.forLoop target it body orelse env) env).wrap K H gd lv) fs s1
  rw [hs v]
  show Seg M A R Y n s₀ c (.at iter.pos fun _ => (holding [v] (pyIter v) >>= fun it => runOwn (.forLoop target it body orelse env) env).wrap K H gd lv) fs s1
  refine seg_at ?_
  rw [Sem.bind_eq_wrap', Sem.wrap_wrap]
  refine seg_wrap (wpAny_holding (wpAny_mono h1 (fun it s2 h2 => ?_) fun _ _ z => z))
  exact seg_call h2
end
section
variable {prog : Program} {w : World} {A : Around} {R : GenEnd} {Y : Protocol} {n : Nat} {s₀ : Shared} {fs : List Frame} {s : Shared} {env : Env}
abbrev segBack (env : Env) (x : Value) : Sem Fin := (do noteFrame x env; theTreesLotGoes x : Sem Unit).wrap (fun _ => .raise x) .raise id id
theorem seg_forLoop {target : Expr} {it : Value} {body orelse : List Stmt}
    (h : wpAny (model prog w) (A.over (.forLoop target it body orelse env) fs) (pyNext it) (fun r s1 => match r with
        | none => Seg (model prog w) A R Y n s₀ (.forLoop target it body orelse env) (.pure (.again (.block orelse env))) fs s1
        | some v => wpAny (model prog w) (A.over (.forLoop target it body orelse env) fs) (letOwnedTupleGo target it v) (fun _ s2 =>
            wpAny (model prog w) (A.over (.forLoop target it body orelse env) fs) (assign target env v) (fun _ s3 =>
              Seg (model prog w) A R Y n s₀ (.forLoop target it body orelse env) ((execs body env).wrap (fun f => match f with
                | .next | .cont => .pure (.again (.forLoop target it body orelse env))
                | .brk => .pure (.done .next)
                | .ret v => .pure (.done (.ret v))) (segBack env) id id) fs s3)
              (fun x s' => Seg (model prog w) A R Y n s₀ (.forLoop target it body orelse env) (segBack env x) fs s') s2)
            (fun x s' => Seg (model prog w) A R Y n s₀ (.forLoop target it body orelse env) (segBack env x) fs s') s1)
      (fun x s' => Seg (model prog w) A R Y n s₀ (.forLoop target it body orelse env) (segBack env x) fs s') s) :
    Seg (model prog w) A R Y n s₀ (.forLoop target it body orelse env) ((model prog w).den (.forLoop target it body orelse env)) fs s := by
  have back : ∀ (x : Value), (((do noteFrame x env; theTreesLotGoes x : Sem Unit) >>= fun _ => (.raise x : Sem Fin))) = segBack env x := fun x => Sem.bind_eq_wrap _ _
  show Seg _ A R Y n s₀ _ ((forTurn target it body orelse env).onRaise (fun x => do noteFrame x env; theTreesLotGoes x)) fs s
  unfold forTurn
  rw [Sem.onRaise_eq_wrap]
  refine seg_at ?_
  show Seg _ A R Y n s₀ _ (((pyNext it).onRaise (fun _ => standAt { target.pos with line := 0 }) >>= _).wrap _ _ _ _) fs s
  rw [Sem.bind_eq_wrap', Sem.wrap_wrap]
  refine seg_wrap (wpAny_onRaise (wpAny_mono h (fun r s1 h1 => ?_) fun x s' hx => wpAny_standAt ?_))
  · cases r with
    | none => exact h1
    | some v =>
      show Seg _ A R Y n s₀ _ ((letOwnedTupleGo target it v >>= fun _ => assign target env v >>= fun _ => execs body env >>= _).wrap _ _ _ _) fs s1
      rw [Sem.bind_eq_wrap', Sem.wrap_wrap]
      refine seg_wrap (wpAny_mono h1 (fun _ s2 h2 => ?_) fun x s' hx => ?_)
      · show Seg _ A R Y n s₀ _ ((assign target env v >>= fun _ => execs body env >>= _).wrap _ _ _ _) fs s2
        rw [Sem.bind_eq_wrap', Sem.wrap_wrap]
        refine seg_wrap (wpAny_mono h2 (fun _ s3 h3 => ?_) fun x s' hx => ?_)
        · show Seg _ A R Y n s₀ _ ((execs body env >>= _).wrap _ _ _ _) fs s3
          rw [Sem.bind_eq_wrap', Sem.wrap_wrap]
          rw [Sem.wrap_congr (execs body env) _ _ (K' := fun f => match f with
            | .next | .cont => .pure (.again (.forLoop target it body orelse env))
            | .brk => .pure (.done .next)
            | .ret v => .pure (.done (.ret v))) (H' := segBack env)
            (fun f => by cases f <;> rfl) (fun e => by exact back e)]
          exact h3
        · rw [← back x] at hx
          exact hx
      · rw [← back x] at hx
        exact hx
  · rw [← back x] at hx
    exact hx
end
end PySem

set_option Elab.async false
set_option linter.all false
set_option maxRecDepth 100000
set_option maxHeartbeats 4000000
/-! for loops in the body of a generator: the invariant's level -/
namespace L2
open PySem PySem.Spec PyProof.Rows GenW
section
variable {X : Cx}
def tGFor (wi : TI) (g : TG) (tb : TGn) : TGn := fun D ys σ H => wi σ H fun J H1 => ∃ W : Nat → Nat → List V → St → Hp → Prop, (∃ m, W 0 m ys σ H1) ∧ ∀ i m ys σ H, W i m ys σ H →
  (J.stop i H ∧ D.nx ys σ H) ∨ (J.go i H ∧ ∃ N : List V → St → Hp → Prop, (∀ ys' σ' H', N ys' σ' H' → ∃ m', m' < m ∧ W (i + 1) m' ys' σ' H') ∧ ∀ x H', J.yld i H x H' → g x σ H' fun σ2 H2 => tb { D with nx := N, ct := N, bk := D.nx } ys σ2 H2)
theorem gs_for {tg iter : Expr} {body : List Stmt} {wi : TI} {g : TG} {tb : TGn} {pos : Pos} (hp : PassesOwn (model X.prog X.w) X.A X.env X.xe) (hc : X.calm = true) (hi : PI X tg iter wi) (hg : PG X tg g) (hb : GSs X body tb)
    (hs : ∀ x, foldedSetIterable iter X.env x = pure x := by intro _; rfl) : GS X (.For tg iter body [] pos) (tGFor wi g tb) := by
  refine ⟨fun A S ip R n ys s₀ c fs K J gd lv s σ H D G hn k hI ht => ?_⟩
  obtain ⟨acc, cc, r, I⟩ := hI
  refine seg_For hs ?_
  rw [G.over]
  refine wpAny_mono (hi.run _ s σ H _ I ht) (fun v s1 h1 => wpAny_mono h1 (fun itv s2 h2 p => ?_) fun x s' hx => k.exc n s₀ x s' hx) fun x s' hx => k.exc n s₀ x s' hx
  obtain ⟨it, fp, tn, Jt, H2, e, I2, T, st2, f2, W, ⟨m0, w0⟩, turn⟩ := h2
  subst e
  have gl := fun (kk : Result → Sem PySem.Fin) => gc_loop (k := kk) (c' := .forLoop tg (.ref it) body [] X.env) (l := lv []) (kp := []) (p := p) G rfl rfl
  have stat : ∀ {H' : Hp}, (∀ b ∈ fp, H' b = none) → ∀ b ∈ fp, ∀ (acc' : Array Value) (c' : Nat), FpOk X ((S, lstObj acc' c') :: ip) H' b := fun hn b hb acc' c' => by
    obtain ⟨_, q1, q2, q3, q4, q5⟩ := f2 b hb
    refine ⟨hn b hb, q1, q2, q3, q4, fun p hp => ?_⟩
    rcases List.mem_append.mp hp with hp | hp
    · exact q5 p (List.mem_append_left _ hp)
    · rcases List.mem_cons.mp hp with hp | hp
      · rw [hp]; exact q5 (S, lstObj acc cc) (List.mem_append_right _ List.mem_cons_self)
      · exact q5 p (List.mem_append_right _ (List.mem_cons_of_mem _ hp))
  have fpS : ∀ b ∈ fp, b ≠ S := fun b hb z => (f2 b hb).2.2.2.2.2 (S, lstObj acc cc) (List.mem_append_right _ List.mem_cons_self) z.symm
  have loop : ∀ (m i n : Nat) (ys : List V) (s₀ s : Shared) (σ : St) (H : Hp), n + ys.length = sizeLine → W i m ys σ H → GI X S ip ys σ H s → tn i s.heap → (∀ b ∈ fp, H b = none) →
      Seg (model X.prog X.w) A R (GY X S) n s₀ (.forLoop tg (.ref it) body [] X.env) ((model X.prog X.w).den (.forLoop tg (.ref it) body [] X.env))
        (.ret (fun r => ((match r with | .ok f => (.pure f : Sem Flow) | .error e => .raise e).onRaise (cameBack X.env)).wrap K J gd lv) none (gd false) (lv []) c p [] :: fs) s := by
    intro m
    induction m using Nat.strongRecOn with
    | ind m ih =>
      intro i n ys s₀ s3 σ3 H3 hn w3 hI st3 fr3
      have ee : ∀ (n : Nat) (s₀ : Shared) (x : Value) (s' : Shared), X.xe x s' → Seg (model X.prog X.w) A R (GY X S) n s₀ (.forLoop tg (.ref it) body [] X.env)
          (segBack X.env x)
          (.ret (fun r => ((match r with | .ok f => (.pure f : Sem Flow) | .error e => .raise e).onRaise (cameBack X.env)).wrap K J gd lv) none (gd false) (lv []) c p [] :: fs) s' := fun n s₀ x s' hx => by
        refine seg_wrap ?_
        rw [(gl _).over]
        refine wpAny_bind (wpAny_mono (hp x s' hx) (fun _ s'' hcb => wpAny_theTreesLotGoes ?_) fun y s'' hcb => ?_)
        · exact seg_leaf (.error x) (seg_cameBack G k hcb)
        · exact seg_leaf (.error y) (seg_cameBack G k hcb)
      obtain ⟨acc3, cc3, r3, I3⟩ := hI
      refine seg_forLoop ?_
      rw [(gl _).over]
      rcases turn i m ys σ3 H3 w3 with ⟨stop, qn⟩ | ⟨go, N, hN, step⟩
      · refine wpAny_mono (T.done X rfl rfl rfl hc i _ s3 σ3 H3 X.xe I3 (fun b hb => stat fr3 b hb acc3 cc3) st3 stop) (fun r s4 ⟨hr, I4⟩ => ?_) fun x s' hx => ee n s₀ x s' hx
        subst hr
        refine seg_again rfl ?_
        show Seg _ _ _ _ _ _ _ ((execs [] X.env >>= fun f => (.pure (.done f) : Sem PySem.Fin))) _ _
        rw [Sem.bind_eq_wrap']
        exact seg_execs_nil (seg_leaf (.ok .next) (k.ok n ys s₀ s4 .next hn ⟨σ3, H3, ⟨acc3, cc3, r3, I4⟩, qn⟩))
      · refine wpAny_mono (T.item X rfl rfl rfl hc i _ s3 σ3 H3 X.xe I3 (fun b hb => stat fr3 b hb acc3 cc3) st3 go) (fun r s4 ⟨u, hr, h4⟩ => ?_) fun x s' hx => ee n s₀ x s' hx
        subst hr
        refine wpAny_mono h4 (fun _ s5 ⟨x, H5, I5, r5, y5, st5, fr5⟩ => ?_) fun x s' hx => ee n s₀ x s' hx
        have I5' := I5.pinned (fun b hb => stat fr5 b hb acc3 cc3) (T.obj _ _ st5)
        refine wpAny_mono (hg.run _ s5 σ3 H5 x u _ I5' r5 (step x H5 y5)) (fun _ s6 ⟨σ6, H6, I6, q6⟩ => ?_) fun x s' hx => ee n s₀ x s' hx
        have gl2 : ∀ kk : Result → Sem PySem.Fin, GC X S (ip ++ pinsAt fp s5.heap) A (.forLoop tg (.ref it) body [] X.env) (.ret kk none (gd false) (lv []) c p [] :: fs) id := fun kk =>
          ⟨(gl kk).pn, fun q hq => (List.mem_append.mp hq).elim (fun hq => G.ip q hq) fun hq => fpS q.1 (of_pinsAt hq).1, (gl kk).apart, (gl kk).over, (gl kk).split, (gl kk).guard, (gl kk).gd⟩
        have drop : ∀ {ys' : List V} {σ' : L2.St} {H' : Hp} {s' : Shared}, GI X S (ip ++ pinsAt fp s5.heap) ys' σ' H' s' → GI X S ip ys' σ' H' s' := fun {ys' σ' H' s'} ⟨acc', cc', r', I'⟩ =>
          ⟨acc', cc', r', Inv.unpinned (pl := pinsAt fp s5.heap) (pins := (S, lstObj acc' cc') :: ip) I'⟩
        have again : ∀ {n' : Nat} {s₀' : Shared} {ys' : List V} {σ' : L2.St} {H' : Hp} {s' : Shared}, n' + ys'.length = sizeLine → GI X S (ip ++ pinsAt fp s5.heap) ys' σ' H' s' → N ys' σ' H' →
            Seg (model X.prog X.w) A R (GY X S) n' s₀' (.forLoop tg (.ref it) body [] X.env) ((model X.prog X.w).den (.forLoop tg (.ref it) body [] X.env))
              (.ret (fun r => ((match r with | .ok f => (.pure f : Sem Flow) | .error e => .raise e).onRaise (cameBack X.env)).wrap K J gd lv) none (gd false) (lv []) c p [] :: fs) s' := fun {n' s₀' ys' σ' H' s'} hn' hG n7 => by
          obtain ⟨m', hm, w7⟩ := hN ys' σ' H' n7
          have I7 := hG
          obtain ⟨acc7, cc7, r7, I7⟩ := I7
          have pn7 : ∀ b ∈ fp, ∀ o, s5.heap.get? b = some o → s'.heap.get? b = some o ∧ H' b = none := fun b hb o e =>
            have h := I7.pin (b, o) (List.mem_append_right _ (List.mem_cons_of_mem _ (List.mem_append_right _ (mem_pinsAt hb e))))
            ⟨h.1, h.2.1⟩
          refine ih m' hm (i + 1) n' ys' s₀' s' σ' H' hn' w7 (drop hG) (T.keep _ _ _ st5 fun b hb o e => (pn7 b hb o e).1) fun b hb => ?_
          obtain ⟨o, e, d⟩ := T.obj _ _ st5 b hb
          exact (pn7 b hb o e).2
        refine hb.run A S (ip ++ pinsAt fp s5.heap) R n ys s₀ _ _ _ _ id id s6 σ6 H6 { D with nx := N, ct := N, bk := D.nx } (gl2 _) hn ⟨fun n' ys' s₀' s7 f hn' hs => ?_, fun n' s₀' x s7 hx => ee n' s₀' x s7 hx⟩ ⟨acc3, cc3, r3, I6⟩ q6
        cases f with
        | next =>
          obtain ⟨σ7, H7, G7, n7⟩ := hs
          exact seg_again rfl (again hn' G7 n7)
        | cont =>
          obtain ⟨σ7, H7, G7, n7⟩ := hs
          exact seg_again rfl (again hn' G7 n7)
        | brk =>
          obtain ⟨σ7, H7, G7, q7⟩ := hs
          exact seg_leaf (.ok .next) (k.ok n' ys' s₀' s7 .next hn' ⟨σ7, H7, drop G7, q7⟩)
        | ret v =>
          obtain ⟨x7, σ7, H7, G7, rr, q7⟩ := hs
          exact seg_leaf (.ok (.ret v)) (k.ok n' ys' s₀' s7 (.ret v) hn' ⟨x7, σ7, H7, drop G7, rr, q7⟩)
  exact loop m0 0 n ys s₀ s2 σ H2 hn w0 ⟨acc, cc, r, I2⟩ st2 fun b hb => (f2 b hb).1
end
end L2

set_option Elab.async false
set_option linter.all false
set_option maxRecDepth 100000
set_option maxHeartbeats 4000000
/-! generator defs in terms of data -/
namespace L2
open PySem PySem.Spec PyProof.Rows GenW
section
variable {X : Cx}
theorem GI.wish {S : Addr} {ip : List (Addr × Obj)} {ys : List V} {σ : St} {H : Hp} {s : Shared} (E : Value → Shared → Prop) (h : GI X S ip ys σ H s) : GI (X.wish E) S ip ys σ H s := by
  obtain ⟨acc, c, r, I⟩ := h
  exact ⟨acc, c, r, I.wish E⟩
theorem GI.unwish {S : Addr} {ip : List (Addr × Obj)} {ys : List V} {σ : St} {H : Hp} {s : Shared} {E : Value → Shared → Prop} (h : GI (X.wish E) S ip ys σ H s) : GI X S ip ys σ H s := by
  obtain ⟨acc, c, r, I⟩ := h
  exact ⟨acc, c, r, I.unwish⟩
theorem GSP.unwish {S : Addr} {ip : List (Addr × Obj)} {D : GEnds} {ys : List V} {f : Flow} {s : Shared} {E : Value → Shared → Prop} (h : GSP (X.wish E) S ip D ys f s) : GSP X S ip D ys f s := by
  cases f with
  | next => obtain ⟨σ, H, I, q⟩ := h; exact ⟨σ, H, I.unwish, q⟩
  | brk => obtain ⟨σ, H, I, q⟩ := h; exact ⟨σ, H, I.unwish, q⟩
  | cont => obtain ⟨σ, H, I, q⟩ := h; exact ⟨σ, H, I.unwish, q⟩
  | ret u => obtain ⟨v, σ, H, I, q⟩ := h; exact ⟨v, σ, H, I.unwish, q⟩
theorem GSs.nox {st : List Stmt} {t : TGn} (h : GSs X.nox st t) : GSs X st t := by
  refine ⟨fun A S ip R n ys s₀ c fs K J gd lv s σ H D g hn k hI ht => ?_⟩
  have g' : GC X.nox S ip A c fs gd := ⟨g.pn, g.ip, g.apart, g.over, g.split, g.guard, g.gd⟩
  have to : ∀ (n : Nat) {s₀ : Shared} {c : Code} {t : Sem PySem.Fin} {fs : List Frame} {s : Shared}, Seg (model X.prog X.w) A R (GY X S) n s₀ c t fs s → Seg (model X.prog X.w) A R (GY X.nox S) n s₀ c t fs s := fun n {s₀ c t fs s} q =>
    seg_imp (fun _ _ _ _ z => z) (fun n s₀ v s kap kap' hk ⟨ys, x, ip, σ, H, h1, h2, h3, h4⟩ => ⟨ys, x, ip, σ, H, h1, h2, h3.wish _, fun s' z => hk _ _ (h4 s' z)⟩) n q
  have back : ∀ (n : Nat) {s₀ : Shared} {c : Code} {t : Sem PySem.Fin} {fs : List Frame} {s : Shared}, Seg (model X.prog X.w) A R (GY X.nox S) n s₀ c t fs s → Seg (model X.prog X.w) A R (GY X S) n s₀ c t fs s := fun n {s₀ c t fs s} q =>
    seg_imp (fun _ _ _ _ z => z) (fun n s₀ v s kap kap' hk ⟨ys, x, ip, σ, H, h1, h2, h3, h4⟩ => ⟨ys, x, ip, σ, H, h1, h2, GI.unwish h3, fun s' z => hk _ _ (h4 s' z)⟩) n q
  exact back n (h.run A S ip R n ys s₀ c fs K J gd lv s σ H D g' hn ⟨fun n ys s₀ s f hn hs => to n (k.ok n ys s₀ s f hn (GSP.unwish hs)), fun _ _ _ _ z => False.elim z⟩ (hI.wish _) ht)
/-! if -/
def tGIf (c : TT) (t u : TGn) : TGn := fun D ys σ H => c σ H fun b H1 => if b = true then t D ys σ H1 else u D ys σ H1
end
end L2
namespace AL
open PySem L2
structure AGEnds where
  nx : Hp → Ms → List D → Sg → Prop
  rt : Hp → Ms → List D → Prop := fun _ _ _ => False
  bk : Hp → Ms → List D → Sg → Prop := fun _ _ _ _ => False
  ct : Hp → Ms → List D → Sg → Prop := fun _ _ _ _ => False
structure GLe (Γ : Cg) (R : Ms) (F : Hp) (A : AGEnds) (E : GEnds) : Prop where
  xe : XLe Γ R F
  nx : ∀ F' ms' ys' S' vs' σ' H', Ex F F' → SRep Γ.K F' S' σ' → Hold Γ.K F' (ms' ++ R) H' → RepL Γ.K F' ys' vs' → A.nx F' ms' ys' S' → E.nx vs' σ' H'
  rt : ∀ F' ms' ys' vs' H', Ex F F' → Hold Γ.K F' (ms' ++ R) H' → RepL Γ.K F' ys' vs' → A.rt F' ms' ys' → E.rt vs' .non H'
  bk : ∀ F' ms' ys' S' vs' σ' H', Ex F F' → SRep Γ.K F' S' σ' → Hold Γ.K F' (ms' ++ R) H' → RepL Γ.K F' ys' vs' → A.bk F' ms' ys' S' → E.bk vs' σ' H'
  ct : ∀ F' ms' ys' S' vs' σ' H', Ex F F' → SRep Γ.K F' S' σ' → Hold Γ.K F' (ms' ++ R) H' → RepL Γ.K F' ys' vs' → A.ct F' ms' ys' S' → E.ct vs' σ' H'
def AY (Γ : Cg) (tg : TGn) (F : Hp) (ms : Ms) (ys : List D) (S : Sg) (A : AGEnds) : Prop := ∀ (R : Ms) (E : GEnds) σ H vs, SRep Γ.K F S σ → Hold Γ.K F (ms ++ R) H → RepL Γ.K F ys vs → GLe Γ R F A E → tg E vs σ H
theorem GLe.ex {Γ : Cg} {R : Ms} {F F' : Hp} {A : AGEnds} {E : GEnds} (l : GLe Γ R F A E) (e : Ex F F') : GLe Γ R F' A E :=
  ⟨l.xe.ex e, fun F'' ms' ys' S' vs' σ' H' x => l.nx F'' ms' ys' S' vs' σ' H' (e.trans x), fun F'' ms' ys' vs' H' x => l.rt F'' ms' ys' vs' H' (e.trans x), fun F'' ms' ys' S' vs' σ' H' x => l.bk F'' ms' ys' S' vs' σ' H' (e.trans x), fun F'' ms' ys' S' vs' σ' H' x => l.ct F'' ms' ys' S' vs' σ' H' (e.trans x)⟩
section
variable {Γ : Cg} {K : Frg} {F : Hp} {ms : Ms} {S : Sg} {ts : TS} {ta : TA} {te : TE} {tt : TT} {t u : TGn} {ys : List D} {A : AGEnds} {wi : TI} {g : TG}
theorem ay_plain (h : AS Γ ts F ms S { nx := fun F' ms' S' => A.nx F' ms' ys S', rt := fun F' ms' d => d = .non ∧ A.rt F' ms' ys, bk := fun F' ms' S' => A.bk F' ms' ys S', ct := fun F' ms' S' => A.ct F' ms' ys S' }) : AY Γ (tPlain ts) F ms ys S A := fun R E σ H vs hs hh hy l =>
  h R (E.at vs) σ H hs hh ⟨l.xe, fun F' ms' S' σ' H' e a b q => l.nx F' ms' ys S' vs σ' H' e a b (hy.mono e) q, fun F' ms' d v H' e b r ⟨q1, q2⟩ => by
    subst q1
    cases r
    exact l.rt F' ms' ys vs H' e b (hy.mono e) q2, fun F' ms' S' σ' H' e a b q => l.bk F' ms' ys S' vs σ' H' e a b (hy.mono e) q, fun F' ms' S' σ' H' e a b q => l.ct F' ms' ys S' vs σ' H' e a b (hy.mono e) q⟩
theorem ay_nil (q : A.nx F ms ys S) : AY Γ tG0 F ms ys S A := fun R E σ H vs hs hh hy l => l.nx F ms ys S vs σ H Ex.refl hs hh hy q
theorem ay_then (h : AY Γ t F ms ys S { A with nx := fun F' ms' ys' S' => AY Γ u F' ms' ys' S' A }) : AY Γ (tGThen t u) F ms ys S A := fun R E σ H vs hs hh hy l =>
  h R _ σ H vs hs hh hy ⟨l.xe, fun F' ms' ys' S' vs' σ' H' e a b r q => q R E σ' H' vs' a b r (l.ex e), l.rt, l.bk, l.ct⟩
theorem ay_yield (hl : ys.length < 100000) (h : AE Γ te F ms S fun F' ms' d => A.nx F' ms' (ys ++ [d]) S) : AY Γ (tGYield te) F ms ys S A := fun R E σ H vs hs hh hy l =>
  ⟨Evl.sz_lt (by rw [← hy.len]; exact hl), h R σ H _ hs hh l.xe fun F' ms' d v H' e a r q => l.nx F' ms' _ S _ σ H' e (hs.mono e) a ((hy.mono e).append (RepL.one r)) q⟩
theorem ay_if (h : AT Γ tt F ms S fun F' ms' b => (b = true → AY Γ t F' ms' ys S A) ∧ (b = false → AY Γ u F' ms' ys S A)) : AY Γ (tGIf tt t u) F ms ys S A := fun R E σ H vs hs hh hy l =>
  h R σ H _ hs hh l.xe fun F1 ms1 b H1 e1 h1 q1 => by
    cases b with
    | true => rw [if_pos rfl]; exact q1.1 rfl R E σ H1 vs (hs.mono e1) h1 (hy.mono e1) (l.ex e1)
    | false => rw [if_neg Bool.false_ne_true]; exact q1.2 rfl R E σ H1 vs (hs.mono e1) h1 (hy.mono e1) (l.ex e1)
theorem ay_for (h : AI Γ wi F ms S fun F1 ms1 ds G => ∃ I : Nat → Hp → Ms → List D → Sg → Prop, I 0 F1 ms1 ys S ∧ (∀ i F' ms' ys' S', Ex F1 F' → I i F' ms' ys' S' → G ms') ∧
    (∀ i d F' ms' ys' S', Ex F1 F' → ds[i]? = some d → I i F' ms' ys' S' → ∀ F'', Ex F' F'' → AG Γ g d F'' ms' S' fun F2 ms2 S2 => AY Γ t F2 ms2 ys' S2 { A with nx := I (i + 1), ct := I (i + 1), bk := A.nx }) ∧
    (∀ F' ms' ys' S', Ex F1 F' → I ds.length F' ms' ys' S' → A.nx F' ms' ys' S')) : AY Γ (tGFor wi g t) F ms ys S A := fun R E σ H vs hs hh hy l =>
  h R σ H _ hs hh l.xe fun F1 ms1 ds G J H1 e1 h1 it ⟨I, i0, iG, ib, ie⟩ => by
    refine ⟨fun i m vs' σ' H' => m = ds.length - i ∧ i ≤ ds.length ∧ ∃ F' ms' ys' S', Ex F1 F' ∧ SRep Γ.K F' S' σ' ∧ Hold Γ.K F' (ms' ++ R) H' ∧ RepL Γ.K F' ys' vs' ∧ I i F' ms' ys' S', ⟨_, rfl, Nat.zero_le _, F1, ms1, ys, S, Ex.refl, hs.mono e1, h1, hy.mono e1, i0⟩, ?_⟩
    rintro i m vs' σ' H' ⟨rfl, hi, F', ms', ys', S', e', hs', hh', hy', p⟩
    have hG := iG i F' ms' ys' S' e' p
    by_cases hlt : i < ds.length
    · refine .inr ⟨it.goes R i H' F' ms' hlt e' hh' hG, fun vs2 σ2 H2 => ∃ F2 ms2 ys2 S2, Ex F1 F2 ∧ SRep Γ.K F2 S2 σ2 ∧ Hold Γ.K F2 (ms2 ++ R) H2 ∧ RepL Γ.K F2 ys2 vs2 ∧ I (i + 1) F2 ms2 ys2 S2, fun vs2 σ2 H2 ⟨F2, ms2, ys2, S2, e2, a2, b2, r2, q2⟩ => ⟨ds.length - (i + 1), by omega, rfl, hlt, F2, ms2, ys2, S2, e2, a2, b2, r2, q2⟩, fun x H2 y => ?_⟩
      obtain ⟨F2, d, e2, hh2, hd, hr⟩ := it.yields R i H' x H2 F' ms' hlt e' hh' hG y
      refine ib i d F' ms' ys' S' e' hd p F2 e2 R x σ' H2 _ hr (hs'.mono e2) hh2 (l.xe.ex ((e1.trans e').trans e2)) fun F3 ms3 S3 σ3 H3 e3 a3 b3 q3 => ?_
      refine q3 R _ σ3 H3 vs' a3 b3 (hy'.mono (e2.trans e3)) ⟨l.xe.ex (((e1.trans e').trans e2).trans e3), fun F4 ms4 ys4 S4 vs4 σ4 H4 e4 a4 b4 r4 q4 => ⟨F4, ms4, ys4, S4, ((e'.trans e2).trans e3).trans e4, a4, b4, r4, q4⟩, fun F4 ms4 ys4 vs4 H4 e4 b4 r4 q4 => l.rt F4 ms4 ys4 vs4 H4 ((((e1.trans e').trans e2).trans e3).trans e4) b4 r4 q4,
        fun F4 ms4 ys4 S4 vs4 σ4 H4 e4 a4 b4 r4 q4 => l.nx F4 ms4 ys4 S4 vs4 σ4 H4 ((((e1.trans e').trans e2).trans e3).trans e4) a4 b4 r4 q4, fun F4 ms4 ys4 S4 vs4 σ4 H4 e4 a4 b4 r4 q4 => ⟨F4, ms4, ys4, S4, ((e'.trans e2).trans e3).trans e4, a4, b4, r4, q4⟩⟩
    · have ei : i = ds.length := by omega
      subst ei
      exact .inl ⟨it.stops R H' F' ms' e' hh' hG, l.nx F' ms' ys' S' vs' σ' H' (e1.trans e') hs' hh' hy' (ie F' ms' ys' S' e' p)⟩
end
/-! ### promises -/
abbrev AGp := List D → Hp → Ms → (Hp → Ms → List D → Prop) → Prop
def toSpG (K : Frg) (sp : AGp) : SpG := fun vs H Q E => ∃ F ms R ds Qa, Hold K F (ms ++ R) H ∧ RepL K F ds vs ∧ sp ds F ms Qa ∧ (∀ F' ms' ys vs' H', Ex F F' → Hold K F' (ms' ++ R) H' → RepL K F' ys vs' → Qa F' ms' ys → Q vs' H')
section
variable {Γ : Cg} {K : Frg} {F : Hp} {ms : Ms} {S : Sg} {ta : TA} {Q : QE}
/-- list(f(..)) of a generator def, the list owned -/
theorem ae_listG {sp : AGp} {E : XK} (h : AA Γ ta F ms S fun F1 ms1 ds => sp ds F1 ms1 fun F' ms' ys => ∀ l, Q F' ((l, .lst ys) :: ms') (.ref l)) : AE Γ (tListG (tCallG (toSpG Γ.K sp) [] E ta)) F ms S Q := fun R σ H Qc hs hh x k =>
  h R σ H _ hs hh x fun F1 ms1 ds vs H1 e1 h1 r1 q1 => by
    show toSpG Γ.K sp (vs ++ []) H1 _ E
    rw [List.append_nil]
    exact ⟨F1, ms1, R, ds, _, h1, r1, q1, fun F' ms' ys vs' H' e ho hr q p hp => k F' _ (.ref p) _ _ (e1.trans e) (ho.made (m := .lst ys) hp ⟨vs', upd_same, hr⟩) (.ref p) (q p)⟩
/-- list(f(..)) of a generator def, the list frozen -/
theorem ae_listGF {sp : AGp} {E : XK} (h : AA Γ ta F ms S fun F1 ms1 ds => sp ds F1 ms1 fun F' ms' ys => ∀ F2, Ex F' F2 → Q F2 ms' (.lst ys)) : AE Γ (tListG (tCallG (toSpG Γ.K sp) [] E ta)) F ms S Q := fun R σ H Qc hs hh x k =>
  h R σ H _ hs hh x fun F1 ms1 ds vs H1 e1 h1 r1 q1 => by
    show toSpG Γ.K sp (vs ++ []) H1 _ E
    rw [List.append_nil]
    exact ⟨F1, ms1, R, ds, _, h1, r1, q1, fun F' ms' ys vs' H' e ho hr q p hp => by
      obtain ⟨e2, h2⟩ := ho.laid (.lst vs') hp
      exact k _ ms' (.lst ys) _ _ ((e1.trans e).trans e2) h2 (.lst upd_same (hr.mono e2)) (q _ e2)⟩
end
theorem passG {P : Program} {w : World} {X : Cx} : Passes (L2.CX P w) X E0 := fun pins σ H s e s' I h => by
  obtain ⟨a, B, H', cls, d, _, _, _, _, _, _, _, z⟩ := h
  exact z.elim
theorem noStop0 {K : Frg} : NoStop K E0 := fun _ _ _ z => z.elim
section
variable {P : Program} {w : World} {K : Frg} {mg : Str → Option Value} {base : Heap}
/-- a generator def that raises nothing -/
theorem gfn_ok {x qual : Str} {st : Stmt} {f : Addr} {fd : FuncData} {N ps : List Str} {k : Nat} {sp : AGp} (Fn : Fun K x qual st f fd) (Sc : GScope N ps (defScope st)) (len : ∀ ds F ms Q, sp ds F ms Q → ds.length = ps.length)
    (hbody : ∀ (cdv : Value) (A : Around) (outer : List Env) (s : Shared) (H : Hp) (E : XK) (pn : List (Addr × Obj)), Room k (A.deeper (PyProof.Rows.envOfC qual (defScope st) s.heap.objs.size f cdv)) → ∃ t, GSs (gcxOf P w K mg base N qual (defScope st) f cdv A outer s H E pn).nox (defBody st) t ∧
      ∀ ds F ms Q, sp ds F ms Q → AY ⟨K, E0, fun _ _ _ _ => False⟩ t F ms [] (startS N ds) { nx := fun F' ms' ys _ => Q F' ms' ys, rt := fun F' ms' ys => Q F' ms' ys }) : GFn P w K mg base (k + 1) f fd ps (toSpG K sp) := by
  obtain ⟨oc, od, kV, doc, pm, an, cdv, ct, osl, rfl, lk, hcd⟩ := Fn.ex
  refine gfn_of lk hcd Sc (fun vs H Q E h => ?_) (fun A outer s H vs Q E pn hr h => ?_)
  · obtain ⟨F0, ms, R, ds, Qa, h1, h2, h3, _⟩ := h
    rw [← h2.len]
    exact len _ _ _ _ h3
  · obtain ⟨F0, ms, R, ds, Qa, h1, h2, h3, h4⟩ := h
    obtain ⟨t, ht, q⟩ := hbody cdv A outer s H E pn hr
    refine ⟨t, ht.nox, q ds F0 ms Qa h3 R _ _ H [] (start_rep h2) h1 .nil ⟨fun _ _ _ _ _ _ _ _ _ z => z.elim, fun F' ms' ys' S' vs' σ' H' e a b r q' => h4 F' ms' ys' vs' H' e b r q', fun F' ms' ys' vs' H' e b r q' => ⟨rfl, h4 F' ms' ys' vs' H' e b r q'⟩, fun _ _ _ _ _ _ _ _ _ _ _ z => z.elim, fun _ _ _ _ _ _ _ _ _ _ _ z => z.elim⟩⟩
end
end AL

set_option Elab.async false
set_option linter.all false
set_option maxRecDepth 100000
set_option maxHeartbeats 4000000
/-! zip of a tuple and a list: two sources -/
namespace ZTL
open PySem PySem.Spec PyProof.Rows
open PySem.Sem (wp)
/-- what a zip draws from: its iterator at i, over l -/
structure Src (prog : Program) (w : World) (i l : Addr) (xs : Array Value) (St : Nat → Heap → Prop) : Prop where
  ext : ∀ k h h' c, St k h → Heap.ExtBut c h h' → i ≠ c → l ≠ c → St k h'
  at' : ∀ k h h', St k h → (∀ o, h.get? i = some o → h'.get? i = some o) → (∀ o, h.get? l = some o → h'.get? l = some o) → St k h'
  lt : ∀ k h, St k h → ∃ o, h.get? i = some o ∧ ∀ v, o.data ≠ .cell v
  item : ∀ (A : Around) (E : Value → Shared → Prop) (s : Shared) (k : Nat) (x : Value) (Q : Value → Shared → Prop), St k s.heap → xs[k]? = some x → (∀ h', St (k + 1) h' → Heap.SameBut i s.heap h' → Q x { s with heap := h' }) → wpAny (model prog w) A (Builtin.SmallTypes.nextOf (.ref i)) Q E s
  fin : ∀ (A : Around) (E : Value → Shared → Prop) (s : Shared) (k : Nat) (Q : Value → Shared → Prop), A.handled = none → St k s.heap → xs[k]? = none → (∀ h' e, Heap.ExtBut i s.heap h' → (∃ o, h'.get? e = some o ∧ o.cls = .type "StopIteration") → E (.ref e) { s with heap := h' }) → wpAny (model prog w) A (Builtin.SmallTypes.nextOf (.ref i)) Q E s
variable {prog : Program} {w : World} {A : Around} {E : Value → Shared → Prop} {s : Shared}
abbrev TupSt (i l : Addr) (xs : Array Value) : Nat → Heap → Prop := fun k h => h.IsTupleIter i l k ∧ h.IsTuple l xs
abbrev LstSt (i l : Addr) (xs : Array Value) : Nat → Heap → Prop := fun k h => h.IsListIter i l k ∧ h.IsList l xs
theorem src_tup {i l : Addr} {xs : Array Value} (hne : l ≠ i) : Src prog w i l xs (TupSt i l xs) where
  ext := fun k h h' c st e n1 n2 => ⟨st.1.extBut e n1, st.2.extBut e n2⟩
  at' := fun k h h' st e1 e2 => ⟨st.1.at e1, by obtain ⟨o, ho, r⟩ := st.2; exact ⟨o, e2 o ho, r⟩⟩
  lt := fun k h st => by obtain ⟨⟨o, ho, _, hd⟩, _⟩ := st; exact ⟨o, ho, fun v q => by rw [hd] at q; cases q⟩
  item := fun A E s k x Q st hx hQ => RZ.nextOf_tuple_item st.1 st.2 hx fun h' a b => hQ h' ⟨a, st.2.extBut b.extBut hne⟩ b
  fin := fun A E s k Q hh st hx hE => RZ.nextOf_tuple_end hh st.1 st.2 hx hE
theorem src_lst {i l : Addr} {xs : Array Value} (hne : l ≠ i) : Src prog w i l xs (LstSt i l xs) where
  ext := fun k h h' c st e n1 n2 => ⟨st.1.extBut e n1, st.2.extBut e n2⟩
  at' := fun k h h' st e1 e2 => ⟨st.1.at e1, by obtain ⟨o, ho, r⟩ := st.2; exact ⟨o, e2 o ho, r⟩⟩
  lt := fun k h st => by obtain ⟨⟨o, ho, _, hd⟩, _⟩ := st; exact ⟨o, ho, fun v q => by rw [hd] at q; cases q⟩
  item := fun A E s k x Q st hx hQ => wpAny_nextOf_list_item st.1 st.2 hx fun h' a b => hQ h' ⟨a, st.2.extBut b.extBut hne⟩ b
  fin := fun A E s k Q hh st hx hE => wpAny_nextOf_list_end hh st.1 st.2 hx hE
section
variable {z TI TO i1 i2 l1 l2 : Addr} {xs ys : Array Value} {P1 P2 : Nat → Heap → Prop}
/-- the two draws and the hand-out -/
theorem draw {k : Nat} {x y a b : Value} {Q : Value → Shared → Prop} (D : ZipApart z TI TO i1 i2 l1 l2) (S1 : Src prog w i1 l1 xs P1) (S2 : Src prog w i2 l2 ys P2)
    (hz : IsZip s.heap z TI TO .none) (hTI : IsPair s.heap TI (.ref i1) (.ref i2)) (hTO : IsPair s.heap TO a b) (h1 : P1 k s.heap) (h2 : P2 k s.heap) (hx : xs[k]? = some x) (hy : ys[k]? = some y)
    (hQ : ∀ h', IsZip h' z TI TO (rawInt s.heap.objs.size) → IsPair h' TO x y → P1 (k + 1) h' → P2 (k + 1) h' → IsPair h' s.heap.objs.size x y →
      (∀ c o, c ≠ z → c ≠ TO → c ≠ i1 → c ≠ i2 → s.heap.get? c = some o → h'.get? c = some o) → Q (.ref s.heap.objs.size) { s with heap := h' }) :
    wpAny (model prog w) A (Builtin.«zip.__next__» ⟨[.ref z], []⟩) (fun fin s' => ∃ v, fin = .done (.ret v) ∧ Q v s') E s := by
  show wpAny _ _ (field (.ref z) 2 >>= _) _ _ _
  refine wpAny_bind (wpAny_field hz rfl (x := .bool false) rfl ?_)
  show wpAny _ _ (field (.ref z) 3 >>= _) _ _ _
  refine wpAny_bind (wpAny_field hz rfl (x := .ref TI) rfl ?_)
  refine wpAny_bind (wpAny_seqItems hTI rfl ?_)
  show wpAny _ _ (Builtin.SmallTypes.ownedTupleIsFree (.ref z) >>= _) _ _ _
  unfold Builtin.SmallTypes.ownedTupleIsFree
  refine wpAny_bind (wpAny_bind (wpAny_field hz rfl (x := .none) rfl (wpAny_pure ?_)))
  simp only [if_true]
  refine wpAny_bind (wpAny_rule ?_)
  refine wpAny_bind (wpAny_field hz rfl (x := .ref TO) rfl ?_)
  refine wpAny_bind (wpAny_setField_rec hz (by simp) fun g1 zz1 q1 => ?_)
  have zz1 : IsZip g1 z TI TO .ellipsis := zz1
  refine wpAny_bind ?_
  simp only [List.zipIdx_cons, List.zipIdx_nil, List.forIn_cons, List.forIn_nil]
  refine wpAny_bind (wpAny_bind (wpAny_onRaise ?_))
  show wpAny _ _ (Builtin.SmallTypes.nextOf (.ref i1) >>= _) _ _ _
  refine wpAny_bind (S1.item _ _ _ k x _ (S1.ext _ _ _ _ h1 q1.extBut D.i1z D.l1z) hx fun g2 p2 q2 => wpAny_pure ?_)
  have to2 : IsPair g2 TO a b := q2.extBut _ _ D.TOi1 (q1.extBut _ _ D.TOz hTO)
  refine wpAny_bind (wpAny_seqItems to2 rfl ?_)
  refine wpAny_bind (wpAny_updateSeq_pair to2 fun g3 to3 q3 => ?_)
  have to3 : IsPair g3 TO x b := to3
  refine wpAny_bind (wpAny_letGo (wpAny_pure ?_))
  refine wpAny_bind (wpAny_bind (wpAny_onRaise ?_))
  show wpAny _ _ (Builtin.SmallTypes.nextOf (.ref i2) >>= _) _ _ _
  have b3 : P2 k g3 := S2.ext _ _ _ _ (S2.ext _ _ _ _ (S2.ext _ _ _ _ h2 q1.extBut D.i2z D.l2z) q2.extBut D.i12.symm D.l2i1) q3.extBut D.TOi2.symm D.l2TO
  refine wpAny_bind (S2.item _ _ _ k y _ b3 hy fun g4 p4 q4 => wpAny_pure ?_)
  have to4 : IsPair g4 TO x b := q4.extBut _ _ D.TOi2 to3
  refine wpAny_bind (wpAny_seqItems to4 rfl ?_)
  refine wpAny_bind (wpAny_updateSeq_pair to4 fun g5 to5 q5 => ?_)
  have to5 : IsPair g5 TO x y := to5
  refine wpAny_bind (wpAny_letGo (wpAny_pure (wpAny_pure ?_)))
  refine wpAny_bind (wpAny_seqItems to5 rfl ?_)
  refine wpAny_bind (wpAny_newTuple ?_)
  have size5 : g5.objs.size = s.heap.objs.size := by rw [q5.1, q4.1, q3.1, q2.1, q1.1]
  have zz5 : IsZip g5 z TI TO .ellipsis := q5.extBut _ _ D.TOz.symm (q4.extBut _ _ D.i2z.symm (q3.extBut _ _ D.TOz.symm (q2.extBut _ _ D.i1z.symm zz1)))
  have keep5 : ∀ c o, c ≠ z → c ≠ TO → c ≠ i1 → c ≠ i2 → s.heap.get? c = some o → g5.get? c = some o := fun c o n1 n2 n3 n4 e =>
    q5.extBut _ _ n2 (q4.extBut _ _ n4 (q3.extBut _ _ n2 (q2.extBut _ _ n3 (q1.extBut _ _ n1 e))))
  have p1 : P1 (k + 1) g5 := S1.ext _ _ _ _ (S1.ext _ _ _ _ (S1.ext _ _ _ _ p2 q3.extBut D.TOi1.symm D.l1TO) q4.extBut D.i12 D.l1i2) q5.extBut D.TOi1.symm D.l1TO
  have p2' : P2 (k + 1) g5 := S2.ext _ _ _ _ p4 q5.extBut D.TOi2.symm D.l2TO
  have zlt : z < g5.objs.size := Heap.lt_size zz5
  show wpAny _ _ (Builtin.SmallTypes.ownedTupleHandOut (.ref z) (.ref g5.objs.size) >>= _) _ _ _
  unfold Builtin.SmallTypes.ownedTupleHandOut
  have zz6 : IsZip (g5.push { cls := .type "tuple", data := .seq #[x, y] }) z TI TO .ellipsis := Heap.get?_push_of_some _ zz5
  refine wpAny_bind (wpAny_bind (wpAny_setField_rec zz6 (by simp) fun g7 zz7 q7 => ?_))
  have zz7 : IsZip g7 z TI TO (rawInt g5.objs.size) := zz7
  refine wpAny_setField_rec zz7 (by simp) fun g8 zz8 q8 => ?_
  have zz8 : IsZip g8 z TI TO (rawInt g5.objs.size) := zz8
  have up : ∀ c o, c ≠ z → g5.get? c = some o → g8.get? c = some o := fun c o n1 e => q8.extBut _ _ n1 (q7.extBut _ _ n1 (Heap.get?_push_of_some _ e))
  have new8 : IsPair g8 g5.objs.size x y := q8.extBut _ _ (Nat.ne_of_gt zlt) (q7.extBut _ _ (Nat.ne_of_gt zlt) (Heap.get?_push_size _ rfl))
  rw [size5] at zz8 new8
  refine wpAny_pure ⟨_, rfl, ?_⟩
  show Q (.ref g5.objs.size) _
  rw [size5]
  exact hQ g8 zz8 (up _ _ D.TOz to5) (S1.at' _ _ _ p1 (fun o e => up _ o D.i1z e) fun o e => up _ o D.l1z e) (S2.at' _ _ _ p2' (fun o e => up _ o D.i2z e) fun o e => up _ o D.l2z e) new8 fun c o n1 n2 n3 n4 e => up c o n1 (keep5 c o n1 n2 n3 n4 e)
theorem draw_end {k : Nat} {a b : Value} {Q : Fin → Shared → Prop} (hh : A.handled = none) (D : ZipApart z TI TO i1 i2 l1 l2) (S1 : Src prog w i1 l1 xs P1) (S2 : Src prog w i2 l2 ys P2)
    (hz : IsZip s.heap z TI TO .none) (hTI : IsPair s.heap TI (.ref i1) (.ref i2)) (hTO : IsPair s.heap TO a b) (h1 : P1 k s.heap) (h2 : P2 k s.heap) (hend : xs[k]? = none ∨ ys[k]? = none)
    (hE : ∀ h' e, (∀ c o, c ≠ z → c ≠ TO → c ≠ i1 → c ≠ i2 → s.heap.get? c = some o → h'.get? c = some o) → (∃ o, h'.get? e = some o ∧ o.cls = .type "StopIteration") → E (.ref e) { s with heap := h' }) :
    wpAny (model prog w) A (Builtin.«zip.__next__» ⟨[.ref z], []⟩) Q E s := by
  show wpAny _ _ (field (.ref z) 2 >>= _) _ _ _
  refine wpAny_bind (wpAny_field hz rfl (x := .bool false) rfl ?_)
  show wpAny _ _ (field (.ref z) 3 >>= _) _ _ _
  refine wpAny_bind (wpAny_field hz rfl (x := .ref TI) rfl ?_)
  refine wpAny_bind (wpAny_seqItems hTI rfl ?_)
  show wpAny _ _ (Builtin.SmallTypes.ownedTupleIsFree (.ref z) >>= _) _ _ _
  unfold Builtin.SmallTypes.ownedTupleIsFree
  refine wpAny_bind (wpAny_bind (wpAny_field hz rfl (x := .none) rfl (wpAny_pure ?_)))
  simp only [if_true]
  refine wpAny_bind (wpAny_rule ?_)
  refine wpAny_bind (wpAny_field hz rfl (x := .ref TO) rfl ?_)
  refine wpAny_bind (wpAny_setField_rec hz (by simp) fun g1 zz1 q1 => ?_)
  have zz1 : IsZip g1 z TI TO .ellipsis := zz1
  refine wpAny_bind ?_
  simp only [List.zipIdx_cons, List.zipIdx_nil, List.forIn_cons, List.forIn_nil]
  refine wpAny_bind (wpAny_bind (wpAny_onRaise ?_))
  show wpAny _ _ (Builtin.SmallTypes.nextOf (.ref i1) >>= _) _ _ _
  have a1 : P1 k g1 := S1.ext _ _ _ _ h1 q1.extBut D.i1z D.l1z
  cases hx : xs[k]? with
  | none =>
    refine wpAny_bind (S1.fin _ _ _ k _ hh a1 hx fun g2 e q2 he => ?_)
    obtain ⟨oe, hoe, hce⟩ := he
    have zz2 : IsZip g2 z TI TO .ellipsis := q2 _ _ D.i1z.symm zz1
    have ez : e ≠ z := fun q => by subst q; rw [zz2] at hoe; cases hoe; simp at hce
    refine wpAny_setField_rec zz2 (by simp) fun g3 _ q3 => hE g3 e (fun c o n1 _ n3 _ q => q3.extBut _ _ n1 (q2 _ _ n3 (q1.extBut _ _ n1 q))) ⟨oe, q3.extBut _ _ ez hoe, hce⟩
  | some x =>
    have hy : ys[k]? = none := by rcases hend with q | q; rw [hx] at q; cases q; exact q
    refine wpAny_bind (S1.item _ _ _ k x _ a1 hx fun g2 p2 q2 => wpAny_pure ?_)
    have to2 : IsPair g2 TO a b := q2.extBut _ _ D.TOi1 (q1.extBut _ _ D.TOz hTO)
    refine wpAny_bind (wpAny_seqItems to2 rfl ?_)
    refine wpAny_bind (wpAny_updateSeq_pair to2 fun g3 to3 q3 => ?_)
    refine wpAny_bind (wpAny_letGo (wpAny_pure ?_))
    refine wpAny_bind (wpAny_bind (wpAny_onRaise ?_))
    show wpAny _ _ (Builtin.SmallTypes.nextOf (.ref i2) >>= _) _ _ _
    have b3 : P2 k g3 := S2.ext _ _ _ _ (S2.ext _ _ _ _ (S2.ext _ _ _ _ h2 q1.extBut D.i2z D.l2z) q2.extBut D.i12.symm D.l2i1) q3.extBut D.TOi2.symm D.l2TO
    refine wpAny_bind (S2.fin _ _ _ k _ hh b3 hy fun g4 e q4 he => ?_)
    obtain ⟨oe, hoe, hce⟩ := he
    have zz4 : IsZip g4 z TI TO .ellipsis := q4 _ _ D.i2z.symm (q3.extBut _ _ D.TOz.symm (q2.extBut _ _ D.i1z.symm zz1))
    have ez : e ≠ z := fun q => by subst q; rw [zz4] at hoe; cases hoe; simp at hce
    refine wpAny_setField_rec zz4 (by simp) fun g5 _ q5 => hE g5 e (fun c o n1 n2 n3 n4 q => q5.extBut _ _ n1 (q4 _ _ n4 (q3.extBut _ _ n2 (q2.extBut _ _ n3 (q1.extBut _ _ n1 q))))) ⟨oe, q5.extBut _ _ ez hoe, hce⟩
theorem next_item {k : Nat} {x y a b : Value} {Q : Option Value → Shared → Prop} (D : ZipApart z TI TO i1 i2 l1 l2) (S1 : Src prog w i1 l1 xs P1) (S2 : Src prog w i2 l2 ys P2)
    (hz : IsZip s.heap z TI TO .none) (hTI : IsPair s.heap TI (.ref i1) (.ref i2)) (hTO : IsPair s.heap TO a b) (h1 : P1 k s.heap) (h2 : P2 k s.heap) (hx : xs[k]? = some x) (hy : ys[k]? = some y)
    (hQ : ∀ h', IsZip h' z TI TO (rawInt s.heap.objs.size) → IsPair h' TO x y → P1 (k + 1) h' → P2 (k + 1) h' → IsPair h' s.heap.objs.size x y →
      (∀ c o, c ≠ z → c ≠ TO → c ≠ i1 → c ≠ i2 → s.heap.get? c = some o → h'.get? c = some o) → Q (some (.ref s.heap.objs.size)) { s with heap := h' }) :
    wpAny (model prog w) A (pyNext (.ref z)) Q E s := by
  have ty : s.TypeIs (.ref z) "zip" := ⟨_, hz, rfl⟩
  unfold pyNext
  exact wpAny_bind (wpAny_attempt (wpAny_callSpecial?_slot (name := Str.ofString "__next__") ty F.slot_zip_next
    (wpAny_call_entry F.slot_zip_next ty F.entry_zip_next (draw D S1 S2 hz hTI hTO h1 h2 hx hy fun h' p1 p2 p3 p4 p5 p6 => wpAny_pure (hQ h' p1 p2 p3 p4 p5 p6)) (F.args_zip_next_1 _))))
theorem next_end {k : Nat} {a b : Value} {Q : Option Value → Shared → Prop} (hh : A.handled = none) (D : ZipApart z TI TO i1 i2 l1 l2) (S1 : Src prog w i1 l1 xs P1) (S2 : Src prog w i2 l2 ys P2)
    (hz : IsZip s.heap z TI TO .none) (hTI : IsPair s.heap TI (.ref i1) (.ref i2)) (hTO : IsPair s.heap TO a b) (h1 : P1 k s.heap) (h2 : P2 k s.heap) (hend : xs[k]? = none ∨ ys[k]? = none)
    (hQ : ∀ h', (∀ c o, c ≠ z → c ≠ TO → c ≠ i1 → c ≠ i2 → s.heap.get? c = some o → h'.get? c = some o) → Q none { s with heap := h' }) : wpAny (model prog w) A (pyNext (.ref z)) Q E s := by
  have ty : s.TypeIs (.ref z) "zip" := ⟨_, hz, rfl⟩
  unfold pyNext
  refine wpAny_bind (wpAny_attempt (wpAny_callSpecial?_slot (name := Str.ofString "__next__") ty F.slot_zip_next
    (wpAny_call_entry F.slot_zip_next ty F.entry_zip_next (draw_end hh D S1 S2 hz hTI hTO h1 h2 hend fun h' e hk he => ?_) (F.args_zip_next_1 _))))
  obtain ⟨o, ho, hc⟩ := he
  exact wpAny_bind (wpAny_isInstance (T := "StopIteration") (b := true) ⟨o, ho, hc⟩ isSubtype_stop (wpAny_pure (hQ _ hk)))
end
/-! the call zip(tuple, list) -/
def it1 (h : Heap) (l1 : Addr) : Heap := h.push { cls := .type "tuple_iterator", data := .fields #[.ref l1, .int 0 0] }
def it2 (h : Heap) (l1 l2 : Addr) : Heap := (it1 h l1).push { cls := .type "list_iterator", data := .fields #[.ref l2, .int 0 0] }
def it3 (h : Heap) (l1 l2 : Addr) : Heap := (it2 h l1 l2).push { cls := .type "tuple", data := .seq #[.ref h.objs.size, .ref (it1 h l1).objs.size] }
def it4 (h : Heap) (l1 l2 : Addr) : Heap := (it3 h l1 l2).push { cls := .type "tuple", data := .seq #[.none, .none] }
def it5 (h : Heap) (l1 l2 : Addr) : Heap := (it4 h l1 l2).push { cls := .type "zip", data := .fields #[.none, .bool false, .bool false, .ref (it2 h l1 l2).objs.size, .ref (it3 h l1 l2).objs.size] }
theorem made (l1 l2 : Addr) (xs ys : Array Value) :
    Meets (Builtin.«zip.__new__» ⟨[.type "zip", .ref l1, .ref l2], []⟩) (fun _ R s => s.heap.IsTuple l1 xs ∧ s.heap.IsList l2 ys ∧
      R (.ok (.ret (.ref (it4 s.heap l1 l2).objs.size))) { s with heap := it5 s.heap l1 l2 }) :=
  .of_wp fun prog w A R s h => by
    obtain ⟨hp, g, d, tk, os⟩ := s
    obtain ⟨q1, q2, h⟩ := h
    have hsub := sub_zip
    have t1 : Heap.IsTuple (Shared.heap ⟨hp, g, d, tk, os⟩) l1 xs := q1
    have t2 : Heap.IsList (Shared.heap ⟨hp.push { cls := .type "tuple_iterator", data := .fields #[.ref l1, .int 0 0] }, g, d, tk, os⟩) l2 ys := q2.push _
    wp_walk using wpAny_pyIter_tuple t1, wpAny_pyIter_list t2
    exact ⟨_, rfl, h⟩
theorem call_TL {l1 l2 : Addr} {xs ys : Array Value} {Q : Value → Shared → Prop} (q1 : s.heap.IsTuple l1 xs) (q2 : s.heap.IsList l2 ys)
    (h : ∀ h', IsZip h' (s.heap.objs.size + 4) (s.heap.objs.size + 2) (s.heap.objs.size + 3) .none → IsPair h' (s.heap.objs.size + 2) (.ref s.heap.objs.size) (.ref (s.heap.objs.size + 1)) →
      IsPair h' (s.heap.objs.size + 3) .none .none → h'.IsTupleIter s.heap.objs.size l1 0 → h'.IsListIter (s.heap.objs.size + 1) l2 0 →
      (∀ c o, s.heap.get? c = some o → h'.get? c = some o) → Q (.ref (s.heap.objs.size + 4)) { s with heap := h' }) :
    wpAny (model prog w) A (call (.type "zip") [.ref l1, .ref l2]) Q E s := by
  refine callType_new F.called_zip (by decide) (F.typeCall_zip_2 _ _) (F.newCall_zip_2 _ _) (fun obj => F.args_object_init_3 obj _ _) F.entry_zip_new (made l1 l2 xs ys) ⟨q1, q2, ?_⟩
  have n1 : (it1 s.heap l1).objs.size = s.heap.objs.size + 1 := Heap.size_push ..
  have n2 : (it2 s.heap l1 l2).objs.size = s.heap.objs.size + 2 := (Heap.size_push ..).trans (by rw [n1])
  have n3 : (it3 s.heap l1 l2).objs.size = s.heap.objs.size + 3 := (Heap.size_push ..).trans (by rw [n2])
  have n4 : (it4 s.heap l1 l2).objs.size = s.heap.objs.size + 4 := (Heap.size_push ..).trans (by rw [n3])
  have up4 : ∀ {c o}, (it4 s.heap l1 l2).get? c = some o → (it5 s.heap l1 l2).get? c = some o := fun e => Heap.get?_push_of_some _ e
  have up3 : ∀ {c o}, (it3 s.heap l1 l2).get? c = some o → (it5 s.heap l1 l2).get? c = some o := fun e => up4 (Heap.get?_push_of_some _ e)
  have up2 : ∀ {c o}, (it2 s.heap l1 l2).get? c = some o → (it5 s.heap l1 l2).get? c = some o := fun e => up3 (Heap.get?_push_of_some _ e)
  have up1 : ∀ {c o}, (it1 s.heap l1).get? c = some o → (it5 s.heap l1 l2).get? c = some o := fun e => up2 (Heap.get?_push_of_some _ e)
  have g5 : (it5 s.heap l1 l2).get? (it4 s.heap l1 l2).objs.size = some _ := Heap.get?_push_size _ rfl
  have g4 : (it5 s.heap l1 l2).get? (it3 s.heap l1 l2).objs.size = some _ := up4 (Heap.get?_push_size _ rfl)
  have g3 : (it5 s.heap l1 l2).get? (it2 s.heap l1 l2).objs.size = some _ := up3 (Heap.get?_push_size _ rfl)
  have g2 : (it5 s.heap l1 l2).get? (it1 s.heap l1).objs.size = some _ := up2 (Heap.get?_push_size _ rfl)
  have g1 : (it5 s.heap l1 l2).get? s.heap.objs.size = some _ := up1 (Heap.get?_push_size _ rfl)
  show _ ∧ _
  rw [n2, n3, n4] at g5
  rw [n1, n2] at g3
  rw [n3] at g4
  rw [n1] at g2
  rw [n4]
  exact ⟨⟨_, g5, rfl⟩, h _ g5 g3 g4 ⟨_, g1, rfl, rfl⟩ ⟨_, g2, rfl, rfl⟩ fun c o e => up1 (Heap.get?_push_of_some _ e)⟩
end ZTL
namespace RZ
open PySem PySem.Spec PyProof.Rows L2
/-- a tuple at a, a list at b -/
def ItzM (K : PySem.W.Frag) (a b : Addr) : It :=
  ⟨fun i H => ∃ (xs ys : List V) (x y : V), SqT K H a xs ∧ SqL K H b ys ∧ xs[i]? = some x ∧ ys[i]? = some y,
    fun i H v H' => ∃ T x y, v = .ref T ∧ H T = none ∧ H' = upd H T (.tup [x, y]) ∧ (∀ xs, SqT K H a xs → xs[i]? = some x) ∧ ∀ ys, SqL K H b ys → ys[i]? = some y,
    fun i H => ∃ xs ys : List V, SqT K H a xs ∧ SqL K H b ys ∧ (xs.length ≤ i ∨ ys.length ≤ i)⟩
theorem turn_zipM {P : Program} {w : World} {K : PySem.W.Frag} {elts : List Expr} {kk : Nat} {tpos : Pos} {a b z TI TO i1 i2 : Addr} (D : ZipApart z TI TO i1 i2 a b) :
    Turn P w K (.Tuple elts kk tpos) (ItzM K a b) [z, TI, TO, i1, i2] z (fun i h => IsZip h z TI TO .none ∧ IsPair h TI (.ref i1) (.ref i2) ∧ (∃ x y, IsPair h TO x y) ∧ h.IsTupleIter i1 a i ∧ h.IsListIter i2 b i) where
  mem := by simp
  obj := fun i h st c hc => by
    obtain ⟨hz, hTI, ⟨x, y, hTO⟩, ⟨o1, e1, _, d1⟩, ⟨o2, e2, _, d2⟩⟩ := st
    have hc : c = z ∨ c = TI ∨ c = TO ∨ c = i1 ∨ c = i2 := by simpa using hc
    rcases hc with rfl | rfl | rfl | rfl | rfl
    · exact ⟨_, hz, fun v q => nomatch q⟩
    · exact ⟨_, hTI, fun v q => nomatch q⟩
    · exact ⟨_, hTO, fun v q => nomatch q⟩
    · exact ⟨o1, e1, fun v q => by rw [d1] at q; cases q⟩
    · exact ⟨o2, e2, fun v q => by rw [d2] at q; cases q⟩
  keep := fun i h h' st k => by
    obtain ⟨hz, hTI, ⟨x, y, hTO⟩, h1, h2⟩ := st
    exact ⟨k z (by simp) _ hz, k TI (by simp) _ hTI, ⟨x, y, k TO (by simp) _ hTO⟩, h1.at fun o q => k i1 (by simp) o q, h2.at fun o q => k i2 (by simp) o q⟩
  item := by
    intro X hP hw hK hc i pins s σ H E I hf st hg
    subst hP hw hK
    obtain ⟨hz, hTI, ⟨x0, y0, hTO⟩, h1, h2⟩ := st
    obtain ⟨xs, ys, x, y, hqx, hqy, hx, hy⟩ := hg
    obtain ⟨its, rv, p, _⟩ := I.tuple hqx
    obtain ⟨its2, rv2, p2, _⟩ := I.list hqy
    obtain ⟨u, hu, ru⟩ := rv.get hx
    obtain ⟨u2, hu2, ru2⟩ := rv2.get hy
    have zl : z < s.heap.objs.size := Heap.lt_size hz
    have p : s.heap.IsTuple a its.toArray := p
    have p2 : s.heap.IsList b its2.toArray := p2.isList
    refine ZTL.next_item D (ZTL.src_tup (xs := its.toArray) D.l1i1) (ZTL.src_lst (xs := its2.toArray) D.l2i2) hz hTI hTO ⟨h1, p⟩ ⟨h2, p2⟩ (x := u) (y := u2) (by simpa using hu) (by simpa using hu2) fun h' z' TO' h1' h2' hT hk => ?_
    refine ⟨_, rfl, wpAny_letOwnedTupleGo_zip (s := { s with heap := h' }) z' fun h'' z'' sb => ?_⟩
    have new2 : h''.get? s.heap.objs.size = some { cls := .type "tuple", data := .seq #[u, u2] } := (sb.2 _ (Nat.ne_of_gt zl)).trans hT
    have new : ObjOk X.prog X.w (upd H s.heap.objs.size (.tup [x, y])) h'' s.heap.objs.size (.tup [x, y]) :=
      ⟨by show 2 ≤ sizeLine; decide, [u, u2], .cons ru (.cons ru2 .nil), ⟨_, new2, rfl, _, rfl⟩⟩
    have I1 : Inv X pins σ (upd H s.heap.objs.size (.tup [x, y])) { s with heap := h'' } :=
      I.turnedNew (t' := s.toks) (ch := [z, TI, TO, i1, i2]) (fun c o hb q => by
        simp only [List.mem_cons, List.not_mem_nil, or_false, not_or] at hb
        exact (sb.2 c hb.1).trans (hk c o hb.1 hb.2.2.1 hb.2.2.2.1 hb.2.2.2.2 q)) hf (Nat.le_refl _) new
    refine ⟨.ref s.heap.objs.size, _, I1, rfl, ⟨_, x, y, rfl, I.hok.fresh (Nat.le_refl _), rfl, fun l hl => by rw [I.tuple_inj hl hqx]; exact hx, fun l hl => by rw [I.list_inj hl hqy]; exact hy⟩, ⟨z'', (sb.2 _ D.TIz).trans (hk _ _ D.TIz D.TITO D.TIi1 D.TIi2 hTI), ⟨u, u2, (sb.2 _ D.TOz).trans TO'⟩, h1'.1.at fun o q => (sb.2 _ D.i1z).trans q, h2'.1.at fun o q => (sb.2 _ D.i2z).trans q⟩, fun c hcm => ?_⟩
    have hlt : c < s.heap.objs.size := by
      have hc : c = z ∨ c = TI ∨ c = TO ∨ c = i1 ∨ c = i2 := by simpa using hcm
      rcases hc with rfl | rfl | rfl | rfl | rfl
      · exact zl
      · exact Heap.lt_size hTI
      · exact Heap.lt_size hTO
      · obtain ⟨_, e1, _⟩ := h1; exact Heap.lt_size e1
      · obtain ⟨_, e2, _⟩ := h2; exact Heap.lt_size e2
    rw [upd_ne (Nat.ne_of_lt hlt)]
    exact (hf c hcm).1
  done := by
    intro X hP hw hK hc i pins s σ H E I hf st hg
    subst hP hw hK
    obtain ⟨hz, hTI, ⟨x0, y0, hTO⟩, h1, h2⟩ := st
    obtain ⟨xs, ys, hqx, hqy, hend⟩ := hg
    obtain ⟨its, rv, p, _⟩ := I.tuple hqx
    obtain ⟨its2, rv2, p2, _⟩ := I.list hqy
    have l1 := rv.length
    have l2 := rv2.length
    have p : s.heap.IsTuple a its.toArray := p
    have p2 : s.heap.IsList b its2.toArray := p2.isList
    refine ZTL.next_end (I.ok.hd hc) D (ZTL.src_tup (xs := its.toArray) D.l1i1) (ZTL.src_lst (xs := its2.toArray) D.l2i2) hz hTI hTO ⟨h1, p⟩ ⟨h2, p2⟩ (by
      rcases hend with q | q
      · exact .inl (by simp; omega)
      · exact .inr (by simp; omega)) fun h' hk => ⟨rfl, I.turnedL (t' := s.toks) (ch := [z, TI, TO, i1, i2]) (fun c o hb q => by
        simp only [List.mem_cons, List.not_mem_nil, or_false, not_or] at hb
        exact hk c o hb.1 hb.2.2.1 hb.2.2.2.1 hb.2.2.2.2 q) hf⟩
  self := fun A i s Q E st h => wpAny_pyIter_zip st.1 h
def iZipM (K : PySem.W.Frag) (ta : TA) : TI := fun σ H R => ta σ H fun vs H1 => ∃ a b xs ys, vs = [.ref a, .ref b] ∧ SqT K H1 a xs ∧ SqL K H1 b ys ∧ R (ItzM K a b) H1
theorem pi_zipM {X : Cx} {K : PySem.W.Frag} {e e2 : Expr} {ta : TA} {p pos tpos : Pos} {elts : List Expr} {kk : Nat} (hK : X.K = K) (hg : Gl X "zip") (hm : X.mg "zip" = none) (ha : PA X [e, e2] ta)
    (hs : starEach [e, e2] X.env = (false, eval e X.env) :: starEach [e2] X.env := by rfl) (hpl : (backTo pos (starEach [e2] X.env)).any (·.1) = false := by rfl) :
    PI X (.Tuple elts kk tpos) (.Call (.Name "zip" p) [e, e2] [] pos) (iZipM K ta) := by
  subst hK
  refine ⟨fun pins s σ H R I h => ?_⟩
  refine Call_ (ld_blt I hg hm PyProof.Rows.boot_zip (PyProof.Rows.callWith_type1 (thn (ha.run pos pins s σ H _ I h) fun us s1 ⟨vs, H1, I1, r1, q1⟩ => ?_) hs hpl))
  obtain ⟨a, b, xs, ys, ex, hqx, hqy, q⟩ := q1
  subst ex
  cases r1 with
  | cons r rr =>
    cases rr with
    | cons r' rr =>
      cases rr
      cases r
      cases r'
      obtain ⟨its, rv, p1, _⟩ := I1.tuple hqx
      obtain ⟨its2, rv2, p2, _⟩ := I1.list hqy
      obtain ⟨o1, ho1, _⟩ := id p1
      refine ZTL.call_TL (show s1.heap.IsTuple a its.toArray from p1) p2.isList fun h' hz hTI hTO h1 h2 hk => wpAny_pyIter_zip hz ?_
      have I2 : Inv X pins σ H1 { s1 with heap := h' } := I1.kept (t' := s1.toks) hk
      refine ⟨s1.heap.objs.size + 4, [s1.heap.objs.size + 4, s1.heap.objs.size + 2, s1.heap.objs.size + 3, s1.heap.objs.size, s1.heap.objs.size + 1], _, _, H1, rfl, I2, turn_zipM (PySem.W.ktu_apart s1.heap.objs.size a b (Heap.lt_size ho1) p2.lt), ⟨hz, hTI, ⟨_, _, hTO⟩, h1, h2⟩, fun c hc => ?_, q⟩
      have hle : s1.heap.objs.size ≤ c := by
        have hc : c = s1.heap.objs.size + 4 ∨ c = s1.heap.objs.size + 2 ∨ c = s1.heap.objs.size + 3 ∨ c = s1.heap.objs.size ∨ c = s1.heap.objs.size + 1 := by simpa using hc
        rcases hc with rfl | rfl | rfl | rfl | rfl
        · exact Nat.le_add_right _ _
        · exact Nat.le_add_right _ _
        · exact Nat.le_add_right _ _
        · exact Nat.le_refl _
        · exact Nat.le_add_right _ _
      exact I1.fpOk hle (I1.hok.fresh hle)
end RZ
namespace AL
open PySem L2 RZ
section
variable {Γ : Cg} {F : Hp} {ms : Ms} {S : Sg} {P : Hp → Ms → List D → (Ms → Prop) → Prop}
/-- zip of a tuple and a frozen list of one length -/
theorem ai_zipM {ta : TA} (h : AA Γ ta F ms S fun F1 ms1 ds => ∃ xs ys : List D, ds = [.tup xs, .lst ys] ∧ xs.length = ys.length ∧ P F1 ms1 (zipD xs ys) fun _ => True) : AI Γ (iZipM Γ.K ta) F ms S P := fun R σ H Rc hs hh x k =>
  h R σ H _ hs hh x fun F1 ms1 ds vs H1 e1 h1 r1 ⟨xs, ys, hd, hl, p⟩ => by
    subst hd
    cases r1 with
    | cons a b =>
      cases b with
      | cons b c =>
        cases c
        cases a with
        | @tup a us _ ha ra =>
          cases b with
          | @lst b' ws _ hb0 rb =>
            have hb : SqL Γ.K F1 b' ws := SqL.of hb0
            refine ⟨a, b', us, ws, rfl, ex_t h1.ex ha, ex_l h1.ex hb, k F1 ms1 _ (fun _ => True) _ H1 e1 h1 ⟨fun _ i H' F' ms' hi e' hh' _ => ?_, fun _ H' F' ms' e' hh' _ => ?_, fun _ i H' x' H2 F' ms' hi e' hh' _ y => ?_⟩ p⟩
            · rw [zipD_len hl] at hi
              exact ⟨us, ws, us[i]'(by rw [← ra.len]; exact hi), ws[i]'(by rw [← rb.len, ← hl]; exact hi), ex_t hh'.ex (ex_t e' ha), ex_l hh'.ex (ex_l e' hb), by simp [show i < us.length by rw [← ra.len]; exact hi], by simp [show i < ws.length by rw [← rb.len, ← hl]; exact hi]⟩
            · exact ⟨us, ws, ex_t hh'.ex (ex_t e' ha), ex_l hh'.ex (ex_l e' hb), .inl (by rw [zipD_len hl, ra.len]; exact Nat.le_refl _)⟩
            · obtain ⟨T, u, w, y1, y2, y3, y4, y5⟩ := y
              subst y1 y3
              obtain ⟨d, hd, rd⟩ := ra.get (y4 us (ex_t hh'.ex (ex_t e' ha)))
              obtain ⟨e, he, re⟩ := rb.get (y5 ws (ex_l hh'.ex (ex_l e' hb)))
              obtain ⟨F'', e2, h2, r2⟩ := pair_rep hh' y2 (rd.mono e') (re.mono e')
              exact ⟨F'', _, e2, h2, zipD_get hd he, r2⟩
end
end AL

set_option Elab.async false
set_option linter.all false
set_option maxRecDepth 100000
set_option maxHeartbeats 4000000
/-! list.count and list.index over flat items; raise of an own class; a lambda told precisely -/
namespace L2
open PySem PySem.Spec PyProof.Rows
section
variable {X : Cx}
def rCntF (K : PySem.W.Frag) : V → List V → Hp → VK → Prop := fun x xs H Q => ∃ (a : Addr) (ys : List V) (y : V), x = .ref a ∧ xs = [y] ∧ SqL K H a ys ∧ flatV y = true ∧ ys.all flatV = true ∧ Q (.int (ys.countP (fun z => eqV z y) : Nat)) H
theorem cnt_vals {y : V} : ∀ {ys : List V} {us : List Value}, Vals ys us → ys.all flatV = true → us.countP (eqU y) = ys.countP fun z => eqV z y
  | _, _, .nil, _ => rfl
  | z :: ys, u :: us, .cons r rr, f => by
    rw [List.all_cons, Bool.and_eq_true] at f
    rw [List.countP_cons, List.countP_cons, cnt_vals rr f.2, eqU_of r f.1]
theorem mt_countF : MtR X "list.count" (rCntF X.K) := by
  intro pins s σ H x xs v us Q I rx rxs h
  obtain ⟨p, ys, y, rfl, rfl, hs, fy, fys, q⟩ := h
  cases rx
  obtain ⟨u, rfl, ru⟩ := rxs.one
  obtain ⟨its, rv, ⟨⟨cls, dd, data, sl⟩, n, ho, hc, hdn, hd⟩, hlen⟩ := I.list hs
  simp only at hc hd
  subst hc hd
  refine call_meets PySem.F.slot_list_count ⟨_, ho, rfl⟩ PySem.F.entry_list_count (PySem.F.args_list_count_2 _ _)
    (SeqAt.list_countAt p its.toArray n dd sl u (eqU y)) ⟨ho, fun w hw => mem_eqAt ru fy rv fys w (by simpa using hw), ?_⟩
  have ec : its.toArray.toList.countP (eqU y) = ys.countP fun z => eqV z y := cnt_vals rv fys
  refine ⟨.int (ys.countP (fun z => eqV z y) : Nat), H, I.tok _, ⟨s.toks, ?_⟩, q⟩
  rw [ec]
theorem kCNTF {K : PySem.W.Frag} (h : X.K = K) : MtR X "list.count" (rCntF K) := h ▸ mt_countF
theorem kIDX {K : PySem.W.Frag} (h : X.K = K) : MtR X "list.index" (rIndex K) := h ▸ mt_index
end
end L2
namespace AL
open PySem L2
section
variable {Γ : Cg} {K : Frg} {F : Hp} {ms : Ms} {S : Sg} {Q : QE}
theorem rep_bls {ds : List Bool} {vs : List V} (r : RepL K F (ds.map D.bl) vs) : vs = ds.map V.bl := by
  induction ds generalizing vs with
  | nil => cases r; rfl
  | cons d ds ih =>
    cases r with
    | cons h r => cases h; rw [ih r]; rfl
theorem flat_bls (bs : List Bool) : (bs.map V.bl).all flatV = true := by
  induction bs with
  | nil => rfl
  | cons b bs ih => rw [List.map_cons, List.all_cons, ih]; rfl
theorem am_countB {d : D} {bs : List Bool} {b : Bool} (hl : LstA F ms d (bs.map D.bl)) (q : Q F ms (.int (bs.countP (fun c => c == b) : Nat))) : AM K "list" (rCntF K) d [.bl b] F ms Q := fun R u vs H Qc hu hv hh k => by
  obtain ⟨a, us, rfl, ha, rr⟩ := hl.to hh hu
  have e := rep_bls rr
  subst e
  cases hv with
  | cons h1 h2 =>
    cases h2
    cases h1
    refine ⟨a, _, _, rfl, rfl, ha, rfl, flat_bls bs, ?_⟩
    have e : (bs.map V.bl).countP (fun z => eqV z (.bl b)) = bs.countP (fun c => c == b) := by rw [List.countP_map]; rfl
    rw [e]
    exact k F ms _ _ H Ex.refl hh (.int _) q
theorem am_indexB {d : D} {bs : List Bool} {j : Nat} (hl : LstA F ms d (bs.map D.bl)) (hj : bs[j]? = some true) (hn : ∀ m, m < j → bs[m]? = some false) (q : Q F ms (.int (j : Int))) : AM K "list" (rIndex K) d [.bl true] F ms Q := fun R u vs H Qc hu hv hh k => by
  obtain ⟨a, us, rfl, ha, rr⟩ := hl.to hh hu
  have e := rep_bls rr
  subst e
  cases hv with
  | cons h1 h2 =>
    cases h2
    cases h1
    refine ⟨a, _, _, j, .bl true, rfl, rfl, ha, rfl, flat_bls bs, by rw [List.getElem?_map, hj]; rfl, rfl, fun m z' hm hz => ?_, k F ms _ _ H Ex.refl hh (.int _) q⟩
    rw [List.getElem?_map, hn m hm] at hz
    cases hz
    rfl
/-- raise C('..'), an own class without attributes -/
theorem as_raise {C : Addr} {A : AEnds} (h : Γ.Ea C [] F ms) : AS Γ (fun _ _ H => Γ.E (.ref C) none H) F ms S A := fun R E σ H hs hh l => l.xe F ms C none [] H Ex.refl hh (.inl ⟨rfl, rfl⟩) h
end
end AL

set_option Elab.async false
set_option linter.all false
set_option maxRecDepth 100000
set_option maxHeartbeats 4000000
/-! a lambda handed to a def: what becomes of the heap, told precisely; the exception that its body raises -/
namespace LamY
open PySem PySem.Spec PyProof.Rows L2 LamX
/-- the table at P knows code objects of the name q alone -/
def TabK (H : Hp) (ps : Array Value) (q : Str) : Prop := TriplesOk ps.toList ∧ ∀ (pos : Pos) (cv : Value), codeAmong pos ps.toList = some cv → ∃ c, cv = .ref c ∧ H c = some (CodeO c q)
/-- the making of a lambda: nothing, or a new code object at c' and a row of the table -/
def Grown (P : Addr) (q : Str) (ps : Array Value) (H H1 : Hp) : Prop := H1 = H ∨ ∃ (pos : Pos) (c' : Addr), H c' = none ∧ H1 = upd (upd H P (.tbl (ps ++ #[rawInt pos.line, rawInt pos.col, .ref c']))) c' (CodeO c' q)
section
variable {X : Cx} {pins : List (Addr × Obj)} {σ : L2.St} {H : Hp} {s : Shared}
theorem lam_make3 {c P : Addr} {ps : Array Value} {params : Arguments} {body : Expr} {scope : Scope} {pos : Pos} {E : Value → Shared → Prop} {Q : Value → Shared → Prop} (I : Inv X pins σ H s) (TB : TabB X.base X.mg c P) (hcode : X.env.code = .ref c)
    (hP : H P = some (.tbl ps)) (hT : TabK H ps (X.env.qual ++ "<lambda>")) (hdef : defaultsOf params X.env = ([], [])) (hfree : ∀ y ∈ scope.names, y.2 = .free → ∃ c, X.env.cells.lookup y.1 = some c)
    (h : ∀ (f c' : Addr) (pm ctv : Value) (H1 : Hp) (s' : Shared), Inv X pins σ H1 s' → Grown P (X.env.qual ++ "<lambda>") ps H H1 →
      s'.heap.get? f = some (PySem.W.kla_obj "<lambda>" (X.env.qual ++ "<lambda>") params body scope (cloFrom X.env.cells scope.names []) pm c' ctv) → H1 f = none → f ∉ frs X.stack → H1 c' = some (CodeO c' (X.env.qual ++ "<lambda>")) → Q (.ref f) s') :
    wpAny (model X.prog X.w) X.A (eval (.Lambda params body scope pos) X.env) Q E s := by
  obtain ⟨ht, ha⟩ := hT
  refine PySem.W.kla_eval hdef ?_
  have bP : s.heap.BuiltinsAt X.mg P := TB.bm.keeps I.bk
  have gP : s.heap.get? P = some { cls := .none, data := .fields ps } := I.hok P _ hP
  have young : ∀ f, s.heap.objs.size ≤ f → f ∉ frs X.stack := fun f hf z => by
    rcases List.mem_cons.mp (I.stkSub _ z) with e | e
    · have h1 := I.lt
      rw [← e] at h1
      exact Nat.lt_irrefl _ (Nat.lt_of_lt_of_le h1 hf)
    · exact I.nofs hf e
  cases hc : codeAmong pos ps.toList with
  | some cv =>
    obtain ⟨c', rfl, hco⟩ := ha pos cv hc
    refine PySem.W.kla_makeFunctionHit (mg := X.mg) (c := c) (P := P) (ps := ps) (closure_ok hfree) I.ok.glob (I.mod.glob.keeps I.bk) hcode (TB.code.keeps I.bk) gP ht hc bP fun ctv h' tk hx hsz => ?_
    have I1 : Inv X pins σ H { s with heap := h'.push (PySem.W.kla_obj "<lambda>" (X.env.qual ++ "<lambda>") params body scope (cloFrom X.env.cells scope.names []) ((X.mg "__name__").getD .none) c' ctv), toks := tk } := I.kept fun b o e => Heap.get?_push_of_some _ (hx b o e)
    exact h h'.objs.size c' ((X.mg "__name__").getD .none) ctv H _ I1 (.inl rfl) (Heap.get?_push_size _ rfl) (I.hok.fresh hsz) (young _ hsz) hco
  | none =>
    refine PySem.W.kla_makeFunction (mg := X.mg) (c := c) (P := P) (ps := ps) (closure_ok hfree) I.ok.glob (I.mod.glob.keeps I.bk) hcode (TB.code.keeps I.bk) gP ht hc TB.gP bP fun c' ctv h' tk hx hge hlt hrec htb => ?_
    obtain ⟨c2, oc, vs, t, e2, hoc, hd, hv⟩ := hrec
    cases e2
    have hsz : s.heap.objs.size ≤ h'.objs.size := Nat.le_trans hge (Nat.le_of_lt hlt)
    have nC : H c' = none := I.hok.fresh hge
    have I1 := inv_table (t' := tk) (more := #[rawInt pos.line, rawInt pos.col, .ref c']) (h' := h'.push (PySem.W.kla_obj "<lambda>" (X.env.qual ++ "<lambda>") params body scope (cloFrom X.env.cells scope.names []) ((X.mg "__name__").getD .none) c' ctv)) I hP
      (fun b o hb e => Heap.get?_push_of_some _ (hx b o hb e)) (Heap.get?_push_of_some _ htb) hge ⟨oc, vs, t, Heap.get?_push_of_some _ hoc, hd, hv⟩
    refine h h'.objs.size c' ((X.mg "__name__").getD .none) ctv _ _ I1 (.inr ⟨pos, c', nC, rfl⟩) (Heap.get?_push_size _ rfl) ?_ (young _ hsz) upd_same
    have n1 : h'.objs.size ≠ c' := Nat.ne_of_gt hlt
    have n2 : h'.objs.size ≠ P := Nat.ne_of_gt (Nat.lt_of_lt_of_le (Heap.lt_size gP) hsz)
    rw [upd_ne n1, upd_ne n2]
    exact I.hok.fresh hsz
end
section
variable {X : Cx} {pins : List (Addr × Obj)} {σ : L2.St} {H : Hp} {s : Shared}
/-- x(), in the def that got the lambda; what its body raises is the wish at the very slots -/
theorem pe_act3 {CXg : CXT} {Eg : XK} {Ng : List Str} {qg : Str} {sg : Scope} {g f c' : Addr} {cdg pm ctv : Value} {params : Arguments} {body : Expr} {scope : Scope} {k i : Nat} {a : Str} {pn : List (Addr × Obj)} {xe : Value → Shared → Prop} {W : WX} {tb : XK → TE} {p1 p2 : Pos}
    (I : Inv X pins σ H s) (L : LamS X.env.scope scope) (hf : s.heap.get? f = some (PySem.W.kla_obj "<lambda>" (X.env.qual ++ "<lambda>") params body scope (cloFrom X.env.cells scope.names []) pm c' ctv)) (hfn : H f = none) (hfr : f ∉ frs X.stack)
    (hbind : bindArgs (PySem.W.kla_fn "<lambda>" (X.env.qual ++ "<lambda>") params body scope (cloFrom X.env.cells scope.names []) pm (.ref c') ctv) ⟨[], []⟩ = pure [])
    (tk : Takes ((cxOf CXg X.prog X.w X.K X.mg X.base Ng qg sg g cdg X.A X.stack s H Eg).tr pn xe) W) (hr : Room (k + 1) (X.A.deeper (envOfC qg sg s.heap.objs.size g cdg)))
    (hbody : ∀ (A : Around) (outer : List Env) (s : Shared) (H : Hp) (E : XK), Room k (A.deeper (lamEnv X scope s.heap.objs.size f c')) → PE (lamCx X A outer s H E scope f c') body (tb E))
    (hN : Ng[i]? = some a) (hv : Vis sg a) (hd : (a == ("__debug__" : Str)) = false := by decide) (hcd : (a == ("__classdict__" : Str)) = false := by decide) :
    PE ((cxOf CXg X.prog X.w X.K X.mg X.base Ng qg sg g cdg X.A X.stack s H Eg).tr pn xe) (.Call (.Name a p1) [] [] p2)
      (fun σZ HZ Q => σZ[i]? = some (some (.ref f)) ∧ HZ c' = some (CodeO c' (X.env.qual ++ "<lambda>")) ∧ tb (WE W σZ) σ HZ Q) := by
  refine ⟨fun pinsZ sZ σZ HZ Q IZ h => ?_⟩
  obtain ⟨hs, hc, ht⟩ := h
  refine wpAny_Call_Name_kw (thn ((pe_var (pos := p1) (i := i) hN hv hd hcd).run pinsZ sZ σZ HZ (fun v H1 => v = .ref f ∧ H1 = HZ) IZ ⟨.ref f, hs, rfl, rfl⟩) fun u s1 ⟨v, H1, I1, r1, q1⟩ => ?_)
  obtain ⟨rfl, eH⟩ := q1
  rw [eH] at I1
  obtain rfl : u = Value.ref f := r1
  have of1 : s1.heap.get? f = some (PySem.W.kla_obj "<lambda>" (X.env.qual ++ "<lambda>") params body scope (cloFrom X.env.cells scope.names []) pm c' ctv) := I1.base.keep f _ hf hfn hfr (fun z => nomatch (show f ∈ ([] : List Addr) from z))
  refine PySem.W.callWith_F0 ⟨_, _, _, _, of1⟩ ?_
  have un : Un (frs X.stack) [] H HZ s.heap s1.heap := I1.base
  obtain ⟨⟨oc, vs, t, hoc, hdc, hvc⟩, _, _⟩ := I1.hok c' _ hc
  have rc : codeAny (model X.prog X.w) (X.A.deeper (envOfC qg sg s.heap.objs.size g cdg)) (.call (.ref f) ⟨[], []⟩) (CR (L2.CX X.prog X.w) (envOfC qg sg s.heap.objs.size g cdg :: X.stack) X.prog X.w HZ s1 Q (WE W σZ)) s1 := by
    refine PySem.W.kla_callFunE hr.depth of1 rfl L.co L.gen rfl ⟨c', oc, vs, t, rfl, hoc, hdc, hvc⟩ ?_
    rw [hbind]
    refine wpAny_pure (wpAny_newFunctionEnv (fun y hy => (L.own y hy).2) (fun y hy => absurd hy (by simp)) (fun h₁ hns hsb => ⟨I1.nolimit.fresh _ hsb, ?_⟩) L.kind)
    show codeAny _ _ (.expr body (lamEnv X scope s1.heap.objs.size f c')) _ _
    have kp : ∀ b o, s1.heap.get? b = some o → h₁.get? b = some o := fun b o e => hsb.extBut b o (Nat.ne_of_lt (Heap.lt_size e)) (Heap.get?_push_of_some _ e)
    have J : Inv (lamCx X (X.A.deeper (envOfC qg sg s.heap.objs.size g cdg)) (envOfC qg sg s.heap.objs.size g cdg :: X.stack) s1 HZ (WE W σZ) scope f c') [] σ HZ { s1 with heap := h₁, toks := s1.toks + ([] : List (Str × Value)).length } :=
      lam_start2 I L I1.env0 hr.hd un hns kp
    refine PySem.W.kla_codeExpr (wpAny_mono ((hbody _ _ s1 HZ (WE W σZ) (hr.deeper _)).run [] _ _ HZ Q J ht) (fun v s' hq => ?_) fun e s' hq => hq)
    obtain ⟨w', H', J', rv, q⟩ := hq
    exact ⟨w', H', J'.os, J'.bare, J'.base, J'.hok, rv, q⟩
  refine wpAny_call (codeAny_mono rc fun r s' hq => ?_)
  cases r with
  | error e => exact passAt tk σZ pinsZ HZ s1 e s' I1 hq
  | ok fl =>
    cases fl with
    | ret u => exact I1.after hq
    | next => exact False.elim hq
    | brk => exact False.elim hq
    | cont => exact False.elim hq
end
/-- the def that calls what it got -/
def Gives3 (X : Cx) (Ng : List Str) (x : Str) (sg : Scope) (g : Addr) (cdg : Value) (bg : List Stmt) (a : Str) (q : Str) (TT : (XK → Hp → VK → Prop) → Hp → VK → Prop) (k : Nat) : Prop :=
  ∀ (f c' : Addr) (s : Shared) (H : Hp) (Q : VK) (tl : XK → Hp → VK → Prop), Room (k + 1) (X.A.deeper (envOfC x sg s.heap.objs.size g cdg)) →
    (∀ (W : WX) (pn : List (Addr × Obj)) (xe : Value → Shared → Prop) (p1 p2 : Pos), Takes ((cxOf L2.CX0 X.prog X.w X.K X.mg X.base Ng x sg g cdg X.A X.stack s H L2.E0).nox.tr pn xe) W →
      PE ((cxOf L2.CX0 X.prog X.w X.K X.mg X.base Ng x sg g cdg X.A X.stack s H L2.E0).nox.tr pn xe) (.Call (.Name a p1) [] [] p2) (fun σZ HZ Q => σZ[0]? = some (some (.ref f)) ∧ HZ c' = some (CodeO c' q) ∧ tl (WE W σZ) HZ Q)) →
    H c' = some (CodeO c' q) → TT tl H Q →
    ∃ t, PSs (cxOf L2.CX0 X.prog X.w X.K X.mg X.base Ng x sg g cdg X.A X.stack s H L2.E0).nox bg t ∧ t { nx := fun _ H' => Q .non H', rt := Q } (L2.start Ng [.ref f]) H
def tLam3 (P : Addr) (q : Str) (TT : (XK → Hp → VK → Prop) → Hp → VK → Prop) (t : XK → TE) : TE := fun σ H Q => ∃ ps, H P = some (.tbl ps) ∧ TabK H ps q ∧ ∀ H1, Grown P q ps H H1 → TT (fun E H' Q' => t E σ H' Q') H1 Q
section
variable {X : Cx}
/-- x(lambda: body) -/
theorem pe_lamcall3 {TT : (XK → Hp → VK → Prop) → Hp → VK → Prop} {x a : Str} {g c P : Addr} {k : Nat} {pg : Arguments} {bg : List Stmt} {sg : Scope} {dV kV doc pm cdv ct oc : Value} {an od : Option Addr} {osl : Array (Option Value)} {Ng : List Str}
    {params : Arguments} {body : Expr} {scope : Scope} {t : XK → TE} {p lpos pos : Pos} (hg : Gl X x) (hm : X.mg x = some (.ref g)) (hk : PySem.W.keepIn X.K (.ref g) = true)
    (lk : X.K.lookup g = some ⟨oc, od, .func (PySem.W.fnOf x x pg bg sg dV kV doc pm an cdv ct), osl⟩) (hcg : PySem.W.codeIn X.K cdv x = true) (hb : L2.Binds X.K (PySem.W.fnOf x x pg bg sg dV kV doc pm an cdv ct) [a] []) (Sg : FnScope Ng [a] sg) (hNg : Ng[0]? = some a) (hva : Vis sg a)
    (hG : Gives3 X Ng x sg g cdv bg a (X.env.qual ++ "<lambda>") TT k)
    (TB : TabB X.base X.mg c P) (hcode : X.env.code = .ref c) (hr : Room (k + 2) X.A) (L : LamS X.env.scope scope) (hdef : defaultsOf params X.env = ([], []))
    (hbind : ∀ (q : Str) (cl : List (Str × Addr)) (pm cv ctv : Value), bindArgs (PySem.W.kla_fn "<lambda>" q params body scope cl pm cv ctv) ⟨[], []⟩ = pure [])
    (hbody : ∀ (A : Around) (outer : List Env) (s : Shared) (H : Hp) (E : XK) (f c' : Addr), Room k (A.deeper (lamEnv X scope s.heap.objs.size f c')) → PE (lamCx X A outer s H E scope f c') body (t E))
    (hdb : (x == ("__debug__" : Str)) = false := by decide) (hd : (a == ("__debug__" : Str)) = false := by decide) (hcd : (a == ("__classdict__" : Str)) = false := by decide) :
    PE X (.Call (.Name x p) [.Lambda params body scope lpos] [] pos) (tLam3 P (X.env.qual ++ "<lambda>") TT t) := by
  refine ⟨fun pins s σ H Q I h => ?_⟩
  obtain ⟨ps, hP, hT, h⟩ := h
  refine wpAny_Call_Name_kw (ld_glob I hg hm ?_ hdb)
  refine PySem.W.callWith_K (h₀ := X.base) I.ok.mod.kin hk ?_ (by rfl) (by rfl)
  show wpAny _ _ (spliced ((false, eval (.Lambda params body scope lpos) X.env) :: backTo pos (starEach [] X.env))) _ _ s
  refine Calls.spliced_cons (lam_make3 I TB hcode hP hT hdef (L.has I.ok) fun f c' pm' ctv H1 s' I1 eN hf hfn hfr hco => ?_)
  refine Calls.spliced_nil ⟨I1.kIn, ?_⟩
  have rc : codeAny (model X.prog X.w) X.A (.call (.ref g) ⟨[.ref f], []⟩) (CR L2.CX0 X.stack X.prog X.w H1 s' Q L2.E0) s' := by
    refine run_ofS (N := Ng) (ps := [a]) (us := [.ref f]) (vs := [.ref f]) lk hcg Sg hr I1.env0 (hb s' [.ref f] I1.kIn rfl) (.cons rfl .nil) rfl fun hr' => ?_
    obtain ⟨t', ht', hq'⟩ := hG f c' s' H1 Q (fun E H' Q' => t E σ H' Q') hr' (fun W pn xe p1 p2 tk => pe_act3 (CXg := L2.CX0) (Eg := L2.E0) (i := 0) I1 L hf hfn hfr (hbind _ _ _ _ _) tk hr' (fun A outer s H E hr2 => hbody A outer s H E f c' hr2) hNg hva hd hcd) hco (h H1 eN)
    exact ⟨t', ht'.nox, hq'⟩
  refine wpAny_call (codeAny_mono rc fun r s2 hq => ?_)
  cases r with
  | error e => exact (show False from hq).elim
  | ok fl =>
    cases fl with
    | ret u => exact I1.after hq
    | next => exact False.elim hq
    | brk => exact False.elim hq
    | cont => exact False.elim hq
end
end LamY
namespace AL
open PySem L2 LamX LamY
/-- the table at P: owned, and what it knows -/
def TabA (F : Hp) (ms : Ms) (n : Nat) (P : Addr) (q : Str) : Prop := ∃ ps, ms[n]? = some (P, .raw (.tbl ps)) ∧ TabK F ps q
theorem TabA.ex {F F' : Hp} {ms : Ms} {n : Nat} {P : Addr} {q : Str} (e : Ex F F') : TabA F ms n P q → TabA F' ms n P q := fun ⟨ps, h, t, a⟩ => ⟨ps, h, t, fun pos cv hc => by obtain ⟨c, h1, h2⟩ := a pos cv hc; exact ⟨c, h1, e _ _ h2⟩⟩
theorem TabA.at {F : Hp} {ms ms' : Ms} {n n' : Nat} {P : Addr} {q : Str} (e : ∀ m, ms[n]? = some (P, m) → ms'[n']? = some (P, m)) : TabA F ms n P q → TabA F ms' n' P q := fun ⟨ps, h, t⟩ => ⟨ps, e _ h, t⟩
/-- what a def makes of a call that raises D: res, told in data -/
def TTerr (K : Frg) (C : Addr) (res : AL.D) : (XK → Hp → VK → Prop) → Hp → VK → Prop := fun tl H Q => ∃ (F : Hp) (ms : Ms), Hold K F ms H ∧
  ∀ (E : XK) (Q' : VK), (∀ H' F' ms', Ex F F' → Hold K F' ms' H' → (∀ F2 v H2, Ex F' F2 → Hold K F2 ms' H2 → Rep K F2 res v → Q v H2) → E (.ref C) none H') → tl E H Q'
section
variable {Γ : Cg} {F : Hp} {ms : Ms} {S : Sg} {Q : QE}
theorem ae_lam3 {P C : Addr} {q : Str} {n : Nat} {res : D} {t : XK → TE} (hT : TabA F ms n P q)
    (h : ∀ F1 ms1, Ex F F1 → TabA F1 ms1 n P q → (∃ ps', ms1 = ms.set n (P, .raw (.tbl ps'))) → ∀ E : XK, AE ⟨Γ.K, E, fun C' fs F' ms' => C' = C ∧ fs = [] ∧ ∀ F2, Ex F' F2 → Q F2 ms' res⟩ (t E) F1 ms1 S fun _ _ _ => False) :
    AE Γ (tLam3 P q (TTerr Γ.K C res) t) F ms S Q := fun R σ H Qc hs hh x k => by
  obtain ⟨ps, hn, ht, ha⟩ := hT
  have hP : H P = some (.tbl ps) := (hh.at (get_app hn)).2
  refine ⟨ps, hP, ⟨ht, fun pos cv hc => by obtain ⟨c, h1, h2⟩ := ha pos cv hc; exact ⟨c, h1, hh.ex _ _ h2⟩⟩, fun H1 g => ?_⟩
  have fin : ∀ F1 ms1, Ex F F1 → Hold Γ.K F1 (ms1 ++ R) H1 → TabA F1 ms1 n P q → (∃ ps', ms1 = ms.set n (P, .raw (.tbl ps'))) → TTerr Γ.K C res (fun E H' Q' => t E σ H' Q') H1 Qc := fun F1 ms1 e1 h1 T1 hms =>
    ⟨F1, ms1 ++ R, h1, fun E Q' hE => h F1 ms1 e1 T1 hms E R σ H1 _ (hs.mono e1) h1 (fun F' ms' C' dx fs H' e' hh' xd ⟨hC, hf, q⟩ => by
      subst hC hf
      rcases xd with ⟨rfl, _⟩ | ⟨_, _, _, hne, _⟩
      · exact hE H' F' (ms' ++ R) e' hh' fun F2 v H2 e2 h2 r => k F2 ms' res v H2 ((e1.trans e').trans e2) h2 r (q F2 e2)
      · exact absurd rfl hne) fun _ _ _ _ _ _ _ _ z => z.elim⟩
  rcases g with rfl | ⟨pos, c', hc', rfl⟩
  · exact fin F ms Ex.refl hh ⟨ps, hn, ht, ha⟩ ⟨ps, (set_same hn).symm⟩
  · have nP : c' ≠ P := fun z => by rw [z, hP] at hc'; cases hc'
    have h2 := hh.set (m' := .raw (.tbl (ps ++ #[rawInt pos.line, rawInt pos.col, .ref c']))) (o := .tbl (ps ++ #[rawInt pos.line, rawInt pos.col, .ref c'])) (get_app hn) upd_same
    rw [set_app hn] at h2
    obtain ⟨e1, h3⟩ := h2.laid (p := c') (CodeO c' q) (by rw [upd_ne nP]; exact hc')
    have eL : (ps ++ #[rawInt pos.line, rawInt pos.col, .ref c']).toList = ps.toList ++ [rawInt pos.line, rawInt pos.col, .ref c'] := by simp
    refine fin _ _ e1 h3 ⟨_, set_get (List.getElem?_eq_some_iff.mp hn).1, by rw [eL]; exact PySem.TriplesOk_snoc _ _ _ _ ht, fun p' cv hcv => ?_⟩ ⟨_, rfl⟩
    rw [eL] at hcv
    rcases among_app _ ht hcv with z | z
    · obtain ⟨c0, g1, g2⟩ := ha p' cv z
      exact ⟨c0, g1, e1 _ _ g2⟩
    · exact ⟨c', z, upd_same⟩
end
end AL

set_option Elab.async false
set_option linter.all false
set_option maxRecDepth 100000
set_option maxHeartbeats 4000000
/-! the def that calls what it got and tells the error; the start of a law that makes lambdas -/
namespace L2
open PySem PySem.Spec PyProof.Rows
theorem pe_never {X : Cx} {e : Expr} : PE X e (fun _ _ _ => False) := ⟨fun _ _ _ _ _ _ h => h.elim⟩
end L2
namespace LamY
open PySem PySem.Spec PyProof.Rows L2 LamX
section
variable {X : Cx}
/-- x(lambda: body), x by its place -/
theorem pe_lamcallF {TT : (XK → Hp → VK → Prop) → Hp → VK → Prop} {x a : Str} {g c P : Addr} {k : Nat} {st : Stmt} {fd : FuncData} {Ng : List Str}
    {params : Arguments} {body : Expr} {scope : Scope} {t : XK → TE} {p lpos pos : Pos} (Fn : Fun X.K x x st g fd) (hg : Gl X x) (hm : X.mg x = some (.ref g)) (hb : L2.Binds X.K fd [a] []) (Sg : FnScope Ng [a] (defScope st)) (hNg : Ng[0]? = some a) (hva : Vis (defScope st) a)
    (hG : ∀ cdv, Gives3 X Ng x (defScope st) g cdv (defBody st) a (X.env.qual ++ "<lambda>") TT k)
    (TB : TabB X.base X.mg c P) (hcode : X.env.code = .ref c) (hr : Room (k + 2) X.A) (L : LamS X.env.scope scope) (hdef : defaultsOf params X.env = ([], []))
    (hbind : ∀ (q : Str) (cl : List (Str × Addr)) (pm cv ctv : Value), bindArgs (PySem.W.kla_fn "<lambda>" q params body scope cl pm cv ctv) ⟨[], []⟩ = pure [])
    (hbody : ∀ (A : Around) (outer : List Env) (s : Shared) (H : Hp) (E : XK) (f c' : Addr), Room k (A.deeper (lamEnv X scope s.heap.objs.size f c')) → PE (lamCx X A outer s H E scope f c') body (t E))
    (hdb : (x == ("__debug__" : Str)) = false := by decide) (hd : (a == ("__debug__" : Str)) = false := by decide) (hcd : (a == ("__classdict__" : Str)) = false := by decide) :
    PE X (.Call (.Name x p) [.Lambda params body scope lpos] [] pos) (tLam3 P (X.env.qual ++ "<lambda>") TT t) := by
  obtain ⟨⟨oc, od, kV, doc, pm, an, cdv, ct, osl, rfl, lk, hcd0⟩, kp⟩ := Fn
  exact pe_lamcall3 hg hm kp lk hcd0 hb Sg hNg hva (hG cdv) TB hcode hr L hdef hbind hbody hdb hd hcd
end
end LamY
namespace AL
open PySem L2 LamX LamY
section
variable {K : Frg} {F : Hp} {ms : Ms} {Q : QE}
/-- isinstance(e, c), e the caught error of the class C -/
theorem ac_isE {C a c : Addr} {b : Bool} (h : PySem.W.kitOne K (.ref C) (.ref c) = some b) (q : Q F ms (.bl b)) : AC K (rIsE K C a) [.ref a, .ref c] F ms Q := fun R vs H Qc hv hh k => by
  cases hv with
  | cons h1 h2 =>
    cases h2 with
    | cons h2 h3 =>
      cases h3
      cases h1
      cases h2
      exact ⟨.ref c, .ref c, b, rfl, fun u r => r, h, k F ms _ _ H Ex.refl hh (.bl _) q⟩
theorem ac_isEt {C a : Addr} {n : String} {b : Bool} (h : PySem.W.kitOne K (.ref C) (.type n) = some b) (q : Q F ms (.bl b)) : AC K (rIsE K C a) [.ref a, .ty n] F ms Q := fun R vs H Qc hv hh k => by
  cases hv with
  | cons h1 h2 =>
    cases h2 with
    | cons h2 h3 =>
      cases h3
      cases h1
      cases h2
      exact ⟨.ty n, .type n, b, rfl, fun u r => r, h, k F ms _ _ H Ex.refl hh (.bl _) q⟩
end
/-- try: a() / except x as e: suite; return None — told of a call that raises C -/
theorem err_gives {X : Cx} {K : Frg} (hK : X.K = K) {Ng : List Str} {x a e n q : Str} {sg : Scope} {g CS C : Addr} {cdg : Value} {k : Nat} {suite : List Stmt} {b₀ : Stmt} {p1 p2 p3 p4 p5 p6 p7 p8 : Pos} {j : Nat} {res : D} {S : Sg}
    (hge : sg.names.lookup e = some .globalImplicit) (hme : X.mg e = some (.ref CS)) (hde : (e == ("__debug__" : Str)) = false) (hN : Ng.Nodup) (hi : Ng[1]? = some n) (hln : sg.names.lookup n = some .local)
    (hx : PySem.W.exmOne K (.ref C) (.ref CS) = some true) (h0 : ∀ f : Addr, (L2.start Ng [V.ref f])[0]? = some (some (V.ref f))) (hS : ∀ f b : Addr, (startS Ng [.ref f]).set 1 (some (.ref b)) = some (.ref f) :: some (.ref b) :: S)
    (hsuite : ∀ (f b : Addr) (s : Shared) (H : Hp), Room (k + 1) (X.A.deeper (PyProof.Rows.envOfC x sg s.heap.objs.size g cdg)) →
      ∃ ts, (∀ (oe : Obj) (pn : List (Addr × Obj)), Zc (.ref C) none oe → (∃ vs, oe.data = .fields vs) → PSs ((cxOf L2.CX0 X.prog X.w X.K X.mg X.base Ng x sg g cdg X.A X.stack s H L2.E0).nox.suite b ((b, oe) :: pn)) (b₀ :: suite) ts) ∧
        ∀ (F : Hp) (ms : Ms), AS ⟨K, E0, fun _ _ _ _ => False⟩ ts F ms (some (.ref f) :: some (.ref b) :: S) { nx := fun _ _ _ => False, rt := fun _ ms' d => ms' = ms ∧ d = res }) :
    Gives3 X Ng x sg g cdg [.Try [.Expr (.Call (.Name a p1) [] [] p2) p3] [.ExceptHandler (some (.Name e p4)) (some n) (b₀ :: suite) p5] [] [] p6, .Return (some (.Constant .none j p7)) p8] a q (TTerr K C res) k := by
  subst hK
  intro f c' s H Q tl hr act hc htt
  obtain ⟨F, ms, hh, htl⟩ := htt
  have hgl : Gl (cxOf L2.CX0 X.prog X.w X.K X.mg X.base Ng x sg g cdg X.A X.stack s H L2.E0).nox e := hge
  refine ⟨_, pss_cons (ps_try_as (X := (cxOf L2.CX0 X.prog X.w X.K X.mg X.base Ng x sg g cdg X.A X.stack s H L2.E0).nox) (c := .ref CS) (i := 1)
      (tb := fun W D σ H => σ[0]? = some (some (.ref f)) ∧ H c' = some (CodeO c' q) ∧ tl (WE W σ) H fun _ H' => D.nx σ H')
      (ts := fun b cls d D σ' H' => cls = .ref C ∧ d = none ∧ ∃ ts : TS, (∀ (oe : Obj) (pn : List (Addr × Obj)), Zc (.ref C) none oe → (∃ vs, oe.data = .fields vs) → PSs ((cxOf L2.CX0 X.prog X.w X.K X.mg X.base Ng x sg g cdg X.A X.stack s H L2.E0).nox.suite b ((b, oe) :: pn)) (b₀ :: suite) ts) ∧ ts D σ' H')
      rfl rfl hN hi hln ⟨hgl, hde, .inl hme⟩ L2.takes0 (fun W pn xe tk _ => ?_) (fun b oe cls d pn hz hf => ?_)) (pss_one (ps_ret pe_non)), ?_⟩
  · exact ⟨fun pins s' σ' H' D I h => (pss_one (ps_expr (pos := p3) (act W pn xe p1 p2 tk))).run pins s' σ' H' D I h⟩
  · refine ⟨fun pins s' σ' H' D I h => ?_⟩
    obtain ⟨rfl, rfl, ts, hp, ht⟩ := h
    exact (hp oe pn hz hf).run pins s' σ' H' D I ht
  · refine ⟨h0 f, hc, htl _ _ fun H' F' ms' e1 h1 hfin => ⟨true, hx, fun _ b hb => ?_, fun z => nomatch z⟩⟩
    obtain ⟨ts, hp, hA⟩ := hsuite f b s H hr
    refine ⟨rfl, rfl, ts, hp, hA F' ms' [] _ _ H' ?_ (by rw [List.append_nil]; exact h1) ⟨fun _ _ _ _ _ _ _ _ _ z => z.elim, fun _ _ _ _ _ _ _ _ z => z.elim, fun F2 ms2 d v H2 e2 h2 r ⟨hm, hd⟩ => ?_, fun _ _ _ _ _ _ _ _ z => z.elim, fun _ _ _ _ _ _ _ _ z => z.elim⟩⟩
    · rw [← hS f b]
      exact (start_rep (RepL.one (.ref f))).set (.ref b)
    · subst hm hd
      rw [List.append_nil] at h2
      exact hfin F2 v H2 e2 h2 r
/-! ### the start -/
section
variable {P : Program} {w : World} {K : Frg} {mg : Str → Option Value} {base : Heap}
/-- a def's place, its code object told -/
structure FunC (K : Frg) (x qual : Str) (st : Stmt) (f : Addr) (fd : FuncData) (c : Addr) : Prop where
  ex : ∃ (oc : Value) (od : Option Addr) (kV doc pm : Value) (an : Option Addr) (ct : Value) (osl : Array (Option Value)),
    fd = PySem.W.fnOf x qual (defArgs st) (defBody st) (defScope st) .none kV doc pm an (.ref c) ct ∧ K.lookup f = some ⟨oc, od, .func fd, osl⟩ ∧ PySem.W.codeIn K (.ref c) qual = true
theorem fn_okC {x qual : Str} {st : Stmt} {f c : Addr} {fd : FuncData} {N ps : List Str} {k : Nat} {sp : ASp} (Fn : FunC K x qual st f fd c) (Sc : FnScope N ps (defScope st)) (len : ∀ ds F ms Q E, sp ds F ms Q E → ds.length = ps.length)
    (hbody : ∀ (A : Around) (outer : List Env) (s : Shared) (H : Hp) (E : XK), Room k (A.deeper (PyProof.Rows.envOfC qual (defScope st) s.heap.objs.size f (.ref c))) → ∃ t, PSs (cxOf L2.CX0 P w K mg base N qual (defScope st) f (.ref c) A outer s H E).nox (defBody st) t ∧
      ∀ ds F ms Q Ea, sp ds F ms Q Ea → AS ⟨K, E0, fun _ _ _ _ => False⟩ t F ms (startS N ds) { nx := fun F' ms' _ => Q F' ms' .non, rt := Q }) : FnOk P w K mg base L2.CX0 (k + 1) f fd ps (toSp K sp) := by
  obtain ⟨oc, od, kV, doc, pm, an, ct, osl, rfl, lk, hcd⟩ := Fn.ex
  refine fn_of lk hcd Sc (fun vs H Q E h => ?_) fun A outer s H vs Q E hr hsp => ?_
  · obtain ⟨F0, ms, R, ds, Qa, Ea, h1, h2, h3, _⟩ := h
    rw [← h2.len]
    exact len _ _ _ _ _ h3
  · obtain ⟨F0, ms, R, ds, Qa, Ea, h1, h2, h3, h4, h5⟩ := hsp
    obtain ⟨t, ht, q⟩ := hbody A outer s H E hr
    exact ⟨t, ht.nox, q ds F0 ms Qa Ea h3 R _ _ H (start_rep h2) h1 ⟨fun _ _ _ _ _ _ _ _ _ z => z.elim, fun F' ms' S' σ' H' e a b q' => h4 F' ms' .non .non H' e b .non q', fun F' ms' d v H' e b r q' => h4 F' ms' d v H' e b r q', fun _ _ _ _ _ _ _ _ z => z.elim, fun _ _ _ _ _ _ _ _ z => z.elim⟩⟩
end
theorem start_lawT {K : Frg} {H : Hp} {a T : Addr} {q : Str} {ns : List Int} {sp : ASp} (hT : H T = some (.tbl #[])) (nT : K.lookup T = none) (hS : SqL K H a (ns.map V.int)) (hq : ∀ F ms, TabA F ms 0 T q → sp [.rdl (ns.map D.int)] F ms (fun _ _ d => d = .bl true) fun _ _ _ _ => False) : toSp K sp [.ref a] H (fun v _ => v = .bl true) fun _ _ _ => False := by
  have hex : Ex (fun b => if b = T then none else H b) H := fun b o e => by
    by_cases hb : b = T
    · have e : (if b = T then none else H b) = some o := e
      rw [if_pos hb] at e; cases e
    · have e : (if b = T then none else H b) = some o := e
      rw [if_neg hb] at e; exact e
  have ne : a ≠ T ∨ True := .inr trivial
  have hS' : SqL K (fun b => if b = T then none else H b) a (ns.map V.int) := by
    rcases hS with hd | hk
    · by_cases hb : a = T
      · rw [hb] at hd
        rcases hd with hd | ⟨o, hd⟩
        · rw [hT] at hd; cases hd
        · rw [hT] at hd; cases hd
      · refine .inl ?_
        rcases hd with hd | ⟨o, hd⟩
        · exact .inl ((if_neg hb).trans hd)
        · exact .inr ⟨o, (if_neg hb).trans hd⟩
    · exact .inr hk
  refine ⟨fun b => if b = T then none else H b, [(T, .raw (.tbl #[]))], [], [.rdl (ns.map D.int)], _, _, ⟨hex, fun p hp => ?_, by simp⟩, .cons (.rdl hS' ?_) .nil, hq _ _ ⟨#[], rfl, True.intro, fun pos cv hc => ?_⟩, fun F' ms' d v H' _ _ r e => ?_, fun _ _ _ _ _ _ _ _ _ z => z.elim⟩
  · have hp : p ∈ [(T, MO.raw (.tbl #[]))] ++ [] := hp
    rw [List.append_nil] at hp
    rw [List.mem_singleton.mp hp]
    exact ⟨if_pos rfl, hT⟩
  · clear hS hq hS'
    induction ns with
    | nil => exact .nil
    | cons i ns ih => exact .cons (.int i) ih
  · have z : codeAmong pos [] = some cv := hc
    simp [codeAmong] at z
  · subst e
    cases r
    rfl
end AL
namespace AL
open PySem
theorem codeHd_shape {K : Frg} {c P : Addr} (e : PySem.W.codeHdIn K c P = true) : ∃ (x : Value) (dd : Option Addr) (vs : Array Value) (sl : Array (Option Value)), K.lookup c = some ⟨x, dd, .fields vs, sl⟩ ∧ vs[11]? = some (.ref P) := by
  unfold PySem.W.codeHdIn at e
  split at e
  · rename_i vs _ hk
    simp only [Bool.and_eq_true] at e
    obtain ⟨⟨⟨⟨⟨e1, _⟩, _⟩, _⟩, _⟩, _⟩ := e
    split at e1
    · rename_i P' hv
      have e1 := eq_of_beq e1
      subst e1
      exact ⟨_, _, _, _, hk, hv⟩
    · cases e1
  · cases e
end AL

set_option Elab.async false
set_option linter.all false
set_option maxRecDepth 100000
set_option maxHeartbeats 4000000
/-! calls of what raises nothing, where something may be raised -/
namespace AL
open PySem L2
section
variable {Γ : Cg} {F : Hp} {ms : Ms} {S : Sg} {Q : QE} {ta : TE}
theorem ae_callZ {sp : ASp} {t : TA} (h : AA Γ t F ms S fun F1 ms1 ds => sp ds F1 ms1 Q fun _ _ _ _ => False) : AE Γ (tCall (toSp Γ.K sp) [] E0 t) F ms S Q := fun R σ H Qc hs hh x k =>
  h R σ H _ hs hh x fun F1 ms1 ds vs H1 e1 h1 r1 q1 => by
    show toSp Γ.K sp (vs ++ []) H1 Qc E0
    rw [List.append_nil]
    exact ⟨F1, ms1, R, ds, Q, _, h1, r1, q1, fun F' ms' d v H' e => k F' ms' d v H' (e1.trans e), fun _ _ _ _ _ _ _ _ _ z => z.elim⟩
theorem ae_methZ {C : Addr} {m : Str} {sp : ASp} {ta' : TA} (h : AE Γ ta F ms S fun F1 ms1 x => ∃ a fs, x = .ref a ∧ InsA Γ.K F1 ms1 a C fs ∧ fs.lookup m = none ∧ AA Γ ta' F1 ms1 S fun F2 ms2 ds => sp (.ref a :: ds) F2 ms2 Q fun _ _ _ _ => False) :
    AE Γ (tMeth C m (toSp Γ.K sp) [] E0 ta ta') F ms S Q := fun R σ H Qc hs hh x k =>
  h R σ H _ hs hh x fun F1 ms1 d1 v1 H1 e1 h1 r1 ⟨a, fs, hx, hi, hl, q⟩ => by
    subst hx
    cases r1
    obtain ⟨dx, gs, i1, i2, i3⟩ := hi.to h1
    refine ⟨a, dx, gs, rfl, i1, i3.lookN hl, q R σ H1 _ (hs.mono e1) h1 (x.ex e1) fun F2 ms2 ds vs H2 e2 h2 r2 q2 => ?_⟩
    show toSp Γ.K sp (V.ref a :: (vs ++ [])) H2 Qc E0
    rw [List.append_nil]
    exact ⟨F2, ms2, R, .ref a :: ds, Q, _, h2, .cons (.ref a) r2, q2, fun F' ms' d v H' e => k F' ms' d v H' ((e1.trans e2).trans e), fun _ _ _ _ _ _ _ _ _ z => z.elim⟩
end
end AL

set_option Elab.async false
set_option linter.all false
set_option maxRecDepth 100000
set_option maxHeartbeats 4000000
/-! in, of whole numbers -/
namespace AL
open PySem L2 PyProof.Rows
section
variable {K : Frg} {F : Hp} {ms : Ms} {Q : QE}
theorem in_intsV (x : Int) (xs : List Int) : inV (.int x) (xs.map V.int) = decide (x ∈ xs) := by
  unfold inV
  rw [List.any_map]
  by_cases h : x ∈ xs
  · rw [decide_eq_true h]
    exact List.any_eq_true.mpr ⟨x, h, by simp [eqV]⟩
  · rw [decide_eq_false h, List.any_eq_false]
    intro y hy z
    simp [eqV] at z
    exact h (z ▸ hy)
theorem seq_ints {d : D} {xs : List Int} {v : V} {H : Hp} {R : Ms} (hd : LstA F ms d (xs.map D.int) ∨ d = .tup (xs.map D.int)) (hh : Hold K F (ms ++ R) H) (hr : Rep K F d v) : ∃ p, v = .ref p ∧ (SqL K H p (xs.map V.int) ∨ SqT K H p (xs.map V.int)) := by
  rcases hd with hl | rfl
  · obtain ⟨a, us, rfl, ha, rr⟩ := hl.to hh hr
    have e := rep_ints rr
    subst e
    exact ⟨a, rfl, .inl ha⟩
  · cases hr with
    | tup hq rr =>
      have e := rep_ints rr
      subst e
      exact ⟨_, rfl, .inr (ex_t hh.ex hq)⟩
theorem ar_INz {d : D} {x : Int} {xs : List Int} (hd : LstA F ms d (xs.map D.int) ∨ d = .tup (xs.map D.int)) (q : Q F ms (.bl (decide (x ∈ xs)))) : AR K (rIN K) (.int x) d F ms Q := ar_inr fun R u v H Qc hu hv hh k => by
  cases hu
  obtain ⟨p, rfl, hs⟩ := seq_ints hd hh hv
  refine ⟨p, _, rfl, hs, rfl, ?_, ?_⟩
  · rw [List.all_map]
    exact List.all_eq_true.mpr fun y _ => rfl
  · show Qc (.bl (inV (.int x) (xs.map V.int))) H
    rw [in_intsV]
    exact k F ms _ _ H Ex.refl hh (.bl _) q
theorem ar_NOTINz {d : D} {x : Int} {xs : List Int} (hd : LstA F ms d (xs.map D.int) ∨ d = .tup (xs.map D.int)) (q : Q F ms (.bl (!decide (x ∈ xs)))) : AR K (rNOTIN K) (.int x) d F ms Q := ar_inr fun R u v H Qc hu hv hh k => by
  cases hu
  obtain ⟨p, rfl, hs⟩ := seq_ints hd hh hv
  refine ⟨p, _, rfl, hs, rfl, ?_, ?_⟩
  · rw [List.all_map]
    exact List.all_eq_true.mpr fun y _ => rfl
  · show Qc (.bl (!inV (.int x) (xs.map V.int))) H
    rw [in_intsV]
    exact k F ms _ _ H Ex.refl hh (.bl _) q
end
/-! owned objects behind a prefix -/
theorem app_at {E R : Ms} (c : Nat) : (E ++ R)[E.length + c]? = R[c]? := by
  rw [List.getElem?_append_right (Nat.le_add_right _ _), Nat.add_sub_cancel_left]
theorem app_set {E R : Ms} {c : Nat} {v : Addr × MO} : (E ++ R).set (E.length + c) v = E ++ R.set c v := by
  rw [List.set_append_right _ _ (Nat.le_add_right _ _), Nat.add_sub_cancel_left]
end AL

set_option Elab.async false
set_option linter.all false
set_option maxRecDepth 100000
set_option maxHeartbeats 4000000
/-! defs with a star parameter; a try that raises nothing; owned lists compared -/
namespace AL
open PySem PySem.Spec L2 PyProof.Rows
/-- called with some more arguments: they are a tuple -/
def spV (sp : ASp) : ASp := fun ds F ms Q Ea => ∃ d0 rest, ds = d0 :: rest ∧ rest.length ≤ 5 ∧ ∀ F', Ex F F' → sp [d0, .tup rest] F' ms Q Ea
section
variable {P : Program} {w : World} {K : Frg} {mg : Str → Option Value} {base : Heap}
theorem fn_okV {x qual : Str} {st : Stmt} {f : Addr} {fd : FuncData} {N : List Str} {pa pv : Str} {k : Nat} {sp : ASp} (Fn : Fun K x qual st f fd) (Sc : FnScope N [pa, pv] (defScope st))
    (hb : ∀ (u : Value) (rest : List Value), rest.length ≤ 5 → bindArgs fd ⟨u :: rest, []⟩ = (newTuple rest >>= fun t => pure [(pa, u), (pv, t)]))
    (hbody : ∀ (cdv : Value) (A : Around) (outer : List Env) (s : Shared) (H : Hp) (E : XK), Room k (A.deeper (PyProof.Rows.envOfC qual (defScope st) s.heap.objs.size f cdv)) → ∃ t, PSs (cxOf L2.CX0 P w K mg base N qual (defScope st) f cdv A outer s H E).nox (defBody st) t ∧
      ∀ ds F ms Q Ea, sp ds F ms Q Ea → AS ⟨K, E0, fun _ _ _ _ => False⟩ t F ms (startS N ds) { nx := fun F' ms' _ => Q F' ms' .non, rt := Q }) : FnR P w K mg base L2.CX0 (k + 1) f (toSp K (spV sp)) := by
  obtain ⟨oc, od, kV, doc, pm, an, cdv, ct, osl, rfl, lk, hcd⟩ := Fn.ex
  refine FnR.imp (fn_ofV (nmax := 5) (sp := toSp K sp) lk hcd Sc (by decide) hb (fun _ _ _ _ _ _ _ _ _ _ _ _ z => z) fun A outer s H vs Q E hr hsp => ?_) fun vs H Q E h => ?_
  · obtain ⟨F0, ms, R, ds, Qa, Ea, h1, h2, h3, h4, h5⟩ := hsp
    obtain ⟨t, ht, q⟩ := hbody cdv A outer s H E hr
    exact ⟨t, ht.nox, q ds F0 ms Qa Ea h3 R _ _ H (start_rep h2) h1 ⟨fun _ _ _ _ _ _ _ _ _ z => z.elim, fun F' ms' S' σ' H' e a b q' => h4 F' ms' .non .non H' e b .non q', fun F' ms' d v H' e b r q' => h4 F' ms' d v H' e b r q', fun _ _ _ _ _ _ _ _ z => z.elim, fun _ _ _ _ _ _ _ _ z => z.elim⟩⟩
  · obtain ⟨F0, ms, R, ds, Qa, Ea, h1, h2, ⟨d0, rest, rfl, hl, hq⟩, h4, h5⟩ := h
    cases h2 with
    | cons r0 rr =>
      refine ⟨_, _, rfl, by rw [← rr.len]; exact hl, fun p hp => ?_⟩
      obtain ⟨e2, h6⟩ := h1.laid (.tup _) hp
      exact ⟨_, ms, R, [d0, .tup rest], Qa, Ea, h6, .cons (r0.mono e2) (.cons (.tup (SqT.of upd_same) (rr.mono e2)) .nil), hq _ e2, fun F' ms' d v H' e => h4 F' ms' d v H' (e2.trans e), h5.ex e2⟩
end
section
variable {Γ : Cg} {F : Hp} {ms : Ms} {S : Sg} {Q : QE} {ta : TE}
theorem ae_methR {C : Addr} {m : Str} {sp : ASp} {ta' : TA} (h : AE Γ ta F ms S fun F1 ms1 x => ∃ a fs, x = .ref a ∧ InsA Γ.K F1 ms1 a C fs ∧ fs.lookup m = none ∧ AA Γ ta' F1 ms1 S fun F2 ms2 ds => sp (.ref a :: ds) F2 ms2 Q Γ.Ea) :
    AE Γ (tMethR C m (toSp Γ.K sp) Γ.E ta ta') F ms S Q := fun R σ H Qc hs hh x k =>
  h R σ H _ hs hh x fun F1 ms1 d1 v1 H1 e1 h1 r1 ⟨a, fs, hx, hi, hl, q⟩ => by
    subst hx
    cases r1
    obtain ⟨dx, gs, i1, i2, i3⟩ := hi.to h1
    refine ⟨a, dx, gs, rfl, i1, i3.lookN hl, q R σ H1 _ (hs.mono e1) h1 (x.ex e1) fun F2 ms2 ds vs H2 e2 h2 r2 q2 => ?_⟩
    exact ⟨F2, ms2, R, .ref a :: ds, Q, _, h2, .cons (.ref a) r2, q2, fun F' ms' d v H' e => k F' ms' d v H' ((e1.trans e2).trans e), x.ex (e1.trans e2)⟩
end
section
variable {X : Cx}
/-- a try of which nothing is raised -/
theorem ps_tryN {body : List Stmt} {x : Str} {c : Value} {np pos' pos : Pos} {b₀ : Stmt} {suite : List Stmt} {tb : TS} {Wout : WX} (hs : X.stack = X.env :: X.outer) (hf : X.env.frame = some X.env.locals) (hc : Names X x c) (tk : Takes X Wout)
    (hb : ∀ (W : WX) (pn : List (Addr × Obj)) (xe : Value → Shared → Prop), Takes (X.tr pn xe) W → PassesOwn (model X.prog X.w) X.A X.env xe → PSs (X.tr pn xe) body tb) :
    PS X (.Try body [.ExceptHandler (some (.Name x np)) none (b₀ :: suite) pos'] [] [] pos) tb :=
  ps_try_only (tb := fun _ => tb) (ts := fun _ _ _ => tNever) hs hf hc tk hb fun _ _ _ _ _ _ _ => pss_never
end
section
variable {K : Frg} {F : Hp} {ms : Ms} {Q : QE}
theorem ar_NEoo {l l' : Addr} {ds es : List D} (n n' : Nat) (hn : ms[n]? = some (l, .lst ds)) (hn' : ms[n']? = some (l', .lst es)) (h1 : okL ds = true) (h2 : okL es = true) (h3 : depL ds < 64) (h4 : depL es < 64) (q : Q F ms (.bl (!eqvD (.lst ds) (.lst es)))) : AR K (rNE K) (.ref l) (.ref l') F ms Q := ar_inr fun R u v H Qc hu hv hh k => by
  cases hu
  cases hv
  obtain ⟨_, vs, hl, r⟩ := hh.at (get_app hn)
  obtain ⟨_, vs', hl', r'⟩ := hh.at (get_app hn')
  have hd : okD (.lst ds) = true := by unfold okD; exact h1
  have hd2 : dep (.lst ds) ≤ 64 := by unfold dep; omega
  have he : okD (.lst es) = true := by unfold okD; exact h2
  have he2 : dep (.lst es) ≤ 64 := by unfold dep; omega
  exact ⟨toPy (.lst ds), toPy (.lst es), by unfold toPy; exact .lst (SqL.of hl) (dpL_of hh.ex h1 r), by unfold toPy; exact .lst (SqL.of hl') (dpL_of hh.ex h2 r'), shaped_ok hd hd2, shaped_ok he he2, k F ms _ _ H Ex.refl hh (.bl _) q⟩
end
end AL

set_option Elab.async false
set_option linter.all false
set_option maxRecDepth 100000
set_option maxHeartbeats 4000000
/-! dicts: read under a lock, an unnamed one walked, sorted, copied, listed, compared, displayed; count of texts; max -/
namespace L2
open PySem PySem.Spec PyProof.Rows
/-- the value is locked from here on -/
def tLockV (t : TE) : TE := fun σ H Q => t σ H fun x H1 => ∃ d u, x = .ref d ∧ H1 d = some u ∧ Mut (some u) ∧ ∀ od, Q x (upd H1 d (.frz od u))
theorem pe_lockV {X : Cx} {e : Expr} {t : TE} (h : PE X e t) : PE X e (tLockV t) := by
  refine ⟨fun pins s σ H Q I hw => ?_⟩
  refine thn (h.run pins s σ H _ I hw) fun v s1 ⟨x, H1, I1, r, d, u, ex, hd, mu, q⟩ => ?_
  obtain ⟨od, I2⟩ := I1.lock hd mu
  exact ⟨x, _, I2, r, q od⟩
end L2
namespace AL
open PySem PySem.Spec L2 PyProof.Rows
section
variable {Γ : Cg} {K : Frg} {F : Hp} {ms : Ms} {S : Sg} {Q : QE} {ta tb te tx tv td ty : TE} {A : AEnds}
/-- x can be read as a dict: frozen, owned, or locked -/
def DicR (K : Frg) (F : Hp) (ms : Ms) (x : D) (kvs : List (Key × D)) : Prop := DicA K F ms x kvs ∨ ∃ (n : Nat) (l : Addr) (od : Obj) (vs : List (Key × V)), x = .ref l ∧ ms[n]? = some (l, MO.raw (.frz od (.dK vs))) ∧ RepK K F kvs vs
theorem DicR.to {x : D} {kvs : List (Key × D)} {R : Ms} {H : Hp} {v : V} (i : DicR K F ms x kvs) (hh : Hold K F (ms ++ R) H) (r : Rep K F x v) : ∃ a vs, v = .ref a ∧ Rd H a (.dK vs) ∧ RepK K F kvs vs := by
  rcases i with i | ⟨n, l, od, vs, rfl, hn, q⟩
  · obtain ⟨a, vs, e, h, q⟩ := i.to hh r
    exact ⟨a, vs, e, .inl h, q⟩
  · cases r
    exact ⟨l, vs, rfl, .inr ⟨od, (hh.at (get_app hn)).2⟩, q⟩
theorem DicR.own {n : Nat} {l : Addr} {kvs : List (Key × D)} (h : ms[n]? = some (l, MO.dic kvs)) : DicR K F ms (.ref l) kvs := .inl (.inr ⟨n, l, rfl, h⟩)
theorem DicR.lck {n : Nat} {l : Addr} {od : Obj} {vs : List (Key × V)} {kvs : List (Key × D)} (h : ms[n]? = some (l, MO.raw (.frz od (.dK vs)))) (r : RepK K F kvs vs) : DicR K F ms (.ref l) kvs := .inr ⟨n, l, od, vs, rfl, h, r⟩
theorem ae_dgetR (h : AE Γ td F ms S fun F1 ms1 x => AE Γ ty F1 ms1 S fun F2 ms2 y => ∃ k kvs d, keyD y = some k ∧ DicR Γ.K F2 ms2 x kvs ∧ valD kvs k = some d ∧ Q F2 ms2 d) : AE Γ (tDGet td ty) F ms S Q := fun R σ H Qc hs hh x k =>
  h R σ H _ hs hh x fun F1 ms1 d1 v1 H1 e1 h1 r1 q1 => q1 R σ H1 _ (hs.mono e1) h1 (x.ex e1) fun F2 ms2 y vy H2 e2 h2 r2 ⟨key, kvs, d, hk, hd, hv, q⟩ => by
    obtain ⟨a, vs, rfl, ha, rk⟩ := hd.to h2 (r1.mono e2)
    have ey := key_rep r2 hk
    subst ey
    rcases rk.val key with ⟨z, _⟩ | ⟨d', v', z1, z2, z3⟩
    · rw [hv] at z; cases z
    · rw [hv] at z1
      cases z1
      exact ⟨a, v', rfl, .inl ⟨vs, key, ha, rfl, z2.symm⟩, k F2 ms2 d v' H2 (e1.trans e2) h2 z3 q⟩
theorem ae_dget2R (h : AE Γ td F ms S fun F1 ms1 x => ∃ kvs, DicR Γ.K F1 ms1 x kvs ∧ AE Γ ty F1 ms1 S fun F2 ms2 y => AE Γ tx F2 ms2 S fun F3 ms3 z => ∃ k, keyD y = some k ∧ DicR Γ.K F3 ms3 x kvs ∧ Q F3 ms3 ((valD kvs k).getD z)) : AE Γ (tDGet2 td ty tx) F ms S Q := fun R σ H Qc hs hh x k =>
  h R σ H _ hs hh x fun F1 ms1 d1 v1 H1 e1 h1 r1 ⟨kvs, hd0, q1⟩ => by
    obtain ⟨a, vs, rfl, ha, rk⟩ := hd0.to h1 r1
    refine ⟨a, rfl, .inl ⟨vs, ha⟩, q1 R σ H1 _ (hs.mono e1) h1 (x.ex e1) fun F2 ms2 y vy H2 e2 h2 r2 q2 => q2 R σ H2 _ (hs.mono (e1.trans e2)) h2 (x.ex (e1.trans e2)) fun F3 ms3 z vz H3 e3 h3 r3 ⟨key, hk, hd, q⟩ => ?_⟩
    obtain ⟨a', vs', ea, ha', rk'⟩ := hd.to h3 (r1.mono (e2.trans e3))
    cases ea
    have ey := key_rep (r2.mono e3) hk
    subst ey
    refine ⟨_, .inl ⟨vs', key, ha', rfl, rfl⟩, k F3 ms3 _ _ H3 ((e1.trans e2).trans e3) h3 ?_ q⟩
    rcases rk'.val key with ⟨z1, z2⟩ | ⟨d', v', z1, z2, z3⟩
    · rw [z1, z2]; exact r3
    · rw [z1, z2]; exact z3
/-- an unnamed dict, locked -/
theorem ae_lockV (h : AE Γ te F ms S fun F1 ms1 x => ∃ (n : Nat) (l : Addr) (kvs : List (Key × D)), x = .ref l ∧ ms1[n]? = some (l, .dic kvs) ∧ ∀ od vs, RepK Γ.K F1 kvs vs → Q F1 (ms1.set n (l, .raw (.frz od (.dK vs)))) (.ref l)) : AE Γ (tLockV te) F ms S Q := fun R σ H Qc hs hh x k =>
  h R σ H _ hs hh x fun F1 ms1 d1 v1 H1 e1 h1 r1 ⟨n, l, kvs, hx, hn, q⟩ => by
    subst hx
    cases r1
    obtain ⟨_, vs, ha, rk⟩ := h1.at (get_app hn)
    refine ⟨l, .dK vs, rfl, ha, True.intro, fun od => ?_⟩
    have h2 := h1.set (m' := .raw (.frz od (.dK vs))) (o := .frz od (.dK vs)) (get_app hn) upd_same
    rw [set_app hn] at h2
    exact k F1 _ (.ref l) _ _ e1 h2 (.ref l) (q od vs rk)
/-- isinstance of a dict -/
theorem ac_isiD {x : D} {kvs : List (Key × D)} {n : String} {b : Bool} (hx : DicR K F ms x kvs) (hk : kitB "dict" n = some b) (q : Q F ms (.bl b)) : AC K (rIsi K) [x, .ty n] F ms Q := fun R vs H Qc hv hh k => by
  cases hv with
  | cons h1 h2 =>
    cases h2 with
    | cons h2 h3 =>
      cases h3
      cases h2
      obtain ⟨a, ws, rfl, ha, _⟩ := hx.to hh h1
      refine ⟨.ref a, .ty n, .type "dict", .type n, b, rfl, ClsV.ty n, ?_, kit_ty hk, k F ms _ _ H Ex.refl hh (.bl _) q⟩
      rcases ha with ha | ⟨o, ha⟩
      · exact .base (.dK ha)
      · exact .fDict ha
def rSRTD (K : Frg) : List V → Hp → VK → Prop := fun xs H Q => ∃ (a : Addr) (kvs : List (Key × V)) (ks : List Str), xs = [.ref a] ∧ Rd H a (.dK kvs) ∧ kvs.map (·.1) = ks.map Sum.inr ∧ ks.length < 64 ∧ ∀ ys p, ys.Perm ks → sortedS ys = true → H p = none → Q (.ref p) (upd H p (.lst (ys.map V.str)))
theorem kSRTD {X : Cx} (h : X.K = K) (hc : X.calm = true) : CallR X (.builtin "sorted") (rSRTD K) := call_sortedD hc
theorem keys_rep : ∀ {kvs : List (Key × D)} {vs : List (Key × V)}, RepK K F kvs vs → vs.map (·.1) = kvs.map (·.1)
  | _, _, .nil => rfl
  | _, _, .cons _ r => by rw [List.map_cons, List.map_cons, keys_rep r]
theorem ac_sortD {x : D} {kvs : List (Key × D)} {ks : List Str} (hx : DicR K F ms x kvs) (hk : kvs.map (·.1) = ks.map Sum.inr) (hz : ks.length < 64) (q : ∀ F' (ys : List Str), Ex F F' → ys.Perm ks → sortedS ys = true → Q F' ms (.lst (ys.map D.str))) : AC K (rSRTD K) [x] F ms Q := ac1 fun R v H Qc hv hh k => by
  obtain ⟨a, vs, rfl, ha, rk⟩ := hx.to hh hv
  refine ⟨a, vs, ks, rfl, ha, (keys_rep rk).trans hk, hz, fun ys p y1 y2 hp => ?_⟩
  obtain ⟨e2, h2⟩ := hh.laid (.lst (ys.map V.str)) hp
  exact k _ ms (.lst _) _ _ e2 h2 (.lst upd_same (rep_strl ys)) (q _ ys e2 y1 y2)
def rDICTD (K : Frg) : List V → Hp → VK → Prop := fun xs H Q => ∃ (a : Addr) (kvs : List (Key × V)), xs = [.ref a] ∧ Rd H a (.dK kvs) ∧ ∀ p, H p = none → Q (.ref p) (upd H p (.dK kvs))
theorem kDICTD {X : Cx} (h : X.K = K) : CallR X (.type "dict") (rDICTD K) := call_dictD
theorem ac_dictD {x : D} {kvs : List (Key × D)} (hx : DicR K F ms x kvs) (q : ∀ l, Q F ((l, .dic kvs) :: ms) (.ref l)) : AC K (rDICTD K) [x] F ms Q := ac1 fun R v H Qc hv hh k => by
  obtain ⟨a, vs, rfl, ha, rk⟩ := hx.to hh hv
  exact ⟨a, vs, rfl, ha, fun p hp => k F _ (.ref p) _ _ Ex.refl (hh.made (m := .dic kvs) hp ⟨vs, upd_same, rk⟩) (.ref p) (q p)⟩
def rMAXL (K : Frg) : List V → Hp → VK → Prop := rMax K
theorem kMAXL {X : Cx} (h : X.K = K) (hc : X.calm = true) : CallR X (.builtin "max") (rMAXL K) := h ▸ cr_max hc
theorem ac_maxL {d : D} {ns : List Int} (hl : LstA F ms d (ns.map D.int)) (h0 : 0 < ns.length) (q : ∀ m, m ∈ ns → (∀ y, y ∈ ns → y ≤ m) → Q F ms (.int m)) : AC K (rMAXL K) [d] F ms Q := ac1 fun R v H Qc hv hh k => by
  obtain ⟨a, us, rfl, ha, rr⟩ := hl.to hh hv
  have e := rep_ints rr
  subst e
  exact ⟨a, ns, rfl, ha, h0, fun m h1 h2 => k F ms _ _ H Ex.refl hh (.int m) (q m h1 h2)⟩
theorem flat_strs (xs : List Str) : (xs.map V.str).all flatV = true := by
  induction xs with
  | nil => rfl
  | cons b bs ih => rw [List.map_cons, List.all_cons, ih]; rfl
theorem am_countS {d : D} {xs : List Str} {z : Str} (hl : LstA F ms d (xs.map D.str)) (q : Q F ms (.int (xs.countP (fun c => decide (c = z)) : Nat))) : AM K "list" (rCntF K) d [.str z] F ms Q := fun R u vs H Qc hu hv hh k => by
  obtain ⟨a, us, rfl, ha, rr⟩ := hl.to hh hu
  have e := rep_strs rr
  subst e
  cases hv with
  | cons h1 h2 =>
    cases h2
    cases h1
    refine ⟨a, _, _, rfl, rfl, ha, rfl, flat_strs xs, ?_⟩
    have e : (xs.map V.str).countP (fun y => eqV y (.str z)) = xs.countP (fun c => decide (c = z)) := by
      rw [List.countP_map]
      rfl
    rw [e]
    exact k F ms _ _ H Ex.refl hh (.int _) q
end
end AL

set_option Elab.async false
set_option linter.all false
set_option maxRecDepth 100000
set_option maxHeartbeats 4000000
/-! list(d.items()); a dict displayed; two dicts compared -/
namespace AL
open PySem PySem.Spec L2 PyProof.Rows LiI
section
variable {K : Frg} {F H H' : Hp} {ms : Ms}
/-- more was laid at new places -/
theorem Hold.grow (h : Hold K F ms H) (keep : ∀ b o, H b = some o → H' b = some o) : ∃ F2, Ex F F2 ∧ Hold K F2 ms H' ∧ ∀ b, H b = none → F2 b = H' b := by
  refine ⟨fun b => if (H b).isNone = true then H' b else F b, fun b o e => ?_, ⟨fun b o e => ?_, fun q hq => ?_, h.nd⟩, fun b hb => ?_⟩
  · have e2 := h.ex _ _ e
    show (if (H b).isNone = true then H' b else F b) = some o
    rw [e2, if_neg (by simp)]
    exact e
  · have e : (if (H b).isNone = true then H' b else F b) = some o := e
    by_cases hb : (H b).isNone = true
    · rw [if_pos hb] at e
      exact e
    · rw [if_neg hb] at e
      exact keep _ _ (h.ex _ _ e)
  · obtain ⟨o, ho⟩ := (h.own q hq).2.there
    have hF : ∀ b u, F b = some u → (if (H b).isNone = true then H' b else F b) = some u := fun b u e => by
      rw [h.ex _ _ e, if_neg (by simp)]
      exact e
    refine ⟨?_, ((h.own q hq).2.mono (F' := fun b => if (H b).isNone = true then H' b else F b) hF).at ((keep _ _ ho).trans ho.symm)⟩
    show (if (H q.1).isNone = true then H' q.1 else F q.1) = none
    rw [ho, if_neg (by simp)]
    exact (h.own q hq).1
  · show (if (H b).isNone = true then H' b else F b) = H' b
    rw [hb]
    rfl
end
section
variable {Γ : Cg} {K : Frg} {F : Hp} {ms : Ms} {S : Sg} {Q : QE} {ta tb te tx tv td ty tk : TE} {A : AEnds}
theorem items_rep {F2 H H' : Hp} (hn : ∀ b, H b = none → F2 b = H' b) : ∀ {kvs : List (Key × D)} {vs : List (Key × V)} {ts : List Addr}, RepK K F2 kvs vs → (∀ t ∈ ts, H t = none) → Paired (fun (t : Addr) (q : Key × V) => H' t = some (.tup [kV q.1, q.2])) ts vs → RepL K F2 (itemsD kvs) (ts.map V.ref)
  | _, _, _, .nil, _, .nil => .nil
  | _, _, t :: ts, .cons (k := k) (d := d) h r, hf, .cons p q => by
    refine .cons (.tup (SqT.of ?_) (.cons (rep_kD k) (.cons h .nil))) (items_rep hn r (fun t' ht => hf t' (List.mem_cons_of_mem _ ht)) q)
    rw [hn t (hf t (List.mem_cons_self ..))]
    exact p
/-- list(d.items()) -/
theorem ae_listItems (h : AE Γ te F ms S fun F1 ms1 x => ∃ (n : Nat) (l : Addr) (kvs : List (Key × D)), x = .ref l ∧ ms1[n]? = some (l, .dic kvs) ∧ ∀ F2, Ex F1 F2 → Q F2 ms1 (.lst (itemsD kvs))) : AE Γ (tListItems te) F ms S Q := fun R σ H Qc hs hh x k =>
  h R σ H _ hs hh x fun F1 ms1 d1 v1 H1 e1 h1 r1 ⟨n, l, kvs, hx, hn, q⟩ => by
    subst hx
    cases r1
    obtain ⟨_, vs, ha, rk⟩ := h1.at (get_app hn)
    refine ⟨l, vs, rfl, ha, fun H' p ts keep hp hts hpn hl hpr => ?_⟩
    obtain ⟨F2, e2, h2, hF2⟩ := h1.grow keep
    exact k F2 ms1 (.lst (itemsD kvs)) _ _ (e1.trans e2) h2 (.lst ((hF2 p hp).trans hl) (items_rep hF2 (rk.mono e2) hts hpr)) (q F2 e2)
/-- {k: v}, of one pair -/
theorem ae_disp1 (h : ∀ p, AE Γ tk F ((p, .dic []) :: ms) S fun F1 ms1 x => AE Γ tv F1 ms1 S fun F2 ms2 y => ∃ key, keyD x = some key ∧ ms2[0]? = some (p, .dic []) ∧ Q F2 (ms2.set 0 (p, .dic [(key, y)])) (.ref p)) : AE Γ (tDisp [(tk, tv)]) F ms S Q := fun R σ H Qc hs hh x k p hp => by
  have h0 := hh.made (m := .dic []) hp ⟨[], upd_same, .nil⟩
  refine h p R σ _ _ hs h0 x fun F1 ms1 d1 v1 H1 e1 h1 r1 q1 => q1 R σ H1 _ (hs.mono e1) h1 (x.ex e1) fun F2 ms2 y vy H2 e2 h2 r2 ⟨key, hk, hn, q⟩ => ?_
  have ey := key_rep (r1.mono e2) hk
  subst ey
  obtain ⟨_, vs, ha, rk⟩ := h2.at (get_app hn)
  cases rk
  refine ⟨ha, [(key, vy)], rfl, by show 1 ≤ 15; decide, ?_⟩
  have h3 := h2.set (m' := .dic [(key, y)]) (o := .dK (mergeK [] [(key, vy)])) (get_app hn) ⟨_, upd_same, .cons r2 .nil⟩
  rw [set_app hn] at h3
  exact k F2 _ (.ref p) _ _ (e1.trans e2) h3 (.ref p) q
def rNED (K : Frg) : R2 := fun x y H Q => rNeDA x y H Q
theorem kNED {X : Cx} (h : X.K = K) (hu : X.A.units + 64 < cLine) : OpR X (compareOp .NotEq) (rNED K) := op_ne_dictA (by omega)
theorem repK_ints : ∀ {m : List (Key × Int)} {vs : List (Key × V)}, RepK K F (m.map fun p => (p.1, D.int p.2)) vs → vs = m.map fun p => (p.1, V.int p.2)
  | [], _, .nil => rfl
  | p :: m, _, .cons h r => by
    cases h
    rw [List.map_cons, ← repK_ints r]
theorem valV_nd : ∀ {m : List (Key × Int)}, (m.map (·.1)).Nodup → ∀ p ∈ m, valV (m.map fun p => (p.1, V.int p.2)) p.1 = some (V.int p.2)
  | [], _, p, hp => (List.not_mem_nil hp).elim
  | q :: m, nd, p, hp => by
    rw [List.map_cons, List.nodup_cons] at nd
    unfold valV
    rw [List.map_cons, List.find?_cons]
    rcases List.mem_cons.mp hp with rfl | hp
    · rw [decide_eq_true rfl]
      rfl
    · have hne : q.1 ≠ p.1 := fun e => nd.1 (List.mem_map.mpr ⟨p, hp, e.symm⟩)
      rw [decide_eq_false hne]
      exact valV_nd nd.2 p hp
/-- d != e, the same entries in both -/
theorem ar_NEdic {x y : D} {m : List (Key × Int)} {n n' : Nat} {l l' : Addr} (hx : ms[n]? = some (l, .dic (m.map fun p => (p.1, D.int p.2)))) (hy : ms[n']? = some (l', .dic (m.map fun p => (p.1, D.int p.2)))) (nd : (m.map (·.1)).Nodup) (q : Q F ms (.bl false)) : AR K (rNED K) (.ref l) (.ref l') F ms Q := fun R u v H Qc hu hv hh k => by
  cases hu
  cases hv
  obtain ⟨_, vs, ha, rk⟩ := hh.at (get_app hx)
  obtain ⟨_, vs', ha', rk'⟩ := hh.at (get_app hy)
  have e1 := repK_ints rk
  have e2 := repK_ints rk'
  subst e1 e2
  refine ⟨l, l', _, _, rfl, rfl, ha, ha', rfl, fun p hp => ?_, k F ms _ _ H Ex.refl hh (.bl _) q⟩
  obtain ⟨p0, hp0, rfl⟩ := List.mem_map.mp hp
  exact ⟨valV_nd nd p0 hp0, rfl⟩
end
end AL

set_option Elab.async false
set_option linter.all false
set_option maxRecDepth 100000
set_option maxHeartbeats 4000000
/-! errors with attributes: made by their own __init__, raised -/
namespace L2
open PySem PySem.Spec PyProof.Rows
/-- B.__init__(self, ..), B an own class over ValueError that has none of its own -/
structure SInit (K : PySem.W.Frag) (B : Addr) : Prop where
  rd : PySem.W.readsIn K B (.type "type") = true
  ga : PySem.W.specialIn K (.ref B) "__getattribute__" = some (some (.builtin "type.__getattribute__"))
  at_ : PySem.W.findCls K (.ref B) (.type "type") "__init__" = some (.val (.builtin "ValueError.__init__"))
/-- an own error class whose __init__ is walked -/
structure XCls (K : PySem.W.Frag) (C fI : Addr) : Prop where
  ox : OexC K C
  iC : PySem.W.findIn K (.ref C) "__init__" = some (some (.ref fI))
  tI : PySem.W.typeIn K (.ref fI) = some (.type "function")
section
variable {X : Cx} {o e : Expr} {es : List Expr} {to te : TE} {ta : TA} {f : Str} {p p' p1 p2 pos : Pos} {B : Addr}
theorem pe_seinit {pl : Sem Bool} (ho : PE X o to) (c : SInit X.K B) (ha : PA X (e :: es) ta)
    (hc : eval (.Call (.Attribute o "__init__" p2) (e :: es) [] pos) X.env = (do
      let ov ← eval o X.env
      standAt p2.atName
      let (f, first) ← holding [ov] (getMethod ov "__init__" pl)
      callWith pos f first (backTo pos (starEach (e :: es) X.env)) (backToKw pos (keywordEach [] X.env))) := by rfl)
    (he : starEach (e :: es) X.env = (false, eval e X.env) :: starEach es X.env := by rfl) (hpl : (backTo pos (starEach es X.env)).any (·.1) = false := by rfl) :
    PE X (.Call (.Attribute o "__init__" p2) (e :: es) [] pos) (fun σ H Q => to σ H fun x H1 => x = .ref B ∧ tVeI X.K ta σ H1 Q) := by
  refine ⟨fun pins s σ H Q I h => ?_⟩
  refine PySem.W.methodCall_KW (pl := pl) (thn (ho.run pins s σ H _ I h) fun u s1 ⟨x, H1, I1, rx, ex, q⟩ => ?_) hc
  subst ex
  obtain rfl : u = Value.ref B := rx
  refine PySem.W.method_cls I1.kIn c.ga (PySem.W.cls_value I1.kIn c.rd c.at_ (by decide +kernel) ?_)
  have I2 := I1.tok (s1.toks + 1)
  show wpAny _ _ (callWith pos (Value.builtin "ValueError.__init__") [] (backTo pos (starEach (e :: es) X.env)) []) _ _ _
  refine PyProof.Rows.callWith_method1 (thn (ha.run pos pins _ σ H1 _ I2 q) fun us s2 ⟨vs, H2, I3, r1, a, C, ws, ev, hl, T, ea, q⟩ => ?_) he hpl
  subst ev
  cases r1 with
  | @cons _ u0 _ ur ra rw' =>
    obtain rfl : u0 = Value.ref a := ra
    have hlen : ur.length ≤ sizeLine := by
      rw [← Paired.length rw', sizeLine_eq]
      omega
    exact oinit_ok T I3 ea hlen fun s' J => ⟨.non, H2, J, rfl, q⟩
end
/-- what the __init__ of an error with one attribute does -/
def spI1 (C : Addr) (f : Str) : Sp := fun vs H Q _ => ∃ a v, vs = [.ref a, v] ∧ H a = some (exo a C none) ∧ ∀ d, H d = none → d ≠ a → Q .non (upd (upd H d (exd d [(f, v)])) a (exo a C (some d)))
/-- .. with two -/
def spI2 (C : Addr) (f g : Str) : Sp := fun vs H Q _ => ∃ a v u, vs = [.ref a, v, u] ∧ H a = some (exo a C none) ∧ ∀ d, H d = none → d ≠ a → Q .non (upd (upd (upd H d (exd d [(f, v)])) a (exo a C (some d))) d (exd d [(g, u), (f, v)]))
theorem start_two {x y : Str} (h : ¬ x = y) (u v : V) : L2.start [x, y] [u, v] = [some u, some v] := rfl
section
variable {P : Program} {w : World} {K : PySem.W.Frag} {mg : Str → Option Value} {base : Heap}
end
end L2
namespace AL
open PySem PySem.Spec L2 PyProof.Rows
section
variable {Γ : Cg} {F : Hp} {ms : Ms} {S : Sg} {A : AEnds} {ta : TA}
theorem Hold.xd {K : Frg} {F H : Hp} {ms : Ms} (h : Hold K F ms H) {d : Addr} (o : HO) (hd : H d = none) : Ex F (upd F d o) ∧ Hold K (upd F d o) ms (upd H d o) := h.laid o hd
/-- raise C(e), one attribute -/
theorem as_raise1 {C : Addr} {f : Str} (h : AA Γ ta F ms S fun F1 ms1 ds => ∃ d, ds = [d] ∧ ∀ F2, Ex F1 F2 → Γ.Ea C [(f, d)] F2 ms1) : AS Γ (fun _ σ H => tMkO C (spI1 C f) [] ta σ H fun cls d H' => Γ.E cls d H') F ms S A := fun R E σ H hs hh l => by
  refine h R σ H _ hs hh l.xe fun F1 ms1 ds vs H1 e1 h1 r1 q1 => ?_
  obtain ⟨d, rfl, q⟩ := q1
  cases r1 with
  | @cons _ v _ _ ra rb =>
    cases rb
    refine ⟨by show 1 ≤ 1000; decide, fun a ha => ⟨a, v, rfl, upd_same, fun dx hdx nda => ⟨rfl, dx, [(f, v)], upd_same, ?_, ?_, ?_⟩⟩⟩
    · rw [upd_ne nda, upd_same]
    · rw [upd_ne nda] at hdx
      exact hdx
    · have hdx : H1 dx = none := by rw [upd_ne nda] at hdx; exact hdx
      obtain ⟨e2, h2⟩ := h1.laid (.xd [(f, v)]) hdx
      have eH : upd (del (upd (upd (upd H1 a (exo a C none)) dx (exd dx [(f, v)])) a (exo a C (some dx))) a) dx (.xd [(f, v)]) = upd H1 dx (.xd [(f, v)]) := by
        funext b
        by_cases hb : b = dx
        · rw [hb, upd_same, upd_same]
        · rw [upd_ne hb, upd_ne hb]
          by_cases hba : b = a
          · rw [hba, del_same, ha]
          · rw [del_ne hba, upd_ne hba, upd_ne hb, upd_ne hba]
      rw [eH]
      exact l.xe (upd F1 dx (.xd [(f, v)])) ms1 C (some dx) [(f, d)] _ (e1.trans e2) h2 (.inr ⟨dx, [(f, v)], rfl, by simp, upd_same, .cons (ra.mono e2) .nil⟩) (q _ e2)
/-- raise C(e, e'), two attributes -/
theorem as_raise2 {C : Addr} {f g : Str} (h : AA Γ ta F ms S fun F1 ms1 ds => ∃ d d', ds = [d, d'] ∧ ∀ F2, Ex F1 F2 → Γ.Ea C [(g, d'), (f, d)] F2 ms1) : AS Γ (fun _ σ H => tMkO C (spI2 C f g) [] ta σ H fun cls d H' => Γ.E cls d H') F ms S A := fun R E σ H hs hh l => by
  refine h R σ H _ hs hh l.xe fun F1 ms1 ds vs H1 e1 h1 r1 q1 => ?_
  obtain ⟨d, d', rfl, q⟩ := q1
  cases r1 with
  | @cons _ v _ _ ra rb =>
    cases rb with
    | @cons _ u _ _ rb rc =>
      cases rc
      refine ⟨by show 2 ≤ 1000; decide, fun a ha => ⟨a, v, u, rfl, upd_same, fun dx hdx nda => ⟨rfl, dx, [(g, u), (f, v)], ?_, upd_same, ?_, ?_⟩⟩⟩
      · rw [upd_ne (Ne.symm nda), upd_same]
      · rw [upd_ne nda] at hdx
        exact hdx
      · have hdx : H1 dx = none := by rw [upd_ne nda] at hdx; exact hdx
        obtain ⟨e2, h2⟩ := h1.laid (.xd [(g, u), (f, v)]) hdx
        have eH : upd (del (upd (upd (upd (upd H1 a (exo a C none)) dx (exd dx [(f, v)])) a (exo a C (some dx))) dx (exd dx [(g, u), (f, v)])) a) dx (.xd [(g, u), (f, v)]) = upd H1 dx (.xd [(g, u), (f, v)]) := by
          funext b
          by_cases hb : b = dx
          · rw [hb, upd_same, upd_same]
          · rw [upd_ne hb, upd_ne hb]
            by_cases hba : b = a
            · rw [hba, del_same, ha]
            · rw [del_ne hba, upd_ne hb, upd_ne hba, upd_ne hb, upd_ne hba]
        rw [eH]
        exact l.xe (upd F1 dx (.xd [(g, u), (f, v)])) ms1 C (some dx) [(g, d'), (f, d)] _ (e1.trans e2) h2 (.inr ⟨dx, [(g, u), (f, v)], rfl, by simp, upd_same, .cons (rb.mono e2) (.cons (ra.mono e2) .nil)⟩) (q _ e2)
end
/-! ### the reading of the __init__s -/
section
theorem read_I1 {K : Frg} {H : Hp} {Q : VK} {E : XK} {vs : List V} {C B : Addr} {f : Str} (T : OexC K C) (hno : PySem.W.findIn K (.ref C) f = some none) (h : spI1 C f vs H Q E) {x y : Str} :
    tSeq (tDrop (fun σ H Q => (tC (V.ref B)) σ H fun x H1 => x = .ref B ∧ tVeI K (tCons (tVar 0) (tCons (tVar 1) tNil)) σ H1 Q)) (tSeq (tOst K f (tVar 0) (tVar 1)) tNext) { nx := fun _ H' => Q .non H', rt := Q } (L2.start [x, y] vs) H := by
  obtain ⟨a, v, rfl, ha, q⟩ := h
  exact ⟨rfl, .ref a, rfl, v, rfl, a, C, [v], rfl, by show 1 ≤ 1000; decide, T, ha, v, rfl, .ref a, rfl, a, C, rfl, T, hno, .inl ⟨ha, fun dx hn hne => q dx hn hne⟩⟩
end
end AL

set_option Elab.async false
set_option linter.all false
set_option maxRecDepth 100000
set_option maxHeartbeats 4000000
/-! the caught error and its attributes; what a def makes of a call that may raise, told of all errors -/
namespace L2
open PySem PySem.Spec PyProof.Rows
/-- isinstance(e, c), e the caught exception with a dict at dd -/
def rIsEX (K : PySem.W.Frag) (D a dd : Addr) : List V → Hp → VK → Prop := fun xs H Q => ∃ (c : V) (cv : Value) (b : Bool) (fs : List (Str × V)), xs = [.ref a, c] ∧ (∀ u, RelV c u → u = cv) ∧ PySem.W.kitOne K (.ref D) cv = some b ∧ H dd = some (.xd fs) ∧ Q (.bl b) H
theorem call_isEX {X : Cx} {a D dd : Addr} {oe : Obj} {pn : List (Addr × Obj)} (C : ExcC X.K D) (hz : Zc (.ref D) (some dd) oe) (hf : ∃ vs, oe.data = .fields vs) : CallR (X.suite a ((a, oe) :: pn)) (.builtin "isinstance") (rIsEX X.K D a dd) := by
  intro pins s σ H xs us Q I r h
  obtain ⟨c, cv, b, fs, rfl, hcv, e, ea, q⟩ := h
  cases r with
  | cons rx rr =>
    cases rr with
    | cons rt rr =>
      cases rr
      cases rx
      have ec := hcv _ rt
      subst ec
      obtain ⟨hget, _⟩ := I.pin (a, oe) (List.mem_append.mpr (.inl List.mem_cons_self))
      obtain ⟨vs, hv⟩ := hf
      have hx : ObjOk X.prog X.w H s.heap dd (.xd fs) := I.hok dd _ ea
      obtain ⟨mA, hns, hr⟩ := hx
      obtain ⟨od, ho, hl⟩ := lookIn_ns hns
      have J : PySem.W.InstAt s.heap a oe D (some od) := ⟨hget, hz.1, by unfold PySem.W.notCls; rw [hv] <;> rfl, by rw [hz.2]; exact ho⟩
      exact PySem.W.kia_one (PySem.W.kitx_exc (by obtain ⟨cd, hc, _⟩ := PySem.W.any_some C.hd; rw [hc]; rfl) C.hg C.hk C.hs C.ha C.hn C.ht C.hm) I.kIn J e (fun z => nomatch z) fun tk => ⟨.bl b, H, I.kept (t' := tk) fun _ _ z => z, rfl, q⟩
end L2
namespace AL
open PySem PySem.Spec L2 LamX LamY PyProof.Rows
section
variable {K : Frg} {F : Hp} {ms : Ms} {Q : QE}
theorem ac_isEX {C a c dd : Addr} {b : Bool} {gs : List (Str × V)} (hd : F dd = some (.xd gs)) (h : PySem.W.kitOne K (.ref C) (.ref c) = some b) (q : Q F ms (.bl b)) : AC K (rIsEX K C a dd) [.ref a, .ref c] F ms Q := fun R vs H Qc hv hh k => by
  cases hv with
  | cons h1 h2 =>
    cases h2 with
    | cons h2 h3 =>
      cases h3
      cases h1
      cases h2
      exact ⟨.ref c, .ref c, b, gs, rfl, fun u r => r, h, hh.ex _ _ hd, k F ms _ _ H Ex.refl hh (.bl _) q⟩
theorem ac_isEXt {C a dd : Addr} {n : String} {b : Bool} {gs : List (Str × V)} (hd : F dd = some (.xd gs)) (h : PySem.W.kitOne K (.ref C) (.type n) = some b) (q : Q F ms (.bl b)) : AC K (rIsEX K C a dd) [.ref a, .ty n] F ms Q := fun R vs H Qc hv hh k => by
  cases hv with
  | cons h1 h2 =>
    cases h2 with
    | cons h2 h3 =>
      cases h3
      cases h1
      cases h2
      exact ⟨.ty n, .type n, b, gs, rfl, fun u r => r, h, hh.ex _ _ hd, k F ms _ _ H Ex.refl hh (.bl _) q⟩
end
section
variable {Γ : Cg} {F : Hp} {ms : Ms} {S : Sg} {Q : QE} {te : TE}
/-- e.f, e the caught exception -/
theorem ae_xf {a C dd : Addr} {f : Str} {fs : List (Str × D)} {gs : List (Str × V)} {d : D} (h : AE Γ te F ms S fun F1 ms1 x => x = .ref a ∧ F1 dd = some (.xd gs) ∧ RepF Γ.K F1 fs gs ∧ fs.lookup f = some d ∧ Q F1 ms1 d) : AE Γ (tXf a (.ref C) (some dd) C f te) F ms S Q := fun R σ H Qc hs hh x k =>
  h R σ H _ hs hh x fun F1 ms1 x1 v1 H1 e1 h1 r1 ⟨hx, hd, hr, hl, q⟩ => by
    subst hx
    cases r1
    obtain ⟨v, hv, rv⟩ := hr.look hl
    exact ⟨rfl, rfl, dd, gs, v, rfl, h1.ex _ _ hd, hv, k F1 ms1 d v H1 e1 h1 rv q⟩
end
/-- what a def makes of a call: None, or what R tells of the error that it raises -/
def TTX (K : Frg) (R : Addr → List (Str × AL.D) → AL.D → Prop) : (XK → Hp → VK → Prop) → Hp → VK → Prop := fun tl H Q => ∃ (F : Hp) (ms : Ms), Hold K F ms H ∧
  ∀ (E : XK) (Q' : VK), (∀ H' F' ms' C dx fs res, Ex F F' → Hold K F' ms' H' → XDat K F' H' dx fs → R C fs res → (∀ F2 v H2, Ex F' F2 → Hold K F2 ms' H2 → Rep K F2 res v → Q v H2) → E (.ref C) dx H') →
    (∀ H' F' ms' v, Ex F F' → Hold K F' ms' H' → (∀ F2 v H2, Ex F' F2 → Hold K F2 ms' H2 → Rep K F2 .non v → Q v H2) → Q' v H') → tl E H Q'
section
variable {Γ : Cg} {F : Hp} {ms : Ms} {S : Sg} {Q : QE}
theorem ae_lamX {RR : Addr → List (Str × D) → D → Prop} {P : Addr} {q : Str} {n : Nat} {t : XK → TE} (hT : TabA F ms n P q)
    (h : ∀ F1 ms1, Ex F F1 → TabA F1 ms1 n P q → (∃ ps', ms1 = ms.set n (P, .raw (.tbl ps'))) → ∀ E : XK, AE ⟨Γ.K, E, fun C' fs F' ms' => ∃ res, RR C' fs res ∧ ∀ F2, Ex F' F2 → Q F2 ms' res⟩ (t E) F1 ms1 S fun F' ms' _ => ∀ F2, Ex F' F2 → Q F2 ms' .non) :
    AE Γ (tLam3 P q (TTX Γ.K RR) t) F ms S Q := fun R σ H Qc hs hh x k => by
  obtain ⟨ps, hn, ht, ha⟩ := hT
  have hP : H P = some (.tbl ps) := (hh.at (get_app hn)).2
  refine ⟨ps, hP, ⟨ht, fun pos cv hc => by obtain ⟨c, h1, h2⟩ := ha pos cv hc; exact ⟨c, h1, hh.ex _ _ h2⟩⟩, fun H1 g => ?_⟩
  have fin : ∀ F1 ms1, Ex F F1 → Hold Γ.K F1 (ms1 ++ R) H1 → TabA F1 ms1 n P q → (∃ ps', ms1 = ms.set n (P, .raw (.tbl ps'))) → TTX Γ.K RR (fun E H' Q' => t E σ H' Q') H1 Qc := fun F1 ms1 e1 h1 T1 hms =>
    ⟨F1, ms1 ++ R, h1, fun E Q' hE hN => h F1 ms1 e1 T1 hms E R σ H1 _ (hs.mono e1) h1 (fun F' ms' C' dx fs H' e' hh' xd ⟨res, hR, q⟩ => by
      exact hE H' F' (ms' ++ R) C' dx fs res e' hh' xd hR fun F2 v H2 e2 h2 r => k F2 ms' res v H2 ((e1.trans e').trans e2) h2 r (q F2 e2))
      fun F' ms' d v H' e' hh' rv q => hN H' F' (ms' ++ R) v e' hh' fun F2 v H2 e2 h2 r => k F2 ms' .non v H2 ((e1.trans e').trans e2) h2 r (q F2 e2)⟩
  rcases g with rfl | ⟨pos, c', hc', rfl⟩
  · exact fin F ms Ex.refl hh ⟨ps, hn, ht, ha⟩ ⟨ps, (set_same hn).symm⟩
  · have nP : c' ≠ P := fun z => by rw [z, hP] at hc'; cases hc'
    have h2 := hh.set (m' := .raw (.tbl (ps ++ #[rawInt pos.line, rawInt pos.col, .ref c']))) (o := .tbl (ps ++ #[rawInt pos.line, rawInt pos.col, .ref c'])) (get_app hn) upd_same
    rw [set_app hn] at h2
    obtain ⟨e1, h3⟩ := h2.laid (p := c') (CodeO c' q) (by rw [upd_ne nP]; exact hc')
    have eL : (ps ++ #[rawInt pos.line, rawInt pos.col, .ref c']).toList = ps.toList ++ [rawInt pos.line, rawInt pos.col, .ref c'] := by simp
    refine fin _ _ e1 h3 ⟨_, set_get (List.getElem?_eq_some_iff.mp hn).1, by rw [eL]; exact PySem.TriplesOk_snoc _ _ _ _ ht, fun p' cv hcv => ?_⟩ ⟨_, rfl⟩
    rw [eL] at hcv
    rcases among_app _ ht hcv with z | z
    · obtain ⟨c0, g1, g2⟩ := ha p' cv z
      exact ⟨c0, g1, e1 _ _ g2⟩
    · exact ⟨c', z, upd_same⟩
end
/-- try: a() / except x as e: suite; return None -/
theorem err_givesX {X : Cx} {K : Frg} (hK : X.K = K) {Ng : List Str} {x a e n q : Str} {sg : Scope} {g CS : Addr} {cdg : Value} {k : Nat} {suite : List Stmt} {b₀ : Stmt} {p1 p2 p3 p4 p5 p6 p7 p8 : Pos} {j : Nat} {S : Sg} {RR : Addr → List (Str × D) → D → Prop}
    (hge : sg.names.lookup e = some .globalImplicit) (hme : X.mg e = some (.ref CS)) (hde : (e == ("__debug__" : Str)) = false) (hN : Ng.Nodup) (hi : Ng[1]? = some n) (hln : sg.names.lookup n = some .local)
    (hx : ∀ C fs res, RR C fs res → PySem.W.exmOne K (.ref C) (.ref CS) = some true) (h0 : ∀ f : Addr, (L2.start Ng [V.ref f])[0]? = some (some (V.ref f))) (hS : ∀ f b : Addr, (startS Ng [.ref f]).set 1 (some (.ref b)) = some (.ref f) :: some (.ref b) :: S)
    (hsuite0 : ∀ C res, RR C [] res → ∀ (f b : Addr) (s : Shared) (H : Hp), Room (k + 1) (X.A.deeper (PyProof.Rows.envOfC x sg s.heap.objs.size g cdg)) →
      ∃ ts, (∀ (oe : Obj) (pn : List (Addr × Obj)), Zc (.ref C) none oe → (∃ vs, oe.data = .fields vs) → PSs ((cxOf L2.CX0 X.prog X.w X.K X.mg X.base Ng x sg g cdg X.A X.stack s H L2.E0).nox.suite b ((b, oe) :: pn)) (b₀ :: suite) ts) ∧
        ∀ (F : Hp) (ms : Ms), AS ⟨K, E0, fun _ _ _ _ => False⟩ ts F ms (some (.ref f) :: some (.ref b) :: S) { nx := fun _ _ _ => False, rt := fun _ ms' d => ms' = ms ∧ d = res })
    (hsuite1 : ∀ C fs res, RR C fs res → fs ≠ [] → ∀ (f b dd : Addr) (s : Shared) (H : Hp), Room (k + 1) (X.A.deeper (PyProof.Rows.envOfC x sg s.heap.objs.size g cdg)) →
      ∃ ts, (∀ (oe : Obj) (pn : List (Addr × Obj)), Zc (.ref C) (some dd) oe → (∃ vs, oe.data = .fields vs) → PSs ((cxOf L2.CX0 X.prog X.w X.K X.mg X.base Ng x sg g cdg X.A X.stack s H L2.E0).nox.suite b ((b, oe) :: pn)) (b₀ :: suite) ts) ∧
        ∀ (F : Hp) (ms : Ms) (gs : List (Str × V)), F dd = some (.xd gs) → RepF K F fs gs → AS ⟨K, E0, fun _ _ _ _ => False⟩ ts F ms (some (.ref f) :: some (.ref b) :: S) { nx := fun _ _ _ => False, rt := fun _ ms' d => ms' = ms ∧ d = res }) :
    Gives3 X Ng x sg g cdg [.Try [.Expr (.Call (.Name a p1) [] [] p2) p3] [.ExceptHandler (some (.Name e p4)) (some n) (b₀ :: suite) p5] [] [] p6, .Return (some (.Constant .none j p7)) p8] a q (TTX K RR) k := by
  subst hK
  intro f c' s H Q tl hr act hc htt
  obtain ⟨F, ms, hh, htl⟩ := htt
  have hgl : Gl (cxOf L2.CX0 X.prog X.w X.K X.mg X.base Ng x sg g cdg X.A X.stack s H L2.E0).nox e := hge
  refine ⟨_, pss_cons (ps_try_as (X := (cxOf L2.CX0 X.prog X.w X.K X.mg X.base Ng x sg g cdg X.A X.stack s H L2.E0).nox) (c := .ref CS) (i := 1)
      (tb := fun W D σ H => σ[0]? = some (some (.ref f)) ∧ H c' = some (CodeO c' q) ∧ tl (WE W σ) H fun _ H' => D.nx σ H')
      (ts := fun b cls d D σ' H' => ∃ (C : Addr) (ts : TS), cls = .ref C ∧ (∀ (oe : Obj) (pn : List (Addr × Obj)), Zc (.ref C) d oe → (∃ vs, oe.data = .fields vs) → PSs ((cxOf L2.CX0 X.prog X.w X.K X.mg X.base Ng x sg g cdg X.A X.stack s H L2.E0).nox.suite b ((b, oe) :: pn)) (b₀ :: suite) ts) ∧ ts D σ' H')
      rfl rfl hN hi hln ⟨hgl, hde, .inl hme⟩ L2.takes0 (fun W pn xe tk _ => ?_) (fun b oe cls d pn hz hf => ?_)) (pss_one (ps_ret pe_non)), ?_⟩
  · exact ⟨fun pins s' σ' H' D I h => (pss_one (ps_expr (pos := p3) (act W pn xe p1 p2 tk))).run pins s' σ' H' D I h⟩
  · refine ⟨fun pins s' σ' H' D I h => ?_⟩
    obtain ⟨C, ts, rfl, hp, ht⟩ := h
    exact (hp oe pn hz hf).run pins s' σ' H' D I ht
  · refine ⟨h0 f, hc, htl _ _ (fun H' F' ms' C dx fs res e1 h1 xd hR hfin => ⟨true, hx C fs res hR, fun _ b hb => ?_, fun z => nomatch z⟩) (fun H' F' ms' v e1 h1 hfin => ?_)⟩
    · have start : SRep X.K F' (some (.ref f) :: some (.ref b) :: S) ((L2.start Ng [V.ref f]).set 1 (some (V.ref b))) := by
        rw [← hS f b]
        exact (start_rep (RepL.one (.ref f))).set (.ref b)
      have wrap : ∀ ts : TS, AS ⟨X.K, E0, fun _ _ _ _ => False⟩ ts F' ms' (some (.ref f) :: some (.ref b) :: S) { nx := fun _ _ _ => False, rt := fun _ ms2 d => ms2 = ms' ∧ d = res } →
          ts { nx := fun σ2 H2 => False, rt := Q } ((L2.start Ng [V.ref f]).set 1 (some (V.ref b))) H' := fun ts hA =>
        hA [] _ _ H' start (by rw [List.append_nil]; exact h1) ⟨fun _ _ _ _ _ _ _ _ _ z => z.elim, fun _ _ _ _ _ _ _ _ z => z.elim, fun F2 ms2 d v H2 e2 h2 r ⟨hm, hd⟩ => by
          subst hm hd
          rw [List.append_nil] at h2
          exact hfin F2 v H2 e2 h2 r, fun _ _ _ _ _ _ _ _ z => z.elim, fun _ _ _ _ _ _ _ _ z => z.elim⟩
      rcases xd with ⟨rfl, rfl⟩ | ⟨dd, gs, rfl, hne, hF, hr2⟩
      · obtain ⟨ts, hp, hA⟩ := hsuite0 C res hR f b s H hr
        refine ⟨C, ts, rfl, hp, hA F' ms' [] _ _ H' start (by rw [List.append_nil]; exact h1) ⟨fun _ _ _ _ _ _ _ _ _ z => z.elim, fun _ _ _ _ _ _ _ _ z => z.elim, fun F2 ms2 d v H2 e2 h2 r ⟨hm, hd⟩ => ?_, fun _ _ _ _ _ _ _ _ z => z.elim, fun _ _ _ _ _ _ _ _ z => z.elim⟩⟩
        subst hm hd
        rw [List.append_nil] at h2
        exact hfin F2 v H2 e2 h2 r
      · obtain ⟨ts, hp, hA⟩ := hsuite1 C fs res hR hne f b dd s H hr
        refine ⟨C, ts, rfl, hp, hA F' ms' gs hF hr2 [] _ _ H' start (by rw [List.append_nil]; exact h1) ⟨fun _ _ _ _ _ _ _ _ _ z => z.elim, fun _ _ _ _ _ _ _ _ z => z.elim, fun F2 ms2 d v H2 e2 h2 r ⟨hm, hd⟩ => ?_, fun _ _ _ _ _ _ _ _ z => z.elim, fun _ _ _ _ _ _ _ _ z => z.elim⟩⟩
        subst hm hd
        rw [List.append_nil] at h2
        exact hfin F2 v H2 e2 h2 r
    · exact hfin F' .non H' Ex.refl h1 .non
end AL

set_option Elab.async false
set_option linter.all false
set_option maxRecDepth 100000
set_option maxHeartbeats 4000000
/-! len of a dict; pop(); a method without arguments -/
namespace AL
open PySem PySem.Spec L2 PyProof.Rows
section
variable {Γ : Cg} {K : Frg} {F : Hp} {ms : Ms} {S : Sg} {Q : QE}
def rLEND (K : Frg) : List V → Hp → VK → Prop := fun xs H Q => ∃ (a : Addr) (kvs : List (Key × V)), xs = [V.ref a] ∧ H a = some (.dK kvs) ∧ Q (.int kvs.length) H
theorem kLEND {X : Cx} (h : X.K = K) : CallR X (.builtin "len") (rLEND K) := call_lenD
theorem ac_lenD {x : D} {kvs : List (Key × D)} (hx : DicA K F ms x kvs) (q : Q F ms (.int kvs.length)) : AC K (rLEND K) [x] F ms Q := ac1 fun R v H Qc hv hh k => by
  obtain ⟨a, vs, rfl, ha, rk⟩ := hx.to hh hv
  exact ⟨a, vs, rfl, ha, by rw [← rk.len]; exact k F ms _ _ H Ex.refl hh (.int _) q⟩
theorem pe_bm0k {X : Cx} {T name id : String} {o : Expr} {to : TE} {r : V → List V → Hp → VK → Prop} {apos cpos : Pos} (h : X.K = K) (pa : PlainAttrs T) (slot : Slot T name id) (hty : typeOf (.builtin id) = pure (.type "method_descriptor")) (hm : MtR X id r) (ho : PE X o to)
    (hb : attributeBase o name X.env (eval o X.env) = eval o X.env := by rfl) (hl : (apos.endLine == cpos.line) = true := by rfl) : PE X (.Call (.Attribute o name apos) [] [] cpos) (tBM0 K T r to) := h ▸ pe_bm0 pa slot hty hm ho hb hl
end
end AL
namespace AL
open PySem PySem.Spec L2 PyProof.Rows
section
variable {K : Frg} {F : Hp} {ms : Ms} {Q : QE}
theorem am_pop {l : Addr} {xs : List D} {d : D} (n : Nat) (hn : ms[n]? = some (l, .lst (xs ++ [d]))) (q : Q F (ms.set n (l, .lst xs)) d) : AM K "list" rPop (.ref l) [] F ms Q := fun R u vs H Qc hu hv hh k => by
  cases hu
  cases hv
  obtain ⟨_, ws, ha, rr⟩ := hh.at (get_app hn)
  have hlen := rr.len
  rw [List.length_append, List.length_singleton] at hlen
  have hd : (xs ++ [d])[xs.length]? = some d := by rw [List.getElem?_append_right (Nat.le_refl _), Nat.sub_self]; rfl
  obtain ⟨v, hv, rv⟩ := rr.getD hd
  have hw : ws.dropLast = ws.take xs.length := by rw [List.dropLast_eq_take, ← hlen]; rfl
  refine ⟨l, ws, v, rfl, rfl, ha, by rw [← hlen]; exact hv, ?_⟩
  have r2 : RepL K F xs ws.dropLast := by
    rw [hw]
    have := rr.take xs.length
    rw [List.take_left] at this
    exact this
  have h2 := hh.set (m' := .lst xs) (o := .lst ws.dropLast) (get_app hn) ⟨_, upd_same, r2⟩
  rw [set_app hn] at h2
  exact k F _ d v _ Ex.refl h2 rv q
end
end AL
namespace L2
open PySem PySem.Spec PyProof.Rows
section
variable {X : Cx}
theorem ps_setDc {i : Nat} {y : Str} {py : Pos} {kx vx tg iter : Expr} {ifs : List Expr} {scope : Scope} {own : List (Str × Nat)} {pos spos : Pos} {wi : TI} {g : TG} {tt : TT} {tk tv : TE} (hc : X.calm = true) (hN : X.N.Nodup) (hy : X.N[i]? = some y) (hyl : X.env.scope.names.lookup y = some .local)
    (hsw : swapsWith (.DictComp kx vx [⟨tg, iter, ifs, 0⟩] scope pos) (some (.Name y py)) spos.line X.env = pure true) (hi : PI X tg iter wi) (ok : BlkOk X.N X.env.scope scope own)
    (hg : ∀ (s : Shared) (H : Hp) (C : Addr) (cl : List (Str × Addr)) (fp : List Addr), PG (X.blk s H scope (compEnvC scope cl C X.env) fp) tg g) (ht : ∀ (s : Shared) (H : Hp) (C : Addr) (cl : List (Str × Addr)) (fp : List Addr), PTs (X.blk s H scope (compEnvC scope cl C X.env) fp) ifs tt)
    (hk : ∀ (s : Shared) (H : Hp) (C : Addr) (cl : List (Str × Addr)) (fp : List Addr), PE (X.blk s H scope (compEnvC scope cl C X.env) fp) kx tk)
    (he : ∀ (s : Shared) (H : Hp) (C : Addr) (cl : List (Str × Addr)) (fp : List Addr), PE (X.blk s H scope (compEnvC scope cl C X.env) fp) vx tv) (hs : ∀ x, foldedSetIterable iter X.env x = pure x := by intro _; rfl) :
    PS X (.Assign [.Name y py] (.DictComp kx vx [⟨tg, iter, ifs, 0⟩] scope pos) spos) (tAsg (tDc wi g tt tk tv (own.map (·.2))) (gName i)) := by
  refine ⟨fun pins s σ H D I h => ?_⟩
  rw [exec_Assign_Name_used _ _ _ _ hsw]
  refine wpAny_bind (wpAny_standAt (wpAny_bind ?_))
  show wpAny _ X.A (do let _ ← comprehension (.DictComp kx vx [⟨tg, iter, ifs, 0⟩] scope pos) scope X.env (firstIterPos [⟨tg, iter, ifs, 0⟩] pos) newDict false (eval iter X.env) (some (assign (.Name y py) X.env))) _ _ s
  have h : tDc wi g tt tk tv (own.map (·.2)) σ H (fun x H1 => gName i x σ H1 D.nx) := h
  refine wpAny_bind (thn (dc_core (Qf := fun _ s' => SP X pins D .next s') hc hN I hi ok hg ht hk he hs h fun L C s' m H' I' q hn f => ?_) fun _ s' hq => wpAny_pure (wpAny_pure hq))
  show wpAny _ _ (assign (.Name y py) X.env (.ref L)) _ _ _
  refine wpAny_assign_Name (store_ok2 (v := V.ref L) I' hN hy (.inl hyl) rfl (fun s2 I2 ⟨a, sb, ha⟩ => ?_) (.inr hyl))
  obtain ⟨f0, f1, f2, f3, f4, f5⟩ := f
  have haC : C ≠ a := by
    rcases ha with z | z
    · rw [z]; exact f1
    · exact fun e => f4 y a z e.symm
  refine ⟨m, hn.sameBut sb haC, fun h3 sb3 => ?_⟩
  exact ⟨_, H', I2.turned (t' := s2.toks) (fun b o hb e => (sb3.2 b hb).trans e) f0 f1 f3 f4 f5, q⟩
end
end L2

set_option Elab.async false
set_option linter.all false
set_option maxRecDepth 100000
set_option maxHeartbeats 4000000
/-! dicts whose keys are tuples, nested: an own object of the heap (HO.ext) -/
namespace ND
open PySem PySem.Spec PyProof.Rows L2
abbrev NK := PySem.NestedKey
abbrev Ent := NK × Addr × Value
def Raw (P : Program) (w : World) (a : Addr) (xs : List Ent) : Heap → Prop := fun h => ((a == sysModules) = false ∧ xs.length ≤ sizeLine) ∧ ∃ o es ep, h.get? a = some o ∧ o.ExactDict ∧ o.data = .dict es ep ∧ es.toList = xs.map (entryOfKey (nestedKind P w)) ∧ (xs.map (·.1)).Nodup
def NDO (P : Program) (w : World) (a : Addr) (xs : List Ent) : HO := .ext (Raw P w a xs)
theorem ndo_ok {P : Program} {w : World} {H : Hp} {h : Heap} {a : Addr} {xs : List Ent} (r : Raw P w a xs h) : ObjOk P w H h a (NDO P w a xs) :=
  ⟨r, let ⟨_, o, _, _, ho, _⟩ := r; ⟨o, ho⟩, fun h1 h2 ⟨z, o, es, ep, ho, q⟩ st => ⟨z, o, es, ep, st o ho, q⟩⟩
theorem raw_rd {P : Program} {w : World} {H : Hp} {h : Heap} {a : Addr} {xs : List Ent} (ok : HOk P w H h) (e : Rd H a (NDO P w a xs)) : Raw P w a xs h := (show ObjOk P w H h a (NDO P w a xs) from e.ok ok).1
mutual
inductive VKey (K : PySem.W.Frag) (H : Hp) : NK → V → Prop
  | non : VKey K H .none .non
  | int (i : Int) : VKey K H (.num i) (.int i)
  | text (x : Str) : VKey K H (.text x) (.str x)
  | tup {a : Addr} {us : List V} {ks : List NK} : SqT K H a us → VKeys K H ks us → VKey K H (.tup ks) (.ref a)
inductive VKeys (K : PySem.W.Frag) (H : Hp) : List NK → List V → Prop
  | nil : VKeys K H [] []
  | cons {k : NK} {v : V} {ks : List NK} {vs : List V} : VKey K H k v → VKeys K H ks vs → VKeys K H (k :: ks) (v :: vs)
end
section
variable {X : Cx} {pins : List (Addr × Obj)} {σ : L2.St} {H H' : Hp} {s : Shared}
theorem sqt_obj (I : Inv X pins σ H s) {a : Addr} {us : List V} (h : SqT X.K H a us) : ∃ o its n, s.heap.get? a = some o ∧ o.cls = .type "tuple" ∧ o.data = .seq its n ∧ Vals us its.toList := by
  rcases h with h | ⟨o, its, n, h1, h2, h3, _, h5⟩
  · obtain ⟨_, its, r, o, h1, h2, n, h3⟩ := (show ObjOk X.prog X.w H s.heap a (.tup us) from h.ok I.hok)
    exact ⟨o, its.toArray, n, h1, h2, h3, r⟩
  · exact ⟨o, its, n, I.kIn _ _ h1, h2, h3, h5⟩
mutual
theorem VKey.is (I : Inv X pins σ H s) : ∀ (k : NK) (v : V) (u : Value), VKey X.K H k v → RelV v u → NestedIs s.heap k u
  | .none, _, _, h, r => by
    cases h
    cases r
    exact .none
  | .num i, _, _, h, r => by
    cases h
    obtain ⟨t, rfl⟩ := r
    exact .int i t
  | .text x, _, _, h, r => by
    cases h
    obtain ⟨t, rfl⟩ := r
    exact .text x t
  | .tup ks, _, _, h, r => by
    cases h with
    | tup hq hk =>
      cases r
      obtain ⟨o, its, n, h1, h2, h3, h4⟩ := sqt_obj I hq
      exact .tup h1 h2 h3 (VKeys.is I ks _ _ hk h4)
theorem VKeys.is (I : Inv X pins σ H s) : ∀ (ks : List NK) (vs : List V) (us : List Value), VKeys X.K H ks vs → Vals vs us → NestedAll s.heap ks us
  | [], _, _, h, r => by
    cases h
    cases r
    exact .nil
  | k :: ks, _, _, h, r => by
    cases h with
    | cons h1 h2 =>
      cases r with
      | cons r1 r2 => exact .cons (VKey.is I k _ _ h1 r1) (VKeys.is I ks _ _ h2 r2)
end
mutual
theorem VKey.mono {K : PySem.W.Frag} (e : ∀ a us, SqT K H a us → SqT K H' a us) : ∀ (k : NK) (v : V), VKey K H k v → VKey K H' k v
  | .none, _, h => by cases h; exact .non
  | .num i, _, h => by cases h; exact .int i
  | .text x, _, h => by cases h; exact .text x
  | .tup ks, _, h => by
    cases h with
    | tup hq hk => exact .tup (e _ _ hq) (VKeys.mono e ks _ hk)
theorem VKeys.mono {K : PySem.W.Frag} (e : ∀ a us, SqT K H a us → SqT K H' a us) : ∀ (ks : List NK) (vs : List V), VKeys K H ks vs → VKeys K H' ks vs
  | [], _, h => by cases h; exact .nil
  | k :: ks, _, h => by
    cases h with
    | cons h1 h2 => exact .cons (VKey.mono e k _ h1) (VKeys.mono e ks _ h2)
end
end
/-- the dict's table: keys, values -/
abbrev KN (K : PySem.W.Frag) (H : Hp) : List (NK × V) → List Ent → Prop := Paired fun p q => p.1 = q.1 ∧ (VKey K H q.1 (.ref q.2.1) ∧ q.1.depth ≤ 8) ∧ RelV p.2 q.2.2
section
variable {K : PySem.W.Frag} {H H' : Hp}
theorem KN.val {kvs : List (NK × V)} {xs : List Ent} (r : KN K H kvs xs) (k : NK) : RelO (valV kvs k) ((atKey xs k).map (·.2)) := by
  induction r with
  | nil => exact True.intro
  | @cons p q ps qs h t ih =>
    obtain ⟨h1, _, h2⟩ := h
    by_cases e : p.1 = k
    · have e' : q.1 = k := h1.symm.trans e
      have b : atKey (q :: qs) k = some q.2 := by simp [atKey, List.find?_cons, e']
      rw [valV_pos e, b]; exact h2
    · have e' : ¬ q.1 = k := fun z => e (h1.trans z)
      have b : atKey (q :: qs) k = atKey qs k := by simp [atKey, List.find?_cons, e']
      rw [valV_neg e, b]; exact ih
theorem KN.repl {kvs : List (NK × V)} {xs : List Ent} (r : KN K H kvs xs) (k : NK) {y : V} {u : Value} (ry : RelV y u) :
    KN K H (kvs.map fun kv => if kv.1 = k then (kv.1, y) else kv) (xs.map (putAt k u)) := by
  induction r with
  | nil => exact .nil
  | @cons p q ps qs h t ih =>
    rw [List.map_cons, List.map_cons]
    refine .cons ?_ ih
    obtain ⟨h1, h2, h3⟩ := h
    unfold putAt
    by_cases e : p.1 = k
    · rw [if_pos e, if_pos (h1.symm.trans e)]; exact ⟨h1, h2, ry⟩
    · rw [if_neg e, if_neg (fun z => e (h1.trans z))]; exact ⟨h1, h2, h3⟩
theorem KN.put {kvs : List (NK × V)} {xs : List Ent} (r : KN K H kvs xs) (k : NK) {b : Addr} {y : V} {u : Value} (hb : VKey K H k (.ref b)) (hd : k.depth ≤ 8) (ry : RelV y u) :
    KN K H (putK kvs k y) (storedH xs k b u) := by
  have e : (kvs.any fun kv => decide (kv.1 = k)) = (atKey xs k).isSome := by
    rw [valV_any, (r.val k).isSome_eq, Option.isSome_map]
  unfold putK storedH
  rw [e]
  by_cases q : (atKey xs k).isSome = true
  · rw [if_pos q, if_pos q]; exact r.repl k ry
  · rw [if_neg q, if_neg q]; exact Paired.snoc r ⟨rfl, ⟨hb, hd⟩, ry⟩
theorem KN.mono {kvs : List (NK × V)} {xs : List Ent} (r : KN K H kvs xs) (e : ∀ a us, SqT K H a us → SqT K H' a us) : KN K H' kvs xs :=
  Paired.mapP r fun _ _ z => ⟨z.1, ⟨VKey.mono e _ _ z.2.1.1, z.2.1.2⟩, z.2.2⟩
end
section
variable {X : Cx} {pins : List (Addr × Obj)} {σ : L2.St} {H : Hp} {s : Shared} {a b : Addr} {xs : List Ent} {kvs : List (NK × V)} {k : NK} {v : V} {r : Value} {A : Around} {E : Value → Shared → Prop}
theorem KN.dict (I : Inv X pins σ H s) (rw_ : Raw X.prog X.w a xs s.heap) (kn : KN X.K H kvs xs) : s.heap.DictOfH (nestedKind X.prog X.w) a xs := by
  obtain ⟨_, o, es, ep, h1, h2, h3, h4, h5⟩ := rw_
  refine ⟨o, es, ep, h1, h2, h3, h4, fun x hx => ?_, h5⟩
  have all : ∀ {l : List (NK × V)} {m : List Ent}, KN X.K H l m → ∀ x ∈ m, (nestedKind X.prog X.w).is s.heap x.1 x.2.1 := by
    intro l m q
    induction q with
    | nil => intro x hx; exact nomatch hx
    | @cons p q ps qs hq t ih =>
      intro x hx
      rcases List.mem_cons.mp hx with e | hx
      · subst e
        exact ⟨VKey.is I _ _ _ hq.2.1.1 rfl, hq.2.1.2⟩
      · exact ih x hx
  exact all kn x hx
theorem room {A : Around} (hu : A.units + 16 < cLine) : (nestedKind X.prog X.w).room A.in1 := by
  show A.in1.units + 8 < cLine
  have : A.in1.units ≤ A.units + 1 := Nat.le_of_eq rfl
  omega
/-- d[k] -/
theorem n_getItem {Q : Value → Shared → Prop} (hu : A.units + 16 < cLine) (I : Inv X pins σ H s) (e : Rd H a (NDO X.prog X.w a xs)) (kn : KN X.K H kvs xs) (hk : VKey X.K H k (.ref b)) (hd : k.depth ≤ 8) (l : valV kvs k = some v)
    (h : ∀ w' s', Inv X pins σ H s' → RelV v w' → Q w' s') : wpAny (model X.prog X.w) A (getItem (.ref a) (.ref b)) Q E s := by
  have rw_ := raw_rd I.hok e
  obtain ⟨w', hw, rw'⟩ := RelO.some_of (v := v) (o := (atKey xs k).map (·.2)) (by rw [← l]; exact kn.val k)
  obtain ⟨p, hp, hp2⟩ := Option.map_eq_some_iff.mp hw
  refine wpAny_getItem_heap (room (X := X) hu) ⟨VKey.is I _ _ _ hk rfl, hd⟩ (kn.dict I rw_) hp ?_
  rw [hp2]
  exact h w' _ (I.tok _) rw'
/-- d[k] = v -/
theorem n_setItem {Q : Unit → Shared → Prop} (hu : A.units + 16 < cLine) (I : Inv X pins σ H s) (e : H a = some (NDO X.prog X.w a xs)) (kn : KN X.K H kvs xs) (hk : VKey X.K H k (.ref b)) (hd : k.depth ≤ 8) (hz : kvs.length < sizeLine) (rv : RelV v r)
    (h : ∀ s', Inv X pins σ (upd H a (NDO X.prog X.w a (storedH xs k b r))) s' → Q () s') : wpAny (model X.prog X.w) A (setItem (.ref a) (.ref b) r) Q E s := by
  have rw_ := raw_rd I.hok (.inl e)
  have hz' : xs.length ≤ sizeLine := by rw [← Paired.length kn]; exact Nat.le_of_lt hz
  refine wpAny_setItem_heap (hsz := hz') (room (X := X) hu) ⟨VKey.is I _ _ _ hk rfl, hd⟩ (kn.dict I rw_) fun h' dd' hs => ?_
  obtain ⟨q, es, ep, hq, h2, h3, h4, _, h5⟩ := dd'
  have kn' := kn.put k hk hd rv
  have hl : (storedH xs k b r).length ≤ sizeLine := by
    rw [← Paired.length kn']
    have := length_putK kvs k v
    omega
  exact h _ (d_write I (by rw [e]; exact True.intro) hs ⟨q, hq⟩ (ndo_ok ⟨⟨rw_.1.1, hl⟩, q, es, ep, hq, h2, h3, h4, h5⟩))
/-- d.get(k, x) -/
theorem n_get2 {x : Value} {d : V} {Q : Value → Shared → Prop} (hu : A.units + 16 < cLine) (I : Inv X pins σ H s) (e : Rd H a (NDO X.prog X.w a xs)) (kn : KN X.K H kvs xs) (hk : VKey X.K H k (.ref b)) (hd : k.depth ≤ 8) (rx : RelV d x)
    (h : ∀ w' s', Inv X pins σ H s' → RelV ((valV kvs k).getD d) w' → Q w' s') : wpAny (model X.prog X.w) A (call (.builtin "dict.get") [.ref a, .ref b, x]) Q E s := by
  have rw_ := raw_rd I.hok e
  refine getOr_keyed (room (X := X) hu) ⟨VKey.is I _ _ _ hk rfl, hd⟩ rw_.1.1 ⟨xs, kn.dict I rw_, rfl⟩ (h _ _ (I.tok _) ?_)
  rw [valueAt_pairsH]
  exact (kn.val k).getD rx
end
end ND

set_option Elab.async false
set_option linter.all false
set_option maxRecDepth 100000
set_option maxHeartbeats 4000000
/-! dicts of nested tuple keys: the statements' rules -/
namespace ND
open PySem PySem.Spec PyProof.Rows L2
section
variable {P : Program} {w : World} {K : PySem.W.Frag}
def tNGet (P : Program) (w : World) (K : PySem.W.Frag) (td ty : TE) : TE := fun σ H Q => td σ H fun x H1 => ty σ H1 fun y H2 => ∃ (a b : Addr) (xs : List Ent) (kvs : List (NK × V)) (k : NK) (v : V), x = .ref a ∧ y = .ref b ∧ Rd H2 a (NDO P w a xs) ∧ KN K H2 kvs xs ∧ VKey K H2 k (.ref b) ∧ k.depth ≤ 8 ∧ valV kvs k = some v ∧ Q v H2
def tNGet2 (P : Program) (w : World) (K : PySem.W.Frag) (td ty tx : TE) : TE := fun σ H Q => td σ H fun x H1 => ∃ (a : Addr) (xs : List Ent), x = .ref a ∧ Rd H1 a (NDO P w a xs) ∧ ty σ H1 fun y H2 => tx σ H2 fun z H3 => ∃ (b : Addr) (xs : List Ent) (kvs : List (NK × V)) (k : NK), y = .ref b ∧ Rd H3 a (NDO P w a xs) ∧ KN K H3 kvs xs ∧ VKey K H3 k (.ref b) ∧ k.depth ≤ 8 ∧ Q ((valV kvs k).getD z) H3
def sNPut (P : Program) (w : World) (K : PySem.W.Frag) (td ty tv : TE) : TS := fun D σ H => tv σ H fun v H1 => td σ H1 fun x H2 => ty σ H2 fun y H3 => ∃ (a b : Addr) (xs : List Ent) (kvs : List (NK × V)) (k : NK), x = .ref a ∧ y = .ref b ∧ H3 a = some (NDO P w a xs) ∧ KN K H3 kvs xs ∧ VKey K H3 k (.ref b) ∧ k.depth ≤ 8 ∧ kvs.length < sizeLine ∧
  ∀ u, RelV v u → D.nx σ (upd H3 a (NDO P w a (storedH xs k b u)))
def tNNew (P : Program) (w : World) : TE := fun _ H Q => ∀ p, H p = none → Q (.ref p) (upd H p (NDO P w p []))
end
theorem nd_typeIs {X : Cx} {pins : List (Addr × Obj)} {σ : L2.St} {H : Hp} {s : Shared} {a : Addr} {xs : List Ent} (I : Inv X pins σ H s) (e : Rd H a (NDO X.prog X.w a xs)) : s.TypeIs (.ref a) "dict" := by
  obtain ⟨_, o, es, ep, h1, h2, _⟩ := raw_rd I.hok e
  exact ⟨o, h1, h2.1⟩
theorem nd_noDict {X : Cx} {pins : List (Addr × Obj)} {σ : L2.St} {H : Hp} {s : Shared} {a : Addr} {xs : List Ent} (I : Inv X pins σ H s) (e : Rd H a (NDO X.prog X.w a xs)) : ∀ b, Value.ref a = .ref b → ∃ ob, s.heap.get? b = some ob ∧ ob.dict = none := fun b q => by
  cases q
  obtain ⟨_, o, es, ep, h1, h2, _⟩ := raw_rd I.hok e
  exact ⟨o, h1, h2.2.1⟩
theorem nd_empty {P : Program} {w : World} {H : Hp} (h : Heap) (hb : sysModules < h.objs.size) : ObjOk P w H (h.push { cls := .type "dict", data := .dict #[] }) h.objs.size (NDO P w h.objs.size []) :=
  ndo_ok ⟨⟨beq_eq_false_iff_ne.mpr (Ne.symm (Nat.ne_of_lt hb)), Nat.zero_le _⟩, _, #[], 0, Heap.get?_push_size _ rfl, ⟨rfl, rfl, rfl⟩, rfl, rfl, List.nodup_nil⟩
section
variable {X : Cx} {K : PySem.W.Frag} {o i e f value : Expr} {pos pos' apos cpos : Pos} {td ty tv tx : TE}
theorem pe_nget {P : Program} {w : World} (hP : X.prog = P) (hw : X.w = w) (hK : X.K = K) (hu : X.A.units + 64 < cLine) (ho : PE X o td) (hi : PE X i ty) (hs : NoSl i) : PE X (.Subscript o i pos) (tNGet P w K td ty) := by
  subst hK hP hw
  refine ⟨fun pins s σ H Q I h => ?_⟩
  refine subD_of PySem.F.slot_dict_getitem.lookup hs (thn (ho.run pins s σ H _ I h) fun u s1 ⟨x, H1, I1, rx, q1⟩ => thn (hi.run pins s1 σ H1 _ I1 q1) fun iv s2 ⟨y, H2, I2, ry, a, b, xs, kvs, k, v, ex, ey, hr, kn, hk, hd, hv, q2⟩ => ?_)
  subst ex ey
  obtain rfl : u = Value.ref a := rx
  obtain rfl : iv = Value.ref b := ry
  exact ⟨nd_typeIs I2 hr, n_getItem (by omega) I2 hr kn hk hd hv fun w' s3 I3 rw' => ⟨v, H2, I3, rw', q2⟩⟩
theorem pe_nget2 {P : Program} {w : World} (hP : X.prog = P) (hw : X.w = w) (hK : X.K = K) (hu : X.A.units + 64 < cLine) (ho : PE X o td) (he : PE X e ty) (hf : PE X f tx) (m : M2 X o "get" apos e f cpos) : PE X (.Call (.Attribute o "get" apos) [e, f] [] cpos) (tNGet2 P w K td ty tx) := by
  subst hK hP hw
  refine ⟨fun pins s σ H Q I h => ?_⟩
  refine wpAny_Call_method m.base m.few m.line PySem.F.plainAttrs_dict PySem.F.slot_dict_get PySem.F.type_dict_get (thn (ho.run pins s σ H _ I h) fun u s1 ⟨x, H1, I1, rx, a, xs0, ex, hr0, q1⟩ => ?_)
  subst ex
  obtain rfl : u = Value.ref a := rx
  refine ⟨nd_typeIs I1 hr0, nd_noDict I1 hr0, ?_⟩
  rw [m.trees]
  refine Calls.callWith_builtin rfl (Calls.evalArgs_plain (Calls.spliced_cons (thn (he.run pins s1 σ H1 _ I1 q1) fun iv s2 ⟨y, H2, I2, ry, q2⟩ =>
    Calls.spliced_cons (thn (hf.run pins s2 σ H2 _ I2 q2) fun fv s3 ⟨z, H3, I3, rz, b, xs, kvs, k, ey, hr, kn, hk, hd, q3⟩ => Calls.spliced_nil ?_))))
  subst ey
  obtain rfl : iv = Value.ref b := ry
  exact n_get2 (by omega) I3 hr kn hk hd rz fun w' s4 I4 rw' => ⟨_, H3, I4, rw', q3⟩
theorem ps_nput {P : Program} {w : World} (hP : X.prog = P) (hw : X.w = w) (hK : X.K = K) (hu : X.A.units + 64 < cLine) (ho : PE X o td) (hi : PE X i ty) (hv : PE X value tv) (hs : swapsWith value (some (.Subscript o i pos')) pos.line X.env = pure false) :
    PS X (.Assign [.Subscript o i pos'] value pos) (sNPut P w K td ty tv) := by
  subst hK hP hw
  refine ⟨fun pins s σ H D I h => ?_⟩
  refine wpAny_Assign_Subscript (thn (hv.run pins s σ H _ I h) fun r s1 ⟨v, H1, I1, rv, q1⟩ => thn (ho.run pins s1 σ H1 _ I1 q1) fun u s2 ⟨x, H2, I2, rx, q2⟩ => thn (hi.run pins s2 σ H2 _ I2 q2) fun iv s3 ⟨y, H3, I3, ry, a, b, xs, kvs, k, ex, ey, hr, kn, hk, hd, hz, q3⟩ => ?_) hs
  subst ex ey
  obtain rfl : u = Value.ref a := rx
  obtain rfl : iv = Value.ref b := ry
  exact n_setItem (by omega) I3 hr kn hk hd hz rv fun s4 I4 => ⟨σ, _, I4, q3 _ rv⟩
theorem pe_nnew {P : Program} {w : World} (hP : X.prog = P) (hw : X.w = w) : PE X (.Dict [] [] pos) (tNNew P w) := by
  subst hP hw
  exact ⟨fun pins s σ H Q I h =>
  wpAny_Dict_empty ⟨.ref s.heap.objs.size, _, I.laid (a := s.heap.objs.size) (o := NDO X.prog X.w s.heap.objs.size []) (t' := s.toks) (fun _ _ q => Heap.get?_push_of_some _ q) (Nat.le_refl _) (nd_empty s.heap I.big), rfl, h _ (I.hok.fresh (Nat.le_refl _))⟩⟩
end
/-! ### for .. in d.items() -/
section
variable {X : Cx} {pins : List (Addr × Obj)} {σ : L2.St} {H : Hp} {s : Shared} {d : Addr} {o : Obj} {xs : List Ent}
theorem frzN (I : Inv X pins σ H s) (h : H d = some (.frz o (NDO X.prog X.w d xs))) :
    (d == sysModules) = false ∧ s.heap.get? d = some o ∧ o.ExactDict ∧ ∃ (es : Array DictEntry) (ep : Nat), o.data = .dict es ep ∧ es.size = xs.length ∧ s.heap.DictRaw d es ep ∧ ∀ (i : Nat) (x : Ent), xs[i]? = some x → ∃ h : i < es.size, es[i].key = .ref x.2.1 ∧ es[i].val = x.2.2 := by
  obtain ⟨hd, r, _, _⟩ := I.hok d _ h
  obtain ⟨⟨hs, hz⟩, o', es, ep, ho, hx, hdt, he, _⟩ := r
  rw [hd] at ho
  cases ho
  have hsz : es.size = xs.length := size_of_entries he
  refine ⟨hs, hd, hx, es, ep, hdt, hsz, ⟨o, hd, hx, hdt⟩, fun i x hx' => ?_⟩
  have hi : i < es.size := by rw [hsz]; exact (List.getElem?_eq_some_iff.mp hx').1
  have q := entry_at he i
  rw [hx', Array.getElem?_eq_getElem hi] at q
  have q : es[i] = entryOfKey (nestedKind X.prog X.w) x := Option.some.inj q
  exact ⟨hi, by rw [q]; rfl, by rw [q]; rfl⟩
end
/-- the pairs, each a new tuple: the key's own tuple, the value -/
def Itn (P : Program) (w : World) (d : Addr) (o : Obj) (xs : List Ent) (vs : List V) : It :=
  ⟨fun i H => H d = some (.frz o (NDO P w d xs)) ∧ i < xs.length, fun i H x H' => ∃ T y v, xs[i]? = some y ∧ vs[i]? = some v ∧ x = .ref T ∧ H T = none ∧ H' = upd H T (.tup [.ref y.2.1, v]), fun i H => H d = some (.frz o (NDO P w d xs)) ∧ xs.length ≤ i⟩
abbrev VsOf : List V → List Ent → Prop := Paired fun v q => RelV v q.2.2
theorem turn_nitems {P : Program} {w : World} {K : PySem.W.Frag} {d : Addr} {o : Obj} {es : Array DictEntry} {ep : Nat} {xs : List Ent} {vs : List V} {elts : List Expr} {kk : Nat} {tpos : Pos} (it : Addr) (hv : VsOf vs xs) (hod : o.data = .dict es ep) :
    Turn P w K (.Tuple elts kk tpos) (Itn P w d o xs vs) [it] it (fun i h => ∃ ok ov, IsItemIter h it d i xs.length ep ok ov) where
  mem := by simp
  obj := fun i h st b hb => by
    have e : b = it := by simpa using hb
    subst e
    obtain ⟨ok, ov, e⟩ := st
    exact ⟨_, e, fun v z => nomatch z⟩
  keep := fun i h h' st k => let ⟨ok, ov, e⟩ := st; ⟨ok, ov, k it (by simp) _ e⟩
  item := by
    intro X hP hw hK hc i pins s σ H E I hf st hg
    subst hP hw hK
    obtain ⟨hd, hi⟩ := hg
    obtain ⟨hs, hgd, hx, es', ep', hdt, hsz, hm, hent⟩ := frzN I hd
    obtain ⟨rfl, rfl⟩ := dict_ep hod hdt
    obtain ⟨y, hy⟩ : ∃ y, xs[i]? = some y := ⟨xs[i], List.getElem?_eq_getElem hi⟩
    obtain ⟨hlt', hkey, hval⟩ := hent i y hy
    have hlen : vs.length = xs.length := Paired.length hv
    obtain ⟨v, hvi⟩ : ∃ v, vs[i]? = some v := ⟨vs[i]'(by omega), List.getElem?_eq_getElem (by omega)⟩
    have hrel : RelV v y.2.2 := by
      obtain ⟨y', hy', r⟩ := paired_get hv hvi
      rw [hy] at hy'
      cases hy'
      exact r
    obtain ⟨ok, ov, he⟩ := st
    rw [← hsz] at he
    have hlt : it < s.heap.objs.size := Heap.lt_size he
    refine wpAny_pyNext_items_item_raw he hm hlt' fun h' ho hT hz hk => ?_
    rw [hkey, hval] at ho hT
    refine ⟨_, rfl, wpAny_letOwnedTupleGo_items (s := { s with heap := h' }) ho fun h'' he' sb => ?_⟩
    have hT2 : h''.get? s.heap.objs.size = some { cls := .type "tuple", data := .seq #[.ref y.2.1, y.2.2] } := (sb.2 _ (Nat.ne_of_gt hlt)).trans hT
    have new : ObjOk X.prog X.w (upd H s.heap.objs.size (.tup [.ref y.2.1, v])) h'' s.heap.objs.size (.tup [.ref y.2.1, v]) :=
      ⟨by show 2 ≤ sizeLine; decide, [.ref y.2.1, y.2.2], .cons rfl (.cons hrel .nil), ⟨_, hT2, rfl, _, rfl⟩⟩
    have I1 : Inv X pins σ (upd H s.heap.objs.size (.tup [.ref y.2.1, v])) { s with heap := h'' } :=
      I.turnedNew (t' := s.toks) (ch := [it]) (fun b ob hb e => (sb.2 b (by simpa using hb)).trans (hk b ob (by simpa using hb) e)) hf (Nat.le_refl _) new
    refine ⟨.ref s.heap.objs.size, _, I1, rfl, ⟨_, y, v, hy, hvi, rfl, I.hok.fresh (Nat.le_refl _), rfl⟩, ⟨.ref y.2.1, y.2.2, ?_⟩, fun b hb => ?_⟩
    · rw [← hsz]; exact he'
    · have e : b = it := by simpa using hb
      rw [e, upd_ne (Nat.ne_of_lt hlt)]
      exact (hf it (by simp)).1
  done := by
    intro X hP hw hK hc i pins s σ H E I hf st hg
    subst hP hw hK
    obtain ⟨hd, hi⟩ := hg
    obtain ⟨f0, f1, f2, f3, f4, f5⟩ := hf it (by simp)
    obtain ⟨hs, hgd, hx, es', ep', hdt, hsz, hm, hent⟩ := frzN I hd
    obtain ⟨rfl, rfl⟩ := dict_ep hod hdt
    obtain ⟨ok, ov, he⟩ := st
    rw [← hsz] at he
    exact wpAny_pyNext_items_end_raw (I.ok.hd hc) he hm (by omega) fun h' eb => ⟨rfl, I.turned (t' := s.toks) (fun b ob hb e => eb b ob hb e) f0 f1 f3 f4 f5⟩
  self := fun A i s Q E st h => let ⟨_, _, e⟩ := st; PySem.W.kcp_self e h
def iNItems (P : Program) (w : World) (td : TE) : TI := fun σ H R => td σ H fun x H1 => ∃ (d : Addr) (o : Obj) (xs : List Ent) (vs : List V), x = .ref d ∧ H1 d = some (.frz o (NDO P w d xs)) ∧ VsOf vs xs ∧ R (Itn P w d o xs vs) H1
section
variable {X : Cx} {e : Expr} {td : TE} {apos cpos : Pos}
theorem pi_nitems {P : Program} {w : World} (hP : X.prog = P) (hw : X.w = w) {elts : List Expr} {kk : Nat} {tpos : Pos} (he : PE X e td) (hbase : attributeBase e "items" X.env (eval e X.env) = eval e X.env := by rfl) (hline : (apos.endLine == cpos.line) = true := by rfl) :
    PI X (.Tuple elts kk tpos) (.Call (.Attribute e "items" apos) [] [] cpos) (iNItems P w td) := by
  subst hP hw
  refine ⟨fun pins s σ H R I h => ?_⟩
  refine wpAny_Call_method (T := "dict") (id := "dict.items") hbase rfl hline F.plainAttrs_dict F.slot_dict_items F.type_dict_items (thn (he.run pins s σ H _ I h) fun u s1 ⟨x, H1, I1, rx, d, o, xs, vs, ex, hd, hv, q⟩ => ?_)
  subst ex
  obtain rfl : u = Value.ref d := rx
  obtain ⟨hs, hgd, hx, es, ep, hdt, hsz, hm, _⟩ := frzN I1 hd
  refine ⟨hm.typeIs, (fun b q => by cases q; exact ⟨o, hgd, hx.2.1⟩), ?_⟩
  have I2 : Inv X pins σ H1 { s1 with heap := s1.heap.push { cls := .type "dict_items", data := .fields #[.ref d] } } := I1.kept (t' := s1.toks) fun b ob q => Heap.get?_push_of_some _ q
  have fin : wpAny (model X.prog X.w) X.A (pyIter (.ref s1.heap.objs.size)) (PIE X pins σ (.Tuple elts kk tpos) R) X.xe { s1 with heap := s1.heap.push { cls := .type "dict_items", data := .fields #[.ref d] } } := by
    refine wpAny_pyIter_items_raw (d := d) ⟨_, Heap.get?_push_size _ rfl, rfl, rfl⟩ (hm.at fun o e => Heap.get?_push_of_some _ e) (pi_one (tk := s1.toks) I2 _ (turn_nitems _ hv hdt) ⟨.none, .none, ?_⟩ q)
    rw [← hsz]
    exact Heap.get?_push_size _ rfl
  show wpAny _ _ (callWith cpos (.builtin "dict.items") [.ref d] [] []) _ X.xe s1
  exact method_meetsIn F.slot_dict_items F.entry_dict_items rfl (PySem.evalArgs_none ⟨rfl, hm.typeIs, F.args_dict_items_1 _, _, meets_dict_items_raw d hs, ⟨⟨es, ep, hm⟩, fin⟩⟩)
end
end ND

set_option Elab.async false
set_option linter.all false
set_option maxRecDepth 100000
set_option maxHeartbeats 4000000
/-! comprehensions that make a dict of nested tuple keys: one loop, two loops -/
namespace ND
open PySem PySem.Spec PyProof.Rows L2
/-- what storing k: v into the new dict at D asks, and what it leaves -/
def Sto (P : Program) (w : World) (K : PySem.W.Frag) (D : Addr) (y z : V) (H : Hp) (Nx : Hp → Prop) : Prop := ∃ (b : Addr) (xs : List Ent) (kvs : List (NK × V)) (k : NK), y = .ref b ∧ H D = some (NDO P w D xs) ∧ KN K H kvs xs ∧ VKey K H k (.ref b) ∧ k.depth ≤ 8 ∧ kvs.length < sizeLine ∧
  ∀ u, RelV z u → Nx (upd H D (NDO P w D (storedH xs k b u)))
theorem sto_ok {X : Cx} {pins : List (Addr × Obj)} {σ : L2.St} {H : Hp} {s : Shared} {E : Value → Shared → Prop} {D : Addr} {y z : V} {u r : Value} {Nx : Hp → Prop} {Q : Unit → Shared → Prop} (hu : X.A.units + 16 < cLine) (I : Inv X pins σ H s) (ry : RelV y u) (rv : RelV z r) (h : Sto X.prog X.w X.K D y z H Nx)
    (q : ∀ s' H', Inv X pins σ H' s' → Nx H' → Q () s') : wpAny (model X.prog X.w) X.A (dictSet D u r) Q E s := by
  obtain ⟨b, xs, kvs, k, rfl, hD, kn, hk, hd, hz, nx⟩ := h
  obtain rfl : u = Value.ref b := ry
  have rw_ := raw_rd I.hok (.inl hD)
  have hz' : xs.length ≤ sizeLine := by rw [← Paired.length kn]; exact Nat.le_of_lt hz
  refine wpAny_dictSet_heap (hsz := hz') (knd := nestedKind X.prog X.w) (by show X.A.units + 8 < cLine; omega) ⟨VKey.is I _ _ _ hk rfl, hd⟩ (kn.dict I rw_) fun h' dd' hs => ?_
  obtain ⟨o, es, ep, hq, h2, h3, h4, _, h5⟩ := dd'
  have kn' := kn.put k hk hd rv
  have hl : (storedH xs k b r).length ≤ sizeLine := by
    rw [← Paired.length kn']
    have := length_putK kvs k z
    omega
  exact q _ _ (d_write I (by rw [hD]; exact True.intro) hs ⟨o, hq⟩ (ndo_ok ⟨⟨rw_.1.1, hl⟩, o, es, ep, hq, h2, h3, h4, h5⟩)) (nx _ rv)
section
variable {prog : Program} {w : World} {A : Around} {R : Result → Shared → Prop} {s : Shared} {kx vx t0 i0 t1 i1 : Expr} {ifs0 ifs1 : List Expr} {scope : Scope} {pos : Pos} {it : Value} {D : Addr} {env : Env}
theorem turn2_out (kx vx t0 i0 t1 i1 : Expr) (ifs0 ifs1 : List Expr) (scope : Scope) (pos : Pos) (it : Value) (D : Addr) (env : Env) :
    compTurn (.DictComp kx vx [⟨t0, i0, ifs0, 0⟩, ⟨t1, i1, ifs1, 0⟩] scope pos) 0 it (.ref D) env = (do
      standAt i0.pos
      match ← pyNext it with
      | none => pure (.done .next)
      | some v =>
        letOwnedTupleGo t0 it v
        assign t0 env v
        let mut ok := true
        for c in ifs0 do
          if ok then ok ← isTrue c env (eval c env)
        if ok then
          let x ← eval i1 env
          standAt i1.pos
          let x ← foldedSetIterable i1 env x
          let _ ← runOwn (.compStart (.DictComp kx vx [⟨t0, i0, ifs0, 0⟩, ⟨t1, i1, ifs1, 0⟩] scope pos) 1 (← holding [x] (pyIter x)) (.ref D) env) env
        again (.compLoop (.DictComp kx vx [⟨t0, i0, ifs0, 0⟩, ⟨t1, i1, ifs1, 0⟩] scope pos) 0 it (.ref D) env)) := by rfl
theorem turn2_in (kx vx t0 i0 t1 i1 : Expr) (ifs0 ifs1 : List Expr) (scope : Scope) (pos : Pos) (it : Value) (D : Addr) (env : Env) :
    compTurn (.DictComp kx vx [⟨t0, i0, ifs0, 0⟩, ⟨t1, i1, ifs1, 0⟩] scope pos) 1 it (.ref D) env = (do
      standAt i1.pos
      match ← pyNext it with
      | none => pure (.done .next)
      | some v =>
        letOwnedTupleGo t1 it v
        assign t1 env v
        let mut ok := true
        for c in ifs1 do
          if ok then ok ← isTrue c env (eval c env)
        if ok then
          (do
            let kv ← eval kx env
            let vv ← holding [kv] (eval vx env)
            standAt { kx.pos with endLine := vx.pos.endLine, endCol := vx.pos.endCol }
            holding [kv, vv] (dictSet D kv vv))
        again (.compLoop (.DictComp kx vx [⟨t0, i0, ifs0, 0⟩, ⟨t1, i1, ifs1, 0⟩] scope pos) 1 it (.ref D) env)) := by rfl
theorem loop2_out (hs : ∀ x, foldedSetIterable i1 env x = pure x) (I : Nat → Shared → Prop)
    (turn : ∀ n s, I n s → wpAny (model prog w) A (pyNext it) (fun r s₁ => match r with
      | none => R (.ok .next) s₁
      | some v => wpAny (model prog w) A (letOwnedTupleGo t0 it v) (fun _ s₁' => wpAny (model prog w) A (assign t0 env v) (fun _ s₂ =>
          wpAny (model prog w) A (forIn ifs0 true fun c r => if r = true then do let ok ← isTrue c env (eval c env); pure (ForInStep.yield ok) else pure (ForInStep.yield r)) (fun ok s₃ =>
            if ok = true then wpAny (model prog w) A (eval i1 env) (fun x s₄ => wpAny (model prog w) A (pyIter x) (fun it1 s₅ =>
              codeAny (model prog w) A (.compStart (.DictComp kx vx [⟨t0, i0, ifs0, 0⟩, ⟨t1, i1, ifs1, 0⟩] scope pos) 1 it1 (.ref D) env) (fun r s' => match r with
                | .ok _ => ∃ m, m < n ∧ I m s'
                | .error _ => False) s₅) (notedBy (model prog w) A env fun e s' => R (.error e) s') s₄) (notedBy (model prog w) A env fun e s' => R (.error e) s') s₃
            else ∃ m, m < n ∧ I m s₃) (notedBy (model prog w) A env fun e s' => R (.error e) s') s₂) (notedBy (model prog w) A env fun e s' => R (.error e) s') s₁') (notedBy (model prog w) A env fun e s' => R (.error e) s') s₁) (notedBy (model prog w) A env fun e s' => R (.error e) s') s)
    (n : Nat) (h : I n s) : codeAny (model prog w) A (.compLoop (.DictComp kx vx [⟨t0, i0, ifs0, 0⟩, ⟨t1, i1, ifs1, 0⟩] scope pos) 0 it (.ref D) env) R s := by
  refine codeAny_loop rfl I (fun n s hI => ?_) n h
  show wpAny _ A ((compTurn (.DictComp kx vx [⟨t0, i0, ifs0, 0⟩, ⟨t1, i1, ifs1, 0⟩] scope pos) 0 it (.ref D) env).onRaise (fun x => do noteFrame x env; theTreesLotGoes x)) _ _ s
  refine wpAny_noted ?_
  rw [turn2_out]
  refine wpAny_bind (wpAny_standAt (wpAny_bind (wpAny_mono (turn n s hI) (fun r s₁ h₁ => ?_) fun _ _ h' => h')))
  cases r with
  | none => exact wpAny_pure h₁
  | some v =>
    refine wpAny_bind (wpAny_mono h₁ (fun _ s₁' h₁' => ?_) fun _ _ h' => h')
    refine wpAny_bind (wpAny_mono h₁' (fun _ s₂ h₂ => wpAny_bind (wpAny_mono h₂ (fun ok s₃ h₃ => ?_) fun _ _ h' => h')) fun _ _ h' => h')
    cases ok with
    | false => exact wpAny_pure ⟨rfl, h₃⟩
    | true =>
      refine wpAny_bind (wpAny_mono h₃ (fun x s₄ h₄ => ?_) fun _ _ h' => h')
      refine wpAny_bind (wpAny_standAt (wpAny_bind (wpAny_of_eq (hs x) (wpAny_bind (wpAny_holding (wpAny_mono h₄ (fun it1 s₅ h₅ => ?_) fun _ _ h' => h'))))))
      refine wpAny_bind (wpAny_runOwn ?_)
      rw [Around.mark_none]
      refine codeAny_mono h₅ fun r s' hr => ?_
      cases r with
      | ok f =>
        first
          | exact wpAny_pure ⟨rfl, hr⟩
          | exact wpAny_bind (wpAny_pure (wpAny_pure ⟨rfl, hr⟩))
      | error e => exact hr.elim
theorem loop2_in (I : Nat → Shared → Prop)
    (turn : ∀ n s, I n s → wpAny (model prog w) A (pyNext it) (fun r s₁ => match r with
      | none => R (.ok .next) s₁
      | some v => wpAny (model prog w) A (letOwnedTupleGo t1 it v) (fun _ s₁' => wpAny (model prog w) A (assign t1 env v) (fun _ s₂ =>
          wpAny (model prog w) A (forIn ifs1 true fun c r => if r = true then do let ok ← isTrue c env (eval c env); pure (ForInStep.yield ok) else pure (ForInStep.yield r)) (fun ok s₃ =>
            if ok = true then wpAny (model prog w) A (eval kx env) (fun kv s₄ => wpAny (model prog w) A (eval vx env) (fun vv s₅ =>
              wpAny (model prog w) A (dictSet D kv vv) (fun _ s₆ => ∃ m, m < n ∧ I m s₆) (notedBy (model prog w) A env fun e s' => R (.error e) s') s₅) (notedBy (model prog w) A env fun e s' => R (.error e) s') s₄) (notedBy (model prog w) A env fun e s' => R (.error e) s') s₃
            else ∃ m, m < n ∧ I m s₃) (notedBy (model prog w) A env fun e s' => R (.error e) s') s₂) (notedBy (model prog w) A env fun e s' => R (.error e) s') s₁') (notedBy (model prog w) A env fun e s' => R (.error e) s') s₁) (notedBy (model prog w) A env fun e s' => R (.error e) s') s)
    (n : Nat) (h : I n s) : codeAny (model prog w) A (.compLoop (.DictComp kx vx [⟨t0, i0, ifs0, 0⟩, ⟨t1, i1, ifs1, 0⟩] scope pos) 1 it (.ref D) env) R s := by
  refine codeAny_loop rfl I (fun n s hI => ?_) n h
  show wpAny _ A ((compTurn (.DictComp kx vx [⟨t0, i0, ifs0, 0⟩, ⟨t1, i1, ifs1, 0⟩] scope pos) 1 it (.ref D) env).onRaise (fun x => do noteFrame x env; theTreesLotGoes x)) _ _ s
  refine wpAny_noted ?_
  rw [turn2_in]
  refine wpAny_bind (wpAny_standAt (wpAny_bind (wpAny_mono (turn n s hI) (fun r s₁ h₁ => ?_) fun _ _ h' => h')))
  cases r with
  | none => exact wpAny_pure h₁
  | some v =>
    refine wpAny_bind (wpAny_mono h₁ (fun _ s₁' h₁' => ?_) fun _ _ h' => h')
    refine wpAny_bind (wpAny_mono h₁' (fun _ s₂ h₂ => wpAny_bind (wpAny_mono h₂ (fun ok s₃ h₃ => ?_) fun _ _ h' => h')) fun _ _ h' => h')
    cases ok with
    | false => exact wpAny_pure ⟨rfl, h₃⟩
    | true =>
      exact wpAny_bind (wpAny_bind (wpAny_mono h₃ (fun kv s₄ h₄ => wpAny_bind (wpAny_holding (wpAny_mono h₄ (fun vv s₅ h₅ => wpAny_bind (wpAny_standAt (wpAny_holding (wpAny_mono h₅ (fun _ s₆ h₆ => wpAny_pure ⟨rfl, h₆⟩) fun _ _ h' => h')))) fun _ _ h' => h'))) fun _ _ h' => h'))
theorem start1_ok (h0 : codeAny (model prog w) A (.compLoop (.DictComp kx vx [⟨t0, i0, ifs0, 0⟩, ⟨t1, i1, ifs1, 0⟩] scope pos) 1 it (.ref D) env) R s)
    (h : wpAny (model prog w) A (pyIter it) (fun it' s' => codeAny (model prog w) A (.compLoop (.DictComp kx vx [⟨t0, i0, ifs0, 0⟩, ⟨t1, i1, ifs1, 0⟩] scope pos) 1 it' (.ref D) env) R s') (notedBy (model prog w) A env fun x s' => R (.error x) s') s) :
    codeAny (model prog w) A (.compStart (.DictComp kx vx [⟨t0, i0, ifs0, 0⟩, ⟨t1, i1, ifs1, 0⟩] scope pos) 1 it (.ref D) env) R s := by
  refine codeAny_of_tree ?_
  show wpAny _ _ ((compStart (.DictComp kx vx [⟨t0, i0, ifs0, 0⟩, ⟨t1, i1, ifs1, 0⟩] scope pos) 1 it (.ref D) env).onRaise (fun x => do noteFrame x env; standAt theWindowsPlace)) _ _ s
  refine wpAny_notedAt ?_
  unfold compStart
  show wpAny _ _ (ask >>= _) _ _ s
  refine wpAny_bind (wpAny_askSetting (wpAny_ite ?_))
  split
  · first
      | exact wpAny_bind (wpAny_pure (wpAny_pure (And.intro rfl h0)))
      | exact wpAny_pure (And.intro rfl h0)
  · first
      | exact wpAny_bind (wpAny_rule (wpAny_bind (wpAny_standAt (wpAny_bind (wpAny_mono h (fun it' s' h' => wpAny_pure (And.intro rfl h')) fun _ _ x => x)))))
      | (refine wpAny_bind (wpAny_rule ?_); show wpAny _ _ (standAt i1.pos >>= _) _ _ s; exact wpAny_bind (wpAny_standAt (wpAny_bind (wpAny_mono h (fun it' s' h' => wpAny_pure (And.intro rfl h')) fun _ _ x => x))))
end
end ND

set_option Elab.async false
set_option linter.all false
set_option maxRecDepth 100000
set_option maxHeartbeats 4000000
/-! comprehensions that make a dict of nested tuple keys (printed by gen47.py) -/
namespace ND
open PySem PySem.Spec PyProof.Rows L2
def tDcN (P : Program) (w : World) (K : PySem.W.Frag) (wi : TI) (g : TG) (tt : TT) (tk tv : TE) (vs : List Nat) : TE := fun σ H Q => wi σ H fun J H1 => ∀ D, H1 D = none → ∃ W : Nat → Nat → Hp → Prop, (∃ m, W 0 m (upd H1 D (NDO P w D []))) ∧ ∀ i m H, W i m H →
  (J.stop i H ∧ Q (.ref D) H) ∨ (J.go i H ∧ ∃ Nx : Hp → Prop, (∀ H', Nx H' → ∃ m', m' < m ∧ W (i + 1) m' H') ∧ ∀ x H', J.yld i H x H' → g x (wipe σ vs) H' fun σ2 H2 => wipe σ2 vs = wipe σ vs ∧ tt σ2 H2 fun b H3 =>
    if b = true then tk σ2 H3 fun y H4 => tv σ2 H4 fun z H5 => Sto P w K D y z H5 Nx else Nx H3)
def tDcN2 (P : Program) (w : World) (K : PySem.W.Frag) (wi : TI) (g : TG) (tt : TT) (wi1 : TI) (g1 : TG) (tt1 : TT) (tk tv : TE) (vs vs1 : List Nat) : TE := fun σ H Q => wi σ H fun J H1 => ∀ D, H1 D = none → ∃ W : Nat → Nat → Hp → Prop, (∃ m, W 0 m (upd H1 D (NDO P w D []))) ∧ ∀ i m H, W i m H →
  (J.stop i H ∧ Q (.ref D) H) ∨ (J.go i H ∧ ∃ Nx : Hp → Prop, (∀ H', Nx H' → ∃ m', m' < m ∧ W (i + 1) m' H') ∧ ∀ x H', J.yld i H x H' → g x (wipe σ vs) H' fun σ2 H2 => wipe σ2 vs = wipe σ vs ∧ tt σ2 H2 fun b H3 =>
    if b = true then wi1 σ2 H3 fun J1 H4 => ∃ W1 : Nat → Nat → Hp → Prop, (∃ m, W1 0 m H4) ∧ ∀ j k H, W1 j k H →
      (J1.stop j H ∧ Nx H) ∨ (J1.go j H ∧ ∃ Nx1 : Hp → Prop, (∀ H', Nx1 H' → ∃ k', k' < k ∧ W1 (j + 1) k' H') ∧ ∀ x H', J1.yld j H x H' → g1 x (wipe σ2 vs1) H' fun σ3 H5 => wipe σ3 vs1 = wipe σ2 vs1 ∧ tt1 σ3 H5 fun b H6 =>
        if b = true then tk σ3 H6 fun y H7 => tv σ3 H7 fun z H8 => Sto P w K D y z H8 Nx1 else Nx1 H6)
    else Nx H3)
section
variable {X : Cx}
theorem dcn_core {pins : List (Addr × Obj)} {s : Shared} {σ : L2.St} {H : Hp} {Q : VK} {kx vx tg iter : Expr} {ifs : List Expr} {scope : Scope} {own : List (Str × Nat)} {pos pos' : Pos} {wi : TI} {g : TG} {tt : TT} {tk tv : TE} {use : Option (Value → Sem Unit)} {Qf : Value → Shared → Prop}
    (hu : X.A.units + 64 < cLine) (hc : X.calm = true) (hN : X.N.Nodup) (I : Inv X pins σ H s) (hi : PI X tg iter wi) (ok : BlkOk X.N X.env.scope scope own) (hg : ∀ (s : Shared) (H : Hp) (C : Addr) (cl : List (Str × Addr)) (fp : List Addr), PG (X.blk s H scope (compEnvC scope cl C X.env) fp) tg g) (ht : ∀ (s : Shared) (H : Hp) (C : Addr) (cl : List (Str × Addr)) (fp : List Addr), PTs (X.blk s H scope (compEnvC scope cl C X.env) fp) ifs tt) (hk : ∀ (s : Shared) (H : Hp) (C : Addr) (cl : List (Str × Addr)) (fp : List Addr), PE (X.blk s H scope (compEnvC scope cl C X.env) fp) kx tk) (he : ∀ (s : Shared) (H : Hp) (C : Addr) (cl : List (Str × Addr)) (fp : List Addr), PE (X.blk s H scope (compEnvC scope cl C X.env) fp) vx tv) (hs : ∀ x, foldedSetIterable iter X.env x = pure x)
    (h : tDcN X.prog X.w X.K wi g tt tk tv (own.map (·.2)) σ H Q)
    (hRR : ∀ D C s' m H', Inv X pins σ H' s' → Q (.ref D) H' → s'.heap.Ns C m → FpOk X pins H' C → compPost (model X.prog X.w) X.A X.xe use Qf (.ref D) C (.ok .next) s') :
    wpAny (model X.prog X.w) X.A (comprehension (.DictComp kx vx [⟨tg, iter, ifs, 0⟩] scope pos) scope X.env pos' newDict false (eval iter X.env) use) Qf X.xe s := by
  have hfree : ∀ y ∈ scope.names, y.2 = .free → ∃ c, X.env.cells.lookup y.1 = some c := fun y hy e => by
    rcases ok.free y hy e with k | k
    · exact I.ok.has _ (.inl k)
    · exact I.ok.has _ (.inr k)
  refine wpAny_comprehension_free (use := use) rfl hs (closure_ok hfree) ok.kind (fun y hy e => by rw [ok.uniq y hy, e])
    (thn (hi.run pins s σ H _ I h) fun xv s1 hx => thn hx fun itv s2 h2 => ?_)
  obtain ⟨it, fp, tn, J, H2, e, I2, T, st2, f2, q⟩ := h2
  subst e
  refine wpAny_newObj_type (newEnv_comp ?_)
  generalize hD : s2.heap.objs.size = D
  have hDn : H2 D = none := I2.hok.fresh (Nat.le_of_eq hD)
  obtain ⟨W, ⟨m0, w0⟩, turn⟩ := q D hDn
  generalize hs3 : ({ s2 with heap := s2.heap.push { cls := .type "dict", data := .dict #[] } } : Shared) = s3
  have I3 : Inv X pins σ (upd H2 D (NDO X.prog X.w D [])) s3 := by
    rw [← hs3, ← hD]
    exact I2.laid (t' := s2.toks) (fun b o e => Heap.get?_push_of_some _ e) (Nat.le_refl _) (nd_empty s2.heap I2.big)
  have h3 : s3.heap = s2.heap.push { cls := .type "dict", data := .dict #[] } := by rw [← hs3]
  have sz : ∀ b ∈ fp, b < s2.heap.objs.size := fun b hb => by
    obtain ⟨o, e, _⟩ := T.obj _ _ st2 b hb
    exact Heap.lt_size e
  have f3 : ∀ b ∈ fp, FpOk X pins (upd H2 D (NDO X.prog X.w D [])) b ∧ b < s3.heap.objs.size := fun b hb => by
    have hlt := sz b hb
    refine ⟨⟨?_, (f2 b hb).2⟩, by rw [h3, Heap.size_push]; exact Nat.lt_succ_of_lt hlt⟩
    rw [upd_ne (by rw [← hD]; exact Nat.ne_of_lt hlt)]
    exact (f2 b hb).1
  have st3 : tn 0 s3.heap := T.keep _ _ _ st2 fun b _ o e => by rw [h3]; exact Heap.get?_push_of_some _ e
  have I4 := block_start I3 ok hN f3
  have pg := hg s3 (upd H2 D (NDO X.prog X.w D [])) s3.heap.objs.size (cellsFrom (s3.heap.objs.size + 1) scope.names (cloFrom X.env.cells scope.names [])) fp
  have pt := ht s3 (upd H2 D (NDO X.prog X.w D [])) s3.heap.objs.size (cellsFrom (s3.heap.objs.size + 1) scope.names (cloFrom X.env.cells scope.names [])) fp
  have pk := hk s3 (upd H2 D (NDO X.prog X.w D [])) s3.heap.objs.size (cellsFrom (s3.heap.objs.size + 1) scope.names (cloFrom X.env.cells scope.names [])) fp
  have pe := he s3 (upd H2 D (NDO X.prog X.w D [])) s3.heap.objs.size (cellsFrom (s3.heap.objs.size + 1) scope.names (cloFrom X.env.cells scope.names [])) fp
  show codeAny _ _ (.compStart (.DictComp kx vx [⟨tg, iter, ifs, 0⟩] scope pos) 0 (.ref it) (.ref D) (compEnvC scope (cellsFrom (s3.heap.objs.size + 1) scope.names (cloFrom X.env.cells scope.names [])) s3.heap.objs.size X.env)) (compPost (model X.prog X.w) X.A X.xe use Qf (.ref D) s3.heap.objs.size) { s3 with heap := pushCells (s3.heap.push { cls := .type "dict", data := .dict #[] }) scope.names }
  have nfp : ∀ b ∈ fp, (upd H2 D (NDO X.prog X.w D [])) b = none := fun b hb => (f3 b hb).1.1
  generalize hce : compEnvC scope (cellsFrom (s3.heap.objs.size + 1) scope.names (cloFrom X.env.cells scope.names [])) s3.heap.objs.size X.env = ce at I4 pg pt pk pe ⊢
  have cL : ce.locals = s3.heap.objs.size := by subst hce; rfl
  generalize hH3 : upd H2 D (NDO X.prog X.w D []) = H3 at I3 I4 pg pt pk pe w0 nfp f3
  generalize hs4 : ({ s3 with heap := pushCells (s3.heap.push { cls := .type "dict", data := .dict #[] }) scope.names } : Shared) = s4 at I4 ⊢
  have st4 : tn 0 s4.heap := T.keep _ _ _ st3 fun b _ o e => by rw [← hs4]; exact pushCells_keeps _ _ _ _ (Heap.get?_push_of_some _ e)
  have stat : ∀ {σ' : L2.St} {H' : Hp} {s' : Shared}, Inv (X.blk s3 H3 scope ce fp) [] σ' H' s' → (∀ b ∈ fp, H' b = none) → ∀ b ∈ fp, FpOk (X.blk s3 H3 scope ce fp) [] H' b := fun {σ' H' s'} I' hn b hb =>
    ⟨hn b hb, (I'.ok.exf b hb).1, I'.ok.exfs b hb, .inl hb, fun x c e => (I'.ok.exf b hb).2 x c e, fun p hp => absurd (show p ∈ ([] : List (Addr × Obj)) ++ [] from hp) (by simp)⟩
  have loop : codeAny (model X.prog X.w) X.A (.compLoop (.DictComp kx vx [⟨tg, iter, ifs, 0⟩] scope pos) 0 (.ref it) (.ref D) ce) (compPost (model X.prog X.w) X.A X.xe use Qf (.ref D) s3.heap.objs.size) s4 := by
    refine compLoop_anyD (fun n s' => ∃ i H', Inv (X.blk s3 H3 scope ce fp) [] (wipe σ (own.map (·.2))) H' s' ∧ tn i s'.heap ∧ (∀ b ∈ fp, H' b = none) ∧ W i n H') ?_ m0 ⟨0, H3, I4, st4, nfp, w0⟩
    rintro n s5 ⟨i, H5, I5, st5, n5, w5⟩
    rcases turn i n H5 w5 with ⟨stop, qq⟩ | ⟨go, Nx, hNx, step⟩
    · have td := T.done (X.blk s3 H3 scope ce fp) rfl rfl rfl hc i [] s5 _ H5 (fun _ _ => False) I5 (stat I5 n5) st5 stop
      refine thnF td fun r s6 ⟨hr, I6⟩ => ?_
      subst hr
      have I7 : Inv X pins σ H5 s6 := I3.call' (ch := fp) I6.os I6.base I6.hok I6.bare fun b hb => ⟨(f3 b hb).1.2.2.2.1, (f3 b hb).1.2.1, (f3 b hb).1.2.2.2.2.1, (f3 b hb).1.2.2.2.2.2⟩
      have nC : H5 s3.heap.objs.size = none := by
        have z : H5 ce.locals = none := I6.free
        rw [cL] at z
        exact z
      obtain ⟨m, hn, _⟩ := I6.loc
      have hn : s6.heap.Ns ce.locals m := hn
      rw [cL] at hn
      exact hRR D s3.heap.objs.size s6 m H5 I7 qq hn (I3.fpOk (Nat.le_refl _) nC)
    · have ti := T.item (X.blk s3 H3 scope ce fp) rfl rfl rfl hc i [] s5 _ H5 (fun _ _ => False) I5 (stat I5 n5) st5 go
      refine thnF ti fun r s6 ⟨u, hr, h6⟩ => ?_
      subst hr
      refine thnF h6 fun _ s7 ⟨x, H7, I7, r7, y7, st7, n7⟩ => ?_
      have I7' := I7.pinned (stat I7 n7) (T.obj _ _ st7)
      refine thnF (pg.run _ s7 _ H7 x u _ I7' r7 (step x H7 y7)) fun _ s8 ⟨σ8, H8, I8, hw8, q8⟩ => ?_
      refine thnF (pt.run _ s8 σ8 H8 _ I8 q8) fun b s9 ⟨H9, I9, q9⟩ => ?_
      have fin : ∀ {σ9 : L2.St} {s' : Shared} {H' : Hp}, Inv (X.blk s3 H3 scope ce fp) ([] ++ pinsAt fp s7.heap) σ9 H' s' → (wipe σ (own.map (·.2))).length = σ9.length → (∀ (j : Nat) v, (wipe σ (own.map (·.2)))[j]? = some (some v) → σ9[j]? = some (some v)) → Nx H' →
          ∃ m, m < n ∧ ∃ i H', Inv (X.blk s3 H3 scope ce fp) [] (wipe σ (own.map (·.2))) H' s' ∧ tn i s'.heap ∧ (∀ b ∈ fp, H' b = none) ∧ W i m H' := fun {σ9 s' H'} I' hl hk nx => by
        obtain ⟨m', hm, w'⟩ := hNx H' nx
        have pin' : ∀ b ∈ fp, ∀ o, s7.heap.get? b = some o → s'.heap.get? b = some o ∧ H' b = none := fun b hb o e =>
          let z := I'.pin (b, o) (List.mem_append_right _ (List.mem_append_right _ (mem_pinsAt hb e)))
          ⟨z.1, z.2.1⟩
        refine ⟨m', hm, i + 1, H', (I'.unpinned (pins := [])).weak hl hk, T.keep _ _ _ st7 fun b hb o e => (pin' b hb o e).1, fun b hb => ?_, w'⟩
        obtain ⟨o, e, _⟩ := T.obj _ _ st7 b hb
        exact (pin' b hb o e).2
      have hl8 : (wipe σ (own.map (·.2))).length = σ8.length := by rw [← hw8, wipe_length]
      have hk8 : ∀ (j : Nat) v, (wipe σ (own.map (·.2)))[j]? = some (some v) → σ8[j]? = some (some v) := fun j v e => by
        rw [← hw8] at e
        exact (wipe_some e).1
      cases b with
      | false =>
        simp only [Bool.false_eq_true, if_false] at q9 ⊢
        exact fin I9 hl8 hk8 q9
      | true =>
        simp only [if_true] at q9 ⊢
        refine thnF (pk.run _ s9 σ8 H9 _ I9 q9) fun z s10 ⟨yk, H10, I10, r10, q10⟩ => ?_
        refine thnF (pe.run _ s10 σ8 H10 _ I10 q10) fun z2 s11 ⟨yv, H11, I11, r11, sto⟩ => ?_
        exact sto_ok (X := X.blk s3 H3 scope ce fp) (by show X.A.units + 16 < cLine; omega) I11 r10 r11 sto fun s12 H12 I12 nx => fin I12 hl8 hk8 nx
  exact codeAny_compStart_dict loop (T.self X.A 0 _ _ _ st4 loop)
theorem pe_dcn {K : PySem.W.Frag} {kx vx tg iter : Expr} {ifs : List Expr} {scope : Scope} {own : List (Str × Nat)} {pos : Pos} {wi : TI} {g : TG} {tt : TT} {tk tv : TE} {P : Program} {w : World} (hP : X.prog = P) (hw : X.w = w) (hK : X.K = K) (hu : X.A.units + 64 < cLine) (hc : X.calm = true) (hN : X.N.Nodup) (hi : PI X tg iter wi) (ok : BlkOk X.N X.env.scope scope own) (hg : ∀ (s : Shared) (H : Hp) (C : Addr) (cl : List (Str × Addr)) (fp : List Addr), PG (X.blk s H scope (compEnvC scope cl C X.env) fp) tg g) (ht : ∀ (s : Shared) (H : Hp) (C : Addr) (cl : List (Str × Addr)) (fp : List Addr), PTs (X.blk s H scope (compEnvC scope cl C X.env) fp) ifs tt) (hk : ∀ (s : Shared) (H : Hp) (C : Addr) (cl : List (Str × Addr)) (fp : List Addr), PE (X.blk s H scope (compEnvC scope cl C X.env) fp) kx tk) (he : ∀ (s : Shared) (H : Hp) (C : Addr) (cl : List (Str × Addr)) (fp : List Addr), PE (X.blk s H scope (compEnvC scope cl C X.env) fp) vx tv) (hs : ∀ x, foldedSetIterable iter X.env x = pure x := by intro _; rfl) :
    PE X (.DictComp kx vx [⟨tg, iter, ifs, 0⟩] scope pos) (tDcN P w K wi g tt tk tv (own.map (·.2))) := by
  subst hK hP hw
  refine ⟨fun pins s σ H Q I h => ?_⟩
  rw [arm_eval_DictComp]
  refine dcn_core hu hc hN I hi ok hg ht hk he hs h fun D C s' m H' I' q hn f => ⟨m, hn, fun h'' sb => ?_⟩
  obtain ⟨f0, f1, f2, f3, f4, f5⟩ := f
  exact ⟨.ref D, H', I'.turned (t' := s'.toks) (fun b o hb e => (sb.2 b hb).trans e) f0 f1 f3 f4 f5, rfl, q⟩
theorem ps_setDcN {K : PySem.W.Frag} {i : Nat} {y : Str} {kx vx tg iter : Expr} {ifs : List Expr} {scope : Scope} {own : List (Str × Nat)} {pos spos py : Pos} {wi : TI} {g : TG} {tt : TT} {tk tv : TE} {P : Program} {w : World} (hP : X.prog = P) (hw : X.w = w) (hK : X.K = K) (hu : X.A.units + 64 < cLine) (hc : X.calm = true) (hN : X.N.Nodup) (hy : X.N[i]? = some y) (hyl : X.env.scope.names.lookup y = some .local)
    (hsw : swapsWith (.DictComp kx vx [⟨tg, iter, ifs, 0⟩] scope pos) (some (.Name y py)) spos.line X.env = pure true) (hi : PI X tg iter wi) (ok : BlkOk X.N X.env.scope scope own) (hg : ∀ (s : Shared) (H : Hp) (C : Addr) (cl : List (Str × Addr)) (fp : List Addr), PG (X.blk s H scope (compEnvC scope cl C X.env) fp) tg g) (ht : ∀ (s : Shared) (H : Hp) (C : Addr) (cl : List (Str × Addr)) (fp : List Addr), PTs (X.blk s H scope (compEnvC scope cl C X.env) fp) ifs tt) (hk : ∀ (s : Shared) (H : Hp) (C : Addr) (cl : List (Str × Addr)) (fp : List Addr), PE (X.blk s H scope (compEnvC scope cl C X.env) fp) kx tk) (he : ∀ (s : Shared) (H : Hp) (C : Addr) (cl : List (Str × Addr)) (fp : List Addr), PE (X.blk s H scope (compEnvC scope cl C X.env) fp) vx tv) (hs : ∀ x, foldedSetIterable iter X.env x = pure x := by intro _; rfl) :
    PS X (.Assign [.Name y py] (.DictComp kx vx [⟨tg, iter, ifs, 0⟩] scope pos) spos) (tAsg (tDcN P w K wi g tt tk tv (own.map (·.2))) (gName i)) := by
  subst hK hP hw
  refine ⟨fun pins s σ H D I h => ?_⟩
  rw [exec_Assign_Name_used _ _ _ _ hsw]
  refine wpAny_bind (wpAny_standAt (wpAny_bind ?_))
  show wpAny _ X.A (do let _ ← comprehension (.DictComp kx vx [⟨tg, iter, ifs, 0⟩] scope pos) scope X.env (firstIterPos [⟨tg, iter, ifs, 0⟩] pos) newDict false (eval iter X.env) (some (assign (.Name y py) X.env))) _ _ s
  have h : tDcN X.prog X.w X.K wi g tt tk tv (own.map (·.2)) σ H (fun x H1 => gName i x σ H1 D.nx) := h
  refine wpAny_bind (thn (dcn_core (Qf := fun _ s' => SP X pins D .next s') hu hc hN I hi ok hg ht hk he hs h fun L C s' m H' I' q hn f => ?_) fun _ s' hq => wpAny_pure (wpAny_pure hq))
  show wpAny _ _ (assign (.Name y py) X.env (.ref L)) _ _ _
  refine wpAny_assign_Name (store_ok2 (v := V.ref L) I' hN hy (.inl hyl) rfl (fun s2 I2 ⟨a, sb, ha⟩ => ?_) (.inr hyl))
  obtain ⟨f0, f1, f2, f3, f4, f5⟩ := f
  have haC : C ≠ a := by
    rcases ha with z | z
    · rw [z]; exact f1
    · exact fun e => f4 y a z e.symm
  refine ⟨m, hn.sameBut sb haC, fun h3 sb3 => ?_⟩
  exact ⟨_, H', I2.turned (t' := s2.toks) (fun b o hb e => (sb3.2 b hb).trans e) f0 f1 f3 f4 f5, q⟩
theorem dcn2_core {pins : List (Addr × Obj)} {s : Shared} {σ : L2.St} {H : Hp} {Q : VK} {kx vx tg iter tg1 iter1 : Expr} {ifs ifs1 : List Expr} {scope : Scope} {own : List (Str × Nat)} {vs1 : List Nat} {pos pos' : Pos} {wi wi1 : TI} {g g1 : TG} {tt tt1 : TT} {tk tv : TE} {use : Option (Value → Sem Unit)} {Qf : Value → Shared → Prop}
    (hu : X.A.units + 64 < cLine) (hc : X.calm = true) (hN : X.N.Nodup) (I : Inv X pins σ H s) (hi : PI X tg iter wi) (ok : BlkOk X.N X.env.scope scope own) (hg : ∀ (s : Shared) (H : Hp) (C : Addr) (cl : List (Str × Addr)) (fp : List Addr), PG (X.blk s H scope (compEnvC scope cl C X.env) fp) tg g) (ht : ∀ (s : Shared) (H : Hp) (C : Addr) (cl : List (Str × Addr)) (fp : List Addr), PTs (X.blk s H scope (compEnvC scope cl C X.env) fp) ifs tt) (hk : ∀ (s : Shared) (H : Hp) (C : Addr) (cl : List (Str × Addr)) (fp : List Addr), PE (X.blk s H scope (compEnvC scope cl C X.env) fp) kx tk) (he : ∀ (s : Shared) (H : Hp) (C : Addr) (cl : List (Str × Addr)) (fp : List Addr), PE (X.blk s H scope (compEnvC scope cl C X.env) fp) vx tv) (hi1 : ∀ (s : Shared) (H : Hp) (C : Addr) (cl : List (Str × Addr)) (fp : List Addr), PI (X.blk s H scope (compEnvC scope cl C X.env) fp) tg1 iter1 wi1) (hg1 : ∀ (s : Shared) (H : Hp) (C : Addr) (cl : List (Str × Addr)) (fp : List Addr), PG (X.blk s H scope (compEnvC scope cl C X.env) fp) tg1 g1) (ht1 : ∀ (s : Shared) (H : Hp) (C : Addr) (cl : List (Str × Addr)) (fp : List Addr), PTs (X.blk s H scope (compEnvC scope cl C X.env) fp) ifs1 tt1) (hv : ∀ i ∈ vs1, i ∈ own.map (·.2)) (hs1 : ∀ env x, foldedSetIterable iter1 env x = pure x) (hs : ∀ x, foldedSetIterable iter X.env x = pure x)
    (h : tDcN2 X.prog X.w X.K wi g tt wi1 g1 tt1 tk tv (own.map (·.2)) vs1 σ H Q)
    (hRR : ∀ D C s' m H', Inv X pins σ H' s' → Q (.ref D) H' → s'.heap.Ns C m → FpOk X pins H' C → compPost (model X.prog X.w) X.A X.xe use Qf (.ref D) C (.ok .next) s') :
    wpAny (model X.prog X.w) X.A (comprehension (.DictComp kx vx [⟨tg, iter, ifs, 0⟩, ⟨tg1, iter1, ifs1, 0⟩] scope pos) scope X.env pos' newDict false (eval iter X.env) use) Qf X.xe s := by
  have hfree : ∀ y ∈ scope.names, y.2 = .free → ∃ c, X.env.cells.lookup y.1 = some c := fun y hy e => by
    rcases ok.free y hy e with k | k
    · exact I.ok.has _ (.inl k)
    · exact I.ok.has _ (.inr k)
  refine wpAny_comprehension_free (use := use) rfl hs (closure_ok hfree) ok.kind (fun y hy e => by rw [ok.uniq y hy, e])
    (thn (hi.run pins s σ H _ I h) fun xv s1 hx => thn hx fun itv s2 h2 => ?_)
  obtain ⟨it, fp, tn, J, H2, e, I2, T, st2, f2, q⟩ := h2
  subst e
  refine wpAny_newObj_type (newEnv_comp ?_)
  generalize hD : s2.heap.objs.size = D
  have hDn : H2 D = none := I2.hok.fresh (Nat.le_of_eq hD)
  obtain ⟨W, ⟨m0, w0⟩, turn⟩ := q D hDn
  generalize hs3 : ({ s2 with heap := s2.heap.push { cls := .type "dict", data := .dict #[] } } : Shared) = s3
  have I3 : Inv X pins σ (upd H2 D (NDO X.prog X.w D [])) s3 := by
    rw [← hs3, ← hD]
    exact I2.laid (t' := s2.toks) (fun b o e => Heap.get?_push_of_some _ e) (Nat.le_refl _) (nd_empty s2.heap I2.big)
  have h3 : s3.heap = s2.heap.push { cls := .type "dict", data := .dict #[] } := by rw [← hs3]
  have sz : ∀ b ∈ fp, b < s2.heap.objs.size := fun b hb => by
    obtain ⟨o, e, _⟩ := T.obj _ _ st2 b hb
    exact Heap.lt_size e
  have f3 : ∀ b ∈ fp, FpOk X pins (upd H2 D (NDO X.prog X.w D [])) b ∧ b < s3.heap.objs.size := fun b hb => by
    have hlt := sz b hb
    refine ⟨⟨?_, (f2 b hb).2⟩, by rw [h3, Heap.size_push]; exact Nat.lt_succ_of_lt hlt⟩
    rw [upd_ne (by rw [← hD]; exact Nat.ne_of_lt hlt)]
    exact (f2 b hb).1
  have st3 : tn 0 s3.heap := T.keep _ _ _ st2 fun b _ o e => by rw [h3]; exact Heap.get?_push_of_some _ e
  have I4 := block_start I3 ok hN f3
  have pg := hg s3 (upd H2 D (NDO X.prog X.w D [])) s3.heap.objs.size (cellsFrom (s3.heap.objs.size + 1) scope.names (cloFrom X.env.cells scope.names [])) fp
  have pt := ht s3 (upd H2 D (NDO X.prog X.w D [])) s3.heap.objs.size (cellsFrom (s3.heap.objs.size + 1) scope.names (cloFrom X.env.cells scope.names [])) fp
  have pk := hk s3 (upd H2 D (NDO X.prog X.w D [])) s3.heap.objs.size (cellsFrom (s3.heap.objs.size + 1) scope.names (cloFrom X.env.cells scope.names [])) fp
  have pe := he s3 (upd H2 D (NDO X.prog X.w D [])) s3.heap.objs.size (cellsFrom (s3.heap.objs.size + 1) scope.names (cloFrom X.env.cells scope.names [])) fp
  have pi1 := hi1 s3 (upd H2 D (NDO X.prog X.w D [])) s3.heap.objs.size (cellsFrom (s3.heap.objs.size + 1) scope.names (cloFrom X.env.cells scope.names [])) fp
  have pg1 := hg1 s3 (upd H2 D (NDO X.prog X.w D [])) s3.heap.objs.size (cellsFrom (s3.heap.objs.size + 1) scope.names (cloFrom X.env.cells scope.names [])) fp
  have pt1 := ht1 s3 (upd H2 D (NDO X.prog X.w D [])) s3.heap.objs.size (cellsFrom (s3.heap.objs.size + 1) scope.names (cloFrom X.env.cells scope.names [])) fp
  show codeAny _ _ (.compStart (.DictComp kx vx [⟨tg, iter, ifs, 0⟩, ⟨tg1, iter1, ifs1, 0⟩] scope pos) 0 (.ref it) (.ref D) (compEnvC scope (cellsFrom (s3.heap.objs.size + 1) scope.names (cloFrom X.env.cells scope.names [])) s3.heap.objs.size X.env)) (compPost (model X.prog X.w) X.A X.xe use Qf (.ref D) s3.heap.objs.size) { s3 with heap := pushCells (s3.heap.push { cls := .type "dict", data := .dict #[] }) scope.names }
  have nfp : ∀ b ∈ fp, (upd H2 D (NDO X.prog X.w D [])) b = none := fun b hb => (f3 b hb).1.1
  generalize hce : compEnvC scope (cellsFrom (s3.heap.objs.size + 1) scope.names (cloFrom X.env.cells scope.names [])) s3.heap.objs.size X.env = ce at I4 pg pt pk pe pi1 pg1 pt1 ⊢
  have cL : ce.locals = s3.heap.objs.size := by subst hce; rfl
  generalize hH3 : upd H2 D (NDO X.prog X.w D []) = H3 at I3 I4 pg pt pk pe pi1 pg1 pt1 w0 nfp f3
  generalize hs4 : ({ s3 with heap := pushCells (s3.heap.push { cls := .type "dict", data := .dict #[] }) scope.names } : Shared) = s4 at I4 ⊢
  have st4 : tn 0 s4.heap := T.keep _ _ _ st3 fun b _ o e => by rw [← hs4]; exact pushCells_keeps _ _ _ _ (Heap.get?_push_of_some _ e)
  have stat : ∀ {σ' : L2.St} {H' : Hp} {s' : Shared}, Inv (X.blk s3 H3 scope ce fp) [] σ' H' s' → (∀ b ∈ fp, H' b = none) → ∀ b ∈ fp, FpOk (X.blk s3 H3 scope ce fp) [] H' b := fun {σ' H' s'} I' hn b hb =>
    ⟨hn b hb, (I'.ok.exf b hb).1, I'.ok.exfs b hb, .inl hb, fun x c e => (I'.ok.exf b hb).2 x c e, fun p hp => absurd (show p ∈ ([] : List (Addr × Obj)) ++ [] from hp) (by simp)⟩
  have loop : codeAny (model X.prog X.w) X.A (.compLoop (.DictComp kx vx [⟨tg, iter, ifs, 0⟩, ⟨tg1, iter1, ifs1, 0⟩] scope pos) 0 (.ref it) (.ref D) ce) (compPost (model X.prog X.w) X.A X.xe use Qf (.ref D) s3.heap.objs.size) s4 := by
    refine loop2_out (hs1 ce) (fun n s' => ∃ i H', Inv (X.blk s3 H3 scope ce fp) [] (wipe σ (own.map (·.2))) H' s' ∧ tn i s'.heap ∧ (∀ b ∈ fp, H' b = none) ∧ W i n H') ?_ m0 ⟨0, H3, I4, st4, nfp, w0⟩
    rintro n s5 ⟨i, H5, I5, st5, n5, w5⟩
    rcases turn i n H5 w5 with ⟨stop, qq⟩ | ⟨go, Nx, hNx, step⟩
    · have td := T.done (X.blk s3 H3 scope ce fp) rfl rfl rfl hc i [] s5 _ H5 (fun _ _ => False) I5 (stat I5 n5) st5 stop
      refine thnF td fun r s6 ⟨hr, I6⟩ => ?_
      subst hr
      have I7 : Inv X pins σ H5 s6 := I3.call' (ch := fp) I6.os I6.base I6.hok I6.bare fun b hb => ⟨(f3 b hb).1.2.2.2.1, (f3 b hb).1.2.1, (f3 b hb).1.2.2.2.2.1, (f3 b hb).1.2.2.2.2.2⟩
      have nC : H5 s3.heap.objs.size = none := by
        have z : H5 ce.locals = none := I6.free
        rw [cL] at z
        exact z
      obtain ⟨m, hn, _⟩ := I6.loc
      have hn : s6.heap.Ns ce.locals m := hn
      rw [cL] at hn
      exact hRR D s3.heap.objs.size s6 m H5 I7 qq hn (I3.fpOk (Nat.le_refl _) nC)
    · have ti := T.item (X.blk s3 H3 scope ce fp) rfl rfl rfl hc i [] s5 _ H5 (fun _ _ => False) I5 (stat I5 n5) st5 go
      refine thnF ti fun r s6 ⟨u, hr, h6⟩ => ?_
      subst hr
      refine thnF h6 fun _ s7 ⟨x, H7, I7, r7, y7, st7, n7⟩ => ?_
      have I7' := I7.pinned (stat I7 n7) (T.obj _ _ st7)
      refine thnF (pg.run _ s7 _ H7 x u _ I7' r7 (step x H7 y7)) fun _ s8 ⟨σ8, H8, I8, hw8, q8⟩ => ?_
      refine thnF (pt.run _ s8 σ8 H8 _ I8 q8) fun b s9 ⟨H9, I9, q9⟩ => ?_
      have fin : ∀ {σ9 : L2.St} {s' : Shared} {H' : Hp}, Inv (X.blk s3 H3 scope ce fp) ([] ++ pinsAt fp s7.heap) σ9 H' s' → (wipe σ (own.map (·.2))).length = σ9.length → (∀ (j : Nat) v, (wipe σ (own.map (·.2)))[j]? = some (some v) → σ9[j]? = some (some v)) → Nx H' →
          ∃ m, m < n ∧ ∃ i H', Inv (X.blk s3 H3 scope ce fp) [] (wipe σ (own.map (·.2))) H' s' ∧ tn i s'.heap ∧ (∀ b ∈ fp, H' b = none) ∧ W i m H' := fun {σ9 s' H'} I' hl hk nx => by
        obtain ⟨m', hm, w'⟩ := hNx H' nx
        have pin' : ∀ b ∈ fp, ∀ o, s7.heap.get? b = some o → s'.heap.get? b = some o ∧ H' b = none := fun b hb o e =>
          let z := I'.pin (b, o) (List.mem_append_right _ (List.mem_append_right _ (mem_pinsAt hb e)))
          ⟨z.1, z.2.1⟩
        refine ⟨m', hm, i + 1, H', (I'.unpinned (pins := [])).weak hl hk, T.keep _ _ _ st7 fun b hb o e => (pin' b hb o e).1, fun b hb => ?_, w'⟩
        obtain ⟨o, e, _⟩ := T.obj _ _ st7 b hb
        exact (pin' b hb o e).2
      have hl8 : (wipe σ (own.map (·.2))).length = σ8.length := by rw [← hw8, wipe_length]
      have hk8 : ∀ (j : Nat) v, (wipe σ (own.map (·.2)))[j]? = some (some v) → σ8[j]? = some (some v) := fun j v e => by
        rw [← hw8] at e
        exact (wipe_some e).1
      cases b with
      | false =>
        simp only [Bool.false_eq_true, if_false] at q9 ⊢
        exact fin I9 hl8 hk8 q9
      | true =>
        simp only [if_true] at q9 ⊢
        have hk9 : ∀ (j : Nat) v, (wipe σ (own.map (·.2)))[j]? = some (some v) → (wipe σ8 vs1)[j]? = some (some v) := fun j v e => by
          rw [← hw8] at e
          obtain ⟨e1, e2⟩ := wipe_some e
          rw [wipe_out fun z => e2 (hv j z)]
          exact e1
        refine thnF (pi1.run _ s9 σ8 H9 _ I9 q9) fun xv s10 hx => thnF hx fun itv s11 h11 => ?_
        obtain ⟨it1, fp1, tn1, J1, H11, e1, I11, T1, st11, f11, W1, ⟨m1, w1⟩, turn1⟩ := h11
        subst e1
        have stat1 : ∀ {H' : Hp}, (∀ b ∈ fp1, H' b = none) → ∀ b ∈ fp1, FpOk (X.blk s3 H3 scope ce fp) ([] ++ pinsAt fp s7.heap) H' b := fun hn b hb => ⟨hn b hb, (f11 b hb).2⟩
        have loop1 : codeAny (model X.prog X.w) X.A (.compLoop (.DictComp kx vx [⟨tg, iter, ifs, 0⟩, ⟨tg1, iter1, ifs1, 0⟩] scope pos) 1 (.ref it1) (.ref D) ce)
            (fun r s' => match r with
              | .ok _ => ∃ m, m < n ∧ ∃ i H', Inv (X.blk s3 H3 scope ce fp) [] (wipe σ (own.map (·.2))) H' s' ∧ tn i s'.heap ∧ (∀ b ∈ fp, H' b = none) ∧ W i m H'
              | .error _ => False) s11 := by
          refine loop2_in (fun k s' => ∃ j H', Inv (X.blk s3 H3 scope ce fp) ([] ++ pinsAt fp s7.heap) (wipe σ8 vs1) H' s' ∧ tn1 j s'.heap ∧ (∀ b ∈ fp1, H' b = none) ∧ W1 j k H') ?_ m1 ⟨0, H11, I11.weak (wipe_length _ _) (fun j v e => (wipe_some e).1), st11, fun b hb => (f11 b hb).1, w1⟩
          rintro k s12 ⟨j, H12, I12, st12, n12, w12⟩
          rcases turn1 j k H12 w12 with ⟨stop1, nx1⟩ | ⟨go1, Nx1, hNx1, step1⟩
          · refine thnF (T1.done (X.blk s3 H3 scope ce fp) rfl rfl rfl hc j _ s12 (wipe σ8 vs1) H12 (fun _ _ => False) I12 (stat1 n12) st12 stop1) fun r s13 ⟨hr, I13⟩ => ?_
            subst hr
            exact fin I13 (hl8.trans (wipe_length σ8 vs1).symm) hk9 nx1
          · refine thnF (T1.item (X.blk s3 H3 scope ce fp) rfl rfl rfl hc j _ s12 (wipe σ8 vs1) H12 (fun _ _ => False) I12 (stat1 n12) st12 go1) fun r s13 ⟨u1, hr, h13⟩ => ?_
            subst hr
            refine thnF h13 fun _ s14 ⟨x1, H14, I14, r14, y14, st14, n14⟩ => ?_
            have I14' := I14.pinned (stat1 n14) (T1.obj _ _ st14)
            refine thnF (pg1.run _ s14 (wipe σ8 vs1) H14 x1 u1 _ I14' r14 (step1 x1 H14 y14)) fun _ s15 ⟨σ15, H15, I15, hw15, q15⟩ => ?_
            refine thnF (pt1.run _ s15 σ15 H15 _ I15 q15) fun b1 s16 ⟨H16, I16, q16⟩ => ?_
            have fin1 : ∀ {s' : Shared} {H' : Hp}, Inv (X.blk s3 H3 scope ce fp) (([] ++ pinsAt fp s7.heap) ++ pinsAt fp1 s14.heap) σ15 H' s' → Nx1 H' → ∃ m, m < k ∧ ∃ j H', Inv (X.blk s3 H3 scope ce fp) ([] ++ pinsAt fp s7.heap) (wipe σ8 vs1) H' s' ∧ tn1 j s'.heap ∧ (∀ b ∈ fp1, H' b = none) ∧ W1 j m H' := fun {s' H'} I' nx => by
              obtain ⟨m', hm, w'⟩ := hNx1 H' nx
              have pin' : ∀ b ∈ fp1, ∀ o, s14.heap.get? b = some o → s'.heap.get? b = some o ∧ H' b = none := fun b hb o e =>
                let z := I'.pin (b, o) (List.mem_append_right _ (List.mem_append_right _ (mem_pinsAt hb e)))
                ⟨z.1, z.2.1⟩
              refine ⟨m', hm, j + 1, H', I'.unpinned.weak (by rw [← hw15, wipe_length]) (fun j v e => by rw [← hw15] at e; exact (wipe_some e).1), T1.keep _ _ _ st14 fun b hb o e => (pin' b hb o e).1, fun b hb => ?_, w'⟩
              obtain ⟨o, e, _⟩ := T1.obj _ _ st14 b hb
              exact (pin' b hb o e).2
            cases b1 with
            | false =>
              simp only [Bool.false_eq_true, if_false] at q16 ⊢
              exact fin1 I16 q16
            | true =>
              simp only [if_true] at q16 ⊢
              refine thnF (pk.run _ s16 σ15 H16 _ I16 q16) fun z s17 ⟨yk, H17, I17, r17, q17⟩ => ?_
              refine thnF (pe.run _ s17 σ15 H17 _ I17 q17) fun z2 s18 ⟨yv, H18, I18, r18, sto⟩ => ?_
              exact sto_ok (X := X.blk s3 H3 scope ce fp) (by show X.A.units + 16 < cLine; omega) I18 r17 r18 sto fun s19 H19 I19 nx => fin1 I19 nx
        exact start1_ok loop1 (T1.self X.A 0 _ _ _ st11 loop1)
  exact codeAny_compStart_dict loop (T.self X.A 0 _ _ _ st4 loop)
theorem pe_dcn2 {K : PySem.W.Frag} {kx vx tg iter tg1 iter1 : Expr} {ifs ifs1 : List Expr} {scope : Scope} {own : List (Str × Nat)} {vs1 : List Nat} {pos : Pos} {wi wi1 : TI} {g g1 : TG} {tt tt1 : TT} {tk tv : TE} {P : Program} {w : World} (hP : X.prog = P) (hw : X.w = w) (hK : X.K = K) (hu : X.A.units + 64 < cLine) (hc : X.calm = true) (hN : X.N.Nodup) (hi : PI X tg iter wi) (ok : BlkOk X.N X.env.scope scope own) (hg : ∀ (s : Shared) (H : Hp) (C : Addr) (cl : List (Str × Addr)) (fp : List Addr), PG (X.blk s H scope (compEnvC scope cl C X.env) fp) tg g) (ht : ∀ (s : Shared) (H : Hp) (C : Addr) (cl : List (Str × Addr)) (fp : List Addr), PTs (X.blk s H scope (compEnvC scope cl C X.env) fp) ifs tt) (hk : ∀ (s : Shared) (H : Hp) (C : Addr) (cl : List (Str × Addr)) (fp : List Addr), PE (X.blk s H scope (compEnvC scope cl C X.env) fp) kx tk) (he : ∀ (s : Shared) (H : Hp) (C : Addr) (cl : List (Str × Addr)) (fp : List Addr), PE (X.blk s H scope (compEnvC scope cl C X.env) fp) vx tv) (hi1 : ∀ (s : Shared) (H : Hp) (C : Addr) (cl : List (Str × Addr)) (fp : List Addr), PI (X.blk s H scope (compEnvC scope cl C X.env) fp) tg1 iter1 wi1) (hg1 : ∀ (s : Shared) (H : Hp) (C : Addr) (cl : List (Str × Addr)) (fp : List Addr), PG (X.blk s H scope (compEnvC scope cl C X.env) fp) tg1 g1) (ht1 : ∀ (s : Shared) (H : Hp) (C : Addr) (cl : List (Str × Addr)) (fp : List Addr), PTs (X.blk s H scope (compEnvC scope cl C X.env) fp) ifs1 tt1) (hv : ∀ i ∈ vs1, i ∈ own.map (·.2)) (hs : ∀ x, foldedSetIterable iter X.env x = pure x := by intro _; rfl) (hs1 : ∀ env x, foldedSetIterable iter1 env x = pure x := by intro _ _; rfl) :
    PE X (.DictComp kx vx [⟨tg, iter, ifs, 0⟩, ⟨tg1, iter1, ifs1, 0⟩] scope pos) (tDcN2 P w K wi g tt wi1 g1 tt1 tk tv (own.map (·.2)) vs1) := by
  subst hK hP hw
  refine ⟨fun pins s σ H Q I h => ?_⟩
  rw [arm_eval_DictComp]
  refine dcn2_core hu hc hN I hi ok hg ht hk he hi1 hg1 ht1 hv hs1 hs h fun D C s' m H' I' q hn f => ⟨m, hn, fun h'' sb => ?_⟩
  obtain ⟨f0, f1, f2, f3, f4, f5⟩ := f
  exact ⟨.ref D, H', I'.turned (t' := s'.toks) (fun b o hb e => (sb.2 b hb).trans e) f0 f1 f3 f4 f5, rfl, q⟩
theorem ps_setDcN2 {K : PySem.W.Frag} {i : Nat} {y : Str} {kx vx tg iter tg1 iter1 : Expr} {ifs ifs1 : List Expr} {scope : Scope} {own : List (Str × Nat)} {vs1 : List Nat} {pos spos py : Pos} {wi wi1 : TI} {g g1 : TG} {tt tt1 : TT} {tk tv : TE} {P : Program} {w : World} (hP : X.prog = P) (hw : X.w = w) (hK : X.K = K) (hu : X.A.units + 64 < cLine) (hc : X.calm = true) (hN : X.N.Nodup) (hy : X.N[i]? = some y) (hyl : X.env.scope.names.lookup y = some .local)
    (hsw : swapsWith (.DictComp kx vx [⟨tg, iter, ifs, 0⟩, ⟨tg1, iter1, ifs1, 0⟩] scope pos) (some (.Name y py)) spos.line X.env = pure true) (hi : PI X tg iter wi) (ok : BlkOk X.N X.env.scope scope own) (hg : ∀ (s : Shared) (H : Hp) (C : Addr) (cl : List (Str × Addr)) (fp : List Addr), PG (X.blk s H scope (compEnvC scope cl C X.env) fp) tg g) (ht : ∀ (s : Shared) (H : Hp) (C : Addr) (cl : List (Str × Addr)) (fp : List Addr), PTs (X.blk s H scope (compEnvC scope cl C X.env) fp) ifs tt) (hk : ∀ (s : Shared) (H : Hp) (C : Addr) (cl : List (Str × Addr)) (fp : List Addr), PE (X.blk s H scope (compEnvC scope cl C X.env) fp) kx tk) (he : ∀ (s : Shared) (H : Hp) (C : Addr) (cl : List (Str × Addr)) (fp : List Addr), PE (X.blk s H scope (compEnvC scope cl C X.env) fp) vx tv) (hi1 : ∀ (s : Shared) (H : Hp) (C : Addr) (cl : List (Str × Addr)) (fp : List Addr), PI (X.blk s H scope (compEnvC scope cl C X.env) fp) tg1 iter1 wi1) (hg1 : ∀ (s : Shared) (H : Hp) (C : Addr) (cl : List (Str × Addr)) (fp : List Addr), PG (X.blk s H scope (compEnvC scope cl C X.env) fp) tg1 g1) (ht1 : ∀ (s : Shared) (H : Hp) (C : Addr) (cl : List (Str × Addr)) (fp : List Addr), PTs (X.blk s H scope (compEnvC scope cl C X.env) fp) ifs1 tt1) (hv : ∀ i ∈ vs1, i ∈ own.map (·.2)) (hs : ∀ x, foldedSetIterable iter X.env x = pure x := by intro _; rfl) (hs1 : ∀ env x, foldedSetIterable iter1 env x = pure x := by intro _ _; rfl) :
    PS X (.Assign [.Name y py] (.DictComp kx vx [⟨tg, iter, ifs, 0⟩, ⟨tg1, iter1, ifs1, 0⟩] scope pos) spos) (tAsg (tDcN2 P w K wi g tt wi1 g1 tt1 tk tv (own.map (·.2)) vs1) (gName i)) := by
  subst hK hP hw
  refine ⟨fun pins s σ H D I h => ?_⟩
  rw [exec_Assign_Name_used _ _ _ _ hsw]
  refine wpAny_bind (wpAny_standAt (wpAny_bind ?_))
  show wpAny _ X.A (do let _ ← comprehension (.DictComp kx vx [⟨tg, iter, ifs, 0⟩, ⟨tg1, iter1, ifs1, 0⟩] scope pos) scope X.env (firstIterPos [⟨tg, iter, ifs, 0⟩, ⟨tg1, iter1, ifs1, 0⟩] pos) newDict false (eval iter X.env) (some (assign (.Name y py) X.env))) _ _ s
  have h : tDcN2 X.prog X.w X.K wi g tt wi1 g1 tt1 tk tv (own.map (·.2)) vs1 σ H (fun x H1 => gName i x σ H1 D.nx) := h
  refine wpAny_bind (thn (dcn2_core (Qf := fun _ s' => SP X pins D .next s') hu hc hN I hi ok hg ht hk he hi1 hg1 ht1 hv hs1 hs h fun L C s' m H' I' q hn f => ?_) fun _ s' hq => wpAny_pure (wpAny_pure hq))
  show wpAny _ _ (assign (.Name y py) X.env (.ref L)) _ _ _
  refine wpAny_assign_Name (store_ok2 (v := V.ref L) I' hN hy (.inl hyl) rfl (fun s2 I2 ⟨a, sb, ha⟩ => ?_) (.inr hyl))
  obtain ⟨f0, f1, f2, f3, f4, f5⟩ := f
  have haC : C ≠ a := by
    rcases ha with z | z
    · rw [z]; exact f1
    · exact fun e => f4 y a z e.symm
  refine ⟨m, hn.sameBut sb haC, fun h3 sb3 => ?_⟩
  exact ⟨_, H', I2.turned (t' := s2.toks) (fun b o hb e => (sb3.2 b hb).trans e) f0 f1 f3 f4 f5, q⟩
end
end ND

set_option Elab.async false
set_option linter.all false
set_option maxRecDepth 100000
set_option maxHeartbeats 4000000
/-! min of two data, min of the values of a dict of nested keys, sorted of a tuple of ints -/
namespace ND
open PySem PySem.Spec PyProof.Rows L2 PySem.W
section
variable {prog : Program} {w : World} {A : Around} {E : Value → Shared → Prop} {s : Shared}
theorem collectT {l : Addr} {vs : List Value} {o : Obj} {n : Nat} {Q : List Value → Shared → Prop} (ho : s.heap.get? l = some o) (hc : o.cls = .type "tuple") (hd : o.data = .seq vs.toArray n)
    (h : Q vs { s with heap := (s.heap.push (seqObj "list" #[] 0)).update s.heap.objs.size (Obj.mapSeq (· ++ vs.toArray)) }) (hsz : vs.length ≤ sizeLine) :
    wpAny (model prog w) A (collect (.ref l)) Q E s := by
  unfold collect
  refine wpAny_bind (wpAny_runValue (codeAny_builtin entry_proto_collect' ?_))
  show wpAny _ _ (do again (.builtin "list.__iadd__" ⟨[← newList [], .ref l], []⟩)) _ _ s
  refine wpAny_bind (wpAny_newList (wpAny_pure ⟨Code.quiet_builtin _ (by decide +kernel), codeAny_builtin entry_list_iadd' ?_⟩))
  show wpAny _ _ (Builtin.List.listExtendWith (.ref s.heap.objs.size) (.ref l) (.ref s.heap.objs.size)) _ _ { s with heap := s.heap.push (seqObj "list" #[] 0) }
  unfold Builtin.List.listExtendWith
  have ho' : (s.heap.push (seqObj "list" #[] 0)).get? l = some o := Heap.get?_push_of_some _ ho
  refine wpAny_bind (wpAny_typeOf (T := "tuple") ⟨o, ho', hc⟩ ?_)
  have ht : (Value.type "tuple" == Value.type "tuple") = true := by rfl
  rw [if_pos (by rw [ht]; simp)]
  refine wpAny_bind (listItems_at ho' hd ?_)
  refine wpAny_bind (listItems_at (xs := #[]) (n := 0) (Heap.get?_push_size _ rfl) rfl ?_)
  rw [if_neg (by simp)]
  refine wpAny_bind (listUpdate_at (xs := #[]) (n := 0) (Heap.get?_push_size _ rfl) rfl ?_ (Nat.zero_le _) (by show (#[] ++ vs.toArray).size ≤ sizeLine + 1; simp only [Array.size_append, List.size_toArray, List.length_nil]; omega))
  refine wpAny_pure ?_
  show wpAny (model prog w) A (do
      let o ← load s.heap.objs.size
      match o.data with
      | .seq xs _ => pure xs.toList
      | _ => unsupported "internal:collect") Q E { s with heap := (s.heap.push (seqObj "list" #[] 0)).update s.heap.objs.size (Obj.mapSeq (· ++ vs.toArray)) }
  refine wpAny_bind (wpAny_load (get?_update_seq (Heap.get?_push_size _ rfl) _) ?_)
  show wpAny _ _ (pure ((#[] : Array Value) ++ vs.toArray).toList) Q E _
  rw [show ((#[] : Array Value) ++ vs.toArray).toList = vs by simp]
  exact wpAny_pure h
theorem sortedT {l : Addr} {vs : List Value} {ns : List Int} {o : Obj} {n : Nat} {Q : Value → Shared → Prop} (ho : s.heap.get? l = some o) (hc : o.cls = .type "tuple") (hd : o.data = .seq vs.toArray n) (hI : IntsAre vs ns) (h64 : vs.length < 64)
    (h : ∀ (out : Array Value) (ns' : List Int), IntsAre out.toList ns' → ns'.Perm ns → ns'.Pairwise (· ≤ ·) → Q (.ref (s.heap.objs.size + 1)) { s with heap := sortedAll s.heap vs out }) :
    wpAny (model prog w) A (call (.builtin "sorted") [.ref l]) Q E s := by
  refine Calls.call_function_entry kind_sorted plain_sorted entry_sorted (args_sorted1 _) ?_
  unfold Builtin.«sorted»
  refine wpAny_bind (m := checkCount "sorted" 1 1 _) (wpAny_pure ?_)
  refine wpAny_bind (collectT ho hc hd ?_ (by rw [sizeLine_eq]; omega))
  refine wpAny_bind (wpAny_newList ?_)
  have hsz : ((s.heap.push (seqObj "list" #[] 0)).update s.heap.objs.size (Obj.mapSeq (· ++ vs.toArray))).objs.size = s.heap.objs.size + 1 := by
    rw [Heap.size_update, size_push']
  have hoL : (((s.heap.push (seqObj "list" #[] 0)).update s.heap.objs.size (Obj.mapSeq (· ++ vs.toArray))).push (seqObj "list" vs.toArray 0)).get? (s.heap.objs.size + 1) = some (seqObj "list" vs.toArray 0) := by
    rw [← hsz]; exact Heap.get?_push_size _ rfl
  show wpAny _ _ _ _ _ { s with heap := ((s.heap.push (seqObj "list" #[] 0)).update s.heap.objs.size (Obj.mapSeq (· ++ vs.toArray))).push (seqObj "list" vs.toArray 0) }
  rw [hsz]
  refine wpAny_bind (wpAny_holding (wpAny_call_entry slot_list_sort ⟨_, hoL, rfl⟩ entry_list_sort (list_sort_tree hoL hI h64 fun out ns' a1 a2 a3 => ⟨_, rfl, ?_⟩) (args_list_sort _)))
  exact wpAny_pure ⟨_, rfl, h out ns' a1 a2 a3⟩
/-- min(a, b), told by what is read from the heap -/
theorem call_min_twoH {a b : Value} {Q : Value → Shared → Prop}
    (h : wpAny (model prog w) A.in1 (pyIter (.ref s.heap.objs.size)) (fun it s₂ => ∃ I fp wr G n P St H bt, it = .ref I ∧ WalksS prog w A.in1 I fp wr G n P St ∧ St 0 s₂ ∧ (∀ b ∈ fp, b < s₂.heap.objs.size) ∧ 0 < n ∧
      (∀ b o, H.get? b = some o → b ∉ wr) ∧ (∀ b o, H.get? b = some o → s₂.heap.get? b = some o) ∧ CmpIn prog w A.in1 .Lt H P bt ∧ ∀ v s', P (argBest bt (n - 1)) v → Moved wr G s₂ s' → Q v s') E
      { s with heap := s.heap.push { cls := .type "tuple", data := .seq #[a, b] } }) :
    wpAny (model prog w) A (call (.builtin "min") [a, b]) Q E s := by
  have hname : (toString "min" ++ toString ".loop" : String) = "min.loop" := by decide
  refine call_function_tree F.kind_min F.plain_min F.entry_min (F.args_min2 _ _) ?_
  show wpAny _ A.in1 (Builtin.Builtins.bindParams "min" ["key", "default"] 0 ⟨[], []⟩ >>= _) _ _ s
  refine wpAny_bind (wpAny_of_eq (show Builtin.Builtins.bindParams "min" ["key", "default"] 0 ⟨[], []⟩ = pure [none, none] from rfl) ?_)
  show wpAny _ A.in1 (newTuple [a, b] >>= _) _ _ s
  refine wpAny_bind (wpAny_newObj_type ?_)
  refine wpAny_bind (wpAny_mono h (fun it s₂ h₂ => ?_) fun _ _ e => e)
  obtain ⟨I, fp, wr, G, n, P, St, H, bt, rfl, W, hst, hfp, hn, hw, hkeep, hcmp, hQ⟩ := h₂
  refine wpAny_bind (wpAny_newObj_type ?_)
  have hSf : s₂.heap.objs.size ∉ fp := fun hm => Nat.lt_irrefl _ (hfp _ hm)
  rw [hname]
  refine wpAny_pure ⟨plainId_quiet F.plain_min_loop _, codeAny_min_loop_firstH W H hw bt hcmp s₂.heap.objs.size hSf (fresh_in hkeep) _ hn (fun b o e => Heap.get?_push_of_some _ (hkeep b o e)) (W.frame 0 s₂ _ s₂.toks hst (Nat.le_refl _) fun b _ o e => Heap.get?_push_of_some _ e) (Heap.get?_push_size _ rfl) fun v s' hP hm => ?_⟩
  exact hQ v s' hP (Moved.drop_new (tk := s₂.toks) hm (Nat.le_refl _))
end
end ND

set_option Elab.async false
set_option linter.all false
set_option maxRecDepth 100000
set_option maxHeartbeats 4000000
namespace ND
open PySem PySem.Spec PyProof.Rows L2 PySem.W
section
variable {X : Cx}
def rSRTT (K : PySem.W.Frag) : List V → Hp → VK → Prop := fun vs H Q => ∃ (a : Addr) (ns : List Int), vs = [V.ref a] ∧ SqT K H a (ns.map V.int) ∧ ns.length < 64 ∧
  ∀ (ns' : List Int) (p : Addr), ns'.Perm ns → ns'.Pairwise (· ≤ ·) → H p = none → Q (.ref p) (upd H p (.lst (ns'.map V.int)))
theorem cr_sortT : CallR X (.builtin "sorted") (rSRTT X.K) := by
  intro pins s σ H vs us Q I r h
  obtain ⟨a, ns, rfl, hs, h64, q⟩ := h
  obtain ⟨o, its, n, ho, hc, hd, rv⟩ := sqt_obj I hs
  rw [Vals.ref1 r]
  have hi := rv.ints
  refine sortedT ho hc (vs := its.toList) (by simpa using hd) hi (by rw [hi.length]; exact h64) fun out ns' h1 h2 h3 => ?_
  obtain ⟨ep, he'⟩ := PyProof.Rows.sortedAll_at s.heap its.toList out
  have hlen : (ns'.map V.int).length ≤ sizeLine := by rw [List.length_map, h2.length_eq]; exact small64 h64
  exact ⟨.ref _, upd H (s.heap.objs.size + 1) (.lst (ns'.map V.int)), I.laid (t' := s.toks) (fun _ _ => PyProof.Rows.sortedAll_old) (Nat.le_succ _) ⟨hlen, out.toList, ep, vals_of_ints h1, he'⟩, rfl, q ns' _ h2 h3 (I.hok.fresh (Nat.le_succ _))⟩
/-- min(x, y) of alike data -/
def rMinD (K : PySem.W.Frag) : List V → Hp → VK → Prop := fun vs H Q => ∃ (x y : V) (a b : PyData), vs = [x, y] ∧ Dp K H x a ∧ Dp K H y b ∧ AlikeAll [a, b] ∧ PyData.depthAll [a, b] ≤ 8 ∧ Q (if dataLt b a = true then y else x) H
theorem cr_minD (hc : X.calm = true) (hu : X.A.units + 64 < cLine) : CallR X (.builtin "min") (rMinD X.K) := by
  intro pins s σ H vs us Q I r h
  obtain ⟨x, y, a, b, rfl, hx, hy, hal, hdep, q⟩ := h
  obtain ⟨u, w', rfl, ru, rw'⟩ := vals2 r
  obtain ⟨as, hR⟩ := Dp.readsAll I [a, b] [x, y] [u, w'] (.cons hx (.cons hy .nil)) (.cons ru (.cons rw' .nil))
  have hT : (s.heap.push { cls := .type "tuple", data := .seq #[u, w'] }).IsTuple s.heap.objs.size #[u, w'] := ⟨_, Heap.get?_push_size _ rfl, rfl, 0, rfl⟩
  have hsz : (s.heap.push { cls := .type "tuple", data := .seq #[u, w'] }).objs.size = s.heap.objs.size + 1 := Heap.size_push ..
  have k0 : ∀ b o, s.heap.get? b = some o → (s.heap.push { cls := .type "tuple", data := .seq #[u, w'] }).get? b = some o := fun b o e => Heap.get?_push_of_some _ e
  have hR1 : ReadsAll ({ s with heap := s.heap.push { cls := .type "tuple", data := .seq #[u, w'] } } : Shared).heap (#[u, w'] : Array Value).toList [a, b] as := by
    have gen : ∀ {vs : List Value} {ds : List PyData} {as : List Addr}, ReadsAll s.heap vs ds as → ReadsAll (s.heap.push { cls := .type "tuple", data := .seq #[u, w'] }) vs ds as := by
      intro vs ds as h
      induction ds generalizing vs as with
      | nil => cases h; exact .nil
      | cons d ds ih => cases h with | cons h1 h2 => exact .cons (reads_keeps k0 h1) (ih h2)
    exact gen hR
  refine call_min_twoH (iter_tupleW (A := X.A.in1) (I.ok.hd hc) hT fun s₂ e W st hfp hw hk => ?_)
  refine ⟨_, _, _, _, _, _, _, _, _, rfl, W, st, hfp, Nat.zero_lt_succ 1, hw, hk, cmpIn_lt (A := X.A.in1) hR1 hal (by show X.A.units + 1 + _ < _; omega), fun v s' hP m => ?_⟩
  obtain ⟨h', tk, rfl, hk'⟩ := moved_old e rfl m
  have hk2 : ∀ b o, s.heap.get? b = some o → h'.get? b = some o := fun b o e => hk' b o (k0 b o e)
  have hb : argBest (fun i j => dataLt ([a, b].getD i .none) ([a, b].getD j .none)) 1 = if dataLt b a = true then 1 else 0 := rfl
  have hP : (#[u, w'] : Array Value)[argBest (fun i j => dataLt ([a, b].getD i .none) ([a, b].getD j .none)) 1]? = some v := hP
  rw [hb] at hP
  refine ⟨_, H, I.kept hk2, ?_, q⟩
  by_cases hlt : dataLt b a = true
  · rw [if_pos hlt] at hP ⊢
    have : v = w' := (Option.some.inj hP).symm
    rw [this]
    exact rw'
  · rw [if_neg hlt] at hP ⊢
    have : v = u := (Option.some.inj hP).symm
    rw [this]
    exact ru
/-- min(d.values()), d a dict of nested keys, alike data -/
def tMinNV (P : Program) (w : World) (K : PySem.W.Frag) (td : TE) : TE := fun σ H Q => td σ H fun x H1 => ∃ (a : Addr) (xs : List Ent) (vs : List V) (d : PyData) (ds : List PyData), x = V.ref a ∧ H1 a = some (NDO P w a xs) ∧ VsOf vs xs ∧ DpAll K H1 vs (d :: ds) ∧ AlikeAll (d :: ds) ∧ PyData.depthAll (d :: ds) ≤ 8 ∧
  ∀ (i : Nat) (v : V), vs[i]? = some v → (d :: ds).getD i .none = minD d ds → Q v H1
variable {o : Expr} {p pos apos mpos : Pos} {td : TE} {K : PySem.W.Frag}
theorem pe_nminV {P : Program} {w : World} (hP : X.prog = P) (hw : X.w = w) (hK : X.K = K) (hu : X.A.units + 64 < cLine) (hc : X.calm = true) (hg : Gl X "min") (hm : X.mg "min" = none) (hd : PE X o td) (hbase : attributeBase o "values" X.env (eval o X.env) = eval o X.env := by rfl) (hline : (apos.endLine == mpos.line) = true := by rfl)
    (hse : starEach [Expr.Call (.Attribute o "values" apos) [] [] mpos] X.env = [(false, eval (Expr.Call (.Attribute o "values" apos) [] [] mpos) X.env)] := by rfl) :
    PE X (.Call (.Name "min" p) [.Call (.Attribute o "values" apos) [] [] mpos] [] pos) (tMinNV P w K td) := by
  subst hK hP hw
  refine ⟨fun pins s σ H Q I h => ?_⟩
  refine wpAny_Call_Name_kw (ld_blt I hg hm (u := .builtin "min") (by first | rfl | decide +kernel) ?_ (by first | decide +kernel | decide) (by first | decide +kernel | decide))
  rw [hse]
  refine PySem.callWith_builtin1 (wpAny_Call_method0_late hbase hline (thn (hd.run pins s σ H _ I h) fun v s1 ⟨x, H1, I1, r1, a, xs, vs, d, ds, ex, ha, hvs, hdp, hal, hdep, q⟩ => ?_))
  subst ex
  obtain rfl : v = Value.ref a := r1
  have rw_ := raw_rd I1.hok (.inl ha)
  obtain ⟨⟨hsys, hz⟩, ob, es, ep, ho, hx, hdat, hent, hnd⟩ := rw_
  have hesz : es.size = xs.length := size_of_entries hent
  have hentry : ∀ i (hi : i < es.size), ∃ y, xs[i]? = some y ∧ es[i].key = .ref y.2.1 ∧ es[i].val = y.2.2 := fun i hi => by
    have q := entry_at hent i
    rw [Array.getElem?_eq_getElem hi] at q
    obtain ⟨y, hy⟩ : ∃ y, xs[i]? = some y := ⟨xs[i]'(by omega), List.getElem?_eq_getElem (by omega)⟩
    rw [hy] at q
    have q : es[i] = entryOfKey (nestedKind X.prog X.w) y := Option.some.inj q
    exact ⟨y, hy, by rw [q]; rfl, by rw [q]; rfl⟩
  refine ⟨"dict", "dict.values", F.plainAttrs_dict, F.slot_dict_values, F.type_dict_values, ⟨ob, ho, hx.1⟩, fun b e => ?_, Calls.callWith_builtin rfl (PySem.evalArgs_none ?_)⟩
  · cases e
    exact ⟨ob, ho, hx.2.1⟩
  have hm1 : s1.heap.DictRaw a es ep := ⟨ob, ho, hx, hdat⟩
  refine call_meetsIn F.slot_dict_values ⟨ob, ho, hx.1⟩ F.entry_dict_values (F.args_dict_values_1 _) (meets_dict_values_raw a hsys) ⟨⟨es, ep, hm1⟩, ?_⟩
  generalize hs2 : ({ s1 with heap := s1.heap.push { cls := .type "dict_values", data := .fields #[.ref a] } } : Shared) = s2
  have k1 : ∀ b u, s1.heap.get? b = some u → s2.heap.get? b = some u := fun b u e => by rw [← hs2]; exact Heap.get?_push_of_some _ e
  have I2 : Inv X pins σ H1 s2 := by rw [← hs2]; exact I1.kept (t' := s1.toks) fun b ob q => Heap.get?_push_of_some _ q
  have hm2 : s2.heap.DictRaw a es ep := hm1.at fun o e => k1 _ _ e
  have hvw : s2.heap.IsValuesView s1.heap.objs.size a := by rw [← hs2]; exact ⟨_, Heap.get?_push_size _ rfl, rfl, rfl⟩
  have hlen : vs.length = xs.length := Paired.length hvs
  -- the values, as they stand
  have hvals : Vals vs (xs.map fun y => y.2.2) := by
    have gen : ∀ {vs : List V} {xs : List Ent}, VsOf vs xs → Vals vs (xs.map fun y => y.2.2) := by
      intro vs xs h
      induction h with
      | nil => exact .nil
      | cons h t ih => exact .cons h ih
    exact gen hvs
  obtain ⟨as, hR⟩ := Dp.readsAll I2 (d :: ds) vs _ hdp hvals
  have hR' : ReadsAll s2.heap ((xs.map fun y => y.2.2).toArray).toList (d :: ds) as := by simpa using hR
  have hlt : a < s2.heap.objs.size := Heap.lt_size (k1 _ _ ho)
  have hds : (d :: ds).length = xs.length := by
    have := readsAll_len hR'
    simpa using this.symm
  have hpos : 0 < es.size := by rw [hesz, ← hds]; exact Nat.zero_lt_succ _
  refine call_min_walkH (wpAny_pyIter_values_raw hvw hm2 ?_)
  refine ⟨_, _, _, _, _, _, _, s2.heap, fun i j => dataLt ((d :: ds).getD i .none) ((d :: ds).getD j .none), rfl, (Walks.valuesH (A := X.A.in1) (xs := xs) (I.ok.hd hc) s2.heap.objs.size a (Nat.ne_of_lt hlt) es ep hentry).toS, ⟨⟨_, Heap.get?_push_size _ rfl, rfl, rfl⟩, hm2.at fun o e => Heap.get?_push_of_some _ e⟩, fun b hb => ?_, hpos, fun b o e hb => ?_, fun b o e => Heap.get?_push_of_some _ e, ?_, ?_⟩
  · show b < (s2.heap.push _).objs.size
    rw [Heap.size_push]
    rcases List.mem_cons.mp hb with rfl | hb
    · exact Nat.lt_succ_self _
    · rcases List.mem_cons.mp hb with rfl | hb
      · exact Nat.lt_succ_of_lt hlt
      · cases hb
  · exact absurd (Heap.lt_size e) ((List.mem_singleton.mp hb) ▸ Nat.lt_irrefl _)
  · have hci := cmpIn_lt (prog := X.prog) (w := X.w) (A := X.A.in1) hR' hal (by show X.A.units + 1 + _ < _; omega)
    refine fun i j vi vj s' Q E hk ⟨y, hy, e1⟩ ⟨z, hz, e2⟩ hq => hci i j vi vj s' Q E hk ?_ ?_ hq
    · rw [e1]; simp [hy]
    · rw [e2]; simp [hz]
  · intro v s' ⟨y, hy, e1⟩ m
    · obtain ⟨h', tk, rfl, hk'⟩ := moved_old (s := s2) (o := { cls := .type "dict_valueiterator", data := .fields #[.ref a, .int 0 0, .int es.size 0, .int ep 0] }) rfl rfl m
      subst e1
      generalize hbi : argBest (fun i j => dataLt ((d :: ds).getD i .none) ((d :: ds).getD j .none)) (es.size - 1) = bi at hy
      have hbi2 : (d :: ds).getD bi .none = minD d ds := by
        have e2 := (argBest_fold dataLt PyData.none d ds ds.length (Nat.le_refl _)).2
        rw [List.take_length] at e2
        have e3 : es.size - 1 = ds.length := by rw [hesz, ← hds]; rfl
        rw [e3] at hbi
        rw [← hbi]
        exact e2
      obtain ⟨v, hv⟩ : ∃ v, vs[bi]? = some v := ⟨vs[bi]'(by rw [hlen]; exact (List.getElem?_eq_some_iff.mp hy).1), List.getElem?_eq_getElem (by rw [hlen]; exact (List.getElem?_eq_some_iff.mp hy).1)⟩
      obtain ⟨y', hy', rv⟩ := paired_get hvs hv
      rw [hy] at hy'
      cases hy'
      exact ⟨v, H1, I2.kept hk', rv, q bi v hv hbi2⟩
end
end ND

set_option Elab.async false
set_option linter.all false
set_option maxRecDepth 100000
set_option maxHeartbeats 4000000
/-! dicts of nested tuple keys, told in data -/
namespace AL
open PySem L2 PyProof.Rows ND
mutual
def nkD : NK → D
  | .none => .non
  | .num i => .int i
  | .text x => .str x
  | .tup ks => .tup (nkDs ks)
def nkDs : List NK → List D
  | [] => []
  | k :: ks => nkD k :: nkDs ks
end
def valN (kvs : List (NK × D)) (k : NK) : Option D := (kvs.find? fun kv => decide (kv.1 = k)).map (·.2)
def putN (kvs : List (NK × D)) (k : NK) (d : D) : List (NK × D) := if kvs.any (fun kv => decide (kv.1 = k)) then kvs.map (fun kv => if kv.1 = k then (kv.1, d) else kv) else kvs ++ [(k, d)]
def itemsN (kvs : List (NK × D)) : List D := kvs.map fun p => .tup [nkD p.1, p.2]
section
variable {K : Frg} {F F' : Hp}
mutual
theorem vkey_rep : ∀ (k : NK) (v : V), Rep K F (nkD k) v → VKey K F k v
  | .none, _, h => by unfold nkD at h; cases h; exact .non
  | .num i, _, h => by unfold nkD at h; cases h; exact .int i
  | .text x, _, h => by unfold nkD at h; cases h; exact .text x
  | .tup ks, _, h => by
    unfold nkD at h
    cases h with
    | tup hq hr => exact .tup hq (vkeys_rep ks _ hr)
theorem vkeys_rep : ∀ (ks : List NK) (vs : List V), RepL K F (nkDs ks) vs → VKeys K F ks vs
  | [], _, h => by unfold nkDs at h; cases h; exact .nil
  | k :: ks, _, h => by
    unfold nkDs at h
    cases h with
    | cons h1 h2 => exact .cons (vkey_rep k _ h1) (vkeys_rep ks _ h2)
end
mutual
theorem rep_vkey : ∀ (k : NK) (v : V), VKey K F k v → Rep K F (nkD k) v
  | .none, _, h => by cases h; exact .non
  | .num i, _, h => by cases h; exact .int i
  | .text x, _, h => by cases h; exact .str x
  | .tup ks, _, h => by
    cases h with
    | tup hq hr => exact .tup hq (rep_vkeys ks _ hr)
theorem rep_vkeys : ∀ (ks : List NK) (vs : List V), VKeys K F ks vs → RepL K F (nkDs ks) vs
  | [], _, h => by cases h; exact .nil
  | k :: ks, _, h => by
    cases h with
    | cons h1 h2 => exact .cons (rep_vkey k _ h1) (rep_vkeys ks _ h2)
end
abbrev RepN (K : Frg) (F : Hp) : List (NK × D) → List (NK × V) → Prop := Paired fun p q => p.1 = q.1 ∧ Rep K F p.2 q.2
theorem RepN.val {kvs : List (NK × D)} {vs : List (NK × V)} (r : RepN K F kvs vs) (k : NK) : (valN kvs k = none ∧ valV vs k = none) ∨ ∃ d v, valN kvs k = some d ∧ valV vs k = some v ∧ Rep K F d v := by
  induction r with
  | nil => exact .inl ⟨rfl, rfl⟩
  | @cons p q ps qs h t ih =>
    obtain ⟨h1, h2⟩ := h
    by_cases e : p.1 = k
    · refine .inr ⟨p.2, q.2, ?_, valV_pos (h1.symm.trans e), h2⟩
      unfold valN
      rw [List.find?_cons]
      simp [e]
    · rw [valV_neg (fun z => e (h1.trans z))]
      have : valN (p :: ps) k = valN ps k := by
        unfold valN
        rw [List.find?_cons]
        simp [e]
      rw [this]
      exact ih
theorem RepN.any {kvs : List (NK × D)} {vs : List (NK × V)} (r : RepN K F kvs vs) (k : NK) : (kvs.any fun kv => decide (kv.1 = k)) = vs.any fun kv => decide (kv.1 = k) := by
  induction r with
  | nil => rfl
  | cons h t ih => rw [List.any_cons, List.any_cons, ih, h.1]
theorem RepN.repl {kvs : List (NK × D)} {vs : List (NK × V)} (r : RepN K F kvs vs) (k : NK) {d : D} {v : V} (h0 : Rep K F d v) : RepN K F (kvs.map fun kv => if kv.1 = k then (kv.1, d) else kv) (vs.map fun kv => if kv.1 = k then (kv.1, v) else kv) := by
  induction r with
  | nil => exact .nil
  | @cons p q ps qs h t ih =>
    rw [List.map_cons, List.map_cons]
    refine .cons ?_ ih
    obtain ⟨h1, h2⟩ := h
    by_cases e : p.1 = k
    · rw [if_pos e, if_pos (h1.symm.trans e)]; exact ⟨h1, h0⟩
    · rw [if_neg e, if_neg (fun z => e (h1.trans z))]; exact ⟨h1, h2⟩
theorem RepN.put {kvs : List (NK × D)} {vs : List (NK × V)} (r : RepN K F kvs vs) (k : NK) {d : D} {v : V} (h0 : Rep K F d v) : RepN K F (putN kvs k d) (putK vs k v) := by
  unfold putN putK
  rw [r.any k]
  split
  · exact r.repl k h0
  · exact Paired.snoc r ⟨rfl, h0⟩
/-- the table of an own dict of nested keys -/
def TabN (K : Frg) (F : Hp) (kvs : List (NK × D)) (xs : List Ent) : Prop := ∃ vs, RepN K F kvs vs ∧ KN K F vs xs
theorem TabN.ex {kvs : List (NK × D)} {xs : List Ent} (e : Ex F F') (t : TabN K F kvs xs) : TabN K F' kvs xs :=
  let ⟨vs, r, kn⟩ := t
  ⟨vs, Paired.mapP r fun _ _ z => ⟨z.1, z.2.mono e⟩, kn.mono fun _ _ => ex_t e⟩
theorem TabN.nil : TabN K F [] [] := ⟨[], .nil, .nil⟩
theorem TabN.len {kvs : List (NK × D)} {xs : List Ent} (t : TabN K F kvs xs) : kvs.length = xs.length := let ⟨_, r, kn⟩ := t; (Paired.length r).trans (Paired.length kn)
theorem TabN.put {kvs : List (NK × D)} {xs : List Ent} (t : TabN K F kvs xs) {k : NK} {b : Addr} {d : D} {v : V} {u : Value} (hk : VKey K F k (.ref b)) (hd : k.depth ≤ 8) (rd : Rep K F d v) (rv : RelV v u) : TabN K F (putN kvs k d) (storedH xs k b u) :=
  let ⟨vs, r, kn⟩ := t
  ⟨putK vs k v, r.put k rd, kn.put k hk hd rv⟩
end
def OwnN (P : Program) (w : World) (ms : Ms) (x : D) (xs : List Ent) : Prop := ∃ (n : Nat) (l : Addr), x = .ref l ∧ (ms[n]? = some (l, .raw (NDO P w l xs)) ∨ ∃ o, ms[n]? = some (l, .raw (.frz o (NDO P w l xs))))
theorem OwnN.to {P : Program} {w : World} {K : Frg} {F H : Hp} {ms R : Ms} {x : D} {xs : List Ent} {v : V} (i : OwnN P w ms x xs) (hh : Hold K F (ms ++ R) H) (r : Rep K F x v) : ∃ a, v = .ref a ∧ Rd H a (NDO P w a xs) := by
  obtain ⟨n, l, rfl, hn | ⟨o, hn⟩⟩ := i
  · cases r
    exact ⟨l, rfl, .inl (hh.at (get_app hn)).2⟩
  · cases r
    exact ⟨l, rfl, .inr ⟨o, (hh.at (get_app hn)).2⟩⟩
section
variable {P : Program} {w : World} {Γ : Cg} {K : Frg} {F : Hp} {ms : Ms} {S : Sg} {Q : QE} {td ty tv tx te tk : TE} {ts : TS} {A : AEnds}
theorem ae_nget (h : AE Γ td F ms S fun F1 ms1 x => AE Γ ty F1 ms1 S fun F2 ms2 y => ∃ (xs : List Ent) (kvs : List (NK × D)) (ks : List NK) (d : D), OwnN P w ms2 x xs ∧ TabN Γ.K F2 kvs xs ∧ y = nkD (.tup ks) ∧ NestedKey.depth (.tup ks) ≤ 8 ∧ valN kvs (.tup ks) = some d ∧ Q F2 ms2 d) :
    AE Γ (tNGet P w Γ.K td ty) F ms S Q := fun R σ H Qc hs hh x k =>
  h R σ H _ hs hh x fun F1 ms1 d1 v1 H1 e1 h1 r1 q1 => q1 R σ H1 _ (hs.mono e1) h1 (x.ex e1) fun F2 ms2 y vy H2 e2 h2 r2 ⟨xs, kvs, ks, d, ho, ⟨vs, rn, kn⟩, hy, hd, hv, q⟩ => by
    subst hy
    obtain ⟨a, rfl, rd⟩ := ho.to h2 (r1.mono e2)
    have hk := vkey_rep _ _ r2
    obtain ⟨b, rfl⟩ : ∃ b, vy = .ref b := by cases hk; exact ⟨_, rfl⟩
    rcases rn.val (.tup ks) with ⟨z, _⟩ | ⟨d', v, z1, z2, z3⟩
    · rw [z] at hv; cases hv
    · rw [z1] at hv
      cases hv
      exact ⟨a, b, xs, vs, _, v, rfl, rfl, rd, kn.mono fun _ _ => ex_t h2.ex, VKey.mono (fun _ _ => ex_t h2.ex) _ _ hk, hd, z2, k F2 ms2 _ v H2 (e1.trans e2) h2 z3 q⟩
theorem ae_nget2 (h : AE Γ td F ms S fun F1 ms1 x => ∃ xs0, OwnN P w ms1 x xs0 ∧ AE Γ ty F1 ms1 S fun F2 ms2 y => AE Γ tx F2 ms2 S fun F3 ms3 z => ∃ (xs : List Ent) (kvs : List (NK × D)) (ks : List NK), OwnN P w ms3 x xs ∧ TabN Γ.K F3 kvs xs ∧ y = nkD (.tup ks) ∧ NestedKey.depth (.tup ks) ≤ 8 ∧ Q F3 ms3 ((valN kvs (.tup ks)).getD z)) :
    AE Γ (tNGet2 P w Γ.K td ty tx) F ms S Q := fun R σ H Qc hs hh x k =>
  h R σ H _ hs hh x fun F1 ms1 d1 v1 H1 e1 h1 r1 ⟨xs0, ho0, q1⟩ => by
    obtain ⟨a, rfl, rd0⟩ := ho0.to h1 r1
    refine ⟨a, xs0, rfl, rd0, q1 R σ H1 _ (hs.mono e1) h1 (x.ex e1) fun F2 ms2 y vy H2 e2 h2 r2 q2 => q2 R σ H2 _ (hs.mono (e1.trans e2)) h2 (x.ex (e1.trans e2)) fun F3 ms3 z vz H3 e3 h3 r3 ⟨xs, kvs, ks, ho, ⟨vs, rn, kn⟩, hy, hd, q⟩ => ?_⟩
    subst hy
    obtain ⟨a', ea, rd⟩ := ho.to h3 (r1.mono (e2.trans e3))
    cases ea
    have hk := vkey_rep _ _ (r2.mono e3)
    obtain ⟨b, rfl⟩ : ∃ b, vy = .ref b := by cases hk; exact ⟨_, rfl⟩
    refine ⟨b, xs, vs, _, rfl, rd, kn.mono fun _ _ => ex_t h3.ex, VKey.mono (fun _ _ => ex_t h3.ex) _ _ hk, hd, k F3 ms3 _ _ H3 ((e1.trans e2).trans e3) h3 ?_ q⟩
    rcases rn.val (.tup ks) with ⟨z1, z2⟩ | ⟨d', v', z1, z2, z3⟩
    · rw [z1, z2]; exact r3
    · rw [z1, z2]; exact z3
theorem as_nput (h : AE Γ tv F ms S fun F1 ms1 v => AE Γ td F1 ms1 S fun F2 ms2 x => AE Γ ty F2 ms2 S fun F3 ms3 y => ∃ (n : Nat) (l : Addr) (xs : List Ent) (kvs : List (NK × D)) (ks : List NK), x = .ref l ∧ ms3[n]? = some (l, .raw (NDO P w l xs)) ∧ TabN Γ.K F3 kvs xs ∧ y = nkD (.tup ks) ∧ NestedKey.depth (.tup ks) ≤ 8 ∧ kvs.length < 100000 ∧
    ∀ xs', TabN Γ.K F3 (putN kvs (.tup ks) v) xs' → A.nx F3 (ms3.set n (l, .raw (NDO P w l xs'))) S) : AS Γ (sNPut P w Γ.K td ty tv) F ms S A := fun R E σ H hs hh l =>
  h R σ H _ hs hh l.xe fun F1 ms1 v vv H1 e1 h1 r1 q1 => q1 R σ H1 _ (hs.mono e1) h1 (l.xe.ex e1) fun F2 ms2 x2 v2 H2 e2 h2 r2 q2 => q2 R σ H2 _ (hs.mono (e1.trans e2)) h2 (l.xe.ex (e1.trans e2)) fun F3 ms3 y vy H3 e3 h3 r3 ⟨n, a, xs, kvs, ks, hx, hn, ⟨vs, rn, kn⟩, hy, hd, hz, q⟩ => by
    subst hx hy
    cases r2
    have hk := vkey_rep _ _ r3
    obtain ⟨b, rfl⟩ : ∃ b, vy = .ref b := by cases hk; exact ⟨_, rfl⟩
    have hH := (h3.at (get_app hn)).2
    refine ⟨a, b, xs, vs, _, rfl, rfl, hH, kn.mono fun _ _ => ex_t h3.ex, VKey.mono (fun _ _ => ex_t h3.ex) _ _ hk, hd, Evl.sz_lt (by rw [← Paired.length rn]; exact hz), fun u ru => ?_⟩
    refine l.nx F3 (ms3.set n (a, .raw (NDO P w a (storedH xs (.tup ks) b u)))) S σ _ ((e1.trans e2).trans e3) (hs.mono ((e1.trans e2).trans e3)) ?_ (q _ (TabN.put ⟨vs, rn, kn⟩ hk hd (r1.mono (e2.trans e3)) ru))
    rw [← set_app hn]
    exact h3.set (get_app hn) upd_same
theorem ae_nnew (h : ∀ l, Q F ((l, .raw (NDO P w l [])) :: ms) (.ref l)) : AE Γ (tNNew P w) F ms S Q := fun R σ H Qc hs hh x k p hp =>
  k F _ (.ref p) _ _ Ex.refl (hh.made (m := .raw (NDO P w p [])) hp upd_same) (.ref p) (h p)
/-- the lock goes -/
def unlN (P : Program) (w : World) (l : Addr) (xs : List Ent) (od : Obj) (ms : Ms) (G : Ms → Prop) : Prop := ∃ m : Nat, ms[m]? = some (l, .raw (.frz od (NDO P w l xs))) ∧ G (ms.set m (l, .raw (NDO P w l xs)))
theorem as_nlock {l : Addr} {xs : List Ent} (n : Nat) (hn : ms[n]? = some (l, .raw (NDO P w l xs))) (h : ∀ od, AS Γ ts F (ms.set n (l, .raw (.frz od (NDO P w l xs)))) S { nx := fun F' ms' S' => unlN P w l xs od ms' fun m => A.nx F' m S', rt := fun F' ms' d => unlN P w l xs od ms' fun m => A.rt F' m d, bk := fun F' ms' S' => unlN P w l xs od ms' fun m => A.bk F' m S', ct := fun F' ms' S' => unlN P w l xs od ms' fun m => A.ct F' m S' }) :
    AS Γ (tLock ts) F ms S A := fun R E σ H hs hh le => by
  have hd := (hh.at (get_app hn)).2
  refine ⟨l, NDO P w l xs, hd, trivial, fun od => h od R _ σ _ hs ?_ ⟨le.xe, ?_, ?_, ?_, ?_⟩⟩
  · rw [← set_app hn]
    exact hh.set (get_app hn) upd_same
  · rintro F' ms' S' σ' H' e a b ⟨m, hm, q⟩
    refine ⟨(b.at (get_app hm)).2, le.nx F' _ S' σ' _ e a ?_ q⟩
    rw [← set_app hm]
    exact b.set (get_app hm) upd_same
  · rintro F' ms' d v H' e b r ⟨m, hm, q⟩
    refine ⟨(b.at (get_app hm)).2, le.rt F' _ d v _ e ?_ r q⟩
    rw [← set_app hm]
    exact b.set (get_app hm) upd_same
  · rintro F' ms' S' σ' H' e a b ⟨m, hm, q⟩
    refine ⟨(b.at (get_app hm)).2, le.bk F' _ S' σ' _ e a ?_ q⟩
    rw [← set_app hm]
    exact b.set (get_app hm) upd_same
  · rintro F' ms' S' σ' H' e a b ⟨m, hm, q⟩
    refine ⟨(b.at (get_app hm)).2, le.ct F' _ S' σ' _ e a ?_ q⟩
    rw [← set_app hm]
    exact b.set (get_app hm) upd_same
theorem ai_nitems {G : Hp → Ms → List D → (Ms → Prop) → Prop} (h : AE Γ td F ms S fun F1 ms1 x => ∃ (l : Addr) (od : Obj) (xs : List Ent) (kvs : List (NK × D)) (n : Nat), x = .ref l ∧ ms1[n]? = some (l, .raw (.frz od (NDO P w l xs))) ∧ TabN Γ.K F1 kvs xs ∧ G F1 ms1 (itemsN kvs) fun ms' => ∃ n : Nat, ms'[n]? = some (l, .raw (.frz od (NDO P w l xs)))) :
    AI Γ (iNItems P w td) F ms S G := fun R σ H Rc hs hh x k =>
  h R σ H _ hs hh x fun F1 ms1 d v H1 e1 h1 r1 ⟨l, od, xs, kvs, n, hx, hn, tb, p⟩ => by
    subst hx
    cases r1
    have hlen := tb.len
    obtain ⟨vs, rn, kn⟩ := tb
    have hvs : VsOf (vs.map (·.2)) xs := by
      have gen : ∀ {vs : List (NK × V)} {xs : List Ent}, KN Γ.K F1 vs xs → VsOf (vs.map (·.2)) xs := by
        intro vs xs h
        induction h with
        | nil => exact .nil
        | cons h t ih => exact .cons h.2.2 ih
      exact gen kn
    refine ⟨l, od, xs, vs.map (·.2), rfl, (h1.at (get_app hn)).2, hvs, k F1 ms1 _ _ _ H1 e1 h1 ⟨fun _ i H' F' ms' hi e' hh' ⟨n', hn'⟩ => ?_, fun _ H' F' ms' e' hh' ⟨n', hn'⟩ => ?_, fun _ i H' x' H2 F' ms' hi e' hh' ⟨n', hn'⟩ y => ?_⟩ p⟩
    · refine ⟨(hh'.at (get_app hn')).2, ?_⟩
      unfold itemsN at hi
      rw [List.length_map, hlen] at hi
      exact hi
    · refine ⟨(hh'.at (get_app hn')).2, ?_⟩
      unfold itemsN
      rw [List.length_map, hlen]
      exact Nat.le_refl _
    · obtain ⟨T, y, v, y1, y2, y3, y4, y5⟩ := y
      subst y3 y5
      rw [List.getElem?_map] at y2
      obtain ⟨q, hq, rfl⟩ := Option.map_eq_some_iff.mp y2
      obtain ⟨y', hy', e1', e2', _⟩ := paired_get kn hq
      rw [y1] at hy'
      cases hy'
      obtain ⟨p0, hp0, ep1, ep2⟩ : ∃ p, kvs[i]? = some p ∧ p.1 = q.1 ∧ Rep Γ.K F1 p.2 q.2 := by
        have hl2 : kvs.length = vs.length := Paired.length rn
        have hi2 : i < kvs.length := by rw [hl2]; exact (List.getElem?_eq_some_iff.mp hq).1
        obtain ⟨q', hq', r⟩ := paired_get rn (List.getElem?_eq_getElem hi2)
        rw [hq] at hq'
        cases hq'
        exact ⟨_, List.getElem?_eq_getElem hi2, r⟩
      have hkey : Rep Γ.K F' (nkD p0.1) (.ref y.2.1) := by
        rw [ep1, e1']
        exact (rep_vkey _ _ e2'.1).mono e'
      obtain ⟨F'', e2, h2, r2⟩ := pair_rep hh' y4 hkey (ep2.mono e')
      refine ⟨F'', _, e2, h2, ?_, r2⟩
      unfold itemsN
      rw [List.getElem?_map, hp0]
      rfl
end
end AL

set_option Elab.async false
set_option linter.all false
set_option maxRecDepth 100000
set_option maxHeartbeats 4000000
/-! comprehensions, min, sorted: nested dicts in data -/
namespace AL
open PySem L2 PyProof.Rows ND
theorem kSRTT {X : Cx} {K : Frg} (h : X.K = K) : CallR X (.builtin "sorted") (rSRTT K) := h ▸ cr_sortT
theorem kMIND {X : Cx} {K : Frg} (h : X.K = K) (hc : X.calm = true) (hu : X.A.units + 64 < cLine) : CallR X (.builtin "min") (rMinD K) := h ▸ cr_minD hc hu
section
variable {P : Program} {w : World} {Γ : Cg} {K : Frg} {F : Hp} {ms : Ms} {S : Sg} {Q : QE} {td ty tv tx te tk : TE} {tt tt1 : TT} {g g1 : TG} {wi wi1 : TI} {vs vs1 : List Nat}
theorem ac_sortT {ns : List Int} (hz : ns.length < 64) (q : ∀ F' (ns' : List Int), Ex F F' → ns'.Perm ns → ns'.Pairwise (· ≤ ·) → Q F' ms (.lst (ns'.map D.int))) : AC K (rSRTT K) [.tup (ns.map D.int)] F ms Q := ac1 fun R v H Qc hv hh k => by
  cases hv with
  | tup hq rr =>
    have e := rep_ints rr
    subst e
    refine ⟨_, ns, rfl, ex_t hh.ex hq, hz, fun ns' p h1 h2 hp => ?_⟩
    obtain ⟨e2, h3⟩ := hh.laid (.lst (ns'.map V.int)) hp
    exact k _ ms (.lst _) _ _ e2 h3 (.lst upd_same (rep_intl ns')) (q _ ns' e2 h1 h2)
theorem ac_minD {x y : D} (h1 : okD x = true) (h2 : okD y = true) (ha : PySem.W.AlikeAll [toPy x, toPy y]) (hd : depL [x, y] ≤ 8) (q : Q F ms (if PySem.W.dataLt (toPy y) (toPy x) = true then y else x)) : AC K (rMinD K) [x, y] F ms Q := ac2 fun R u v H Qc hu hv hh k => by
  refine ⟨u, v, toPy x, toPy y, rfl, dp_of hh.ex h1 hu, dp_of hh.ex h2 hv, ha, ?_, k F ms _ _ H Ex.refl hh ?_ q⟩
  · have := depL_ok [x, y]
    have e : toPyL [x, y] = [toPy x, toPy y] := rfl
    rw [e] at this
    rw [this]
    exact hd
  · split
    · exact hv
    · exact hu
theorem ae_nminV (h : AE Γ td F ms S fun F1 ms1 x => ∃ (n : Nat) (l : Addr) (xs : List Ent) (kvs : List (NK × D)) (d : D) (ds : List D), x = .ref l ∧ ms1[n]? = some (l, .raw (NDO P w l xs)) ∧ TabN Γ.K F1 kvs xs ∧ kvs.map (·.2) = d :: ds ∧ okL (d :: ds) = true ∧ PySem.W.AlikeAll (toPyL (d :: ds)) ∧ depL (d :: ds) ≤ 8 ∧
    ∀ e, e ∈ d :: ds → toPy e = PySem.W.minD (toPy d) (toPyL ds) → Q F1 ms1 e) : AE Γ (tMinNV P w Γ.K td) F ms S Q := fun R σ H Qc hs hh x k =>
  h R σ H _ hs hh x fun F1 ms1 d1 v1 H1 e1 h1 r1 ⟨n, l, xs, kvs, d, ds, hx, hn, ⟨vs, rn, kn⟩, hkv, hok, hal, hdp, q⟩ => by
    subst hx
    cases r1
    have hvs : VsOf (vs.map (·.2)) xs := by
      have gen : ∀ {vs : List (NK × V)} {xs : List Ent}, KN Γ.K F1 vs xs → VsOf (vs.map (·.2)) xs := by
        intro vs xs h
        induction h with
        | nil => exact .nil
        | cons h t ih => exact .cons h.2.2 ih
      exact gen kn
    have hrl : RepL Γ.K F1 (d :: ds) (vs.map (·.2)) := by
      rw [← hkv]
      have gen : ∀ {kvs : List (NK × D)} {vs : List (NK × V)}, RepN Γ.K F1 kvs vs → RepL Γ.K F1 (kvs.map (·.2)) (vs.map (·.2)) := by
        intro kvs vs h
        induction h with
        | nil => exact .nil
        | cons h t ih => exact .cons h.2 ih
      exact gen rn
    refine ⟨l, xs, vs.map (·.2), toPy d, toPyL ds, rfl, (h1.at (get_app hn)).2, hvs, dpL_of h1.ex hok hrl, hal, by have := depL_ok (d :: ds); exact this ▸ hdp, fun i v hv hi => ?_⟩
    obtain ⟨e, he, re⟩ : ∃ e, (d :: ds)[i]? = some e ∧ Rep Γ.K F1 e v := by
      have gen : ∀ {ds : List D} {vs : List V} (i : Nat) {v : V}, RepL Γ.K F1 ds vs → vs[i]? = some v → ∃ e, ds[i]? = some e ∧ Rep Γ.K F1 e v := by
        intro ds vs i v h
        induction ds generalizing vs i with
        | nil => cases h; intro z; simp at z
        | cons d ds ih =>
          cases h with
          | cons a b =>
            intro z
            cases i with
            | zero => cases z; exact ⟨_, rfl, a⟩
            | succ i => exact ih i b z
      exact gen i hrl hv
    refine k F1 ms1 e v H1 e1 h1 re (q e (List.mem_of_getElem? he) ?_)
    rw [← hi]
    have gen : ∀ (ds : List D) (i : Nat), ds[i]? = some e → (toPyL ds).getD i .none = toPy e := by
      intro ds
      induction ds with
      | nil => intro i z; simp at z
      | cons a ds ih =>
        intro i z
        cases i with
        | zero => cases z; rfl
        | succ i => exact ih i z
    exact (gen (d :: ds) i he).symm
/-- {k: v for ..}, tuple keys: a new owned dict -/
theorem ae_dcn (hg : GW g vs) (gm : ∀ v σ H N N', (∀ σ2 H2, N σ2 H2 → N' σ2 H2) → g v σ H N → g v σ H N') (h : AI Γ wi F ms S fun F1 ms1 ds G => ∃ I : Nat → Hp → Ms → List (NK × D) → Prop, I 0 F1 ms1 [] ∧ (∀ i F' ms' acc, Ex F1 F' → I i F' ms' acc → G ms') ∧
    (∀ i d F' ms' acc, Ex F1 F' → ds[i]? = some d → I i F' ms' acc → ∀ F'', Ex F' F'' → AG Γ.nox g d F'' ms' (wipeS S vs) fun F2 ms2 S2 => AT Γ.nox tt F2 ms2 S2 fun F3 ms3 b => (b = true → AE Γ.nox tk F3 ms3 S2 fun F4 ms4 y => ∃ ks, y = nkD (.tup ks) ∧ NestedKey.depth (.tup ks) ≤ 8 ∧ AE Γ.nox tv F4 ms4 S2 fun F5 ms5 z => acc.length < 100000 ∧ I (i + 1) F5 ms5 (putN acc (.tup ks) z)) ∧ (b = false → I (i + 1) F3 ms3 acc)) ∧
    (∀ F' ms' acc, Ex F1 F' → I ds.length F' ms' acc → ∀ l xs, TabN Γ.K F' acc xs → Q F' ((l, .raw (NDO P w l xs)) :: ms') (.ref l))) : AE Γ (tDcN P w Γ.K wi g tt tk tv vs) F ms S Q := fun R σ H Qc hs hh x k =>
  h R σ H _ hs hh x fun F1 ms1 ds G J H1 e1 h1 it ⟨I, i0, iG, ib, ie⟩ => by
    intro D hD
    refine ⟨fun i m H' => m = ds.length - i ∧ i ≤ ds.length ∧ ∃ F' ms' acc xs, Ex F1 F' ∧ Hold Γ.K F' (ms' ++ (D, .raw (NDO P w D xs)) :: R) H' ∧ TabN Γ.K F' acc xs ∧ I i F' ms' acc, ⟨_, rfl, Nat.zero_le _, F1, ms1, [], [], Ex.refl, ?_, TabN.nil, i0⟩, ?_⟩
    · exact (h1.made (m := .raw (NDO P w D [])) hD upd_same).perm List.perm_middle
    rintro i m H' ⟨rfl, hi, F', ms', acc, xs, e', hh', tb, p⟩
    have hG := iG i F' ms' acc e' p
    by_cases hlt : i < ds.length
    · refine .inr ⟨it.goes _ i H' F' ms' hlt e' hh' hG, fun H2 => ∃ F2 ms2 acc2 xs2, Ex F1 F2 ∧ Hold Γ.K F2 (ms2 ++ (D, .raw (NDO P w D xs2)) :: R) H2 ∧ TabN Γ.K F2 acc2 xs2 ∧ I (i + 1) F2 ms2 acc2, fun H2 ⟨F2, ms2, acc2, xs2, e2, b2, t2, q2⟩ => ⟨ds.length - (i + 1), by omega, rfl, hlt, F2, ms2, acc2, xs2, e2, b2, t2, q2⟩, fun x H2 y => ?_⟩
      obtain ⟨F2, d, e2, hh2, hd, hr⟩ := it.yields _ i H' x H2 F' ms' hlt e' hh' hG y
      refine gm x _ H2 _ _ (fun σ2 H3 z => ⟨z.2, z.1⟩) (hg x _ H2 _ _ (wipe_wipe σ vs) ?_)
      refine ib i d F' ms' acc e' hd p F2 e2 _ x (L2.wipe σ vs) H2 _ hr (((hs.mono e1).mono (e'.trans e2)).wipe vs) hh2 xle0 fun F3 ms3 S3 σ3 H3 e3 a3 b3 q3 => ?_
      refine q3 _ σ3 H3 _ a3 b3 xle0 fun F4 ms4 b H4 e4 b4 q4 => ?_
      cases b with
      | true =>
        refine q4.1 rfl _ σ3 H4 _ (a3.mono e4) b4 xle0 fun F5 ms5 d5 v5 H5 e5 b5 r5 ⟨ks, hk, hdp, q5⟩ => ?_
        subst hk
        refine q5 _ σ3 H5 _ ((a3.mono e4).mono e5) b5 xle0 fun F6 ms6 d6 v6 H6 e6 b6 r6 q6 => ?_
        have hkey := vkey_rep _ _ (r5.mono e6)
        obtain ⟨b, rfl⟩ : ∃ b, v5 = .ref b := by cases hkey; exact ⟨_, rfl⟩
        have e26 := (((e2.trans e3).trans e4).trans e5).trans e6
        have tb6 := tb.ex e26
        obtain ⟨vs6, rn6, kn6⟩ := tb6
        have hl := (b6.at mid_get).2
        refine ⟨b, xs, vs6, _, rfl, hl, kn6.mono fun _ _ => ex_t b6.ex, VKey.mono (fun _ _ => ex_t b6.ex) _ _ hkey, hdp, Evl.sz_lt (by rw [← Paired.length rn6]; exact q6.1), fun u ru => ⟨F6, ms6, putN acc (.tup ks) d6, storedH xs (.tup ks) b u, e'.trans e26, ?_, TabN.put ⟨vs6, rn6, kn6⟩ hkey hdp r6 ru, q6.2⟩⟩
        have := b6.set (m' := .raw (NDO P w D (storedH xs (.tup ks) b u))) (o := NDO P w D (storedH xs (.tup ks) b u)) mid_get upd_same
        rw [mid_set] at this
        exact this
      | false => exact ⟨F4, ms4, acc, xs, ((e'.trans e2).trans e3).trans e4, b4, tb.ex ((e2.trans e3).trans e4), q4.2 rfl⟩
    · have ei : i = ds.length := by omega
      subst ei
      refine .inl ⟨it.stops _ H' F' ms' e' hh' hG, ?_⟩
      exact k F' ((D, .raw (NDO P w D xs)) :: ms') (.ref D) _ H' (e1.trans e') (hh'.perm List.perm_middle.symm) (.ref D) (ie F' ms' acc e' p D xs tb)
/-- the same of two loops -/
theorem ae_dcn2 (hg : GW g vs) (gm : ∀ v σ H N N', (∀ σ2 H2, N σ2 H2 → N' σ2 H2) → g v σ H N → g v σ H N') (hg1 : GW g1 vs1) (gm1 : ∀ v σ H N N', (∀ σ2 H2, N σ2 H2 → N' σ2 H2) → g1 v σ H N → g1 v σ H N')
    (h : AI Γ wi F ms S fun F1 ms1 ds G => ∃ I : Nat → Hp → Ms → List (NK × D) → Prop, I 0 F1 ms1 [] ∧ (∀ i F' ms' acc, Ex F1 F' → I i F' ms' acc → G ms') ∧
    (∀ i d F' ms' acc, Ex F1 F' → ds[i]? = some d → I i F' ms' acc → ∀ F'', Ex F' F'' → AG Γ.nox g d F'' ms' (wipeS S vs) fun F2 ms2 S2 => AT Γ.nox tt F2 ms2 S2 fun F3 ms3 b =>
      (b = true → AI Γ.nox wi1 F3 ms3 S2 fun F4 ms4 ds1 G1 => ∃ I1 : Nat → Hp → Ms → List (NK × D) → Prop, I1 0 F4 ms4 acc ∧ (∀ j F' ms' acc', Ex F4 F' → I1 j F' ms' acc' → G1 ms') ∧
        (∀ j d1 F' ms' acc', Ex F4 F' → ds1[j]? = some d1 → I1 j F' ms' acc' → ∀ F'', Ex F' F'' → AG Γ.nox g1 d1 F'' ms' (wipeS S2 vs1) fun F5 ms5 S5 => AT Γ.nox tt1 F5 ms5 S5 fun F6 ms6 b => (b = true → AE Γ.nox tk F6 ms6 S5 fun F7 ms7 y => ∃ ks, y = nkD (.tup ks) ∧ NestedKey.depth (.tup ks) ≤ 8 ∧ AE Γ.nox tv F7 ms7 S5 fun F8 ms8 z => acc'.length < 100000 ∧ I1 (j + 1) F8 ms8 (putN acc' (.tup ks) z)) ∧ (b = false → I1 (j + 1) F6 ms6 acc')) ∧
        (∀ F' ms' acc', Ex F4 F' → I1 ds1.length F' ms' acc' → I (i + 1) F' ms' acc')) ∧ (b = false → I (i + 1) F3 ms3 acc)) ∧
    (∀ F' ms' acc, Ex F1 F' → I ds.length F' ms' acc → ∀ l xs, TabN Γ.K F' acc xs → Q F' ((l, .raw (NDO P w l xs)) :: ms') (.ref l))) : AE Γ (tDcN2 P w Γ.K wi g tt wi1 g1 tt1 tk tv vs vs1) F ms S Q := fun R σ H Qc hs hh x k =>
  h R σ H _ hs hh x fun F1 ms1 ds G J H1 e1 h1 it ⟨I, i0, iG, ib, ie⟩ => by
    intro D hD
    refine ⟨fun i m H' => m = ds.length - i ∧ i ≤ ds.length ∧ ∃ F' ms' acc xs, Ex F1 F' ∧ Hold Γ.K F' (ms' ++ (D, .raw (NDO P w D xs)) :: R) H' ∧ TabN Γ.K F' acc xs ∧ I i F' ms' acc, ⟨_, rfl, Nat.zero_le _, F1, ms1, [], [], Ex.refl, ?_, TabN.nil, i0⟩, ?_⟩
    · exact (h1.made (m := .raw (NDO P w D [])) hD upd_same).perm List.perm_middle
    rintro i m H' ⟨rfl, hi, F', ms', acc, xs, e', hh', tb, p⟩
    have hG := iG i F' ms' acc e' p
    by_cases hlt : i < ds.length
    · refine .inr ⟨it.goes _ i H' F' ms' hlt e' hh' hG, fun H2 => ∃ F2 ms2 acc2 xs2, Ex F1 F2 ∧ Hold Γ.K F2 (ms2 ++ (D, .raw (NDO P w D xs2)) :: R) H2 ∧ TabN Γ.K F2 acc2 xs2 ∧ I (i + 1) F2 ms2 acc2, fun H2 ⟨F2, ms2, acc2, xs2, e2, b2, t2, q2⟩ => ⟨ds.length - (i + 1), by omega, rfl, hlt, F2, ms2, acc2, xs2, e2, b2, t2, q2⟩, fun x H2 y => ?_⟩
      obtain ⟨F2, d, e2, hh2, hd, hr⟩ := it.yields _ i H' x H2 F' ms' hlt e' hh' hG y
      refine gm x _ H2 _ _ (fun σ2 H3 z => ⟨z.2, z.1⟩) (hg x _ H2 _ _ (wipe_wipe σ vs) ?_)
      refine ib i d F' ms' acc e' hd p F2 e2 _ x (L2.wipe σ vs) H2 _ hr (((hs.mono e1).mono (e'.trans e2)).wipe vs) hh2 xle0 fun F3 ms3 S3 σ3 H3 e3 a3 b3 q3 => ?_
      refine q3 _ σ3 H3 _ a3 b3 xle0 fun F4 ms4 b H4 e4 b4 q4 => ?_
      have e14 : Ex F1 F4 := (((e'.trans e2).trans e3).trans e4)
      have e24 : Ex F' F4 := (e2.trans e3).trans e4
      cases b with
      | false => exact ⟨F4, ms4, acc, xs, e14, b4, tb.ex e24, q4.2 rfl⟩
      | true =>
        refine q4.1 rfl ((D, .raw (NDO P w D xs)) :: R) σ3 H4 _ (a3.mono e4) b4 xle0 fun F5 ms5 ds1 G1 J1 H5 e5 b5 it1 ⟨I1, j0, jG, jb, je⟩ => ?_
        refine ⟨fun j m H' => m = ds1.length - j ∧ j ≤ ds1.length ∧ ∃ F' ms' acc' xs', Ex F5 F' ∧ Hold Γ.K F' (ms' ++ (D, .raw (NDO P w D xs')) :: R) H' ∧ TabN Γ.K F' acc' xs' ∧ I1 j F' ms' acc', ⟨_, rfl, Nat.zero_le _, F5, ms5, acc, xs, Ex.refl, b5, tb.ex (e24.trans e5), j0⟩, ?_⟩
        rintro j m Hj ⟨rfl, hj, Fj, msj, accj, xsj, ej, hhj, tbj, pj⟩
        have hGj := jG j Fj msj accj ej pj
        by_cases hltj : j < ds1.length
        · refine .inr ⟨it1.goes _ j Hj Fj msj hltj ej hhj hGj, fun H2 => ∃ F2 ms2 acc2 xs2, Ex F5 F2 ∧ Hold Γ.K F2 (ms2 ++ (D, .raw (NDO P w D xs2)) :: R) H2 ∧ TabN Γ.K F2 acc2 xs2 ∧ I1 (j + 1) F2 ms2 acc2, fun H2 ⟨F2, ms2, acc2, xs2, e2, b2, t2, q2⟩ => ⟨ds1.length - (j + 1), by omega, rfl, hltj, F2, ms2, acc2, xs2, e2, b2, t2, q2⟩, fun x2 H6 y2 => ?_⟩
          obtain ⟨F6, d6, e6, hh6, hd6, hr6⟩ := it1.yields _ j Hj x2 H6 Fj msj hltj ej hhj hGj y2
          refine gm1 x2 _ H6 _ _ (fun σ2 H3 z => ⟨z.2, z.1⟩) (hg1 x2 _ H6 _ _ (wipe_wipe σ3 vs1) ?_)
          refine jb j d6 Fj msj accj ej hd6 pj F6 e6 _ x2 (L2.wipe σ3 vs1) H6 _ hr6 (((a3.mono e4).mono ((e5.trans ej).trans e6)).wipe vs1) hh6 xle0 fun F7 ms7 S7 σ7 H7 e7 a7 b7 q7 => ?_
          refine q7 _ σ7 H7 _ a7 b7 xle0 fun F8 ms8 b H8 e8 b8 q8 => ?_
          cases b with
          | true =>
            refine q8.1 rfl _ σ7 H8 _ (a7.mono e8) b8 xle0 fun F9 ms9 d9 v9 H9 e9 b9 r9 ⟨ks, hk, hdp, q9⟩ => ?_
            subst hk
            refine q9 _ σ7 H9 _ ((a7.mono e8).mono e9) b9 xle0 fun Fa msa da va Ha ea ba ra qa => ?_
            have hkey := vkey_rep _ _ (r9.mono ea)
            obtain ⟨b, rfl⟩ : ∃ b, v9 = .ref b := by cases hkey; exact ⟨_, rfl⟩
            have eja := (((e6.trans e7).trans e8).trans e9).trans ea
            obtain ⟨vs6, rn6, kn6⟩ := tbj.ex eja
            have hl := (ba.at mid_get).2
            refine ⟨b, xsj, vs6, _, rfl, hl, kn6.mono fun _ _ => ex_t ba.ex, VKey.mono (fun _ _ => ex_t ba.ex) _ _ hkey, hdp, Evl.sz_lt (by rw [← Paired.length rn6]; exact qa.1), fun u ru => ⟨Fa, msa, putN accj (.tup ks) da, storedH xsj (.tup ks) b u, ej.trans eja, ?_, TabN.put ⟨vs6, rn6, kn6⟩ hkey hdp ra ru, qa.2⟩⟩
            have := ba.set (m' := .raw (NDO P w D (storedH xsj (.tup ks) b u))) (o := NDO P w D (storedH xsj (.tup ks) b u)) mid_get upd_same
            rw [mid_set] at this
            exact this
          | false => exact ⟨F8, ms8, accj, xsj, ((ej.trans e6).trans e7).trans e8, b8, tbj.ex ((e6.trans e7).trans e8), q8.2 rfl⟩
        · have ejl : j = ds1.length := by omega
          subst ejl
          exact .inl ⟨it1.stops _ Hj Fj msj ej hhj hGj, Fj, msj, accj, xsj, (e14.trans e5).trans ej, hhj, tbj, je Fj msj accj ej pj⟩
    · have ei : i = ds.length := by omega
      subst ei
      refine .inl ⟨it.stops _ H' F' ms' e' hh' hG, ?_⟩
      exact k F' ((D, .raw (NDO P w D xs)) :: ms') (.ref D) _ H' (e1.trans e') (hh'.perm List.perm_middle.symm) (.ref D) (ie F' ms' acc e' p D xs tb)
end
end AL

set_option Elab.async false
set_option linter.all false
set_option maxRecDepth 100000
set_option maxHeartbeats 4000000
/-! alike data compared, tuple * int -/
namespace AL
open PySem L2 PyProof.Rows
def rLtD (K : Frg) : R2 := fun x y H Q => ∃ a b : PyData, Dp K H x a ∧ Dp K H y b ∧ PySem.W.alike a b = true ∧ a ≠ .none ∧ a.depth ≤ 8 ∧ Q (.bl (PySem.W.dataLt a b)) H
def rLeD (K : Frg) : R2 := fun x y H Q => ∃ a b : PyData, Dp K H x a ∧ Dp K H y b ∧ PySem.W.alike a b = true ∧ a ≠ .none ∧ a.depth ≤ 8 ∧ Q (.bl (!PySem.W.dataLt b a)) H
section
variable {X : Cx}
theorem op_ltD (hu : X.A.units + 64 < cLine) : OpR X (compareOp .Lt) (rLtD X.K) := by
  intro pins s σ H x y v u Q I rx ry h
  obtain ⟨a, b, ha, hb, hal, hn, hd, q⟩ := h
  obtain ⟨as, ra⟩ := Dp.reads I a x v ha rx
  obtain ⟨bs, rb⟩ := Dp.reads I b y u hb ry
  exact PySem.W.lt_data ra rb hal hn (by omega) ⟨.bl _, H, I, rfl, q⟩
theorem op_leD (hu : X.A.units + 64 < cLine) : OpR X (compareOp .LtE) (rLeD X.K) := by
  intro pins s σ H x y v u Q I rx ry h
  obtain ⟨a, b, ha, hb, hal, hn, hd, q⟩ := h
  obtain ⟨as, ra⟩ := Dp.reads I a x v ha rx
  obtain ⟨bs, rb⟩ := Dp.reads I b y u hb ry
  exact PySem.W.le_data ra rb hal hn (by omega) ⟨.bl _, H, I, rfl, q⟩
end
section
variable {K : Frg} {F : Hp} {ms : Ms} {Q : QE}
theorem kLTD {X : Cx} (h : X.K = K) (hu : X.A.units + 64 < cLine) : OpR X (compareOp .Lt) (rLtD K) := h ▸ op_ltD hu
theorem kLED {X : Cx} (h : X.K = K) (hu : X.A.units + 64 < cLine) : OpR X (compareOp .LtE) (rLeD K) := h ▸ op_leD hu
theorem kREPT {X : Cx} (h : X.K = K) : OpR X (binaryOp .Mult) (rRepT K) := h ▸ op_repT
theorem ar_LTD {x y : D} (h1 : okD x = true) (h2 : okD y = true) (ha : PySem.W.alike (toPy x) (toPy y) = true) (hn : toPy x ≠ .none) (hd : (toPy x).depth ≤ 8) (q : Q F ms (.bl (PySem.W.dataLt (toPy x) (toPy y)))) : AR K (rLtD K) x y F ms Q := fun R u v H Qc hu hv hh k =>
  ⟨_, _, dp_of hh.ex h1 hu, dp_of hh.ex h2 hv, ha, hn, hd, k F ms _ _ H Ex.refl hh (.bl _) q⟩
theorem ar_LED {x y : D} (h1 : okD x = true) (h2 : okD y = true) (ha : PySem.W.alike (toPy x) (toPy y) = true) (hn : toPy x ≠ .none) (hd : (toPy x).depth ≤ 8) (q : Q F ms (.bl (!PySem.W.dataLt (toPy y) (toPy x)))) : AR K (rLeD K) x y F ms Q := fun R u v H Qc hu hv hh k =>
  ⟨_, _, dp_of hh.ex h1 hu, dp_of hh.ex h2 hv, ha, hn, hd, k F ms _ _ H Ex.refl hh (.bl _) q⟩
theorem rep_flat {ds : List D} {vs : List V} (r : RepL K F ds vs) : ∀ n : Nat, RepL K F (List.replicate n ds).flatten (List.replicate n vs).flatten
  | 0 => .nil
  | n + 1 => by
    rw [List.replicate_succ, List.replicate_succ, List.flatten_cons, List.flatten_cons]
    exact r.append (rep_flat r n)
theorem ar_REPT {ds : List D} {k : Int} (h0 : ds ≠ []) (h1 : ds.length ≤ 1000) (h2 : 2 ≤ k) (h3 : k ≤ 1000) (q : ∀ F', Ex F F' → Q F' ms (.tup (List.replicate k.toNat ds).flatten)) : AR K (rRepT K) (.tup ds) (.int k) F ms Q := fun R u v H Qc hu hv hh kk => by
  cases hu with
  | tup hq rr =>
    cases hv
    have hl := rr.len
    refine ⟨_, k, _, rfl, rfl, ex_t hh.ex hq, fun e => ?_, h2, h3, by omega, fun p hp => ?_⟩
    · rw [e] at rr
      cases rr
      exact h0 rfl
    obtain ⟨e2, h3⟩ := hh.laid (.tup (List.replicate k.toNat _).flatten) hp
    exact kk _ ms (.tup _) _ _ e2 h3 (.tup (.inl (.inl upd_same)) ((rep_flat rr k.toNat).mono e2)) (q _ e2)
end
end AL

set_option Elab.async false
set_option linter.all false
set_option maxRecDepth 100000
set_option maxHeartbeats 4000000
/-! min of a list of alike data -/
namespace ND
open PySem PySem.Spec PyProof.Rows L2 PySem.W
section
variable {X : Cx}
def rMinLD (K : PySem.W.Frag) : List V → Hp → VK → Prop := fun vs H Q => ∃ (a : Addr) (xs : List V) (d : PyData) (ds : List PyData), vs = [V.ref a] ∧ SqL K H a xs ∧ DpAll K H xs (d :: ds) ∧ AlikeAll (d :: ds) ∧ PyData.depthAll (d :: ds) ≤ 8 ∧
  ∀ (i : Nat) (v : V), xs[i]? = some v → (d :: ds).getD i .none = minD d ds → Q v H
theorem cr_minLD (hc : X.calm = true) (hu : X.A.units + 64 < cLine) : CallR X (.builtin "min") (rMinLD X.K) := by
  intro pins s σ H vs us Q I r h
  obtain ⟨a, xs, d, ds, rfl, hs, hd, hal, hdep, q⟩ := h
  obtain ⟨its, rv, hl, _⟩ := I.list hs
  rw [Vals.ref1 r]
  obtain ⟨as, hR⟩ := Dp.readsAll I _ _ _ hd rv
  have hR' : ReadsAll s.heap its.toArray.toList (d :: ds) as := by simpa using hR
  have hn : its.toArray.size = ds.length + 1 := readsAll_len hR'
  refine call_min_walkH (iter_listW (A := X.A.in1) (I.ok.hd hc) hl.isList fun s₂ e W st hfp hw hk => ?_)
  refine ⟨_, _, _, _, _, _, _, s.heap, fun i j => dataLt ((d :: ds).getD i .none) ((d :: ds).getD j .none), rfl, W, st, hfp, by omega, hw, hk, cmpIn_lt (A := X.A.in1) hR' hal (by show X.A.units + 1 + _ < _; omega), fun v s' hP m => ?_⟩
  obtain ⟨h', tk, rfl, hk'⟩ := moved_old e rfl m
  have e1 : its.toArray.size - 1 = ds.length := by omega
  have e2 := (argBest_fold dataLt PyData.none d ds ds.length (Nat.le_refl _)).2
  rw [List.take_length] at e2
  rw [e1] at hP
  generalize hbi : argBest (fun i j => dataLt ((d :: ds).getD i .none) ((d :: ds).getD j .none)) ds.length = bi at hP e2
  have hP : its.toArray[bi]? = some v := hP
  rw [List.getElem?_toArray] at hP
  have hlen := rv.length
  obtain ⟨u, hu⟩ : ∃ u, xs[bi]? = some u := ⟨_, List.getElem?_eq_getElem (by rw [hlen]; exact (List.getElem?_eq_some_iff.mp hP).1)⟩
  obtain ⟨y, hy, rr⟩ := paired_get rv hu
  rw [hP] at hy
  cases hy
  exact ⟨u, H, I.kept hk', rr, q bi u hu e2⟩
end
end ND
namespace AL
open PySem L2 PyProof.Rows ND
theorem kMINLD {X : Cx} {K : Frg} (h : X.K = K) (hc : X.calm = true) (hu : X.A.units + 64 < cLine) : CallR X (.builtin "min") (rMinLD K) := h ▸ cr_minLD hc hu
theorem rep_at {K : Frg} {F : Hp} : ∀ {ds : List D} {vs : List V} (i : Nat) {v : V}, RepL K F ds vs → vs[i]? = some v → ∃ e, ds[i]? = some e ∧ Rep K F e v := by
  intro ds vs i v h
  induction ds generalizing vs i with
  | nil => cases h; intro z; simp at z
  | cons d ds ih =>
    cases h with
    | cons a b =>
      intro z
      cases i with
      | zero => cases z; exact ⟨_, rfl, a⟩
      | succ i => exact ih i b z
theorem toPy_at {e : D} : ∀ (ds : List D) (i : Nat), ds[i]? = some e → (toPyL ds).getD i .none = toPy e := by
  intro ds
  induction ds with
  | nil => intro i z; simp at z
  | cons a ds ih =>
    intro i z
    cases i with
    | zero => cases z; rfl
    | succ i => exact ih i z
theorem ac_minLD {K : Frg} {F : Hp} {ms : Ms} {Q : QE} {x d : D} {ds : List D} (hl : LstA F ms x (d :: ds)) (hok : okL (d :: ds) = true) (hal : PySem.W.AlikeAll (toPyL (d :: ds))) (hdp : depL (d :: ds) ≤ 8) (q : ∀ e, e ∈ d :: ds → toPy e = PySem.W.minD (toPy d) (toPyL ds) → Q F ms e) : AC K (rMinLD K) [x] F ms Q := ac1 fun R v H Qc hv hh k => by
  obtain ⟨a, us, rfl, ha, rr⟩ := hl.to hh hv
  refine ⟨a, us, toPy d, toPyL ds, rfl, ha, dpL_of hh.ex hok rr, hal, by have := depL_ok (d :: ds); exact this ▸ hdp, fun i u hu hi => ?_⟩
  obtain ⟨e, he, hr⟩ := rep_at i rr hu
  refine k F ms e u H Ex.refl hh hr (q e (List.mem_of_getElem? he) ?_)
  rw [← hi]
  exact (toPy_at (d :: ds) i he).symm
end AL

set_option Elab.async false
set_option linter.all false
set_option maxRecDepth 100000
set_option maxHeartbeats 4000000
/-! lambdas kept in lists, called by defs that got the list: the maker's captured cells are told by a base that is the heap of the call's start -/
namespace LamZ
open PySem PySem.Spec PySem.W PyProof.Rows L2 LamX LamY
/-! ### the heap at a call's start, without what is tracked and without the frames -/
def hid (H : Hp) (fs : List Addr) (n : Nat) : List Addr := fs ++ (List.range n).filter fun b => (H b).isSome
def snap (s : Shared) (H : Hp) (fs : List Addr) : Heap := hideAll s.heap (hid H fs s.heap.objs.size)
section
variable {s : Shared} {H : Hp} {fs : List Addr} {b : Addr} {o : Obj}
theorem snap_to (e : (snap s H fs).get? b = some o) : s.heap.get? b = some o ∧ H b = none ∧ b ∉ fs := by
  have got := of_hideAll _ e
  have away : b ∉ hid H fs s.heap.objs.size := fun z => by
    have gone := hideAll_none (h := s.heap) _ z
    unfold snap at e
    rw [gone] at e
    cases e
  refine ⟨got, ?_, fun z => away (List.mem_append_left _ z)⟩
  cases hb : H b with
  | none => rfl
  | some u => exact absurd (List.mem_append_right _ (List.mem_filter.mpr ⟨List.mem_range.mpr (Heap.lt_size got), by rw [hb]; rfl⟩)) away
theorem snap_of (e : s.heap.get? b = some o) (n : H b = none) (hf : b ∉ fs) : (snap s H fs).get? b = some o := by
  refine hideAll_get _ e fun z => ?_
  rcases List.mem_append.mp z with z | z
  · exact hf z
  · have tracked := (List.mem_filter.mp z).2
    rw [n] at tracked
    cases tracked
theorem snap_size : (snap s H fs).objs.size = s.heap.objs.size := hideAll_size _ _
theorem snap_fs (h : b ∈ fs) : (snap s H fs).get? b = none := hideAll_none _ (List.mem_append_left _ h)
end
section
variable {X : Cx} {pins : List (Addr × Obj)} {σ : L2.St} {H : Hp} {s : Shared}
theorem base_snap (I : Inv X pins σ H s) : ∀ b o, X.base.get? b = some o → (snap s H (frs X.stack)).get? b = some o := fun b o e => by
  have old := I.env0.bs b o e
  refine snap_of old.1 old.2 fun z => ?_
  have none' := (I.env0.funs.mem z).1
  rw [e] at none'
  cases none'
theorem env0_snap (I : Inv X pins σ H s) : Env0 X.prog X.w X.K X.mg (snap s H (frs X.stack)) X.A X.stack s H := by
  have e0 := I.env0
  have k := base_snap I
  obtain ⟨mb, hb1, hb2⟩ := e0.mod.blt
  exact { frames := e0.frames, mod := ⟨e0.mod.kin.keeps k, e0.mod.glob.keeps k, ⟨mb, hb1.keeps k, hb2⟩, e0.mod.nolimit.keeps k⟩, bs := fun b o e => ⟨(snap_to e).1, (snap_to e).2.1⟩, bsz := by rw [snap_size]; exact Nat.le_refl _, funs := funFrames_none e0.funs fun L hL => snap_fs hL, frf := e0.frf, hok := e0.hok, bare := e0.bare }
/-- names of a lambda: captured ones, globals, parameters that are no names of the maker -/
structure LamN (sc : Scope) (N : List Str) (scope : Scope) : Prop where
  kind : scope.kind = .function
  co : scope.isCoroutine = false
  gen : scope.isGenerator = false
  own : ∀ y ∈ scope.names, y.2 ≠ .cell ∧ (y.2 = .local → y.1 ∉ N)
  free : ∀ y ∈ scope.names, y.2 = .free → sc.names.lookup y.1 = some .cell ∨ sc.names.lookup y.1 = some .free
def lamNB (sc : Scope) (N : List Str) (scope : Scope) : Bool :=
  decide (scope.kind = .function) && (!scope.isCoroutine && (!scope.isGenerator && scope.names.all fun y => (!decide (y.2 = .cell) && (!decide (y.2 = .local) || !decide (y.1 ∈ N))) && ((!decide (y.2 = .free) || decide (sc.names.lookup y.1 = some .cell)) || decide (sc.names.lookup y.1 = some .free))))
theorem lamN_by {sc : Scope} {N : List Str} {scope : Scope} (h : lamNB sc N scope = true) : LamN sc N scope := by
  unfold lamNB at h
  rw [Bool.and_eq_true, Bool.and_eq_true, Bool.and_eq_true, List.all_eq_true] at h
  obtain ⟨a1, a2, a3, a4⟩ := h
  refine ⟨of_decide_eq_true a1, by simpa using a2, by simpa using a3, fun y hy => ?_, fun y hy e => ?_⟩
  · have q := a4 y hy
    simp only [Bool.and_eq_true, Bool.or_eq_true, Bool.not_eq_true', decide_eq_false_iff_not] at q
    exact ⟨q.1.1, fun e => q.1.2.elim (fun z => absurd e z) id⟩
  · have q := a4 y hy
    simp only [Bool.and_eq_true, Bool.or_eq_true, Bool.not_eq_true', decide_eq_false_iff_not, decide_eq_true_eq] at q
    rcases q.2 with (z | z) | z
    · exact absurd e z
    · exact .inl z
    · exact .inr z
theorem LamN.caught {scope : Scope} (L : LamN X.env.scope X.N scope) (ok : X.Ok) : ∀ y ∈ scope.names, y.2 = .free → ∃ c, X.env.cells.lookup y.1 = some c := fun y hy e => ok.has _ (L.free y hy e)
/-- a cell of the maker is no frame of the stack -/
theorem cell_away (I : Inv X pins σ H s) (hfn : ∀ x, X.fn x = true) {y : Str} {c : Addr} (hc : X.env.cells.lookup y = some c) : c ∉ frs X.stack := fun z => by
  obtain ⟨v, o, ho, hd⟩ := I.cell y c hc
  rcases List.mem_cons.mp (I.stkSub c z) with e | e
  · obtain ⟨m, ⟨ob, es, ep, hob, hdat, _⟩, _⟩ := I.loc
    rw [← e, ho] at hob
    cases hob
    rw [hd] at hdat
    cases hdat
  · obtain ⟨_, ob, hob, _⟩ := I.ok.funs.mem e
    exact Nat.lt_irrefl _ (Nat.lt_of_lt_of_le (Heap.lt_size hob) (I.ok.cab y c (hfn y) hc))
end
section
variable {X : Cx} {pins : List (Addr × Obj)} {σ : L2.St} {H HZ : Hp} {s s1 : Shared}
/-- the lambda's body begins, at any depth -/
theorem lam_inv {A : Around} {outer : List Env} {E : XK} {scope : Scope} {f c' : Addr} {hN : Heap} {tk : Nat} {m : Str → Option Value} (I : Inv X pins σ H s) (hfn : ∀ x, X.fn x = true) (L : LamN X.env.scope X.N scope)
    (e0 : Env0 X.prog X.w X.K X.mg (snap s H (frs X.stack)) A outer s1 HZ) (calm : A.handled = none) (ns : hN.Ns s1.heap.objs.size m) (kp : ∀ b o, s1.heap.get? b = some o → hN.get? b = some o) :
    Inv (lamCx X A outer s1 HZ E scope f c') [] σ HZ { s1 with heap := hN, toks := tk } := by
  have caught := L.caught I.ok
  have up : ∀ {y : Str} {c : Addr}, (cloFrom X.env.cells scope.names []).lookup y = some c → X.env.cells.lookup y = some c := fun {y c} e => by
    rcases cloFrom_mem (PySem.mem_of_lookup e) with z | z
    · cases z
    · obtain ⟨c0, h0⟩ := caught _ z.1 rfl
      have h0 : X.env.cells.lookup y = some c0 := h0
      have same : c = c0 := by rw [z.2, h0] <;> rfl
      rw [same]
      exact h0
  have down : ∀ {y : Str}, scope.names.lookup y = some .free → ∃ c, (cloFrom X.env.cells scope.names []).lookup y = some c := fun {y} e => mem_lookup (cloFrom_has (cells := X.env.cells) (acc := []) (PySem.mem_of_lookup e))
  have still : ∀ {y : Str} {c : Addr} {v : Option Value}, X.env.cells.lookup y = some c → s.heap.IsCell c v → hN.IsCell c v ∧ HZ c = none := fun {y c v} hc ⟨o, ho, hd⟩ => by
    have here := e0.bs c o (snap_of ho (I.freeC y c hc) (cell_away I hfn hc))
    exact ⟨⟨o, kp _ _ here.1, hd⟩, here.2⟩
  have older : ∀ b o, X.base.get? b = some o → s1.heap.get? b = some o ∧ HZ b = none := fun b o e => e0.bs b o (base_snap I b o e)
  have nofr : ∀ L' ∈ frs outer, X.base.get? L' = none := fun L' hL => by
    have q := (e0.funs.mem hL).1
    cases e : X.base.get? L' with
    | none => rfl
    | some o => rw [base_snap I _ _ e] at q; cases q
  refine
    { ok := { mod := I.ok.mod, kind := L.kind, glob := rfl, blt := rfl, above := Nat.le_refl _, inj := fun y z c e1 e2 => I.ok.inj y z c (up e1) (up e2), has := fun y hy => ?_, cab := fun y c z _ => Bool.noConfusion (show false = true from z), hd := fun _ => calm, frames := Around.frames_deeper e0.frames,
              stk := .inr ⟨rfl, rfl⟩, exf := fun b z => absurd (show b ∈ ([] : List Addr) from z) (by simp), bs := older, bsz := ?_, noex := fun b _ _ z => absurd (show b ∈ ([] : List Addr) from z) (by simp), exfs := fun b z => absurd (show b ∈ ([] : List Addr) from z) (by simp),
              funs := funFrames_none e0.funs nofr, frf := e0.frf }
      os := rfl
      bare := e0.bare
      base := Un.kept kp
      loc := ⟨m, ns, fun i y v e1 e2 e3 => ?_⟩
      cell := fun y c e => ?_
      free := e0.hok.fresh (Nat.le_refl _)
      freeC := fun y c e => ?_
      pin := fun q hq => absurd (show q ∈ ([] : List (Addr × Obj)) ++ [] from hq) (by simp)
      hok := e0.hok.kept kp
      len := I.len }
  · have hy : scope.names.lookup y = some .cell ∨ scope.names.lookup y = some .free := hy
    exact hy.elim (fun z => absurd rfl (L.own _ (PySem.mem_of_lookup z)).1) down
  · have h1 := I.ok.bsz
    have h2 := I.sz
    have h3 := e0.bsz
    rw [snap_size] at h3
    exact Nat.le_trans (Nat.le_trans h1 h2) h3
  · have e3 : Vis scope y := e3
    rcases e3 with z | z | z
    · exact absurd (List.mem_of_getElem? e1) ((L.own _ (PySem.mem_of_lookup z)).2 rfl)
    · exact absurd rfl (L.own _ (PySem.mem_of_lookup z)).1
    · have outerName := L.free _ (PySem.mem_of_lookup z) rfl
      obtain ⟨_, _, seen⟩ := I.loc
      obtain ⟨u, ru, at_⟩ := seen i y v e1 e2 (outerName.elim (fun q => .inr (.inl q)) fun q => .inr (.inr q))
      obtain ⟨c, hc⟩ := down z
      refine ⟨u, ru, .inr ⟨.inr z, c, hc, ?_⟩⟩
      rcases at_ with ⟨q, _⟩ | ⟨_, c3, h3, cellv⟩
      · have q : X.env.scope.names.lookup y = some .local := q
        rcases outerName with r | r
        · rw [show X.env.scope.names.lookup y = _ from r] at q; cases q
        · rw [show X.env.scope.names.lookup y = _ from r] at q; cases q
      · have e' := up hc
        rw [h3] at e'
        cases e'
        exact (still h3 cellv).1
  · obtain ⟨v, z⟩ := I.cell y c (up e)
    exact ⟨v, (still (up e) z).1⟩
  · obtain ⟨v, z⟩ := I.cell y c (up e)
    exact (still (up e) z).2
end
/-! ### the function object, and what is known of it -/
def lamObj (X : Cx) (params : Arguments) (body : Expr) (scope : Scope) (dV doc pm : Value) (c' : Addr) (ctv : Value) : Obj := kdv_obj "<lambda>" (X.env.qual ++ "<lambda>") params (.expr body) scope (cloFrom X.env.cells scope.names []) dV doc pm c' ctv
def LamO (f : Addr) (o : Obj) : HO := .ext fun h => h.get? f = some o
/-- a lambda whose body is read: tb is its reading -/
structure LamOk (X : Cx) (k : Nat) (params : Arguments) (body : Expr) (scope : Scope) (dflt : Bool) (tb : XK → TE) : Prop where
  names : LamN X.env.scope X.N scope
  bind0 : dflt = false → ∀ (q : Str) (cl : List (Str × Addr)) (doc pm cv ctv : Value), bindArgs (kdv_fn "<lambda>" q params (.expr body) scope cl .none doc pm cv ctv) ⟨[], []⟩ = pure []
  bind1 : dflt = true → ∃ a : Str, scope.names.lookup a = some .local ∧ ∀ (q : Str) (cl : List (Str × Addr)) (dt : Addr) (doc pm cv ctv v : Value), ∃ kk, bindArgs (kdv_fn "<lambda>" q params (.expr body) scope cl (.ref dt) doc pm cv ctv) ⟨[], []⟩ = seqItems? (.ref dt) >>= kk ∧ kk (some #[v]) = pure [(a, v)]
  run : ∀ (A : Around) (outer : List Env) (s : Shared) (H : Hp) (E : XK) (f c' : Addr), Room k (A.deeper (lamEnv X scope s.heap.objs.size f c')) → PE (lamCx X A outer s H E scope f c') body (tb E)
/-- f is such a lambda -/
def LamH (X : Cx) (k : Nat) (tb : XK → TE) (H : Hp) (f : Addr) : Prop := ∃ (params : Arguments) (body : Expr) (scope : Scope) (dflt : Bool) (c' : Addr) (dV doc pm ctv : Value), LamOk X k params body scope dflt tb ∧
  H f = some (LamO f (lamObj X params body scope dV doc pm c' ctv)) ∧ H c' = some (CodeO c' (X.env.qual ++ "<lambda>")) ∧ (dflt = false → dV = .none) ∧ (dflt = true → ∃ dt, dV = .ref dt ∧ H dt = some (.tup [V.int 0]))
theorem LamH.ex {X : Cx} {k : Nat} {tb : XK → TE} {H H' : Hp} {f : Addr} (e : ∀ b o, H b = some o → H' b = some o) : LamH X k tb H f → LamH X k tb H' f := fun ⟨a, b, c, d, e', f', g, h, i, p1, p2, p3, p4, p5⟩ =>
  ⟨a, b, c, d, e', f', g, h, i, p1, e _ _ p2, e _ _ p3, p4, fun z => let ⟨dt, q1, q2⟩ := p5 z; ⟨dt, q1, e _ _ q2⟩⟩
section
variable {X : Cx} {pins : List (Addr × Obj)} {σ : L2.St} {H : Hp} {s : Shared}
/-- x(), in a def that runs over the snapshot -/
theorem act_deep {CXg : CXT} {Eg : XK} {Ng : List Str} {qg : Str} {sg : Scope} {g f : Addr} {cdg : Value} {k i : Nat} {a : Str} {pn : List (Addr × Obj)} {xe : Value → Shared → Prop} {W : WX} {tb : XK → TE} {p1 p2 : Pos} {AY : Around} {stY : List Env} {sY : Shared} {HY : Hp}
    (I : Inv X pins σ H s) (hfn : ∀ x, X.fn x = true)
    (tk : Takes ((cxOf CXg X.prog X.w X.K X.mg (snap s H (frs X.stack)) Ng qg sg g cdg AY stY sY HY Eg).tr pn xe) W) (hr : Room (k + 1) (AY.deeper (envOfC qg sg sY.heap.objs.size g cdg)))
    (hN : Ng[i]? = some a) (hv : Vis sg a) (hd : (a == ("__debug__" : Str)) = false := by decide) (hcd : (a == ("__classdict__" : Str)) = false := by decide) :
    PE ((cxOf CXg X.prog X.w X.K X.mg (snap s H (frs X.stack)) Ng qg sg g cdg AY stY sY HY Eg).tr pn xe) (.Call (.Name a p1) [] [] p2)
      (fun σZ HZ Q => σZ[i]? = some (some (.ref f)) ∧ LamH X k tb HZ f ∧ tb (WE W σZ) σ HZ Q) := by
  refine ⟨fun pinsZ sZ σZ HZ Q IZ h => ?_⟩
  obtain ⟨hs, ⟨params, body, scope, dflt, c', dV, doc, pm, ctv, ok, hO, hc, hd0, hd1⟩, ht⟩ := h
  refine wpAny_Call_Name_kw (thn ((pe_var (pos := p1) (i := i) hN hv hd hcd).run pinsZ sZ σZ HZ (fun v H1 => v = .ref f ∧ H1 = HZ) IZ ⟨.ref f, hs, rfl, rfl⟩) fun u s1 ⟨v, H1, I1, r1, q1⟩ => ?_)
  obtain ⟨rfl, eH⟩ := q1
  rw [eH] at I1
  obtain rfl : u = Value.ref f := r1
  have L := ok.names
  have of1 : s1.heap.get? f = some (lamObj X params body scope dV doc pm c' ctv) := (I1.hok f _ hO).1
  refine PySem.W.callWith_F0 ⟨_, _, _, _, of1⟩ ?_
  obtain ⟨⟨oc, vs, t, hoc, hdc, hvc⟩, _, _⟩ := I1.hok c' _ hc
  have rc : codeAny (model X.prog X.w) (AY.deeper (envOfC qg sg sY.heap.objs.size g cdg)) (.call (.ref f) ⟨[], []⟩) (CR (L2.CX X.prog X.w) (envOfC qg sg sY.heap.objs.size g cdg :: stY) X.prog X.w HZ s1 Q (WE W σZ)) s1 := by
    refine PySem.W.kla_callFunE hr.depth of1 rfl L.co L.gen rfl ⟨c', oc, vs, t, rfl, hoc, hdc, hvc⟩ ?_
    have enter : ∀ bs : List (Str × Value), (∀ y ∈ bs, scope.names.lookup y.1 = some .local) → ∀ Q' : Env → Shared → Prop, (∀ h₁ : Heap, h₁.Ns s1.heap.objs.size (fun x => bs.reverse.lookup x) → (∀ b o, s1.heap.get? b = some o → h₁.get? b = some o) → Q' (lamEnv X scope s1.heap.objs.size f c') { s1 with heap := h₁, toks := s1.toks + bs.length }) →
        wpAny (model X.prog X.w) (AY.deeper (envOfC qg sg sY.heap.objs.size g cdg)).in1 (newFunctionEnv scope mainGlobals (cloFrom X.env.cells scope.names []) bs ((X.env.qual ++ "<lambda>") ++ ".<locals>.") (some f) (.ref c') none builtinsNs) Q' (fun e s' => CR (L2.CX X.prog X.w) (envOfC qg sg sY.heap.objs.size g cdg :: stY) X.prog X.w HZ s1 Q (WE W σZ) (.error e) s') s1 := fun bs hbs Q' hq =>
      wpAny_newFunctionEnv (fun y hy => (L.own y hy).1) hbs (fun h₁ hns hsb => hq h₁ hns fun b o e => hsb.extBut b o (Nat.ne_of_lt (Heap.lt_size e)) (Heap.get?_push_of_some _ e)) L.kind
    have goes : ∀ bs : List (Str × Value), (∀ y ∈ bs, scope.names.lookup y.1 = some .local) →
        wpAny (model X.prog X.w) (AY.deeper (envOfC qg sg sY.heap.objs.size g cdg)).in1 (newFunctionEnv scope mainGlobals (cloFrom X.env.cells scope.names []) bs ((X.env.qual ++ "<lambda>") ++ ".<locals>.") (some f) (.ref c') none builtinsNs)
          (fun env s₂ => s₂.heap.NoLimit ∧ codeAny (model X.prog X.w) (AY.deeper (envOfC qg sg sY.heap.objs.size g cdg)) (.expr body env) (CR (L2.CX X.prog X.w) (envOfC qg sg sY.heap.objs.size g cdg :: stY) X.prog X.w HZ s1 Q (WE W σZ)) s₂)
          (fun e s' => CR (L2.CX X.prog X.w) (envOfC qg sg sY.heap.objs.size g cdg :: stY) X.prog X.w HZ s1 Q (WE W σZ) (.error e) s') s1 := fun bs hbs => enter bs hbs _ fun h₁ hns kp => by
      refine ⟨I1.nolimit.keeps kp, ?_⟩
      have J : Inv (lamCx X (AY.deeper (envOfC qg sg sY.heap.objs.size g cdg)) (envOfC qg sg sY.heap.objs.size g cdg :: stY) s1 HZ (WE W σZ) scope f c') [] σ HZ { s1 with heap := h₁, toks := s1.toks + bs.length } := lam_inv I hfn L I1.env0 hr.hd hns kp
      refine PySem.W.kla_codeExpr (wpAny_mono ((ok.run _ _ s1 HZ (WE W σZ) f c' (hr.deeper _)).run [] _ _ HZ Q J ht) (fun v s' hq => ?_) fun e s' hq => hq)
      obtain ⟨w', H', J', rv, q⟩ := hq
      exact ⟨w', H', J'.os, J'.bare, J'.base, J'.hok, rv, q⟩
    cases dflt with
    | false =>
      obtain rfl := hd0 rfl
      rw [show bindArgs (kdv_fn "<lambda>" (X.env.qual ++ "<lambda>") params (.expr body) scope (cloFrom X.env.cells scope.names []) .none doc pm (.ref c') ctv) ⟨[], []⟩ = pure [] from ok.bind0 rfl ..]
      exact wpAny_pure (goes [] fun y hy => absurd hy (by simp))
    | true =>
      obtain ⟨dt, rfl, hdt⟩ := hd1 rfl
      obtain ⟨its, rv, hT, _⟩ := I1.tuple (.inl (.inl hdt))
      obtain ⟨o, ho, _, n, hdat⟩ := hT
      obtain ⟨u0, rfl⟩ : ∃ u0, its = [u0] := by
        cases rv with
        | cons _ q => cases q; exact ⟨_, rfl⟩
      obtain ⟨nm, hnm, hb⟩ := ok.bind1 rfl
      obtain ⟨kk, e1, e2⟩ := hb (X.env.qual ++ "<lambda>") (cloFrom X.env.cells scope.names []) dt doc pm (.ref c') ctv u0
      rw [show bindArgs (kdv_fn "<lambda>" (X.env.qual ++ "<lambda>") params (.expr body) scope (cloFrom X.env.cells scope.names []) (.ref dt) doc pm (.ref c') ctv) ⟨[], []⟩ = _ from e1]
      refine wpAny_bind (wpAny_seqItems ho hdat ?_)
      rw [show (#[u0] : Array Value) = [u0].toArray from rfl] at e2
      rw [e2]
      exact wpAny_pure (goes [(nm, u0)] fun y hy => by rw [List.mem_singleton.mp hy]; exact hnm)
  refine wpAny_call (codeAny_mono rc fun r s' hq => ?_)
  cases r with
  | error e => exact passAt tk σZ pinsZ HZ s1 e s' I1 hq
  | ok fl =>
    cases fl with
    | ret u => exact I1.after hq
    | next => exact False.elim hq
    | brk => exact False.elim hq
    | cont => exact False.elim hq
end
/-! ### the making -/
def dflH (H : Hp) : Option Addr → Hp
  | none => H
  | some dt => upd H dt (.tup [V.int 0])
def codH (P : Addr) (q : Str) (ps : Array Value) (H : Hp) : Option (Pos × Addr) → Hp
  | none => H
  | some g => upd (upd H P (.tbl (ps ++ #[rawInt g.1.line, rawInt g.1.col, .ref g.2]))) g.2 (CodeO g.2 q)
def tLamE (X : Cx) (k : Nat) (P : Addr) (tb : XK → TE) : TE := fun _ H Q => ∃ ps, H P = some (.tbl ps) ∧ TabK H ps (X.env.qual ++ "<lambda>") ∧
  ∀ (d : Option Addr) (g : Option (Pos × Addr)) (f : Addr) (u : HO), (∀ dt, d = some dt → H dt = none) → (∀ g', g = some g' → dflH H d g'.2 = none) → codH P (X.env.qual ++ "<lambda>") ps (dflH H d) g f = none →
    (∀ F1 : Hp, F1 f = some u → (∀ dt, d = some dt → F1 dt = some (.tup [V.int 0])) → (∀ pos c0, codeAmong pos ps.toList = some (.ref c0) → F1 c0 = some (CodeO c0 (X.env.qual ++ "<lambda>"))) → (∀ g', g = some g' → F1 g'.2 = some (CodeO g'.2 (X.env.qual ++ "<lambda>"))) → LamH X k tb F1 f) →
    Q (.ref f) (upd (codH P (X.env.qual ++ "<lambda>") ps (dflH H d) g) f u)
section
variable {X : Cx}
theorem pe_lamE {k : Nat} {tb : XK → TE} {c P : Addr} {params : Arguments} {body : Expr} {scope : Scope} {dflt : Bool} {pos : Pos} (TB : TabB X.base X.mg c P) (hcode : X.env.code = .ref c) (ok : LamOk X k params body scope dflt tb)
    (h0 : dflt = false → defaultsOf params X.env = ([], [])) (h1 : dflt = true → ∃ e, defaultsOf params X.env = ([eval e X.env], []) ∧ PE X e (tC (.int 0))) (hkw : params.kwonlyargs = []) :
    PE X (.Lambda params body scope pos) (tLamE X k P tb) := by
  refine ⟨fun pins s σ H Q I h => ?_⟩
  obtain ⟨ps, hP, ⟨ht, ha⟩, hq⟩ := h
  have made : ∀ (H0 : Hp) (dd : Option Addr) (dV : Value) (s0 : Shared), Inv X pins σ H0 s0 → H0 = dflH H dd → (∀ dt, dd = some dt → H dt = none) → (dflt = false → dV = .none) → (dflt = true → ∃ dt, dV = .ref dt ∧ dd = some dt) →
      wpAny (model X.prog X.w) X.A (makeTail "<lambda>" (X.env.qual ++ "<lambda>") params (.expr body) scope X.env dV .none none pos pos.line) (EP X pins σ Q) X.xe s0 := fun H0 dd dV s0 I0 e0 dn d0 d1 => by
    have up : ∀ b o, H b = some o → H0 b = some o := fun b o e => by
      rw [e0]
      cases dd with
      | none => exact e
      | some dt =>
        show upd H dt (.tup [V.int 0]) b = some o
        rw [upd_ne (ne_of_none e (dn dt rfl))]
        exact e
    have hP0 := up _ _ hP
    have gP : s0.heap.get? P = some (tabObj ps) := I0.hok P _ hP0
    have away : ∀ b, s0.heap.objs.size ≤ b → H0 b = none := fun b hb => I0.hok.fresh hb
    cases hc : codeAmong pos ps.toList with
    | some cv =>
      obtain ⟨c', rfl, hco⟩ := ha pos cv hc
      refine PySem.W.kdv_makeTailHit (mg := X.mg) (c := c) (P := P) (ps := ps) (closure_ok (ok.names.caught I0.ok)) I0.ok.glob (I0.mod.glob.keeps I0.bk) hcode (TB.code.keeps I0.bk) gP ht hc (TB.bm.keeps I0.bk) fun ctv doc h' tk hx hsz => ?_
      have I1 : Inv X pins σ H0 { s0 with heap := h', toks := tk } := I0.kept fun b o e => hx b o e
      have I2 := I1.laid (t' := tk) (a := h'.objs.size) (o := LamO h'.objs.size (lamObj X params body scope dV doc ((X.mg "__name__").getD .none) c' ctv)) (h' := h'.push (lamObj X params body scope dV doc ((X.mg "__name__").getD .none) c' ctv))
        (fun b o e => Heap.get?_push_of_some _ e) (Nat.le_refl _) ⟨Heap.get?_push_size _ rfl, ⟨_, Heap.get?_push_size _ rfl⟩, fun a b p st => st _ p⟩
      have nf : H0 h'.objs.size = none := away _ hsz
      refine ⟨.ref h'.objs.size, _, I2, rfl, ?_⟩
      have := hq dd none h'.objs.size (LamO h'.objs.size (lamObj X params body scope dV doc ((X.mg "__name__").getD .none) c' ctv)) dn (fun g' z => by cases z) (by rw [← e0]; exact nf) fun F1 g1 g2 g3 g4 => ⟨params, body, scope, dflt, c', dV, doc, _, ctv, ok, g1, g3 pos c' hc, d0, fun z => ?_⟩
      · rw [← e0] at this
        exact this
      · obtain ⟨dt, q1, q2⟩ := d1 z
        exact ⟨dt, q1, g2 dt q2⟩
    | none =>
      refine PySem.W.kdv_makeTail (mg := X.mg) (c := c) (P := P) (ps := ps) (closure_ok (ok.names.caught I0.ok)) I0.ok.glob (I0.mod.glob.keeps I0.bk) hcode (TB.code.keeps I0.bk) gP ht hc TB.gP (TB.bm.keeps I0.bk) fun c' ctv doc h' tk hx hge hlt hrec htb => ?_
      obtain ⟨c2, oc, vs, t, e2, hoc, hd, hv⟩ := hrec
      cases e2
      have nC : H0 c' = none := away _ hge
      have I1 := inv_table (t' := tk) (more := #[rawInt pos.line, rawInt pos.col, .ref c']) (h' := h') I0 hP0 (fun b o hb e => hx b o hb e) htb hge ⟨oc, vs, t, hoc, hd, hv⟩
      have I2 := I1.laid (t' := tk) (a := h'.objs.size) (o := LamO h'.objs.size (lamObj X params body scope dV doc ((X.mg "__name__").getD .none) c' ctv)) (h' := h'.push (lamObj X params body scope dV doc ((X.mg "__name__").getD .none) c' ctv))
        (fun b o e => Heap.get?_push_of_some _ e) (Nat.le_refl _) ⟨Heap.get?_push_size _ rfl, ⟨_, Heap.get?_push_size _ rfl⟩, fun a b p st => st _ p⟩
      have fP : h'.objs.size ≠ P := fun z => by
        have := Heap.lt_size htb
        rw [z] at this
        exact Nat.lt_irrefl _ this
      have fC : h'.objs.size ≠ c' := Nat.ne_of_gt hlt
      have nf0 : H0 h'.objs.size = none := by
        cases e : H0 h'.objs.size with
        | none => rfl
        | some u =>
          have := I0.hok.lt e
          exact absurd (Nat.lt_trans (Nat.lt_of_lt_of_le this hge) hlt) (Nat.lt_irrefl _)
      have nf : upd (upd H0 P (.tbl (ps ++ #[rawInt pos.line, rawInt pos.col, .ref c']))) c' (CodeO c' (X.env.qual ++ "<lambda>")) h'.objs.size = none := by
        rw [upd_ne fC, upd_ne fP]
        exact nf0
      refine ⟨.ref h'.objs.size, _, I2, rfl, ?_⟩
      have := hq dd (some (pos, c')) h'.objs.size (LamO h'.objs.size (lamObj X params body scope dV doc ((X.mg "__name__").getD .none) c' ctv)) dn (fun g' z => by cases z; rw [← e0]; exact nC) (by rw [← e0]; exact nf) fun F1 g1 g2 g3 g4 => ⟨params, body, scope, dflt, c', dV, doc, _, ctv, ok, g1, g4 _ rfl, d0, fun z => ?_⟩
      · rw [← e0] at this
        exact this
      · obtain ⟨dt, q1, q2⟩ := d1 z
        exact ⟨dt, q1, g2 dt q2⟩
  rw [arm_eval_Lambda]
  cases hdf : dflt with
  | false =>
    rw [h0 hdf]
    refine wpAny_bind (wpAny_evalAll_nil (wpAny_bind (wpAny_holding (wpAny_pure ?_))))
    rw [makeFunction_eq, hkw]
    exact made H none .none s I rfl (fun dt z => by cases z) (fun _ => rfl) fun z => by rw [hdf] at z; cases z
  | true =>
    obtain ⟨e, hde, he⟩ := h1 hdf
    rw [hde]
    refine wpAny_bind (wpAny_evalAll_cons (thn (he.run pins s σ H (fun v H1 => v = .int 0 ∧ H1 = H) I ⟨rfl, rfl⟩) fun v s1 ⟨x, H1, I1, r1, q1⟩ => ?_))
    obtain ⟨rfl, eH⟩ := q1
    rw [eH] at I1
    refine wpAny_evalAll_nil (wpAny_bind (wpAny_holding (wpAny_pure ?_)))
    rw [makeFunction_eq, hkw]
    refine wpAny_bind (wpAny_newTextTuple ?_)
    have I2 := I1.laid (t' := s1.toks) (a := s1.heap.objs.size) (o := .tup [V.int 0]) (h' := s1.heap.push { cls := .type "tuple", data := .seq [v].toArray }) (fun b o e => Heap.get?_push_of_some _ e) (Nat.le_refl _) ⟨by rw [sizeLine_eq]; decide, [v], .cons r1 .nil, IsTup.new _ _⟩
    exact made _ (some s1.heap.objs.size) _ _ I2 rfl (fun dt z => by cases z; exact I1.hok.fresh (Nat.le_refl _)) (fun z => by rw [hdf] at z; cases z) fun _ => ⟨_, rfl, rfl⟩
/-! ### a call of a def that runs over the snapshot -/
def tCallR (sp : L2.St → Sp) (E : XK) (ta : TA) : TE := fun σ H Q => ta σ H fun vs H1 => sp σ vs H1 Q E
variable {CX : CXT} {x : Str} {k : Nat} {g : Addr} {fd : FuncData} {ps : List Str} {sp : L2.St → Sp} {E : XK} {e : Expr} {es : List Expr} {t : TA} {p pos : Pos}
theorem pe_callR (F : ∀ pins σ H s, Inv X pins σ H s → FnOk X.prog X.w X.K X.mg (snap s H (frs X.stack)) CX k g fd ps (sp σ)) (hr : Room k X.A) (hg : Gl X x) (hm : X.mg x = some (.ref g)) (hk : PySem.W.keepIn X.K (.ref g) = true) (hb : Binds X.K fd ps []) (hx : Passes CX X E)
    (ha : PA X (e :: es) t) (hdb : (x == ("__debug__" : Str)) = false := by decide) (he : starEach (e :: es) X.env = (false, eval e X.env) :: starEach es X.env := by rfl) (hpl : (backTo pos (starEach es X.env)).any (·.1) = false := by rfl) :
    PE X (.Call (.Name x p) (e :: es) [] pos) (tCallR sp E t) := by
  refine ⟨fun pins s σ H Q I h => ?_⟩
  refine wpAny_Call_Name_kw (ld_glob I hg hm ?_ hdb)
  refine PySem.W.callWith_K (h₀ := X.base) I.ok.mod.kin hk (thn (ha.run pos pins s σ H _ I h) fun us s1 ⟨vs, H1, I1, r, q⟩ => ⟨I1.kIn, ?_⟩) he hpl
  have G := F pins σ H1 s1 I1
  have hl : us.length = ps.length := by rw [← r.length]; exact G.len _ _ _ _ q
  have b := hb s1 us I1.kIn (by rw [List.append_nil]; exact hl)
  rw [List.append_nil] at b
  refine wpAny_call (codeAny_mono (G.run X.A X.stack s1 H1 ⟨us, []⟩ us vs Q E hr (env0_snap I1) b r q) fun res s' hq => ?_)
  cases res with
  | error er => exact hx pins σ H1 s1 er s' I1 hq
  | ok fl =>
    cases fl with
    | ret u => exact I1.after hq
    | next => exact False.elim hq
    | brk => exact False.elim hq
    | cont => exact False.elim hq
end
end LamZ

set_option Elab.async false
set_option linter.all false
set_option maxRecDepth 100000
set_option maxHeartbeats 4000000
/-! lambdas in lists, told in data -/
namespace LamZ
open PySem PySem.Spec PySem.W PyProof.Rows L2 LamX LamY
/-- a context with another base, other rooms, other frames -/
def xcx (X : Cx) (base : Heap) (A : Around) (stack : List Env) : Cx := { X with base := base, A := A, stack := stack }
end LamZ
namespace AL
open PySem PySem.Spec PyProof.Rows L2 LamX LamY LamZ
section
variable {Γ : Cg} {F : Hp} {ms : Ms} {S : Sg} {Q : QE} {ta : TA}
theorem ae_lamE {X : Cx} {k : Nat} {P : Addr} {tb : XK → TE} {n : Nat} (hT : TabA F ms n P (X.env.qual ++ "<lambda>"))
    (h : ∀ F1 ms1 f, Ex F F1 → TabA F1 ms1 n P (X.env.qual ++ "<lambda>") → (∃ ps', ms1 = ms.set n (P, .raw (.tbl ps'))) → LamH X k tb F1 f → Q F1 ms1 (.ref f)) : AE Γ (tLamE X k P tb) F ms S Q := fun R σ H Qc hs hh x kk => by
  obtain ⟨ps, hn, ht, ha⟩ := hT
  have hP : H P = some (.tbl ps) := (hh.at (get_app hn)).2
  refine ⟨ps, hP, ⟨ht, fun pos cv hc => by obtain ⟨c, h1, h2⟩ := ha pos cv hc; exact ⟨c, h1, hh.ex _ _ h2⟩⟩, fun d g f u dn gn fn mk => ?_⟩
  obtain ⟨F0, e0, h0, hd0⟩ : ∃ F0, Ex F F0 ∧ Hold Γ.K F0 (ms ++ R) (dflH H d) ∧ ∀ dt, d = some dt → F0 dt = some (.tup [V.int 0]) := by
    cases d with
    | none => exact ⟨F, Ex.refl, hh, fun dt z => by cases z⟩
    | some dt =>
      obtain ⟨e, h'⟩ := hh.laid (p := dt) (.tup [V.int 0]) (dn dt rfl)
      exact ⟨_, e, h', fun dt' z => by cases z; exact upd_same⟩
  have hP0 : dflH H d P = some (.tbl ps) := (h0.at (get_app hn)).2
  obtain ⟨F1, ms1, e1, h1, hms, hT1, hc1⟩ : ∃ F1 ms1, Ex F0 F1 ∧ Hold Γ.K F1 (ms1 ++ R) (codH P (X.env.qual ++ "<lambda>") ps (dflH H d) g) ∧ (∃ ps', ms1 = ms.set n (P, .raw (.tbl ps'))) ∧ TabA F1 ms1 n P (X.env.qual ++ "<lambda>") ∧
      ∀ g', g = some g' → F1 g'.2 = some (CodeO g'.2 (X.env.qual ++ "<lambda>")) := by
    cases g with
    | none => exact ⟨F0, ms, Ex.refl, h0, ⟨ps, (set_same hn).symm⟩, ⟨ps, hn, ht, fun pos cv hc => by obtain ⟨c, q1, q2⟩ := ha pos cv hc; exact ⟨c, q1, e0 _ _ q2⟩⟩, fun g' z => by cases z⟩
    | some g' =>
      obtain ⟨pos, c'⟩ := g'
      have hc' := gn _ rfl
      have nP : c' ≠ P := fun z => by rw [z, hP0] at hc'; cases hc'
      have h2 := h0.set (m' := .raw (.tbl (ps ++ #[rawInt pos.line, rawInt pos.col, .ref c']))) (o := .tbl (ps ++ #[rawInt pos.line, rawInt pos.col, .ref c'])) (get_app hn) upd_same
      rw [set_app hn] at h2
      obtain ⟨e1, h3⟩ := h2.laid (p := c') (CodeO c' (X.env.qual ++ "<lambda>")) (by rw [upd_ne nP]; exact hc')
      have eL : (ps ++ #[rawInt pos.line, rawInt pos.col, .ref c']).toList = ps.toList ++ [rawInt pos.line, rawInt pos.col, .ref c'] := by simp
      refine ⟨_, _, e1, h3, ⟨_, rfl⟩, ⟨_, set_get (List.getElem?_eq_some_iff.mp hn).1, by rw [eL]; exact PySem.TriplesOk_snoc _ _ _ _ ht, fun p' cv hcv => ?_⟩, fun g' z => by cases z; exact upd_same⟩
      rw [eL] at hcv
      rcases among_app _ ht hcv with z | z
      · obtain ⟨c0, q1, q2⟩ := ha p' cv z
        exact ⟨c0, q1, e1 _ _ (e0 _ _ q2)⟩
      · exact ⟨c', z, upd_same⟩
  obtain ⟨e2, h2⟩ := h1.laid (p := f) u fn
  have hL : LamH X k tb (upd F1 f u) f := mk _ upd_same (fun dt z => e2 _ _ (e1 _ _ (hd0 dt z))) (fun pos c0 hc => by
    obtain ⟨c1, q1, q2⟩ := ha pos _ hc
    cases q1
    exact e2 _ _ (e1 _ _ (e0 _ _ q2))) fun g' z => e2 _ _ (hc1 g' z)
  exact kk _ ms1 (.ref f) _ _ ((e0.trans e1).trans e2) h2 (.ref f) (h _ ms1 f ((e0.trans e1).trans e2) (hT1.ex e2) hms hL)
theorem ae_callR {asp : L2.St → ASp} (h : AA Γ ta F ms S fun F1 ms1 ds => ∀ σ, SRep Γ.K F1 S σ → asp σ ds F1 ms1 Q Γ.Ea) : AE Γ (tCallR (fun σ => toSp Γ.K (asp σ)) Γ.E ta) F ms S Q := fun R σ H Qc hs hh x k =>
  h R σ H _ hs hh x fun F1 ms1 ds vs H1 e1 h1 r1 q1 => ⟨F1, ms1, R, ds, Q, Γ.Ea, h1, r1, q1 σ (hs.mono e1), fun F' ms' d v H' e => k F' ms' d v H' (e1.trans e), x.ex e1⟩
end
/-- a def that calls what it got and tells the error: its promise for lambdas kept in a list -/
def spErr (K : Frg) (X : Cx) (k : Nat) (RR : Addr → List (Str × D) → D → Prop) (σ : L2.St) : ASp := fun ds F ms Q _ => ∃ (f : Addr) (tb : XK → TE) (S : Sg), ds = [.ref f] ∧ LamH X k tb F f ∧ SRep K F S σ ∧
  ∀ E : XK, AE ⟨K, E, fun C' fs F' ms' => ∃ res, RR C' fs res ∧ ∀ F2, Ex F' F2 → Q F2 ms' res⟩ (tb E) F ms S fun F' ms' _ => ∀ F2, Ex F' F2 → Q F2 ms' .non
/-- all of them raise the expected error -/
def spAll (K : Frg) (X : Cx) (k : Nat) (RR : Addr → List (Str × D) → D → Prop) (σ : L2.St) : ASp := fun ds F ms Q _ => ∃ (d ex : D) (fs : List Addr) (J : Hp → Ms → Prop), ds = [d, ex] ∧ fs.length ≤ 100 ∧ okD ex = true ∧ dep ex ≤ 8 ∧ (∀ F' ms', Ex F F' → J F' ms' → LstA F' ms' d (fs.map D.ref)) ∧
  J F ms ∧ (∀ F' F2 ms', Ex F F' → Ex F' F2 → J F' ms' → J F2 ms') ∧ (∀ f ∈ fs, ∀ F' ms', Ex F F' → J F' ms' → spErr K X k RR σ [.ref f] F' ms' (fun F2 ms2 d2 => d2 = ex ∧ J F2 ms2) fun _ _ _ _ => False) ∧ ∀ F' ms', Ex F F' → J F' ms' → Q F' ms' (.bl true)
section
variable {X : Cx} {pins : List (Addr × Obj)} {σ : L2.St} {H : Hp} {s : Shared} {K : Frg}
theorem err_fn {Ng : List Str} {x a : Str} {st : Stmt} {g : Addr} {fd : FuncData} {k : Nat} {RR : Addr → List (Str × D) → D → Prop} (hK : X.K = K) (I : Inv X pins σ H s) (hfn : ∀ x, X.fn x = true) (Fn : Fun X.K x x st g fd) (Sc : FnScope Ng [a] (defScope st)) (hNg : Ng[0]? = some a) (hva : Vis (defScope st) a)
    (hG : ∀ (A : Around) (outer : List Env) (cdv : Value), Gives3 (xcx X (snap s H (frs X.stack)) A outer) Ng x (defScope st) g cdv (defBody st) a (X.env.qual ++ "<lambda>") (TTX K RR) k)
    (hd : (a == ("__debug__" : Str)) = false := by decide) (hcd : (a == ("__classdict__" : Str)) = false := by decide) :
    FnOk X.prog X.w X.K X.mg (snap s H (frs X.stack)) L2.CX0 (k + 2) g fd [a] (toSp K (spErr K X k RR σ)) := by
  subst hK
  obtain ⟨⟨oc, od, kV, doc, pm, an, cdv, ct, osl, rfl, lk, hcd0⟩, kp⟩ := Fn
  refine fn_of lk hcd0 Sc (fun vs H' Q E h => ?_) fun A outer s' H' vs Q E hr hsp => ?_
  · obtain ⟨F0, ms, R, ds, Qa, Ea, h1, h2, ⟨f, tb, S, rfl, _⟩, _⟩ := h
    exact h2.len.symm
  · obtain ⟨F, ms, R, ds, Qa, Ea, h1, h2, ⟨f, tb, S, rfl, hL, hS, hA⟩, h4, h5⟩ := hsp
    have hL1 : LamH X k tb H' f := hL.ex h1.ex
    obtain ⟨params, body, scope, dflt, c', dV, doc', pm', ctv, ok, hO, hc, p4, p5⟩ := id hL1
    cases h2 with
    | cons ra rb =>
      cases rb
      cases ra
      have G := hG A outer cdv f c' s' H' Q (fun E H2 Q' => LamH X k tb H2 f ∧ tb E σ H2 Q') hr (fun W pn xe p1 p2 tk => ⟨fun pz sz σz Hz Qz Iz hz => (act_deep (CXg := L2.CX0) (Eg := L2.E0) (pn := pn) (f := f) (i := 0) (p1 := p1) (p2 := p2) I hfn tk hr hNg hva hd hcd).run pz sz σz Hz Qz Iz ⟨hz.1, hz.2.2.1, hz.2.2.2⟩⟩) hc ?_
      · obtain ⟨t, ht, hq⟩ := G
        exact ⟨t, ht.nox, hq⟩
      · refine ⟨F, ms ++ R, h1, fun E2 Q' hE hN => ⟨hL1, hA E2 R σ H' _ hS h1 (fun F' ms' C' dx fs H2 e' hh' xd ⟨res, hR, q⟩ => ?_) fun F' ms' d v H2 e' hh' rv q => ?_⟩⟩
        · exact hE H2 F' (ms' ++ R) C' dx fs res e' hh' xd hR fun F2 v H3 e2 h3 r => h4 F2 ms' res v H3 (e'.trans e2) h3 r (q F2 e2)
        · exact hN H2 F' (ms' ++ R) v e' hh' fun F2 v H3 e2 h3 r => h4 F2 ms' .non v H3 (e'.trans e2) h3 r (q F2 e2)
end
end AL

set_option Elab.async false
set_option linter.all false
set_option maxRecDepth 100000
set_option maxHeartbeats 4000000
/-! the rest of a def is never reached; generator defs that raise -/
namespace L2
open PySem PySem.Spec PyProof.Rows GenW
theorem gss_never {X : Cx} {st : List Stmt} : GSs X st (fun _ _ _ _ => False) := ⟨fun _ _ _ _ _ _ _ _ _ _ _ _ _ _ _ _ _ _ _ _ _ h => h.elim⟩
/-- what a list() of a generator may let go out: no StopIteration -/
def nsE (K : PySem.W.Frag) (E : XK) : XK := fun cls d H => PySem.W.subIn K cls (.type "StopIteration") = some false ∧ E cls d H
theorem nsE_no {K : PySem.W.Frag} {E : XK} : NoStop K (nsE K E) := fun _ _ _ h => h.1
end L2
namespace AL
open PySem L2
abbrev AGpX := List D → Hp → Ms → (Hp → Ms → List D → Prop) → XA → Prop
def toSpGX (K : Frg) (sp : AGpX) : SpG := fun vs H Q E => ∃ F ms R ds Qa Ea, Hold K F (ms ++ R) H ∧ RepL K F ds vs ∧ sp ds F ms Qa Ea ∧ (∀ F' ms' ys vs' H', Ex F F' → Hold K F' (ms' ++ R) H' → RepL K F' ys vs' → Qa F' ms' ys → Q vs' H') ∧ XLe ⟨K, E, Ea⟩ R F
section
variable {Γ : Cg} {K : Frg} {F : Hp} {ms : Ms} {S : Sg} {ta : TA} {Q : QE}
/-- list(f(..)) of a generator def that may raise -/
theorem ae_listGX {sp : AGpX} (h : AA Γ ta F ms S fun F1 ms1 ds => sp ds F1 ms1 (fun F' ms' ys => ∀ F2, Ex F' F2 → Q F2 ms' (.lst ys)) fun C fs F' ms' => PySem.W.subIn Γ.K (.ref C) (.type "StopIteration") = some false ∧ Γ.Ea C fs F' ms') : AE Γ (tListG (tCallG (toSpGX Γ.K sp) [] (nsE Γ.K Γ.E) ta)) F ms S Q := fun R σ H Qc hs hh x k =>
  h R σ H _ hs hh x fun F1 ms1 ds vs H1 e1 h1 r1 q1 => by
    show toSpGX Γ.K sp (vs ++ []) H1 _ (nsE Γ.K Γ.E)
    rw [List.append_nil]
    exact ⟨F1, ms1, R, ds, _, _, h1, r1, q1, fun F' ms' ys vs' H' e ho hr q p hp => by
      obtain ⟨e2, h2⟩ := ho.laid (.lst vs') hp
      exact k _ ms' (.lst ys) _ _ ((e1.trans e).trans e2) h2 (.lst upd_same (hr.mono e2)) (q _ e2), fun F' ms' C dx fs H' e hh' xd ⟨z1, z2⟩ => ⟨z1, x F' ms' C dx fs H' (e1.trans e) hh' xd z2⟩⟩
end
theorem AE.monoX {K : Frg} {E : XK} {Ea Ea' : XA} {te : TE} {F : Hp} {ms : Ms} {S : Sg} {Q Q' : QE} (h : AE ⟨K, E, Ea⟩ te F ms S Q) (mE : ∀ C fs F' ms', Ex F F' → Ea C fs F' ms' → Ea' C fs F' ms') (mQ : ∀ F' ms' d, Ex F F' → Q F' ms' d → Q' F' ms' d) : AE ⟨K, E, Ea'⟩ te F ms S Q' := fun R σ H Qc hs hh x k =>
  h R σ H Qc hs hh (fun F' ms' C dx fs H' e hh' xd q => x F' ms' C dx fs H' e hh' xd (mE C fs F' ms' e q)) fun F' ms' d v H' e ho hr q => k F' ms' d v H' e ho hr (mQ F' ms' d e q)
theorem spErr_mono {K : Frg} {X : Cx} {k : Nat} {RR : Addr → List (Str × D) → D → Prop} {σ : L2.St} {ds : List D} {F : Hp} {ms : Ms} {Q Q' : QE} {Ea Ea' : XA} (h : spErr K X k RR σ ds F ms Q Ea) (m : ∀ F' ms' d, Ex F F' → Q F' ms' d → Q' F' ms' d) : spErr K X k RR σ ds F ms Q' Ea' := by
  obtain ⟨f, tb, S, h1, h2, h3, h4⟩ := h
  exact ⟨f, tb, S, h1, h2, h3, fun E => AE.monoX (h4 E) (fun C fs F' ms' e ⟨res, hR, q⟩ => ⟨res, hR, fun F2 e2 => m F2 ms' res (e.trans e2) (q F2 e2)⟩) fun F' ms' d e q F2 e2 => m F2 ms' .non (e.trans e2) (q F2 e2)⟩
section
variable {P : Program} {w : World} {K : Frg} {mg : Str → Option Value} {base : Heap}
/-- a generator def that may raise -/
theorem gfn_okX {x qual : Str} {st : Stmt} {f : Addr} {fd : FuncData} {N ps : List Str} {k : Nat} {sp : AGpX} (Fn : Fun K x qual st f fd) (Sc : GScope N ps (defScope st)) (len : ∀ ds F ms Q E, sp ds F ms Q E → ds.length = ps.length)
    (hbody : ∀ (cdv : Value) (A : Around) (outer : List Env) (s : Shared) (H : Hp) (E : XK) (pn : List (Addr × Obj)), Room k (A.deeper (PyProof.Rows.envOfC qual (defScope st) s.heap.objs.size f cdv)) → ∃ t, GSs (gcxOf P w K mg base N qual (defScope st) f cdv A outer s H E pn) (defBody st) t ∧
      ∀ ds F ms Q Ea, sp ds F ms Q Ea → AY ⟨K, E, Ea⟩ t F ms [] (startS N ds) { nx := fun F' ms' ys _ => Q F' ms' ys, rt := fun F' ms' ys => Q F' ms' ys }) : GFn P w K mg base (k + 1) f fd ps (toSpGX K sp) := by
  obtain ⟨oc, od, kV, doc, pm, an, cdv, ct, osl, rfl, lk, hcd⟩ := Fn.ex
  refine gfn_of lk hcd Sc (fun vs H Q E h => ?_) (fun A outer s H vs Q E pn hr h => ?_)
  · obtain ⟨F0, ms, R, ds, Qa, Ea, h1, h2, h3, _⟩ := h
    rw [← h2.len]
    exact len _ _ _ _ _ h3
  · obtain ⟨F0, ms, R, ds, Qa, Ea, h1, h2, h3, h4, h5⟩ := h
    obtain ⟨t, ht, q⟩ := hbody cdv A outer s H E pn hr
    refine ⟨t, ht, q ds F0 ms Qa Ea h3 R _ _ H [] (start_rep h2) h1 .nil ⟨h5, fun F' ms' ys' S' vs' σ' H' e a b r q' => h4 F' ms' ys' vs' H' e b r q', fun F' ms' ys' vs' H' e b r q' => ⟨rfl, h4 F' ms' ys' vs' H' e b r q'⟩, fun _ _ _ _ _ _ _ _ _ _ _ z => z.elim, fun _ _ _ _ _ _ _ _ _ _ _ z => z.elim⟩⟩
/-- a def with defaults that may raise -/
theorem fn_okDX {x qual : Str} {st : Stmt} {f : Addr} {fd : FuncData} {N ps : List Str} {dvs : List V} {kws : List (Str × V)} {k : Nat} {sp : ASp} (F : FunD K x qual (defArgs st) (defBody st) (defScope st) dvs kws f fd) (Sc : FnScope N ps (defScope st)) (len : ∀ ds F ms Q E, sp ds F ms Q E → ds.length = ps.length)
    (hbody : ∀ (cdv : Value) (A : Around) (outer : List Env) (s : Shared) (H : Hp) (E : XK), Room k (A.deeper (PyProof.Rows.envOfC qual (defScope st) s.heap.objs.size f cdv)) → ∃ t, PSs (cxOf (L2.CX P w) P w K mg base N qual (defScope st) f cdv A outer s H E) (defBody st) t ∧
      ∀ ds F ms Q Ea, sp ds F ms Q Ea → AS ⟨K, E, Ea⟩ t F ms (startS N ds) { nx := fun F' ms' _ => Q F' ms' .non, rt := Q }) : FnOk P w K mg base (L2.CX P w) (k + 1) f fd ps (toSp K sp) := by
  refine F.ok Sc (fun vs H Q E h => ?_) (fun cdv A outer s H vs Q E hr h => ?_)
  · obtain ⟨F0, ms, R, ds, Qa, Ea, h1, h2, h3, _⟩ := h
    rw [← h2.len]
    exact len _ _ _ _ _ h3
  · obtain ⟨F0, ms, R, ds, Qa, Ea, h1, h2, h3, h4, h5⟩ := h
    obtain ⟨t, ht, q⟩ := hbody cdv A outer s H E hr
    exact ⟨t, ht, q ds F0 ms Qa Ea h3 R _ _ H (start_rep h2) h1 ⟨h5, fun F' ms' S' σ' H' e a b q' => h4 F' ms' .non .non H' e b .non q', fun F' ms' d v H' e b r q' => h4 F' ms' d v H' e b r q', fun _ _ _ _ _ _ _ _ z => z.elim, fun _ _ _ _ _ _ _ _ z => z.elim⟩⟩
end
end AL

set_option Elab.async false
set_option linter.all false
set_option maxRecDepth 100000
set_option maxHeartbeats 4000000
namespace K14
open PySem L2 PyProof.Rows AL
def top (i : Nat) : Stmt := PySem.Challenge.pw_marqueeletters_k14_invalid_texts_and_off.main.body.getD i (.Pass ⟨0, 0, 0, 0⟩)
abbrev s_is_int_in : Stmt := top 24
abbrev s_is_pair : Stmt := top 25
abbrev s_Sign___init__ : Stmt := inClass (top 26) 0
abbrev s_Sign_blank : Stmt := inClass (top 26) 2
abbrev s_Sign_piece : Stmt := inClass (top 26) 3
abbrev s_Sign_row_of : Stmt := inClass (top 26) 5
abbrev s_Sign_is_text : Stmt := inClass (top 26) 7
abbrev s_Sign_check_texts : Stmt := inClass (top 26) 8
abbrev s_links : Stmt := top 28
abbrev s_surplus : Stmt := top 29
abbrev s_groups : Stmt := top 30
abbrev s_shares : Stmt := top 31
abbrev s_is_closed : Stmt := top 32
abbrev s_cost : Stmt := top 33
abbrev s_check_offsets : Stmt := top 38
abbrev s_add : Stmt := top 39
abbrev s_fixed_cost : Stmt := top 40
abbrev s_season_cost : Stmt := top 43
abbrev s_count_best : Stmt := top 44
abbrev s_best_offsets : Stmt := top 45
abbrev s_needed_letters : Stmt := top 47
abbrev s_missing_letters : Stmt := top 48
abbrev s_best_order : Stmt := top 49
abbrev s_needless_pairs : Stmt := top 51
abbrev s_Watcher___init__ : Stmt := inClass (top 61) 0
abbrev s_format_season : Stmt := top 58
abbrev s_encode : Stmt := top 59
abbrev s_InvalidText___init__ : Stmt := inClass (top 5) 0
abbrev s_InvalidOffset___init__ : Stmt := inClass (top 6) 0
abbrev s__law_random : Stmt := top 63
abbrev s__law_below : Stmt := top 64
abbrev s__law_text : Stmt := top 65
abbrev s__law_texts : Stmt := top 66
abbrev s__law_error_of : Stmt := top 67
abbrev s__law_all_raise : Stmt := top 68
abbrev s_law : Stmt := top 69
abbrev N_is_int_in : List Str := ["value", "low", "high"]
theorem sc_is_int_in : FnScope N_is_int_in ["value", "low", "high"] (defScope s_is_int_in) := ⟨rfl, rfl, rfl, by decide +kernel, rfl, by decide +kernel, by decide +kernel⟩
abbrev N_is_pair : List Str := ["value"]
theorem sc_is_pair : FnScope N_is_pair ["value"] (defScope s_is_pair) := ⟨rfl, rfl, rfl, by decide +kernel, rfl, by decide +kernel, by decide +kernel⟩
abbrev N_Sign___init__ : List Str := ["self", "width", "pairs", "index", "pair"]
theorem sc_Sign___init__ : FnScope N_Sign___init__ ["self", "width", "pairs"] (defScope s_Sign___init__) := ⟨rfl, rfl, rfl, by decide +kernel, rfl, by decide +kernel, by decide +kernel⟩
abbrev N_Sign_blank : List Str := ["self"]
theorem sc_Sign_blank : FnScope N_Sign_blank ["self"] (defScope s_Sign_blank) := ⟨rfl, rfl, rfl, by decide +kernel, rfl, by decide +kernel, by decide +kernel⟩
abbrev N_Sign_piece : List Str := ["self", "letter"]
theorem sc_Sign_piece : FnScope N_Sign_piece ["self", "letter"] (defScope s_Sign_piece) := ⟨rfl, rfl, rfl, by decide +kernel, rfl, by decide +kernel, by decide +kernel⟩
abbrev N_Sign_row_of : List Str := ["self", "text", "offset"]
theorem sc_Sign_row_of : FnScope N_Sign_row_of ["self", "text", "offset"] (defScope s_Sign_row_of) := ⟨rfl, rfl, rfl, by decide +kernel, rfl, by decide +kernel, by decide +kernel⟩
abbrev N_Sign_is_text : List Str := ["self", "value", "letter"]
theorem sc_Sign_is_text : FnScope N_Sign_is_text ["self", "value"] (defScope s_Sign_is_text) := ⟨rfl, rfl, rfl, by decide +kernel, rfl, by decide +kernel, by decide +kernel⟩
abbrev N_Sign_check_texts : List Str := ["self", "texts", "index", "text"]
theorem sc_Sign_check_texts : FnScope N_Sign_check_texts ["self", "texts"] (defScope s_Sign_check_texts) := ⟨rfl, rfl, rfl, by decide +kernel, rfl, by decide +kernel, by decide +kernel⟩
abbrev N_links : List Str := ["sign", "before", "after", "found", "place", "old", "new"]
theorem sc_links : FnScope N_links ["sign", "before", "after"] (defScope s_links) := ⟨rfl, rfl, rfl, by decide +kernel, rfl, by decide +kernel, by decide +kernel⟩
abbrev N_surplus : List Str := ["changed", "counts", "place", "old", "new", "piece", "count"]
theorem sc_surplus : FnScope N_surplus ["changed"] (defScope s_surplus) := ⟨rfl, rfl, rfl, by decide +kernel, rfl, by decide +kernel, by decide +kernel⟩
abbrev N_groups : List Str := ["changed", "found", "link", "together", "others", "group"]
theorem sc_groups : FnScope N_groups ["changed"] (defScope s_groups) := ⟨rfl, rfl, rfl, by decide +kernel, rfl, by decide +kernel, by decide +kernel⟩
abbrev N_shares : List Str := ["group", "link", "pieces", "place", "old", "new", "piece"]
theorem sc_shares : FnScope N_shares ["group", "link"] (defScope s_shares) := ⟨rfl, rfl, rfl, by decide +kernel, rfl, by decide +kernel, by decide +kernel⟩
abbrev N_is_closed : List Str := ["group", "place", "old", "new"]
theorem sc_is_closed : FnScope N_is_closed ["group"] (defScope s_is_closed) := ⟨rfl, rfl, rfl, by decide +kernel, rfl, by decide +kernel, by decide +kernel⟩
abbrev N_cost : List Str := ["sign", "before", "after", "changed", "filled", "place", "old", "new", "closed", "group", "turned"]
theorem sc_cost : FnScope N_cost ["sign", "before", "after"] (defScope s_cost) := ⟨rfl, rfl, rfl, by decide +kernel, rfl, by decide +kernel, by decide +kernel⟩
abbrev N_check_offsets : List Str := ["sign", "texts", "offsets", "index", "offset"]
theorem sc_check_offsets : FnScope N_check_offsets ["sign", "texts", "offsets"] (defScope s_check_offsets) := ⟨rfl, rfl, rfl, by decide +kernel, rfl, by decide +kernel, by decide +kernel⟩
abbrev N_add : List Str := ["one", "other"]
theorem sc_add : FnScope N_add ["one", "other"] (defScope s_add) := ⟨rfl, rfl, rfl, by decide +kernel, rfl, by decide +kernel, by decide +kernel⟩
abbrev N_fixed_cost : List Str := ["sign", "texts", "offsets", "total", "row", "text", "offset", "shown"]
theorem sc_fixed_cost : FnScope N_fixed_cost ["sign", "texts", "offsets"] (defScope s_fixed_cost) := ⟨rfl, rfl, rfl, by decide +kernel, rfl, by decide +kernel, by decide +kernel⟩
abbrev N_season_cost : List Str := ["sign", "texts"]
theorem sc_season_cost : FnScope N_season_cost ["sign", "texts"] (defScope s_season_cost) := ⟨rfl, rfl, rfl, by decide +kernel, rfl, by decide +kernel, by decide +kernel⟩
abbrev N_count_best : List Str := ["sign", "texts"]
theorem sc_count_best : FnScope N_count_best ["sign", "texts"] (defScope s_count_best) := ⟨rfl, rfl, rfl, by decide +kernel, rfl, by decide +kernel, by decide +kernel⟩
abbrev N_best_offsets : List Str := ["sign", "texts", "layers", "total", "chosen", "text", "layer", "longer", "offsets", "row", "rest", "offset", "later", "count", "shown"]
theorem sc_best_offsets : GScope N_best_offsets ["sign", "texts"] (defScope s_best_offsets) := ⟨rfl, rfl, rfl, by decide +kernel, rfl, by decide +kernel, by decide +kernel⟩
abbrev N_needed_letters : List Str := ["sign", "texts", "most", "text", "piece", "count"]
theorem sc_needed_letters : FnScope N_needed_letters ["sign", "texts"] (defScope s_needed_letters) := ⟨rfl, rfl, rfl, by decide +kernel, rfl, by decide +kernel, by decide +kernel⟩
abbrev N_missing_letters : List Str := ["sign", "texts", "stock", "needed", "have", "letter", "count", "piece"]
theorem sc_missing_letters : FnScope N_missing_letters ["sign", "texts", "stock"] (defScope s_missing_letters) := ⟨rfl, rfl, rfl, by decide +kernel, rfl, by decide +kernel, by decide +kernel⟩
abbrev N_best_order : List Str := ["sign", "texts", "nodes", "number", "text", "offset", "rows", "node", "steps", "one", "two", "states", "size"]
theorem sc_best_order : FnScope N_best_order ["sign", "texts"] (defScope s_best_order) := ⟨rfl, rfl, rfl, by decide +kernel, rfl, by decide +kernel, by decide +kernel⟩
abbrev N_needless_pairs : List Str := ["sign", "texts", "least", "found", "pair", "rest", "other"]
theorem sc_needless_pairs : FnScope N_needless_pairs ["sign", "texts"] (defScope s_needless_pairs) := ⟨rfl, rfl, rfl, by decide +kernel, rfl, by decide +kernel, by decide +kernel⟩
abbrev N_Watcher___init__ : List Str := ["self", "sign", "texts", "rows", "text", "after", "before"]
theorem sc_Watcher___init__ : FnScope N_Watcher___init__ ["self", "sign", "texts"] (defScope s_Watcher___init__) := ⟨rfl, rfl, rfl, by decide +kernel, rfl, by decide +kernel, by decide +kernel⟩
abbrev N_format_season : List Str := ["sign", "texts", "offsets", "lines", "text", "offset"]
theorem sc_format_season : FnScope N_format_season ["sign", "texts", "offsets"] (defScope s_format_season) := ⟨rfl, rfl, rfl, by decide +kernel, rfl, by decide +kernel, by decide +kernel⟩
abbrev N_encode : List Str := ["sign", "texts", "result", "pair", "letter", "text"]
theorem sc_encode : FnScope N_encode ["sign", "texts"] (defScope s_encode) := ⟨rfl, rfl, rfl, by decide +kernel, rfl, by decide +kernel, by decide +kernel⟩
abbrev N_InvalidText___init__ : List Str := ["self", "index"]
theorem sc_InvalidText___init__ : FnScope N_InvalidText___init__ ["self", "index"] (defScope s_InvalidText___init__) := ⟨rfl, rfl, rfl, by decide +kernel, rfl, by decide +kernel, by decide +kernel⟩
abbrev N_InvalidOffset___init__ : List Str := ["self", "index"]
theorem sc_InvalidOffset___init__ : FnScope N_InvalidOffset___init__ ["self", "index"] (defScope s_InvalidOffset___init__) := ⟨rfl, rfl, rfl, by decide +kernel, rfl, by decide +kernel, by decide +kernel⟩
abbrev N__law_random : List Str := ["_law_script", "_law_salt", "_law_seed", "_law_cell"]
theorem sc__law_random : FnScope N__law_random ["_law_script", "_law_salt"] (defScope s__law_random) := ⟨rfl, rfl, rfl, by decide +kernel, rfl, by decide +kernel, by decide +kernel⟩
abbrev N__law_below : List Str := ["_law_d", "_law_limit", "_law_result"]
theorem sc__law_below : FnScope N__law_below ["_law_d", "_law_limit"] (defScope s__law_below) := ⟨rfl, rfl, rfl, by decide +kernel, rfl, by decide +kernel, by decide +kernel⟩
abbrev N__law_text : List Str := ["_law_d", "_law_most", "_law_letters", "_law_length", "_law_signs", "_law_inner", "_law_k", "_law_first", "_law_last"]
theorem sc__law_text : FnScope N__law_text ["_law_d", "_law_most", "_law_letters"] (defScope s__law_text) := ⟨rfl, rfl, rfl, by decide +kernel, rfl, by decide +kernel, by decide +kernel⟩
abbrev N__law_texts : List Str := ["_law_d", "_law_most", "_law_width", "_law_letters", "_law_k"]
theorem sc__law_texts : FnScope N__law_texts ["_law_d", "_law_most", "_law_width", "_law_letters"] (defScope s__law_texts) := ⟨rfl, rfl, rfl, by decide +kernel, rfl, by decide +kernel, by decide +kernel⟩
abbrev N__law_error_of : List Str := ["_law_call", "_law_e", "_law_kinds", "_law_names", "_law_name"]
theorem sc__law_error_of : FnScope N__law_error_of ["_law_call"] (defScope s__law_error_of) := ⟨rfl, rfl, rfl, by decide +kernel, rfl, by decide +kernel, by decide +kernel⟩
abbrev N__law_all_raise : List Str := ["_law_calls", "_law_expected", "_law_call"]
theorem sc__law_all_raise : FnScope N__law_all_raise ["_law_calls", "_law_expected"] (defScope s__law_all_raise) := ⟨rfl, rfl, rfl, by decide +kernel, rfl, by decide +kernel, by decide +kernel⟩
abbrev N_law : List Str := ["_law_script", "_law_d", "_law_width", "_law_sign", "_law_texts_here", "_law_at", "_law_bad", "_law_wrong", "_law_index", "_law_kind", "_law_calls", "_law_offsets", "_law_text_here", "_law_odd", "_law_cases"]
theorem sc_law : FnScope N_law ["_law_script"] (defScope s_law) := ⟨rfl, rfl, rfl, by decide +kernel, rfl, by decide +kernel, by decide +kernel⟩
structure Txt (K : Frg) (mg : Str → Option Value) where
  c_Sign : Addr
  m_Sign : mg "Sign" = some (.ref c_Sign)
  k_Sign : Cls K c_Sign
  n_Sign_width : NoAttr K c_Sign "width"
  n_Sign_pairs : NoAttr K c_Sign "pairs"
  n_Sign_mates : NoAttr K c_Sign "mates"
  c_Watcher : Addr
  m_Watcher : mg "Watcher" = some (.ref c_Watcher)
  k_Watcher : Cls K c_Watcher
  c_SignError : Addr
  m_SignError : mg "SignError" = some (.ref c_SignError)
  c_InvalidStock : Addr
  m_InvalidStock : mg "InvalidStock" = some (.ref c_InvalidStock)
  c_TooMany : Addr
  m_TooMany : mg "TooMany" = some (.ref c_TooMany)
  c_InvalidCount : Addr
  m_InvalidCount : mg "InvalidCount" = some (.ref c_InvalidCount)
  c_Contradiction : Addr
  m_Contradiction : mg "Contradiction" = some (.ref c_Contradiction)
  c_InvalidName : Addr
  m_InvalidName : mg "InvalidName" = some (.ref c_InvalidName)
  c_UnknownName : Addr
  m_UnknownName : mg "UnknownName" = some (.ref c_UnknownName)
  c_NotEnough : Addr
  m_NotEnough : mg "NotEnough" = some (.ref c_NotEnough)
  c_InvalidSign : Addr
  m_InvalidSign : mg "InvalidSign" = some (.ref c_InvalidSign)
  c_InvalidRow : Addr
  m_InvalidRow : mg "InvalidRow" = some (.ref c_InvalidRow)
  c_InvalidText : Addr
  m_InvalidText : mg "InvalidText" = some (.ref c_InvalidText)
  c_InvalidOffset : Addr
  m_InvalidOffset : mg "InvalidOffset" = some (.ref c_InvalidOffset)
  c_InvalidMove : Addr
  m_InvalidMove : mg "InvalidMove" = some (.ref c_InvalidMove)
  c_Unreadable : Addr
  m_Unreadable : mg "Unreadable" = some (.ref c_Unreadable)
  c_InvalidCode : Addr
  m_InvalidCode : mg "InvalidCode" = some (.ref c_InvalidCode)
  c_InvalidOperation : Addr
  m_InvalidOperation : mg "InvalidOperation" = some (.ref c_InvalidOperation)
  ec_InvalidText : ExcC K c_InvalidText
  sx_InvalidText : PySem.W.exmOne K (.ref c_InvalidText) (.ref c_SignError) = some true
  ki_InvalidText_InvalidStock : PySem.W.kitOne K (.ref c_InvalidText) (.ref c_InvalidStock) = some false
  ki_InvalidText_TooMany : PySem.W.kitOne K (.ref c_InvalidText) (.ref c_TooMany) = some false
  ki_InvalidText_InvalidCount : PySem.W.kitOne K (.ref c_InvalidText) (.ref c_InvalidCount) = some false
  ki_InvalidText_Contradiction : PySem.W.kitOne K (.ref c_InvalidText) (.ref c_Contradiction) = some false
  ki_InvalidText_InvalidName : PySem.W.kitOne K (.ref c_InvalidText) (.ref c_InvalidName) = some false
  ki_InvalidText_UnknownName : PySem.W.kitOne K (.ref c_InvalidText) (.ref c_UnknownName) = some false
  ki_InvalidText_NotEnough : PySem.W.kitOne K (.ref c_InvalidText) (.ref c_NotEnough) = some false
  ki_InvalidText_InvalidSign : PySem.W.kitOne K (.ref c_InvalidText) (.ref c_InvalidSign) = some false
  ki_InvalidText_InvalidRow : PySem.W.kitOne K (.ref c_InvalidText) (.ref c_InvalidRow) = some false
  ki_InvalidText_InvalidText : PySem.W.kitOne K (.ref c_InvalidText) (.ref c_InvalidText) = some true
  ki_InvalidText_InvalidOffset : PySem.W.kitOne K (.ref c_InvalidText) (.ref c_InvalidOffset) = some false
  ki_InvalidText_InvalidMove : PySem.W.kitOne K (.ref c_InvalidText) (.ref c_InvalidMove) = some false
  ki_InvalidText_Unreadable : PySem.W.kitOne K (.ref c_InvalidText) (.ref c_Unreadable) = some false
  ki_InvalidText_InvalidCode : PySem.W.kitOne K (.ref c_InvalidText) (.ref c_InvalidCode) = some false
  ki_InvalidText_InvalidOperation : PySem.W.kitOne K (.ref c_InvalidText) (.ref c_InvalidOperation) = some false
  kv_InvalidText : PySem.W.kitOne K (.ref c_InvalidText) (.type "ValueError") = some true
  kk_InvalidText : PySem.W.keepIn K (.ref c_InvalidText) = true
  sb_InvalidText : PySem.W.subIn K (.ref c_InvalidText) (.type "BaseException") = some true
  ty_InvalidText : PySem.W.typeIn K (.ref c_InvalidText) = some (.type "type")
  nx_InvalidText_index : PySem.W.findIn K (.ref c_InvalidText) "index" = some none
  ns_InvalidText : PySem.W.subIn K (.ref c_InvalidText) (.type "StopIteration") = some false
  ec_InvalidOffset : ExcC K c_InvalidOffset
  sx_InvalidOffset : PySem.W.exmOne K (.ref c_InvalidOffset) (.ref c_SignError) = some true
  ki_InvalidOffset_InvalidStock : PySem.W.kitOne K (.ref c_InvalidOffset) (.ref c_InvalidStock) = some false
  ki_InvalidOffset_TooMany : PySem.W.kitOne K (.ref c_InvalidOffset) (.ref c_TooMany) = some false
  ki_InvalidOffset_InvalidCount : PySem.W.kitOne K (.ref c_InvalidOffset) (.ref c_InvalidCount) = some false
  ki_InvalidOffset_Contradiction : PySem.W.kitOne K (.ref c_InvalidOffset) (.ref c_Contradiction) = some false
  ki_InvalidOffset_InvalidName : PySem.W.kitOne K (.ref c_InvalidOffset) (.ref c_InvalidName) = some false
  ki_InvalidOffset_UnknownName : PySem.W.kitOne K (.ref c_InvalidOffset) (.ref c_UnknownName) = some false
  ki_InvalidOffset_NotEnough : PySem.W.kitOne K (.ref c_InvalidOffset) (.ref c_NotEnough) = some false
  ki_InvalidOffset_InvalidSign : PySem.W.kitOne K (.ref c_InvalidOffset) (.ref c_InvalidSign) = some false
  ki_InvalidOffset_InvalidRow : PySem.W.kitOne K (.ref c_InvalidOffset) (.ref c_InvalidRow) = some false
  ki_InvalidOffset_InvalidText : PySem.W.kitOne K (.ref c_InvalidOffset) (.ref c_InvalidText) = some false
  ki_InvalidOffset_InvalidOffset : PySem.W.kitOne K (.ref c_InvalidOffset) (.ref c_InvalidOffset) = some true
  ki_InvalidOffset_InvalidMove : PySem.W.kitOne K (.ref c_InvalidOffset) (.ref c_InvalidMove) = some false
  ki_InvalidOffset_Unreadable : PySem.W.kitOne K (.ref c_InvalidOffset) (.ref c_Unreadable) = some false
  ki_InvalidOffset_InvalidCode : PySem.W.kitOne K (.ref c_InvalidOffset) (.ref c_InvalidCode) = some false
  ki_InvalidOffset_InvalidOperation : PySem.W.kitOne K (.ref c_InvalidOffset) (.ref c_InvalidOperation) = some false
  kv_InvalidOffset : PySem.W.kitOne K (.ref c_InvalidOffset) (.type "ValueError") = some true
  kk_InvalidOffset : PySem.W.keepIn K (.ref c_InvalidOffset) = true
  sb_InvalidOffset : PySem.W.subIn K (.ref c_InvalidOffset) (.type "BaseException") = some true
  ty_InvalidOffset : PySem.W.typeIn K (.ref c_InvalidOffset) = some (.type "type")
  nx_InvalidOffset_index : PySem.W.findIn K (.ref c_InvalidOffset) "index" = some none
  ns_InvalidOffset : PySem.W.subIn K (.ref c_InvalidOffset) (.type "StopIteration") = some false
  SB_SignError : SInit K c_SignError
  xf_InvalidText : XfC K c_InvalidText
  xf_InvalidOffset : XfC K c_InvalidOffset
  a_is_int_in : Addr
  d_is_int_in : FuncData
  F_is_int_in : Fun K "is_int_in" "is_int_in" s_is_int_in a_is_int_in d_is_int_in
  b_is_int_in : Binds K d_is_int_in ["value", "low", "high"] []
  m_is_int_in : mg "is_int_in" = some (.ref a_is_int_in)
  a_is_pair : Addr
  d_is_pair : FuncData
  F_is_pair : Fun K "is_pair" "is_pair" s_is_pair a_is_pair d_is_pair
  b_is_pair : Binds K d_is_pair ["value"] []
  m_is_pair : mg "is_pair" = some (.ref a_is_pair)
  a_Sign___init__ : Addr
  d_Sign___init__ : FuncData
  z_Sign___init__ : List V
  F_Sign___init__ : FunD K "__init__" "Sign.__init__" (defArgs s_Sign___init__) (defBody s_Sign___init__) (defScope s_Sign___init__) z_Sign___init__ [] a_Sign___init__ d_Sign___init__
  zr_Sign___init__ : ∀ F : Hp, RepL K F [.tup []] z_Sign___init__
  e_Sign___init__ : List Value
  vd_Sign___init__ : Vals z_Sign___init__ e_Sign___init__
  bd_Sign___init__ : Binds K d_Sign___init__ ["self", "width", "pairs"] e_Sign___init__
  b_Sign___init__ : Binds K d_Sign___init__ ["self", "width", "pairs"] []
  M_Sign : Mk K c_Sign a_Sign___init__
  a_Sign_blank : Addr
  d_Sign_blank : FuncData
  F_Sign_blank : Fun K "blank" "Sign.blank" s_Sign_blank a_Sign_blank d_Sign_blank
  b_Sign_blank : Binds K d_Sign_blank ["self"] []
  p_Sign_blank : Addr
  P_Sign_blank : PropOf K c_Sign "blank" p_Sign_blank a_Sign_blank
  a_Sign_piece : Addr
  d_Sign_piece : FuncData
  F_Sign_piece : Fun K "piece" "Sign.piece" s_Sign_piece a_Sign_piece d_Sign_piece
  b_Sign_piece : Binds K d_Sign_piece ["self", "letter"] []
  Me_Sign_piece : Meth K c_Sign "piece" a_Sign_piece
  a_Sign_row_of : Addr
  d_Sign_row_of : FuncData
  F_Sign_row_of : Fun K "row_of" "Sign.row_of" s_Sign_row_of a_Sign_row_of d_Sign_row_of
  b_Sign_row_of : Binds K d_Sign_row_of ["self", "text", "offset"] []
  Me_Sign_row_of : Meth K c_Sign "row_of" a_Sign_row_of
  a_Sign_is_text : Addr
  d_Sign_is_text : FuncData
  F_Sign_is_text : Fun K "is_text" "Sign.is_text" s_Sign_is_text a_Sign_is_text d_Sign_is_text
  b_Sign_is_text : Binds K d_Sign_is_text ["self", "value"] []
  Me_Sign_is_text : Meth K c_Sign "is_text" a_Sign_is_text
  a_Sign_check_texts : Addr
  d_Sign_check_texts : FuncData
  F_Sign_check_texts : Fun K "check_texts" "Sign.check_texts" s_Sign_check_texts a_Sign_check_texts d_Sign_check_texts
  b_Sign_check_texts : Binds K d_Sign_check_texts ["self", "texts"] []
  Me_Sign_check_texts : Meth K c_Sign "check_texts" a_Sign_check_texts
  a_links : Addr
  d_links : FuncData
  F_links : Fun K "links" "links" s_links a_links d_links
  b_links : Binds K d_links ["sign", "before", "after"] []
  m_links : mg "links" = some (.ref a_links)
  a_surplus : Addr
  d_surplus : FuncData
  F_surplus : Fun K "surplus" "surplus" s_surplus a_surplus d_surplus
  b_surplus : Binds K d_surplus ["changed"] []
  m_surplus : mg "surplus" = some (.ref a_surplus)
  a_groups : Addr
  d_groups : FuncData
  F_groups : Fun K "groups" "groups" s_groups a_groups d_groups
  b_groups : Binds K d_groups ["changed"] []
  m_groups : mg "groups" = some (.ref a_groups)
  a_shares : Addr
  d_shares : FuncData
  F_shares : Fun K "shares" "shares" s_shares a_shares d_shares
  b_shares : Binds K d_shares ["group", "link"] []
  m_shares : mg "shares" = some (.ref a_shares)
  a_is_closed : Addr
  d_is_closed : FuncData
  F_is_closed : Fun K "is_closed" "is_closed" s_is_closed a_is_closed d_is_closed
  b_is_closed : Binds K d_is_closed ["group"] []
  m_is_closed : mg "is_closed" = some (.ref a_is_closed)
  a_cost : Addr
  d_cost : FuncData
  F_cost : Fun K "cost" "cost" s_cost a_cost d_cost
  b_cost : Binds K d_cost ["sign", "before", "after"] []
  m_cost : mg "cost" = some (.ref a_cost)
  a_check_offsets : Addr
  d_check_offsets : FuncData
  F_check_offsets : Fun K "check_offsets" "check_offsets" s_check_offsets a_check_offsets d_check_offsets
  b_check_offsets : Binds K d_check_offsets ["sign", "texts", "offsets"] []
  m_check_offsets : mg "check_offsets" = some (.ref a_check_offsets)
  a_add : Addr
  d_add : FuncData
  F_add : Fun K "add" "add" s_add a_add d_add
  b_add : Binds K d_add ["one", "other"] []
  m_add : mg "add" = some (.ref a_add)
  a_fixed_cost : Addr
  d_fixed_cost : FuncData
  F_fixed_cost : Fun K "fixed_cost" "fixed_cost" s_fixed_cost a_fixed_cost d_fixed_cost
  b_fixed_cost : Binds K d_fixed_cost ["sign", "texts", "offsets"] []
  m_fixed_cost : mg "fixed_cost" = some (.ref a_fixed_cost)
  a_season_cost : Addr
  d_season_cost : FuncData
  F_season_cost : Fun K "season_cost" "season_cost" s_season_cost a_season_cost d_season_cost
  b_season_cost : Binds K d_season_cost ["sign", "texts"] []
  m_season_cost : mg "season_cost" = some (.ref a_season_cost)
  a_count_best : Addr
  d_count_best : FuncData
  F_count_best : Fun K "count_best" "count_best" s_count_best a_count_best d_count_best
  b_count_best : Binds K d_count_best ["sign", "texts"] []
  m_count_best : mg "count_best" = some (.ref a_count_best)
  a_best_offsets : Addr
  d_best_offsets : FuncData
  F_best_offsets : Fun K "best_offsets" "best_offsets" s_best_offsets a_best_offsets d_best_offsets
  b_best_offsets : Binds K d_best_offsets ["sign", "texts"] []
  m_best_offsets : mg "best_offsets" = some (.ref a_best_offsets)
  a_needed_letters : Addr
  d_needed_letters : FuncData
  F_needed_letters : Fun K "needed_letters" "needed_letters" s_needed_letters a_needed_letters d_needed_letters
  b_needed_letters : Binds K d_needed_letters ["sign", "texts"] []
  m_needed_letters : mg "needed_letters" = some (.ref a_needed_letters)
  a_missing_letters : Addr
  d_missing_letters : FuncData
  F_missing_letters : Fun K "missing_letters" "missing_letters" s_missing_letters a_missing_letters d_missing_letters
  b_missing_letters : Binds K d_missing_letters ["sign", "texts", "stock"] []
  m_missing_letters : mg "missing_letters" = some (.ref a_missing_letters)
  a_best_order : Addr
  d_best_order : FuncData
  F_best_order : Fun K "best_order" "best_order" s_best_order a_best_order d_best_order
  b_best_order : Binds K d_best_order ["sign", "texts"] []
  m_best_order : mg "best_order" = some (.ref a_best_order)
  a_needless_pairs : Addr
  d_needless_pairs : FuncData
  F_needless_pairs : Fun K "needless_pairs" "needless_pairs" s_needless_pairs a_needless_pairs d_needless_pairs
  b_needless_pairs : Binds K d_needless_pairs ["sign", "texts"] []
  m_needless_pairs : mg "needless_pairs" = some (.ref a_needless_pairs)
  a_Watcher___init__ : Addr
  d_Watcher___init__ : FuncData
  F_Watcher___init__ : Fun K "__init__" "Watcher.__init__" s_Watcher___init__ a_Watcher___init__ d_Watcher___init__
  b_Watcher___init__ : Binds K d_Watcher___init__ ["self", "sign", "texts"] []
  M_Watcher : Mk K c_Watcher a_Watcher___init__
  a_format_season : Addr
  d_format_season : FuncData
  F_format_season : Fun K "format_season" "format_season" s_format_season a_format_season d_format_season
  b_format_season : Binds K d_format_season ["sign", "texts", "offsets"] []
  m_format_season : mg "format_season" = some (.ref a_format_season)
  a_encode : Addr
  d_encode : FuncData
  F_encode : Fun K "encode" "encode" s_encode a_encode d_encode
  b_encode : Binds K d_encode ["sign", "texts"] []
  m_encode : mg "encode" = some (.ref a_encode)
  a_InvalidText___init__ : Addr
  d_InvalidText___init__ : FuncData
  F_InvalidText___init__ : Fun K "__init__" "InvalidText.__init__" s_InvalidText___init__ a_InvalidText___init__ d_InvalidText___init__
  b_InvalidText___init__ : Binds K d_InvalidText___init__ ["self", "index"] []
  X_InvalidText : XCls K c_InvalidText a_InvalidText___init__
  a_InvalidOffset___init__ : Addr
  d_InvalidOffset___init__ : FuncData
  F_InvalidOffset___init__ : Fun K "__init__" "InvalidOffset.__init__" s_InvalidOffset___init__ a_InvalidOffset___init__ d_InvalidOffset___init__
  b_InvalidOffset___init__ : Binds K d_InvalidOffset___init__ ["self", "index"] []
  X_InvalidOffset : XCls K c_InvalidOffset a_InvalidOffset___init__
  a__law_random : Addr
  d__law_random : FuncData
  F__law_random : Fun K "_law_random" "_law_random" s__law_random a__law_random d__law_random
  b__law_random : Binds K d__law_random ["_law_script", "_law_salt"] []
  m__law_random : mg "_law_random" = some (.ref a__law_random)
  a__law_below : Addr
  d__law_below : FuncData
  F__law_below : Fun K "_law_below" "_law_below" s__law_below a__law_below d__law_below
  b__law_below : Binds K d__law_below ["_law_d", "_law_limit"] []
  m__law_below : mg "_law_below" = some (.ref a__law_below)
  a__law_text : Addr
  d__law_text : FuncData
  F__law_text : Fun K "_law_text" "_law_text" s__law_text a__law_text d__law_text
  b__law_text : Binds K d__law_text ["_law_d", "_law_most", "_law_letters"] []
  m__law_text : mg "_law_text" = some (.ref a__law_text)
  a__law_texts : Addr
  d__law_texts : FuncData
  F__law_texts : Fun K "_law_texts" "_law_texts" s__law_texts a__law_texts d__law_texts
  b__law_texts : Binds K d__law_texts ["_law_d", "_law_most", "_law_width", "_law_letters"] []
  m__law_texts : mg "_law_texts" = some (.ref a__law_texts)
  a__law_error_of : Addr
  d__law_error_of : FuncData
  F__law_error_of : Fun K "_law_error_of" "_law_error_of" s__law_error_of a__law_error_of d__law_error_of
  b__law_error_of : Binds K d__law_error_of ["_law_call"] []
  m__law_error_of : mg "_law_error_of" = some (.ref a__law_error_of)
  a__law_all_raise : Addr
  d__law_all_raise : FuncData
  F__law_all_raise : Fun K "_law_all_raise" "_law_all_raise" s__law_all_raise a__law_all_raise d__law_all_raise
  b__law_all_raise : Binds K d__law_all_raise ["_law_calls", "_law_expected"] []
  m__law_all_raise : mg "_law_all_raise" = some (.ref a__law_all_raise)
  a_law : Addr
  d_law : FuncData
  F_law : Fun K "law" "law" s_law a_law d_law
  b_law : Binds K d_law ["_law_script"] []
  m_law : mg "law" = some (.ref a_law)
  cc_law : Addr
  pp_law : Addr
  FC_law : FunC K "law" "law" s_law a_law d_law cc_law
  g_ValueError : mg "ValueError" = none
  g_abs : mg "abs" = none
  g_all : mg "all" = none
  g_any : mg "any" = none
  g_bool : mg "bool" = none
  g_enumerate : mg "enumerate" = none
  g_int : mg "int" = none
  g_isinstance : mg "isinstance" = none
  g_len : mg "len" = none
  g_list : mg "list" = none
  g_min : mg "min" = none
  g_range : mg "range" = none
  g_sorted : mg "sorted" = none
  g_str : mg "str" = none
  g_sum : mg "sum" = none
  g_tuple : mg "tuple" = none
  g_zip : mg "zip" = none
  u_BLANK : Value
  m_BLANK : mg "BLANK" = some u_BLANK
  r_BLANK : RelV (.str " ") u_BLANK
  u_LETTERS : Value
  m_LETTERS : mg "LETTERS" = some u_LETTERS
  r_LETTERS : RelV (.str "ABCDEFGHIJKLMNOPQRSTUVWXYZ0123456789") u_LETTERS
  u_MAX_PAIRS : Value
  m_MAX_PAIRS : mg "MAX_PAIRS" = some u_MAX_PAIRS
  r_MAX_PAIRS : RelV (.int 10) u_MAX_PAIRS
  u_MAX_TEXTS : Value
  m_MAX_TEXTS : mg "MAX_TEXTS" = some u_MAX_TEXTS
  r_MAX_TEXTS : RelV (.int 12) u_MAX_TEXTS
  u_MAX_WIDTH : Value
  m_MAX_WIDTH : mg "MAX_WIDTH" = some u_MAX_WIDTH
  r_MAX_WIDTH : RelV (.int 24) u_MAX_WIDTH
def errR {K : Frg} {mg : Str → Option Value} (T : Txt K mg) : Addr → List (Str × D) → D → Prop := fun C fs res => (C = T.c_InvalidText ∧ ∃ i : Int, fs = ([("index", .int i)] : List (Str × D)) ∧ res = .tup [.str "text", .int i]) ∨ (C = T.c_InvalidOffset ∧ ∃ i : Int, fs = ([("index", .int i)] : List (Str × D)) ∧ res = .tup [.str "offset", .int i])
theorem ex_bl {b : Bool} {P : Bool → Prop} (h : P b) : ∃ b', D.bl b = .bl b' ∧ P b' := ⟨_, rfl, h⟩
theorem ex_int {b : Int} {P : Int → Prop} (h : P b) : ∃ b', D.int b = .int b' ∧ P b' := ⟨_, rfl, h⟩
theorem ex_str {b : Str} {P : Str → Prop} (h : P b) : ∃ b', D.str b = .str b' ∧ P b' := ⟨_, rfl, h⟩
theorem ex_par {a b : D} {P : D → D → Prop} (h : P a b) : ∃ x y, [a, b] = [x, y] ∧ P x y := ⟨_, _, rfl, h⟩
theorem and_nT {A B : Prop} (h : B) : ((!true) = true → A) ∧ ((!true) = false → B) := ⟨fun z => Bool.noConfusion z, fun _ => h⟩
theorem and_nF {A B : Prop} (h : A) : ((!false) = true → A) ∧ ((!false) = false → B) := ⟨fun _ => h, fun z => Bool.noConfusion z⟩
theorem and_nT' {A B : Prop} (h : B) : ((!true) = false → B) ∧ ((!true) = true → A) := ⟨fun _ => h, fun z => Bool.noConfusion z⟩
theorem and_nF' {A B : Prop} (h : A) : ((!false) = false → B) ∧ ((!false) = true → A) := ⟨fun z => Bool.noConfusion z, fun _ => h⟩
theorem and_dT {p A B : Prop} [Decidable p] (hp : p) (h : A) : (decide p = true → A) ∧ (decide p = false → B) := ⟨fun _ => h, fun z => absurd hp (of_decide_eq_false z)⟩
theorem and_dF {p A B : Prop} [Decidable p] (hp : ¬ p) (h : B) : (decide p = true → A) ∧ (decide p = false → B) := ⟨fun z => absurd (of_decide_eq_true z) hp, fun _ => h⟩
theorem and_dT' {p A B : Prop} [Decidable p] (hp : p) (h : A) : (decide p = false → B) ∧ (decide p = true → A) := ⟨fun z => absurd hp (of_decide_eq_false z), fun _ => h⟩
theorem and_dF' {p A B : Prop} [Decidable p] (hp : ¬ p) (h : B) : (decide p = false → B) ∧ (decide p = true → A) := ⟨fun _ => h, fun z => absurd (of_decide_eq_true z) hp⟩
theorem and_ndT {p A B : Prop} [Decidable p] (hp : p) (h : B) : ((!decide p) = true → A) ∧ ((!decide p) = false → B) := by rw [decide_eq_true hp]; exact and_nT h
theorem and_ndF {p A B : Prop} [Decidable p] (hp : ¬ p) (h : A) : ((!decide p) = true → A) ∧ ((!decide p) = false → B) := by rw [decide_eq_false hp]; exact and_nF h
theorem and_ndT' {p A B : Prop} [Decidable p] (hp : p) (h : B) : ((!decide p) = false → B) ∧ ((!decide p) = true → A) := by rw [decide_eq_true hp]; exact and_nT' h
theorem and_ndF' {p A B : Prop} [Decidable p] (hp : ¬ p) (h : A) : ((!decide p) = false → B) ∧ ((!decide p) = true → A) := by rw [decide_eq_false hp]; exact and_nF' h
section
variable {K : Frg} {F : Hp} {ms : Ms} {Q : QE}
theorem isN_bl {b : Bool} (q : Q F ms (.bl false)) : AR K rISN (.bl b) .non F ms Q := ar_isN q
theorem notN_bl {b : Bool} (q : Q F ms (.bl true)) : AR K rNOTN (.bl b) .non F ms Q := ar_notN q
theorem isN_int {i : Int} (q : Q F ms (.bl false)) : AR K rISN (.int i) .non F ms Q := ar_isN q
theorem notN_int {i : Int} (q : Q F ms (.bl true)) : AR K rNOTN (.int i) .non F ms Q := ar_notN q
theorem isN_str {z : Str} (q : Q F ms (.bl false)) : AR K rISN (.str z) .non F ms Q := ar_isN q
theorem notN_str {z : Str} (q : Q F ms (.bl true)) : AR K rNOTN (.str z) .non F ms Q := ar_notN q
theorem isN_tup {ds : List D} (q : Q F ms (.bl false)) : AR K rISN (.tup ds) .non F ms Q := ar_isN q
theorem notN_tup {ds : List D} (q : Q F ms (.bl true)) : AR K rNOTN (.tup ds) .non F ms Q := ar_notN q
theorem isN_lst {ds : List D} (q : Q F ms (.bl false)) : AR K rISN (.lst ds) .non F ms Q := ar_isN q
theorem notN_lst {ds : List D} (q : Q F ms (.bl true)) : AR K rNOTN (.lst ds) .non F ms Q := ar_notN q
theorem isN_ref {l : Addr} (q : Q F ms (.bl false)) : AR K rISN (.ref l) .non F ms Q := ar_isN q
theorem notN_ref {l : Addr} (q : Q F ms (.bl true)) : AR K rNOTN (.ref l) .non F ms Q := ar_notN q
theorem isN_non (q : Q F ms (.bl true)) : AR K rISN .non .non F ms Q := ar_isN q
theorem notN_non (q : Q F ms (.bl false)) : AR K rNOTN .non .non F ms Q := ar_notN q
end
/-! ### data -/
def LET : Str := "ABCDEFGHIJKLMNOPQRSTUVWXYZ0123456789"
def inL (c : Nat) : Prop := c ∈ LET.cps.toList
abbrev Pr := Nat × Nat
def pS (p : Pr) : Str := ⟨#[p.1, p.2]⟩
def pD (p : Pr) : D := .str (pS p)
def kS (c : Nat) : Key := .inr (sg c)
def kvsOf : List Pr → List (Key × D)
  | [] => []
  | p :: ps => (kS p.1, .str (sg p.2)) :: (kS p.2, .str (sg p.1)) :: kvsOf ps
def flat (ps : List Pr) : List Nat := ps.flatMap fun p => [p.1, p.2]
def pieceS (ps : List Pr) (c : Nat) : Str := match ps.find? (fun p => c = p.1 ∨ c = p.2) with
  | some p => minS (sg p.1) (sg p.2)
  | none => sg c
def St (st : List D) : Prop := ∃ (s c : Int) (rest : List Int), st = .int s :: .int c :: rest.map D.int ∧ 0 ≤ s ∧ s < 2147483647 ∧ 0 ≤ c ∧ (∀ x ∈ rest, 10 ^ 18 ≤ x) ∧ rest.length ≤ 64
def fldS (m : Addr) (w : Int) (ps : List Pr) : List (Str × D) := [("mates", .ref m), ("width", .int w), ("pairs", .tup (ps.map pD))]
/-- a sign stands at x -/
def Sgn (C : Addr) (ms : Ms) (x : Addr) (w : Int) (ps : List Pr) : Prop := ∃ (i j : Nat) (m : Addr), ms[i]? = some (x, .ins C (fldS m w ps)) ∧ ms[j]? = some (m, .dic (kvsOf ps))
def sp1 : Str := " "
def shown (w : Int) (t : Str) (o : Int) : Str := mulS sp1 o ++ t ++ mulS sp1 (w - o - t.length)
theorem str_len_add (a b : Str) : (a ++ b).length = a.length + b.length := Array.size_append ..
theorem mulS_len1 (n : Int) : (mulS sp1 n).length = n.toNat := by
  show (List.replicate n.toNat [32]).flatten.toArray.size = n.toNat
  rw [List.size_toArray, List.length_flatten]
  simp
theorem fld_no {f : Str} {m : Addr} {w : Int} {ps : List Pr} (h1 : (f == "mates") = false) (h2 : (f == "width") = false) (h3 : (f == "pairs") = false) : (fldS m w ps).lookup f = none := by
  unfold fldS
  rw [List.lookup_cons, h1, List.lookup_cons, h2, List.lookup_cons, h3]
  rfl
def textOk (w : Int) (t : Str) : Prop := 1 ≤ (t.length : Int) ∧ (t.length : Int) ≤ w ∧ (∀ c ∈ t.cps.toList, c = 32 ∨ inL c) ∧ (∃ a, t.cps.toList[0]? = some a ∧ inL a) ∧ ∃ b, t.cps.toList[t.length - 1]? = some b ∧ inL b
def okSeason (w : Int) (ps : List Pr) (ts : List Str) : Prop := 1 ≤ w ∧ w ≤ 24 ∧ ps.length ≤ 10 ∧ (∀ c ∈ flat ps, inL c) ∧ (flat ps).Nodup ∧ 1 ≤ ts.length ∧ ts.length ≤ 12 ∧ ∀ t ∈ ts, textOk w t
/-! ### the cost of a change -/
abbrev Lk := Nat × Nat × Nat
def lD (k : Lk) : D := .tup [.int (k.1 : Int), .str (sg k.2.1), .str (sg k.2.2)]
/-- the piece of a sign -/
def pc (ps : List Pr) (c : Nat) : Nat := match ps.find? (fun p => c = p.1 ∨ c = p.2) with
  | some p => min p.1 p.2
  | none => c
def lkAt (ps : List Pr) (b a : List Nat) (i : Nat) : Option Lk := if pc ps (b.getD i 0) = pc ps (a.getD i 0) then none else some (i, pc ps (b.getD i 0), pc ps (a.getD i 0))
def linksF (ps : List Pr) (b a : List Nat) (n : Nat) : List Lk := (List.range n).filterMap (lkAt ps b a)
def letsF (gs : List Lk) : List Nat := gs.flatMap fun k => [k.2.1, k.2.2].filter fun c => decide (c ≠ 32)
def sharesF (gs : List Lk) (k : Lk) : Bool := decide (k.2.1 ∈ letsF gs) || decide (k.2.2 ∈ letsF gs)
def togF (k : Lk) (found : List (List Lk)) : List Lk := (found.filter fun g => sharesF g k).foldl (fun t g => g ++ t) [k]
def stepG (found : List (List Lk)) (k : Lk) : List (List Lk) := (found.filter fun g => !sharesF g k) ++ [togF k found]
def groupsF (ks : List Lk) : List (List Lk) := ks.foldl stepG []
def gD (g : List Lk) : D := .lst (g.map lD)
def closedF (gs : List Lk) : Bool := gs.all (fun k => decide (k.2.1 ≠ 32) && decide (k.2.2 ≠ 32)) && decide ((gs.map (·.2.1)).Perm (gs.map (·.2.2)))
abbrev Cn := List (Nat × Int)
def valC (m : Cn) (c : Nat) : Int := ((m.find? fun p => decide (p.1 = c)).map (·.2)).getD 0
def setC (m : Cn) (c : Nat) (z : Int) : Cn := if m.any (fun p => decide (p.1 = c)) then m.map (fun p => if p.1 = c then (p.1, z) else p) else m ++ [(c, z)]
def stepC (m : Cn) (k : Lk) : Cn := setC (setC m k.2.1 (valC m k.2.1 + 1)) k.2.2 (valC (setC m k.2.1 (valC m k.2.1 + 1)) k.2.2 - 1)
def cntF (ks : List Lk) : Cn := ks.foldl stepC []
def cntD (m : Cn) : List (Key × D) := m.map fun p => (kS p.1, D.int p.2)
def surF (ks : List Lk) : Cn := (cntF ks).filter fun p => decide (p.2 > 0) && !decide (p.1 = 32)
def carriedF (ks : List Lk) : Int := ((ks.filter fun k => !decide (k.2.2 = 32)).length : Int) + ((surF ks).map (·.2)).sum + (((groupsF ks).filter closedF).length : Int)
def turnedF (ps : List Pr) (b a : List Nat) (n : Nat) : Int := (((List.range n).filter fun i => decide (b.getD i 0 ≠ a.getD i 0) && decide (pc ps (b.getD i 0) = pc ps (a.getD i 0))).length : Int)
def costD (ps : List Pr) (b a : Str) (w : Int) : D := .tup [.int (carriedF (linksF ps b.cps.toList a.cps.toList w.toNat)), .int (turnedF ps b.cps.toList a.cps.toList w.toNat)]
def okRow (w : Int) (z : Str) : Prop := (z.length : Int) = w ∧ ∀ c ∈ z.cps.toList, c = 32 ∨ inL c
/-! ### seasons -/
abbrev Cst := Int × Int
def cD (c : Cst) : D := .tup [.int c.1, .int c.2]
def costP (ps : List Pr) (b a : Str) (w : Int) : Cst := (carriedF (linksF ps b.cps.toList a.cps.toList w.toNat), turnedF ps b.cps.toList a.cps.toList w.toNat)
def addC (a b : Cst) : Cst := (a.1 + b.1, a.2 + b.2)
def ltC (a b : Cst) : Bool := if a.1 = b.1 then decide (a.2 < b.2) else decide (a.1 < b.1)
abbrev FS := Cst × Str
def stepF (ps : List Pr) (w : Int) (s : FS) (p : Str × Int) : FS := (addC s.1 (costP ps s.2 (shown w p.1 p.2) w), shown w p.1 p.2)
def fixF (ps : List Pr) (w : Int) (ts : List Str) (os : List Int) : Cst := ((ts.zip os).foldl (stepF ps w) ((0, 0), mulS sp1 w)).1
abbrev Lay := List (Cst × Int)
def vD (v : Cst × Int) : D := .tup [cD v.1, .int v.2]
def layK (n : Nat) : Lay → List (Key × D)
  | [] => []
  | v :: r => (.inl (n : Int), vD v) :: layK (n + 1) r
abbrev BS := Option Cst × Int
def stepB (b : BS) (v : Cst × Int) : BS := match b.1 with
  | none => (some v.1, v.2)
  | some best => if ltC v.1 best = true then (some v.1, v.2) else if v.1 = best then (b.1, b.2 + v.2) else b
def tots (ps : List Pr) (w : Int) (row t : Str) (L : Lay) : Lay := L.zipIdx.map fun p => (addC (costP ps row (shown w t (p.2 : Int)) w) p.1.1, p.1.2)
def bestF (ps : List Pr) (w : Int) (row t : Str) (L : Lay) : BS := (tots ps w row t L).foldl stepB (none, 0)
def bestP (ps : List Pr) (w : Int) (row t : Str) (L : Lay) : Cst × Int := ((bestF ps w row t L).1.getD (0, 0), (bestF ps w row t L).2)
def bsD (b : Option Cst) : D := match b with | none => .non | some c => cD c
def offN (w : Int) (t : Str) : Nat := (w - t.length + 1).toNat
def layersF (ps : List Pr) (w : Int) : List Str → List Lay
  | [] => []
  | t :: r => match r with
    | [] => [List.replicate (offN w t) ((0, 0), 1)]
    | t' :: _ => ((List.range (offN w t)).map fun (o : Nat) => bestP ps w (shown w t (o : Int)) t' ((layersF ps w r).headD [])) :: layersF ps w r
def seasonF (ps : List Pr) (w : Int) (ts : List Str) : Cst := (bestP ps w (mulS sp1 w) (ts.headD Str.empty) ((layersF ps w ts).headD [])).1
/-- plain kinds -/
def kd (d : D) : Prop := d = .non ∨ (∃ b, d = .bl b) ∨ (∃ i, d = .int i) ∨ (∃ z : Str, d = .str z ∧ z.length ≤ 1000) ∨ (∃ ds : List D, d = .tup ds) ∨ ∃ ds : List D, d = .lst ds
def intIn (d : D) (lo hi : Int) : Bool := match d with
  | .int v => decide (lo ≤ v) && decide (v ≤ hi)
  | _ => false
/-- is it a text -/
def textL (w : Int) (l : List Nat) : Bool := (decide (1 ≤ (l.length : Int)) && decide ((l.length : Int) ≤ w)) && ((!decide (l[0]? = some 32) && !decide (l[l.length - 1]? = some 32)) && l.all fun c => decide (c = 32) || decide (c ∈ LET.cps.toList))
def textB (w : Int) (d : D) : Bool := match d with
  | .str z => textL w z.cps.toList
  | _ => false
/-- no texts: refused at i -/
def badT (w : Int) (d : D) (i : Int) : Prop := (((d = .non ∨ (∃ b, d = .bl b) ∨ (∃ i, d = .int i) ∨ (∃ z : Str, d = .str z) ∨ (∃ ds : List D, d = .lst ds) ∨ d = .tup [])) ∧ i = 0) ∨
  ∃ (ts : List Str) (b : D) (r : List D), d = .tup (ts.map D.str ++ b :: r) ∧ i = (ts.length : Int) ∧ ts.length ≤ 12 ∧ r.length ≤ 100 ∧ (∀ t ∈ ts, textOk w t) ∧ kd b ∧ okD d = true ∧ dep d ≤ 64 ∧ (ts.length = 12 ∨ textB w b = false)
/-- no offsets for these texts: refused at i -/
def badO (w : Int) (ts : List Str) (d : D) (i : Int) : Prop := ((d = .non ∨ (∃ ds : List D, d = .lst ds)) ∧ i = 0) ∨
  ∃ (os : List Int) (r : List D), d = .tup (os.map D.int ++ r) ∧ i = (os.length : Int) ∧ os.length ≤ ts.length ∧ r.length ≤ 100 ∧ (∀ (i : Nat) (t : Str) (o : Int), ts[i]? = some t → os[i]? = some o → 0 ≤ o ∧ o + (t.length : Int) ≤ w) ∧
    ((r = [] ∧ os.length < ts.length) ∨ ∃ b r', r = b :: r' ∧ kd b ∧ ∀ t, ts[os.length]? = some t → intIn b 0 (w - (t.length : Int)) = false)
/-! ### promises -/
section
variable {K : Frg} {mg : Str → Option Value}
def sp_is_pair (T : Txt K mg) : ASp := fun ds F ms Q _ => ∃ p : Pr, ds = [pD p] ∧ p.1 ≠ p.2 ∧ inL p.1 ∧ inL p.2 ∧ Q F ms (.bl true)
def sp_Sign___init__ (T : Txt K mg) : ASp := fun ds F ms Q _ => ∃ (x : Addr) (w : Int) (ps : List Pr) (R : Ms), ds = [.ref x, .int w, .tup (ps.map pD)] ∧ 1 ≤ w ∧ w ≤ 24 ∧ ps.length ≤ 10 ∧ (∀ c ∈ flat ps, inL c) ∧ (flat ps).Nodup ∧ ms = (x, .ins T.c_Sign []) :: R ∧
  ∀ m F', Ex F F' → Q F' ((m, .dic (kvsOf ps)) :: (x, .ins T.c_Sign (fldS m w ps)) :: R) .non
def sp__law_random (T : Txt K mg) : ASp := fun ds F ms Q _ => ∃ ns : List Int, ds = [.rdl (ns.map D.int), .int 14] ∧ ns.length ≤ 63 ∧ ∀ F' l st, Ex F F' → St st → Q F' ((l, .lst st) :: ms) (.ref l)
def sp__law_below (T : Txt K mg) : ASp := fun ds F ms Q _ => ∃ (k : Nat) (l : Addr) (st : List D) (n : Int), ds = [.ref l, .int n] ∧ ms[k]? = some (l, .lst st) ∧ St st ∧ 0 < n ∧ n < 1000000 ∧ ∀ st' r, St st' → 0 ≤ r → r < n → Q F (ms.set k (l, .lst st')) (.int r)
def sp_is_int_in (T : Txt K mg) : ASp := fun ds F ms Q _ => ∃ (d : D) (lo hi : Int), ds = [d, .int lo, .int hi] ∧ kd d ∧ Q F ms (.bl (intIn d lo hi))
/-- plain data: no more than n deep -/
def plainN : Nat → D → Prop
  | 0, d => d = .non ∨ (∃ b, d = .bl b) ∨ (∃ i, d = .int i) ∨ ∃ z, d = .str z
  | n + 1, d => (d = .non ∨ (∃ b, d = .bl b) ∨ (∃ i, d = .int i) ∨ ∃ z, d = .str z) ∨ ∃ ds, (d = .lst ds ∨ d = .tup ds) ∧ ds.length ≤ 10000 ∧ ∀ x ∈ ds, plainN n x
/-- an actual value that equals the expected one: the same data, an owned list, or a list of such -/
def ActN (ms : Ms) : Nat → D → D → Prop
  | 0, a, d => a = d ∧ plainN 0 d
  | n + 1, a, d => (a = d ∧ plainN (n + 1) d) ∨ (∃ (m : Nat) (l : Addr) (ds : List D), a = .ref l ∧ d = .lst ds ∧ ms[m]? = some (l, .lst ds) ∧ plainN (n + 1) d) ∨ ∃ as ds : List D, a = .lst as ∧ d = .lst ds ∧ as.length = ds.length ∧ ds.length ≤ 10000 ∧ ∀ (i : Nat) (x y : D), as[i]? = some x → ds[i]? = some y → ActN ms n x y
def okOff (w : Int) (ts : List Str) (os : List Int) : Prop := os.length = ts.length ∧ ∀ (i : Nat) (t : Str) (o : Int), ts[i]? = some t → os[i]? = some o → 0 ≤ o ∧ o + (t.length : Int) ≤ w
def sp__law_text (T : Txt K mg) : ASp := fun ds F ms Q _ => ∃ (k : Nat) (l : Addr) (st : List D) (w : Int) (z : Str), ds = [.ref l, .int w, .str z] ∧ ms[k]? = some (l, .lst st) ∧ St st ∧ 0 < w ∧ w ≤ 24 ∧ 0 < z.length ∧ z.length ≤ 100 ∧ (∀ c ∈ z.cps.toList, inL c) ∧
  ∀ st' F' (r : Str), Ex F F' → St st' → textOk w r → Q F' (ms.set k (l, .lst st')) (.str r)
def sp__law_texts (T : Txt K mg) : ASp := fun ds F ms Q _ => ∃ (k : Nat) (l : Addr) (st : List D) (w : Int) (z : Str), ds = [.ref l, .int 4, .int w, .str z] ∧ ms[k]? = some (l, .lst st) ∧ St st ∧ 0 < w ∧ w ≤ 24 ∧ 0 < z.length ∧ z.length ≤ 100 ∧ (∀ c ∈ z.cps.toList, inL c) ∧
  ∀ st' F' (ts : List Str), Ex F F' → St st' → 1 ≤ ts.length → ts.length ≤ 4 → (∀ t ∈ ts, textOk w t) → Q F' (ms.set k (l, .lst st')) (.tup (ts.map D.str))
def sp_Sign_blank (T : Txt K mg) : ASp := fun ds F ms Q _ => ∃ x w ps, ds = [.ref x] ∧ Sgn T.c_Sign ms x w ps ∧ 0 ≤ w ∧ w ≤ 24 ∧ Q F ms (.str (mulS sp1 w))
def sp_Sign_row_of (T : Txt K mg) : ASp := fun ds F ms Q _ => ∃ x w ps t o, ds = [.ref x, .str t, .int o] ∧ Sgn T.c_Sign ms x w ps ∧ w ≤ 24 ∧ 0 ≤ o ∧ o + (t.length : Int) ≤ w ∧ Q F ms (.str (shown w t o))
def sp_Sign_piece (T : Txt K mg) : ASp := fun ds F ms Q _ => ∃ x w ps c, ds = [.ref x, .str (sg c)] ∧ Sgn T.c_Sign ms x w ps ∧ Q F ms (.str (pieceS ps c))
def sp_links (T : Txt K mg) : ASp := fun ds F ms Q _ => ∃ x w ps b a, ds = [.ref x, .str b, .str a] ∧ Sgn T.c_Sign ms x w ps ∧ 0 ≤ w ∧ w ≤ 24 ∧ (b.length : Int) = w ∧ (a.length : Int) = w ∧ ∀ F', Ex F F' → Q F' ms (.lst ((linksF ps b.cps.toList a.cps.toList w.toNat).map lD))
def sp_shares (T : Txt K mg) : ASp := fun ds F ms Q _ => ∃ gs k, ds = [.lst (List.map lD gs), lD k] ∧ gs.length ≤ 24 ∧ ∀ F', Ex F F' → Q F' ms (.bl (sharesF gs k))
def sp_is_closed (T : Txt K mg) : ASp := fun ds F ms Q _ => ∃ gs, ds = [.lst (List.map lD gs)] ∧ gs.length ≤ 24 ∧ (∀ k ∈ gs, k.2.1 < 128 ∧ k.2.2 < 128) ∧ ∀ F', Ex F F' → Q F' ms (.bl (closedF gs))
def sp_surplus (T : Txt K mg) : ASp := fun ds F ms Q _ => ∃ ks, ds = [.lst (List.map lD ks)] ∧ ks.length ≤ 24 ∧ ∀ F', Ex F F' → Q F' ms (.dic (cntD (surF ks)))
def sp_groups (T : Txt K mg) : ASp := fun ds F ms Q _ => ∃ ks, ds = [.lst (List.map lD ks)] ∧ ks.length ≤ 24 ∧ ∀ F', Ex F F' → Q F' ms (.lst ((groupsF ks).map gD))
def sp_cost (T : Txt K mg) : ASp := fun ds F ms Q _ => ∃ x w ps b a, ds = [.ref x, .str b, .str a] ∧ Sgn T.c_Sign ms x w ps ∧ 0 ≤ w ∧ w ≤ 24 ∧ (∀ c ∈ flat ps, inL c) ∧ okRow w b ∧ okRow w a ∧ ∀ F', Ex F F' → Q F' ms (costD ps b a w)
def okPs (ps : List Pr) : Prop := ∀ c ∈ flat ps, inL c
def sp_add (T : Txt K mg) : ASp := fun ds F ms Q _ => ∃ a b, ds = [cD a, cD b] ∧ ∀ F', Ex F F' → Q F' ms (cD (addC a b))
def sp_Sign_is_text (T : Txt K mg) : ASp := fun ds F ms Q _ => ∃ x w ps d, ds = [.ref x, d] ∧ Sgn T.c_Sign ms x w ps ∧ 0 ≤ w ∧ w ≤ 24 ∧ kd d ∧ ∀ F', Ex F F' → Q F' ms (.bl (textB w d))
def sp_Sign_check_texts (T : Txt K mg) : ASp := fun ds F ms Q Ea => ∃ x w ps d, ds = [.ref x, d] ∧ Sgn T.c_Sign ms x w ps ∧ 0 ≤ w ∧ w ≤ 24 ∧ ((∃ ts, d = .tup (List.map D.str ts) ∧ 1 ≤ ts.length ∧ ts.length ≤ 12 ∧ (∀ t ∈ ts, textOk w t) ∧ ∀ F', Ex F F' → Q F' ms .non) ∨
  ∃ i, badT w d i ∧ ∀ F', Ex F F' → Ea T.c_InvalidText [("index", .int i)] F' ms)
def sp_check_offsets (T : Txt K mg) : ASp := fun ds F ms Q Ea => ∃ x w ps ts d, ds = [.ref x, .tup (List.map D.str ts), d] ∧ Sgn T.c_Sign ms x w ps ∧ 0 ≤ w ∧ w ≤ 24 ∧ ts.length ≤ 12 ∧ (∀ t ∈ ts, textOk w t) ∧ ((∃ os, d = .tup (List.map D.int os) ∧ okOff w ts os ∧ ∀ F', Ex F F' → Q F' ms .non) ∨
  ∃ i, badO w ts d i ∧ ∀ F', Ex F F' → Ea T.c_InvalidOffset [("index", .int i)] F' ms)
/-- refused texts, or refused offsets -/
def badS {K : Frg} {mg : Str → Option Value} (T : Txt K mg) (w : Int) (d e : D) (C : Addr) (i : Int) : Prop := (badT w d i ∧ C = T.c_InvalidText) ∨ ∃ ts, d = .tup (List.map D.str ts) ∧ 1 ≤ ts.length ∧ ts.length ≤ 12 ∧ (∀ t ∈ ts, textOk w t) ∧ badO w ts e i ∧ C = T.c_InvalidOffset
def sp_fixed_cost (T : Txt K mg) : ASp := fun ds F ms Q Ea => ∃ x w ps d e, ds = [.ref x, d, e] ∧ Sgn T.c_Sign ms x w ps ∧ 0 ≤ w ∧ w ≤ 24 ∧ ((∃ ts os, d = .tup (List.map D.str ts) ∧ e = .tup (List.map D.int os) ∧ okSeason w ps ts ∧ okOff w ts os ∧ ∀ F', Ex F F' → Q F' ms (cD (fixF ps w ts os))) ∨
  ∃ C i, badS T w d e C i ∧ ∀ F', Ex F F' → Ea C [("index", .int i)] F' ms)
def sp_format_season (T : Txt K mg) : ASp := fun ds F ms Q Ea => ∃ x w ps d e C i, ds = [.ref x, d, e] ∧ Sgn T.c_Sign ms x w ps ∧ 0 ≤ w ∧ w ≤ 24 ∧ badS T w d e C i ∧ ∀ F', Ex F F' → Ea C [("index", .int i)] F' ms
def spBT (T : Txt K mg) : ASp := fun ds F ms Q Ea => ∃ x w ps d i, ds = [.ref x, d] ∧ Sgn T.c_Sign ms x w ps ∧ 0 ≤ w ∧ w ≤ 24 ∧ badT w d i ∧ ∀ F', Ex F F' → Ea T.c_InvalidText [("index", .int i)] F' ms
def sp_season_cost (T : Txt K mg) : ASp := spBT T
def sp_count_best (T : Txt K mg) : ASp := spBT T
def sp_needed_letters (T : Txt K mg) : ASp := spBT T
def sp_best_order (T : Txt K mg) : ASp := spBT T
def sp_needless_pairs (T : Txt K mg) : ASp := spBT T
def sp_encode (T : Txt K mg) : ASp := spBT T
def sp_best_offsets (T : Txt K mg) : AGpX := fun ds F ms Q Ea => ∃ x w ps d i, ds = [.ref x, d] ∧ Sgn T.c_Sign ms x w ps ∧ 0 ≤ w ∧ w ≤ 24 ∧ badT w d i ∧ ∀ F', Ex F F' → Ea T.c_InvalidText [("index", .int i)] F' ms
def sp_missing_letters (T : Txt K mg) : ASp := fun ds F ms Q Ea => ∃ x w ps d e i, ds = [.ref x, d, e] ∧ Sgn T.c_Sign ms x w ps ∧ 0 ≤ w ∧ w ≤ 24 ∧ badT w d i ∧ ∀ F', Ex F F' → Ea T.c_InvalidText [("index", .int i)] F' ms
def sp_Watcher___init__ (T : Txt K mg) : ASp := fun ds F ms Q Ea => ∃ (z : Addr) (R : Ms) (x : Addr) (w : Int) (ps : List Pr) (d : D) (i : Int), ds = [.ref z, .ref x, d] ∧ ms = (z, .ins T.c_Watcher []) :: R ∧ Sgn T.c_Sign R x w ps ∧ 0 ≤ w ∧ w ≤ 24 ∧ badT w d i ∧ ∀ F' J, Ex F F' → Ea T.c_InvalidText [("index", .int i)] F' (J ++ R)
end
def LQ : Str := (("law" : Str) ++ ".<locals>.") ++ "<lambda>"
def spLaw (P : Addr) : ASp := fun ds F ms Q _ => ∃ ns : List Int, ds = [.rdl (ns.map D.int)] ∧ ns.length ≤ 63 ∧ TabA F ms 0 P LQ ∧ ∀ F ms, Q F ms (.bl true)
def sp_law {K : Frg} {mg : Str → Option Value} (T : Txt K mg) : ASp := spLaw T.pp_law
abbrev OK_is_int_in (P : Program) (w : World) (base : Heap) {K : Frg} {mg : Str → Option Value} (T : Txt K mg) : Prop := FnOk P w K mg base CX0 1 T.a_is_int_in T.d_is_int_in ["value", "low", "high"] (toSp K (sp_is_int_in T))
abbrev OK_is_pair (P : Program) (w : World) (base : Heap) {K : Frg} {mg : Str → Option Value} (T : Txt K mg) : Prop := FnOk P w K mg base CX0 1 T.a_is_pair T.d_is_pair ["value"] (toSp K (sp_is_pair T))
abbrev OK_Sign___init__ (P : Program) (w : World) (base : Heap) {K : Frg} {mg : Str → Option Value} (T : Txt K mg) : Prop := FnOk P w K mg base CX0 2 T.a_Sign___init__ T.d_Sign___init__ ["self", "width", "pairs"] (toSp K (sp_Sign___init__ T))
abbrev OK_Sign_blank (P : Program) (w : World) (base : Heap) {K : Frg} {mg : Str → Option Value} (T : Txt K mg) : Prop := FnOk P w K mg base CX0 1 T.a_Sign_blank T.d_Sign_blank ["self"] (toSp K (sp_Sign_blank T))
abbrev OK_Sign_piece (P : Program) (w : World) (base : Heap) {K : Frg} {mg : Str → Option Value} (T : Txt K mg) : Prop := FnOk P w K mg base CX0 1 T.a_Sign_piece T.d_Sign_piece ["self", "letter"] (toSp K (sp_Sign_piece T))
abbrev OK_Sign_row_of (P : Program) (w : World) (base : Heap) {K : Frg} {mg : Str → Option Value} (T : Txt K mg) : Prop := FnOk P w K mg base CX0 1 T.a_Sign_row_of T.d_Sign_row_of ["self", "text", "offset"] (toSp K (sp_Sign_row_of T))
abbrev OK_Sign_is_text (P : Program) (w : World) (base : Heap) {K : Frg} {mg : Str → Option Value} (T : Txt K mg) : Prop := FnOk P w K mg base CX0 1 T.a_Sign_is_text T.d_Sign_is_text ["self", "value"] (toSp K (sp_Sign_is_text T))
abbrev OK_Sign_check_texts (P : Program) (w : World) (base : Heap) {K : Frg} {mg : Str → Option Value} (T : Txt K mg) : Prop := FnOk P w K mg base (L2.CX P w) 4 T.a_Sign_check_texts T.d_Sign_check_texts ["self", "texts"] (toSp K (sp_Sign_check_texts T))
abbrev OK_links (P : Program) (w : World) (base : Heap) {K : Frg} {mg : Str → Option Value} (T : Txt K mg) : Prop := FnOk P w K mg base CX0 2 T.a_links T.d_links ["sign", "before", "after"] (toSp K (sp_links T))
abbrev OK_surplus (P : Program) (w : World) (base : Heap) {K : Frg} {mg : Str → Option Value} (T : Txt K mg) : Prop := FnOk P w K mg base CX0 1 T.a_surplus T.d_surplus ["changed"] (toSp K (sp_surplus T))
abbrev OK_groups (P : Program) (w : World) (base : Heap) {K : Frg} {mg : Str → Option Value} (T : Txt K mg) : Prop := FnOk P w K mg base CX0 2 T.a_groups T.d_groups ["changed"] (toSp K (sp_groups T))
abbrev OK_shares (P : Program) (w : World) (base : Heap) {K : Frg} {mg : Str → Option Value} (T : Txt K mg) : Prop := FnOk P w K mg base CX0 1 T.a_shares T.d_shares ["group", "link"] (toSp K (sp_shares T))
abbrev OK_is_closed (P : Program) (w : World) (base : Heap) {K : Frg} {mg : Str → Option Value} (T : Txt K mg) : Prop := FnOk P w K mg base CX0 1 T.a_is_closed T.d_is_closed ["group"] (toSp K (sp_is_closed T))
abbrev OK_cost (P : Program) (w : World) (base : Heap) {K : Frg} {mg : Str → Option Value} (T : Txt K mg) : Prop := FnOk P w K mg base CX0 3 T.a_cost T.d_cost ["sign", "before", "after"] (toSp K (sp_cost T))
abbrev OK_check_offsets (P : Program) (w : World) (base : Heap) {K : Frg} {mg : Str → Option Value} (T : Txt K mg) : Prop := FnOk P w K mg base (L2.CX P w) 4 T.a_check_offsets T.d_check_offsets ["sign", "texts", "offsets"] (toSp K (sp_check_offsets T))
abbrev OK_add (P : Program) (w : World) (base : Heap) {K : Frg} {mg : Str → Option Value} (T : Txt K mg) : Prop := FnOk P w K mg base CX0 1 T.a_add T.d_add ["one", "other"] (toSp K (sp_add T))
abbrev OK_fixed_cost (P : Program) (w : World) (base : Heap) {K : Frg} {mg : Str → Option Value} (T : Txt K mg) : Prop := FnOk P w K mg base (L2.CX P w) 5 T.a_fixed_cost T.d_fixed_cost ["sign", "texts", "offsets"] (toSp K (sp_fixed_cost T))
abbrev OK_season_cost (P : Program) (w : World) (base : Heap) {K : Frg} {mg : Str → Option Value} (T : Txt K mg) : Prop := FnOk P w K mg base (L2.CX P w) 5 T.a_season_cost T.d_season_cost ["sign", "texts"] (toSp K (sp_season_cost T))
abbrev OK_count_best (P : Program) (w : World) (base : Heap) {K : Frg} {mg : Str → Option Value} (T : Txt K mg) : Prop := FnOk P w K mg base (L2.CX P w) 5 T.a_count_best T.d_count_best ["sign", "texts"] (toSp K (sp_count_best T))
abbrev OK_best_offsets (P : Program) (w : World) (base : Heap) {K : Frg} {mg : Str → Option Value} (T : Txt K mg) : Prop := GFn P w K mg base 5 T.a_best_offsets T.d_best_offsets ["sign", "texts"] (toSpGX K (sp_best_offsets T))
abbrev OK_needed_letters (P : Program) (w : World) (base : Heap) {K : Frg} {mg : Str → Option Value} (T : Txt K mg) : Prop := FnOk P w K mg base (L2.CX P w) 5 T.a_needed_letters T.d_needed_letters ["sign", "texts"] (toSp K (sp_needed_letters T))
abbrev OK_missing_letters (P : Program) (w : World) (base : Heap) {K : Frg} {mg : Str → Option Value} (T : Txt K mg) : Prop := FnOk P w K mg base (L2.CX P w) 6 T.a_missing_letters T.d_missing_letters ["sign", "texts", "stock"] (toSp K (sp_missing_letters T))
abbrev OK_best_order (P : Program) (w : World) (base : Heap) {K : Frg} {mg : Str → Option Value} (T : Txt K mg) : Prop := FnOk P w K mg base (L2.CX P w) 5 T.a_best_order T.d_best_order ["sign", "texts"] (toSp K (sp_best_order T))
abbrev OK_needless_pairs (P : Program) (w : World) (base : Heap) {K : Frg} {mg : Str → Option Value} (T : Txt K mg) : Prop := FnOk P w K mg base (L2.CX P w) 6 T.a_needless_pairs T.d_needless_pairs ["sign", "texts"] (toSp K (sp_needless_pairs T))
abbrev OK_Watcher___init__ (P : Program) (w : World) (base : Heap) {K : Frg} {mg : Str → Option Value} (T : Txt K mg) : Prop := FnOk P w K mg base (L2.CX P w) 5 T.a_Watcher___init__ T.d_Watcher___init__ ["self", "sign", "texts"] (toSp K (sp_Watcher___init__ T))
abbrev OK_format_season (P : Program) (w : World) (base : Heap) {K : Frg} {mg : Str → Option Value} (T : Txt K mg) : Prop := FnOk P w K mg base (L2.CX P w) 5 T.a_format_season T.d_format_season ["sign", "texts", "offsets"] (toSp K (sp_format_season T))
abbrev OK_encode (P : Program) (w : World) (base : Heap) {K : Frg} {mg : Str → Option Value} (T : Txt K mg) : Prop := FnOk P w K mg base (L2.CX P w) 5 T.a_encode T.d_encode ["sign", "texts"] (toSp K (sp_encode T))
abbrev OK_InvalidText___init__ (P : Program) (w : World) (base : Heap) {K : Frg} {mg : Str → Option Value} (T : Txt K mg) : Prop := FnOk P w K mg base CX0 1 T.a_InvalidText___init__ T.d_InvalidText___init__ ["self", "index"] (spI1 T.c_InvalidText "index")
abbrev OK_InvalidOffset___init__ (P : Program) (w : World) (base : Heap) {K : Frg} {mg : Str → Option Value} (T : Txt K mg) : Prop := FnOk P w K mg base CX0 1 T.a_InvalidOffset___init__ T.d_InvalidOffset___init__ ["self", "index"] (spI1 T.c_InvalidOffset "index")
abbrev OK__law_random (P : Program) (w : World) (base : Heap) {K : Frg} {mg : Str → Option Value} (T : Txt K mg) : Prop := FnOk P w K mg base CX0 1 T.a__law_random T.d__law_random ["_law_script", "_law_salt"] (toSp K (sp__law_random T))
abbrev OK__law_below (P : Program) (w : World) (base : Heap) {K : Frg} {mg : Str → Option Value} (T : Txt K mg) : Prop := FnOk P w K mg base CX0 1 T.a__law_below T.d__law_below ["_law_d", "_law_limit"] (toSp K (sp__law_below T))
abbrev OK__law_text (P : Program) (w : World) (base : Heap) {K : Frg} {mg : Str → Option Value} (T : Txt K mg) : Prop := FnOk P w K mg base CX0 2 T.a__law_text T.d__law_text ["_law_d", "_law_most", "_law_letters"] (toSp K (sp__law_text T))
abbrev OK__law_texts (P : Program) (w : World) (base : Heap) {K : Frg} {mg : Str → Option Value} (T : Txt K mg) : Prop := FnOk P w K mg base CX0 3 T.a__law_texts T.d__law_texts ["_law_d", "_law_most", "_law_width", "_law_letters"] (toSp K (sp__law_texts T))

abbrev OK_law (P : Program) (w : World) (base : Heap) {K : Frg} {mg : Str → Option Value} (T : Txt K mg) : Prop := LamX.TabB base mg T.cc_law T.pp_law → FnOk P w K mg base CX0 13 T.a_law T.d_law ["_law_script"] (toSp K (sp_law T))
end K14


namespace K14
open PySem PySem.Spec L2 PyProof.Rows AL
local macro_rules | `(tactic| walk_at "isi") => `(tactic| first | with_reducible refine isi_non_bool ?_ | with_reducible refine isi_non_int ?_ | with_reducible refine isi_non_str ?_ | with_reducible refine isi_non_tuple ?_ | with_reducible refine isi_non_list ?_ | with_reducible refine isi_non_dict ?_ | with_reducible refine isi_bl_bool ?_ | with_reducible refine isi_bl_int ?_ | with_reducible refine isi_bl_str ?_ | with_reducible refine isi_bl_tuple ?_ | with_reducible refine isi_bl_list ?_ | with_reducible refine isi_bl_dict ?_ | with_reducible refine isi_int_bool ?_ | with_reducible refine isi_int_int ?_ | with_reducible refine isi_int_str ?_ | with_reducible refine isi_int_tuple ?_ | with_reducible refine isi_int_list ?_ | with_reducible refine isi_int_dict ?_ | with_reducible refine isi_str_bool ?_ | with_reducible refine isi_str_int ?_ | with_reducible refine isi_str_str ?_ | with_reducible refine isi_str_tuple ?_ | with_reducible refine isi_str_list ?_ | with_reducible refine isi_str_dict ?_ | with_reducible refine isi_tup_bool ?_ | with_reducible refine isi_tup_int ?_ | with_reducible refine isi_tup_str ?_ | with_reducible refine isi_tup_tuple ?_ | with_reducible refine isi_tup_list ?_ | with_reducible refine isi_tup_dict ?_ | with_reducible refine isi_lst_bool ?_ | with_reducible refine isi_lst_int ?_ | with_reducible refine isi_lst_str ?_ | with_reducible refine isi_lst_tuple ?_ | with_reducible refine isi_lst_list ?_ | with_reducible refine isi_lst_dict ?_ | with_reducible refine isi_dic_bool ?_ | with_reducible refine isi_dic_int ?_ | with_reducible refine isi_dic_str ?_ | with_reducible refine isi_dic_tuple ?_ | with_reducible refine isi_dic_list ?_ | with_reducible refine isi_dic_dict ?_)
local macro_rules | `(tactic| walk_at "al1") => `(tactic| first
  | with_reducible refine as_seq ?_ | with_reducible refine as_ret ?_ | with_reducible refine as_retN ?_ | with_reducible refine as_if ?_ | with_reducible refine as_drop ?_ | with_reducible refine as_asg ?_ | with_reducible refine as_next ?_ | with_reducible refine as_break ?_ | with_reducible refine as_cont ?_ | with_reducible refine as_par ?_
  | ((with_reducible refine' ae_var ?_ ?_); rotate_left; exact rfl) | with_reducible refine ae_int ?_ | with_reducible refine ae_bl ?_ | with_reducible refine ae_str ?_ | with_reducible refine ae_non ?_ | with_reducible refine ae_ty ?_ | with_reducible refine ae_ref ?_ | with_reducible refine ae_op ?_ | with_reducible refine ae_call1 ?_ | with_reducible refine ae_call ?_ | with_reducible refine ae_notV ?_ | with_reducible refine ae_andV ?_ | with_reducible refine ae_orV ?_ | with_reducible refine ae_chain ?_ | with_reducible refine ae_if ?_ | with_reducible refine aa_cons ?_ | with_reducible refine aa_nil ?_ | with_reducible refine at_test ?_ | with_reducible refine at_B ?_ | with_reducible refine at_and ?_ | with_reducible refine at_or ?_ | with_reducible refine at_not ?_ | with_reducible refine at_yes ?_ | with_reducible refine ex_bl ?_ | with_reducible refine ex_int ?_ | with_reducible refine ex_str ?_ | with_reducible refine ex_par ?_ | with_reducible refine and_T ?_ | with_reducible refine and_F ?_ | with_reducible refine and_T' ?_ | with_reducible refine and_F' ?_ | with_reducible refine and_nT ?_ | with_reducible refine and_nF ?_ | with_reducible refine and_nT' ?_ | with_reducible refine and_nF' ?_ | with_reducible refine ar_ADDi ?_ | with_reducible refine ar_SUB ?_ | with_reducible refine ar_ltI ?_ | with_reducible refine ar_leI ?_ | with_reducible refine ar_gtI ?_ | with_reducible refine ar_geI ?_ | with_reducible refine ar_EQi ?_ | with_reducible refine ar_EQs ?_ | with_reducible refine ar_EQb ?_ | with_reducible refine ar_NEi ?_ | with_reducible refine ar_NEs ?_ | with_reducible refine ar_NEb ?_ | with_reducible refine isN_non ?_ | with_reducible refine isN_bl ?_ | with_reducible refine isN_int ?_ | with_reducible refine isN_str ?_ | with_reducible refine isN_tup ?_ | with_reducible refine isN_lst ?_ | with_reducible refine isN_ref ?_ | with_reducible refine notN_non ?_ | with_reducible refine notN_bl ?_ | with_reducible refine notN_int ?_ | with_reducible refine notN_str ?_ | with_reducible refine notN_tup ?_ | with_reducible refine notN_lst ?_ | with_reducible refine notN_ref ?_ | with_reducible refine ar_INs ?_ | with_reducible refine ar_NOTINs ?_ | with_reducible refine ac_abs ?_ | with_reducible refine ac_lenL ?_ | with_reducible refine ac_lenT ?_ | with_reducible refine ac_lenR ?_ | with_reducible refine ac_minI ?_ | with_reducible refine ac_maxI ?_ | with_reducible refine ac_minS ?_
  | walk_at "isi")
local macro_rules | `(tactic| walk_at "al") => `(tactic| repeat walk_at "al1")

theorem valD_cons (k' k : Key) (d : D) (l : List (Key × D)) : valD ((k', d) :: l) k = if k' = k then some d else valD l k := by
  unfold valD
  rw [List.find?_cons]
  by_cases h : k' = k
  · simp [h]
  · simp [h]
theorem kS_inj {a b : Nat} : kS a = kS b ↔ b = a := ⟨fun z => by simpa [kS, sg] using z.symm, fun z => by rw [z]⟩
theorem val_kvs (ps : List Pr) (c : Nat) : valD (kvsOf ps) (kS c) = (ps.find? fun p => c = p.1 ∨ c = p.2).map fun p => .str (sg (if c = p.1 then p.2 else p.1)) := by
  induction ps with
  | nil => rfl
  | cons p ps ih =>
    rw [kvsOf, valD_cons, valD_cons, ih, List.find?_cons]
    by_cases h1 : c = p.1
    · rw [if_pos (kS_inj.mpr h1)]
      simp [h1]
    · rw [if_neg (fun z => h1 (kS_inj.mp z))]
      by_cases h2 : c = p.2
      · rw [if_pos (kS_inj.mpr h2)]
        have h3 : ¬ p.2 = p.1 := fun z => h1 (h2.trans z)
        simp [h2, h3]
      · rw [if_neg (fun z => h2 (kS_inj.mp z))]
        simp [h1, h2]
theorem chars_at {z : Str} {i : Nat} {d : D} (h : (charsD z)[i]? = some d) : ∃ c, z.cps.toList[i]? = some c ∧ d = .str (sg c) := by
  unfold charsD at h
  rw [List.getElem?_map] at h
  cases e : z.cps.toList[i]? with
  | none => rw [e] at h; cases h
  | some c => rw [e] at h; exact ⟨c, rfl, (Option.some.inj h).symm⟩
theorem chars_len (z : Str) : (charsD z).length = z.length := by unfold charsD; rw [List.length_map]; rfl
theorem enum_at {ds : List D} {i : Nat} {d : D} (h : (enumD ds)[i]? = some d) : ∃ e, ds[i]? = some e ∧ d = .tup [.int (i : Nat), e] := by
  unfold enumD at h
  rw [List.getElem?_map, List.getElem?_zipIdx] at h
  cases e : ds[i]? with
  | none => rw [e] at h; cases h
  | some c => rw [e] at h; exact ⟨c, rfl, by simpa using (Option.some.inj h).symm⟩
theorem enum_len (ds : List D) : (enumD ds).length = ds.length := by unfold enumD; rw [List.length_map, List.length_zipIdx]
theorem pairs_at {ps : List Pr} {n : Nat} {d : D} (h : (ps.map pD)[n]? = some d) : ∃ p, ps[n]? = some p ∧ d = pD p := by
  rw [List.getElem?_map] at h
  cases e : ps[n]? with
  | none => rw [e] at h; cases h
  | some p => rw [e] at h; exact ⟨p, rfl, (Option.some.inj h).symm⟩
theorem and_oF {α : Type} {o : Option α} {A B : Prop} (hp : o = none) (h : B) : (o.isSome = true → A) ∧ (o.isSome = false → B) := by subst hp; exact and_F h
theorem and_oF' {α : Type} {o : Option α} {A B : Prop} (hp : o = none) (h : B) : (o.isSome = false → B) ∧ (o.isSome = true → A) := by subst hp; exact and_F' h
theorem putKD_new {kvs : List (Key × D)} {k : Key} {d : D} (h : valD kvs k = none) : putKD kvs k d = kvs ++ [(k, d)] := by
  unfold putKD
  rw [if_neg]
  unfold valD at h
  rw [Option.map_eq_none_iff, List.find?_eq_none] at h
  intro z
  rw [List.any_eq_true] at z
  obtain ⟨x, hx, e⟩ := z
  exact h x hx e
theorem val_none {ps : List Pr} {c : Nat} (h : c ∉ flat ps) : valD (kvsOf ps) (kS c) = none := by
  rw [val_kvs, Option.map_eq_none_iff, List.find?_eq_none]
  intro p hp z
  simp only [decide_eq_true_eq] at z
  refine h (List.mem_flatMap.mpr ⟨p, hp, ?_⟩)
  rcases z with z | z <;> simp [z]
theorem valD_app {a b : List (Key × D)} {k : Key} (h : valD a k = none) : valD (a ++ b) k = valD b k := by
  unfold valD at *
  rw [Option.map_eq_none_iff] at h
  rw [List.find?_append, h]
  rfl
theorem kvs_app (a : List Pr) (p : Pr) : kvsOf (a ++ [p]) = kvsOf a ++ [(kS p.1, .str (sg p.2)), (kS p.2, .str (sg p.1))] := by
  induction a with
  | nil => rfl
  | cons q a ih => rw [List.cons_append, kvsOf, ih, kvsOf]; rfl
theorem flat_split {ps : List Pr} {i : Nat} {p : Pr} (h : ps[i]? = some p) : flat ps = flat (ps.take i) ++ (p.1 :: p.2 :: flat (ps.drop (i + 1))) := by
  have hi := (List.getElem?_eq_some_iff.mp h)
  obtain ⟨hi, e⟩ := hi
  have : ps = ps.take i ++ p :: ps.drop (i + 1) := by
    rw [← e, List.getElem_cons_drop, List.take_append_drop]
  conv => lhs; rw [this]
  unfold flat
  rw [List.flatMap_append, List.flatMap_cons]
  rfl
theorem flat_new {ps : List Pr} {i : Nat} {p : Pr} (h : ps[i]? = some p) (nd : (flat ps).Nodup) : p.1 ∉ flat (ps.take i) ∧ p.2 ∉ flat (ps.take i) ∧ p.1 ≠ p.2 := by
  rw [flat_split h] at nd
  have h1 := List.nodup_append.mp nd
  refine ⟨fun z => h1.2.2 _ z _ (by simp) rfl, fun z => h1.2.2 _ z _ (by simp) rfl, fun z => ?_⟩
  have := h1.2.1
  rw [z] at this
  simp at this
theorem flat_mem {ps : List Pr} {i : Nat} {p : Pr} (h : ps[i]? = some p) : p.1 ∈ flat ps ∧ p.2 ∈ flat ps := by
  rw [flat_split h]
  simp
theorem putD_len (f : Str) (d : D) : ∀ fs : List (Str × D), (putD f d fs).length ≤ fs.length + 1
  | [] => Nat.le_refl _
  | (g, e) :: fs => by
    unfold putD
    split
    · simp
    · simp [putD_len f d fs]
theorem kvs_len (ps : List Pr) : (kvsOf ps).length = 2 * ps.length := by
  induction ps with
  | nil => rfl
  | cons p ps ih => rw [kvsOf, List.length_cons, List.length_cons, ih, List.length_cons]; omega
theorem eqv_nil (ds : List D) : eqvD (.lst ds) (.lst []) = ds.isEmpty := by
  cases ds with
  | nil => rfl
  | cons d ds => simp [eqvD, toPy, toPyL, PyData.eqv, PyData.eqvAll]
theorem chr_ok {xs : List D} (h : ∀ x ∈ xs, ∃ c, x = .str (sg c) ∧ c < 128) : okL xs = true ∧ depL xs = 0 := by
  induction xs with
  | nil => exact ⟨rfl, rfl⟩
  | cons x xs ih =>
    obtain ⟨c, rfl, hc⟩ := h x (List.mem_cons_self ..)
    obtain ⟨i1, i2⟩ := ih fun y hy => h y (List.mem_cons_of_mem _ hy)
    have e : okD (.str (sg c)) = true := by
      unfold okD PyData.strOk sg
      simp
      omega
    refine ⟨?_, ?_⟩
    · unfold okL; rw [e, i1]; rfl
    · unfold depL; rw [i2]; rfl
theorem inL_lt {c : Nat} (h : inL c) : c < 128 := by
  have : (LET.cps.toList.all fun c => decide (c < 128)) = true := by decide +kernel
  exact of_decide_eq_true (List.all_eq_true.mp this c h)
theorem perm_chars {ys : List D} {z : Str} (h : ys.Perm (charsD z)) : ∃ cs : List Nat, ys = cs.map (fun c => .str (sg c)) ∧ cs.Perm z.cps.toList := by
  have hall : ∀ y ∈ ys, ∃ c, y = D.str (sg c) := fun y hy => by
    obtain ⟨c, _, hc⟩ := List.mem_map.mp (h.mem_iff.mp hy)
    exact ⟨c, hc.symm⟩
  obtain ⟨cs, rfl⟩ : ∃ cs : List Nat, ys = cs.map (fun c => .str (sg c)) := by
    clear h
    induction ys with
    | nil => exact ⟨[], rfl⟩
    | cons y ys ih =>
      obtain ⟨c, rfl⟩ := hall y (List.mem_cons_self ..)
      obtain ⟨cs, rfl⟩ := ih fun z hz => hall z (List.mem_cons_of_mem _ hz)
      exact ⟨c :: cs, rfl⟩
  refine ⟨cs, rfl, ?_⟩
  have h2 := h.map (fun d => match d with
    | .str s => s.cps.toList.headD 0
    | _ => 0)
  unfold charsD at h2
  rw [List.map_map, List.map_map] at h2
  have hid : ((fun d => match d with
    | .str s => s.cps.toList.headD 0
    | _ => 0) ∘ fun c => D.str (sg c)) = (id : Nat → Nat) := rfl
  rw [hid, List.map_id, List.map_id] at h2
  exact h2
theorem range_at {lo : Int} {n i : Nat} {d : D} (h : (rangeD lo n)[i]? = some d) : i < n ∧ d = .int (lo + (i : Nat)) := by
  unfold rangeD at h
  rw [List.getElem?_map] at h
  cases e : (List.range n)[i]? with
  | none => rw [e] at h; cases h
  | some j =>
    rw [e] at h
    have h1 := List.getElem?_eq_some_iff.mp e
    obtain ⟨h1, h2⟩ := h1
    rw [List.length_range] at h1
    rw [List.getElem_range] at h2
    subst h2
    exact ⟨h1, (Option.some.inj h).symm⟩
theorem range_len {lo : Int} {n : Nat} : (rangeD lo n).length = n := by unfold rangeD; rw [List.length_map, List.length_range]
theorem cut_len {z : Str} (h : 2 ≤ z.length) : (cutS z (some 1) (some (-1))).length + 2 = z.length := by
  have e1 : HT.sIx z.length 0 (some 1) = 1 := by
    show (if (1 : Int) < 0 then ((1 : Int) + (z.length : Int)).toNat else min (1 : Int).toNat z.length) = 1
    rw [if_neg (by decide)]
    show min 1 z.length = 1
    omega
  have e2 : HT.sIx z.length z.length (some (-1)) = z.length - 1 := by
    show (if (-1 : Int) < 0 then (-1 + (z.length : Int)).toNat else min (-1 : Int).toNat z.length) = _
    rw [if_pos (by decide)]
    omega
  unfold cutS
  rw [e1, e2]
  have e4 : ∀ l : List Nat, (⟨l.toArray⟩ : Str).length = l.length := fun l => List.size_toArray ..
  have e3 : z.cps.toList.length = z.length := rfl
  rw [e4, List.length_take, List.length_drop, e3]
  omega
theorem sign_mem {z : Str} {n : Int} {c : Nat} (h : c ∈ (z ++ mulS sp1 n).cps.toList) : c = 32 ∨ c ∈ z.cps.toList := by
  have e : (z ++ mulS sp1 n).cps.toList = z.cps.toList ++ (mulS sp1 n).cps.toList := Array.toList_append
  rw [e] at h
  rcases List.mem_append.mp h with h | h
  · exact .inr h
  · left
    have : (mulS sp1 n).cps.toList = (List.replicate n.toNat [32]).flatten := rfl
    rw [this] at h
    obtain ⟨l, hl, hc⟩ := List.mem_flatten.mp h
    rw [List.eq_of_mem_replicate hl] at hc
    exact List.mem_singleton.mp hc
theorem sum_ones : ∀ r : List Nat, (r.map ((fun s : Str => s.length) ∘ sg)).sum = r.length
  | [] => rfl
  | c :: r => by rw [List.map_cons, List.sum_cons, sum_ones r, List.length_cons]; show 1 + r.length = _; omega
theorem join_sg0 : ∀ r : List Nat, (Str.join (Str.ofString "") (r.map sg)).cps.toList = r
  | [] => rfl
  | [c] => rfl
  | c :: d :: r => by
    have e : Str.join (Str.ofString "") ((c :: d :: r).map sg) = sg c ++ Str.ofString "" ++ Str.join (Str.ofString "") ((d :: r).map sg) := rfl
    have e2 : ∀ a b : Str, (a ++ b).cps.toList = a.cps.toList ++ b.cps.toList := fun a b => Array.toList_append
    rw [e, e2, e2, join_sg0 (d :: r)]
    rfl
theorem join_sg (r : List Nat) : Txt.join (Str.ofString "") (r.map sg) = ⟨r.toArray⟩ := by
  have e := join_sg0 r
  show Builtin.Str.glued (PySem.Str.ofString "") (r.map sg) = _
  rw [StrLaws.glued_eq_join]
  cases h : Str.join (Str.ofString "") (r.map sg) with
  | mk a =>
    rw [h] at e
    rw [← e]
theorem erase_perm {α : Type} : ∀ {l : List α} {j : Nat} (hj : j < l.length), ([l[j]] ++ l.eraseIdx j).Perm l
  | a :: l, 0, _ => List.Perm.refl _
  | a :: l, j + 1, hj => by
    have ih := erase_perm (l := l) (j := j) (by simpa using hj)
    have hj' : j < l.length := by simpa using hj
    show (l[j]'hj' :: a :: l.eraseIdx j).Perm (a :: l)
    exact (List.Perm.swap a _ _).trans (List.Perm.cons a ih)
theorem rep_map (n : Nat) : List.replicate n (D.bl true) = (List.replicate n true).map D.bl := by rw [List.map_replicate]
theorem all_rep (n : Nat) : (List.replicate n true).all id = true := by
  rw [List.all_eq_true]
  intro x hx
  exact List.eq_of_mem_replicate hx
theorem Sgn.cons {C : Addr} {ms : Ms} {x : Addr} {w : Int} {ps : List Pr} {p : Addr × MO} : Sgn C ms x w ps → Sgn C (p :: ms) x w ps := fun ⟨i, j, m, h1, h2⟩ => ⟨i + 1, j + 1, m, h1, h2⟩
theorem Sgn.setL {C : Addr} {ms : Ms} {x l : Addr} {w : Int} {ps : List Pr} {k : Nat} {st st' : List D} (hk : ms[k]? = some (l, .lst st)) : Sgn C ms x w ps → Sgn C (ms.set k (l, .lst st')) x w ps := fun ⟨i, j, m, h1, h2⟩ => by
  refine ⟨i, j, m, ?_, ?_⟩
  · rw [List.getElem?_set_ne]
    · exact h1
    · rintro rfl
      rw [hk] at h1
      cases h1
  · rw [List.getElem?_set_ne]
    · exact h2
    · rintro rfl
      rw [hk] at h2
      cases h2
def okZ (z : Str) : Prop := z.cps.toList.Nodup ∧ (∀ c ∈ z.cps.toList, inL c) ∧ 0 < z.length ∧ z.length ≤ 100
def ZS : List D := [.str "ABCDMW", .str "ABCDEFGHIJ6789", .str "0Z9A"]
theorem plain_str (n : Nat) (z : Str) : plainN n (.str z) := by cases n <;> simp [plainN]
theorem plain_int (n : Nat) (z : Int) : plainN n (.int z) := by cases n <;> simp [plainN]
section
variable {P : Program} {w : World} {K : Frg} {mg : Str → Option Value} {base : Heap}
theorem ok_is_pair (T : Txt K mg) : OK_is_pair P w base T := by
  refine fn_ok T.F_is_pair sc_is_pair (by rintro _ _ _ _ _ ⟨v, rfl, _⟩; rfl) (fun cdv A outer s H E hr => ?_)
  have hu64 := hr.units
  refine ⟨_, (pss_cons (ps_if ((pw_or (pt_not (pt_val (pe_callB (kISI (K := K) rfl) (by rfl) T.g_isinstance boot_isinstance (pa_cons (pv 0) (pa_cons (pe_bltn (v := .ty "str") (by rfl) T.g_str boot_str rfl) pa_nil))))) (pw_or (pt_cmpR (kNE (K := K) rfl hu64) (pe_callB (kLEN (K := K) rfl) (by rfl) T.g_len boot_len (pa_cons (pv 0) pa_nil)) pe_int (nomark _)) (pw_or1 (pt_cmpR (kEQ (K := K) rfl hu64) (pe_ix (kIX (K := K) rfl) (pv 0) pe_int (fun _ _ => rfl)) (pe_ix (kIX (K := K) rfl) (pv 0) pe_int (fun _ _ => rfl)) (nomark _)))))).pt (pss_one (ps_ret pe_bl)) pss_nil)
      (pss_one (ps_ret (pe_and (pe_cmpR (kIN (K := K) rfl) (pe_ix (kIX (K := K) rfl) (pv 0) pe_int (fun _ _ => rfl)) (pe_glob (by rfl) T.m_LETTERS T.r_LETTERS) (by with_unfolding_all rfl)) (pe_one (pe_cmpR (kIN (K := K) rfl) (pe_ix (kIX (K := K) rfl) (pv 0) pe_int (fun _ _ => rfl)) (pe_glob (by rfl) T.m_LETTERS T.r_LETTERS) (by with_unfolding_all rfl))))))), ?_⟩
  rintro _ F ms Q Ea ⟨p, rfl, h1, h2, h3, q⟩
  have e1 : decide (((pS p).length : Int) = 2) = true := decide_eq_true rfl
  have e2 : decide (sg p.1 = sg p.2) = false := decide_eq_false fun z => h1 (by simpa [sg] using z)
  show AS _ _ _ _ [some (.str (pS p))] _
  walk_at "al"
  refine ac_lenS (z := pS p) (by show 2 ≤ 100000; decide) ?_
  walk_at "al"
  rw [e1]
  walk_at "al"
  refine ar_ixS (z := pS p) (c := p.1) (by show 2 ≤ 100000; decide) rfl ?_
  walk_at "al"
  refine ar_ixS (z := pS p) (c := p.2) (by show 2 ≤ 100000; decide) rfl ?_
  walk_at "al"
  rw [e2]
  walk_at "al"
  refine ar_ixS (z := pS p) (c := p.1) (by show 2 ≤ 100000; decide) rfl ?_
  walk_at "al"
  refine and_dT h2 ?_
  walk_at "al"
  refine ar_ixS (z := pS p) (c := p.2) (by show 2 ≤ 100000; decide) rfl ?_
  walk_at "al"
  have e3 : decide (p.2 ∈ LET.cps.toList) = true := decide_eq_true h3
  show Q F ms (.bl (decide (p.2 ∈ LET.cps.toList)))
  rw [e3]
  exact q
theorem ok__law_below (T : Txt K mg) : OK__law_below P w base T := by
  refine fn_ok T.F__law_below sc__law_below (by rintro _ _ _ _ _ ⟨k, l, st, n, rfl, _⟩; rfl) (fun cdv A outer s H E hr => ?_)
  have hu64 := hr.units
  refine ⟨_, (pss_cons (ps_if ((pw_and (pt_cmpR (kEQ (K := K) rfl hu64) (pe_ix (kIX (K := K) rfl) (pv 0) pe_int (fun _ _ => rfl)) pe_int (nomark _)) (pw_and1 (pt_cmpR op_gt (pe_callB (kLEN (K := K) rfl) (by rfl) T.g_len boot_len (pa_cons (pv 0) pa_nil)) pe_int (nomark _))))).pt (pss_one (ps_asg (pe_bmk (K := K) rfl PySem.F.plainAttrs_list PySem.F.slot_list_pop PySem.F.type_list_pop mt_popAt (pv 0) (pa_cons pe_int pa_nil)) (pg_sub (pv 0) pe_int set_list))) pss_nil)
      (pss_cons (ps_if (pt_cmpR op_gt (pe_ix (kIX (K := K) rfl) (pv 0) pe_int (fun _ _ => rfl)) pe_int (nomark _)) (pss_cons (ps_set (i := 2) sc__law_below.nd rfl (by first | exact Or.inl rfl | exact Or.inr rfl) (pe_op op_mod (pe_ix (kIX (K := K) rfl) (pv 0) pe_int (fun _ _ => rfl)) (pv 1)))
      (pss_cons (ps_asg (pe_op op_fdiv (pe_ix (kIX (K := K) rfl) (pv 0) pe_int (fun _ _ => rfl)) (pv 1)) (pg_sub (pv 0) pe_int set_list))
      (pss_one (ps_ret (pv 2))))) pss_nil)
      (pss_cons (ps_asg (pe_op op_mod (pe_op (kADD (K := K) rfl) (pe_op (kMUL (K := K) rfl) (pe_ix (kIX (K := K) rfl) (pv 0) pe_int (fun _ _ => rfl)) pe_int) pe_int) pe_int) (pg_sub (pv 0) pe_int set_list))
      (pss_one (ps_ret (pe_op op_mod (pe_op op_fdiv (pe_ix (kIX (K := K) rfl) (pv 0) pe_int (fun _ _ => rfl)) pe_int) (pv 1))))))), ?_⟩
  rintro _ F ms Q Ea ⟨k, l, _, n, rfl, hk, ⟨s0, c0, rest, rfl, hs0, hs1, hc0, hrest, hlen⟩, n0, n1, q⟩
  have hkl : k < ms.length := (List.getElem?_eq_some_iff.mp hk).1
  refine as_cut (fun F' ms' S' => F' = F ∧ S' = startS N__law_below [.ref l, .int n] ∧ ∃ (c : Int) (R' : List Int), ms' = ms.set k (l, .lst (.int s0 :: .int c :: R'.map D.int)) ∧ 0 ≤ c ∧ (∀ x ∈ R', 10 ^ 18 ≤ x) ∧ R'.length ≤ 64) ?_ ?_
  · walk_at "al"
    refine ar_ixO k hk (atI_of (j := 1) rfl rfl) ?_
    walk_at "al"
    by_cases hc : c0 = 0
    · refine and_dT hc ?_
      walk_at "al"
      refine ac_lenO k hk ?_
      walk_at "al"
      cases rest with
      | nil =>
        refine and_dF (by simp) ?_
        walk_at "al"
        exact ⟨rfl, rfl, c0, [], (set_same hk).symm, hc0, hrest, hlen⟩
      | cons r0 rest =>
        refine and_dT (by simp; omega) ?_
        refine as_subO ?_
        refine ae_bmL ?_
        walk_at "al"
        refine ⟨_, .inr ⟨k, l, rfl, hk⟩, ?_⟩
        walk_at "al"
        refine am_popAt k (j := 2) (d := .int r0) hk rfl (by simp; simp at hlen; omega) rfl ?_
        walk_at "al"
        refine ⟨k, l, _, 1, 1, rfl, rfl, set_get hkl, ixN_of rfl (by simp), ?_⟩
        refine ⟨rfl, rfl, r0, rest, ?_, ?_, fun x hx => hrest x (List.mem_cons_of_mem _ hx), ?_⟩
        · rw [set_set]; rfl
        · have := hrest r0 (List.mem_cons_self ..); omega
        · simp at hlen; omega
    · refine and_dF hc ?_
      walk_at "al"
      exact ⟨rfl, rfl, c0, rest, (set_same hk).symm, hc0, hrest, hlen⟩
  · rintro F' ms' S' eF ⟨rfl, rfl, c, R', rfl, hc0', hrest', hlen'⟩
    have hk' : (ms.set k (l, MO.lst (.int s0 :: .int c :: R'.map D.int)))[k]? = some (l, .lst (.int s0 :: .int c :: R'.map D.int)) := set_get hkl
    walk_at "al"
    refine ar_ixO k hk' (atI_of (j := 1) rfl rfl) ?_
    walk_at "al"
    by_cases hc : 0 < c
    · refine and_dT hc ?_
      walk_at "al"
      refine ar_ixO k hk' (atI_of (j := 1) rfl rfl) ?_
      walk_at "al"
      refine ar_modI n0 ?_
      walk_at "al"
      refine as_subO ?_
      walk_at "al"
      refine ar_ixO k hk' (atI_of (j := 1) rfl rfl) ?_
      walk_at "al"
      refine ar_divI ⟨n0, by omega⟩ ?_
      walk_at "al"
      refine ⟨k, l, _, 1, 1, rfl, rfl, hk', ixN_of rfl (by simp), ?_⟩
      walk_at "al"
      rw [set_set]
      exact q _ _ ⟨s0, c / n, R', rfl, hs0, hs1, Int.ediv_nonneg hc0' (by omega), hrest', hlen'⟩ (Int.emod_nonneg _ (by omega)) (Int.emod_lt_of_pos _ n0)
    · refine and_dF hc ?_
      walk_at "al"
      refine as_subO ?_
      walk_at "al"
      refine ar_ixO k hk' (atI_of (j := 0) rfl rfl) ?_
      walk_at "al"
      refine ar_MULi (.inr ⟨by decide, by decide⟩) ?_
      walk_at "al"
      refine ar_modI (by decide) ?_
      walk_at "al"
      refine ⟨k, l, _, 0, 0, rfl, rfl, hk', ixN_of rfl (by simp), ?_⟩
      walk_at "al"
      rw [set_set]
      refine ar_ixO k (set_get hkl) (atI_of (j := 0) rfl rfl) ?_
      walk_at "al"
      refine ar_divI ⟨by decide, by decide⟩ ?_
      walk_at "al"
      refine ar_modI n0 ?_
      exact q _ _ ⟨(s0 * 48271 + 11) % 2147483647, c, R', rfl, Int.emod_nonneg _ (by decide), Int.emod_lt_of_pos _ (by decide), hc0', hrest', hlen'⟩ (Int.emod_nonneg _ (by omega)) (Int.emod_lt_of_pos _ n0)
theorem ok__law_random (T : Txt K mg) : OK__law_random P w base T := by
  refine fn_ok T.F__law_random sc__law_random (by rintro _ _ _ _ _ ⟨ns, rfl, _⟩; rfl) (fun cdv A outer s H E hr => ?_)
  have hu64 := hr.units
  refine ⟨_, (pss_cons (ps_set (i := 2) sc__law_random.nd rfl (by first | exact Or.inl rfl | exact Or.inr rfl) (pv 1))
      (pss_cons (ps_for PassesOwn.never rfl (pi_listk (K := K) rfl (pv 0)) (pg_name (i := 3) sc__law_random.nd rfl (by first | exact Or.inl rfl | exact Or.inr rfl)) (pss_one (ps_set (i := 2) sc__law_random.nd rfl (by first | exact Or.inl rfl | exact Or.inr rfl) (pe_op op_mod (pe_op (kADD (K := K) rfl) (pe_op (kMUL (K := K) rfl) (pv 2) pe_int) (pe_callB call_ABS (by rfl) T.g_abs boot_abs (pa_cons (pv 3) pa_nil))) pe_int))))
      (pss_one (ps_ret (pe_op (kADD (K := K) rfl) (pe_lst (pa_cons (pv 2) (pa_cons pe_int pa_nil))) (pe_lc rfl sc__law_random.nd (pi_listk (K := K) rfl (pv 0)) (own := [("_law_cell", 3)]) (@BlkOk.mk N__law_random (defScope s__law_random) _ _ rfl (by decide +kernel) (by decide +kernel) (by decide +kernel) (by decide +kernel)) (fun _ _ _ _ _ => (pg_name (i := 3) sc__law_random.nd rfl (by first | exact Or.inl rfl | exact Or.inr rfl))) (fun _ _ _ _ _ => (pts_one (pt_cmpR op_ge (pv 3) (pe_op op_pow pe_int pe_int) (nomark _)))) (fun _ _ _ _ _ => (pv 3)))))))), ?_⟩
  rintro _ F ms Q Ea ⟨ns, rfl, hn, q⟩
  refine as_seq ?_
  walk_at "al"
  refine as_for ?_
  refine ai_list ?_
  walk_at "al"
  refine .inl ⟨_, .inr rfl, fun i F' ms' S' => ms' = ms ∧ ∃ (z : Int) (e : Option D), 0 ≤ z ∧ z < 2147483647 ∧ S' = [some (.rdl (ns.map D.int)), some (.int 14), some (.int z), e], ⟨rfl, 14, none, by decide, by decide, rfl⟩, fun _ _ _ _ _ _ => trivial, ?_, ?_⟩
  · rintro i d F' ms' S' e hd ⟨rfl, z, e', hz0, hz1, rfl⟩ F'' e''
    obtain ⟨x, rfl⟩ : ∃ x, d = .int x := by
      rw [List.getElem?_map] at hd
      cases h : ns[i]? with
      | none => rw [h] at hd; cases hd
      | some x => rw [h] at hd; exact ⟨x, (Option.some.inj hd).symm⟩
    refine ag_name ?_
    walk_at "al"
    refine ar_MULi (.inr ⟨by decide, by decide⟩) ?_
    walk_at "al"
    refine ar_modI (by decide) ?_
    walk_at "al"
    exact ⟨rfl, _, _, Int.emod_nonneg _ (by decide), Int.emod_lt_of_pos _ (by decide), rfl⟩
  · rintro F' ms' S' e ⟨rfl, z, e', hz0, hz1, rfl⟩
    walk_at "al"
    refine ae_lstF ?_
    walk_at "al"
    refine ⟨by simp, fun F2 e2 => ?_⟩
    refine ae_lc (gw_name (by simp)) gm_name ?_
    refine ai_list ?_
    walk_at "al"
    refine .inl ⟨_, .inr rfl, fun i F' ms1 acc => ms1 = ms' ∧ ∃ R' : List Int, acc = R'.map D.int ∧ (∀ x ∈ R', 10 ^ 18 ≤ x) ∧ R'.length ≤ i, ⟨rfl, [], rfl, fun _ h => (List.not_mem_nil h).elim, Nat.le_refl _⟩, fun _ _ _ _ _ _ => trivial, ?_, ?_⟩
    · rintro i d F3 ms3 acc e3 hd ⟨rfl, R', rfl, hR, hl⟩ F4 e4
      have hi : i < ns.length := by
        have := (List.getElem?_eq_some_iff.mp hd).1
        simpa using this
      obtain ⟨x, rfl⟩ : ∃ x, d = .int x := by
        rw [List.getElem?_map] at hd
        cases h : ns[i]? with
        | none => rw [h] at hd; cases hd
        | some x => rw [h] at hd; exact ⟨x, (Option.some.inj hd).symm⟩
      refine ag_name ?_
      walk_at "al"
      refine ar_powI ⟨by decide, by decide, by decide⟩ ?_
      walk_at "al"
      refine ⟨fun h => ?_, fun h => ?_⟩
      · walk_at "al"
        refine ⟨by rw [List.length_map]; omega, rfl, R' ++ [x], by rw [List.map_append]; rfl, ?_, by rw [List.length_append]; simp; omega⟩
        intro y hy
        rcases List.mem_append.mp hy with hy | hy
        · exact hR y hy
        · rw [List.mem_singleton.mp hy]
          exact of_decide_eq_true h
      · exact ⟨rfl, R', rfl, hR, by omega⟩
    · rintro F3 ms3 acc e3 ⟨rfl, R', rfl, hR, hl⟩ F4 e4
      rw [List.length_map] at hl
      refine ar_ADDlo (by rw [List.length_map]; simp; omega) fun l => ?_
      exact q F4 l _ ((((e.trans e2).trans e3).trans e4)) ⟨z, 0, R', rfl, hz0, hz1, by decide, hR, by omega⟩
end

section
variable {P : Program} {w : World} {K : Frg} {mg : Str → Option Value} {base : Heap}
theorem ok_is_int_in (T : Txt K mg) : OK_is_int_in P w base T := by
  refine fn_ok T.F_is_int_in sc_is_int_in (by rintro _ _ _ _ _ ⟨v, lo, hi, rfl, _⟩; rfl) (fun cdv A outer s H E hr => ?_)
  have hu64 := hr.units
  refine ⟨_, (pss_one (ps_ret (pe_and (pe_callB (kISI (K := K) rfl) (by rfl) T.g_isinstance boot_isinstance (pa_cons (pv 0) (pa_cons (pe_bltn (v := .ty "int") (by rfl) T.g_int boot_int rfl) pa_nil))) (pe_and (pe_not (pe_callB (kISI (K := K) rfl) (by rfl) T.g_isinstance boot_isinstance (pa_cons (pv 0) (pa_cons (pe_bltn (v := .ty "bool") (by rfl) T.g_bool boot_bool rfl) pa_nil)))) (pe_one (pe_chain op_le op_le (pv 1) (pv 0) (pv 2))))))), ?_⟩
  rintro _ F ms Q Ea ⟨d, lo, hi, rfl, hk, q⟩
  rcases hk with rfl | ⟨b, rfl⟩ | ⟨v, rfl⟩ | ⟨z, rfl, hz⟩ | ⟨es, rfl⟩ | ⟨es, rfl⟩
  · walk_at "al"
    exact q
  · walk_at "al"
    exact q
  · walk_at "al"
    unfold intIn at q
    by_cases h : lo ≤ v
    · refine ⟨fun _ => ?_, fun z => by simp [h] at z⟩
      walk_at "al"
      simpa [h] using q
    · refine ⟨fun z => by simp [h] at z, fun _ => ?_⟩
      walk_at "al"
      simpa [h] using q
  · walk_at "al"
    exact q
  · walk_at "al"
    exact q
  · walk_at "al"
    exact q
theorem ok_Sign___init__ (T : Txt K mg) (G_is_int_in : OK_is_int_in P w base T) (G_is_pair : OK_is_pair P w base T) : OK_Sign___init__ P w base T := by
  refine fn_okD T.F_Sign___init__ sc_Sign___init__ (by rintro _ _ _ _ _ ⟨x, w, ps, R, rfl, _⟩; rfl) (fun cdv A outer s H E hr => ?_)
  have hu64 := hr.units
  refine ⟨_, (pss_cons (ps_if (pt_not (pt_val (pe_call G_is_int_in (hr.mono (by first | decide | omega)) (by rfl) T.m_is_int_in T.F_is_int_in.kp T.b_is_int_in .nil pass0 (pa_cons (pv 1) (pa_cons pe_int (pa_cons (pe_glob (by rfl) T.m_MAX_WIDTH T.r_MAX_WIDTH) pa_nil)))))) (pss_one ps_never) pss_nil)
      (pss_cons (ps_if (pt_not (pt_val (pe_callB (kISI (K := K) rfl) (by rfl) T.g_isinstance boot_isinstance (pa_cons (pv 2) (pa_cons (pe_bltn (v := .ty "tuple") (by rfl) T.g_tuple boot_tuple rfl) pa_nil))))) (pss_one ps_never) pss_nil)
      (pss_cons (ps_fld (pv 0) pe_dnewK (by rfl))
      (pss_cons (ps_for PassesOwn.never rfl (pi_enumA (by rfl) T.g_enumerate (pa_cons (pv 2) pa_nil)) (pg_tup rfl (pgs_cons (pg_name (i := 3) sc_Sign___init__.nd rfl (by first | exact Or.inl rfl | exact Or.inr rfl)) (pgs_cons (pg_name (i := 4) sc_Sign___init__.nd rfl (by first | exact Or.inl rfl | exact Or.inr rfl)) pgs_nil))) (pss_cons (ps_if ((pw_or (pt_cmpR (kEQ (K := K) rfl hu64) (pv 3) (pe_glob (by rfl) T.m_MAX_PAIRS T.r_MAX_PAIRS) (nomark _)) (pw_or (pt_not (pt_val (pe_call G_is_pair (hr.mono (by first | decide | omega)) (by rfl) T.m_is_pair T.F_is_pair.kp T.b_is_pair .nil pass0 (pa_cons (pv 4) pa_nil)))) (pw_or (pt_cmp (pc_din (hu_of hr) (pe_ix (kIX (K := K) rfl) (pv 4) pe_int (fun _ _ => rfl)) (pe_fldk (K := K) rfl (pv 0) (by rfl)))) (pw_or1 (pt_cmp (pc_din (hu_of hr) (pe_ix (kIX (K := K) rfl) (pv 4) pe_int (fun _ _ => rfl)) (pe_fldk (K := K) rfl (pv 0) (by rfl))))))))).pt (pss_one ps_never) pss_nil)
      (pss_cons (ps_dput (hu_of hr) (pe_fldk (K := K) rfl (pv 0) (by rfl)) (pe_ix (kIX (K := K) rfl) (pv 4) pe_int (fun _ _ => rfl)) (pe_ix (kIX (K := K) rfl) (pv 4) pe_int (fun _ _ => rfl)) (by rfl))
      (pss_one (ps_dput (hu_of hr) (pe_fldk (K := K) rfl (pv 0) (by rfl)) (pe_ix (kIX (K := K) rfl) (pv 4) pe_int (fun _ _ => rfl)) (pe_ix (kIX (K := K) rfl) (pv 4) pe_int (fun _ _ => rfl)) (by rfl))))))
      (pss_cons (ps_fld (pv 0) (pv 1) (by rfl))
      (pss_one (ps_fld (pv 0) (pv 2) (by rfl)))))))), ?_⟩
  rintro _ F _ Q Ea ⟨x, w, ps, R, rfl, w1, w2, hl, hL, hnd, rfl, q⟩
  walk_at "al"
  refine ⟨.int w, 1, 24, rfl, .inr (.inr (.inl ⟨_, rfl⟩)), ?_⟩
  have hin : intIn (.int w) 1 24 = true := by
    show (decide (1 ≤ w) && decide (w ≤ 24)) = true
    rw [decide_eq_true w1, decide_eq_true w2]
    rfl
  rw [hin]
  walk_at "al"
  refine as_fld ?_
  refine ae_dnewO fun m => ?_
  walk_at "al"
  refine ⟨1, x, T.c_Sign, [], rfl, rfl, T.k_Sign, T.n_Sign_mates, by decide, ?_⟩
  walk_at "al"
  refine as_for ?_
  refine ai_enum ?_
  walk_at "al"
  refine .inr (.inl ⟨_, rfl, fun i F' ms' S' => ms' = (m, .dic (kvsOf (ps.take i))) :: (x, .ins T.c_Sign [("mates", .ref m)]) :: R ∧ ∃ a b, S' = [some (.ref x), some (.int w), some (.tup (ps.map pD)), a, b], ⟨rfl, none, none, rfl⟩, fun _ _ _ _ _ _ => trivial, ?_, ?_⟩)
  · rintro n d F' ms' S' e hd ⟨rfl, a, b, rfl⟩ F'' e''
    obtain ⟨_, h1, rfl⟩ := enum_at hd
    obtain ⟨p, hp, rfl⟩ := pairs_at h1
    obtain ⟨f1, f2, f3⟩ := flat_new hp hnd
    obtain ⟨g1, g2⟩ := flat_mem hp
    have hn : n < ps.length := (List.getElem?_eq_some_iff.mp hp).1
    refine ag_tup rfl ?_
    refine ags_cons (ag_name ?_)
    refine ags_cons (ag_name ?_)
    refine ags_nil ?_
    walk_at "al"
    refine and_dF' (by omega) ?_
    walk_at "al"
    refine ⟨p, rfl, f3, hL _ g1, hL _ g2, ?_⟩
    walk_at "al"
    refine ae_din ?_
    walk_at "al"
    refine ar_ixS (z := pS p) (c := p.1) (by show 2 ≤ 100000; decide) rfl ?_
    refine ae_fld ?_
    walk_at "al"
    refine ⟨x, T.c_Sign, [("mates", .ref m)], .ref m, rfl, .inr ⟨1, rfl⟩, T.k_Sign, T.n_Sign_mates, rfl, ?_⟩
    refine ⟨kS p.1, _, rfl, .inr ⟨0, m, rfl, rfl⟩, ?_⟩
    walk_at "al"
    refine and_oF' (val_none f1) ?_
    walk_at "al"
    refine ae_din ?_
    walk_at "al"
    refine ar_ixS (z := pS p) (c := p.2) (by show 2 ≤ 100000; decide) rfl ?_
    refine ae_fld ?_
    walk_at "al"
    refine ⟨x, T.c_Sign, [("mates", .ref m)], .ref m, rfl, .inr ⟨1, rfl⟩, T.k_Sign, T.n_Sign_mates, rfl, ?_⟩
    refine ⟨kS p.2, _, rfl, .inr ⟨0, m, rfl, rfl⟩, ?_⟩
    walk_at "al"
    refine and_oF (val_none f2) ?_
    walk_at "al"
    refine as_dput ?_
    walk_at "al"
    refine ar_ixS (z := pS p) (c := p.2) (by show 2 ≤ 100000; decide) rfl ?_
    refine ae_fld ?_
    walk_at "al"
    refine ⟨x, T.c_Sign, [("mates", .ref m)], .ref m, rfl, .inr ⟨1, rfl⟩, T.k_Sign, T.n_Sign_mates, rfl, ?_⟩
    walk_at "al"
    refine ar_ixS (z := pS p) (c := p.1) (by show 2 ≤ 100000; decide) rfl ?_
    have l1 := kvs_len (ps.take n)
    have l2 : (ps.take n).length ≤ 10 := by rw [List.length_take]; omega
    refine ⟨0, m, _, kS p.1, rfl, rfl, rfl, by omega, ?_⟩
    walk_at "al"
    refine as_dput ?_
    walk_at "al"
    refine ar_ixS (z := pS p) (c := p.1) (by show 2 ≤ 100000; decide) rfl ?_
    refine ae_fld ?_
    walk_at "al"
    refine ⟨x, T.c_Sign, [("mates", .ref m)], .ref m, rfl, .inr ⟨1, rfl⟩, T.k_Sign, T.n_Sign_mates, rfl, ?_⟩
    walk_at "al"
    refine ar_ixS (z := pS p) (c := p.2) (by show 2 ≤ 100000; decide) rfl ?_
    have l3 : (putKD (kvsOf (ps.take n)) (kS p.1) (.str (sg p.2))).length = (kvsOf (ps.take n)).length + 1 := by rw [putKD_new (val_none f1), List.length_append]; rfl
    refine ⟨0, m, _, kS p.2, rfl, rfl, rfl, by omega, ?_⟩
    refine ⟨?_, _, _, rfl⟩
    show (m, MO.dic (putKD (putKD (kvsOf (ps.take n)) (kS p.1) (.str (sg p.2))) (kS p.2) (.str (sg p.1)))) :: _ = _
    rw [putKD_new (val_none f1), putKD_new (by
      rw [valD_app (val_none f2), valD_cons, if_neg (fun z => f3 (kS_inj.mp z).symm)]
      rfl), List.take_succ, hp]
    show _ = (m, MO.dic (kvsOf (ps.take n ++ [p]))) :: _
    rw [kvs_app, List.append_assoc]
    rfl
  · rintro F' ms' S' e ⟨rfl, a, b, rfl⟩
    rw [enum_len, List.length_map, List.take_length]
    walk_at "al"
    refine as_fld ?_
    walk_at "al"
    refine ⟨1, x, T.c_Sign, _, rfl, rfl, T.k_Sign, T.n_Sign_width, by show 1 < 1000; decide, ?_⟩
    walk_at "al"
    refine as_fld ?_
    walk_at "al"
    refine ⟨1, x, T.c_Sign, _, rfl, rfl, T.k_Sign, T.n_Sign_pairs, Nat.lt_of_le_of_lt (putD_len _ _ _) (by show 2 < 1000; decide), ?_⟩
    exact q m F' e
end

theorem inL_ne {c : Nat} (h : inL c) : c ≠ 32 := by
  rintro rfl
  have : decide (32 ∈ LET.cps.toList) = false := by decide +kernel
  exact of_decide_eq_false this h
theorem sg_ne {c : Nat} (h : c ≠ 32) : ¬ sg c = Str.ofString " " := fun q => by
  have e : [c] = [32] := congrArg (fun s : Str => s.cps.toList) q
  exact h (by simpa using e)
theorem cut_mem {r : List Nat} {c : Nat} {lo hi : Option Int} (h : c ∈ (cutS ⟨r.toArray⟩ lo hi).cps.toList) : c ∈ r := by
  unfold cutS at h
  exact List.mem_of_mem_drop (List.mem_of_mem_take h)
theorem app_l (a b : Str) : (a ++ b).cps.toList = a.cps.toList ++ b.cps.toList := Array.toList_append
theorem ok_ends {a b : Nat} {m : Str} {w : Int} (ha : inL a) (hb : inL b) (hm : ∀ c ∈ m.cps.toList, c = 32 ∨ inL c) (hw : (m.length : Int) + 2 ≤ w) : textOk w (sg a ++ m ++ sg b) := by
  have e : (sg a ++ m ++ sg b).cps.toList = a :: (m.cps.toList ++ [b]) := by rw [app_l, app_l]; rfl
  have l : (sg a ++ m ++ sg b).length = m.length + 2 := by
    rw [str_len_add, str_len_add]
    show 1 + m.length + 1 = _
    omega
  refine ⟨by rw [l]; omega, by rw [l]; omega, ?_, ⟨a, by rw [e]; rfl, ha⟩, ⟨b, ?_, hb⟩⟩
  · intro c hc
    rw [e] at hc
    simp only [List.mem_cons, List.mem_append, List.not_mem_nil, or_false] at hc
    rcases hc with rfl | hc | rfl
    · exact .inr ha
    · exact hm c hc
    · exact .inr hb
  · rw [e, l]
    show (a :: (m.cps.toList ++ [b]))[m.length + 1]? = some b
    have h : m.cps.toList.length = m.length := rfl
    rw [List.getElem?_cons_succ, ← h, List.getElem?_append_right (Nat.le_refl _), Nat.sub_self]
    rfl
theorem ok_one {a : Nat} {w : Int} (ha : inL a) (hw : 1 ≤ w) : textOk w (sg a) := ⟨by show (1 : Int) ≤ 1; omega, hw, fun c hc => .inr (List.mem_singleton.mp (show c ∈ [a] from hc) ▸ ha), ⟨a, rfl, ha⟩, ⟨a, rfl, ha⟩⟩
theorem strs_at {ts : List Str} {n : Nat} {d : D} (h : (ts.map D.str)[n]? = some d) : ∃ t, ts[n]? = some t ∧ d = .str t := by
  rw [List.getElem?_map] at h
  cases e : ts[n]? with
  | none => rw [e] at h; cases h
  | some p => rw [e] at h; exact ⟨p, rfl, (Option.some.inj h).symm⟩
theorem strs_ok {ts : List Str} {w : Int} (h : ∀ t ∈ ts, textOk w t) : okL (ts.map D.str) = true ∧ depL (ts.map D.str) = 0 ∧ (1 ≤ ts.length → eqvD (.tup (ts.map D.str)) (.tup []) = false) := by
  refine ⟨?_, ?_, ?_⟩
  · induction ts with
    | nil => rfl
    | cons t ts ih =>
      have h1 := (h t (List.mem_cons_self ..)).2.2.1
      have e : okD (.str t) = true := by
        show t.cps.all (· < 0x110000) = true
        rw [← Array.all_toList, List.all_eq_true]
        intro c hc
        rcases h1 c hc with rfl | h
        · decide
        · have := inL_lt h
          simp
          omega
      show (okD (.str t) && okL (ts.map D.str)) = true
      rw [e, ih fun y hy => h y (List.mem_cons_of_mem _ hy)]
      rfl
  · clear h
    induction ts with
    | nil => rfl
    | cons t ts ih => show max 0 (depL (ts.map D.str)) = 0; rw [ih]; rfl
  · intro hl
    cases ts with
    | nil => simp at hl
    | cons t ts => simp [eqvD, toPy, toPyL, PyData.eqv, PyData.eqvAll]
theorem plain_act (ms : Ms) : ∀ (n : Nat) {d : D}, plainN n d → ActN ms n d d
  | 0, _, h => ⟨rfl, h⟩
  | _ + 1, _, h => .inl ⟨rfl, h⟩
section
variable {P : Program} {w : World} {K : Frg} {mg : Str → Option Value} {base : Heap}
theorem ok__law_text (T : Txt K mg) (G__law_below : OK__law_below P w base T) : OK__law_text P w base T := by
  refine fn_ok T.F__law_text sc__law_text (by rintro _ _ _ _ _ ⟨k, l, st, w, z, rfl, _⟩; rfl) (fun cdv A outer s H E hr => ?_)
  have hu64 := hr.units
  refine ⟨_, (pss_cons (ps_set (i := 3) sc__law_text.nd rfl (by first | exact Or.inl rfl | exact Or.inr rfl) (pe_op (kADD (K := K) rfl) pe_int (pe_call G__law_below (hr.mono (by first | decide | omega)) (by rfl) T.m__law_below T.F__law_below.kp T.b__law_below .nil pass0 (pa_cons (pv 0) (pa_cons (pv 1) pa_nil)))))
      (pss_cons (ps_set (i := 4) sc__law_text.nd rfl (by first | exact Or.inl rfl | exact Or.inr rfl) (pe_op (kADD (K := K) rfl) (pv 2) (pe_op (kMUL (K := K) rfl) pe_str (pe_call G__law_below (hr.mono (by first | decide | omega)) (by rfl) T.m__law_below T.F__law_below.kp T.b__law_below .nil pass0 (pa_cons (pv 0) (pa_cons pe_int pa_nil))))))
      (pss_cons (ps_set (i := 5) sc__law_text.nd rfl (by first | exact Or.inl rfl | exact Or.inr rfl) (pe_bmk (K := K) rfl PySem.F.plainAttrs_str PySem.F.slot_str_join PySem.F.type_str_join (kJOIN (K := K) rfl) pe_str (pa_cons (pe_lc rfl sc__law_text.nd (pi_range1 (by rfl) T.g_range (pa_cons (pv 3) pa_nil)) (own := [("_law_k", 6)]) (@BlkOk.mk N__law_text (defScope s__law_text) _ _ rfl (by decide +kernel) (by decide +kernel) (by decide +kernel) (by decide +kernel)) (fun _ _ _ _ _ => (pg_name (i := 6) sc__law_text.nd rfl (by first | exact Or.inl rfl | exact Or.inr rfl))) (fun _ _ _ _ _ => pts_nil) (fun _ _ _ _ _ => (pe_ix (kIX (K := K) rfl) (pv 4) (pe_call G__law_below (hr.mono (by first | decide | omega)) (by rfl) T.m__law_below T.F__law_below.kp T.b__law_below .nil pass0 (pa_cons (pv 0) (pa_cons (pe_callB (kLEN (K := K) rfl) (by rfl) T.g_len boot_len (pa_cons (pv 4) pa_nil)) pa_nil))) (fun _ _ => rfl)))) pa_nil)))
      (pss_cons (ps_par (i := 7) (j := 8) rfl sc__law_text.nd rfl rfl (by decide) rfl rfl (pa_cons (pe_ix (kIX (K := K) rfl) (pv 2) (pe_call G__law_below (hr.mono (by first | decide | omega)) (by rfl) T.m__law_below T.F__law_below.kp T.b__law_below .nil pass0 (pa_cons (pv 0) (pa_cons (pe_callB (kLEN (K := K) rfl) (by rfl) T.g_len boot_len (pa_cons (pv 2) pa_nil)) pa_nil))) (fun _ _ => rfl)) (pa_cons (pe_ix (kIX (K := K) rfl) (pv 2) (pe_call G__law_below (hr.mono (by first | decide | omega)) (by rfl) T.m__law_below T.F__law_below.kp T.b__law_below .nil pass0 (pa_cons (pv 0) (pa_cons (pe_callB (kLEN (K := K) rfl) (by rfl) T.g_len boot_len (pa_cons (pv 2) pa_nil)) pa_nil))) (fun _ _ => rfl)) pa_nil)) (by rfl))
      (pss_one (ps_ret (pe_ifExp (pt_cmpR (kEQ (K := K) rfl hu64) (pv 3) pe_int (nomark _)) (pv 7) (pe_op (kADD (K := K) rfl) (pe_op (kADD (K := K) rfl) (pv 7) (pe_slice (kSLC (K := K) rfl) (pv 5) (po_some pe_int) (po_some (pe_un un_neg pe_int)))) (pv 8))))))))), ?_⟩
  rintro _ F ms Q Ea ⟨k, l, st, w, z, rfl, hk, hst, w0, w1, hz0, hz1, hzL, q⟩
  have hkl : k < ms.length := (List.getElem?_eq_some_iff.mp hk).1
  walk_at "al"
  refine ⟨k, l, st, w, rfl, hk, hst, by omega, by omega, fun st0 m hst0 m0 m1 => ?_⟩
  walk_at "al"
  refine ⟨k, l, st0, 3, rfl, set_get hkl, hst0, by decide, by decide, fun st1 n hst1 n0 n1 => ?_⟩
  refine ar_MULs (z := sp1) (by omega) (by omega) (by show 1 * n.toNat ≤ 100000; omega) ?_
  have l1 := mulS_len1 n
  refine ar_ADDs (i := z) (j := mulS sp1 n) (by omega) ?_
  have l2 : (z ++ mulS sp1 n).length = z.length + n.toNat := by rw [str_len_add, l1]
  walk_at "al"
  refine ae_bmS ?_
  walk_at "al"
  refine ae_lc (gw_name (by simp)) gm_name ?_
  refine ai_rng1 ?_
  walk_at "al"
  rw [set_set]
  refine ⟨1 + m, rfl, by omega, by omega, fun i F' ms' acc => ∃ (st2 : List D) (r : List Nat), ms' = ms.set k (l, .lst st2) ∧ St st2 ∧ acc = r.map (fun c => .str (sg c)) ∧ r.length = i ∧ ∀ c ∈ r, c = 32 ∨ c ∈ z.cps.toList, ⟨st1, [], rfl, hst1, rfl, rfl, fun _ h => (List.not_mem_nil h).elim⟩, fun _ _ _ _ _ _ => trivial, ?_, ?_⟩
  · rintro i d F' ms' acc e hd ⟨st2, r, rfl, hst2, rfl, hl, hrm⟩ F'' e''
    obtain ⟨hi, rfl⟩ := range_at hd
    refine ag_name ?_
    walk_at "al"
    refine ac_lenS (z := z ++ mulS sp1 n) (by omega) ?_
    walk_at "al"
    refine ⟨k, l, st2, _, rfl, set_get hkl, hst2, by omega, by omega, fun st3 j hst3 j0 j1 => ?_⟩
    obtain ⟨j, rfl⟩ : ∃ j' : Nat, j = j' := ⟨j.toNat, by omega⟩
    have hj : j < (z ++ mulS sp1 n).cps.toList.length := by
      have : (z ++ mulS sp1 n).cps.toList.length = (z ++ mulS sp1 n).length := rfl
      omega
    refine ar_ixS (z := z ++ mulS sp1 n) (c := (z ++ mulS sp1 n).cps.toList[j]) (by omega) (atI_of rfl (List.getElem?_eq_getElem hj)) ?_
    exact ⟨by rw [List.length_map]; omega, st3, r ++ [(z ++ mulS sp1 n).cps.toList[j]], set_set, hst3, by rw [List.map_append]; rfl, by rw [List.length_append, hl]; rfl, fun c hc => by
      rcases List.mem_append.mp hc with hc | hc
      · exact hrm c hc
      · rw [List.mem_singleton.mp hc]
        exact sign_mem (List.getElem_mem hj)⟩
  · rintro F' ms' acc e ⟨st2, r, rfl, hst2, rfl, hl, hrm⟩ F'' e''
    rw [range_len] at hl
    walk_at "al"
    refine am_join (ys := r.map sg) (.inl (.inl (by rw [List.map_map]; rfl))) ?_ ?_
    · have : ((r.map sg).map (·.length)).sum = r.length := by
        rw [List.map_map]
        exact sum_ones r
      have e0 : (Str.ofString "").length = 0 := rfl
      rw [this, List.length_map, e0]
      omega
    rw [join_sg]
    walk_at "al"
    have pick : ∀ {st3 : List D} {Q : QE} {F3 : Hp}, St st3 → (∀ st4 c, St st4 → Q F3 (ms.set k (l, .lst st4)) (.str (sg c))) → True := fun _ _ => trivial
    refine ac_lenS (z := z) (by omega) ?_
    walk_at "al"
    refine ⟨k, l, st2, _, rfl, set_get hkl, hst2, by omega, by omega, fun st3 j hst3 j0 j1 => ?_⟩
    obtain ⟨j, rfl⟩ : ∃ j' : Nat, j = j' := ⟨j.toNat, by omega⟩
    have hj : j < z.cps.toList.length := by
      have : z.cps.toList.length = z.length := rfl
      omega
    refine ar_ixS (z := z) (c := z.cps.toList[j]) (by omega) (atI_of rfl (List.getElem?_eq_getElem hj)) ?_
    walk_at "al"
    refine ac_lenS (z := z) (by omega) ?_
    walk_at "al"
    rw [set_set]
    refine ⟨k, l, st3, _, rfl, set_get hkl, hst3, by omega, by omega, fun st4 i hst4 i0 i1 => ?_⟩
    obtain ⟨i, rfl⟩ : ∃ i' : Nat, i = i' := ⟨i.toNat, by omega⟩
    have hi : i < z.cps.toList.length := by
      have : z.cps.toList.length = z.length := rfl
      omega
    refine ar_ixS (z := z) (c := z.cps.toList[i]) (by omega) (atI_of rfl (List.getElem?_eq_getElem hi)) ?_
    walk_at "al"
    rw [set_set]
    have lr : (⟨r.toArray⟩ : Str).length = r.length := List.size_toArray ..
    by_cases hm : 1 + m = 1
    · refine and_dT hm ?_
      walk_at "al"
      exact q st4 F'' _ (e.trans e'') hst4 (ok_one (hzL _ (List.getElem_mem hj)) (by omega))
    · refine and_dF hm ?_
      walk_at "al"
      refine ae_sl ?_
      walk_at "al"
      refine ao_some ?_
      walk_at "al"
      refine ao_some ?_
      refine ae_neg (g := fun i => -i) (fun _ => rfl) ?_
      walk_at "al"
      refine sl_S (by omega) ?_
      have hcut := cut_len (z := ⟨r.toArray⟩) (by omega)
      refine ar_ADDs (i := sg _) (by show 1 + _ ≤ 100000; omega) ?_
      walk_at "al"
      have h3 : ∀ a : Nat, (sg a ++ cutS ⟨r.toArray⟩ (some 1) (some (-1))).length = 1 + (cutS ⟨r.toArray⟩ (some 1) (some (-1))).length := fun a => str_len_add _ _
      refine ar_ADDs (j := sg _) (by rw [h3]; show _ + 1 ≤ 100000; omega) ?_
      exact q st4 F'' _ (e.trans e'') hst4 (ok_ends (hzL _ (List.getElem_mem hj)) (hzL _ (List.getElem_mem hi)) (fun c hc => (hrm c (cut_mem hc)).imp id fun h => hzL c h) (by omega))
theorem ok__law_texts (T : Txt K mg) (G__law_below : OK__law_below P w base T) (G__law_text : OK__law_text P w base T) : OK__law_texts P w base T := by
  refine fn_ok T.F__law_texts sc__law_texts (by rintro _ _ _ _ _ ⟨k, l, st, w, z, rfl, _⟩; rfl) (fun cdv A outer s H E hr => ?_)
  have hu64 := hr.units
  refine ⟨_, (pss_one (ps_ret (pe_callTy (kTUPLE (K := K) rfl) (by rfl) T.g_tuple boot_tuple (pa_cons (pe_lc rfl sc__law_texts.nd (pi_range1 (by rfl) T.g_range (pa_cons (pe_op (kADD (K := K) rfl) pe_int (pe_call G__law_below (hr.mono (by first | decide | omega)) (by rfl) T.m__law_below T.F__law_below.kp T.b__law_below .nil pass0 (pa_cons (pv 0) (pa_cons (pv 1) pa_nil)))) pa_nil)) (own := [("_law_k", 4)]) (@BlkOk.mk N__law_texts (defScope s__law_texts) _ _ rfl (by decide +kernel) (by decide +kernel) (by decide +kernel) (by decide +kernel)) (fun _ _ _ _ _ => (pg_name (i := 4) sc__law_texts.nd rfl (by first | exact Or.inl rfl | exact Or.inr rfl))) (fun _ _ _ _ _ => pts_nil) (fun _ _ _ _ _ => (pe_call G__law_text (hr.mono (by first | decide | omega)) (by rfl) T.m__law_text T.F__law_text.kp T.b__law_text .nil pass0 (pa_cons (pv 0) (pa_cons (pv 2) (pa_cons (pv 3) pa_nil)))))) pa_nil)))), ?_⟩
  rintro _ F ms Q Ea ⟨k, l, st, w, z, rfl, hk, hst, w0, w1, hz0, hz1, hzL, q⟩
  have hkl : k < ms.length := (List.getElem?_eq_some_iff.mp hk).1
  walk_at "al"
  refine ae_lc (gw_name (by simp)) gm_name ?_
  refine ai_rng1 ?_
  walk_at "al"
  refine ⟨k, l, st, 4, rfl, hk, hst, by decide, by decide, fun st1 n hst1 n0 n1 => ?_⟩
  walk_at "al"
  refine ⟨1 + n, rfl, by omega, by omega, fun i F' ms' acc => ∃ (st2 : List D) (ts : List Str), ms' = ms.set k (l, .lst st2) ∧ St st2 ∧ acc = ts.map D.str ∧ ts.length = i ∧ ∀ t ∈ ts, textOk w t, ⟨st1, [], rfl, hst1, rfl, rfl, fun _ h => (List.not_mem_nil h).elim⟩, fun _ _ _ _ _ _ => trivial, ?_, ?_⟩
  · rintro i d F' ms' acc e hd ⟨st2, ts, rfl, hst2, rfl, hl, ht⟩ F'' e''
    obtain ⟨hi, rfl⟩ := range_at hd
    refine ag_name ?_
    walk_at "al"
    refine ⟨k, l, st2, w, z, rfl, set_get hkl, hst2, w0, w1, hz0, hz1, hzL, fun st3 F3 r e3 hst3 hr => ?_⟩
    rw [set_set]
    exact ⟨by rw [List.length_map]; omega, st3, ts ++ [r], rfl, hst3, by rw [List.map_append]; rfl, by rw [List.length_append, hl]; rfl, fun t h => by
      rcases List.mem_append.mp h with h | h
      · exact ht t h
      · rw [List.mem_singleton.mp h]; exact hr⟩
  · rintro F' ms' acc e ⟨st2, ts, rfl, hst2, rfl, hl, ht⟩ F'' e''
    rw [range_len] at hl
    walk_at "al"
    refine ac_tupleL (.inl rfl) fun F3 e3 => ?_
    exact q st2 F3 ts ((e.trans e'').trans e3) hst2 (by omega) (by omega) ht
end

theorem lt1 {a b : Nat} : (sg a).cps.toList < (sg b).cps.toList ↔ a < b := by
  show ([a] : List Nat) < [b] ↔ a < b
  rw [List.cons_lt_cons_iff]
  simp
theorem minS_comm (a b : Nat) : minS (sg a) (sg b) = minS (sg b) (sg a) := by
  unfold minS
  rcases Nat.lt_trichotomy a b with h | h | h
  · rw [if_neg (fun z => by have := lt1.mp z; omega), if_pos (lt1.mpr h)]
  · subst h; rfl
  · rw [if_pos (lt1.mpr h), if_neg (fun z => by have := lt1.mp z; omega)]
theorem minS_self (a : Nat) : minS (sg a) (sg a) = sg a := by unfold minS; split <;> rfl
theorem minS_min (a b : Nat) : minS (sg a) (sg b) = sg (min a b) := by
  unfold minS
  by_cases h : b < a
  · rw [if_pos (lt1.mpr h), Nat.min_eq_right (Nat.le_of_lt h)]
  · rw [if_neg (fun z => h (lt1.mp z)), Nat.min_eq_left (Nat.le_of_not_lt h)]
theorem pieceS_pc (ps : List Pr) (c : Nat) : pieceS ps c = sg (pc ps c) := by
  unfold pieceS pc
  cases ps.find? fun p => c = p.1 ∨ c = p.2 with
  | none => rfl
  | some p => exact minS_min _ _
theorem sg_inj {a b : Nat} : sg a = sg b ↔ a = b := ⟨fun q => by
  have e : [a] = [b] := congrArg (fun s : Str => s.cps.toList) q
  simpa using e, fun e => by rw [e]⟩
theorem links_at {gs : List Lk} {n : Nat} {d : D} (h : (gs.map lD)[n]? = some d) : ∃ k, gs[n]? = some k ∧ d = lD k := by
  rw [List.getElem?_map] at h
  cases e : gs[n]? with
  | none => rw [e] at h; cases h
  | some p => rw [e] at h; exact ⟨p, rfl, (Option.some.inj h).symm⟩
theorem links_succ (ps : List Pr) (b a : List Nat) (n : Nat) : linksF ps b a (n + 1) = linksF ps b a n ++ (lkAt ps b a n).toList := by
  unfold linksF
  rw [List.range_succ, List.filterMap_append]
  congr 1
theorem links_len (ps : List Pr) (b a : List Nat) (n : Nat) : (linksF ps b a n).length ≤ n := by
  unfold linksF
  exact Nat.le_trans (List.length_filterMap_le ..) (by rw [List.length_range]; exact Nat.le_refl _)
theorem lets_take {gs : List Lk} {n : Nat} {k : Lk} (h : gs[n]? = some k) : letsF (gs.take (n + 1)) = letsF (gs.take n) ++ [k.2.1, k.2.2].filter fun c => decide (c ≠ 32) := by
  unfold letsF
  rw [List.take_succ, h, List.flatMap_append]
  simp
theorem lets_len (gs : List Lk) : (letsF gs).length ≤ 2 * gs.length := by
  induction gs with
  | nil => exact Nat.le_refl _
  | cons k gs ih =>
    show ([k.2.1, k.2.2].filter _ ++ letsF gs).length ≤ _
    rw [List.length_append, List.length_cons]
    have := List.length_filter_le (fun c => decide (c ≠ 32)) [k.2.1, k.2.2]
    have e : ([k.2.1, k.2.2] : List Nat).length = 2 := rfl
    omega
theorem mem_sg {xs : List Nat} {c : Nat} : decide (sg c ∈ xs.map sg) = decide (c ∈ xs) := by
  by_cases h : c ∈ xs
  · rw [decide_eq_true h, decide_eq_true (List.mem_map.mpr ⟨c, h, rfl⟩)]
  · rw [decide_eq_false h, decide_eq_false]
    intro z
    obtain ⟨b, hb, e⟩ := List.mem_map.mp z
    exact h (sg_inj.mp e ▸ hb)
section
variable {P : Program} {w : World} {K : Frg} {mg : Str → Option Value} {base : Heap}
theorem ok_Sign_piece (T : Txt K mg) : OK_Sign_piece P w base T := by
  refine fn_ok T.F_Sign_piece sc_Sign_piece (by rintro _ _ _ _ _ ⟨x, w, ps, c, rfl, _⟩; rfl) (fun cdv A outer s H E hr => ?_)
  have hu64 := hr.units
  refine ⟨_, (pss_one (ps_ret (pe_callB (call_MIN rfl) (by rfl) T.g_min boot_min (pa_cons (pv 1) (pa_cons (pe_dget2 (hu_of hr) (pe_fldk (K := K) rfl (pv 0) (by rfl)) (pv 1) (pv 1) ⟨rfl, rfl, rfl, rfl⟩) pa_nil))))), ?_⟩
  rintro _ F ms Q Ea ⟨x, w, ps, c, rfl, ⟨i, j, m, hi, hj⟩, q⟩
  walk_at "al"
  refine ae_dget2 ?_
  refine ae_fld ?_
  walk_at "al"
  refine ⟨x, T.c_Sign, fldS m w ps, .ref m, rfl, .inr ⟨i, hi⟩, T.k_Sign, T.n_Sign_mates, rfl, ?_⟩
  refine ⟨kvsOf ps, .inr ⟨j, m, rfl, hj⟩, ?_⟩
  walk_at "al"
  refine ⟨kS c, rfl, .inr ⟨j, m, rfl, hj⟩, ?_⟩
  rw [val_kvs]
  unfold pieceS at q
  cases hf : ps.find? fun p => c = p.1 ∨ c = p.2 with
  | none =>
    rw [hf] at q
    show AA _ tNil _ _ _ _
    walk_at "al"
    refine ac_minS (j := sg c) ?_
    rw [minS_self]
    exact q
  | some p =>
    rw [hf] at q
    show AA _ tNil _ _ _ _
    walk_at "al"
    refine ac_minS (j := sg (if c = p.1 then p.2 else p.1)) ?_
    have hp := List.find?_some hf
    simp only [decide_eq_true_eq] at hp
    have e : minS (sg c) (sg (if c = p.1 then p.2 else p.1)) = minS (sg p.1) (sg p.2) := by
      rcases hp with h | h
      · subst h; rw [if_pos rfl]
      · by_cases h1 : c = p.1
        · rw [if_pos h1, ← h1]
        · rw [if_neg h1, h, minS_comm]
    rw [e]
    exact q
theorem ok_links (T : Txt K mg) (G_Sign_piece : OK_Sign_piece P w base T) : OK_links P w base T := by
  refine fn_ok T.F_links sc_links (by rintro _ _ _ _ _ ⟨x, w, ps, b, a, rfl, _⟩; rfl) (fun cdv A outer s H E hr => ?_)
  have hu64 := hr.units
  refine ⟨_, (pss_cons (ps_set (i := 3) sc_links.nd rfl (by first | exact Or.inl rfl | exact Or.inr rfl) (pe_lst pa_nil))
      (pss_cons (ps_for PassesOwn.never rfl (pi_range1 (by rfl) T.g_range (pa_cons (pe_fldk (K := K) rfl (pv 0) (by rfl)) pa_nil)) (pg_name (i := 4) sc_links.nd rfl (by first | exact Or.inl rfl | exact Or.inr rfl)) (pss_cons (ps_par (i := 5) (j := 6) rfl sc_links.nd rfl rfl (by decide) rfl rfl (pa_cons (pe_meth (pv 0) T.k_Sign T.Me_Sign_piece G_Sign_piece (hr.mono (by first | decide | omega)) T.b_Sign_piece .nil pass0 (pa_cons (pe_ix (kIX (K := K) rfl) (pv 1) (pv 4) (fun _ _ => rfl)) pa_nil)) (pa_cons (pe_meth (pv 0) T.k_Sign T.Me_Sign_piece G_Sign_piece (hr.mono (by first | decide | omega)) T.b_Sign_piece .nil pass0 (pa_cons (pe_ix (kIX (K := K) rfl) (pv 2) (pv 4) (fun _ _ => rfl)) pa_nil)) pa_nil)) (by rfl))
      (pss_one (ps_if (pt_cmpR (kNE (K := K) rfl hu64) (pv 5) (pv 6) (nomark _)) (pss_one (ps_expr (pe_bmk (K := K) rfl PySem.F.plainAttrs_list PySem.F.slot_list_append PySem.F.type_list_append mt_append (pv 3) (pa_cons (pe_tup (pa_cons (pv 4) (pa_cons (pv 5) (pa_cons (pv 6) pa_nil)))) pa_nil)))) pss_nil))))
      (pss_one (ps_ret (pv 3))))), ?_⟩
  rintro _ F ms Q Ea ⟨x, w, ps, b, a, rfl, hS, w0, w1, hb, ha, q⟩
  obtain ⟨i, j, m, hi, hj⟩ := id hS
  walk_at "al"
  refine ae_lstO ?_
  walk_at "al"
  refine ⟨by simp, fun l => ?_⟩
  walk_at "al"
  refine as_for ?_
  refine ai_rng1 ?_
  refine aa_cons ?_
  refine ae_fld ?_
  walk_at "al"
  refine ⟨x, T.c_Sign, fldS m w ps, .int w, rfl, .inr ⟨i + 1, hi⟩, T.k_Sign, T.n_Sign_width, rfl, ?_⟩
  walk_at "al"
  refine ⟨w, rfl, by omega, by omega, fun n F' ms' S' => ms' = (l, .lst ((linksF ps b.cps.toList a.cps.toList n).map lD)) :: ms ∧ ∃ e1 e2 e3, S' = [some (.ref x), some (.str b), some (.str a), some (.ref l), e1, e2, e3], ⟨rfl, none, none, none, rfl⟩, fun _ _ _ _ _ _ => trivial, ?_, ?_⟩
  · rintro n d F1 ms1 S1 e1 hd ⟨rfl, a4, a5, a6, rfl⟩ F2 e2
    obtain ⟨hn, rfl⟩ := range_at hd
    have hnb : n < b.cps.toList.length := by have : b.cps.toList.length = b.length := rfl; omega
    have hna : n < a.cps.toList.length := by have : a.cps.toList.length = a.length := rfl; omega
    have hS1 : Sgn T.c_Sign ((l, MO.lst ((linksF ps b.cps.toList a.cps.toList n).map lD)) :: ms) x w ps := ⟨i + 1, j + 1, m, hi, hj⟩
    have ll := links_len ps b.cps.toList a.cps.toList n
    refine ag_name ?_
    walk_at "al"
    refine ae_meth ?_
    walk_at "al"
    refine ⟨x, fldS m w ps, rfl, .inr ⟨i + 1, hi⟩, fld_no (by decide +kernel) (by decide +kernel) (by decide +kernel), ?_⟩
    walk_at "al"
    refine ar_ixS (z := b) (c := b.cps.toList[n]) (by omega) (atI_of (j := n) (by omega) (List.getElem?_eq_getElem hnb)) ?_
    walk_at "al"
    refine ⟨x, w, ps, _, rfl, hS1, ?_⟩
    rw [pieceS_pc]
    walk_at "al"
    refine ae_meth ?_
    walk_at "al"
    refine ⟨x, fldS m w ps, rfl, .inr ⟨i + 1, hi⟩, fld_no (by decide +kernel) (by decide +kernel) (by decide +kernel), ?_⟩
    walk_at "al"
    refine ar_ixS (z := a) (c := a.cps.toList[n]) (by omega) (atI_of (j := n) (by omega) (List.getElem?_eq_getElem hna)) ?_
    walk_at "al"
    refine ⟨x, w, ps, _, rfl, hS1, ?_⟩
    rw [pieceS_pc]
    walk_at "al"
    have gb : b.cps.toList.getD n 0 = b.cps.toList[n] := by rw [List.getD_eq_getElem?_getD, List.getElem?_eq_getElem hnb]; rfl
    have ga : a.cps.toList.getD n 0 = a.cps.toList[n] := by rw [List.getD_eq_getElem?_getD, List.getElem?_eq_getElem hna]; rfl
    by_cases hc : pc ps b.cps.toList[n] = pc ps a.cps.toList[n]
    · refine and_ndT (sg_inj.mpr hc) ?_
      walk_at "al"
      refine ⟨?_, _, _, _, rfl⟩
      rw [links_succ, show lkAt ps b.cps.toList a.cps.toList n = none by unfold lkAt; rw [gb, ga, if_pos hc]]
      simp
    · refine and_ndF (fun z => hc (sg_inj.mp z)) ?_
      walk_at "al"
      refine ae_bmL ?_
      walk_at "al"
      refine ⟨_, .inr ⟨0, l, rfl, rfl⟩, ?_⟩
      walk_at "al"
      refine ae_tup ?_
      walk_at "al"
      refine ⟨by simp, fun F3 e3 => ?_⟩
      walk_at "al"
      refine am_append 0 (l := l) rfl (by rw [List.length_map]; omega) ?_
      refine ⟨?_, _, _, _, rfl⟩
      rw [links_succ, show lkAt ps b.cps.toList a.cps.toList n = some (n, pc ps b.cps.toList[n], pc ps a.cps.toList[n]) by unfold lkAt; rw [gb, ga, if_neg hc]]
      show (l, MO.lst _) :: ms = _
      rw [List.map_append]
      simp [lD]
  · rintro F1 ms1 S1 e1 ⟨rfl, a4, a5, a6, rfl⟩
    rw [range_len]
    refine as_ret (ae_frz ?_)
    walk_at "al"
    exact ⟨0, l, _, rfl, rfl, fun F2 e2 => q F2 (e1.trans e2)⟩
theorem ok_shares (T : Txt K mg) : OK_shares P w base T := by
  refine fn_ok T.F_shares sc_shares (by rintro _ _ _ _ _ ⟨gs, k, rfl, _⟩; rfl) (fun cdv A outer s H E hr => ?_)
  have hu64 := hr.units
  refine ⟨_, (pss_cons (ps_setLc2 (i := 2) rfl sc_shares.nd rfl rfl (by rfl) (pi_listk (K := K) rfl (pv 0)) (own := [("place", 3), ("old", 4), ("new", 5), ("piece", 6)]) (vs1 := [6]) (@BlkOk.mk N_shares (defScope s_shares) _ _ rfl (by decide +kernel) (by decide +kernel) (by decide +kernel) (by decide +kernel)) (by decide) (fun _ _ _ _ _ => (pg_tupk (K := K) (n := 3) rfl rfl (pgs_cons (pg_name (i := 3) sc_shares.nd rfl (by first | exact Or.inl rfl | exact Or.inr rfl)) (pgs_cons (pg_name (i := 4) sc_shares.nd rfl (by first | exact Or.inl rfl | exact Or.inr rfl)) (pgs_cons (pg_name (i := 5) sc_shares.nd rfl (by first | exact Or.inl rfl | exact Or.inr rfl)) pgs_nil))))) (fun _ _ _ _ _ => pts_nil) (fun _ _ _ _ _ => (pi_tupk (K := K) rfl (pe_tup (pa_cons (pv 4) (pa_cons (pv 5) pa_nil))))) (fun _ _ _ _ _ => (pg_name (i := 6) sc_shares.nd rfl (by first | exact Or.inl rfl | exact Or.inr rfl))) (fun _ _ _ _ _ => (pts_one (pt_cmpR (kNE (K := K) rfl hu64) (pv 6) (pe_glob (by rfl) T.m_BLANK T.r_BLANK) (nomark _)))) (fun _ _ _ _ _ => (pv 6)))
      (pss_one (ps_ret (pe_or (pe_cmpR (kIN (K := K) rfl) (pe_ix (kIX (K := K) rfl) (pv 1) pe_int (fun _ _ => rfl)) (pv 2) (by with_unfolding_all rfl)) (pe_one (pe_cmpR (kIN (K := K) rfl) (pe_ix (kIX (K := K) rfl) (pv 1) pe_int (fun _ _ => rfl)) (pv 2) (by with_unfolding_all rfl))))))), ?_⟩
  rintro _ F ms Q Ea ⟨gs, k, rfl, hg, q⟩
  walk_at "al"
  refine ae_lc2 (gw_tup (gws_cons gm_name (gw_name (by simp)) (gws_cons gm_name (gw_name (by simp)) (gws_cons gm_name (gw_name (by simp)) gws_nil)))) (gm_tup (gms_cons gm_name (gms_cons gm_name (gms_cons gm_name gms_nil)))) (gw_name (by simp)) gm_name ?_
  refine ai_list ?_
  walk_at "al"
  refine .inl ⟨_, .inl rfl, fun n F' ms' acc => ms' = ms ∧ acc = ((letsF (gs.take n)).map sg).map D.str, ⟨rfl, rfl⟩, fun _ _ _ _ _ _ => trivial, ?_, ?_⟩
  · rintro n d F1 ms1 acc e1 hd ⟨rfl, rfl⟩ F2 e2
    obtain ⟨k1, hk, rfl⟩ := links_at hd
    have hn : n < gs.length := (List.getElem?_eq_some_iff.mp hk).1
    have hll := lets_len (gs.take n)
    have hlt : (gs.take n).length ≤ 24 := by rw [List.length_take]; omega
    refine ag_tup rfl ?_
    refine ags_cons (ag_name ?_)
    refine ags_cons (ag_name ?_)
    refine ags_cons (ag_name ?_)
    refine ags_nil ?_
    walk_at "al"
    refine ai_tup ?_
    refine ae_tup ?_
    walk_at "al"
    refine ⟨by simp, fun F3 e3 => ?_⟩
    refine ⟨_, rfl, fun n2 F' ms' acc => ms' = ms1 ∧ acc = ((letsF (gs.take n) ++ (([k1.2.1, k1.2.2].take n2).filter fun c => decide (c ≠ 32))).map sg).map D.str, ⟨rfl, by simp⟩, fun _ _ _ _ _ _ => trivial, ?_, ?_⟩
    · rintro n2 d F4 ms4 acc e4 hd ⟨rfl, rfl⟩ F5 e5
      obtain ⟨c, hc, rfl⟩ : ∃ c, [k1.2.1, k1.2.2][n2]? = some c ∧ d = .str (sg c) := by
        match n2, hd with
        | 0, hd => cases hd; exact ⟨_, rfl, rfl⟩
        | 1, hd => cases hd; exact ⟨_, rfl, rfl⟩
      refine ag_name ?_
      walk_at "al"
      have hfl := List.length_filter_le (fun c => decide (c ≠ 32)) ([k1.2.1, k1.2.2].take n2)
      have hf2 : ([k1.2.1, k1.2.2].take n2).length ≤ 2 := by rw [List.length_take]; exact Nat.min_le_right _ _
      refine ⟨fun hb => ?_, fun hb => ?_⟩
      · have h32 : c ≠ 32 := fun z => by
          subst z
          simp [show sg 32 = Str.ofString " " from rfl] at hb
        walk_at "al"
        refine ⟨by rw [List.length_map, List.length_map, List.length_append]; omega, rfl, ?_⟩
        rw [List.take_succ, hc, List.filter_append, ← List.append_assoc, List.map_append, List.map_append]
        simp [h32]
      · have h32 : c = 32 := by
          simp at hb
          exact sg_inj.mp hb
        refine ⟨rfl, ?_⟩
        rw [List.take_succ, hc, List.filter_append]
        simp [h32]
    · rintro F4 ms4 acc e4 ⟨rfl, rfl⟩
      refine ⟨rfl, ?_⟩
      rw [lets_take hk]
      rfl
  · rintro F1 ms1 acc e1 ⟨rfl, rfl⟩ F2 e2
    rw [List.length_map, List.take_length]
    walk_at "al"
    refine ar_ixT (d := .str (sg k.2.1)) (atI_of (j := 1) rfl rfl) ?_
    walk_at "al"
    refine ar_INl (xs := (letsF gs).map sg) (.inl (.inl (.inl rfl))) ?_
    rw [mem_sg]
    walk_at "al"
    have hq := q F2 (e1.trans e2)
    unfold sharesF at hq
    refine ⟨fun h1 => ?_, fun h1 => ?_⟩
    · walk_at "al"
      refine ar_ixT (d := .str (sg k.2.2)) (atI_of (j := 2) rfl rfl) ?_
      walk_at "al"
      refine ar_INl (xs := (letsF gs).map sg) (.inl (.inl (.inl rfl))) ?_
      rw [mem_sg]
      rw [h1, Bool.false_or] at hq
      exact hq
    · rw [h1, Bool.true_or] at hq
      exact hq
end
theorem sorted_uniq : ∀ {xs ys : List Nat}, xs.Pairwise (· ≤ ·) → ys.Pairwise (· ≤ ·) → xs.Perm ys → xs = ys
  | [], ys, _, _, p => p.nil_eq
  | x :: xs, [], _, _, p => by have := p.length_eq; simp at this
  | x :: xs, y :: ys, h1, h2, p => by
    have hx := List.pairwise_cons.mp h1
    have hy := List.pairwise_cons.mp h2
    have m1 : x ∈ y :: ys := p.mem_iff.mp (List.mem_cons_self ..)
    have m2 : y ∈ x :: xs := p.mem_iff.mpr (List.mem_cons_self ..)
    have e : x = y := by
      rcases List.mem_cons.mp m1 with e | e
      · exact e
      · rcases List.mem_cons.mp m2 with e2 | e2
        · exact e2.symm
        · exact Nat.le_antisymm (hx.1 _ e2) (hy.1 _ e)
    subst e
    rw [sorted_uniq hx.2 hy.2 (List.Perm.cons_inv p)]
theorem sorted_sg : ∀ {cs : List Nat}, sortedS (cs.map sg) = true → cs.Pairwise (· ≤ ·)
  | [], _ => List.Pairwise.nil
  | [c], _ => List.pairwise_singleton ..
  | a :: b :: r, h => by
    have h2 : (!ltCps (sg b).cps.toList (sg a).cps.toList && sortedS ((b :: r).map sg)) = true := h
    rw [Bool.and_eq_true] at h2
    have ih := sorted_sg (cs := b :: r) h2.2
    have hab : a ≤ b := by
      have := h2.1
      by_cases z : b < a
      · exfalso
        have e : ltCps (sg b).cps.toList (sg a).cps.toList = true := by
          show ltCps [b] [a] = true
          simp [ltCps, z]
        rw [e] at this
        cases this
      · omega
    refine List.pairwise_cons.mpr ⟨fun c hc => ?_, ih⟩
    rcases List.mem_cons.mp hc with rfl | hc
    · exact hab
    · exact Nat.le_trans hab ((List.pairwise_cons.mp ih).1 c hc)
theorem perm_sg {ys : List Str} {xs : List Nat} (h : ys.Perm (xs.map sg)) : ∃ cs : List Nat, ys = cs.map sg ∧ cs.Perm xs := by
  have hall : ∀ y ∈ ys, ∃ c, y = sg c := fun y hy => by
    obtain ⟨c, _, hc⟩ := List.mem_map.mp (h.mem_iff.mp hy)
    exact ⟨c, hc.symm⟩
  obtain ⟨cs, rfl⟩ : ∃ cs : List Nat, ys = cs.map sg := by
    clear h
    induction ys with
    | nil => exact ⟨[], rfl⟩
    | cons y ys ih =>
      obtain ⟨c, rfl⟩ := hall y (List.mem_cons_self ..)
      obtain ⟨cs, rfl⟩ := ih fun z hz => hall z (List.mem_cons_of_mem _ hz)
      exact ⟨c :: cs, rfl⟩
  refine ⟨cs, rfl, ?_⟩
  have h2 := h.map (fun s : Str => s.cps.toList.headD 0)
  rw [List.map_map, List.map_map] at h2
  have hid : ((fun s : Str => s.cps.toList.headD 0) ∘ sg) = (id : Nat → Nat) := rfl
  rw [hid, List.map_id, List.map_id] at h2
  exact h2
theorem eqv_strs : ∀ (xs ys : List Str), eqvD (.lst (xs.map D.str)) (.lst (ys.map D.str)) = decide (xs = ys)
  | [], [] => rfl
  | [], y :: ys => by simp [eqvD, toPy, toPyL, PyData.eqv, PyData.eqvAll]
  | x :: xs, [] => by simp [eqvD, toPy, toPyL, PyData.eqv, PyData.eqvAll]
  | x :: xs, y :: ys => by
    have ih := eqv_strs xs ys
    simp only [eqvD, toPy, toPyL, PyData.eqv, PyData.eqvAll, List.map_cons] at ih ⊢
    rw [ih]
    by_cases h : x = y
    · by_cases h2 : xs = ys
      · simp [h, h2]
      · simp [h, h2]
    · simp [h]
theorem any_closed (gs : List Lk) : (gs.map fun k => decide (32 ∈ [k.2.1, k.2.2])).any id = !gs.all (fun k => decide (k.2.1 ≠ 32) && decide (k.2.2 ≠ 32)) := by
  rw [List.any_map]
  induction gs with
  | nil => rfl
  | cons k gs ih =>
    rw [List.any_cons, List.all_cons, ih, Bool.not_and]
    congr 1
    by_cases a : k.2.1 = 32 <;> by_cases b : k.2.2 = 32 <;> simp [a, b, eq_comm]
section
variable {P : Program} {w : World} {K : Frg} {mg : Str → Option Value} {base : Heap}
theorem ok_is_closed (T : Txt K mg) : OK_is_closed P w base T := by
  refine fn_ok T.F_is_closed sc_is_closed (by rintro _ _ _ _ _ ⟨gs, rfl, _⟩; rfl) (fun cdv A outer s H E hr => ?_)
  have hu64 := hr.units
  refine ⟨_, (pss_cons (ps_if (pt_val (pe_callB (kANY (K := K) rfl rfl) (by rfl) T.g_any boot_any (pa_cons (pe_lc rfl sc_is_closed.nd (pi_listk (K := K) rfl (pv 0)) (own := [("place", 1), ("old", 2), ("new", 3)]) (@BlkOk.mk N_is_closed (defScope s_is_closed) _ _ rfl (by decide +kernel) (by decide +kernel) (by decide +kernel) (by decide +kernel)) (fun _ _ _ _ _ => (pg_tupk (K := K) (n := 3) rfl rfl (pgs_cons (pg_name (i := 1) sc_is_closed.nd rfl (by first | exact Or.inl rfl | exact Or.inr rfl)) (pgs_cons (pg_name (i := 2) sc_is_closed.nd rfl (by first | exact Or.inl rfl | exact Or.inr rfl)) (pgs_cons (pg_name (i := 3) sc_is_closed.nd rfl (by first | exact Or.inl rfl | exact Or.inr rfl)) pgs_nil))))) (fun _ _ _ _ _ => pts_nil) (fun _ _ _ _ _ => (pe_cmpR (kIN (K := K) rfl) (pe_glob (by rfl) T.m_BLANK T.r_BLANK) (pe_tup (pa_cons (pv 2) (pa_cons (pv 3) pa_nil))) (by with_unfolding_all rfl)))) pa_nil))) (pss_one (ps_ret pe_bl)) pss_nil)
      (pss_one (ps_ret (pe_cmpR (kEQ (K := K) rfl hu64) (pe_callB (kSRT (K := K) rfl) (by rfl) T.g_sorted boot_sorted (pa_cons (pe_lc rfl sc_is_closed.nd (pi_listk (K := K) rfl (pv 0)) (own := [("place", 1), ("old", 2), ("new", 3)]) (@BlkOk.mk N_is_closed (defScope s_is_closed) _ _ rfl (by decide +kernel) (by decide +kernel) (by decide +kernel) (by decide +kernel)) (fun _ _ _ _ _ => (pg_tupk (K := K) (n := 3) rfl rfl (pgs_cons (pg_name (i := 1) sc_is_closed.nd rfl (by first | exact Or.inl rfl | exact Or.inr rfl)) (pgs_cons (pg_name (i := 2) sc_is_closed.nd rfl (by first | exact Or.inl rfl | exact Or.inr rfl)) (pgs_cons (pg_name (i := 3) sc_is_closed.nd rfl (by first | exact Or.inl rfl | exact Or.inr rfl)) pgs_nil))))) (fun _ _ _ _ _ => pts_nil) (fun _ _ _ _ _ => (pv 2))) pa_nil)) (pe_callB (kSRT (K := K) rfl) (by rfl) T.g_sorted boot_sorted (pa_cons (pe_lc rfl sc_is_closed.nd (pi_listk (K := K) rfl (pv 0)) (own := [("place", 1), ("old", 2), ("new", 3)]) (@BlkOk.mk N_is_closed (defScope s_is_closed) _ _ rfl (by decide +kernel) (by decide +kernel) (by decide +kernel) (by decide +kernel)) (fun _ _ _ _ _ => (pg_tupk (K := K) (n := 3) rfl rfl (pgs_cons (pg_name (i := 1) sc_is_closed.nd rfl (by first | exact Or.inl rfl | exact Or.inr rfl)) (pgs_cons (pg_name (i := 2) sc_is_closed.nd rfl (by first | exact Or.inl rfl | exact Or.inr rfl)) (pgs_cons (pg_name (i := 3) sc_is_closed.nd rfl (by first | exact Or.inl rfl | exact Or.inr rfl)) pgs_nil))))) (fun _ _ _ _ _ => pts_nil) (fun _ _ _ _ _ => (pv 3))) pa_nil)) (nomark _))))), ?_⟩
  rintro _ F ms Q Ea ⟨gs, rfl, hg, hlt, q⟩
  walk_at "al"
  refine ae_lc (gw_tup (gws_cons gm_name (gw_name (by simp)) (gws_cons gm_name (gw_name (by simp)) (gws_cons gm_name (gw_name (by simp)) gws_nil)))) (gm_tup (gms_cons gm_name (gms_cons gm_name (gms_cons gm_name gms_nil)))) ?_
  refine ai_list ?_
  walk_at "al"
  refine .inl ⟨_, .inl rfl, fun n F' ms' acc => ms' = ms ∧ acc = ((gs.take n).map fun k => decide (32 ∈ [k.2.1, k.2.2])).map D.bl, ⟨rfl, rfl⟩, fun _ _ _ _ _ _ => trivial, ?_, ?_⟩
  · rintro n d F1 ms1 acc e1 hd ⟨rfl, rfl⟩ F2 e2
    obtain ⟨k1, hk, rfl⟩ := links_at hd
    have hn : n < gs.length := (List.getElem?_eq_some_iff.mp hk).1
    refine ag_tup rfl ?_
    refine ags_cons (ag_name ?_)
    refine ags_cons (ag_name ?_)
    refine ags_cons (ag_name ?_)
    refine ags_nil ?_
    walk_at "al"
    refine ae_tup ?_
    walk_at "al"
    refine ⟨by simp, fun F3 e3 => ?_⟩
    refine ar_INl (x := sg 32) (xs := [k1.2.1, k1.2.2].map sg) (.inr rfl) ?_
    rw [mem_sg]
    refine ⟨by rw [List.length_map, List.length_map, List.length_take]; omega, rfl, ?_⟩
    rw [List.take_succ, hk, List.map_append, List.map_append]
    rfl
  · rintro F1 ms1 acc e1 ⟨rfl, rfl⟩ F2 e2
    rw [List.length_map, List.take_length]
    walk_at "al"
    refine ac_any (bs := gs.map fun k => decide (32 ∈ [k.2.1, k.2.2])) rfl ?_
    walk_at "al"
    rw [any_closed]
    have hq := q F2 (e1.trans e2)
    unfold closedF at hq
    cases hall : gs.all (fun k => decide (k.2.1 ≠ 32) && decide (k.2.2 ≠ 32)) with
    | false =>
      rw [hall, Bool.false_and] at hq
      refine and_nF ?_
      walk_at "al"
      exact hq
    | true =>
      rw [hall, Bool.true_and] at hq
      refine and_nT ?_
      walk_at "al"
      refine ae_lc (gw_tup (gws_cons gm_name (gw_name (by simp)) (gws_cons gm_name (gw_name (by simp)) (gws_cons gm_name (gw_name (by simp)) gws_nil)))) (gm_tup (gms_cons gm_name (gms_cons gm_name (gms_cons gm_name gms_nil)))) ?_
      refine ai_list ?_
      walk_at "al"
      refine .inl ⟨_, .inl rfl, fun n F' ms' acc => ms' = ms1 ∧ acc = (((gs.take n).map (·.2.1)).map sg).map D.str, ⟨rfl, rfl⟩, fun _ _ _ _ _ _ => trivial, ?_, ?_⟩
      · rintro n d F3 ms3 acc e3 hd ⟨rfl, rfl⟩ F4 e4
        obtain ⟨k1, hk, rfl⟩ := links_at hd
        have hn : n < gs.length := (List.getElem?_eq_some_iff.mp hk).1
        refine ag_tup rfl ?_
        refine ags_cons (ag_name ?_)
        refine ags_cons (ag_name ?_)
        refine ags_cons (ag_name ?_)
        refine ags_nil ?_
        walk_at "al"
        refine ⟨by rw [List.length_map, List.length_map, List.length_map, List.length_take]; omega, rfl, ?_⟩
        rw [List.take_succ, hk, List.map_append, List.map_append, List.map_append]
        rfl
      · rintro F3 ms3 acc e3 ⟨rfl, rfl⟩ F4 e4
        rw [List.length_map, List.take_length]
        walk_at "al"
        refine ac_sortS (xs := (gs.map (·.2.1)).map sg) (.inl (.inl rfl)) (by rw [List.length_map, List.length_map]; omega) fun F5 ys1 e5 hp1 hs1 => ?_
        walk_at "al"
        refine ae_lc (gw_tup (gws_cons gm_name (gw_name (by simp)) (gws_cons gm_name (gw_name (by simp)) (gws_cons gm_name (gw_name (by simp)) gws_nil)))) (gm_tup (gms_cons gm_name (gms_cons gm_name (gms_cons gm_name gms_nil)))) ?_
        refine ai_list ?_
        walk_at "al"
        refine .inl ⟨_, .inl rfl, fun n F' ms' acc => ms' = ms3 ∧ acc = (((gs.take n).map (·.2.2)).map sg).map D.str, ⟨rfl, rfl⟩, fun _ _ _ _ _ _ => trivial, ?_, ?_⟩
        · rintro n d F6 ms6 acc e6 hd ⟨rfl, rfl⟩ F7 e7
          obtain ⟨k1, hk, rfl⟩ := links_at hd
          have hn : n < gs.length := (List.getElem?_eq_some_iff.mp hk).1
          refine ag_tup rfl ?_
          refine ags_cons (ag_name ?_)
          refine ags_cons (ag_name ?_)
          refine ags_cons (ag_name ?_)
          refine ags_nil ?_
          walk_at "al"
          refine ⟨by rw [List.length_map, List.length_map, List.length_map, List.length_take]; omega, rfl, ?_⟩
          rw [List.take_succ, hk, List.map_append, List.map_append, List.map_append]
          rfl
        · rintro F6 ms6 acc e6 ⟨rfl, rfl⟩ F7 e7
          rw [List.length_map, List.take_length]
          walk_at "al"
          refine ac_sortS (xs := (gs.map (·.2.2)).map sg) (.inl (.inl rfl)) (by rw [List.length_map, List.length_map]; omega) fun F8 ys2 e8 hp2 hs2 => ?_
          obtain ⟨c1, rfl, q1⟩ := perm_sg hp1
          obtain ⟨c2, rfl, q2⟩ := perm_sg hp2
          have ok1 : ∀ {cs : List Nat}, (∀ c ∈ cs, c < 128) → okL ((cs.map sg).map D.str) = true ∧ depL ((cs.map sg).map D.str) = 0 := fun {cs} h => chr_ok fun x hx => by
            obtain ⟨s, hs, rfl⟩ := List.mem_map.mp hx
            obtain ⟨c, hc, rfl⟩ := List.mem_map.mp hs
            exact ⟨c, rfl, h c hc⟩
          obtain ⟨o1, o2⟩ := ok1 (cs := c1) fun c hc => by
            obtain ⟨k, hk, rfl⟩ := List.mem_map.mp (q1.mem_iff.mp hc)
            exact (hlt k hk).1
          obtain ⟨o3, o4⟩ := ok1 (cs := c2) fun c hc => by
            obtain ⟨k, hk, rfl⟩ := List.mem_map.mp (q2.mem_iff.mp hc)
            exact (hlt k hk).2
          refine ar_EQd (d := .lst ((c1.map sg).map D.str)) (e := .lst ((c2.map sg).map D.str)) o1 o3 (by show depL ((c1.map sg).map D.str) + 1 ≤ 64; omega) (by show depL ((c2.map sg).map D.str) + 1 ≤ 64; omega) ?_
          rw [eqv_strs]
          have hfin := q F8 ((((((e1.trans e2).trans e3).trans e4).trans e5).trans e6).trans (e7.trans e8))
          unfold closedF at hfin
          rw [hall, Bool.true_and] at hfin
          have e9 : decide (c1.map sg = c2.map sg) = decide ((gs.map (·.2.1)).Perm (gs.map (·.2.2))) := by
            by_cases hp : (gs.map (·.2.1)).Perm (gs.map (·.2.2))
            · rw [decide_eq_true hp]
              refine decide_eq_true ?_
              rw [sorted_uniq (sorted_sg hs1) (sorted_sg hs2) ((q1.trans hp).trans q2.symm)]
            · rw [decide_eq_false hp]
              refine decide_eq_false fun z => hp ?_
              have e := congrArg (List.map fun s : Str => s.cps.toList.headD 0) z
              rw [List.map_map, List.map_map] at e
              have hid : ((fun s : Str => s.cps.toList.headD 0) ∘ sg) = (id : Nat → Nat) := rfl
              rw [hid, List.map_id, List.map_id] at e
              subst e
              exact q1.symm.trans q2
          rw [e9]
          exact hfin
end

theorem tog_len (k : Lk) (found : List (List Lk)) : (togF k found).length ≤ found.flatten.length + 1 := by
  have gen : ∀ (l : List (List Lk)) (t : List Lk), (l.foldl (fun t g => g ++ t) t).length = l.flatten.length + t.length := by
    intro l
    induction l with
    | nil => intro t; simp
    | cons g l ih => intro t; rw [List.foldl_cons, ih, List.length_append, List.flatten_cons, List.length_append]; omega
  have fl : ∀ l : List (List Lk), (l.filter fun g => sharesF g k).flatten.length ≤ l.flatten.length := by
    intro l
    induction l with
    | nil => exact Nat.le_refl _
    | cons g l ih =>
      rw [List.filter_cons]
      split
      · rw [List.flatten_cons, List.flatten_cons, List.length_append, List.length_append]; omega
      · rw [List.flatten_cons, List.length_append]; omega
  unfold togF
  rw [gen]
  have := fl found
  simp only [List.length_singleton]
  omega
theorem step_len (found : List (List Lk)) (k : Lk) : (stepG found k).flatten.length = found.flatten.length + 1 ∧ (stepG found k).length ≤ found.length + 1 := by
  have gen : ∀ (l : List (List Lk)) (t : List Lk), (l.foldl (fun t g => g ++ t) t).length = l.flatten.length + t.length := by
    intro l
    induction l with
    | nil => intro t; simp
    | cons g l ih => intro t; rw [List.foldl_cons, ih, List.length_append, List.flatten_cons, List.length_append]; omega
  have sp : ∀ l : List (List Lk), (l.filter fun g => sharesF g k).flatten.length + (l.filter fun g => !sharesF g k).flatten.length = l.flatten.length := by
    intro l
    induction l with
    | nil => rfl
    | cons g l ih =>
      rw [List.filter_cons, List.filter_cons, List.flatten_cons, List.length_append]
      cases sharesF g k with
      | true => simp only [if_true, Bool.not_true, Bool.false_eq_true, if_false, List.flatten_cons, List.length_append]; omega
      | false => simp only [if_true, Bool.not_false, Bool.false_eq_true, if_false, List.flatten_cons, List.length_append]; omega
  unfold stepG togF
  refine ⟨?_, ?_⟩
  · rw [List.flatten_append, List.length_append, List.flatten_cons, List.flatten_nil, List.append_nil, gen]
    have := sp found
    simp only [List.length_singleton]
    omega
  · rw [List.length_append]
    have := List.length_filter_le (fun g => !sharesF g k) found
    simp only [List.length_singleton]
    omega
theorem tog_take {k : Lk} {found : List (List Lk)} {n : Nat} {g : List Lk} (h : found[n]? = some g) : togF k (found.take (n + 1)) = if sharesF g k = true then g ++ togF k (found.take n) else togF k (found.take n) := by
  unfold togF
  rw [List.take_succ, h, List.filter_append, List.foldl_append]
  cases hs : sharesF g k with
  | true => simp [hs]
  | false => simp [hs]
theorem oth_take {k : Lk} {found : List (List Lk)} {n : Nat} {g : List Lk} (h : found[n]? = some g) : ((found.take (n + 1)).filter fun g => !sharesF g k) = if sharesF g k = true then (found.take n).filter (fun g => !sharesF g k) else (found.take n).filter (fun g => !sharesF g k) ++ [g] := by
  rw [List.take_succ, h, List.filter_append]
  cases hs : sharesF g k with
  | true => simp [hs]
  | false => simp [hs]
theorem mem_flat_len {found : List (List Lk)} {n : Nat} {g : List Lk} (h : found[n]? = some g) : g.length + (found.take n).flatten.length ≤ found.flatten.length := by
  have hn := (List.getElem?_eq_some_iff.mp h)
  obtain ⟨hn, e⟩ := hn
  have hs : found = found.take n ++ g :: found.drop (n + 1) := by rw [← e, List.getElem_cons_drop, List.take_append_drop]
  conv => rhs; rw [hs]
  rw [List.flatten_append, List.flatten_cons, List.length_append, List.length_append]
  omega
theorem groups_take {ks : List Lk} {n : Nat} {k : Lk} (h : ks[n]? = some k) : groupsF (ks.take (n + 1)) = stepG (groupsF (ks.take n)) k := by
  unfold groupsF
  rw [List.take_succ, h, List.foldl_append]
  rfl
theorem groups_len : ∀ (ks : List Lk), (groupsF ks).flatten.length = ks.length ∧ (groupsF ks).length ≤ ks.length := by
  have gen : ∀ (ks : List Lk) (f : List (List Lk)), (ks.foldl stepG f).flatten.length = f.flatten.length + ks.length ∧ (ks.foldl stepG f).length ≤ f.length + ks.length := by
    intro ks
    induction ks with
    | nil => intro f; exact ⟨rfl, Nat.le_refl _⟩
    | cons k ks ih =>
      intro f
      obtain ⟨s1, s2⟩ := step_len f k
      obtain ⟨i1, i2⟩ := ih (stepG f k)
      rw [List.foldl_cons, List.length_cons]
      exact ⟨by omega, by omega⟩
  intro ks
  have := gen ks []
  simpa [groupsF] using this
theorem gd_at {f : List (List Lk)} {n : Nat} {d : D} (h : (f.map gD)[n]? = some d) : ∃ g, f[n]? = some g ∧ d = gD g := by
  rw [List.getElem?_map] at h
  cases e : f[n]? with
  | none => rw [e] at h; cases h
  | some p => rw [e] at h; exact ⟨p, rfl, (Option.some.inj h).symm⟩
section
variable {P : Program} {w : World} {K : Frg} {mg : Str → Option Value} {base : Heap}
theorem as_drops {Γ} {ts : TS} {F p S} {A : AEnds} : ∀ (n : Nat) {J : Ms}, AS Γ ts F (p :: J.drop n) S A → AS Γ ts F (p :: J) S A
  | 0, _, h => h
  | _ + 1, [], h => h
  | n + 1, q :: J, h => as_dropm 1 (as_drops n (J := J) h) (by simp)
theorem ok_groups (T : Txt K mg) (G_shares : OK_shares P w base T) : OK_groups P w base T := by
  refine fn_ok T.F_groups sc_groups (by rintro _ _ _ _ _ ⟨ks, rfl, _⟩; rfl) (fun cdv A outer s H E hr => ?_)
  have hu64 := hr.units
  refine ⟨_, (pss_cons (ps_set (i := 1) sc_groups.nd rfl (by first | exact Or.inl rfl | exact Or.inr rfl) (pe_lst pa_nil))
      (pss_cons (ps_for PassesOwn.never rfl (pi_listk (K := K) rfl (pv 0)) (pg_name (i := 2) sc_groups.nd rfl (by first | exact Or.inl rfl | exact Or.inr rfl)) (pss_cons (ps_par (i := 3) (j := 4) rfl sc_groups.nd rfl rfl (by decide) rfl rfl (pa_cons (pe_lst (pa_cons (pv 2) pa_nil)) (pa_cons (pe_lst pa_nil) pa_nil)) (by rfl))
      (pss_cons (ps_for PassesOwn.never rfl (pi_listk (K := K) rfl (pv 1)) (pg_name (i := 5) sc_groups.nd rfl (by first | exact Or.inl rfl | exact Or.inr rfl)) (pss_one (ps_if (pt_val (pe_call G_shares (hr.mono (by first | decide | omega)) (by rfl) T.m_shares T.F_shares.kp T.b_shares .nil pass0 (pa_cons (pv 5) (pa_cons (pv 2) pa_nil)))) (pss_one (ps_set (i := 3) sc_groups.nd rfl (by first | exact Or.inl rfl | exact Or.inr rfl) (pe_op (kADD (K := K) rfl) (pv 5) (pv 3)))) (pss_one (ps_expr (pe_bmk (K := K) rfl PySem.F.plainAttrs_list PySem.F.slot_list_append PySem.F.type_list_append mt_append (pv 4) (pa_cons (pv 5) pa_nil)))))))
      (pss_one (ps_set (i := 1) sc_groups.nd rfl (by first | exact Or.inl rfl | exact Or.inr rfl) (pe_op (kADD (K := K) rfl) (pv 4) (pe_lst (pa_cons (pv 3) pa_nil))))))))
      (pss_one (ps_ret (pv 1))))), ?_⟩
  rintro _ F ms Q Ea ⟨ks, rfl, hk24, q⟩
  walk_at "al"
  refine ae_lstO ?_
  walk_at "al"
  refine ⟨by simp, fun l0 => ?_⟩
  walk_at "al"
  refine as_for ?_
  refine ai_list ?_
  walk_at "al"
  refine .inl ⟨_, .inl rfl, fun n F' ms' S' => ∃ (l : Addr) (J : Ms) (a b c d : Option D), ms' = (l, .lst ((groupsF (ks.take n)).map gD)) :: J ∧ J.drop (J.length - ms.length) = ms ∧ S' = [some (.lst (ks.map lD)), some (.ref l), a, b, c, d], ⟨l0, ms, none, none, none, none, rfl, by simp, rfl⟩, fun _ _ _ _ _ _ => trivial, ?_, ?_⟩
  · rintro n d F1 ms1 S1 e1 hd ⟨l, J, a, b, c, dd, rfl, hJ, rfl⟩ F2 e2
    obtain ⟨k, hk, rfl⟩ := links_at hd
    have hn : n < ks.length := (List.getElem?_eq_some_iff.mp hk).1
    obtain ⟨f1, f2⟩ := groups_len (ks.take n)
    have hlt : (ks.take n).length ≤ 24 := by rw [List.length_take]; omega
    generalize hf : groupsF (ks.take n) = found at f1 f2 ⊢
    refine ag_name ?_
    walk_at "al"
    refine ae_lstF ?_
    walk_at "al"
    refine ⟨by simp, fun F3 e3 => ?_⟩
    walk_at "al"
    refine ae_lstO ?_
    walk_at "al"
    refine ⟨by simp, fun lo => ?_⟩
    walk_at "al"
    refine as_for ?_
    refine ai_list ?_
    walk_at "al"
    refine .inr ⟨1, l, _, rfl, rfl, fun m F' ms' S' => ms' = (lo, .lst (((found.take m).filter fun g => !sharesF g k).map gD)) :: (l, .lst (found.map gD)) :: J ∧ ∃ e, S' = [some (.lst (ks.map lD)), some (.ref l), some (lD k), some (.lst ((togF k (found.take m)).map lD)), some (.ref lo), e], ⟨rfl, dd, rfl⟩, fun i F' ms' S' e h => ⟨1, by rw [h.1]; rfl⟩, ?_, ?_⟩
    · rintro m d F4 ms4 S4 e4 hd4 ⟨rfl, e, rfl⟩ F5 e5
      obtain ⟨g, hg, rfl⟩ := gd_at hd4
      have hm : m < found.length := (List.getElem?_eq_some_iff.mp hg).1
      have hgl := mem_flat_len hg
      have htl := tog_len k (found.take m)
      refine ag_name ?_
      walk_at "al"
      refine ⟨g, k, rfl, by omega, fun F6 e6 => ?_⟩
      walk_at "al"
      have t1 := tog_take (k := k) hg
      have t2 := oth_take (k := k) hg
      cases hs : sharesF g k with
      | true =>
        rw [hs, if_pos rfl] at t1 t2
        walk_at "al"
        refine ar_ADDl (xs := g.map lD) (ys := (togF k (found.take m)).map lD) (by rw [List.length_map, List.length_map]; omega) fun F7 e7 => ?_
        walk_at "al"
        refine ⟨by rw [t2], some (gD g), ?_⟩
        rw [t1, List.map_append]
        rfl
      | false =>
        rw [hs, if_neg (by decide)] at t1 t2
        walk_at "al"
        refine ae_bmL ?_
        walk_at "al"
        refine ⟨_, .inr ⟨0, lo, rfl, rfl⟩, ?_⟩
        walk_at "al"
        have hol := List.length_filter_le (fun g => !sharesF g k) (found.take m)
        have hol2 : (found.take m).length ≤ 24 := by rw [List.length_take]; omega
        refine am_append 0 (l := lo) rfl (by rw [List.length_map]; omega) ?_
        refine ⟨?_, some (gD g), ?_⟩
        · rw [t2, List.map_append]
          rfl
        · rw [t1]
          rfl
    · rintro F4 ms4 S4 e4 ⟨rfl, e, rfl⟩
      rw [List.length_map, List.take_length]
      have hol := List.length_filter_le (fun g => !sharesF g k) found
      walk_at "al"
      refine ae_lstF ?_
      walk_at "al"
      refine ⟨by simp, fun F5 e5 => ?_⟩
      refine ar_ADDoo 0 (l := lo) rfl (by rw [List.length_map]; show _ + 1 ≤ 100000; omega) fun l2 => ?_
      walk_at "al"
      refine ⟨l2, (lo, .lst ((found.filter fun g => !sharesF g k).map gD)) :: (l, .lst (found.map gD)) :: J, _, _, _, _, ?_, ?_, rfl⟩
      · rw [groups_take hk, hf]
        unfold stepG
        rw [List.map_append]
        rfl
      · have hJl : (J.drop (J.length - ms.length)).length = ms.length := by rw [hJ]
        rw [List.length_drop] at hJl
        show (_ :: _ :: J).drop ((_ :: _ :: J).length - ms.length) = ms
        rw [List.length_cons, List.length_cons, show J.length + 1 + 1 - ms.length = (J.length - ms.length) + 1 + 1 by omega]
        exact hJ
  · rintro F1 ms1 S1 e1 ⟨l, J, a, b, c, dd, rfl, hJ, rfl⟩
    rw [List.length_map, List.take_length]
    refine as_drops (J.length - ms.length) ?_
    rw [hJ]
    refine as_frz 0 (i := 1) rfl rfl fun F2 e2 => ?_
    walk_at "al"
    exact q F2 (e1.trans e2)
end

theorem kS_dec (a b : Nat) : decide (kS a = kS b) = decide (a = b) := by
  by_cases e : a = b
  · rw [e]; simp
  · rw [decide_eq_false e, decide_eq_false fun h => e (kS_inj.mp h).symm]
theorem valD_cnt (c : Nat) (z : D) : ∀ m : Cn, (valD (cntD m) (kS c)).getD (.int 0) = .int (valC m c)
  | [] => rfl
  | p :: m => by
    have ih := valD_cnt c z m
    unfold valD cntD valC at ih ⊢
    rw [List.map_cons, List.find?_cons, List.find?_cons, kS_dec]
    cases e : decide (p.1 = c) with
    | true => rfl
    | false => exact ih
theorem any_cnt (c : Nat) : ∀ m : Cn, ((cntD m).any fun kv => decide (kv.1 = kS c)) = m.any fun p => decide (p.1 = c)
  | [] => rfl
  | p :: m => by
    have ih := any_cnt c m
    unfold cntD at ih ⊢
    rw [List.map_cons, List.any_cons, List.any_cons, ih, kS_dec]
theorem put_cnt (m : Cn) (c : Nat) (z : Int) : putKD (cntD m) (kS c) (.int z) = cntD (setC m c z) := by
  unfold putKD setC
  rw [any_cnt]
  cases m.any fun p => decide (p.1 = c) with
  | false => simp [cntD]
  | true =>
    rw [if_pos rfl, if_pos rfl]
    unfold cntD
    rw [List.map_map, List.map_map]
    apply List.map_congr_left
    rintro ⟨a, y⟩ _
    show (if kS a = kS c then (kS a, D.int z) else (kS a, D.int y)) = (kS (if a = c then (a, z) else (a, y)).1, D.int (if a = c then (a, z) else (a, y)).2)
    by_cases e : a = c
    · rw [if_pos e, if_pos (by rw [e])]
    · rw [if_neg e, if_neg fun h => e (kS_inj.mp h).symm]
theorem setC_len (m : Cn) (c : Nat) (z : Int) : (setC m c z).length ≤ m.length + 1 := by
  unfold setC
  split
  · rw [List.length_map]; omega
  · rw [List.length_append]; exact Nat.le_refl _
theorem cnt_take {ks : List Lk} {n : Nat} {k : Lk} (h : ks[n]? = some k) : cntF (ks.take (n + 1)) = stepC (cntF (ks.take n)) k := by
  unfold cntF
  rw [List.take_succ, h, List.foldl_append]
  rfl
theorem stepC_len (m : Cn) (k : Lk) : (stepC m k).length ≤ m.length + 2 := by
  unfold stepC
  have h1 := setC_len m k.2.1 (valC m k.2.1 + 1)
  have h2 := setC_len (setC m k.2.1 (valC m k.2.1 + 1)) k.2.2 (valC (setC m k.2.1 (valC m k.2.1 + 1)) k.2.2 - 1)
  omega
theorem cnt_len (ks : List Lk) : (cntF ks).length ≤ 2 * ks.length := by
  have gen : ∀ (ks : List Lk) (m : Cn), (ks.foldl stepC m).length ≤ m.length + 2 * ks.length := by
    intro ks
    induction ks with
    | nil => intro m; simp
    | cons k ks ih =>
      intro m
      have := ih (stepC m k)
      have := stepC_len m k
      rw [List.foldl_cons, List.length_cons]
      omega
  have := gen ks []
  simpa [cntF] using this
theorem setC_new {m : Cn} {c : Nat} {z : Int} (h : ∀ r ∈ m, r.1 ≠ c) : setC m c z = m ++ [(c, z)] := by
  unfold setC
  have : m.any (fun p => decide (p.1 = c)) = false := by
    rw [List.any_eq_false]
    intro r hr
    simpa using h r hr
  rw [this]
  rfl
theorem nd_take {m : Cn} (h : (m.map (·.1)).Nodup) {i : Nat} {p : Nat × Int} (hp : m[i]? = some p) : ∀ r ∈ m.take i, r.1 ≠ p.1 := by
  obtain ⟨hi, e⟩ := List.getElem?_eq_some_iff.mp hp
  have hs : m = m.take i ++ p :: m.drop (i + 1) := by rw [← e, List.getElem_cons_drop, List.take_append_drop]
  rw [hs, List.map_append, List.nodup_append] at h
  intro r hr
  exact h.2.2 r.1 (List.mem_map_of_mem hr) p.1 (by simp)
theorem setC_nd {m : Cn} (c : Nat) (z : Int) (h : (m.map (·.1)).Nodup) : ((setC m c z).map (·.1)).Nodup := by
  unfold setC
  cases e : m.any fun p => decide (p.1 = c) with
  | true =>
    rw [if_pos rfl, List.map_map]
    have : m.map ((fun p : Nat × Int => p.1) ∘ fun p => if p.1 = c then (p.1, z) else p) = m.map (·.1) := by
      apply List.map_congr_left
      intro p _
      show (if p.1 = c then (p.1, z) else p).1 = p.1
      split <;> rfl
    rw [this]
    exact h
  | false =>
    rw [if_neg (by decide), List.map_append, List.nodup_append]
    rw [List.any_eq_false] at e
    refine ⟨h, by simp, ?_⟩
    intro a ha b hb
    obtain ⟨p, hp, rfl⟩ := List.mem_map.mp ha
    have hb : b = c := by simpa using hb
    subst hb
    simpa using e p hp
theorem cnt_nd (ks : List Lk) : ((cntF ks).map (·.1)).Nodup := by
  have gen : ∀ (ks : List Lk) (m : Cn), (m.map (·.1)).Nodup → ((ks.foldl stepC m).map (·.1)).Nodup := by
    intro ks
    induction ks with
    | nil => intro m h; exact h
    | cons k ks ih => intro m h; exact ih _ (setC_nd _ _ (setC_nd _ _ h))
  exact gen ks [] List.nodup_nil
section
variable {P : Program} {w : World} {K : Frg} {mg : Str → Option Value} {base : Heap}
theorem ok_surplus (T : Txt K mg) : OK_surplus P w base T := by
  refine fn_ok T.F_surplus sc_surplus (by rintro _ _ _ _ _ ⟨ks, rfl, _⟩; rfl) (fun cdv A outer s H E hr => ?_)
  have hu64 := hr.units
  refine ⟨_, (pss_cons (ps_set (i := 1) sc_surplus.nd rfl (by first | exact Or.inl rfl | exact Or.inr rfl) pe_dnewK)
      (pss_cons (ps_for PassesOwn.never rfl (pi_listk (K := K) rfl (pv 0)) (pg_tupk (K := K) (n := 3) rfl rfl (pgs_cons (pg_name (i := 2) sc_surplus.nd rfl (by first | exact Or.inl rfl | exact Or.inr rfl)) (pgs_cons (pg_name (i := 3) sc_surplus.nd rfl (by first | exact Or.inl rfl | exact Or.inr rfl)) (pgs_cons (pg_name (i := 4) sc_surplus.nd rfl (by first | exact Or.inl rfl | exact Or.inr rfl)) pgs_nil)))) (pss_cons (ps_dput (hu_of hr) (pv 1) (pv 3) (pe_op (kADD (K := K) rfl) (pe_dget2 (hu_of hr) (pv 1) (pv 3) pe_int ⟨rfl, rfl, rfl, rfl⟩) pe_int) (by rfl))
      (pss_one (ps_dput (hu_of hr) (pv 1) (pv 4) (pe_op op_sub (pe_dget2 (hu_of hr) (pv 1) (pv 4) pe_int ⟨rfl, rfl, rfl, rfl⟩) pe_int) (by rfl)))))
      (pss_one (ps_ret (pe_lock (pe_dc rfl sc_surplus.nd (pi_items (pv 1)) (own := [("piece", 5), ("count", 6)]) (@BlkOk.mk N_surplus (defScope s_surplus) _ _ rfl (by decide +kernel) (by decide +kernel) (by decide +kernel) (by decide +kernel)) (fun _ _ _ _ _ => (pg_tupk (K := K) (n := 2) rfl rfl (pgs_cons (pg_name (i := 5) sc_surplus.nd rfl (by first | exact Or.inl rfl | exact Or.inr rfl)) (pgs_cons (pg_name (i := 6) sc_surplus.nd rfl (by first | exact Or.inl rfl | exact Or.inr rfl)) pgs_nil)))) (fun _ _ _ _ _ => (pts_one ((pw_and (pt_cmpR op_gt (pv 6) pe_int (nomark _)) (pw_and1 (pt_cmpR (kNE (K := K) rfl hu64) (pv 5) (pe_glob (by rfl) T.m_BLANK T.r_BLANK) (nomark _))))).pt)) (fun _ _ _ _ _ => (pv 5)) (fun _ _ _ _ _ => (pv 6)))))))), ?_⟩
  rintro _ F ms Q Ea ⟨ks, rfl, hk24, q⟩
  walk_at "al"
  refine ae_dnewO fun m => ?_
  walk_at "al"
  refine as_for ?_
  refine ai_list ?_
  walk_at "al"
  refine .inl ⟨_, .inl rfl, fun n F' ms' S' => ms' = (m, .dic (cntD (cntF (ks.take n)))) :: ms ∧ ∃ a b c, S' = [some (.lst (ks.map lD)), some (.ref m), a, b, c, none, none], ⟨rfl, none, none, none, rfl⟩, fun _ _ _ _ _ _ => trivial, ?_, ?_⟩
  · rintro n d F1 ms1 S1 e1 hd ⟨rfl, a, b, c, rfl⟩ F2 e2
    obtain ⟨k, hk, rfl⟩ := links_at hd
    have hn : n < ks.length := (List.getElem?_eq_some_iff.mp hk).1
    have hlt : (ks.take n).length ≤ 24 := by rw [List.length_take]; omega
    have hcl := cnt_len (ks.take n)
    refine ag_tup rfl ?_
    refine ags_cons (ag_name ?_)
    refine ags_cons (ag_name ?_)
    refine ags_cons (ag_name ?_)
    refine ags_nil ?_
    walk_at "al"
    refine as_dput ?_
    walk_at "al"
    refine ae_dget2 ?_
    walk_at "al"
    refine ⟨_, .inr ⟨0, m, rfl, rfl⟩, ?_⟩
    walk_at "al"
    refine ⟨kS k.2.1, rfl, .inr ⟨0, m, rfl, rfl⟩, ?_⟩
    rw [valD_cnt k.2.1 .non]
    walk_at "al"
    refine ⟨0, m, _, kS k.2.1, rfl, rfl, rfl, by unfold cntD; rw [List.length_map]; omega, ?_⟩
    rw [put_cnt]
    walk_at "al"
    have hl2 := setC_len (cntF (ks.take n)) k.2.1 (valC (cntF (ks.take n)) k.2.1 + 1)
    refine as_dput ?_
    walk_at "al"
    refine ae_dget2 ?_
    walk_at "al"
    refine ⟨_, .inr ⟨0, m, rfl, rfl⟩, ?_⟩
    walk_at "al"
    refine ⟨kS k.2.2, rfl, .inr ⟨0, m, rfl, rfl⟩, ?_⟩
    rw [valD_cnt k.2.2 .non]
    walk_at "al"
    refine ⟨0, m, _, kS k.2.2, rfl, rfl, rfl, by unfold cntD; rw [List.length_map]; omega, ?_⟩
    rw [put_cnt]
    refine ⟨?_, _, _, _, rfl⟩
    rw [cnt_take hk]
    rfl
  · rintro F1 ms1 S1 e1 ⟨rfl, a, b, c, rfl⟩
    rw [List.length_map, List.take_length]
    have hcl := cnt_len ks
    walk_at "al"
    refine ae_dropm ?_
    refine ae_frzd ?_
    refine ae_lock 0 rfl fun od vs rk => ?_
    refine ae_dc (gw_tup (gws_cons gm_name (gw_name (by simp)) (gws_cons gm_name (gw_name (by simp)) gws_nil))) (gm_tup (gms_cons gm_name (gms_cons gm_name gms_nil))) ?_
    refine ai_items ?_
    walk_at "al"
    refine ⟨m, od, vs, _, 0, rfl, rfl, rk, ?_⟩
    refine ⟨fun i F' ms' acc => ms' = (m, .raw (.frz od (.dK vs))) :: ms ∧ acc = cntD (((cntF ks).take i).filter fun p => decide (p.2 > 0) && !decide (p.1 = 32)), ⟨rfl, rfl⟩, ?_, ?_, ?_⟩
    · rintro i F' ms' acc e' ⟨rfl, rfl⟩
      exact ⟨0, rfl⟩
    · rintro i d F2 ms2 acc e2 hd ⟨rfl, rfl⟩ F3 e3
      have hp : ∃ p : Nat × Int, (cntF ks)[i]? = some p ∧ d = .tup [.str (sg p.1), .int p.2] := by
        unfold itemsD cntD at hd
        rw [List.map_map, List.getElem?_map] at hd
        cases e : (cntF ks)[i]? with
        | none => rw [e] at hd; cases hd
        | some p => rw [e] at hd; exact ⟨p, rfl, (Option.some.inj hd).symm⟩
      obtain ⟨p, hp, rfl⟩ := hp
      refine ag_tup rfl ?_
      refine ags_cons (ag_name ?_)
      refine ags_cons (ag_name ?_)
      refine ags_nil ?_
      have hft := List.length_filter_le (fun p : Nat × Int => decide (p.2 > 0) && !decide (p.1 = 32)) ((cntF ks).take i)
      have hft2 : ((cntF ks).take i).length ≤ 48 := by rw [List.length_take]; omega
      have fin : ∀ b : Bool, b = (decide (p.2 > 0) && !decide (p.1 = 32)) → (((cntF ks).take (i + 1)).filter fun p => decide (p.2 > 0) && !decide (p.1 = 32)) = if b = true then setC (((cntF ks).take i).filter fun p => decide (p.2 > 0) && !decide (p.1 = 32)) p.1 p.2 else ((cntF ks).take i).filter fun p => decide (p.2 > 0) && !decide (p.1 = 32) := by
        intro b hb
        rw [List.take_succ, hp, List.filter_append]
        cases b with
        | false => simp [← hb]
        | true =>
          rw [if_pos rfl, setC_new]
          · simp [← hb]
          · intro r hr e
            have hr := (List.mem_filter.mp hr).1
            exact nd_take (cnt_nd ks) hp r hr e
      have s32 : decide (sg p.1 = Str.ofString " ") = decide (p.1 = 32) := by
        by_cases e : p.1 = 32
        · rw [e]; rfl
        · rw [decide_eq_false e, decide_eq_false]
          intro h
          rw [← show sg 32 = Str.ofString " " from rfl] at h
          exact e (by simpa [sg] using congrArg Str.cps h)
      walk_at "al"
      refine ⟨fun hb => ?_, fun hb => ⟨fun z => Bool.noConfusion z, fun _ => ?_⟩⟩
      · walk_at "al"
        refine ⟨fun hb2 => ?_, fun hb2 => ?_⟩
        · walk_at "al"
          refine ⟨kS p.1, rfl, ?_⟩
          walk_at "al"
          refine ⟨by unfold cntD; rw [List.length_map]; omega, rfl, ?_⟩
          rw [put_cnt]
          have := fin true (by rw [show decide (p.2 > 0) = true from hb, ← s32, hb2]; rfl)
          rw [if_pos rfl] at this
          rw [this]
        · refine ⟨rfl, ?_⟩
          have := fin false (by rw [show decide (p.2 > 0) = true from hb, ← s32, hb2]; rfl)
          rw [if_neg (by decide)] at this
          rw [this]
      · refine ⟨rfl, ?_⟩
        have := fin false (by rw [show decide (p.2 > 0) = false from hb]; rfl)
        rw [if_neg (by decide)] at this
        rw [this]
    · rintro F2 ms2 acc e2 ⟨rfl, rfl⟩ l
      refine ⟨1, rfl, 0, l, _, rfl, rfl, fun F3 e3 => ⟨0, by simp, ?_⟩⟩
      have := q F3 (e1.trans (e2.trans e3))
      have hl : (itemsD (cntD (cntF ks))).length = (cntF ks).length := by unfold itemsD cntD; rw [List.length_map, List.length_map]
      rw [hl, List.take_length]
      exact this
end

theorem row_lt {w : Int} {z : Str} (h : okRow w z) (i : Nat) : z.cps.toList.getD i 0 < 128 := by
  rw [List.getD_eq_getElem?_getD]
  cases e : z.cps.toList[i]? with
  | none => show 0 < 128; decide
  | some c =>
    show c < 128
    rcases h.2 c (List.mem_of_getElem? e) with r | r
    · rw [r]; decide
    · exact inL_lt r
theorem pc_lt {ps : List Pr} (h : ∀ c ∈ flat ps, inL c) {c : Nat} (hc : c < 128) : pc ps c < 128 := by
  unfold pc
  cases e : ps.find? (fun p => c = p.1 ∨ c = p.2) with
  | none => exact hc
  | some p =>
    have hp := List.mem_of_find?_eq_some e
    have : p.1 < 128 := inL_lt (h p.1 (List.mem_flatMap.mpr ⟨p, hp, by simp⟩))
    show min p.1 p.2 < 128
    omega
theorem links_lt {ps : List Pr} {w : Int} {b a : Str} (h : ∀ c ∈ flat ps, inL c) (hb : okRow w b) (ha : okRow w a) (n : Nat) : ∀ k ∈ linksF ps b.cps.toList a.cps.toList n, k.2.1 < 128 ∧ k.2.2 < 128 := by
  intro k hk
  unfold linksF at hk
  obtain ⟨i, _, hi⟩ := List.mem_filterMap.mp hk
  unfold lkAt at hi
  split at hi
  · cases hi
  · cases hi
    exact ⟨pc_lt h (row_lt hb i), pc_lt h (row_lt ha i)⟩
theorem tog_mem {k : Lk} {f : List (List Lk)} {x : Lk} (h : x ∈ togF k f) : x = k ∨ x ∈ f.flatten := by
  have gen : ∀ (l : List (List Lk)) (t : List Lk), x ∈ l.foldl (fun t g => g ++ t) t → x ∈ t ∨ x ∈ l.flatten := by
    intro l
    induction l with
    | nil => intro t h; exact .inl h
    | cons g l ih =>
      intro t h
      rw [List.foldl_cons] at h
      rcases ih _ h with r | r
      · rcases List.mem_append.mp r with r | r
        · exact .inr (by rw [List.flatten_cons]; exact List.mem_append_left _ r)
        · exact .inl r
      · exact .inr (by rw [List.flatten_cons]; exact List.mem_append_right _ r)
  rcases gen _ _ h with r | r
  · exact .inl (by simpa using r)
  · obtain ⟨g, hg, hx⟩ := List.mem_flatten.mp r
    exact .inr (List.mem_flatten.mpr ⟨g, (List.mem_filter.mp hg).1, hx⟩)
theorem groups_mem (ks : List Lk) {x : Lk} (h : x ∈ (groupsF ks).flatten) : x ∈ ks := by
  have gen : ∀ (ks : List Lk) (f : List (List Lk)), x ∈ (ks.foldl stepG f).flatten → x ∈ f.flatten ∨ x ∈ ks := by
    intro ks
    induction ks with
    | nil => intro f h; exact .inl h
    | cons k ks ih =>
      intro f h
      rcases ih _ h with r | r
      · unfold stepG at r
        rw [List.flatten_append] at r
        rcases List.mem_append.mp r with r | r
        · obtain ⟨g, hg, hx⟩ := List.mem_flatten.mp r
          exact .inl (List.mem_flatten.mpr ⟨g, (List.mem_filter.mp hg).1, hx⟩)
        · have r : x ∈ togF k f := by simpa using r
          rcases tog_mem r with r | r
          · exact .inr (by rw [r]; exact List.mem_cons_self ..)
          · exact .inl r
      · exact .inr (List.mem_cons_of_mem _ r)
  rcases gen ks [] h with r | r
  · cases r
  · exact r
section
variable {P : Program} {w : World} {K : Frg} {mg : Str → Option Value} {base : Heap}
theorem ok_cost (T : Txt K mg) (G_Sign_piece : OK_Sign_piece P w base T) (G_links : OK_links P w base T) (G_surplus : OK_surplus P w base T) (G_groups : OK_groups P w base T) (G_is_closed : OK_is_closed P w base T) : OK_cost P w base T := by
  refine fn_ok T.F_cost sc_cost (by rintro _ _ _ _ _ ⟨x, wd, ps, b, a, rfl, _⟩; rfl) (fun cdv A outer s H E hr => ?_)
  have hu64 := hr.units
  refine ⟨_, (pss_cons (ps_set (i := 3) sc_cost.nd rfl (by first | exact Or.inl rfl | exact Or.inr rfl) (pe_call G_links (hr.mono (by first | decide | omega)) (by rfl) T.m_links T.F_links.kp T.b_links .nil pass0 (pa_cons (pv 0) (pa_cons (pv 1) (pa_cons (pv 2) pa_nil)))))
      (pss_cons (ps_set (i := 4) sc_cost.nd rfl (by first | exact Or.inl rfl | exact Or.inr rfl) (pe_callB (kLEN (K := K) rfl) (by rfl) T.g_len boot_len (pa_cons (pe_lc rfl sc_cost.nd (pi_listk (K := K) rfl (pv 3)) (own := [("place", 5), ("old", 6), ("new", 7)]) (@BlkOk.mk N_cost (defScope s_cost) _ _ rfl (by decide +kernel) (by decide +kernel) (by decide +kernel) (by decide +kernel)) (fun _ _ _ _ _ => (pg_tupk (K := K) (n := 3) rfl rfl (pgs_cons (pg_name (i := 5) sc_cost.nd rfl (by first | exact Or.inl rfl | exact Or.inr rfl)) (pgs_cons (pg_name (i := 6) sc_cost.nd rfl (by first | exact Or.inl rfl | exact Or.inr rfl)) (pgs_cons (pg_name (i := 7) sc_cost.nd rfl (by first | exact Or.inl rfl | exact Or.inr rfl)) pgs_nil))))) (fun _ _ _ _ _ => (pts_one (pt_cmpR (kNE (K := K) rfl hu64) (pv 7) (pe_glob (by rfl) T.m_BLANK T.r_BLANK) (nomark _)))) (fun _ _ _ _ _ => (pv 7))) pa_nil)))
      (pss_cons (ps_set (i := 8) sc_cost.nd rfl (by first | exact Or.inl rfl | exact Or.inr rfl) (pe_callB (kLEN (K := K) rfl) (by rfl) T.g_len boot_len (pa_cons (pe_lc rfl sc_cost.nd (pi_listk (K := K) rfl (pe_call G_groups (hr.mono (by first | decide | omega)) (by rfl) T.m_groups T.F_groups.kp T.b_groups .nil pass0 (pa_cons (pv 3) pa_nil))) (own := [("group", 9)]) (@BlkOk.mk N_cost (defScope s_cost) _ _ rfl (by decide +kernel) (by decide +kernel) (by decide +kernel) (by decide +kernel)) (fun _ _ _ _ _ => (pg_name (i := 9) sc_cost.nd rfl (by first | exact Or.inl rfl | exact Or.inr rfl))) (fun _ _ _ _ _ => (pts_one (pt_val (pe_call G_is_closed (hr.mono (by first | decide | omega)) (by rfl) T.m_is_closed T.F_is_closed.kp T.b_is_closed .nil pass0 (pa_cons (pv 9) pa_nil))))) (fun _ _ _ _ _ => (pv 9))) pa_nil)))
      (pss_cons (ps_set (i := 10) sc_cost.nd rfl (by first | exact Or.inl rfl | exact Or.inr rfl) pe_int)
      (pss_cons (ps_for PassesOwn.never rfl (pi_zipS (by rfl) T.g_zip (pa_cons (pv 1) (pa_cons (pv 2) pa_nil))) (pg_tupk (K := K) (n := 2) rfl rfl (pgs_cons (pg_name (i := 6) sc_cost.nd rfl (by first | exact Or.inl rfl | exact Or.inr rfl)) (pgs_cons (pg_name (i := 7) sc_cost.nd rfl (by first | exact Or.inl rfl | exact Or.inr rfl)) pgs_nil))) (pss_one (ps_aug (i := 10) sc_cost.nd rfl (by first | exact Or.inl rfl | exact Or.inr rfl) (pe_callTy call_INT (by rfl) T.g_int boot_int (pa_cons (pe_and (pe_cmpR (kNE (K := K) rfl hu64) (pv 6) (pv 7) (nomark _)) (pe_one (pe_cmpR (kEQ (K := K) rfl hu64) (pe_meth (pv 0) T.k_Sign T.Me_Sign_piece G_Sign_piece (hr.mono (by first | decide | omega)) T.b_Sign_piece .nil pass0 (pa_cons (pv 6) pa_nil)) (pe_meth (pv 0) T.k_Sign T.Me_Sign_piece G_Sign_piece (hr.mono (by first | decide | omega)) T.b_Sign_piece .nil pass0 (pa_cons (pv 7) pa_nil)) (nomark _)))) pa_nil)) ip_add)))
      (pss_one (ps_ret (pe_tup (pa_cons (pe_op (kADD (K := K) rfl) (pe_op (kADD (K := K) rfl) (pv 4) (pe_sumVals rfl (by rfl) T.g_sum (pe_call G_surplus (hr.mono (by first | decide | omega)) (by rfl) T.m_surplus T.F_surplus.kp T.b_surplus .nil pass0 (pa_cons (pv 3) pa_nil)))) (pv 8)) (pa_cons (pv 10) pa_nil)))))))))), ?_⟩
  rintro _ F ms Q Ea ⟨x, wd, ps, b, a, rfl, hS, hw0, hw24, hin, hb, ha, q⟩
  walk_at "al"
  refine ⟨x, wd, ps, b, a, rfl, hS, hw0, hw24, hb.1, ha.1, fun F1 e1 => ?_⟩
  generalize hks : linksF ps b.cps.toList a.cps.toList wd.toNat = ks
  have hk24 : ks.length ≤ 24 := by
    rw [← hks]
    have := links_len ps b.cps.toList a.cps.toList wd.toNat
    omega
  walk_at "al"
  refine ae_lc (gw_tup (gws_cons gm_name (gw_name (by simp)) (gws_cons gm_name (gw_name (by simp)) (gws_cons gm_name (gw_name (by simp)) gws_nil)))) (gm_tup (gms_cons gm_name (gms_cons gm_name (gms_cons gm_name gms_nil)))) ?_
  refine ai_list ?_
  walk_at "al"
  refine .inl ⟨_, .inl rfl, fun n F' ms' acc => ms' = ms ∧ acc = (((ks.take n).filter fun k => !decide (k.2.2 = 32)).map fun k => sg k.2.2).map D.str, ⟨rfl, rfl⟩, fun _ _ _ _ _ _ => trivial, ?_, ?_⟩
  · rintro n d F2 ms1 acc e2 hd ⟨rfl, rfl⟩ F3 e3
    obtain ⟨k1, hk, rfl⟩ := links_at hd
    have hn : n < ks.length := (List.getElem?_eq_some_iff.mp hk).1
    refine ag_tup rfl ?_
    refine ags_cons (ag_name ?_)
    refine ags_cons (ag_name ?_)
    refine ags_cons (ag_name ?_)
    refine ags_nil ?_
    have hfl := List.length_filter_le (fun k : Lk => !decide (k.2.2 = 32)) (ks.take n)
    have hf2 : (ks.take n).length ≤ 24 := by rw [List.length_take]; omega
    walk_at "al"
    refine ⟨fun hb => ?_, fun hb => ?_⟩
    · have h32 : k1.2.2 ≠ 32 := fun z => by
        rw [z] at hb
        simp [show sg 32 = Str.ofString " " from rfl] at hb
      walk_at "al"
      refine ⟨by rw [List.length_map, List.length_map]; omega, rfl, ?_⟩
      rw [List.take_succ, hk, List.filter_append, List.map_append, List.map_append]
      simp [h32]
    · have h32 : k1.2.2 = 32 := by
        have hb := of_decide_eq_true (by simpa using hb : decide (sg k1.2.2 = Str.ofString " ") = true)
        rw [← show sg 32 = Str.ofString " " from rfl] at hb
        simpa [sg] using congrArg Str.cps hb
      refine ⟨rfl, ?_⟩
      rw [List.take_succ, hk, List.filter_append]
      simp [h32]
  rintro F2 ms1 acc e2 ⟨rfl, rfl⟩ F3 e3
  rw [List.length_map, List.take_length]
  have hfl := List.length_filter_le (fun k : Lk => !decide (k.2.2 = 32)) ks
  walk_at "al"
  rw [List.length_map, List.length_map]
  obtain ⟨gl1, gl2⟩ := groups_len ks
  have klt := links_lt hin hb ha wd.toNat
  rw [hks] at klt
  refine ae_lc (gw_name (by simp)) gm_name ?_
  refine ai_list ?_
  walk_at "al"
  refine ⟨ks, rfl, hk24, fun F4 e4 => ?_⟩
  refine .inl ⟨_, .inl rfl, fun n F' ms' acc => ms' = ms1 ∧ acc = (((groupsF ks).take n).filter closedF).map gD, ⟨rfl, rfl⟩, fun _ _ _ _ _ _ => trivial, ?_, ?_⟩
  · rintro n d F5 ms1 acc e5 hd ⟨rfl, rfl⟩ F6 e6
    obtain ⟨g, hg, rfl⟩ := gd_at hd
    have hgm := List.mem_of_getElem? hg
    have hgl := mem_flat_len hg
    refine ag_name ?_
    have hfl := List.length_filter_le closedF ((groupsF ks).take n)
    have hf2 : ((groupsF ks).take n).length ≤ 24 := by rw [List.length_take]; omega
    walk_at "al"
    refine ⟨g, rfl, by omega, fun k hk => klt k (groups_mem ks (List.mem_flatten.mpr ⟨g, hgm, hk⟩)), fun F7 e7 => ?_⟩
    walk_at "al"
    have tk : (((groupsF ks).take (n + 1)).filter closedF) = if closedF g = true then ((groupsF ks).take n).filter closedF ++ [g] else ((groupsF ks).take n).filter closedF := by
      rw [List.take_succ, hg, List.filter_append]
      cases h : closedF g with
      | true => simp [h]
      | false => simp [h]
    refine ⟨fun hc => ?_, fun hc => ?_⟩
    · rw [if_pos hc] at tk
      walk_at "al"
      refine ⟨by rw [List.length_map]; omega, rfl, ?_⟩
      rw [tk, List.map_append]
      rfl
    · rw [hc, if_neg (by decide)] at tk
      exact ⟨rfl, by rw [tk]⟩
  rintro F5 ms1 acc e5 ⟨rfl, rfl⟩ F6 e6
  rw [List.length_map, List.take_length]
  have hlb : (b.cps.toList).length = b.length := Array.length_toList
  have hla : (a.cps.toList).length = a.length := Array.length_toList
  have hb1 := hb.1
  have ha1 := ha.1
  have hcb : (charsD b).length = wd.toNat := by unfold charsD; rw [List.length_map]; omega
  have hca : (charsD a).length = wd.toNat := by unfold charsD; rw [List.length_map]; omega
  walk_at "al"
  rw [List.length_map]
  refine as_for ?_
  refine ai_zipS ?_
  walk_at "al"
  refine ⟨b, a, rfl, by omega, ?_⟩
  refine ⟨fun n F' ms' S' => ms' = ms1 ∧ ∃ u v, S' = [some (.ref x), some (.str b), some (.str a), some (.lst (ks.map lD)), some (.int ((ks.filter fun k => !decide (k.2.2 = 32)).length : Int)), none, u, v, some (.int (((groupsF ks).filter closedF).length : Int)), none, some (.int (turnedF ps b.cps.toList a.cps.toList n))], ⟨rfl, none, none, rfl⟩, fun _ _ _ _ _ _ => trivial, ?_, ?_⟩
  · rintro n d F7 ms7 S7 e7 hd ⟨rfl, u, v, rfl⟩ F8 e8
    have hn : n < wd.toNat := by
      have := (List.getElem?_eq_some_iff.mp hd).1
      rw [zipD_len (by omega)] at this
      omega
    have hnb : b.cps.toList[n]? = some (b.cps.toList.getD n 0) := by rw [List.getD_eq_getElem?_getD, List.getElem?_eq_getElem (by omega)]; rfl
    have hna : a.cps.toList[n]? = some (a.cps.toList.getD n 0) := by rw [List.getD_eq_getElem?_getD, List.getElem?_eq_getElem (by omega)]; rfl
    have hz := zipD_get (xs := charsD b) (ys := charsD a) (i := n) (d := .str (sg (b.cps.toList.getD n 0))) (e := .str (sg (a.cps.toList.getD n 0))) (by unfold charsD; rw [List.getElem?_map, hnb]; rfl) (by unfold charsD; rw [List.getElem?_map, hna]; rfl)
    rw [hz] at hd
    cases hd
    generalize hcc : b.cps.toList.getD n 0 = c at hz
    generalize hdd : a.cps.toList.getD n 0 = d at hz
    obtain ⟨i, j, m, hi, hj⟩ := hS
    have fin : turnedF ps b.cps.toList a.cps.toList (n + 1) = turnedF ps b.cps.toList a.cps.toList n + (if (decide (c ≠ d) && decide (pc ps c = pc ps d)) = true then 1 else 0) := by
      unfold turnedF
      rw [List.range_succ, List.filter_append, List.length_append]
      rw [Int.natCast_add]
      congr 1
      rw [List.filter_cons, hcc, hdd, List.filter_nil]
      by_cases h : (decide (c ≠ d) && decide (pc ps c = pc ps d)) = true
      · rw [if_pos h, if_pos h]; rfl
      · rw [if_neg h, if_neg h]; rfl
    refine ag_tup rfl ?_
    refine ags_cons (ag_name ?_)
    refine ags_cons (ag_name ?_)
    refine ags_nil ?_
    walk_at "al"
    refine as_aug rfl ?_
    walk_at "al"
    refine ⟨fun hb => ?_, fun hb => ?_⟩
    · have hne : c ≠ d := fun z => by
        rw [z] at hb
        simp at hb
      walk_at "al"
      refine ae_meth ?_
      walk_at "al"
      refine ⟨x, fldS m wd ps, rfl, .inr ⟨i, hi⟩, fld_no (by decide +kernel) (by decide +kernel) (by decide +kernel), ?_⟩
      walk_at "al"
      refine ⟨x, wd, ps, _, rfl, ⟨i, j, m, hi, hj⟩, ?_⟩
      rw [pieceS_pc]
      walk_at "al"
      refine ae_meth ?_
      walk_at "al"
      refine ⟨x, fldS m wd ps, rfl, .inr ⟨i, hi⟩, fld_no (by decide +kernel) (by decide +kernel) (by decide +kernel), ?_⟩
      walk_at "al"
      refine ⟨x, wd, ps, _, rfl, ⟨i, j, m, hi, hj⟩, ?_⟩
      rw [pieceS_pc]
      walk_at "al"
      refine ac_intB ?_
      refine ⟨_, rfl, rfl, some (.str (sg c)), some (.str (sg d)), ?_⟩
      rw [fin, decide_eq_true hne, Bool.true_and, ← decide_eq_decide.mpr (sg_inj (a := pc ps c) (b := pc ps d))]
      rfl
    · have he : c = d := by
        have hb := of_decide_eq_true (by simpa using hb : decide (sg c = sg d) = true)
        exact sg_inj.mp hb
      walk_at "al"
      refine ac_intB ?_
      refine ⟨_, rfl, rfl, some (.str (sg c)), some (.str (sg d)), ?_⟩
      rw [fin, decide_eq_false (fun z => z he), Bool.false_and]
      rfl
  · rintro F7 ms7 S7 e7 ⟨rfl, u, v, rfl⟩
    rw [zipD_len (by omega), hcb]
    walk_at "al"
    refine ae_tup ?_
    walk_at "al"
    refine ae_sumVals ?_
    walk_at "al"
    refine ⟨ks, rfl, hk24, fun F8 e8 => ?_⟩
    refine ⟨cntD (surF ks), (surF ks).map (·.2), .inl rfl, by unfold cntD; rw [List.map_map, List.map_map]; rfl, ?_⟩
    walk_at "al"
    refine ⟨by simp, fun F9 e9 => ?_⟩
    have := q F9 (by exact e1.trans (e2.trans (e3.trans (e4.trans (e5.trans (e6.trans (e7.trans (e8.trans e9))))))))
    unfold costD carriedF at this
    rw [hks] at this
    exact this
end

theorem mulS_all (n : Int) : ∀ c ∈ (mulS sp1 n).cps.toList, c = 32 := by
  intro c hc
  have hc : c ∈ (List.replicate n.toNat [32]).flatten := hc
  obtain ⟨l, hl, hc⟩ := List.mem_flatten.mp hc
  rw [List.eq_of_mem_replicate hl] at hc
  simpa using hc
theorem cps_app (a b : Str) : (a ++ b).cps.toList = a.cps.toList ++ b.cps.toList := Array.toList_append ..
theorem blank_ok {w : Int} (h : 0 ≤ w) : okRow w (mulS sp1 w) := ⟨by rw [mulS_len1]; omega, fun c hc => .inl (mulS_all w c hc)⟩
theorem shown_ok {w o : Int} {t : Str} (ht : textOk w t) (h0 : 0 ≤ o) (h1 : o + (t.length : Int) ≤ w) : okRow w (shown w t o) := by
  refine ⟨?_, fun c hc => ?_⟩
  · unfold shown
    rw [str_len_add, str_len_add, mulS_len1, mulS_len1]
    omega
  · unfold shown at hc
    rw [cps_app, cps_app] at hc
    rcases List.mem_append.mp hc with hc | hc
    · rcases List.mem_append.mp hc with hc | hc
      · exact .inl (mulS_all _ c hc)
      · exact ht.2.2.1 c hc
    · exact .inl (mulS_all _ c hc)
theorem eqv_cD (a b : Cst) : eqvD (cD a) (cD b) = decide (a = b) := by
  obtain ⟨a1, a2⟩ := a
  obtain ⟨b1, b2⟩ := b
  simp only [eqvD, cD, toPy, toPyL, PyData.eqv, PyData.eqvAll]
  by_cases h1 : a1 = b1 <;> by_cases h2 : a2 = b2 <;> simp [h1, h2]
theorem Sgn.setR {C : Addr} {ms : Ms} {x l : Addr} {w : Int} {ps : List Pr} {n : Nat} {L : Lay} {m' : MO} (hn : ms[n]? = some (l, .dic (layK 0 L))) (hL : L ≠ []) : Sgn C ms x w ps → Sgn C (ms.set n (l, m')) x w ps := fun ⟨i, j, m, h1, h2⟩ => by
  refine ⟨i, j, m, ?_, ?_⟩
  · rw [List.getElem?_set_ne]
    · exact h1
    · rintro rfl
      rw [hn] at h1
      cases h1
  · rw [List.getElem?_set_ne]
    · exact h2
    · rintro rfl
      rw [hn] at h2
      injection h2 with h2
      injection h2 with _ h2
      injection h2 with h2
      cases L with
      | nil => exact hL rfl
      | cons v L =>
        cases ps with
        | nil => cases h2
        | cons p ps =>
          injection h2 with h2 _
          injection h2 with h2 _
          cases h2
section
variable {P : Program} {w : World} {K : Frg} {mg : Str → Option Value} {base : Heap}
theorem ok_Sign_blank (T : Txt K mg) : OK_Sign_blank P w base T := by
  refine fn_ok T.F_Sign_blank sc_Sign_blank (by rintro _ _ _ _ _ ⟨x, w, ps, rfl, _⟩; rfl) (fun cdv A outer s H E hr => ?_)
  have hu64 := hr.units
  refine ⟨_, (pss_one (ps_ret (pe_op (kMUL (K := K) rfl) (pe_glob (by rfl) T.m_BLANK T.r_BLANK) (pe_fldk (K := K) rfl (pv 0) (by rfl))))), ?_⟩
  rintro _ F ms Q Ea ⟨x, w, ps, rfl, ⟨i, j, m, hi, hj⟩, w0, w1, q⟩
  walk_at "al"
  refine ae_fld ?_
  walk_at "al"
  refine ⟨x, T.c_Sign, fldS m w ps, .int w, rfl, .inr ⟨i, hi⟩, T.k_Sign, T.n_Sign_width, rfl, ?_⟩
  refine ar_MULs (z := sp1) (by omega) (by omega) (by show 1 * w.toNat ≤ 100000; omega) ?_
  exact q
theorem ok_Sign_row_of (T : Txt K mg) : OK_Sign_row_of P w base T := by
  refine fn_ok T.F_Sign_row_of sc_Sign_row_of (by rintro _ _ _ _ _ ⟨x, w, ps, t, o, rfl, _⟩; rfl) (fun cdv A outer s H E hr => ?_)
  have hu64 := hr.units
  refine ⟨_, (pss_one (ps_ret (pe_op (kADD (K := K) rfl) (pe_op (kADD (K := K) rfl) (pe_op (kMUL (K := K) rfl) (pe_glob (by rfl) T.m_BLANK T.r_BLANK) (pv 2)) (pv 1)) (pe_op (kMUL (K := K) rfl) (pe_glob (by rfl) T.m_BLANK T.r_BLANK) (pe_op op_sub (pe_op op_sub (pe_fldk (K := K) rfl (pv 0) (by rfl)) (pv 2)) (pe_callB (kLEN (K := K) rfl) (by rfl) T.g_len boot_len (pa_cons (pv 1) pa_nil))))))), ?_⟩
  rintro _ F ms Q Ea ⟨x, w, ps, t, o, rfl, ⟨i, j, m, hi, hj⟩, w1, o0, ow, q⟩
  walk_at "al"
  refine ar_MULs (z := sp1) (by omega) (by omega) (by show 1 * o.toNat ≤ 100000; omega) ?_
  walk_at "al"
  have l1 := mulS_len1 o
  refine ar_ADDs (i := mulS sp1 o) (j := t) (by omega) ?_
  walk_at "al"
  refine ae_fld ?_
  walk_at "al"
  refine ⟨x, T.c_Sign, fldS m w ps, .int w, rfl, .inr ⟨i, hi⟩, T.k_Sign, T.n_Sign_width, rfl, ?_⟩
  walk_at "al"
  refine ac_lenS (z := t) (by omega) ?_
  walk_at "al"
  refine ar_MULs (z := sp1) (by omega) (by omega) (by show 1 * (w - o - t.length).toNat ≤ 100000; omega) ?_
  have l2 := mulS_len1 (w - o - t.length)
  refine ar_ADDs (by rw [str_len_add]; omega) ?_
  exact q
theorem ok_add (T : Txt K mg) : OK_add P w base T := by
  refine fn_ok T.F_add sc_add (by rintro _ _ _ _ _ ⟨a, b, rfl, _⟩; rfl) (fun cdv A outer s H E hr => ?_)
  have hu64 := hr.units
  refine ⟨_, (pss_one (ps_ret (pe_tup (pa_cons (pe_op (kADD (K := K) rfl) (pe_ix (kIX (K := K) rfl) (pv 0) pe_int (fun _ _ => rfl)) (pe_ix (kIX (K := K) rfl) (pv 1) pe_int (fun _ _ => rfl))) (pa_cons (pe_op (kADD (K := K) rfl) (pe_ix (kIX (K := K) rfl) (pv 0) pe_int (fun _ _ => rfl)) (pe_ix (kIX (K := K) rfl) (pv 1) pe_int (fun _ _ => rfl))) pa_nil))))), ?_⟩
  rintro _ F ms Q Ea ⟨a, b, rfl, q⟩
  walk_at "al"
  refine ae_tup ?_
  walk_at "al"
  refine ar_ixT (d := .int a.1) rfl ?_
  walk_at "al"
  refine ar_ixT (d := .int b.1) rfl ?_
  walk_at "al"
  refine ar_ixT (d := .int a.2) rfl ?_
  walk_at "al"
  refine ar_ixT (d := .int b.2) rfl ?_
  walk_at "al"
  exact ⟨by simp, fun F1 e1 => q F1 e1⟩
end
section
variable {P : Program} {w : World} {K : Frg} {mg : Str → Option Value} {base : Heap}
end

theorem textF {w : Int} {l : List Nat} (h : ¬ (1 ≤ (l.length : Int) ∧ (l.length : Int) ≤ w ∧ l[0]? ≠ some 32 ∧ l[l.length - 1]? ≠ some 32 ∧ ∀ c ∈ l, c = 32 ∨ c ∈ LET.cps.toList)) : textL w l = false := by
  cases e : textL w l with
  | false => rfl
  | true =>
    exfalso
    apply h
    unfold textL at e
    simp only [Bool.and_eq_true, Bool.or_eq_true, Bool.not_eq_true', decide_eq_true_eq, decide_eq_false_iff_not, List.all_eq_true] at e
    exact ⟨e.1.1, e.1.2, e.2.1.1, e.2.1.2, e.2.2⟩
def flagC (c : Nat) : Bool := decide (c = 32) || decide (c ∈ LET.cps.toList)
theorem textL_all {w : Int} {l : List Nat} (h1 : 1 ≤ (l.length : Int)) (h2 : (l.length : Int) ≤ w) (h3 : l[0]? ≠ some 32) (h4 : l[l.length - 1]? ≠ some 32) : textL w l = (l.map flagC).all id := by
  unfold textL
  rw [decide_eq_true h1, decide_eq_true h2, decide_eq_false h3, decide_eq_false h4, List.all_map]
  rfl
theorem textB_of {w : Int} {t : Str} (h : textOk w t) : textB w (.str t) = true := by
  obtain ⟨t1, t2, t3, ⟨a, ha, haL⟩, ⟨b, hb, hbL⟩⟩ := h
  show textL w t.cps.toList = true
  rw [textL_all t1 t2 (fun z => by rw [ha] at z; exact inL_ne haL (Option.some.inj z)) (fun z => by
    have z : t.cps.toList[t.length - 1]? = some 32 := z
    rw [hb] at z; exact inL_ne hbL (Option.some.inj z)), List.all_eq_true]
  intro x hx
  obtain ⟨c, hc, rfl⟩ := List.mem_map.mp hx
  show (decide (c = 32) || decide (c ∈ LET.cps.toList)) = true
  rcases t3 c hc with e | e
  · rw [decide_eq_true e]; rfl
  · rw [decide_eq_true (show c ∈ LET.cps.toList from e), Bool.or_true]
section
variable {P : Program} {w : World} {K : Frg} {mg : Str → Option Value} {base : Heap}
theorem ok_Sign_is_text (T : Txt K mg) : OK_Sign_is_text P w base T := by
  refine fn_ok T.F_Sign_is_text sc_Sign_is_text (by rintro _ _ _ _ _ ⟨x, w, ps, t, rfl, _⟩; rfl) (fun cdv A outer s H E hr => ?_)
  have hu64 := hr.units
  refine ⟨_, (pss_cons (ps_if ((pw_or (pt_not (pt_val (pe_callB (kISI (K := K) rfl) (by rfl) T.g_isinstance boot_isinstance (pa_cons (pv 1) (pa_cons (pe_bltn (v := .ty "str") (by rfl) T.g_str boot_str rfl) pa_nil))))) (pw_or1 (pt_not (pt_chain op_le op_le pe_int (pe_callB (kLEN (K := K) rfl) (by rfl) T.g_len boot_len (pa_cons (pv 1) pa_nil)) (pe_fldk (K := K) rfl (pv 0) (by rfl))))))).pt (pss_one (ps_ret pe_bl)) pss_nil)
      (pss_cons (ps_if ((pw_or (pt_cmpR (kEQ (K := K) rfl hu64) (pe_ix (kIX (K := K) rfl) (pv 1) pe_int (fun _ _ => rfl)) (pe_glob (by rfl) T.m_BLANK T.r_BLANK) (nomark _)) (pw_or1 (pt_cmpR (kEQ (K := K) rfl hu64) (pe_ix (kIX (K := K) rfl) (pv 1) (pe_un un_neg pe_int) (fun _ _ => rfl)) (pe_glob (by rfl) T.m_BLANK T.r_BLANK) (nomark _))))).pt (pss_one (ps_ret pe_bl)) pss_nil)
      (pss_one (ps_ret (pe_callB (kALL (K := K) rfl rfl) (by rfl) T.g_all boot_all (pa_cons (pe_lc rfl sc_Sign_is_text.nd (pi_str (pv 1)) (own := [("letter", 2)]) (@BlkOk.mk N_Sign_is_text (defScope s_Sign_is_text) _ _ rfl (by decide +kernel) (by decide +kernel) (by decide +kernel) (by decide +kernel)) (fun _ _ _ _ _ => (pg_name (i := 2) sc_Sign_is_text.nd rfl (by first | exact Or.inl rfl | exact Or.inr rfl))) (fun _ _ _ _ _ => pts_nil) (fun _ _ _ _ _ => (pe_or (pe_cmpR (kEQ (K := K) rfl hu64) (pv 2) (pe_glob (by rfl) T.m_BLANK T.r_BLANK) (nomark _)) (pe_one (pe_cmpR (kIN (K := K) rfl) (pv 2) (pe_glob (by rfl) T.m_LETTERS T.r_LETTERS) (by with_unfolding_all rfl)))))) pa_nil)))))), ?_⟩
  rintro _ F ms Q Ea ⟨x, w, ps, d, rfl, ⟨i, j, m, hi, hj⟩, w0, hw, hk, q⟩
  rcases hk with rfl | ⟨b, rfl⟩ | ⟨v, rfl⟩ | ⟨t, rfl, hz⟩ | ⟨es, rfl⟩ | ⟨es, rfl⟩
  · walk_at "al"
    exact q _ Ex.refl
  · walk_at "al"
    exact q _ Ex.refl
  · walk_at "al"
    exact q _ Ex.refl
  rotate_left
  · walk_at "al"
    exact q _ Ex.refl
  · walk_at "al"
    exact q _ Ex.refl
  have q : ∀ F', Ex F F' → Q F' ms (.bl (textL w t.cps.toList)) := q
  have tl : t.cps.toList.length = t.length := rfl
  walk_at "al"
  refine ac_lenS (z := t) (by omega) ?_
  walk_at "al"
  by_cases t1 : 1 ≤ (t.length : Int)
  rotate_left
  · rw [textF (fun h => t1 h.1)] at q
    refine and_dF t1 ?_
    walk_at "al"
    exact q _ Ex.refl
  refine and_dT t1 ?_
  walk_at "al"
  refine ae_fld ?_
  walk_at "al"
  refine ⟨x, T.c_Sign, fldS m w ps, .int w, rfl, .inr ⟨i, hi⟩, T.k_Sign, T.n_Sign_width, rfl, ?_⟩
  walk_at "al"
  by_cases t2 : (t.length : Int) ≤ w
  rotate_left
  · rw [textF (fun h => t2 h.2.1)] at q
    rw [decide_eq_false t2]
    walk_at "al"
    exact q _ Ex.refl
  rw [decide_eq_true t2]
  walk_at "al"
  obtain ⟨a, ha⟩ : ∃ a, t.cps.toList[0]? = some a := ⟨_, List.getElem?_eq_getElem (by omega)⟩
  obtain ⟨b, hb⟩ : ∃ b, t.cps.toList[t.length - 1]? = some b := ⟨_, List.getElem?_eq_getElem (by omega)⟩
  refine ar_ixS (z := t) (c := a) (by omega) (atI_of (j := 0) rfl ha) ?_
  walk_at "al"
  by_cases a32 : a = 32
  · subst a32
    rw [textF (fun h => h.2.2.1 ha)] at q
    refine and_dT' rfl ?_
    walk_at "al"
    exact q _ Ex.refl
  refine and_dF' (sg_ne a32) ?_
  walk_at "al"
  refine ae_neg (g := fun i => -i) (fun _ => rfl) ?_
  walk_at "al"
  refine ar_ixS (z := t) (c := b) (by omega) (atI_neg (j := t.length - 1) (by omega) hb (by omega)) ?_
  walk_at "al"
  by_cases b32 : b = 32
  · subst b32
    rw [textF (fun h => h.2.2.2.1 hb)] at q
    refine and_dT rfl ?_
    walk_at "al"
    exact q _ Ex.refl
  refine and_dF (sg_ne b32) ?_
  walk_at "al"
  rw [textL_all t1 t2 (fun z => a32 (by rw [ha] at z; exact Option.some.inj z)) (fun z => b32 (by
    have z : t.cps.toList[t.length - 1]? = some 32 := z
    rw [hb] at z; exact Option.some.inj z))] at q
  refine ae_lc (gw_name (by simp)) gm_name ?_
  refine ai_str ?_
  walk_at "al"
  refine ⟨fun i F' ms' acc => ms' = ms ∧ acc = ((t.cps.toList.take i).map flagC).map D.bl, ⟨rfl, rfl⟩, fun _ _ _ _ _ _ => trivial, ?_, ?_⟩
  · rintro n d F' ms' acc e1 hd ⟨rfl, rfl⟩ F'' e2
    obtain ⟨c, hc, rfl⟩ := chars_at hd
    have hn : n < t.cps.toList.length := (List.getElem?_eq_some_iff.mp hc).1
    refine ag_name ?_
    walk_at "al"
    have fin : ∀ b, b = flagC c → (((t.cps.toList.take n).map flagC).map D.bl).length < 100000 ∧ (fun i (F' : Hp) ms'_1 acc => ms'_1 = ms' ∧ acc = ((t.cps.toList.take i).map flagC).map D.bl) (n + 1) F'' ms' (((t.cps.toList.take n).map flagC).map D.bl ++ [D.bl b]) := fun b hb => ⟨by rw [List.length_map, List.length_map, List.length_take]; omega, rfl, by
      rw [List.take_succ, hc, hb]
      simp⟩
    by_cases h32 : c = 32
    · subst h32
      refine and_dT' rfl ?_
      exact fin _ rfl
    · refine and_dF' (sg_ne h32) ?_
      walk_at "al"
      exact fin _ (by unfold flagC; rw [decide_eq_false h32, Bool.false_or]; rfl)
  · rintro F' ms' acc e1 ⟨rfl, rfl⟩ F'' e2
    rw [chars_len]
    walk_at "al"
    refine ac_all (bs := t.cps.toList.map flagC) (by rw [show t.length = t.cps.toList.length from rfl, List.take_length]) ?_
    exact q _ (e1.trans e2)
end

theorem kd_str {w : Int} {t : Str} (h : textOk w t) (hw : w ≤ 24) : kd (.str t) := .inr (.inr (.inr (.inl ⟨_, rfl, by have := h.2.1; omega⟩)))
theorem okL_app : ∀ (a b : List D), okL (a ++ b) = (okL a && okL b)
  | [], b => rfl
  | x :: a, b => by
    show (okD x && okL (a ++ b)) = ((okD x && okL a) && okL b)
    rw [okL_app a b, Bool.and_assoc]
theorem depL_app : ∀ (a b : List D), depL (a ++ b) = max (depL a) (depL b)
  | [], b => by show depL b = max 0 (depL b); omega
  | x :: a, b => by
    show max (dep x) (depL (a ++ b)) = max (max (dep x) (depL a)) (depL b)
    rw [depL_app a b]; omega
theorem ne_nil {x : D} {xs : List D} : eqvD (.tup (x :: xs)) (.tup []) = false := by simp [eqvD, toPy, toPyL, PyData.eqv, PyData.eqvAll]
section
variable {P : Program} {w : World} {K : Frg} {mg : Str → Option Value} {base : Heap}
theorem ok_Sign_check_texts (T : Txt K mg) (G_Sign_is_text : OK_Sign_is_text P w base T) (G_InvalidText___init__ : OK_InvalidText___init__ P w base T) : OK_Sign_check_texts P w base T := by
  refine fn_okX T.F_Sign_check_texts sc_Sign_check_texts (by rintro _ _ _ _ _ ⟨x, w, ps, d, rfl, _⟩; rfl) (fun cdv A outer s H E hr => ?_)
  have hu64 := hr.units
  refine ⟨_, (pss_cons (ps_if ((pw_or (pt_not (pt_val (pe_callB (kISI (K := K) rfl) (by rfl) T.g_isinstance boot_isinstance (pa_cons (pv 1) (pa_cons (pe_bltn (v := .ty "tuple") (by rfl) T.g_tuple boot_tuple rfl) pa_nil))))) (pw_or1 (pt_cmpR (kEQ (K := K) rfl hu64) (pv 1) (pe_tup pa_nil) (nomark _))))).pt (pss_one (ps_raise rfl (takes_of rfl rfl rfl rfl) (pmk_oex T.X_InvalidText.ox T.X_InvalidText.iC T.X_InvalidText.tI G_InvalidText___init__ (hr.mono (by first | decide | omega)) T.b_InvalidText___init__ .nil pass0 (by rfl) T.m_InvalidText (pa_cons pe_int pa_nil)))) pss_nil)
      (pss_one (ps_for (passes_of rfl) rfl (pi_enumA (by rfl) T.g_enumerate (pa_cons (pv 1) pa_nil)) (pg_tup rfl (pgs_cons (pg_name (i := 2) sc_Sign_check_texts.nd rfl (by first | exact Or.inl rfl | exact Or.inr rfl)) (pgs_cons (pg_name (i := 3) sc_Sign_check_texts.nd rfl (by first | exact Or.inl rfl | exact Or.inr rfl)) pgs_nil))) (pss_one (ps_if ((pw_or (pt_cmpR (kEQ (K := K) rfl hu64) (pv 2) (pe_glob (by rfl) T.m_MAX_TEXTS T.r_MAX_TEXTS) (nomark _)) (pw_or1 (pt_not (pt_val (pe_meth (pv 0) T.k_Sign T.Me_Sign_is_text G_Sign_is_text (hr.mono (by first | decide | omega)) T.b_Sign_is_text .nil pass0 (pa_cons (pv 3) pa_nil))))))).pt (pss_one (ps_raise rfl (takes_of rfl rfl rfl rfl) (pmk_oex T.X_InvalidText.ox T.X_InvalidText.iC T.X_InvalidText.tI G_InvalidText___init__ (hr.mono (by first | decide | omega)) T.b_InvalidText___init__ .nil pass0 (by rfl) T.m_InvalidText (pa_cons (pv 2) pa_nil)))) pss_nil))))), ?_⟩
  rintro _ F ms Q Ea ⟨x, w, ps, d, rfl, hS, w0, hw, hcase⟩
  obtain ⟨i, j, m, hi, hj⟩ := id hS
  have hcase' : (∃ qx : ∀ F', Ex F F' → Ea T.c_InvalidText [("index", .int 0)] F' ms, d = .non ∨ (∃ b, d = .bl b) ∨ (∃ i, d = .int i) ∨ (∃ z : Str, d = .str z) ∨ (∃ ds : List D, d = .lst ds) ∨ d = .tup []) ∨
      ∃ (ts : List Str) (rest : List D), d = .tup (ts.map D.str ++ rest) ∧ ts.length ≤ 12 ∧ rest.length ≤ 101 ∧ (∀ t ∈ ts, textOk w t) ∧ okD d = true ∧ dep d ≤ 64 ∧ eqvD d (.tup []) = false ∧ ((rest = [] ∧ ∀ F', Ex F F' → Q F' ms .non) ∨
        ∃ b r, rest = b :: r ∧ kd b ∧ (ts.length = 12 ∨ textB w b = false) ∧ ∀ F', Ex F F' → Ea T.c_InvalidText [("index", .int (ts.length : Int))] F' ms) := by
    rcases hcase with ⟨ts, rfl, t1, t2, ht, q⟩ | ⟨i', (⟨hd, rfl⟩ | ⟨ts, b, r, rfl, rfl, t2, hrl, ht, kb, o1, o2, hb⟩), qx⟩
    · obtain ⟨o1, o2, o3⟩ := strs_ok ht
      exact .inr ⟨ts, [], by rw [List.append_nil], t2, by simp, ht, o1, by show depL (ts.map D.str) + 1 ≤ 64; omega, o3 t1, .inl ⟨rfl, q⟩⟩
    · exact .inl ⟨qx, hd⟩
    · exact .inr ⟨ts, b :: r, rfl, t2, by rw [List.length_cons]; omega, ht, o1, o2, by cases ts <;> exact ne_nil, .inr ⟨b, r, rfl, kb, hb, qx⟩⟩
  rcases hcase' with ⟨qx, hd⟩ | ⟨ts, rest, rfl, t2, hrl, ht, o1, o2, o3, hcase⟩
  · rcases hd with rfl | ⟨b, rfl⟩ | ⟨v, rfl⟩ | ⟨z, rfl⟩ | ⟨es, rfl⟩ | rfl
    · walk_at "al"
      refine as_raise1 ?_
      walk_at "al"
      exact ⟨_, rfl, fun F2 e2 => qx F2 (e2)⟩
    · walk_at "al"
      refine as_raise1 ?_
      walk_at "al"
      exact ⟨_, rfl, fun F2 e2 => qx F2 (e2)⟩
    · walk_at "al"
      refine as_raise1 ?_
      walk_at "al"
      exact ⟨_, rfl, fun F2 e2 => qx F2 (e2)⟩
    · walk_at "al"
      refine as_raise1 ?_
      walk_at "al"
      exact ⟨_, rfl, fun F2 e2 => qx F2 (e2)⟩
    · walk_at "al"
      refine as_raise1 ?_
      walk_at "al"
      exact ⟨_, rfl, fun F2 e2 => qx F2 (e2)⟩
    · walk_at "al"
      refine ae_tup ?_
      walk_at "al"
      refine ⟨by simp, fun F1 e1 => ?_⟩
      refine ar_EQd (d := .tup []) (e := .tup []) rfl rfl (by decide) (by decide) ?_
      rw [eqv_self _ rfl]
      walk_at "al"
      refine as_raise1 ?_
      walk_at "al"
      exact ⟨_, rfl, fun F2 e2 => qx F2 (e1.trans e2)⟩
  · walk_at "al"
    refine ae_tup ?_
    walk_at "al"
    refine ⟨by simp, fun F1 e1 => ?_⟩
    refine ar_EQd (d := .tup (ts.map D.str ++ rest)) (e := .tup []) o1 rfl o2 (by decide) ?_
    rw [o3]
    walk_at "al"
    refine as_for ?_
    refine ai_enum ?_
    walk_at "al"
    refine .inr (.inl ⟨_, rfl, fun i F' ms' S' => i ≤ ts.length ∧ ms' = ms ∧ ∃ a b, S' = [some (.ref x), some (.tup (ts.map D.str ++ rest)), a, b], ⟨Nat.zero_le _, rfl, none, none, rfl⟩, fun _ _ _ _ _ _ => trivial, ?_, ?_⟩)
    · rintro n d F' ms' S' e hd ⟨hnl, rfl, a, b, rfl⟩ F'' e''
      obtain ⟨d0, h1, rfl⟩ := enum_at hd
      refine ag_tup rfl ?_
      refine ags_cons (ag_name ?_)
      refine ags_cons (ag_name ?_)
      refine ags_nil ?_
      refine as_norm (S' := [some (.ref x), some (.tup (ts.map D.str ++ rest)), some (.int (n : Int)), some d0]) rfl ?_
      by_cases hlt : n < ts.length
      · rw [List.getElem?_append_left (by rw [List.length_map]; exact hlt)] at h1
        obtain ⟨t, hp, rfl⟩ := strs_at h1
        have htx := ht t (List.mem_of_getElem? hp)
        walk_at "al"
        refine and_dF' (by omega) ?_
        walk_at "al"
        refine ae_methZ ?_
        walk_at "al"
        refine ⟨x, fldS m w ps, rfl, .inr ⟨i, hi⟩, fld_no (by decide +kernel) (by decide +kernel) (by decide +kernel), ?_⟩
        walk_at "al"
        refine ⟨x, w, ps, .str t, rfl, hS, w0, hw, kd_str htx hw, fun F3 e3 => ?_⟩
        rw [textB_of htx]
        walk_at "al"
        exact ⟨hlt, rfl, _, _, rfl⟩
      · obtain rfl : n = ts.length := by omega
        rcases hcase with ⟨rfl, _⟩ | ⟨b0, r, rfl, kb, hb, qx⟩
        · rw [List.append_nil, List.getElem?_map, List.getElem?_eq_none (Nat.le_refl _)] at h1
          cases h1
        · rw [List.getElem?_append_right (by rw [List.length_map]; exact Nat.le_refl _), List.length_map, Nat.sub_self] at h1
          obtain rfl : b0 = d0 := Option.some.inj h1
          walk_at "al"
          by_cases h12 : ts.length = 12
          · refine and_dT' (by omega) ?_
            walk_at "al"
            refine as_raise1 ?_
            walk_at "al"
            exact ⟨_, rfl, fun F2 e2 => qx F2 (e1.trans (e.trans (e''.trans e2)))⟩
          · have hb := hb.resolve_left h12
            refine and_dF' (by omega) ?_
            walk_at "al"
            refine ae_methZ ?_
            walk_at "al"
            refine ⟨x, fldS m w ps, rfl, .inr ⟨i, hi⟩, fld_no (by decide +kernel) (by decide +kernel) (by decide +kernel), ?_⟩
            walk_at "al"
            refine ⟨x, w, ps, b0, rfl, hS, w0, hw, kb, fun F3 e3 => ?_⟩
            rw [hb]
            walk_at "al"
            refine as_raise1 ?_
            walk_at "al"
            exact ⟨_, rfl, fun F2 e2 => qx F2 (e1.trans (e.trans (e''.trans (e3.trans e2))))⟩
    · rintro F' ms' S' e ⟨hnl, rfl, a, b, rfl⟩
      rcases hcase with ⟨rfl, q⟩ | ⟨b0, r, rfl, kb, hb, qx⟩
      · exact q _ (e1.trans e)
      · exfalso
        simp only [enum_len, List.length_append, List.length_map, List.length_cons] at hnl
        omega
theorem ok_check_offsets (T : Txt K mg) (G_is_int_in : OK_is_int_in P w base T) (G_InvalidOffset___init__ : OK_InvalidOffset___init__ P w base T) : OK_check_offsets P w base T := by
  refine fn_okX T.F_check_offsets sc_check_offsets (by rintro _ _ _ _ _ ⟨x, w, ps, ts, d, rfl, _⟩; rfl) (fun cdv A outer s H E hr => ?_)
  have hu64 := hr.units
  refine ⟨_, (pss_cons (ps_if (pt_not (pt_val (pe_callB (kISI (K := K) rfl) (by rfl) T.g_isinstance boot_isinstance (pa_cons (pv 2) (pa_cons (pe_bltn (v := .ty "tuple") (by rfl) T.g_tuple boot_tuple rfl) pa_nil))))) (pss_one (ps_raise rfl (takes_of rfl rfl rfl rfl) (pmk_oex T.X_InvalidOffset.ox T.X_InvalidOffset.iC T.X_InvalidOffset.tI G_InvalidOffset___init__ (hr.mono (by first | decide | omega)) T.b_InvalidOffset___init__ .nil pass0 (by rfl) T.m_InvalidOffset (pa_cons pe_int pa_nil)))) pss_nil)
      (pss_cons (ps_for (passes_of rfl) rfl (pi_enumA (by rfl) T.g_enumerate (pa_cons (pv 2) pa_nil)) (pg_tup rfl (pgs_cons (pg_name (i := 3) sc_check_offsets.nd rfl (by first | exact Or.inl rfl | exact Or.inr rfl)) (pgs_cons (pg_name (i := 4) sc_check_offsets.nd rfl (by first | exact Or.inl rfl | exact Or.inr rfl)) pgs_nil))) (pss_one (ps_if ((pw_or (pt_cmpR (kEQ (K := K) rfl hu64) (pv 3) (pe_callB (kLEN (K := K) rfl) (by rfl) T.g_len boot_len (pa_cons (pv 1) pa_nil)) (nomark _)) (pw_or1 (pt_not (pt_val (pe_call G_is_int_in (hr.mono (by first | decide | omega)) (by rfl) T.m_is_int_in T.F_is_int_in.kp T.b_is_int_in .nil pass0 (pa_cons (pv 4) (pa_cons pe_int (pa_cons (pe_op op_sub (pe_fldk (K := K) rfl (pv 0) (by rfl)) (pe_callB (kLEN (K := K) rfl) (by rfl) T.g_len boot_len (pa_cons (pe_ix (kIX (K := K) rfl) (pv 1) (pv 3) (fun _ _ => rfl)) pa_nil))) pa_nil))))))))).pt (pss_one (ps_raise rfl (takes_of rfl rfl rfl rfl) (pmk_oex T.X_InvalidOffset.ox T.X_InvalidOffset.iC T.X_InvalidOffset.tI G_InvalidOffset___init__ (hr.mono (by first | decide | omega)) T.b_InvalidOffset___init__ .nil pass0 (by rfl) T.m_InvalidOffset (pa_cons (pv 3) pa_nil)))) pss_nil)))
      (pss_one (ps_if (pt_cmpR op_lt (pe_callB (kLEN (K := K) rfl) (by rfl) T.g_len boot_len (pa_cons (pv 2) pa_nil)) (pe_callB (kLEN (K := K) rfl) (by rfl) T.g_len boot_len (pa_cons (pv 1) pa_nil)) (nomark _)) (pss_one (ps_raise rfl (takes_of rfl rfl rfl rfl) (pmk_oex T.X_InvalidOffset.ox T.X_InvalidOffset.iC T.X_InvalidOffset.tI G_InvalidOffset___init__ (hr.mono (by first | decide | omega)) T.b_InvalidOffset___init__ .nil pass0 (by rfl) T.m_InvalidOffset (pa_cons (pe_callB (kLEN (K := K) rfl) (by rfl) T.g_len boot_len (pa_cons (pv 2) pa_nil)) pa_nil)))) pss_nil)))), ?_⟩
  rintro _ F ms Q Ea ⟨x, w, ps, ts, d, rfl, hS, w0, hw, t2, ht, hcase⟩
  obtain ⟨i, j, m, hi, hj⟩ := id hS
  have hcase' : (∃ qx : ∀ F', Ex F F' → Ea T.c_InvalidOffset [("index", .int 0)] F' ms, d = .non ∨ ∃ ds : List D, d = .lst ds) ∨
      ∃ (os : List Int) (rest : List D), d = .tup (os.map D.int ++ rest) ∧ os.length ≤ ts.length ∧ rest.length ≤ 100 ∧ (∀ (i : Nat) (t : Str) (o : Int), ts[i]? = some t → os[i]? = some o → 0 ≤ o ∧ o + (t.length : Int) ≤ w) ∧
        ((rest = [] ∧ os.length = ts.length ∧ ∀ F', Ex F F' → Q F' ms .non) ∨ ((∀ F', Ex F F' → Ea T.c_InvalidOffset [("index", .int (os.length : Int))] F' ms) ∧ ((rest = [] ∧ os.length < ts.length) ∨
          ∃ b r, rest = b :: r ∧ kd b ∧ ∀ t, ts[os.length]? = some t → intIn b 0 (w - (t.length : Int)) = false))) := by
    rcases hcase with ⟨os, rfl, hO, q⟩ | ⟨i', (⟨hd, rfl⟩ | ⟨os, r, rfl, rfl, h1, h2, h3, h4⟩), qx⟩
    · exact .inr ⟨os, [], by rw [List.append_nil], by rw [hO.1]; exact Nat.le_refl _, by simp, hO.2, .inl ⟨rfl, hO.1, q⟩⟩
    · exact .inl ⟨qx, hd⟩
    · exact .inr ⟨os, r, rfl, h1, h2, h3, .inr ⟨qx, h4⟩⟩
  rcases hcase' with ⟨qx, hd⟩ | ⟨os, rest, rfl, hol, hrl, hO, hcase⟩
  · rcases hd with rfl | ⟨es, rfl⟩
    · walk_at "al"
      refine as_raise1 ?_
      walk_at "al"
      exact ⟨_, rfl, fun F2 e2 => qx F2 (e2)⟩
    · walk_at "al"
      refine as_raise1 ?_
      walk_at "al"
      exact ⟨_, rfl, fun F2 e2 => qx F2 (e2)⟩
  · walk_at "al"
    refine as_for ?_
    refine ai_enum ?_
    walk_at "al"
    refine .inr (.inl ⟨_, rfl, fun i F' ms' S' => i ≤ os.length ∧ ms' = ms ∧ ∃ a b, S' = [some (.ref x), some (.tup (ts.map D.str)), some (.tup (os.map D.int ++ rest)), a, b], ⟨Nat.zero_le _, rfl, none, none, rfl⟩, fun _ _ _ _ _ _ => trivial, ?_, ?_⟩)
    · rintro n d F' ms' S' e hd ⟨hnl, rfl, a, b, rfl⟩ F'' e''
      obtain ⟨d0, h1, rfl⟩ := enum_at hd
      refine ag_tup rfl ?_
      refine ags_cons (ag_name ?_)
      refine ags_cons (ag_name ?_)
      refine ags_nil ?_
      refine as_norm (S' := [some (.ref x), some (.tup (ts.map D.str)), some (.tup (os.map D.int ++ rest)), some (.int (n : Int)), some d0]) rfl ?_
      walk_at "al"
      rw [List.length_map]
      by_cases hlt : n < os.length
      · rw [List.getElem?_append_left (by rw [List.length_map]; exact hlt)] at h1
        obtain ⟨o, ho, rfl⟩ : ∃ o, os[n]? = some o ∧ d0 = D.int o := by
          rw [List.getElem?_map] at h1
          cases e : os[n]? with
          | none => rw [e] at h1; cases h1
          | some p => rw [e] at h1; exact ⟨p, rfl, (Option.some.inj h1).symm⟩
        have hn : n < ts.length := by omega
        have ht1 : ts[n]? = some ts[n] := List.getElem?_eq_getElem hn
        obtain ⟨o1, o2⟩ := hO n _ _ ht1 ho
        obtain ⟨g1, g2, _⟩ := ht _ (List.getElem_mem hn)
        refine and_dF' (by omega) ?_
        walk_at "al"
        refine ae_callZ ?_
        walk_at "al"
        refine ae_fld ?_
        walk_at "al"
        refine ⟨x, T.c_Sign, fldS m w ps, .int w, rfl, .inr ⟨i, hi⟩, T.k_Sign, T.n_Sign_width, rfl, ?_⟩
        walk_at "al"
        refine ar_ixT (d := .str ts[n]) (atI_of (j := n) rfl (by rw [List.getElem?_map, ht1]; rfl)) ?_
        walk_at "al"
        refine ac_lenS (z := ts[n]) (by omega) ?_
        walk_at "al"
        refine ⟨.int o, 0, _, rfl, .inr (.inr (.inl ⟨_, rfl⟩)), ?_⟩
        rw [show intIn (.int o) 0 (w - (ts[n].length : Int)) = true by
          show (decide (0 ≤ o) && decide (o ≤ w - (ts[n].length : Int))) = true
          rw [decide_eq_true o1, decide_eq_true (by omega : o ≤ w - (ts[n].length : Int))]; rfl]
        walk_at "al"
        exact ⟨hlt, rfl, _, _, rfl⟩
      · obtain rfl : n = os.length := by omega
        rcases hcase with ⟨rfl, _⟩ | ⟨qx, ⟨rfl, _⟩ | ⟨b0, r, rfl, kb, hb⟩⟩
        · rw [List.append_nil, List.getElem?_map, List.getElem?_eq_none (Nat.le_refl _)] at h1
          cases h1
        · rw [List.append_nil, List.getElem?_map, List.getElem?_eq_none (Nat.le_refl _)] at h1
          cases h1
        · rw [List.getElem?_append_right (by rw [List.length_map]; exact Nat.le_refl _), List.length_map, Nat.sub_self] at h1
          obtain rfl : b0 = d0 := Option.some.inj h1
          by_cases heq : os.length = ts.length
          · refine and_dT' (by omega) ?_
            walk_at "al"
            refine as_raise1 ?_
            walk_at "al"
            exact ⟨_, rfl, fun F2 e2 => qx F2 (e.trans (e''.trans e2))⟩
          · have hn : os.length < ts.length := by omega
            have ht1 : ts[os.length]? = some ts[os.length] := List.getElem?_eq_getElem hn
            obtain ⟨g1, g2, _⟩ := ht _ (List.getElem_mem hn)
            refine and_dF' (by omega) ?_
            walk_at "al"
            refine ae_callZ ?_
            walk_at "al"
            refine ae_fld ?_
            walk_at "al"
            refine ⟨x, T.c_Sign, fldS m w ps, .int w, rfl, .inr ⟨i, hi⟩, T.k_Sign, T.n_Sign_width, rfl, ?_⟩
            walk_at "al"
            refine ar_ixT (d := .str ts[os.length]) (atI_of (j := os.length) rfl (by rw [List.getElem?_map, ht1]; rfl)) ?_
            walk_at "al"
            refine ac_lenS (z := ts[os.length]) (by omega) ?_
            walk_at "al"
            refine ⟨b0, 0, _, rfl, kb, ?_⟩
            rw [hb _ ht1]
            walk_at "al"
            refine as_raise1 ?_
            walk_at "al"
            exact ⟨_, rfl, fun F2 e2 => qx F2 (e.trans (e''.trans e2))⟩
    · rintro F' ms' S' e ⟨hnl, rfl, a, b, rfl⟩
      walk_at "al"
      rw [List.length_map, List.length_append, List.length_map]
      rcases hcase with ⟨rfl, heq, q⟩ | ⟨qx, ⟨rfl, hlt⟩ | ⟨b0, r, rfl, kb, hb⟩⟩
      · refine and_dF (by simp; omega) ?_
        walk_at "al"
        exact q _ e
      · refine and_dT (by simp; omega) ?_
        walk_at "al"
        refine as_raise1 ?_
        walk_at "al"
        rw [List.length_append, List.length_map]
        exact ⟨_, rfl, fun F2 e2 => qx F2 (e.trans e2)⟩
      · exfalso
        simp only [enum_len, List.length_append, List.length_map, List.length_cons] at hnl
        omega
end

theorem ints_at' {os : List Int} {n : Nat} {d : D} (h : (os.map D.int)[n]? = some d) : ∃ o, os[n]? = some o ∧ d = .int o := by
  rw [List.getElem?_map] at h
  cases e : os[n]? with
  | none => rw [e] at h; cases h
  | some p => rw [e] at h; exact ⟨p, rfl, (Option.some.inj h).symm⟩
theorem ae_propZ {Γ : Cg} {F : Hp} {ms : Ms} {S : Sg} {Q : QE} {ta : TE} {C : Addr} {sp : ASp} (h : AE Γ ta F ms S fun F1 ms1 x => ∃ a fs, x = .ref a ∧ InsA Γ.K F1 ms1 a C fs ∧ sp [.ref a] F1 ms1 Q fun _ _ _ _ => False) : AE Γ (tProp C (toSp Γ.K sp) [] E0 ta) F ms S Q := fun R σ H Qc hs hh x k =>
  h R σ H _ hs hh x fun F1 ms1 d1 v1 H1 e1 h1 r1 ⟨a, fs, hx, hi, q⟩ => by
    subst hx
    cases r1
    obtain ⟨dx, gs, i1, i2, i3⟩ := hi.to h1
    exact ⟨a, dx, gs, rfl, i1, F1, ms1, R, [.ref a], Q, _, h1, .cons (.ref a) .nil, q, fun F' ms' d v H' e => k F' ms' d v H' (e1.trans e), fun _ _ _ _ _ _ _ _ _ z => z.elim⟩
section
variable {P : Program} {w : World} {K : Frg} {mg : Str → Option Value} {base : Heap}
theorem ok_season_cost (T : Txt K mg) (G_Sign_check_texts : OK_Sign_check_texts P w base T) : OK_season_cost P w base T := by
  refine fn_okX T.F_season_cost sc_season_cost (by rintro _ _ _ _ _ ⟨x, w, ps, d, i, rfl, _⟩; rfl) (fun cdv A outer s H E hr => ?_)
  have hu64 := hr.units
  refine ⟨_, (pss_cons (ps_expr (pe_meth (pv 0) T.k_Sign T.Me_Sign_check_texts G_Sign_check_texts (hr.mono (by first | decide | omega)) T.b_Sign_check_texts .nil (passes_call (takes_of rfl rfl rfl rfl) (fun _ _ _ _ h => h)) (pa_cons (pv 1) pa_nil)))
      pss_never), ?_⟩
  rintro _ F ms Q Ea ⟨x, w, ps, d, i, rfl, hS, w0, w1, hb, qx⟩
  obtain ⟨i2, j2, m2, hi2, hj2⟩ := id hS
  walk_at "al"
  refine ae_meth ?_
  walk_at "al"
  refine ⟨x, fldS m2 w ps, rfl, .inr ⟨i2, hi2⟩, fld_no (by decide +kernel) (by decide +kernel) (by decide +kernel), ?_⟩
  walk_at "al"
  exact ⟨x, w, ps, d, rfl, hS, w0, w1, .inr ⟨i, hb, qx⟩⟩
theorem ok_count_best (T : Txt K mg) (G_Sign_check_texts : OK_Sign_check_texts P w base T) : OK_count_best P w base T := by
  refine fn_okX T.F_count_best sc_count_best (by rintro _ _ _ _ _ ⟨x, w, ps, d, i, rfl, _⟩; rfl) (fun cdv A outer s H E hr => ?_)
  have hu64 := hr.units
  refine ⟨_, (pss_cons (ps_expr (pe_meth (pv 0) T.k_Sign T.Me_Sign_check_texts G_Sign_check_texts (hr.mono (by first | decide | omega)) T.b_Sign_check_texts .nil (passes_call (takes_of rfl rfl rfl rfl) (fun _ _ _ _ h => h)) (pa_cons (pv 1) pa_nil)))
      pss_never), ?_⟩
  rintro _ F ms Q Ea ⟨x, w, ps, d, i, rfl, hS, w0, w1, hb, qx⟩
  obtain ⟨i2, j2, m2, hi2, hj2⟩ := id hS
  walk_at "al"
  refine ae_meth ?_
  walk_at "al"
  refine ⟨x, fldS m2 w ps, rfl, .inr ⟨i2, hi2⟩, fld_no (by decide +kernel) (by decide +kernel) (by decide +kernel), ?_⟩
  walk_at "al"
  exact ⟨x, w, ps, d, rfl, hS, w0, w1, .inr ⟨i, hb, qx⟩⟩
theorem ok_needed_letters (T : Txt K mg) (G_Sign_check_texts : OK_Sign_check_texts P w base T) : OK_needed_letters P w base T := by
  refine fn_okX T.F_needed_letters sc_needed_letters (by rintro _ _ _ _ _ ⟨x, w, ps, d, i, rfl, _⟩; rfl) (fun cdv A outer s H E hr => ?_)
  have hu64 := hr.units
  refine ⟨_, (pss_cons (ps_expr (pe_meth (pv 0) T.k_Sign T.Me_Sign_check_texts G_Sign_check_texts (hr.mono (by first | decide | omega)) T.b_Sign_check_texts .nil (passes_call (takes_of rfl rfl rfl rfl) (fun _ _ _ _ h => h)) (pa_cons (pv 1) pa_nil)))
      pss_never), ?_⟩
  rintro _ F ms Q Ea ⟨x, w, ps, d, i, rfl, hS, w0, w1, hb, qx⟩
  obtain ⟨i2, j2, m2, hi2, hj2⟩ := id hS
  walk_at "al"
  refine ae_meth ?_
  walk_at "al"
  refine ⟨x, fldS m2 w ps, rfl, .inr ⟨i2, hi2⟩, fld_no (by decide +kernel) (by decide +kernel) (by decide +kernel), ?_⟩
  walk_at "al"
  exact ⟨x, w, ps, d, rfl, hS, w0, w1, .inr ⟨i, hb, qx⟩⟩
theorem ok_best_order (T : Txt K mg) (G_Sign_check_texts : OK_Sign_check_texts P w base T) : OK_best_order P w base T := by
  refine fn_okX T.F_best_order sc_best_order (by rintro _ _ _ _ _ ⟨x, w, ps, d, i, rfl, _⟩; rfl) (fun cdv A outer s H E hr => ?_)
  have hu64 := hr.units
  refine ⟨_, (pss_cons (ps_expr (pe_meth (pv 0) T.k_Sign T.Me_Sign_check_texts G_Sign_check_texts (hr.mono (by first | decide | omega)) T.b_Sign_check_texts .nil (passes_call (takes_of rfl rfl rfl rfl) (fun _ _ _ _ h => h)) (pa_cons (pv 1) pa_nil)))
      pss_never), ?_⟩
  rintro _ F ms Q Ea ⟨x, w, ps, d, i, rfl, hS, w0, w1, hb, qx⟩
  obtain ⟨i2, j2, m2, hi2, hj2⟩ := id hS
  walk_at "al"
  refine ae_meth ?_
  walk_at "al"
  refine ⟨x, fldS m2 w ps, rfl, .inr ⟨i2, hi2⟩, fld_no (by decide +kernel) (by decide +kernel) (by decide +kernel), ?_⟩
  walk_at "al"
  exact ⟨x, w, ps, d, rfl, hS, w0, w1, .inr ⟨i, hb, qx⟩⟩
theorem ok_encode (T : Txt K mg) (G_Sign_check_texts : OK_Sign_check_texts P w base T) : OK_encode P w base T := by
  refine fn_okX T.F_encode sc_encode (by rintro _ _ _ _ _ ⟨x, w, ps, d, i, rfl, _⟩; rfl) (fun cdv A outer s H E hr => ?_)
  have hu64 := hr.units
  refine ⟨_, (pss_cons (ps_expr (pe_meth (pv 0) T.k_Sign T.Me_Sign_check_texts G_Sign_check_texts (hr.mono (by first | decide | omega)) T.b_Sign_check_texts .nil (passes_call (takes_of rfl rfl rfl rfl) (fun _ _ _ _ h => h)) (pa_cons (pv 1) pa_nil)))
      pss_never), ?_⟩
  rintro _ F ms Q Ea ⟨x, w, ps, d, i, rfl, hS, w0, w1, hb, qx⟩
  obtain ⟨i2, j2, m2, hi2, hj2⟩ := id hS
  walk_at "al"
  refine ae_meth ?_
  walk_at "al"
  refine ⟨x, fldS m2 w ps, rfl, .inr ⟨i2, hi2⟩, fld_no (by decide +kernel) (by decide +kernel) (by decide +kernel), ?_⟩
  walk_at "al"
  exact ⟨x, w, ps, d, rfl, hS, w0, w1, .inr ⟨i, hb, qx⟩⟩
theorem ok_best_offsets (T : Txt K mg) (G_Sign_check_texts : OK_Sign_check_texts P w base T) : OK_best_offsets P w base T := by
  refine gfn_okX T.F_best_offsets sc_best_offsets (by rintro _ _ _ _ _ ⟨x, w, ps, d, i, rfl, _⟩; rfl) (fun cdv A outer s H E pn hr => ?_)
  have hu64 := hr.units
  refine ⟨_, (gss_cons (gs_ps (ps_expr (pe_meth (pv 0) T.k_Sign T.Me_Sign_check_texts G_Sign_check_texts (hr.mono (by first | decide | omega)) T.b_Sign_check_texts .nil (passes_call takes_gcx (fun _ _ _ _ h => h)) (pa_cons (pv 1) pa_nil))))
      gss_never), ?_⟩
  rintro _ F ms Q Ea ⟨x, w, ps, d, i, rfl, hS, w0, w1, hb, qx⟩
  obtain ⟨i2, j2, m2, hi2, hj2⟩ := id hS
  refine ay_then ?_
  refine ay_plain ?_
  walk_at "al"
  refine ae_meth ?_
  walk_at "al"
  refine ⟨x, fldS m2 w ps, rfl, .inr ⟨i2, hi2⟩, fld_no (by decide +kernel) (by decide +kernel) (by decide +kernel), ?_⟩
  walk_at "al"
  exact ⟨x, w, ps, d, rfl, hS, w0, w1, .inr ⟨i, hb, qx⟩⟩
theorem ok_missing_letters (T : Txt K mg) (G_needed_letters : OK_needed_letters P w base T) : OK_missing_letters P w base T := by
  refine fn_okX T.F_missing_letters sc_missing_letters (by rintro _ _ _ _ _ ⟨x, w, ps, d, e, i, rfl, _⟩; rfl) (fun cdv A outer s H E hr => ?_)
  have hu64 := hr.units
  refine ⟨_, (pss_cons (ps_set (i := 3) sc_missing_letters.nd rfl (by first | exact Or.inl rfl | exact Or.inr rfl) (pe_call G_needed_letters (hr.mono (by first | decide | omega)) (by rfl) T.m_needed_letters T.F_needed_letters.kp T.b_needed_letters .nil (passes_call (takes_of rfl rfl rfl rfl) (fun _ _ _ _ h => h)) (pa_cons (pv 0) (pa_cons (pv 1) pa_nil))))
      pss_never), ?_⟩
  rintro _ F ms Q Ea ⟨x, w, ps, d, e, i, rfl, hS, w0, w1, hb, qx⟩
  walk_at "al"
  exact ⟨x, w, ps, d, i, rfl, hS, w0, w1, hb, qx⟩
theorem ok_needless_pairs (T : Txt K mg) (G_season_cost : OK_season_cost P w base T) : OK_needless_pairs P w base T := by
  refine fn_okX T.F_needless_pairs sc_needless_pairs (by rintro _ _ _ _ _ ⟨x, w, ps, d, i, rfl, _⟩; rfl) (fun cdv A outer s H E hr => ?_)
  have hu64 := hr.units
  refine ⟨_, (pss_cons (ps_par (i := 2) (j := 3) rfl sc_needless_pairs.nd rfl rfl (by decide) rfl rfl (pa_cons (pe_call G_season_cost (hr.mono (by first | decide | omega)) (by rfl) T.m_season_cost T.F_season_cost.kp T.b_season_cost .nil (passes_call (takes_of rfl rfl rfl rfl) (fun _ _ _ _ h => h)) (pa_cons (pv 0) (pa_cons (pv 1) pa_nil))) (pa_cons (pe_lst pa_nil) pa_nil)) (by rfl))
      pss_never), ?_⟩
  rintro _ F ms Q Ea ⟨x, w, ps, d, i, rfl, hS, w0, w1, hb, qx⟩
  walk_at "al"
  exact ⟨x, w, ps, d, i, rfl, hS, w0, w1, hb, qx⟩
theorem ok_Watcher___init__ (T : Txt K mg) (G_Sign_check_texts : OK_Sign_check_texts P w base T) : OK_Watcher___init__ P w base T := by
  refine fn_okX T.F_Watcher___init__ sc_Watcher___init__ (by rintro _ _ _ _ _ ⟨z, R, x, w, ps, d, i, rfl, _⟩; rfl) (fun cdv A outer s H E hr => ?_)
  have hu64 := hr.units
  refine ⟨_, (pss_cons (ps_expr (pe_meth (pv 1) T.k_Sign T.Me_Sign_check_texts G_Sign_check_texts (hr.mono (by first | decide | omega)) T.b_Sign_check_texts .nil (passes_call (takes_of rfl rfl rfl rfl) (fun _ _ _ _ h => h)) (pa_cons (pv 2) pa_nil)))
      pss_never), ?_⟩
  rintro _ F _ Q Ea ⟨z, R, x, w, ps, d, i, rfl, rfl, hS, w0, w1, hb, qx⟩
  obtain ⟨i2, j2, m2, hi2, hj2⟩ := id hS.cons
  walk_at "al"
  refine ae_meth ?_
  walk_at "al"
  refine ⟨x, fldS m2 w ps, rfl, .inr ⟨i2, hi2⟩, fld_no (by decide +kernel) (by decide +kernel) (by decide +kernel), ?_⟩
  walk_at "al"
  exact ⟨x, w, ps, d, rfl, hS.cons, w0, w1, .inr ⟨i, hb, fun F' e => qx F' [_] e⟩⟩
theorem ok_format_season (T : Txt K mg) (G_Sign_check_texts : OK_Sign_check_texts P w base T) (G_check_offsets : OK_check_offsets P w base T) : OK_format_season P w base T := by
  refine fn_okX T.F_format_season sc_format_season (by rintro _ _ _ _ _ ⟨x, w, ps, d, e, C, i, rfl, _⟩; rfl) (fun cdv A outer s H E hr => ?_)
  have hu64 := hr.units
  refine ⟨_, (pss_cons (ps_expr (pe_meth (pv 0) T.k_Sign T.Me_Sign_check_texts G_Sign_check_texts (hr.mono (by first | decide | omega)) T.b_Sign_check_texts .nil (passes_call (takes_of rfl rfl rfl rfl) (fun _ _ _ _ h => h)) (pa_cons (pv 1) pa_nil)))
      (pss_cons (ps_expr (pe_call G_check_offsets (hr.mono (by first | decide | omega)) (by rfl) T.m_check_offsets T.F_check_offsets.kp T.b_check_offsets .nil (passes_call (takes_of rfl rfl rfl rfl) (fun _ _ _ _ h => h)) (pa_cons (pv 0) (pa_cons (pv 1) (pa_cons (pv 2) pa_nil)))))
      pss_never)), ?_⟩
  rintro _ F ms Q Ea ⟨x, w, ps, d, e, C, i, rfl, hS, w0, w1, hb, qx⟩
  obtain ⟨i2, j2, m2, hi2, hj2⟩ := id hS
  walk_at "al"
  refine ae_meth ?_
  walk_at "al"
  refine ⟨x, fldS m2 w ps, rfl, .inr ⟨i2, hi2⟩, fld_no (by decide +kernel) (by decide +kernel) (by decide +kernel), ?_⟩
  walk_at "al"
  rcases hb with ⟨hb, rfl⟩ | ⟨ts, rfl, t1, t2, ht, hb, rfl⟩
  · exact ⟨x, w, ps, d, rfl, hS, w0, w1, .inr ⟨i, hb, qx⟩⟩
  · refine ⟨x, w, ps, _, rfl, hS, w0, w1, .inl ⟨ts, rfl, t1, t2, ht, fun F1 e1 => ?_⟩⟩
    walk_at "al"
    exact ⟨x, w, ps, ts, e, rfl, hS, w0, w1, t2, ht, .inr ⟨i, hb, fun F2 e2 => qx F2 (e1.trans e2)⟩⟩
theorem ok_fixed_cost (T : Txt K mg) (G_Sign_check_texts : OK_Sign_check_texts P w base T) (G_check_offsets : OK_check_offsets P w base T) (G_Sign_blank : OK_Sign_blank P w base T) (G_Sign_row_of : OK_Sign_row_of P w base T) (G_cost : OK_cost P w base T) (G_add : OK_add P w base T) : OK_fixed_cost P w base T := by
  refine fn_okX T.F_fixed_cost sc_fixed_cost (by rintro _ _ _ _ _ ⟨x, w, ps, d, e, rfl, _⟩; rfl) (fun cdv A outer s H E hr => ?_)
  have hu64 := hr.units
  refine ⟨_, (pss_cons (ps_expr (pe_meth (pv 0) T.k_Sign T.Me_Sign_check_texts G_Sign_check_texts (hr.mono (by first | decide | omega)) T.b_Sign_check_texts .nil (passes_call (takes_of rfl rfl rfl rfl) (fun _ _ _ _ h => h)) (pa_cons (pv 1) pa_nil)))
      (pss_cons (ps_expr (pe_call G_check_offsets (hr.mono (by first | decide | omega)) (by rfl) T.m_check_offsets T.F_check_offsets.kp T.b_check_offsets .nil (passes_call (takes_of rfl rfl rfl rfl) (fun _ _ _ _ h => h)) (pa_cons (pv 0) (pa_cons (pv 1) (pa_cons (pv 2) pa_nil)))))
      (pss_cons (ps_par (i := 3) (j := 4) rfl sc_fixed_cost.nd rfl rfl (by decide) rfl rfl (pa_cons (pe_tup (pa_cons pe_int (pa_cons pe_int pa_nil))) (pa_cons (pe_prop (pv 0) T.k_Sign T.P_Sign_blank G_Sign_blank (hr.mono (by first | decide | omega)) T.b_Sign_blank .nil pass0 (by rfl)) pa_nil)) (by rfl))
      (pss_cons (ps_for (passes_of rfl) rfl (pi_zipk (K := K) rfl (by rfl) T.g_zip (pa_cons (pv 1) (pa_cons (pv 2) pa_nil))) (pg_tupk (K := K) (n := 2) rfl rfl (pgs_cons (pg_name (i := 5) sc_fixed_cost.nd rfl (by first | exact Or.inl rfl | exact Or.inr rfl)) (pgs_cons (pg_name (i := 6) sc_fixed_cost.nd rfl (by first | exact Or.inl rfl | exact Or.inr rfl)) pgs_nil))) (pss_cons (ps_set (i := 7) sc_fixed_cost.nd rfl (by first | exact Or.inl rfl | exact Or.inr rfl) (pe_meth (pv 0) T.k_Sign T.Me_Sign_row_of G_Sign_row_of (hr.mono (by first | decide | omega)) T.b_Sign_row_of .nil pass0 (pa_cons (pv 5) (pa_cons (pv 6) pa_nil))))
      (pss_cons (ps_set (i := 3) sc_fixed_cost.nd rfl (by first | exact Or.inl rfl | exact Or.inr rfl) (pe_call G_add (hr.mono (by first | decide | omega)) (by rfl) T.m_add T.F_add.kp T.b_add .nil pass0 (pa_cons (pv 3) (pa_cons (pe_call G_cost (hr.mono (by first | decide | omega)) (by rfl) T.m_cost T.F_cost.kp T.b_cost .nil pass0 (pa_cons (pv 0) (pa_cons (pv 4) (pa_cons (pv 7) pa_nil)))) pa_nil))))
      (pss_one (ps_set (i := 4) sc_fixed_cost.nd rfl (by first | exact Or.inl rfl | exact Or.inr rfl) (pv 7))))))
      (pss_one (ps_ret (pv 3))))))), ?_⟩
  rintro _ F ms Q Ea ⟨x, wd, ps, d, e, rfl, hS, w0, w1, hcase⟩
  obtain ⟨i, j, m, hi, hj⟩ := id hS
  walk_at "al"
  refine ae_meth ?_
  walk_at "al"
  refine ⟨x, fldS m wd ps, rfl, .inr ⟨i, hi⟩, fld_no (by decide +kernel) (by decide +kernel) (by decide +kernel), ?_⟩
  walk_at "al"
  rcases hcase with ⟨ts, os, rfl, rfl, ⟨w1, w2, hp, hpL, hpN, ht1, ht2, ht⟩, hO, q⟩ | ⟨C, i', hb, qx⟩
  rotate_left
  · rcases hb with ⟨hb, rfl⟩ | ⟨ts, rfl, t1, t2, ht, hb, rfl⟩
    · exact ⟨x, wd, ps, d, rfl, hS, w0, w1, .inr ⟨i', hb, qx⟩⟩
    · refine ⟨x, wd, ps, _, rfl, hS, w0, w1, .inl ⟨ts, rfl, t1, t2, ht, fun F1 e1 => ?_⟩⟩
      walk_at "al"
      exact ⟨x, wd, ps, ts, e, rfl, hS, w0, w1, t2, ht, .inr ⟨i', hb, fun F2 e2 => qx F2 (e1.trans e2)⟩⟩
  refine ⟨x, wd, ps, _, rfl, hS, w0, w2, .inl ⟨ts, rfl, ht1, ht2, ht, fun F1 e1 => ?_⟩⟩
  walk_at "al"
  refine ⟨x, wd, ps, ts, _, rfl, hS, w0, w2, ht2, ht, .inl ⟨os, rfl, hO, fun F2 e2 => ?_⟩⟩
  walk_at "al"
  refine ae_tup ?_
  walk_at "al"
  refine ⟨by simp, fun F3 e3 => ?_⟩
  walk_at "al"
  refine ae_propZ ?_
  walk_at "al"
  refine ⟨x, _, rfl, .inr ⟨i, hi⟩, x, wd, ps, rfl, ⟨i, j, m, hi, hj⟩, by omega, w2, ?_⟩
  walk_at "al"
  refine as_for ?_
  refine ai_zipT ?_
  walk_at "al"
  have h0 := hO.1
  refine ⟨_, _, rfl, by rw [List.length_map, List.length_map, hO.1], ?_⟩
  refine ⟨fun n F' ms' S' => ms' = ms ∧ okRow wd (((ts.zip os).take n).foldl (stepF ps wd) ((0, 0), mulS sp1 wd)).2 ∧ ∃ a b c, S' = [some (.ref x), some (.tup (ts.map D.str)), some (.tup (os.map D.int)), some (cD (((ts.zip os).take n).foldl (stepF ps wd) ((0, 0), mulS sp1 wd)).1), some (.str (((ts.zip os).take n).foldl (stepF ps wd) ((0, 0), mulS sp1 wd)).2), a, b, c], ⟨rfl, blank_ok (by omega), none, none, none, rfl⟩, fun _ _ _ _ _ _ => trivial, ?_, ?_⟩
  · rintro n d F4 ms4 S4 e4 hd ⟨rfl, hrow, a, b, c, rfl⟩ F5 e5
    obtain ⟨_, _, h1, h2, rfl⟩ := zipD_inv hd
    obtain ⟨t, hti, rfl⟩ := strs_at h1
    obtain ⟨o, hoi, rfl⟩ := ints_at' h2
    obtain ⟨o1, o2⟩ := hO.2 n _ _ hti hoi
    have htk := ht _ (List.mem_of_getElem? hti)
    have hz : (ts.zip os)[n]? = some (t, o) := List.getElem?_zip_eq_some.mpr ⟨hti, hoi⟩
    have hs : ((ts.zip os).take (n + 1)).foldl (stepF ps wd) ((0, 0), mulS sp1 wd) = stepF ps wd (((ts.zip os).take n).foldl (stepF ps wd) ((0, 0), mulS sp1 wd)) (t, o) := by
      rw [List.take_succ, hz, List.foldl_append]
      rfl
    generalize ((ts.zip os).take n).foldl (stepF ps wd) ((0, 0), mulS sp1 wd) = st at hs hrow ⊢
    have hsh := shown_ok htk o1 o2
    refine ag_tup rfl ?_
    refine ags_cons (ag_name ?_)
    refine ags_cons (ag_name ?_)
    refine ags_nil ?_
    walk_at "al"
    refine ae_methZ ?_
    walk_at "al"
    refine ⟨x, fldS m wd ps, rfl, .inr ⟨i, hi⟩, fld_no (by decide +kernel) (by decide +kernel) (by decide +kernel), ?_⟩
    walk_at "al"
    refine ⟨x, wd, ps, t, o, rfl, ⟨i, j, m, hi, hj⟩, w2, o1, o2, ?_⟩
    walk_at "al"
    refine ae_callZ ?_
    walk_at "al"
    refine ae_callZ ?_
    walk_at "al"
    refine ⟨x, wd, ps, st.2, shown wd t o, rfl, ⟨i, j, m, hi, hj⟩, by omega, w2, hpL, hrow, hsh, fun F6 e6 => ?_⟩
    walk_at "al"
    refine ⟨st.1, costP ps st.2 (shown wd t o) wd, rfl, fun F7 e7 => ?_⟩
    walk_at "al"
    refine ⟨rfl, ?_, some (.str t), some (.int o), some (.str (shown wd t o)), ?_⟩
    · rw [hs]
      exact hsh
    · rw [hs]
      rfl
  · rintro F4 ms4 S4 e4 ⟨rfl, hrow, a, b, c, rfl⟩
    have hzl : (zipD (ts.map D.str) (os.map D.int)).length = (ts.zip os).length := by
      rw [zipD_len (by rw [List.length_map, List.length_map, hO.1]), List.length_map, List.length_zip, hO.1, Nat.min_self]
    rw [hzl, List.take_length]
    walk_at "al"
    exact q _ (e1.trans (e2.trans (e3.trans e4)))
end

section
variable {P : Program} {w : World} {K : Frg} {mg : Str → Option Value} {base : Heap}
theorem ok_InvalidText___init__ (T : Txt K mg) : OK_InvalidText___init__ P w base T := by
  refine T.F_InvalidText___init__.ok sc_InvalidText___init__ (by rintro _ _ _ _ ⟨a, v, rfl, _⟩; rfl) (fun cdv A outer s H vs Q E hr h => ⟨_, (pss_cons (ps_expr (pe_seinit (pe_glob (v := .ref T.c_SignError) (by rfl) T.m_SignError rfl) T.SB_SignError (pa_cons (pv 0) (pa_cons (pv 1) pa_nil))))
      (pss_one (ps_ost (pv 0) (pv 1)))), ?_⟩)
  obtain ⟨a, v, rfl, ha, q⟩ := h
  exact ⟨rfl, .ref a, rfl, v, rfl, a, T.c_InvalidText, [v], rfl, by show 1 ≤ 1000; decide, T.X_InvalidText.ox, ha, v, rfl, .ref a, rfl, a, T.c_InvalidText, rfl, T.X_InvalidText.ox, T.nx_InvalidText_index, .inl ⟨ha, fun dx hn hne => q dx hn hne⟩⟩
theorem ok_InvalidOffset___init__ (T : Txt K mg) : OK_InvalidOffset___init__ P w base T := by
  refine T.F_InvalidOffset___init__.ok sc_InvalidOffset___init__ (by rintro _ _ _ _ ⟨a, v, rfl, _⟩; rfl) (fun cdv A outer s H vs Q E hr h => ⟨_, (pss_cons (ps_expr (pe_seinit (pe_glob (v := .ref T.c_SignError) (by rfl) T.m_SignError rfl) T.SB_SignError (pa_cons (pv 0) (pa_cons (pv 1) pa_nil))))
      (pss_one (ps_ost (pv 0) (pv 1)))), ?_⟩)
  obtain ⟨a, v, rfl, ha, q⟩ := h
  exact ⟨rfl, .ref a, rfl, v, rfl, a, T.c_InvalidOffset, [v], rfl, by show 1 ≤ 1000; decide, T.X_InvalidOffset.ox, ha, v, rfl, .ref a, rfl, a, T.c_InvalidOffset, rfl, T.X_InvalidOffset.ox, T.nx_InvalidOffset_index, .inl ⟨ha, fun dx hn hne => q dx hn hne⟩⟩
theorem ge_all (T : Txt K mg) (cdl : Value) (A : Around) (outer : List Env) (s : Shared) (H : Hp) (E : XK) (bB : Heap) (bA : Around) (bO : List Env) (q : Str) (cdv : Value) : LamY.Gives3 (LamZ.xcx ((cxOf CX0 P w K mg base N_law "law" (defScope s_law) T.a_law cdl A outer s H E).nox) bB bA bO) N__law_error_of "_law_error_of" (defScope s__law_error_of) T.a__law_error_of cdv (defBody s__law_error_of) "_law_call" q (TTX K (errR T)) 8 := by
  refine err_givesX (K := K) rfl (X := (LamZ.xcx ((cxOf CX0 P w K mg base N_law "law" (defScope s_law) T.a_law cdl A outer s H E).nox) bB bA bO)) (CS := T.c_SignError) (S := [none, none, none]) (e := "SignError") (n := "_law_e") (by decide +kernel) T.m_SignError (by decide) (by decide) rfl (by decide +kernel) (fun C fs res hR => ?_) (fun _ => rfl) (fun _ _ => rfl) (fun C res hR f b s' H' hr => ?_) (fun C fs res hR hne f b dd s' H' hr => ?_)
  · rcases hR with ⟨rfl, i, hfs, rfl⟩ | ⟨rfl, i, hfs, rfl⟩
    · exact T.sx_InvalidText
    · exact T.sx_InvalidOffset
  · rcases hR with ⟨rfl, i, hfs, rfl⟩ | ⟨rfl, i, hfs, rfl⟩
    · cases hfs
    · cases hfs
  · rcases hR with ⟨rfl, i, hfs, rfl⟩ | ⟨rfl, i, hfs, rfl⟩
    · subst hfs
      have hu64 := hr.units
      have hEC := T.ec_InvalidText
      refine ⟨_, fun oe pn hz hf => (pss_cons (ps_set (i := 2) sc__law_error_of.nd rfl (by first | exact Or.inl rfl | exact Or.inr rfl) (pe_lst (pa_cons (pe_callB (call_isEX hEC hz hf) (by rfl) T.g_isinstance boot_isinstance (pa_cons (pv 1) (pa_cons (pe_glob (v := .ref T.c_InvalidStock) (by rfl) T.m_InvalidStock rfl) pa_nil))) (pa_cons (pe_callB (call_isEX hEC hz hf) (by rfl) T.g_isinstance boot_isinstance (pa_cons (pv 1) (pa_cons (pe_glob (v := .ref T.c_TooMany) (by rfl) T.m_TooMany rfl) pa_nil))) (pa_cons (pe_callB (call_isEX hEC hz hf) (by rfl) T.g_isinstance boot_isinstance (pa_cons (pv 1) (pa_cons (pe_glob (v := .ref T.c_InvalidCount) (by rfl) T.m_InvalidCount rfl) pa_nil))) pa_nil)))))
      (pss_cons (ps_set (i := 2) sc__law_error_of.nd rfl (by first | exact Or.inl rfl | exact Or.inr rfl) (pe_op (kADD (K := K) rfl) (pv 2) (pe_lst (pa_cons (pe_callB (call_isEX hEC hz hf) (by rfl) T.g_isinstance boot_isinstance (pa_cons (pv 1) (pa_cons (pe_glob (v := .ref T.c_Contradiction) (by rfl) T.m_Contradiction rfl) pa_nil))) (pa_cons (pe_callB (call_isEX hEC hz hf) (by rfl) T.g_isinstance boot_isinstance (pa_cons (pv 1) (pa_cons (pe_glob (v := .ref T.c_InvalidName) (by rfl) T.m_InvalidName rfl) pa_nil))) (pa_cons (pe_callB (call_isEX hEC hz hf) (by rfl) T.g_isinstance boot_isinstance (pa_cons (pv 1) (pa_cons (pe_glob (v := .ref T.c_UnknownName) (by rfl) T.m_UnknownName rfl) pa_nil))) pa_nil))))))
      (pss_cons (ps_set (i := 2) sc__law_error_of.nd rfl (by first | exact Or.inl rfl | exact Or.inr rfl) (pe_op (kADD (K := K) rfl) (pv 2) (pe_lst (pa_cons (pe_callB (call_isEX hEC hz hf) (by rfl) T.g_isinstance boot_isinstance (pa_cons (pv 1) (pa_cons (pe_glob (v := .ref T.c_NotEnough) (by rfl) T.m_NotEnough rfl) pa_nil))) (pa_cons (pe_callB (call_isEX hEC hz hf) (by rfl) T.g_isinstance boot_isinstance (pa_cons (pv 1) (pa_cons (pe_glob (v := .ref T.c_InvalidSign) (by rfl) T.m_InvalidSign rfl) pa_nil))) (pa_cons (pe_callB (call_isEX hEC hz hf) (by rfl) T.g_isinstance boot_isinstance (pa_cons (pv 1) (pa_cons (pe_glob (v := .ref T.c_InvalidRow) (by rfl) T.m_InvalidRow rfl) pa_nil))) pa_nil))))))
      (pss_cons (ps_set (i := 2) sc__law_error_of.nd rfl (by first | exact Or.inl rfl | exact Or.inr rfl) (pe_op (kADD (K := K) rfl) (pv 2) (pe_lst (pa_cons (pe_callB (call_isEX hEC hz hf) (by rfl) T.g_isinstance boot_isinstance (pa_cons (pv 1) (pa_cons (pe_glob (v := .ref T.c_InvalidText) (by rfl) T.m_InvalidText rfl) pa_nil))) (pa_cons (pe_callB (call_isEX hEC hz hf) (by rfl) T.g_isinstance boot_isinstance (pa_cons (pv 1) (pa_cons (pe_glob (v := .ref T.c_InvalidOffset) (by rfl) T.m_InvalidOffset rfl) pa_nil))) (pa_cons (pe_callB (call_isEX hEC hz hf) (by rfl) T.g_isinstance boot_isinstance (pa_cons (pv 1) (pa_cons (pe_glob (v := .ref T.c_InvalidMove) (by rfl) T.m_InvalidMove rfl) pa_nil))) pa_nil))))))
      (pss_cons (ps_set (i := 2) sc__law_error_of.nd rfl (by first | exact Or.inl rfl | exact Or.inr rfl) (pe_op (kADD (K := K) rfl) (pv 2) (pe_lst (pa_cons (pe_callB (call_isEX hEC hz hf) (by rfl) T.g_isinstance boot_isinstance (pa_cons (pv 1) (pa_cons (pe_glob (v := .ref T.c_Unreadable) (by rfl) T.m_Unreadable rfl) pa_nil))) (pa_cons (pe_callB (call_isEX hEC hz hf) (by rfl) T.g_isinstance boot_isinstance (pa_cons (pv 1) (pa_cons (pe_glob (v := .ref T.c_InvalidCode) (by rfl) T.m_InvalidCode rfl) pa_nil))) (pa_cons (pe_callB (call_isEX hEC hz hf) (by rfl) T.g_isinstance boot_isinstance (pa_cons (pv 1) (pa_cons (pe_glob (v := .ref T.c_InvalidOperation) (by rfl) T.m_InvalidOperation rfl) pa_nil))) pa_nil))))))
      (pss_cons (ps_if ((pw_or (pt_cmpR (kNE (K := K) rfl hu64) (pe_bmk (K := K) rfl PySem.F.plainAttrs_list PySem.F.slot_list_count PySem.F.type_list_count (kCNTF (K := K) rfl) (pv 2) (pa_cons pe_bl pa_nil)) pe_int (nomark _)) (pw_or1 (pt_not (pt_val (pe_callB (call_isEX hEC hz hf) (by rfl) T.g_isinstance boot_isinstance (pa_cons (pv 1) (pa_cons (pe_bltn (v := .ty "ValueError") (by rfl) T.g_ValueError (by decide +kernel) rfl) pa_nil)))))))).pt (pss_one (ps_ret (pe_tup (pa_cons pe_str (pa_cons pe_int pa_nil))))) pss_nil)
      (pss_cons (ps_set (i := 3) sc__law_error_of.nd rfl (by first | exact Or.inl rfl | exact Or.inr rfl) (pe_lst (pa_cons pe_str (pa_cons pe_str (pa_cons pe_str (pa_cons pe_str (pa_cons pe_str (pa_cons pe_str (pa_cons pe_str (pa_cons pe_str (pa_cons pe_str (pa_cons pe_str pa_nil))))))))))))
      (pss_cons (ps_set (i := 4) sc__law_error_of.nd rfl (by first | exact Or.inl rfl | exact Or.inr rfl) (pe_ix (kIX (K := K) rfl) (pe_op (kADD (K := K) rfl) (pv 3) (pe_lst (pa_cons pe_str (pa_cons pe_str (pa_cons pe_str (pa_cons pe_str (pa_cons pe_str pa_nil))))))) (pe_bmk (K := K) rfl PySem.F.plainAttrs_list PySem.F.slot_list_index PySem.F.type_list_index (kIDX (K := K) rfl) (pv 2) (pa_cons pe_bl pa_nil)) (fun _ _ => rfl)))
      (pss_cons (ps_if (pt_cmpR (kEQ (K := K) rfl hu64) (pv 4) pe_str (nomark _)) (pss_one (ps_ret (pe_tup (pa_cons (pv 4) (pa_cons (pe_tup (pa_cons pe_never (pa_cons (pe_xf T.xf_InvalidText T.nx_InvalidText_index hz hf (pv 1)) pa_nil))) pa_nil))))) pss_nil)
      (pss_cons (ps_if (pt_cmpR (kIN (K := K) rfl) (pv 4) (pe_lst (pa_cons pe_str (pa_cons pe_str (pa_cons pe_str (pa_cons pe_str pa_nil))))) (by with_unfolding_all rfl)) (pss_one (ps_ret (pe_tup (pa_cons (pv 4) (pa_cons (pe_xf T.xf_InvalidText T.nx_InvalidText_index hz hf (pv 1)) pa_nil))))) pss_nil)
      (pss_one (ps_ret (pe_tup (pa_cons (pv 4) (pa_cons (pe_ifExp (pt_cmpR (kEQ (K := K) rfl hu64) (pv 4) pe_str (nomark _)) pe_never (pe_ifExp (pt_cmpR (kIN (K := K) rfl) (pv 4) (pe_lst (pa_cons pe_str (pa_cons pe_str pa_nil))) (by with_unfolding_all rfl)) pe_never pe_int)) pa_nil))))))))))))))), ?_⟩
      intro F ms gs hd hr2
      walk_at "al"
      refine ae_lstF ?_
      walk_at "al"
      refine ac_isEX hd T.ki_InvalidText_InvalidStock ?_
      walk_at "al"
      refine ac_isEX hd T.ki_InvalidText_TooMany ?_
      walk_at "al"
      refine ac_isEX hd T.ki_InvalidText_InvalidCount ?_
      walk_at "al"
      refine ⟨by simp, fun F1 e1 => ?_⟩
      have hd := e1 _ _ hd
      have hr2 := hr2.mono e1
      walk_at "al"
      refine ae_lstF ?_
      walk_at "al"
      refine ac_isEX hd T.ki_InvalidText_Contradiction ?_
      walk_at "al"
      refine ac_isEX hd T.ki_InvalidText_InvalidName ?_
      walk_at "al"
      refine ac_isEX hd T.ki_InvalidText_UnknownName ?_
      walk_at "al"
      refine ⟨by simp, fun F2 e2 => ?_⟩
      have hd := e2 _ _ hd
      have hr2 := hr2.mono e2
      refine ar_ADDl (by simp) fun F3 e3 => ?_
      have hd := e3 _ _ hd
      have hr2 := hr2.mono e3
      walk_at "al"
      refine ae_lstF ?_
      walk_at "al"
      refine ac_isEX hd T.ki_InvalidText_NotEnough ?_
      walk_at "al"
      refine ac_isEX hd T.ki_InvalidText_InvalidSign ?_
      walk_at "al"
      refine ac_isEX hd T.ki_InvalidText_InvalidRow ?_
      walk_at "al"
      refine ⟨by simp, fun F4 e4 => ?_⟩
      have hd := e4 _ _ hd
      have hr2 := hr2.mono e4
      refine ar_ADDl (by simp) fun F5 e5 => ?_
      have hd := e5 _ _ hd
      have hr2 := hr2.mono e5
      walk_at "al"
      refine ae_lstF ?_
      walk_at "al"
      refine ac_isEX hd T.ki_InvalidText_InvalidText ?_
      walk_at "al"
      refine ac_isEX hd T.ki_InvalidText_InvalidOffset ?_
      walk_at "al"
      refine ac_isEX hd T.ki_InvalidText_InvalidMove ?_
      walk_at "al"
      refine ⟨by simp, fun F6 e6 => ?_⟩
      have hd := e6 _ _ hd
      have hr2 := hr2.mono e6
      refine ar_ADDl (by simp) fun F7 e7 => ?_
      have hd := e7 _ _ hd
      have hr2 := hr2.mono e7
      walk_at "al"
      refine ae_lstF ?_
      walk_at "al"
      refine ac_isEX hd T.ki_InvalidText_Unreadable ?_
      walk_at "al"
      refine ac_isEX hd T.ki_InvalidText_InvalidCode ?_
      walk_at "al"
      refine ac_isEX hd T.ki_InvalidText_InvalidOperation ?_
      walk_at "al"
      refine ⟨by simp, fun F8 e8 => ?_⟩
      have hd := e8 _ _ hd
      have hr2 := hr2.mono e8
      refine ar_ADDl (by simp) fun F9 e9 => ?_
      have hd := e9 _ _ hd
      have hr2 := hr2.mono e9
      refine as_norm (S' := [_, _, some (.lst ([false, false, false, false, false, false, false, false, false, true, false, false, false, false, false].map D.bl)), _, _]) rfl ?_
      walk_at "al"
      refine ae_bmL ?_
      walk_at "al"
      refine ⟨_, .inl (.inl rfl), ?_⟩
      walk_at "al"
      refine am_countB (bs := [false, false, false, false, false, false, false, false, false, true, false, false, false, false, false]) (.inl (.inl rfl)) ?_
      walk_at "al"
      refine and_ndT' ?_ ?_
      · decide
      walk_at "al"
      refine ac_isEXt hd T.kv_InvalidText ?_
      walk_at "al"
      refine ae_lstF ?_
      walk_at "al"
      refine ⟨by simp, fun F10 e10 => ?_⟩
      have hd := e10 _ _ hd
      have hr2 := hr2.mono e10
      walk_at "al"
      refine ae_lstF ?_
      walk_at "al"
      refine ⟨by simp, fun F11 e11 => ?_⟩
      have hd := e11 _ _ hd
      have hr2 := hr2.mono e11
      refine ar_ADDl (by simp) fun F12 e12 => ?_
      have hd := e12 _ _ hd
      have hr2 := hr2.mono e12
      walk_at "al"
      refine ae_bmL ?_
      walk_at "al"
      refine ⟨_, .inl (.inl rfl), ?_⟩
      walk_at "al"
      refine am_indexB (bs := [false, false, false, false, false, false, false, false, false, true, false, false, false, false, false]) (j := 9) (.inl (.inl rfl)) rfl (by decide) ?_
      refine ar_ixL (d := .str "text") rfl ?_
      walk_at "al"
      refine and_dF ?_ ?_
      · decide
      walk_at "al"
      refine ae_lstF ?_
      walk_at "al"
      refine ⟨by simp, fun F13 e13 => ?_⟩
      have hd := e13 _ _ hd
      have hr2 := hr2.mono e13
      refine ar_INl (xs := ["row", "text", "offset", "move"]) (.inl (.inl (.inl rfl))) ?_
      walk_at "al"
      refine and_dT ?_ ?_
      · decide
      walk_at "al"
      refine ae_tup ?_
      walk_at "al"
      refine ae_xf (fs := [("index", .int i)]) (gs := gs) (d := .int i) ?_
      walk_at "al"
      refine ⟨rfl, hd, hr2, rfl, ?_⟩
      walk_at "al"
      exact ⟨by simp, fun F99 e99 => ⟨rfl, rfl⟩⟩
    · subst hfs
      have hu64 := hr.units
      have hEC := T.ec_InvalidOffset
      refine ⟨_, fun oe pn hz hf => (pss_cons (ps_set (i := 2) sc__law_error_of.nd rfl (by first | exact Or.inl rfl | exact Or.inr rfl) (pe_lst (pa_cons (pe_callB (call_isEX hEC hz hf) (by rfl) T.g_isinstance boot_isinstance (pa_cons (pv 1) (pa_cons (pe_glob (v := .ref T.c_InvalidStock) (by rfl) T.m_InvalidStock rfl) pa_nil))) (pa_cons (pe_callB (call_isEX hEC hz hf) (by rfl) T.g_isinstance boot_isinstance (pa_cons (pv 1) (pa_cons (pe_glob (v := .ref T.c_TooMany) (by rfl) T.m_TooMany rfl) pa_nil))) (pa_cons (pe_callB (call_isEX hEC hz hf) (by rfl) T.g_isinstance boot_isinstance (pa_cons (pv 1) (pa_cons (pe_glob (v := .ref T.c_InvalidCount) (by rfl) T.m_InvalidCount rfl) pa_nil))) pa_nil)))))
      (pss_cons (ps_set (i := 2) sc__law_error_of.nd rfl (by first | exact Or.inl rfl | exact Or.inr rfl) (pe_op (kADD (K := K) rfl) (pv 2) (pe_lst (pa_cons (pe_callB (call_isEX hEC hz hf) (by rfl) T.g_isinstance boot_isinstance (pa_cons (pv 1) (pa_cons (pe_glob (v := .ref T.c_Contradiction) (by rfl) T.m_Contradiction rfl) pa_nil))) (pa_cons (pe_callB (call_isEX hEC hz hf) (by rfl) T.g_isinstance boot_isinstance (pa_cons (pv 1) (pa_cons (pe_glob (v := .ref T.c_InvalidName) (by rfl) T.m_InvalidName rfl) pa_nil))) (pa_cons (pe_callB (call_isEX hEC hz hf) (by rfl) T.g_isinstance boot_isinstance (pa_cons (pv 1) (pa_cons (pe_glob (v := .ref T.c_UnknownName) (by rfl) T.m_UnknownName rfl) pa_nil))) pa_nil))))))
      (pss_cons (ps_set (i := 2) sc__law_error_of.nd rfl (by first | exact Or.inl rfl | exact Or.inr rfl) (pe_op (kADD (K := K) rfl) (pv 2) (pe_lst (pa_cons (pe_callB (call_isEX hEC hz hf) (by rfl) T.g_isinstance boot_isinstance (pa_cons (pv 1) (pa_cons (pe_glob (v := .ref T.c_NotEnough) (by rfl) T.m_NotEnough rfl) pa_nil))) (pa_cons (pe_callB (call_isEX hEC hz hf) (by rfl) T.g_isinstance boot_isinstance (pa_cons (pv 1) (pa_cons (pe_glob (v := .ref T.c_InvalidSign) (by rfl) T.m_InvalidSign rfl) pa_nil))) (pa_cons (pe_callB (call_isEX hEC hz hf) (by rfl) T.g_isinstance boot_isinstance (pa_cons (pv 1) (pa_cons (pe_glob (v := .ref T.c_InvalidRow) (by rfl) T.m_InvalidRow rfl) pa_nil))) pa_nil))))))
      (pss_cons (ps_set (i := 2) sc__law_error_of.nd rfl (by first | exact Or.inl rfl | exact Or.inr rfl) (pe_op (kADD (K := K) rfl) (pv 2) (pe_lst (pa_cons (pe_callB (call_isEX hEC hz hf) (by rfl) T.g_isinstance boot_isinstance (pa_cons (pv 1) (pa_cons (pe_glob (v := .ref T.c_InvalidText) (by rfl) T.m_InvalidText rfl) pa_nil))) (pa_cons (pe_callB (call_isEX hEC hz hf) (by rfl) T.g_isinstance boot_isinstance (pa_cons (pv 1) (pa_cons (pe_glob (v := .ref T.c_InvalidOffset) (by rfl) T.m_InvalidOffset rfl) pa_nil))) (pa_cons (pe_callB (call_isEX hEC hz hf) (by rfl) T.g_isinstance boot_isinstance (pa_cons (pv 1) (pa_cons (pe_glob (v := .ref T.c_InvalidMove) (by rfl) T.m_InvalidMove rfl) pa_nil))) pa_nil))))))
      (pss_cons (ps_set (i := 2) sc__law_error_of.nd rfl (by first | exact Or.inl rfl | exact Or.inr rfl) (pe_op (kADD (K := K) rfl) (pv 2) (pe_lst (pa_cons (pe_callB (call_isEX hEC hz hf) (by rfl) T.g_isinstance boot_isinstance (pa_cons (pv 1) (pa_cons (pe_glob (v := .ref T.c_Unreadable) (by rfl) T.m_Unreadable rfl) pa_nil))) (pa_cons (pe_callB (call_isEX hEC hz hf) (by rfl) T.g_isinstance boot_isinstance (pa_cons (pv 1) (pa_cons (pe_glob (v := .ref T.c_InvalidCode) (by rfl) T.m_InvalidCode rfl) pa_nil))) (pa_cons (pe_callB (call_isEX hEC hz hf) (by rfl) T.g_isinstance boot_isinstance (pa_cons (pv 1) (pa_cons (pe_glob (v := .ref T.c_InvalidOperation) (by rfl) T.m_InvalidOperation rfl) pa_nil))) pa_nil))))))
      (pss_cons (ps_if ((pw_or (pt_cmpR (kNE (K := K) rfl hu64) (pe_bmk (K := K) rfl PySem.F.plainAttrs_list PySem.F.slot_list_count PySem.F.type_list_count (kCNTF (K := K) rfl) (pv 2) (pa_cons pe_bl pa_nil)) pe_int (nomark _)) (pw_or1 (pt_not (pt_val (pe_callB (call_isEX hEC hz hf) (by rfl) T.g_isinstance boot_isinstance (pa_cons (pv 1) (pa_cons (pe_bltn (v := .ty "ValueError") (by rfl) T.g_ValueError (by decide +kernel) rfl) pa_nil)))))))).pt (pss_one (ps_ret (pe_tup (pa_cons pe_str (pa_cons pe_int pa_nil))))) pss_nil)
      (pss_cons (ps_set (i := 3) sc__law_error_of.nd rfl (by first | exact Or.inl rfl | exact Or.inr rfl) (pe_lst (pa_cons pe_str (pa_cons pe_str (pa_cons pe_str (pa_cons pe_str (pa_cons pe_str (pa_cons pe_str (pa_cons pe_str (pa_cons pe_str (pa_cons pe_str (pa_cons pe_str pa_nil))))))))))))
      (pss_cons (ps_set (i := 4) sc__law_error_of.nd rfl (by first | exact Or.inl rfl | exact Or.inr rfl) (pe_ix (kIX (K := K) rfl) (pe_op (kADD (K := K) rfl) (pv 3) (pe_lst (pa_cons pe_str (pa_cons pe_str (pa_cons pe_str (pa_cons pe_str (pa_cons pe_str pa_nil))))))) (pe_bmk (K := K) rfl PySem.F.plainAttrs_list PySem.F.slot_list_index PySem.F.type_list_index (kIDX (K := K) rfl) (pv 2) (pa_cons pe_bl pa_nil)) (fun _ _ => rfl)))
      (pss_cons (ps_if (pt_cmpR (kEQ (K := K) rfl hu64) (pv 4) pe_str (nomark _)) (pss_one (ps_ret (pe_tup (pa_cons (pv 4) (pa_cons (pe_tup (pa_cons pe_never (pa_cons (pe_xf T.xf_InvalidOffset T.nx_InvalidOffset_index hz hf (pv 1)) pa_nil))) pa_nil))))) pss_nil)
      (pss_cons (ps_if (pt_cmpR (kIN (K := K) rfl) (pv 4) (pe_lst (pa_cons pe_str (pa_cons pe_str (pa_cons pe_str (pa_cons pe_str pa_nil))))) (by with_unfolding_all rfl)) (pss_one (ps_ret (pe_tup (pa_cons (pv 4) (pa_cons (pe_xf T.xf_InvalidOffset T.nx_InvalidOffset_index hz hf (pv 1)) pa_nil))))) pss_nil)
      (pss_one (ps_ret (pe_tup (pa_cons (pv 4) (pa_cons (pe_ifExp (pt_cmpR (kEQ (K := K) rfl hu64) (pv 4) pe_str (nomark _)) pe_never (pe_ifExp (pt_cmpR (kIN (K := K) rfl) (pv 4) (pe_lst (pa_cons pe_str (pa_cons pe_str pa_nil))) (by with_unfolding_all rfl)) pe_never pe_int)) pa_nil))))))))))))))), ?_⟩
      intro F ms gs hd hr2
      walk_at "al"
      refine ae_lstF ?_
      walk_at "al"
      refine ac_isEX hd T.ki_InvalidOffset_InvalidStock ?_
      walk_at "al"
      refine ac_isEX hd T.ki_InvalidOffset_TooMany ?_
      walk_at "al"
      refine ac_isEX hd T.ki_InvalidOffset_InvalidCount ?_
      walk_at "al"
      refine ⟨by simp, fun F1 e1 => ?_⟩
      have hd := e1 _ _ hd
      have hr2 := hr2.mono e1
      walk_at "al"
      refine ae_lstF ?_
      walk_at "al"
      refine ac_isEX hd T.ki_InvalidOffset_Contradiction ?_
      walk_at "al"
      refine ac_isEX hd T.ki_InvalidOffset_InvalidName ?_
      walk_at "al"
      refine ac_isEX hd T.ki_InvalidOffset_UnknownName ?_
      walk_at "al"
      refine ⟨by simp, fun F2 e2 => ?_⟩
      have hd := e2 _ _ hd
      have hr2 := hr2.mono e2
      refine ar_ADDl (by simp) fun F3 e3 => ?_
      have hd := e3 _ _ hd
      have hr2 := hr2.mono e3
      walk_at "al"
      refine ae_lstF ?_
      walk_at "al"
      refine ac_isEX hd T.ki_InvalidOffset_NotEnough ?_
      walk_at "al"
      refine ac_isEX hd T.ki_InvalidOffset_InvalidSign ?_
      walk_at "al"
      refine ac_isEX hd T.ki_InvalidOffset_InvalidRow ?_
      walk_at "al"
      refine ⟨by simp, fun F4 e4 => ?_⟩
      have hd := e4 _ _ hd
      have hr2 := hr2.mono e4
      refine ar_ADDl (by simp) fun F5 e5 => ?_
      have hd := e5 _ _ hd
      have hr2 := hr2.mono e5
      walk_at "al"
      refine ae_lstF ?_
      walk_at "al"
      refine ac_isEX hd T.ki_InvalidOffset_InvalidText ?_
      walk_at "al"
      refine ac_isEX hd T.ki_InvalidOffset_InvalidOffset ?_
      walk_at "al"
      refine ac_isEX hd T.ki_InvalidOffset_InvalidMove ?_
      walk_at "al"
      refine ⟨by simp, fun F6 e6 => ?_⟩
      have hd := e6 _ _ hd
      have hr2 := hr2.mono e6
      refine ar_ADDl (by simp) fun F7 e7 => ?_
      have hd := e7 _ _ hd
      have hr2 := hr2.mono e7
      walk_at "al"
      refine ae_lstF ?_
      walk_at "al"
      refine ac_isEX hd T.ki_InvalidOffset_Unreadable ?_
      walk_at "al"
      refine ac_isEX hd T.ki_InvalidOffset_InvalidCode ?_
      walk_at "al"
      refine ac_isEX hd T.ki_InvalidOffset_InvalidOperation ?_
      walk_at "al"
      refine ⟨by simp, fun F8 e8 => ?_⟩
      have hd := e8 _ _ hd
      have hr2 := hr2.mono e8
      refine ar_ADDl (by simp) fun F9 e9 => ?_
      have hd := e9 _ _ hd
      have hr2 := hr2.mono e9
      refine as_norm (S' := [_, _, some (.lst ([false, false, false, false, false, false, false, false, false, false, true, false, false, false, false].map D.bl)), _, _]) rfl ?_
      walk_at "al"
      refine ae_bmL ?_
      walk_at "al"
      refine ⟨_, .inl (.inl rfl), ?_⟩
      walk_at "al"
      refine am_countB (bs := [false, false, false, false, false, false, false, false, false, false, true, false, false, false, false]) (.inl (.inl rfl)) ?_
      walk_at "al"
      refine and_ndT' ?_ ?_
      · decide
      walk_at "al"
      refine ac_isEXt hd T.kv_InvalidOffset ?_
      walk_at "al"
      refine ae_lstF ?_
      walk_at "al"
      refine ⟨by simp, fun F10 e10 => ?_⟩
      have hd := e10 _ _ hd
      have hr2 := hr2.mono e10
      walk_at "al"
      refine ae_lstF ?_
      walk_at "al"
      refine ⟨by simp, fun F11 e11 => ?_⟩
      have hd := e11 _ _ hd
      have hr2 := hr2.mono e11
      refine ar_ADDl (by simp) fun F12 e12 => ?_
      have hd := e12 _ _ hd
      have hr2 := hr2.mono e12
      walk_at "al"
      refine ae_bmL ?_
      walk_at "al"
      refine ⟨_, .inl (.inl rfl), ?_⟩
      walk_at "al"
      refine am_indexB (bs := [false, false, false, false, false, false, false, false, false, false, true, false, false, false, false]) (j := 10) (.inl (.inl rfl)) rfl (by decide) ?_
      refine ar_ixL (d := .str "offset") rfl ?_
      walk_at "al"
      refine and_dF ?_ ?_
      · decide
      walk_at "al"
      refine ae_lstF ?_
      walk_at "al"
      refine ⟨by simp, fun F13 e13 => ?_⟩
      have hd := e13 _ _ hd
      have hr2 := hr2.mono e13
      refine ar_INl (xs := ["row", "text", "offset", "move"]) (.inl (.inl (.inl rfl))) ?_
      walk_at "al"
      refine and_dT ?_ ?_
      · decide
      walk_at "al"
      refine ae_tup ?_
      walk_at "al"
      refine ae_xf (fs := [("index", .int i)]) (gs := gs) (d := .int i) ?_
      walk_at "al"
      refine ⟨rfl, hd, hr2, rfl, ?_⟩
      walk_at "al"
      exact ⟨by simp, fun F99 e99 => ⟨rfl, rfl⟩⟩
theorem ok__law_all_raise (T : Txt K mg) {X : Cx} {P : Program} {w : World} {base : Heap} (hK : X.K = K) (σ : L2.St) (G__law_error_of : FnOk P w K mg base CX0 10 T.a__law_error_of T.d__law_error_of ["_law_call"] (toSp K (spErr K X 8 (errR T) σ))) :
    FnOk P w K mg base CX0 11 T.a__law_all_raise T.d__law_all_raise ["_law_calls", "_law_expected"] (toSp K (spAll K X 8 (errR T) σ)) := by
  refine fn_ok T.F__law_all_raise sc__law_all_raise (by rintro _ _ _ _ _ ⟨d, ex, fs, J, rfl, _⟩; rfl) (fun cdv A outer s H E hr => ?_)
  have hu64 := hr.units
  refine ⟨_, (pss_one (ps_ret (pe_cmpR (kEQ (K := K) rfl hu64) (pe_lc rfl sc__law_all_raise.nd (pi_listk (K := K) rfl (pv 0)) (own := [("_law_call", 2)]) (@BlkOk.mk N__law_all_raise (defScope s__law_all_raise) _ _ rfl (by decide +kernel) (by decide +kernel) (by decide +kernel) (by decide +kernel)) (fun _ _ _ _ _ => (pg_name (i := 2) sc__law_all_raise.nd rfl (by first | exact Or.inl rfl | exact Or.inr rfl))) (fun _ _ _ _ _ => (pts_one (pt_cmpR (kNE (K := K) rfl hu64) (pe_call G__law_error_of (hr.mono (by first | decide | omega)) (by rfl) T.m__law_error_of T.F__law_error_of.kp T.b__law_error_of .nil pass0 (pa_cons (pv 2) pa_nil)) (pv 1) (nomark _)))) (fun _ _ _ _ _ => (pv 2))) (pe_lst pa_nil) (nomark _)))), ?_⟩
  rintro _ F ms Q Ea ⟨d, ex, fs, J, rfl, hfl, hex, hdx, hlst, hJ, hJx, herr, q⟩
  walk_at "al"
  refine ae_lc (gw_name (by simp)) gm_name ?_
  refine ai_list ?_
  walk_at "al"
  rcases hlst F ms Ex.refl hJ with hfro | ⟨n0, l0, rfl, hn0⟩
  · refine .inl ⟨_, hfro, fun i F' ms' acc => J F' ms' ∧ acc = [], ⟨hJ, rfl⟩, fun _ _ _ _ _ _ => trivial, ?_, ?_⟩
    · rintro i d2 F2 ms2 acc e2 hd ⟨hJ2, rfl⟩ F3 e3
      obtain ⟨f, hf, rfl⟩ : ∃ f, f ∈ fs ∧ d2 = .ref f := by
        obtain ⟨f, hf, e⟩ := List.mem_map.mp (List.mem_of_getElem? hd)
        exact ⟨f, hf, e.symm⟩
      refine ag_name ?_
      walk_at "al"
      refine spErr_mono (herr f hf F3 ms2 (e2.trans e3) (hJx _ _ _ e2 e3 hJ2)) fun F4 ms4 d4 e4 ⟨h4, hJ4⟩ => ?_
      subst h4
      walk_at "al"
      refine ar_NEd hex hex (by omega) (by omega) ?_
      rw [eqv_self _ hex]
      walk_at "al"
      exact ⟨hJ4, rfl⟩
    · rintro F2 ms2 acc e2 ⟨hJ2, rfl⟩ F3 e3
      walk_at "al"
      refine ae_lstF ?_
      walk_at "al"
      refine ⟨by simp, fun F4 e4 => ?_⟩
      refine ar_EQd (d := .lst []) (e := .lst []) rfl rfl (Nat.le_of_ble_eq_true rfl) (Nat.le_of_ble_eq_true rfl) ?_
      exact q F4 ms2 (e2.trans (e3.trans e4)) (hJx _ _ _ e2 (e3.trans e4) hJ2)
  · refine .inr ⟨n0, l0, _, rfl, hn0, fun i F' ms' acc => J F' ms' ∧ acc = [], ⟨hJ, rfl⟩, fun i F' ms' acc e hj => ?_, ?_, ?_⟩
    · rcases hlst F' ms' e hj.1 with h | ⟨n1, l1, h, hn1⟩
      · rcases h with h | h <;> cases h
      · cases h
        exact ⟨n1, hn1⟩
    · rintro i d2 F2 ms2 acc e2 hd ⟨hJ2, rfl⟩ F3 e3
      obtain ⟨f, hf, rfl⟩ : ∃ f, f ∈ fs ∧ d2 = .ref f := by
        obtain ⟨f, hf, e⟩ := List.mem_map.mp (List.mem_of_getElem? hd)
        exact ⟨f, hf, e.symm⟩
      refine ag_name ?_
      walk_at "al"
      refine spErr_mono (herr f hf F3 ms2 (e2.trans e3) (hJx _ _ _ e2 e3 hJ2)) fun F4 ms4 d4 e4 ⟨h4, hJ4⟩ => ?_
      subst h4
      walk_at "al"
      refine ar_NEd hex hex (by omega) (by omega) ?_
      rw [eqv_self _ hex]
      walk_at "al"
      exact ⟨hJ4, rfl⟩
    · rintro F2 ms2 acc e2 ⟨hJ2, rfl⟩ F3 e3
      walk_at "al"
      refine ae_lstF ?_
      walk_at "al"
      refine ⟨by simp, fun F4 e4 => ?_⟩
      refine ar_EQd (d := .lst []) (e := .lst []) rfl rfl (Nat.le_of_ble_eq_true rfl) (Nat.le_of_ble_eq_true rfl) ?_
      exact q F4 ms2 (e2.trans (e3.trans e4)) (hJx _ _ _ e2 (e3.trans e4) hJ2)
end

def MB (l P : Addr) (R0 : Ms) (st : List D) (tb : Array Value) : Ms := (l, .lst st) :: (P, .raw (.tbl tb)) :: R0
section
variable {l P : Addr} {R0 E : Ms} {st st' : List D} {tb tb' : Array Value}
theorem mb_l : (E ++ MB l P R0 st tb)[E.length]? = some (l, .lst st) := app_at 0
theorem mb_P : (E ++ MB l P R0 st tb)[E.length + 1]? = some (P, .raw (.tbl tb)) := app_at 1
theorem mb_setl : (E ++ MB l P R0 st tb).set E.length (l, .lst st') = E ++ MB l P R0 st' tb := app_set (c := 0)
theorem mb_setP : (E ++ MB l P R0 st tb).set (E.length + 1) (P, .raw (.tbl tb')) = E ++ MB l P R0 st tb' := app_set (c := 1)
theorem tab_of {F : Hp} {q : Str} {ms : Ms} (h : LamY.TabK F tb q) (e : ms = E ++ MB l P R0 st tb) : TabA F ms (E.length + 1) P q := ⟨tb, by rw [e]; exact mb_P, h⟩
theorem tab_back {F : Hp} {q : Str} (h : TabA F (E ++ MB l P R0 st tb) (E.length + 1) P q) : LamY.TabK F tb q := by
  obtain ⟨tb3, h1, h2⟩ := h
  rw [mb_P] at h1
  injection h1 with h1
  injection h1 with _ h1
  injection h1 with h1
  injection h1 with h1
  exact h1 ▸ h2
end
theorem tabK_ex {F F' : Hp} {tb : Array Value} {q : Str} (e : Ex F F') (h : LamY.TabK F tb q) : LamY.TabK F' tb q := ⟨h.1, fun pos cv hc => by obtain ⟨c, h1, h2⟩ := h.2 pos cv hc; exact ⟨c, h1, e _ _ h2⟩⟩
theorem as_ms {Γ : Cg} {ts : TS} {F : Hp} {ms ms' : Ms} {S : Sg} {A : AEnds} (e : ms = ms') (h : AS Γ ts F ms' S A) : AS Γ ts F ms S A := e ▸ h
theorem cutL_take {α : Type} {xs : List α} {p : Nat} (h : p ≤ xs.length) : cutL xs none (some (p : Int)) = xs.take p := by
  unfold cutL
  show (xs.drop 0).take (HT.sIx xs.length xs.length (some (p : Int)) - 0) = _
  rw [HT.sIx_nat, List.drop_zero, Nat.sub_zero, Nat.min_eq_left h]
theorem cutL_drop {α : Type} {xs : List α} {p : Nat} (h : p ≤ xs.length) : cutL xs (some (p : Int)) none = xs.drop p := by
  unfold cutL
  rw [HT.sIx_nat, HT.sIx_none, Nat.min_eq_left h, List.take_of_length_le (by rw [List.length_drop]; exact Nat.le_refl _)]
def BADX (wd : Int) : List D := [.str "", .str " A", .str "A ", .str "a", .str "A!", .str (mulS ("A" : Str) (wd + 1)), .non, .int 5, .tup [.str "A"], .str " "]
theorem badx_at {wd r : Int} (h2 : 2 ≤ wd) (h6 : wd ≤ 6) (h0 : 0 ≤ r) (h1 : r < 10) : ∃ d, atI (BADX wd) r = some d ∧ kd d ∧ textB wd d = false ∧ okD d = true ∧ dep d ≤ 1 := by
  have hw : wd = 2 ∨ wd = 3 ∨ wd = 4 ∨ wd = 5 ∨ wd = 6 := by omega
  obtain rfl | rfl | rfl | rfl | rfl | rfl | rfl | rfl | rfl | rfl : r = 0 ∨ r = 1 ∨ r = 2 ∨ r = 3 ∨ r = 4 ∨ r = 5 ∨ r = 6 ∨ r = 7 ∨ r = 8 ∨ r = 9 := by omega
  · exact ⟨_, rfl, .inr (.inr (.inr (.inl ⟨_, rfl, by decide +kernel⟩))), by rcases hw with rfl | rfl | rfl | rfl | rfl <;> decide +kernel, by decide +kernel, by decide +kernel⟩
  · exact ⟨_, rfl, .inr (.inr (.inr (.inl ⟨_, rfl, by decide +kernel⟩))), by rcases hw with rfl | rfl | rfl | rfl | rfl <;> decide +kernel, by decide +kernel, by decide +kernel⟩
  · exact ⟨_, rfl, .inr (.inr (.inr (.inl ⟨_, rfl, by decide +kernel⟩))), by rcases hw with rfl | rfl | rfl | rfl | rfl <;> decide +kernel, by decide +kernel, by decide +kernel⟩
  · exact ⟨_, rfl, .inr (.inr (.inr (.inl ⟨_, rfl, by decide +kernel⟩))), by rcases hw with rfl | rfl | rfl | rfl | rfl <;> decide +kernel, by decide +kernel, by decide +kernel⟩
  · exact ⟨_, rfl, .inr (.inr (.inr (.inl ⟨_, rfl, by decide +kernel⟩))), by rcases hw with rfl | rfl | rfl | rfl | rfl <;> decide +kernel, by decide +kernel, by decide +kernel⟩
  · exact ⟨_, rfl, .inr (.inr (.inr (.inl ⟨_, rfl, by rcases hw with rfl | rfl | rfl | rfl | rfl <;> decide +kernel⟩))), by rcases hw with rfl | rfl | rfl | rfl | rfl <;> decide +kernel, by rcases hw with rfl | rfl | rfl | rfl | rfl <;> decide +kernel, Nat.zero_le _⟩
  · exact ⟨_, rfl, .inl rfl, by rcases hw with rfl | rfl | rfl | rfl | rfl <;> decide +kernel, by decide +kernel, by decide +kernel⟩
  · exact ⟨_, rfl, .inr (.inr (.inl ⟨_, rfl⟩)), by rcases hw with rfl | rfl | rfl | rfl | rfl <;> decide +kernel, by decide +kernel, by decide +kernel⟩
  · exact ⟨_, rfl, .inr (.inr (.inr (.inr (.inl ⟨_, rfl⟩)))), by rcases hw with rfl | rfl | rfl | rfl | rfl <;> decide +kernel, by decide +kernel, by decide +kernel⟩
  · exact ⟨_, rfl, .inr (.inr (.inr (.inl ⟨_, rfl, by decide +kernel⟩))), by rcases hw with rfl | rfl | rfl | rfl | rfl <;> decide +kernel, by decide +kernel, by decide +kernel⟩
theorem strs_dep (ts : List Str) : depL (ts.map D.str) = 0 := by
  induction ts with
  | nil => rfl
  | cons t ts ih => show max 0 (depL (ts.map D.str)) = 0; rw [ih]; rfl
theorem bad_mid {wd : Int} {ts : List Str} {p : Nat} {b : D} (hp : p ≤ ts.length) (h4 : ts.length ≤ 4) (ht : ∀ t ∈ ts, textOk wd t) (kb : kd b) (hb : textB wd b = false) (ob : okD b = true) (db : dep b ≤ 1) :
    badT wd (.tup ((cutL (ts.map D.str) none (some (p : Int)) ++ [b, .non]) ++ cutL (ts.map D.str) (some (p : Int)) none)) (p : Int) := by
  have hl : p ≤ (ts.map D.str).length := by rw [List.length_map]; exact hp
  have e : (cutL (ts.map D.str) none (some (p : Int)) ++ [b, .non]) ++ cutL (ts.map D.str) (some (p : Int)) none = (ts.take p).map D.str ++ b :: (.non :: (ts.drop p).map D.str) := by
    rw [cutL_take hl, cutL_drop hl, List.map_take, List.map_drop, List.append_assoc]
    rfl
  rw [e]
  have hk : ∀ t ∈ ts.take p, textOk wd t := fun t h => ht t (List.mem_of_mem_take h)
  have hd : ∀ t ∈ ts.drop p, textOk wd t := fun t h => ht t (List.mem_of_mem_drop h)
  refine .inr ⟨ts.take p, b, _, rfl, by rw [List.length_take, Nat.min_eq_left hp], by rw [List.length_take]; omega, by rw [List.length_cons, List.length_map, List.length_drop]; omega, hk, kb, ?_, ?_, .inr hb⟩
  · show okL _ = true
    rw [okL_app, (strs_ok hk).1]
    show (true && (okD b && (true && okL ((ts.drop p).map D.str)))) = true
    rw [ob, (strs_ok hd).1]
    rfl
  · show depL _ + 1 ≤ 64
    rw [depL_app, strs_dep]
    show max 0 (max (dep b) (max 0 (depL ((ts.drop p).map D.str)))) + 1 ≤ 64
    rw [strs_dep]
    omega
theorem all_texts {wd : Int} {ts : List Str} (ht : ∀ t ∈ ts, textOk wd t) (n : Nat) : ∃ us : List Str, (List.replicate n (ts.map D.str)).flatten = us.map D.str ∧ us.length = n * ts.length ∧ ∀ t ∈ us, textOk wd t := by
  refine ⟨(List.replicate n ts).flatten, ?_, by simp, fun t h => ?_⟩
  · rw [List.map_flatten, List.map_replicate]
  · obtain ⟨l, hl, h⟩ := List.mem_flatten.mp h
    exact ht t ((List.mem_replicate.mp hl).2 ▸ h)
theorem bad_long {wd : Int} {ts : List Str} (h1 : 1 ≤ ts.length) (hw : wd ≤ 24) (ht : ∀ t ∈ ts, textOk wd t) : badT wd (.tup (cutL (List.replicate (13 : Int).toNat (ts.map D.str)).flatten none (some (13 : Int)) ++ [.str "!"])) 12 := by
  obtain ⟨us, hus, hul, huk⟩ := all_texts ht (13 : Int).toNat
  have h13 : 13 ≤ us.length := by
    rw [hul]
    show 13 ≤ 13 * ts.length
    omega
  rw [hus, show (13 : Int) = ((13 : Nat) : Int) from rfl, cutL_take (by rw [List.length_map]; exact h13), ← List.map_take]
  have e : us.take 13 = us.take 12 ++ [us[12]] := by rw [List.take_succ, List.getElem?_eq_getElem (by omega)]; rfl
  rw [e, List.map_append, List.append_assoc]
  have hk : ∀ t ∈ us.take 12, textOk wd t := fun t h => huk t (List.mem_of_mem_take h)
  have hx : textOk wd us[12] := huk _ (List.getElem_mem _)
  have hx1 : okD (.str us[12]) = true := by
    have := (strs_ok (ts := [us[12]]) (fun t h => by rw [List.mem_singleton.mp h]; exact hx)).1
    have t : (okD (.str us[12]) && true) = true := this
    rw [Bool.and_true] at t
    exact t
  have hl : (us.take 12).length = 12 := by rw [List.length_take]; omega
  refine .inr ⟨us.take 12, .str us[12], [.str "!"], rfl, by rw [hl]; rfl, by omega, by decide +kernel, hk, kd_str hx hw, ?_, ?_, .inl hl⟩
  · show okL _ = true
    rw [okL_app, (strs_ok hk).1]
    show (true && (okD (.str us[12]) && (okD (.str "!") && true))) = true
    rw [hx1, show okD (.str "!") = true by decide +kernel]
    rfl
  · show depL _ + 1 ≤ 64
    rw [depL_app, strs_dep]
    exact Nat.le_of_ble_eq_true rfl
def ZER (ts : List Str) : List D := [.non, .tup [], .lst (ts.map D.str), .str "A", .int 5]
theorem zer_at {wd r : Int} {ts : List Str} (h0 : 0 ≤ r) (h1 : r < 5) : ∃ d, atI (ZER ts) r = some d ∧ badT wd d 0 := by
  obtain rfl | rfl | rfl | rfl | rfl : r = 0 ∨ r = 1 ∨ r = 2 ∨ r = 3 ∨ r = 4 := by omega
  · exact ⟨_, rfl, .inl ⟨.inl rfl, rfl⟩⟩
  · exact ⟨_, rfl, .inl ⟨.inr (.inr (.inr (.inr (.inr rfl)))), rfl⟩⟩
  · exact ⟨_, rfl, .inl ⟨.inr (.inr (.inr (.inr (.inl ⟨_, rfl⟩)))), rfl⟩⟩
  · exact ⟨_, rfl, .inl ⟨.inr (.inr (.inr (.inl ⟨_, rfl⟩))), rfl⟩⟩
  · exact ⟨_, rfl, .inl ⟨.inr (.inr (.inl ⟨_, rfl⟩)), rfl⟩⟩
/-! the offsets -/
def ofs (wd : Int) (ts : List Str) : List Int := ts.map fun t => wd - (t.length : Int)
theorem ofs_len {wd : Int} {ts : List Str} : (ofs wd ts).length = ts.length := List.length_map ..
theorem ofs_at {wd : Int} {ts : List Str} {i : Nat} {t : Str} {o : Int} (h1 : ts[i]? = some t) (h2 : (ofs wd ts)[i]? = some o) : o = wd - (t.length : Int) := by
  unfold ofs at h2
  rw [List.getElem?_map, h1] at h2
  exact (Option.some.inj h2).symm
theorem ofs_ok {wd : Int} {ts : List Str} (ht : ∀ t ∈ ts, textOk wd t) : okOff wd ts (ofs wd ts) := ⟨ofs_len, fun i t o h1 h2 => by
  have e := ofs_at h1 h2
  have := (ht t (List.mem_of_getElem? h1)).2.1
  omega⟩
def ODX : List D := [.int (0 - 1), .non, .bl true, .str "0", .tup [.int 0]]
theorem odx_at {r : Int} (h0 : 0 ≤ r) (h1 : r < 5) : ∃ d, atI ODX r = some d ∧ kd d ∧ ∀ hi, intIn d 0 hi = false := by
  obtain rfl | rfl | rfl | rfl | rfl : r = 0 ∨ r = 1 ∨ r = 2 ∨ r = 3 ∨ r = 4 := by omega
  · exact ⟨_, rfl, .inr (.inr (.inl ⟨_, rfl⟩)), fun _ => rfl⟩
  · exact ⟨_, rfl, .inl rfl, fun _ => rfl⟩
  · exact ⟨_, rfl, .inr (.inl ⟨_, rfl⟩), fun _ => rfl⟩
  · exact ⟨_, rfl, .inr (.inr (.inr (.inl ⟨_, rfl, by decide +kernel⟩))), fun _ => rfl⟩
  · exact ⟨_, rfl, .inr (.inr (.inr (.inr (.inl ⟨_, rfl⟩)))), fun _ => rfl⟩
def OC0 (wd : Int) (ts : List Str) (p : Nat) (od : D) : D := .tup [.tup (cutL ((ofs wd ts).map D.int) none (some (p : Int)) ++ [od, .non]), .int (p : Int)]
def OC4 (wd : Int) (ts : List Str) (p : Nat) (od : D) : List D :=
  [OC0 wd ts p od, .tup [.tup (cutL ((ofs wd ts).map D.int) none (some (p : Int))), .int (p : Int)],
    .tup [.tup ((ofs wd ts).map D.int ++ [.int 0]), .int (ts.length : Int)], .tup [.non, .int 0]]
def OCAS (wd : Int) (ts : List Str) (p : Nat) (od : D) : List D := OC4 wd ts p od ++ [.tup [.lst ((ofs wd ts).map D.int), .int 0], OC0 wd ts p od, OC0 wd ts p od]
theorem ocas_at {wd r : Int} {ts : List Str} {p : Nat} {od : D} (hp : p < ts.length) (h4 : ts.length ≤ 4) (ht : ∀ t ∈ ts, textOk wd t) (ko : kd od) (ho : ∀ t, ts[p]? = some t → intIn od 0 (wd - (t.length : Int)) = false) (h0 : 0 ≤ r) (h1 : r < 7) :
    ∃ (d : D) (i : Int), atI (OCAS wd ts p od) r = some (.tup [d, .int i]) ∧ badO wd ts d i := by
  have hl : p ≤ ((ofs wd ts).map D.int).length := by rw [List.length_map, ofs_len]; omega
  have hok := (ofs_ok ht).2
  have hlen : ((ofs wd ts).take p).length = p := by rw [List.length_take, ofs_len]; omega
  have htk : ∀ (i : Nat) (t : Str) (o : Int), ts[i]? = some t → ((ofs wd ts).take p)[i]? = some o → 0 ≤ o ∧ o + (t.length : Int) ≤ wd := fun i t o a b => by
    refine hok i t o a ?_
    by_cases h : i < p
    · rw [List.getElem?_take_of_lt h] at b; exact b
    · rw [List.getElem?_eq_none (by omega)] at b; cases b
  have c0 : badO wd ts (.tup (cutL ((ofs wd ts).map D.int) none (some (p : Int)) ++ [od, .non])) (p : Int) := by
    rw [cutL_take hl, ← List.map_take]
    exact .inr ⟨(ofs wd ts).take p, [od, .non], rfl, by rw [hlen], by omega, Nat.le_of_ble_eq_true rfl, htk, .inr ⟨od, _, rfl, ko, fun t h => ho t (by rw [hlen] at h; exact h)⟩⟩
  obtain rfl | rfl | rfl | rfl | rfl | rfl | rfl : r = 0 ∨ r = 1 ∨ r = 2 ∨ r = 3 ∨ r = 4 ∨ r = 5 ∨ r = 6 := by omega
  · exact ⟨_, _, rfl, c0⟩
  · refine ⟨_, _, rfl, ?_⟩
    rw [cutL_take hl, ← List.map_take]
    exact .inr ⟨(ofs wd ts).take p, [], by rw [List.append_nil], by rw [hlen], by omega, by simp, htk, .inl ⟨rfl, by omega⟩⟩
  · exact ⟨_, _, rfl, .inr ⟨ofs wd ts, [.int 0], rfl, by rw [ofs_len], by rw [ofs_len]; exact Nat.le_refl _, by simp, hok, .inr ⟨_, _, rfl, .inr (.inr (.inl ⟨_, rfl⟩)), fun t h => by
      rw [ofs_len, List.getElem?_eq_none (Nat.le_refl _)] at h; cases h⟩⟩⟩
  · exact ⟨_, _, rfl, .inl ⟨.inl rfl, rfl⟩⟩
  · exact ⟨_, _, rfl, .inl ⟨.inr ⟨_, rfl⟩, rfl⟩⟩
  · exact ⟨_, _, rfl, c0⟩
  · exact ⟨_, _, rfl, c0⟩
def MWP : List Pr := [(77, 87)]
theorem mw_map : MWP.map pD = [.str "MW"] := by
  show [D.str (pS (77, 87))] = _
  rw [show pS (77, 87) = Str.ofString "MW" by decide +kernel]
theorem mw_ok : (∀ c ∈ flat MWP, inL c) ∧ (flat MWP).Nodup := ⟨by unfold inL; decide +kernel, by decide +kernel⟩
theorem sgn_l {C : Addr} {E : Ms} {x : Addr} {w : Int} {ps : List Pr} (h : Sgn C E x w ps) {R : Ms} : Sgn C (E ++ R) x w ps := by
  obtain ⟨i, j, m, hi, hj⟩ := h
  exact ⟨i, j, m, get_app hi, get_app hj⟩
theorem sgn_pre {C : Addr} {ms J : Ms} {x : Addr} {w : Int} {ps : List Pr} (h : Sgn C ms x w ps) : Sgn C (J ++ ms) x w ps := by
  obtain ⟨i, j, m, hi, hj⟩ := h
  exact ⟨J.length + i, J.length + j, m, by rw [List.getElem?_append_right (Nat.le_add_right ..), Nat.add_sub_cancel_left]; exact hi, by rw [List.getElem?_append_right (Nat.le_add_right ..), Nat.add_sub_cancel_left]; exact hj⟩
theorem okT (z : Str) (hz : PyData.strOk z = true) (i : Int) : okD (.tup [.str z, .int i]) = true := by
  show (PyData.strOk z && (true && true)) = true
  rw [hz]; rfl
theorem abmwL : ∀ c ∈ ("ABMW" : Str).cps.toList, inL c := by
  rw [show ("ABMW" : Str).cps.toList = [65, 66, 77, 87] by decide +kernel]
  unfold inL
  decide +kernel
section
variable {P : Program} {w : World} {K : Frg} {mg : Str → Option Value} {base : Heap}
theorem ok_law (T : Txt K mg) (G_Sign___init__ : OK_Sign___init__ P w base T) (G_Watcher___init__ : OK_Watcher___init__ P w base T) (G_fixed_cost : OK_fixed_cost P w base T) (G_season_cost : OK_season_cost P w base T) (G_best_offsets : OK_best_offsets P w base T) (G_count_best : OK_count_best P w base T) (G_needed_letters : OK_needed_letters P w base T) (G_missing_letters : OK_missing_letters P w base T) (G_best_order : OK_best_order P w base T) (G_needless_pairs : OK_needless_pairs P w base T) (G_format_season : OK_format_season P w base T) (G_encode : OK_encode P w base T) (G__law_random : OK__law_random P w base T) (G__law_below : OK__law_below P w base T) (G__law_texts : OK__law_texts P w base T) : OK_law P w base T := fun TB => by
  refine fn_okC T.FC_law sc_law (by rintro _ _ _ _ _ ⟨ns, rfl, _⟩; rfl) (fun A outer s H E hr => ?_)
  have hu64 := hr.units
  have GA : ∀ (bB : Heap) (bA : Around) (bO : List Env) (cdv : Value), _ := fun bB bA bO cdv => ge_all T (.ref T.cc_law) A outer s H E bB bA bO LQ cdv (P := P) (w := w) (base := base)
  have GE : ∀ cdv : Value, LamY.Gives3 (cxOf CX0 P w K mg base N_law "law" (defScope s_law) T.a_law (.ref T.cc_law) A outer s H E).nox N__law_error_of "_law_error_of" (defScope s__law_error_of) T.a__law_error_of cdv (defBody s__law_error_of) "_law_call" LQ (TTX K (errR T)) 8 := fun cdv => GA base (cxOf CX0 P w K mg base N_law "law" (defScope s_law) T.a_law (.ref T.cc_law) A outer s H E).A (cxOf CX0 P w K mg base N_law "law" (defScope s_law) T.a_law (.ref T.cc_law) A outer s H E).stack cdv
  refine ⟨_, (pss_cons (ps_set (i := 1) sc_law.nd rfl (by first | exact Or.inl rfl | exact Or.inr rfl) (pe_call G__law_random (hr.mono (by first | decide | omega)) (by rfl) T.m__law_random T.F__law_random.kp T.b__law_random .nil pass0 (pa_cons (pv 0) (pa_cons pe_int pa_nil))))
      (pss_cons (ps_set (i := 2) sc_law.nd rfl (by first | exact Or.inl rfl | exact Or.inr rfl) (pe_op (kADD (K := K) rfl) pe_int (pe_call G__law_below (hr.mono (by first | decide | omega)) (by rfl) T.m__law_below T.F__law_below.kp T.b__law_below .nil pass0 (pa_cons (pv 1) (pa_cons pe_int pa_nil)))))
      (pss_cons (ps_asg (pe_tup (pa_cons (pe_make T.M_Sign G_Sign___init__ (hr.mono (by first | decide | omega)) (by rfl) T.m_Sign T.b_Sign___init__ .nil pass0 (pa_cons (pv 2) (pa_cons (pe_tup (pa_cons pe_str pa_nil)) pa_nil))) (pa_cons (pe_call G__law_texts (hr.mono (by first | decide | omega)) (by rfl) T.m__law_texts T.F__law_texts.kp T.b__law_texts .nil pass0 (pa_cons (pv 1) (pa_cons pe_int (pa_cons (pv 2) (pa_cons pe_str pa_nil))))) pa_nil))) (pg_tupk (K := K) (n := 2) rfl rfl (pgs_cons (pg_name (i := 3) sc_law.nd rfl (by first | exact Or.inl rfl | exact Or.inr rfl)) (pgs_cons (pg_name (i := 4) sc_law.nd rfl (by first | exact Or.inl rfl | exact Or.inr rfl)) pgs_nil))))
      (pss_cons (ps_set (i := 5) sc_law.nd rfl (by first | exact Or.inl rfl | exact Or.inr rfl) (pe_call G__law_below (hr.mono (by first | decide | omega)) (by rfl) T.m__law_below T.F__law_below.kp T.b__law_below .nil pass0 (pa_cons (pv 1) (pa_cons (pe_op (kADD (K := K) rfl) (pe_callB (kLEN (K := K) rfl) (by rfl) T.g_len boot_len (pa_cons (pv 4) pa_nil)) pe_int) pa_nil))))
      (pss_cons (ps_set (i := 6) sc_law.nd rfl (by first | exact Or.inl rfl | exact Or.inr rfl) (pe_ix (kIX (K := K) rfl) (pe_lst (pa_cons pe_str (pa_cons pe_str (pa_cons pe_str (pa_cons pe_str (pa_cons pe_str (pa_cons (pe_op (kMUL (K := K) rfl) pe_str (pe_op (kADD (K := K) rfl) (pv 2) pe_int)) (pa_cons pe_non (pa_cons pe_int (pa_cons (pe_tup (pa_cons pe_str pa_nil)) (pa_cons pe_str pa_nil))))))))))) (pe_call G__law_below (hr.mono (by first | decide | omega)) (by rfl) T.m__law_below T.F__law_below.kp T.b__law_below .nil pass0 (pa_cons (pv 1) (pa_cons pe_int pa_nil))) (fun _ _ => rfl)))
      (pss_cons (ps_asg (pe_tup (pa_cons (pe_op (kADD (K := K) rfl) (pe_op (kADD (K := K) rfl) (pe_slice (kSLC (K := K) rfl) (pv 4) po_none (po_some (pv 5))) (pe_tup (pa_cons (pv 6) (pa_cons pe_non pa_nil)))) (pe_slice (kSLC (K := K) rfl) (pv 4) (po_some (pv 5)) po_none)) (pa_cons (pv 5) pa_nil))) (pg_tupk (K := K) (n := 2) rfl rfl (pgs_cons (pg_name (i := 7) sc_law.nd rfl (by first | exact Or.inl rfl | exact Or.inr rfl)) (pgs_cons (pg_name (i := 8) sc_law.nd rfl (by first | exact Or.inl rfl | exact Or.inr rfl)) pgs_nil))))
      (pss_cons (ps_set (i := 9) sc_law.nd rfl (by first | exact Or.inl rfl | exact Or.inr rfl) (pe_call G__law_below (hr.mono (by first | decide | omega)) (by rfl) T.m__law_below T.F__law_below.kp T.b__law_below .nil pass0 (pa_cons (pv 1) (pa_cons pe_int pa_nil))))
      (pss_cons (ps_if (pt_cmpR (kEQ (K := K) rfl hu64) (pv 9) pe_int (nomark _)) (pss_one (ps_asg (pe_tup (pa_cons (pe_ix (kIX (K := K) rfl) (pe_lst (pa_cons pe_non (pa_cons (pe_tup pa_nil) (pa_cons (pe_callTy (kLIST (K := K) rfl rfl) (by rfl) T.g_list boot_list (pa_cons (pv 4) pa_nil)) (pa_cons pe_str (pa_cons pe_int pa_nil)))))) (pe_call G__law_below (hr.mono (by first | decide | omega)) (by rfl) T.m__law_below T.F__law_below.kp T.b__law_below .nil pass0 (pa_cons (pv 1) (pa_cons pe_int pa_nil))) (fun _ _ => rfl)) (pa_cons pe_int pa_nil))) (pg_tupk (K := K) (n := 2) rfl rfl (pgs_cons (pg_name (i := 7) sc_law.nd rfl (by first | exact Or.inl rfl | exact Or.inr rfl)) (pgs_cons (pg_name (i := 8) sc_law.nd rfl (by first | exact Or.inl rfl | exact Or.inr rfl)) pgs_nil))))) pss_nil)
      (pss_cons (ps_if (pt_cmpR (kEQ (K := K) rfl hu64) (pv 9) pe_int (nomark _)) (pss_one (ps_asg (pe_tup (pa_cons (pe_op (kADD (K := K) rfl) (pe_slice (kSLC (K := K) rfl) (pe_op (kREPT (K := K) rfl) (pv 4) pe_int) po_none (po_some pe_int)) (pe_tup (pa_cons pe_str pa_nil))) (pa_cons pe_int pa_nil))) (pg_tupk (K := K) (n := 2) rfl rfl (pgs_cons (pg_name (i := 7) sc_law.nd rfl (by first | exact Or.inl rfl | exact Or.inr rfl)) (pgs_cons (pg_name (i := 8) sc_law.nd rfl (by first | exact Or.inl rfl | exact Or.inr rfl)) pgs_nil))))) pss_nil)
      (pss_cons (ps_set (i := 10) sc_law.nd rfl (by first | exact Or.inl rfl | exact Or.inr rfl) (pe_lst (pa_cons (LamZ.pe_lamE (k := 8) (dflt := false) TB rfl ⟨LamZ.lamN_by (sc := defScope s_law) (N := N_law) (by decide +kernel), (fun _ _ _ _ _ _ _ => rfl), (fun z => Bool.noConfusion z), fun A outer s H E f c_ hr => (pe_call G_fixed_cost (hr.mono (by first | decide | omega)) (by rfl) T.m_fixed_cost T.F_fixed_cost.kp T.b_fixed_cost .nil (passes_call (takes_of rfl rfl rfl rfl) (fun _ _ _ _ h => h)) (pa_cons (pv 3) (pa_cons (pv 7) (pa_cons pe_non pa_nil))))⟩ (fun _ => rfl) (fun z => Bool.noConfusion z) rfl) (pa_cons (LamZ.pe_lamE (k := 8) (dflt := true) TB rfl ⟨LamZ.lamN_by (sc := defScope s_law) (N := N_law) (by decide +kernel), (fun z => Bool.noConfusion z), (fun _ => ⟨"_law_a", by decide +kernel, fun _ _ _ _ _ _ _ _ => ⟨_, rfl, rfl⟩⟩), fun A outer s H E f c_ hr => (pe_call G_season_cost (hr.mono (by first | decide | omega)) (by rfl) T.m_season_cost T.F_season_cost.kp T.b_season_cost .nil (passes_call (takes_of rfl rfl rfl rfl) (fun _ _ _ _ h => h)) (pa_cons (pv 3) (pa_cons (pv 7) pa_nil)))⟩ (fun z => Bool.noConfusion z) (fun _ => ⟨_, rfl, pe_int⟩) rfl) pa_nil))))
      (pss_cons (ps_set (i := 10) sc_law.nd rfl (by first | exact Or.inl rfl | exact Or.inr rfl) (pe_op (kADD (K := K) rfl) (pv 10) (pe_lst (pa_cons (LamZ.pe_lamE (k := 8) (dflt := true) TB rfl ⟨LamZ.lamN_by (sc := defScope s_law) (N := N_law) (by decide +kernel), (fun z => Bool.noConfusion z), (fun _ => ⟨"_law_b", by decide +kernel, fun _ _ _ _ _ _ _ _ => ⟨_, rfl, rfl⟩⟩), fun A outer s H E f c_ hr => (pe_listG (E := nsE K E) (pgen_call G_best_offsets (hr.mono (by first | decide | omega)) (by rfl) T.m_best_offsets T.F_best_offsets.kp T.b_best_offsets .nil (pa_cons (pv 3) (pa_cons (pv 7) pa_nil))) (passes_call (takes_of rfl rfl rfl rfl) (fun _ _ _ _ h => h.2)) nsE_no (hr.mono (by first | decide | omega)) (by rfl) T.g_list boot_list)⟩ (fun z => Bool.noConfusion z) (fun _ => ⟨_, rfl, pe_int⟩) rfl) (pa_cons (LamZ.pe_lamE (k := 8) (dflt := true) TB rfl ⟨LamZ.lamN_by (sc := defScope s_law) (N := N_law) (by decide +kernel), (fun z => Bool.noConfusion z), (fun _ => ⟨"_law_c", by decide +kernel, fun _ _ _ _ _ _ _ _ => ⟨_, rfl, rfl⟩⟩), fun A outer s H E f c_ hr => (pe_call G_count_best (hr.mono (by first | decide | omega)) (by rfl) T.m_count_best T.F_count_best.kp T.b_count_best .nil (passes_call (takes_of rfl rfl rfl rfl) (fun _ _ _ _ h => h)) (pa_cons (pv 3) (pa_cons (pv 7) pa_nil)))⟩ (fun z => Bool.noConfusion z) (fun _ => ⟨_, rfl, pe_int⟩) rfl) pa_nil)))))
      (pss_cons (ps_set (i := 10) sc_law.nd rfl (by first | exact Or.inl rfl | exact Or.inr rfl) (pe_op (kADD (K := K) rfl) (pv 10) (pe_lst (pa_cons (LamZ.pe_lamE (k := 8) (dflt := true) TB rfl ⟨LamZ.lamN_by (sc := defScope s_law) (N := N_law) (by decide +kernel), (fun z => Bool.noConfusion z), (fun _ => ⟨"_law_e", by decide +kernel, fun _ _ _ _ _ _ _ _ => ⟨_, rfl, rfl⟩⟩), fun A outer s H E f c_ hr => (pe_call G_needed_letters (hr.mono (by first | decide | omega)) (by rfl) T.m_needed_letters T.F_needed_letters.kp T.b_needed_letters .nil (passes_call (takes_of rfl rfl rfl rfl) (fun _ _ _ _ h => h)) (pa_cons (pv 3) (pa_cons (pv 7) pa_nil)))⟩ (fun z => Bool.noConfusion z) (fun _ => ⟨_, rfl, pe_int⟩) rfl) (pa_cons (LamZ.pe_lamE (k := 8) (dflt := true) TB rfl ⟨LamZ.lamN_by (sc := defScope s_law) (N := N_law) (by decide +kernel), (fun z => Bool.noConfusion z), (fun _ => ⟨"_law_f", by decide +kernel, fun _ _ _ _ _ _ _ _ => ⟨_, rfl, rfl⟩⟩), fun A outer s H E f c_ hr => (pe_call G_missing_letters (hr.mono (by first | decide | omega)) (by rfl) T.m_missing_letters T.F_missing_letters.kp T.b_missing_letters .nil (passes_call (takes_of rfl rfl rfl rfl) (fun _ _ _ _ h => h)) (pa_cons (pv 3) (pa_cons (pv 7) (pa_cons pe_non pa_nil))))⟩ (fun z => Bool.noConfusion z) (fun _ => ⟨_, rfl, pe_int⟩) rfl) pa_nil)))))
      (pss_cons (ps_set (i := 10) sc_law.nd rfl (by first | exact Or.inl rfl | exact Or.inr rfl) (pe_op (kADD (K := K) rfl) (pv 10) (pe_lst (pa_cons (LamZ.pe_lamE (k := 8) (dflt := true) TB rfl ⟨LamZ.lamN_by (sc := defScope s_law) (N := N_law) (by decide +kernel), (fun z => Bool.noConfusion z), (fun _ => ⟨"_law_g", by decide +kernel, fun _ _ _ _ _ _ _ _ => ⟨_, rfl, rfl⟩⟩), fun A outer s H E f c_ hr => (pe_call G_best_order (hr.mono (by first | decide | omega)) (by rfl) T.m_best_order T.F_best_order.kp T.b_best_order .nil (passes_call (takes_of rfl rfl rfl rfl) (fun _ _ _ _ h => h)) (pa_cons (pv 3) (pa_cons (pv 7) pa_nil)))⟩ (fun z => Bool.noConfusion z) (fun _ => ⟨_, rfl, pe_int⟩) rfl) (pa_cons (LamZ.pe_lamE (k := 8) (dflt := true) TB rfl ⟨LamZ.lamN_by (sc := defScope s_law) (N := N_law) (by decide +kernel), (fun z => Bool.noConfusion z), (fun _ => ⟨"_law_h", by decide +kernel, fun _ _ _ _ _ _ _ _ => ⟨_, rfl, rfl⟩⟩), fun A outer s H E f c_ hr => (pe_call G_needless_pairs (hr.mono (by first | decide | omega)) (by rfl) T.m_needless_pairs T.F_needless_pairs.kp T.b_needless_pairs .nil (passes_call (takes_of rfl rfl rfl rfl) (fun _ _ _ _ h => h)) (pa_cons (pv 3) (pa_cons (pv 7) pa_nil)))⟩ (fun z => Bool.noConfusion z) (fun _ => ⟨_, rfl, pe_int⟩) rfl) pa_nil)))))
      (pss_cons (ps_set (i := 10) sc_law.nd rfl (by first | exact Or.inl rfl | exact Or.inr rfl) (pe_op (kADD (K := K) rfl) (pv 10) (pe_lst (pa_cons (LamZ.pe_lamE (k := 8) (dflt := true) TB rfl ⟨LamZ.lamN_by (sc := defScope s_law) (N := N_law) (by decide +kernel), (fun z => Bool.noConfusion z), (fun _ => ⟨"_law_i", by decide +kernel, fun _ _ _ _ _ _ _ _ => ⟨_, rfl, rfl⟩⟩), fun A outer s H E f c_ hr => (pe_make T.M_Watcher G_Watcher___init__ (hr.mono (by first | decide | omega)) (by rfl) T.m_Watcher T.b_Watcher___init__ .nil (passes_call (takes_of rfl rfl rfl rfl) (fun _ _ _ _ h => h)) (pa_cons (pv 3) (pa_cons (pv 7) pa_nil)))⟩ (fun z => Bool.noConfusion z) (fun _ => ⟨_, rfl, pe_int⟩) rfl) (pa_cons (LamZ.pe_lamE (k := 8) (dflt := true) TB rfl ⟨LamZ.lamN_by (sc := defScope s_law) (N := N_law) (by decide +kernel), (fun z => Bool.noConfusion z), (fun _ => ⟨"_law_j", by decide +kernel, fun _ _ _ _ _ _ _ _ => ⟨_, rfl, rfl⟩⟩), fun A outer s H E f c_ hr => (pe_call G_format_season (hr.mono (by first | decide | omega)) (by rfl) T.m_format_season T.F_format_season.kp T.b_format_season .nil (passes_call (takes_of rfl rfl rfl rfl) (fun _ _ _ _ h => h)) (pa_cons (pv 3) (pa_cons (pv 7) (pa_cons pe_non pa_nil))))⟩ (fun z => Bool.noConfusion z) (fun _ => ⟨_, rfl, pe_int⟩) rfl) pa_nil)))))
      (pss_cons (ps_expr (pe_bmk (K := K) rfl PySem.F.plainAttrs_list PySem.F.slot_list_append PySem.F.type_list_append mt_append (pv 10) (pa_cons (LamZ.pe_lamE (k := 8) (dflt := true) TB rfl ⟨LamZ.lamN_by (sc := defScope s_law) (N := N_law) (by decide +kernel), (fun z => Bool.noConfusion z), (fun _ => ⟨"_law_k", by decide +kernel, fun _ _ _ _ _ _ _ _ => ⟨_, rfl, rfl⟩⟩), fun A outer s H E f c_ hr => (pe_call G_encode (hr.mono (by first | decide | omega)) (by rfl) T.m_encode T.F_encode.kp T.b_encode .nil (passes_call (takes_of rfl rfl rfl rfl) (fun _ _ _ _ h => h)) (pa_cons (pv 3) (pa_cons (pv 7) pa_nil)))⟩ (fun z => Bool.noConfusion z) (fun _ => ⟨_, rfl, pe_int⟩) rfl) pa_nil)))
      (pss_cons (ps_if (pt_not (pt_val (LamZ.pe_callR (CX := CX0) (E := E0) (sp := fun σ => toSp K (spAll K _ 8 (errR T) σ)) (fun pins σ s H I => ok__law_all_raise T rfl σ (err_fn (RR := errR T) rfl I (fun _ => rfl) T.F__law_error_of sc__law_error_of rfl (by first | exact Or.inl rfl | exact Or.inr (Or.inl rfl) | exact Or.inr (Or.inr rfl)) (fun A outer cdv => GA _ A outer cdv))) (hr.mono (by first | decide | omega)) (by rfl) T.m__law_all_raise T.F__law_all_raise.kp T.b__law_all_raise pass0 (pa_cons (pv 10) (pa_cons (pe_tup (pa_cons pe_str (pa_cons (pv 8) pa_nil))) pa_nil))))) (pss_one (ps_ret pe_bl)) pss_nil)
      (pss_cons (ps_set (i := 11) sc_law.nd rfl (by first | exact Or.inl rfl | exact Or.inr rfl) (pe_callTy (kTUPLE (K := K) rfl) (by rfl) T.g_tuple boot_tuple (pa_cons (pe_lc rfl sc_law.nd (pi_tupk (K := K) rfl (pv 4)) (own := [("_law_text_here", 12)]) (@BlkOk.mk N_law (defScope s_law) _ _ rfl (by decide +kernel) (by decide +kernel) (by decide +kernel) (by decide +kernel)) (fun _ _ _ _ _ => (pg_name (i := 12) sc_law.nd rfl (by first | exact Or.inl rfl | exact Or.inr rfl))) (fun _ _ _ _ _ => pts_nil) (fun _ _ _ _ _ => (pe_op op_sub (pv 2) (pe_callB (kLEN (K := K) rfl) (by rfl) T.g_len boot_len (pa_cons (pv 12) pa_nil))))) pa_nil)))
      (pss_cons (ps_set (i := 5) sc_law.nd rfl (by first | exact Or.inl rfl | exact Or.inr rfl) (pe_call G__law_below (hr.mono (by first | decide | omega)) (by rfl) T.m__law_below T.F__law_below.kp T.b__law_below .nil pass0 (pa_cons (pv 1) (pa_cons (pe_callB (kLEN (K := K) rfl) (by rfl) T.g_len boot_len (pa_cons (pv 4) pa_nil)) pa_nil))))
      (pss_cons (ps_set (i := 13) sc_law.nd rfl (by first | exact Or.inl rfl | exact Or.inr rfl) (pe_op (kADD (K := K) rfl) (pe_op op_sub (pv 2) (pe_callB (kLEN (K := K) rfl) (by rfl) T.g_len boot_len (pa_cons (pe_ix (kIX (K := K) rfl) (pv 4) (pv 5) (fun _ _ => rfl)) pa_nil))) pe_int))
      (pss_cons (ps_if (pt_cmpR (kEQ (K := K) rfl hu64) (pe_call G__law_below (hr.mono (by first | decide | omega)) (by rfl) T.m__law_below T.F__law_below.kp T.b__law_below .nil pass0 (pa_cons (pv 1) (pa_cons pe_int pa_nil))) pe_int (nomark _)) (pss_one (ps_set (i := 13) sc_law.nd rfl (by first | exact Or.inl rfl | exact Or.inr rfl) (pe_ix (kIX (K := K) rfl) (pe_lst (pa_cons (pe_op op_sub pe_int pe_int) (pa_cons pe_non (pa_cons pe_bl (pa_cons pe_str (pa_cons (pe_tup (pa_cons pe_int pa_nil)) pa_nil)))))) (pe_call G__law_below (hr.mono (by first | decide | omega)) (by rfl) T.m__law_below T.F__law_below.kp T.b__law_below .nil pass0 (pa_cons (pv 1) (pa_cons pe_int pa_nil))) (fun _ _ => rfl)))) pss_nil)
      (pss_cons (ps_set (i := 14) sc_law.nd rfl (by first | exact Or.inl rfl | exact Or.inr rfl) (pe_lst (pa_cons (pe_tup (pa_cons (pe_op (kADD (K := K) rfl) (pe_slice (kSLC (K := K) rfl) (pv 11) po_none (po_some (pv 5))) (pe_tup (pa_cons (pv 13) (pa_cons pe_non pa_nil)))) (pa_cons (pv 5) pa_nil))) (pa_cons (pe_tup (pa_cons (pe_slice (kSLC (K := K) rfl) (pv 11) po_none (po_some (pv 5))) (pa_cons (pv 5) pa_nil))) (pa_cons (pe_tup (pa_cons (pe_op (kADD (K := K) rfl) (pv 11) (pe_tup (pa_cons pe_int pa_nil))) (pa_cons (pe_callB (kLEN (K := K) rfl) (by rfl) T.g_len boot_len (pa_cons (pv 4) pa_nil)) pa_nil))) (pa_cons (pe_tup (pa_cons pe_non (pa_cons pe_int pa_nil))) pa_nil))))))
      (pss_cons (ps_asg (pe_ix (kIX (K := K) rfl) (pe_op (kADD (K := K) rfl) (pv 14) (pe_lst (pa_cons (pe_tup (pa_cons (pe_callTy (kLIST (K := K) rfl rfl) (by rfl) T.g_list boot_list (pa_cons (pv 11) pa_nil)) (pa_cons pe_int pa_nil))) (pa_cons (pe_ix (kIX (K := K) rfl) (pv 14) pe_int (fun _ _ => rfl)) (pa_cons (pe_ix (kIX (K := K) rfl) (pv 14) pe_int (fun _ _ => rfl)) pa_nil))))) (pe_call G__law_below (hr.mono (by first | decide | omega)) (by rfl) T.m__law_below T.F__law_below.kp T.b__law_below .nil pass0 (pa_cons (pv 1) (pa_cons pe_int pa_nil))) (fun _ _ => rfl)) (pg_tupk (K := K) (n := 2) rfl rfl (pgs_cons (pg_name (i := 7) sc_law.nd rfl (by first | exact Or.inl rfl | exact Or.inr rfl)) (pgs_cons (pg_name (i := 8) sc_law.nd rfl (by first | exact Or.inl rfl | exact Or.inr rfl)) pgs_nil))))
      (pss_cons (ps_set (i := 10) sc_law.nd rfl (by first | exact Or.inl rfl | exact Or.inr rfl) (pe_lst (pa_cons (LamZ.pe_lamE (k := 8) (dflt := false) TB rfl ⟨LamZ.lamN_by (sc := defScope s_law) (N := N_law) (by decide +kernel), (fun _ _ _ _ _ _ _ => rfl), (fun z => Bool.noConfusion z), fun A outer s H E f c_ hr => (pe_call G_fixed_cost (hr.mono (by first | decide | omega)) (by rfl) T.m_fixed_cost T.F_fixed_cost.kp T.b_fixed_cost .nil (passes_call (takes_of rfl rfl rfl rfl) (fun _ _ _ _ h => h)) (pa_cons (pv 3) (pa_cons (pv 4) (pa_cons (pv 7) pa_nil))))⟩ (fun _ => rfl) (fun z => Bool.noConfusion z) rfl) (pa_cons (LamZ.pe_lamE (k := 8) (dflt := true) TB rfl ⟨LamZ.lamN_by (sc := defScope s_law) (N := N_law) (by decide +kernel), (fun z => Bool.noConfusion z), (fun _ => ⟨"_law_a", by decide +kernel, fun _ _ _ _ _ _ _ _ => ⟨_, rfl, rfl⟩⟩), fun A outer s H E f c_ hr => (pe_call G_format_season (hr.mono (by first | decide | omega)) (by rfl) T.m_format_season T.F_format_season.kp T.b_format_season .nil (passes_call (takes_of rfl rfl rfl rfl) (fun _ _ _ _ h => h)) (pa_cons (pv 3) (pa_cons (pv 4) (pa_cons (pv 7) pa_nil))))⟩ (fun z => Bool.noConfusion z) (fun _ => ⟨_, rfl, pe_int⟩) rfl) pa_nil))))
      (pss_cons (ps_if (pt_not (pt_val (LamZ.pe_callR (CX := CX0) (E := E0) (sp := fun σ => toSp K (spAll K _ 8 (errR T) σ)) (fun pins σ s H I => ok__law_all_raise T rfl σ (err_fn (RR := errR T) rfl I (fun _ => rfl) T.F__law_error_of sc__law_error_of rfl (by first | exact Or.inl rfl | exact Or.inr (Or.inl rfl) | exact Or.inr (Or.inr rfl)) (fun A outer cdv => GA _ A outer cdv))) (hr.mono (by first | decide | omega)) (by rfl) T.m__law_all_raise T.F__law_all_raise.kp T.b__law_all_raise pass0 (pa_cons (pv 10) (pa_cons (pe_tup (pa_cons pe_str (pa_cons (pv 8) pa_nil))) pa_nil))))) (pss_one (ps_ret pe_bl)) pss_nil)
      (pss_one (ps_ret (pe_callB (kISI (K := K) rfl) (by rfl) T.g_isinstance boot_isinstance (pa_cons (pe_call G_fixed_cost (hr.mono (by first | decide | omega)) (by rfl) T.m_fixed_cost T.F_fixed_cost.kp T.b_fixed_cost .nil passG (pa_cons (pv 3) (pa_cons (pv 4) (pa_cons (pv 11) pa_nil)))) (pa_cons (pe_bltn (v := .ty "tuple") (by rfl) T.g_tuple boot_tuple rfl) pa_nil))))))))))))))))))))))))))))), ?_⟩
  rintro _ F ms Q Ea ⟨ns, rfl, hn, hTab, q⟩
  obtain ⟨tb0, hT0, hK0⟩ := hTab
  obtain ⟨R0, rfl⟩ : ∃ R0, ms = (T.pp_law, MO.raw (.tbl tb0)) :: R0 := by
    cases ms with
    | nil => cases hT0
    | cons a r => exact ⟨r, by rw [List.getElem?_cons_zero] at hT0; rw [Option.some.inj hT0]⟩
  walk_at "al"
  refine ⟨ns, rfl, hn, fun F1 l st e1 hst => ?_⟩
  refine as_ms (ms' := [] ++ MB l T.pp_law R0 st tb0) rfl ?_
  walk_at "al"
  refine ⟨_, l, st, 5, rfl, mb_l, hst, by decide, by decide, fun st1 w0 hst1 w1 w2 => ?_⟩
  rw [mb_setl]
  walk_at "al"
  obtain ⟨wd, hwd⟩ : ∃ wd, wd = 2 + w0 := ⟨_, rfl⟩
  rw [← hwd]
  have hwd1 : 2 ≤ wd := by omega
  have hwd2 : wd ≤ 6 := by omega
  refine as_asgG ?_
  refine ae_tup ?_
  walk_at "al"
  refine ae_make (dds := []) (fun _ => .nil) ?_
  walk_at "al"
  refine ae_tup ?_
  walk_at "al"
  refine ⟨by simp, fun F101 e101 => ?_⟩
  rw [show (.tup [.str "MW"] : D) = .tup (MWP.map pD) by rw [mw_map]]
  walk_at "al"
  intro x F3 e3
  refine ⟨x, wd, MWP, _, rfl, by omega, by omega, by decide, mw_ok.1, mw_ok.2, rfl, fun m F4 e4 => ⟨rfl, ?_⟩⟩
  obtain ⟨E2, hE2, hS⟩ : ∃ E2, (m, MO.dic (kvsOf MWP)) :: (x, MO.ins T.c_Sign (fldS m wd MWP)) :: ([] ++ MB l T.pp_law R0 st1 tb0) = E2 ++ MB l T.pp_law R0 st1 tb0 ∧ Sgn T.c_Sign E2 x wd MWP := ⟨[_, _], rfl, 1, 0, m, rfl, rfl⟩
  rw [hE2]
  clear hE2
  walk_at "al"
  refine ⟨_, l, st1, wd, "ABMW", rfl, mb_l, hst1, by omega, by omega, by decide +kernel, by decide +kernel, abmwL, fun st2 F5 ts e5 hst2 ht1 ht4 ht => ?_⟩
  rw [mb_setl]
  walk_at "al"
  refine ⟨by simp, fun F102 e102 => ?_⟩
  refine ag_tup rfl ?_
  refine ags_cons (ag_name ?_)
  refine ags_cons (ag_name ?_)
  refine ags_nil ?_
  refine as_norm (S' := [_, _, some (.int wd), some (.ref x), some (.tup (ts.map D.str)), _, _, _, _, _, _, _, _, _, _]) rfl ?_
  have hcl : ∀ lo hi, (cutL (ts.map D.str) lo hi).length ≤ 4 := fun lo hi => by unfold cutL; rw [List.length_take, List.length_drop, List.length_map]; omega
  have hA1 : ("A" : Str).length = 1 := by decide +kernel
  walk_at "al"
  refine ⟨_, l, st2, _, rfl, mb_l, hst2, by rw [List.length_map]; omega, by rw [List.length_map]; omega, fun st3 p0 hst3 p1 p2 => ?_⟩
  rw [mb_setl]
  rw [List.length_map] at p2
  obtain ⟨p, rfl⟩ : ∃ a : Nat, p0 = (a : Int) := ⟨p0.toNat, by omega⟩
  refine as_norm (S' := [_, _, some (.int wd), some (.ref x), some (.tup (ts.map D.str)), some (.int (p : Int)), _, _, _, _, _, _, _, _, _]) rfl ?_
  walk_at "al"
  refine ae_lstF ?_
  walk_at "al"
  refine ar_MULs (by omega) (by omega) (by rw [hA1]; omega) ?_
  walk_at "al"
  refine ae_tup ?_
  walk_at "al"
  refine ⟨by simp, fun F103 e103 => ?_⟩
  walk_at "al"
  refine ⟨by simp, fun F104 e104 => ?_⟩
  walk_at "al"
  refine ⟨_, l, st3, 10, rfl, mb_l, hst3, by decide, by decide, fun st4 r4 hst4 r40 r41 => ?_⟩
  rw [mb_setl]
  obtain ⟨bad, hbad, kbad, tbad, obad, dbad⟩ := badx_at hwd1 hwd2 r40 r41
  refine ar_ixL (d := bad) hbad ?_
  refine as_norm (S' := [_, _, some (.int wd), some (.ref x), some (.tup (ts.map D.str)), some (.int (p : Int)), some bad, _, _, _, _, _, _, _, _]) rfl ?_
  walk_at "al"
  refine as_asgG ?_
  refine ae_tup ?_
  walk_at "al"
  refine ae_sl ?_
  walk_at "al"
  refine ao_none ?_
  refine ao_some ?_
  walk_at "al"
  refine sl_T fun F105 e105 => ?_
  walk_at "al"
  refine ae_tup ?_
  walk_at "al"
  refine ⟨by simp, fun F106 e106 => ?_⟩
  refine ar_ADDt (by have := hcl none (some (p : Int)); simp only [List.length_cons, List.length_nil]; omega) fun F107 e107 => ?_
  walk_at "al"
  refine ae_sl ?_
  walk_at "al"
  refine ao_some ?_
  walk_at "al"
  refine ao_none ?_
  refine sl_T fun F108 e108 => ?_
  refine ar_ADDt (by have h1 := hcl none (some (p : Int)); have h2 := hcl (some (p : Int)) none; rw [List.length_append]; simp only [List.length_cons, List.length_nil]; omega) fun F109 e109 => ?_
  walk_at "al"
  refine ⟨by simp, fun F110 e110 => ?_⟩
  refine ag_tup rfl ?_
  refine ags_cons (ag_name ?_)
  refine ags_cons (ag_name ?_)
  refine ags_nil ?_
  have hw0 := bad_mid (p := p) (b := bad) (by omega) ht4 ht kbad tbad obad dbad
  obtain ⟨wr0, hwr0⟩ : ∃ wr0, wr0 = D.tup ((cutL (ts.map D.str) none (some (p : Int)) ++ [bad, .non]) ++ cutL (ts.map D.str) (some (p : Int)) none) := ⟨_, rfl⟩
  rw [← hwr0] at hw0 ⊢
  refine as_norm (S' := [_, _, some (.int wd), some (.ref x), some (.tup (ts.map D.str)), some (.int (p : Int)), some bad, some wr0, some (.int (p : Int)), _, _, _, _, _, _]) rfl ?_
  walk_at "al"
  refine ⟨_, l, st4, 4, rfl, mb_l, hst4, by decide, by decide, fun st5 kk hst5 kk0 kk1 => ?_⟩
  rw [mb_setl]
  refine as_norm (S' := [_, _, some (.int wd), some (.ref x), some (.tup (ts.map D.str)), some (.int (p : Int)), some bad, some wr0, some (.int (p : Int)), some (.int kk), _, _, _, _, _]) rfl ?_
  have hK111 := tabK_ex (e1.trans (e101.trans (e3.trans (e4.trans (e5.trans (e102.trans (e103.trans (e104.trans (e105.trans (e106.trans (e107.trans (e108.trans (e109.trans (e110)))))))))))))) hK0
  refine as_cut (P := fun F' ms' S' => ∃ (st' : List D) (wr : D) (ix : Int), ms' = E2 ++ MB l T.pp_law R0 st' tb0 ∧ St st' ∧ badT wd wr ix ∧ S' = [some (.rdl (ns.map D.int)), some (.ref l), some (.int wd), some (.ref x), some (.tup (ts.map D.str)), some (.int (p : Int)), some bad, some wr, some (.int ix), some (.int kk), none, none, none, none, none]) ?_ ?_
  · walk_at "al"
    by_cases hk0 : kk = 0
    · refine and_dT hk0 ?_
      walk_at "al"
      refine as_asgG ?_
      refine ae_tup ?_
      walk_at "al"
      refine ae_lstF ?_
      walk_at "al"
      refine ae_tup ?_
      walk_at "al"
      refine ⟨by simp, fun F112 e112 => ?_⟩
      walk_at "al"
      refine ac_listF (.inr rfl) fun F113 e113 => ?_
      walk_at "al"
      refine ⟨by simp, fun F114 e114 => ?_⟩
      walk_at "al"
      refine ⟨_, l, st5, 5, rfl, mb_l, hst5, by decide, by decide, fun st6 r6 hst6 r60 r61 => ?_⟩
      rw [mb_setl]
      obtain ⟨zd, hzd, bzd⟩ := zer_at (wd := wd) (ts := ts) r60 r61
      refine ar_ixL (d := zd) hzd ?_
      walk_at "al"
      refine ⟨by simp, fun F115 e115 => ?_⟩
      refine ag_tup rfl ?_
      refine ags_cons (ag_name ?_)
      refine ags_cons (ag_name ?_)
      refine ags_nil ?_
      exact ⟨st6, zd, 0, rfl, hst6, bzd, rfl⟩
    · refine and_dF hk0 ?_
      walk_at "al"
      exact ⟨st5, wr0, p, rfl, hst5, hw0, rfl⟩
  rintro F30 _ _ e30 ⟨st6, wr1, ix1, rfl, hst6, hb1, rfl⟩
  refine as_cut (P := fun F' ms' S' => ∃ (st' : List D) (wr : D) (ix : Int), ms' = E2 ++ MB l T.pp_law R0 st' tb0 ∧ St st' ∧ badT wd wr ix ∧ S' = [some (.rdl (ns.map D.int)), some (.ref l), some (.int wd), some (.ref x), some (.tup (ts.map D.str)), some (.int (p : Int)), some bad, some wr, some (.int ix), some (.int kk), none, none, none, none, none]) ?_ ?_
  · walk_at "al"
    by_cases hk1 : kk = 1
    · refine and_dT hk1 ?_
      walk_at "al"
      refine as_asgG ?_
      refine ae_tup ?_
      walk_at "al"
      refine ae_sl ?_
      walk_at "al"
      refine ar_REPT (by intro h; rw [List.map_eq_nil_iff] at h; rw [h] at ht1; cases ht1) (by rw [List.length_map]; omega) (by decide) (by decide) fun F116 e116 => ?_
      refine ao_none ?_
      refine ao_some ?_
      walk_at "al"
      refine sl_T fun F117 e117 => ?_
      walk_at "al"
      refine ae_tup ?_
      walk_at "al"
      refine ⟨by simp, fun F118 e118 => ?_⟩
      refine ar_ADDt (by unfold cutL; rw [List.length_take, List.length_drop, List.length_flatten, List.map_replicate, List.sum_replicate_nat, List.length_map]; simp only [List.length_cons, List.length_nil]; show min _ (13 * ts.length - _) + _ ≤ 100000; omega) fun F119 e119 => ?_
      walk_at "al"
      refine ⟨by simp, fun F120 e120 => ?_⟩
      refine ag_tup rfl ?_
      refine ags_cons (ag_name ?_)
      refine ags_cons (ag_name ?_)
      refine ags_nil ?_
      exact ⟨st6, _, 12, rfl, hst6, bad_long ht1 (by omega) ht, rfl⟩
    · refine and_dF hk1 ?_
      walk_at "al"
      exact ⟨st6, wr1, ix1, rfl, hst6, hb1, rfl⟩
  rintro F31 _ _ e31 ⟨st7, wr, ix, rfl, hst7, hb, rfl⟩
  have hK121 := tabK_ex (e30.trans (e31)) hK111
  clear hw0 hwr0 hb1
  walk_at "al"
  refine ae_lstF ?_
  walk_at "al"
  refine ae_lamE (n := E2.length + 1) (tab_of hK121 rfl) fun F122 ms122 f1 e122 hT122 hm122 L1 => ?_
  obtain ⟨tb122, rfl⟩ := hm122
  rw [mb_setP] at hT122 ⊢
  have hK122 := tab_back hT122
  walk_at "al"
  refine ae_lamE (n := E2.length + 1) (tab_of hK122 rfl) fun F123 ms123 f2 e123 hT123 hm123 L2 => ?_
  obtain ⟨tb123, rfl⟩ := hm123
  rw [mb_setP] at hT123 ⊢
  have hK123 := tab_back hT123
  walk_at "al"
  refine ⟨by simp, fun F124 e124 => ?_⟩
  have hK124 := tabK_ex e124 hK123
  refine as_norm (S' := [_, _, some (.int wd), some (.ref x), some (.tup (ts.map D.str)), some (.int (p : Int)), some bad, some wr, some (.int ix), some (.int kk), some (.lst [.ref f1, .ref f2]), _, _, _, _]) rfl ?_
  walk_at "al"
  refine ae_lstF ?_
  walk_at "al"
  refine ae_lamE (n := E2.length + 1) (tab_of hK124 rfl) fun F125 ms125 f3 e125 hT125 hm125 L3 => ?_
  obtain ⟨tb125, rfl⟩ := hm125
  rw [mb_setP] at hT125 ⊢
  have hK125 := tab_back hT125
  walk_at "al"
  refine ae_lamE (n := E2.length + 1) (tab_of hK125 rfl) fun F126 ms126 f4 e126 hT126 hm126 L4 => ?_
  obtain ⟨tb126, rfl⟩ := hm126
  rw [mb_setP] at hT126 ⊢
  have hK126 := tab_back hT126
  walk_at "al"
  refine ⟨by simp, fun F127 e127 => ?_⟩
  have hK127 := tabK_ex e127 hK126
  refine ar_ADDl (by simp) fun F128 e128 => ?_
  have hK128 := tabK_ex e128 hK127
  refine as_norm (S' := [_, _, some (.int wd), some (.ref x), some (.tup (ts.map D.str)), some (.int (p : Int)), some bad, some wr, some (.int ix), some (.int kk), some (.lst [.ref f1, .ref f2, .ref f3, .ref f4]), _, _, _, _]) rfl ?_
  walk_at "al"
  refine ae_lstF ?_
  walk_at "al"
  refine ae_lamE (n := E2.length + 1) (tab_of hK128 rfl) fun F129 ms129 f5 e129 hT129 hm129 L5 => ?_
  obtain ⟨tb129, rfl⟩ := hm129
  rw [mb_setP] at hT129 ⊢
  have hK129 := tab_back hT129
  walk_at "al"
  refine ae_lamE (n := E2.length + 1) (tab_of hK129 rfl) fun F130 ms130 f6 e130 hT130 hm130 L6 => ?_
  obtain ⟨tb130, rfl⟩ := hm130
  rw [mb_setP] at hT130 ⊢
  have hK130 := tab_back hT130
  walk_at "al"
  refine ⟨by simp, fun F131 e131 => ?_⟩
  have hK131 := tabK_ex e131 hK130
  refine ar_ADDl (by simp) fun F132 e132 => ?_
  have hK132 := tabK_ex e132 hK131
  refine as_norm (S' := [_, _, some (.int wd), some (.ref x), some (.tup (ts.map D.str)), some (.int (p : Int)), some bad, some wr, some (.int ix), some (.int kk), some (.lst [.ref f1, .ref f2, .ref f3, .ref f4, .ref f5, .ref f6]), _, _, _, _]) rfl ?_
  walk_at "al"
  refine ae_lstF ?_
  walk_at "al"
  refine ae_lamE (n := E2.length + 1) (tab_of hK132 rfl) fun F133 ms133 f7 e133 hT133 hm133 L7 => ?_
  obtain ⟨tb133, rfl⟩ := hm133
  rw [mb_setP] at hT133 ⊢
  have hK133 := tab_back hT133
  walk_at "al"
  refine ae_lamE (n := E2.length + 1) (tab_of hK133 rfl) fun F134 ms134 f8 e134 hT134 hm134 L8 => ?_
  obtain ⟨tb134, rfl⟩ := hm134
  rw [mb_setP] at hT134 ⊢
  have hK134 := tab_back hT134
  walk_at "al"
  refine ⟨by simp, fun F135 e135 => ?_⟩
  have hK135 := tabK_ex e135 hK134
  refine ar_ADDl (by simp) fun F136 e136 => ?_
  have hK136 := tabK_ex e136 hK135
  refine as_norm (S' := [_, _, some (.int wd), some (.ref x), some (.tup (ts.map D.str)), some (.int (p : Int)), some bad, some wr, some (.int ix), some (.int kk), some (.lst [.ref f1, .ref f2, .ref f3, .ref f4, .ref f5, .ref f6, .ref f7, .ref f8]), _, _, _, _]) rfl ?_
  walk_at "al"
  refine ae_lstF ?_
  walk_at "al"
  refine ae_lamE (n := E2.length + 1) (tab_of hK136 rfl) fun F137 ms137 f9 e137 hT137 hm137 L9 => ?_
  obtain ⟨tb137, rfl⟩ := hm137
  rw [mb_setP] at hT137 ⊢
  have hK137 := tab_back hT137
  walk_at "al"
  refine ae_lamE (n := E2.length + 1) (tab_of hK137 rfl) fun F138 ms138 f10 e138 hT138 hm138 L10 => ?_
  obtain ⟨tb138, rfl⟩ := hm138
  rw [mb_setP] at hT138 ⊢
  have hK138 := tab_back hT138
  walk_at "al"
  refine ⟨by simp, fun F139 e139 => ?_⟩
  have hK139 := tabK_ex e139 hK138
  refine ar_ADDlo (by simp) fun lc => ?_
  refine as_norm (S' := [_, _, some (.int wd), some (.ref x), some (.tup (ts.map D.str)), some (.int (p : Int)), some bad, some wr, some (.int ix), some (.int kk), some (.ref lc), _, _, _, _]) rfl ?_
  refine as_ms (ms' := ((lc, MO.lst [.ref f1, .ref f2, .ref f3, .ref f4, .ref f5, .ref f6, .ref f7, .ref f8, .ref f9, .ref f10]) :: E2) ++ MB l T.pp_law R0 st7 tb138) rfl ?_
  walk_at "al"
  refine ae_bmL ?_
  walk_at "al"
  refine ⟨[.ref f1, .ref f2, .ref f3, .ref f4, .ref f5, .ref f6, .ref f7, .ref f8, .ref f9, .ref f10], .inr ⟨0, lc, rfl, rfl⟩, ?_⟩
  walk_at "al"
  refine ae_lamE (n := ((lc, MO.lst [.ref f1, .ref f2, .ref f3, .ref f4, .ref f5, .ref f6, .ref f7, .ref f8, .ref f9, .ref f10]) :: E2).length + 1) (tab_of hK139 rfl) fun F140 ms140 f11 e140 hT140 hm140 L11 => ?_
  obtain ⟨tb140, rfl⟩ := hm140
  rw [mb_setP] at hT140 ⊢
  have hK140 := tab_back hT140
  walk_at "al"
  refine am_append 0 (l := lc) (xs := [.ref f1, .ref f2, .ref f3, .ref f4, .ref f5, .ref f6, .ref f7, .ref f8, .ref f9, .ref f10]) rfl (by simp) ?_
  obtain ⟨E9, hE9, h90, hS9⟩ : ∃ E9, List.set (((lc, MO.lst [.ref f1, .ref f2, .ref f3, .ref f4, .ref f5, .ref f6, .ref f7, .ref f8, .ref f9, .ref f10]) :: E2) ++ MB l T.pp_law R0 st7 tb140) 0 (lc, MO.lst ([.ref f1, .ref f2, .ref f3, .ref f4, .ref f5, .ref f6, .ref f7, .ref f8, .ref f9, .ref f10] ++ [.ref f11])) = E9 ++ MB l T.pp_law R0 st7 tb140 ∧ (E9 ++ MB l T.pp_law R0 st7 tb140)[0]? = some (lc, MO.lst ([f1, f2, f3, f4, f5, f6, f7, f8, f9, f10, f11].map D.ref)) ∧ Sgn T.c_Sign E9 x wd MWP := ⟨(lc, MO.lst [.ref f1, .ref f2, .ref f3, .ref f4, .ref f5, .ref f6, .ref f7, .ref f8, .ref f9, .ref f10, .ref f11]) :: E2, rfl, rfl, hS.cons⟩
  rw [hE9]
  clear hE9
  have hSM : Sgn T.c_Sign (E9 ++ MB l T.pp_law R0 st7 tb140) x wd MWP := sgn_l hS9
  walk_at "al"
  refine ae_callR ?_
  walk_at "al"
  refine ae_tup ?_
  walk_at "al"
  refine ⟨by simp, fun F141 e141 => ?_⟩
  walk_at "al"
  intro σ hσ
  refine ⟨.ref lc, .tup [.str "text", .int ix], [f1, f2, f3, f4, f5, f6, f7, f8, f9, f10, f11], fun _ ms' => ∃ J, ms' = J ++ (E9 ++ MB l T.pp_law R0 st7 tb140), rfl, Nat.le_of_ble_eq_true rfl, okT "text" (by decide +kernel) ix, Nat.le_of_ble_eq_true rfl, fun F' ms' e hJ => ?_, ⟨[], rfl⟩, fun _ _ _ _ _ hJ => hJ, fun f hf F' ms' e hJ => ?_, fun F' ms' e hJ => ?_⟩
  · obtain ⟨J0, hJ⟩ := hJ
    exact .inr ⟨J0.length, lc, rfl, by rw [hJ, List.getElem?_append_right (Nat.le_refl _), Nat.sub_self]; exact h90⟩
  · obtain ⟨J0, hJ⟩ := hJ
    have hSM := sgn_pre (J := J0) hSM
    rw [hJ]
    clear hJ
    simp only [List.mem_cons, List.not_mem_nil, or_false] at hf
    rcases hf with rfl | rfl | rfl | rfl | rfl | rfl | rfl | rfl | rfl | rfl | rfl
    · refine ⟨_, _, _, rfl, L1.ex (e123.trans (e124.trans (e125.trans (e126.trans (e127.trans (e128.trans (e129.trans (e130.trans (e131.trans (e132.trans (e133.trans (e134.trans (e135.trans (e136.trans (e137.trans (e138.trans (e139.trans (e140.trans (e141.trans (e)))))))))))))))))))), hσ.mono e, fun E => ?_⟩
      walk_at "al"
      exact ⟨x, wd, MWP, wr, .non, rfl, hSM, by omega, by omega, .inr ⟨_, ix, .inl ⟨hb, rfl⟩, fun F'' e'' => ⟨.tup [.str "text", .int ix], .inl ⟨rfl, ix, rfl, rfl⟩, fun F2 e2 => ⟨rfl, J0, rfl⟩⟩⟩⟩
    · refine ⟨_, _, _, rfl, L2.ex (e124.trans (e125.trans (e126.trans (e127.trans (e128.trans (e129.trans (e130.trans (e131.trans (e132.trans (e133.trans (e134.trans (e135.trans (e136.trans (e137.trans (e138.trans (e139.trans (e140.trans (e141.trans (e))))))))))))))))))), hσ.mono e, fun E => ?_⟩
      walk_at "al"
      exact ⟨x, wd, MWP, wr, ix, rfl, hSM, by omega, by omega, hb, fun F'' e'' => ⟨.tup [.str "text", .int ix], .inl ⟨rfl, ix, rfl, rfl⟩, fun F2 e2 => ⟨rfl, J0, rfl⟩⟩⟩
    · refine ⟨_, _, _, rfl, L3.ex (e126.trans (e127.trans (e128.trans (e129.trans (e130.trans (e131.trans (e132.trans (e133.trans (e134.trans (e135.trans (e136.trans (e137.trans (e138.trans (e139.trans (e140.trans (e141.trans (e))))))))))))))))), hσ.mono e, fun E => ?_⟩
      refine ae_listGX ?_
      walk_at "al"
      exact ⟨x, wd, MWP, wr, ix, rfl, hSM, by omega, by omega, hb, fun F'' e'' => ⟨T.ns_InvalidText, ⟨.tup [.str "text", .int ix], .inl ⟨rfl, ix, rfl, rfl⟩, fun F2 e2 => ⟨rfl, J0, rfl⟩⟩⟩⟩
    · refine ⟨_, _, _, rfl, L4.ex (e127.trans (e128.trans (e129.trans (e130.trans (e131.trans (e132.trans (e133.trans (e134.trans (e135.trans (e136.trans (e137.trans (e138.trans (e139.trans (e140.trans (e141.trans (e)))))))))))))))), hσ.mono e, fun E => ?_⟩
      walk_at "al"
      exact ⟨x, wd, MWP, wr, ix, rfl, hSM, by omega, by omega, hb, fun F'' e'' => ⟨.tup [.str "text", .int ix], .inl ⟨rfl, ix, rfl, rfl⟩, fun F2 e2 => ⟨rfl, J0, rfl⟩⟩⟩
    · refine ⟨_, _, _, rfl, L5.ex (e130.trans (e131.trans (e132.trans (e133.trans (e134.trans (e135.trans (e136.trans (e137.trans (e138.trans (e139.trans (e140.trans (e141.trans (e))))))))))))), hσ.mono e, fun E => ?_⟩
      walk_at "al"
      exact ⟨x, wd, MWP, wr, ix, rfl, hSM, by omega, by omega, hb, fun F'' e'' => ⟨.tup [.str "text", .int ix], .inl ⟨rfl, ix, rfl, rfl⟩, fun F2 e2 => ⟨rfl, J0, rfl⟩⟩⟩
    · refine ⟨_, _, _, rfl, L6.ex (e131.trans (e132.trans (e133.trans (e134.trans (e135.trans (e136.trans (e137.trans (e138.trans (e139.trans (e140.trans (e141.trans (e)))))))))))), hσ.mono e, fun E => ?_⟩
      walk_at "al"
      exact ⟨x, wd, MWP, wr, .non, ix, rfl, hSM, by omega, by omega, hb, fun F'' e'' => ⟨.tup [.str "text", .int ix], .inl ⟨rfl, ix, rfl, rfl⟩, fun F2 e2 => ⟨rfl, J0, rfl⟩⟩⟩
    · refine ⟨_, _, _, rfl, L7.ex (e134.trans (e135.trans (e136.trans (e137.trans (e138.trans (e139.trans (e140.trans (e141.trans (e))))))))), hσ.mono e, fun E => ?_⟩
      walk_at "al"
      exact ⟨x, wd, MWP, wr, ix, rfl, hSM, by omega, by omega, hb, fun F'' e'' => ⟨.tup [.str "text", .int ix], .inl ⟨rfl, ix, rfl, rfl⟩, fun F2 e2 => ⟨rfl, J0, rfl⟩⟩⟩
    · refine ⟨_, _, _, rfl, L8.ex (e135.trans (e136.trans (e137.trans (e138.trans (e139.trans (e140.trans (e141.trans (e)))))))), hσ.mono e, fun E => ?_⟩
      walk_at "al"
      exact ⟨x, wd, MWP, wr, ix, rfl, hSM, by omega, by omega, hb, fun F'' e'' => ⟨.tup [.str "text", .int ix], .inl ⟨rfl, ix, rfl, rfl⟩, fun F2 e2 => ⟨rfl, J0, rfl⟩⟩⟩
    · refine ⟨_, _, _, rfl, L9.ex (e138.trans (e139.trans (e140.trans (e141.trans (e))))), hσ.mono e, fun E => ?_⟩
      refine ae_make (dds := []) (fun _ => .nil) ?_
      walk_at "al"
      intro z9 F9 e9
      exact ⟨z9, _, x, wd, MWP, wr, ix, rfl, rfl, hSM, by omega, by omega, hb, fun F'' J9 e'' => ⟨.tup [.str "text", .int ix], .inl ⟨rfl, ix, rfl, rfl⟩, fun F2 e2 => ⟨rfl, J9 ++ J0, (List.append_assoc ..).symm⟩⟩⟩
    · refine ⟨_, _, _, rfl, L10.ex (e139.trans (e140.trans (e141.trans (e)))), hσ.mono e, fun E => ?_⟩
      walk_at "al"
      exact ⟨x, wd, MWP, wr, .non, _, ix, rfl, hSM, by omega, by omega, .inl ⟨hb, rfl⟩, fun F'' e'' => ⟨.tup [.str "text", .int ix], .inl ⟨rfl, ix, rfl, rfl⟩, fun F2 e2 => ⟨rfl, J0, rfl⟩⟩⟩
    · refine ⟨_, _, _, rfl, L11.ex (e141.trans (e)), hσ.mono e, fun E => ?_⟩
      walk_at "al"
      exact ⟨x, wd, MWP, wr, ix, rfl, hSM, by omega, by omega, hb, fun F'' e'' => ⟨.tup [.str "text", .int ix], .inl ⟨rfl, ix, rfl, rfl⟩, fun F2 e2 => ⟨rfl, J0, rfl⟩⟩⟩
  obtain ⟨J0, hJ⟩ := hJ
  rw [hJ]
  clear hJ
  obtain ⟨E10, hE10, hS10⟩ : ∃ E10, J0 ++ (E9 ++ MB l T.pp_law R0 st7 tb140) = E10 ++ MB l T.pp_law R0 st7 tb140 ∧ Sgn T.c_Sign E10 x wd MWP := ⟨J0 ++ E9, by rw [List.append_assoc], sgn_pre hS9⟩
  rw [hE10]
  clear hE10
  have hK142 := tabK_ex (e141.trans (e)) hK140
  walk_at "al"
  refine ae_lc (gw_name (by simp)) gm_name ?_
  refine ai_tup ?_
  walk_at "al"
  refine ⟨_, rfl, fun i F' ms' acc => ms' = E10 ++ MB l T.pp_law R0 st7 tb140 ∧ acc = ((ofs wd ts).take i).map D.int, ⟨rfl, rfl⟩, fun _ _ _ _ _ _ => trivial, ?_, ?_⟩
  · rintro n d F' ms' acc e1 hd ⟨rfl, rfl⟩ F'' e2
    obtain ⟨t, hp, rfl⟩ := strs_at hd
    have htx := ht t (List.mem_of_getElem? hp)
    have h24 := htx.2.1
    have hn : n < ts.length := (List.getElem?_eq_some_iff.mp hp).1
    refine ag_name ?_
    walk_at "al"
    refine ac_lenS (z := t) (by omega) ?_
    walk_at "al"
    exact ⟨by rw [List.length_map, List.length_take, ofs_len]; omega, rfl, by rw [List.take_succ, show (ofs wd ts)[n]? = some (wd - (t.length : Int)) by unfold ofs; rw [List.getElem?_map, hp]; rfl, List.map_append]; rfl⟩
  rintro F40 _ _ e40 ⟨rfl, rfl⟩ F41 e41
  rw [List.length_map, show (ofs wd ts).take ts.length = ofs wd ts by rw [← ofs_len (wd := wd), List.take_length]]
  walk_at "al"
  refine ac_tupleL (.inl rfl) fun F143 e143 => ?_
  refine as_norm (S' := [_, _, some (.int wd), some (.ref x), some (.tup (ts.map D.str)), some (.int (p : Int)), some bad, some wr, some (.int ix), some (.int kk), some (.ref lc), some (.tup ((ofs wd ts).map D.int)), _, _, _]) rfl ?_
  walk_at "al"
  refine ⟨_, l, st7, _, rfl, mb_l, hst7, by rw [List.length_map]; omega, by rw [List.length_map]; omega, fun st8 q0 hst8 q1 q2 => ?_⟩
  rw [mb_setl]
  rw [List.length_map] at q2
  obtain ⟨qq, rfl⟩ : ∃ a : Nat, q0 = (a : Int) := ⟨q0.toNat, by omega⟩
  have hq : qq < ts.length := by omega
  have hq1 : ts[qq]? = some ts[qq] := List.getElem?_eq_getElem hq
  have hq2 := (ht _ (List.getElem_mem hq)).2.1
  refine as_norm (S' := [_, _, some (.int wd), some (.ref x), some (.tup (ts.map D.str)), some (.int (qq : Int)), some bad, some wr, some (.int ix), some (.int kk), some (.ref lc), some (.tup ((ofs wd ts).map D.int)), _, _, _]) rfl ?_
  have hK144 := tabK_ex (e40.trans (e41.trans (e143))) hK142
  refine as_cut (P := fun F' ms' S' => ms' = E10 ++ MB l T.pp_law R0 st8 tb140 ∧ S' = [some (.rdl (ns.map D.int)), some (.ref l), some (.int wd), some (.ref x), some (.tup (ts.map D.str)), some (.int (qq : Int)), some bad, some wr, some (.int ix), some (.int kk), some (.ref lc), some (.tup ((ofs wd ts).map D.int)), none, some (.int (wd - (ts[qq].length : Int) + 1)), none]) ?_ ?_
  · walk_at "al"
    refine ar_ixT (d := .str ts[qq]) (atI_of (j := qq) rfl (by rw [List.getElem?_map, hq1]; rfl)) ?_
    walk_at "al"
    refine ac_lenS (z := ts[qq]) (by omega) ?_
    walk_at "al"
    exact ⟨rfl, rfl⟩
  rintro F48 _ _ e48 ⟨rfl, rfl⟩
  have hK145 := tabK_ex (e48) hK144
  refine as_cut (P := fun F' ms' S' => ∃ (st' : List D) (od : D), ms' = E10 ++ MB l T.pp_law R0 st' tb140 ∧ St st' ∧ kd od ∧ (∀ t, ts[qq]? = some t → intIn od 0 (wd - (t.length : Int)) = false) ∧ S' = [some (.rdl (ns.map D.int)), some (.ref l), some (.int wd), some (.ref x), some (.tup (ts.map D.str)), some (.int (qq : Int)), some bad, some wr, some (.int ix), some (.int kk), some (.ref lc), some (.tup ((ofs wd ts).map D.int)), none, some od, none]) ?_ ?_
  · walk_at "al"
    refine ⟨_, l, st8, 2, rfl, mb_l, hst8, by decide, by decide, fun st9 b2 hst9 _ _ => ?_⟩
    rw [mb_setl]
    walk_at "al"
    by_cases hb2 : b2 = 0
    · refine and_dT hb2 ?_
      walk_at "al"
      refine ae_lstF ?_
      walk_at "al"
      refine ae_tup ?_
      walk_at "al"
      refine ⟨by simp, fun F146 e146 => ?_⟩
      walk_at "al"
      refine ⟨by simp, fun F147 e147 => ?_⟩
      walk_at "al"
      refine ⟨_, l, st9, 5, rfl, mb_l, hst9, by decide, by decide, fun st10 r10 hst10 r100 r101 => ?_⟩
      rw [mb_setl]
      obtain ⟨od, hod, kod, iod⟩ := odx_at r100 r101
      refine ar_ixL (d := od) hod ?_
      exact ⟨st10, od, rfl, hst10, kod, fun t _ => iod _, rfl⟩
    · refine and_dF hb2 ?_
      walk_at "al"
      refine ⟨st9, .int (wd - (ts[qq].length : Int) + 1), rfl, hst9, .inr (.inr (.inl ⟨_, rfl⟩)), fun t h => ?_, rfl⟩
      rw [hq1] at h
      rw [← Option.some.inj h]
      show (decide (0 ≤ wd - (ts[qq].length : Int) + 1) && decide (wd - (ts[qq].length : Int) + 1 ≤ wd - (ts[qq].length : Int))) = false
      rw [decide_eq_false (by omega : ¬ (wd - (ts[qq].length : Int) + 1 ≤ wd - (ts[qq].length : Int))), Bool.and_false]
  rintro F50 _ _ e50 ⟨st11, od, rfl, hst11, kod, hod, rfl⟩
  have hco : ∀ lo hi, (cutL ((ofs wd ts).map D.int) lo hi).length ≤ 4 := fun lo hi => by unfold cutL; rw [List.length_take, List.length_drop, List.length_map, ofs_len]; omega
  walk_at "al"
  refine ae_lstF ?_
  walk_at "al"
  refine ae_tup ?_
  walk_at "al"
  refine ae_sl ?_
  walk_at "al"
  refine ao_none ?_
  refine ao_some ?_
  walk_at "al"
  refine sl_T fun F148 e148 => ?_
  walk_at "al"
  refine ae_tup ?_
  walk_at "al"
  refine ⟨by simp, fun F149 e149 => ?_⟩
  refine ar_ADDt (by have := hco none (some (qq : Int)); simp only [List.length_cons, List.length_nil]; omega) fun F150 e150 => ?_
  walk_at "al"
  refine ⟨by simp, fun F151 e151 => ?_⟩
  walk_at "al"
  refine ae_tup ?_
  walk_at "al"
  refine ae_sl ?_
  walk_at "al"
  refine ao_none ?_
  refine ao_some ?_
  walk_at "al"
  refine sl_T fun F152 e152 => ?_
  walk_at "al"
  refine ⟨by simp, fun F153 e153 => ?_⟩
  walk_at "al"
  refine ae_tup ?_
  walk_at "al"
  refine ae_tup ?_
  walk_at "al"
  refine ⟨by simp, fun F154 e154 => ?_⟩
  refine ar_ADDt (by rw [List.length_map, ofs_len]; simp only [List.length_cons, List.length_nil]; omega) fun F155 e155 => ?_
  walk_at "al"
  refine ⟨by simp, fun F156 e156 => ?_⟩
  walk_at "al"
  refine ae_tup ?_
  walk_at "al"
  refine ⟨by simp, fun F157 e157 => ?_⟩
  walk_at "al"
  refine ⟨by simp, fun F158 e158 => ?_⟩
  rw [show (List.map D.str ts).length = ts.length from List.length_map ..]
  refine as_norm (S' := [_, _, some (.int wd), some (.ref x), some (.tup (ts.map D.str)), some (.int (qq : Int)), some bad, some wr, some (.int ix), some (.int kk), some (.ref lc), some (.tup ((ofs wd ts).map D.int)), _, some od, some (.lst (OC4 wd ts qq od))]) rfl ?_
  walk_at "al"
  refine as_asgG ?_
  walk_at "al"
  refine ae_lstF ?_
  walk_at "al"
  refine ae_tup ?_
  walk_at "al"
  refine ac_listF (.inr rfl) fun F159 e159 => ?_
  walk_at "al"
  refine ⟨by simp, fun F160 e160 => ?_⟩
  walk_at "al"
  refine ar_ixL (d := OC0 wd ts qq od) rfl ?_
  walk_at "al"
  refine ar_ixL (d := OC0 wd ts qq od) rfl ?_
  walk_at "al"
  refine ⟨by simp, fun F161 e161 => ?_⟩
  refine ar_ADDl (Nat.le_of_ble_eq_true rfl) fun F162 e162 => ?_
  walk_at "al"
  refine ⟨_, l, st11, 7, rfl, mb_l, hst11, by decide, by decide, fun st12 r12 hst12 r120 r121 => ?_⟩
  rw [mb_setl]
  obtain ⟨wr2, ix2, hix2, hb2⟩ := ocas_at hq ht4 ht kod hod r120 r121
  refine ar_ixL (d := .tup [wr2, .int ix2]) hix2 ?_
  refine ag_tup rfl ?_
  refine ags_cons (ag_name ?_)
  refine ags_cons (ag_name ?_)
  refine ags_nil ?_
  refine as_norm (S' := [_, _, some (.int wd), some (.ref x), some (.tup (ts.map D.str)), some (.int (qq : Int)), some bad, some wr2, some (.int ix2), some (.int kk), some (.ref lc), some (.tup ((ofs wd ts).map D.int)), _, some od, some (.lst (OC4 wd ts qq od))]) rfl ?_
  have hK163 := tabK_ex (e50.trans (e148.trans (e149.trans (e150.trans (e151.trans (e152.trans (e153.trans (e154.trans (e155.trans (e156.trans (e157.trans (e158.trans (e159.trans (e160.trans (e161.trans (e162)))))))))))))))) hK145
  walk_at "al"
  refine ae_lstF ?_
  walk_at "al"
  refine ae_lamE (n := E10.length + 1) (tab_of hK163 rfl) fun F164 ms164 f21 e164 hT164 hm164 L21 => ?_
  obtain ⟨tb164, rfl⟩ := hm164
  rw [mb_setP] at hT164 ⊢
  have hK164 := tab_back hT164
  walk_at "al"
  refine ae_lamE (n := E10.length + 1) (tab_of hK164 rfl) fun F165 ms165 f22 e165 hT165 hm165 L22 => ?_
  obtain ⟨tb165, rfl⟩ := hm165
  rw [mb_setP] at hT165 ⊢
  have hK165 := tab_back hT165
  walk_at "al"
  refine ⟨by simp, fun F166 e166 => ?_⟩
  have hK166 := tabK_ex e166 hK165
  refine as_norm (S' := [_, _, some (.int wd), some (.ref x), some (.tup (ts.map D.str)), some (.int (qq : Int)), some bad, some wr2, some (.int ix2), some (.int kk), some (.lst [.ref f21, .ref f22]), some (.tup ((ofs wd ts).map D.int)), _, some od, some (.lst (OC4 wd ts qq od))]) rfl ?_
  have hSM : Sgn T.c_Sign (E10 ++ MB l T.pp_law R0 st12 tb165) x wd MWP := sgn_l hS10
  walk_at "al"
  refine ae_callR ?_
  walk_at "al"
  refine ae_tup ?_
  walk_at "al"
  refine ⟨by simp, fun F167 e167 => ?_⟩
  walk_at "al"
  intro σ hσ
  refine ⟨.lst [.ref f21, .ref f22], .tup [.str "offset", .int ix2], [f21, f22], fun _ ms' => ms' = E10 ++ MB l T.pp_law R0 st12 tb165, rfl, Nat.le_of_ble_eq_true rfl, okT "offset" (by decide +kernel) ix2, Nat.le_of_ble_eq_true rfl, fun F' ms' e hJ => .inl (.inl rfl), rfl, fun _ _ _ _ _ hJ => hJ, fun f hf F' ms' e hJ => ?_, fun F' ms' e hJ => ?_⟩
  · rw [hJ]
    simp only [List.mem_cons, List.not_mem_nil, or_false] at hf
    rcases hf with rfl | rfl
    · refine ⟨_, _, _, rfl, L21.ex (e165.trans (e166.trans (e167.trans (e)))), hσ.mono e, fun E => ?_⟩
      walk_at "al"
      exact ⟨x, wd, MWP, _, wr2, rfl, hSM, by omega, by omega, .inr ⟨_, ix2, .inr ⟨ts, rfl, ht1, by omega, ht, hb2, rfl⟩, fun F'' e'' => ⟨.tup [.str "offset", .int ix2], .inr ⟨rfl, ix2, rfl, rfl⟩, fun F2 e2 => ⟨rfl, rfl⟩⟩⟩⟩
    · refine ⟨_, _, _, rfl, L22.ex (e166.trans (e167.trans (e))), hσ.mono e, fun E => ?_⟩
      walk_at "al"
      exact ⟨x, wd, MWP, _, wr2, _, ix2, rfl, hSM, by omega, by omega, .inr ⟨ts, rfl, ht1, by omega, ht, hb2, rfl⟩, fun F'' e'' => ⟨.tup [.str "offset", .int ix2], .inr ⟨rfl, ix2, rfl, rfl⟩, fun F2 e2 => ⟨rfl, rfl⟩⟩⟩
  rw [hJ]
  walk_at "al"
  refine ⟨x, wd, MWP, _, _, rfl, hSM, by omega, by omega, .inl ⟨ts, ofs wd ts, rfl, rfl, ⟨by omega, by omega, by decide, mw_ok.1, mw_ok.2, ht1, by omega, ht⟩, ofs_ok ht, fun F60 e60 => ?_⟩⟩
  unfold cD
  walk_at "al"
  exact q _ _
end

section
variable {P : Program} {w : World} {K : Frg} {mg : Str → Option Value} {base : Heap}
theorem all_ok (T : Txt K mg) : OK_law P w base T :=
  have h1 : OK__law_below P w base T := ok__law_below T
  have h2 : OK_InvalidText___init__ P w base T := ok_InvalidText___init__ T
  have h3 : OK_InvalidOffset___init__ P w base T := ok_InvalidOffset___init__ T
  have hi : OK_is_int_in P w base T := ok_is_int_in T
  have h4 : OK_Sign___init__ P w base T := ok_Sign___init__ T hi (ok_is_pair T)
  have h5 : OK_Sign_check_texts P w base T := ok_Sign_check_texts T (ok_Sign_is_text T) h2
  have h6 : OK_check_offsets P w base T := ok_check_offsets T hi h3
  have h9 : OK_Sign_piece P w base T := ok_Sign_piece T
  have hco : OK_cost P w base T := ok_cost T h9 (ok_links T h9) (ok_surplus T) (ok_groups T (ok_shares T)) (ok_is_closed T)
  have hfc : OK_fixed_cost P w base T := ok_fixed_cost T h5 h6 (ok_Sign_blank T) (ok_Sign_row_of T) hco (ok_add T)
  have hsc : OK_season_cost P w base T := ok_season_cost T h5
  have hne : OK_needed_letters P w base T := ok_needed_letters T h5
  ok_law T h4 (ok_Watcher___init__ T h5) hfc hsc (ok_best_offsets T h5) (ok_count_best T h5) hne (ok_missing_letters T hne) (ok_best_order T h5) (ok_needless_pairs T hsc) (ok_format_season T h5 h6) (ok_encode T h5) (ok__law_random T) h1 (ok__law_texts T h1 (ok__law_text T h1))
end
theorem all_mk {l : PySem.W.OpenLaw} {w : World} {K : PySem.W.Frag} {h : Heap} {mg : Str → Option Value} {fa : Addr}
    {c_Sign : Addr}
    {c_Watcher : Addr}
    {c_SignError : Addr}
    {c_InvalidStock : Addr}
    {c_TooMany : Addr}
    {c_InvalidCount : Addr}
    {c_Contradiction : Addr}
    {c_InvalidName : Addr}
    {c_UnknownName : Addr}
    {c_NotEnough : Addr}
    {c_InvalidSign : Addr}
    {c_InvalidRow : Addr}
    {c_InvalidText : Addr}
    {c_InvalidOffset : Addr}
    {c_InvalidMove : Addr}
    {c_Unreadable : Addr}
    {c_InvalidCode : Addr}
    {c_InvalidOperation : Addr}
    {nm_InvalidText q_InvalidText : Str} {N_InvalidText : Addr} {bs_InvalidText : List Value} {sn_InvalidText : List Str} {su_InvalidText : List Value} {ab_InvalidText : Bool} {co_InvalidText : Option Bool} {dd_InvalidText : Option Addr} {k0_InvalidText k1_InvalidText k2_InvalidText k3_InvalidText k5_InvalidText : Option Value}
    {nm_InvalidOffset q_InvalidOffset : Str} {N_InvalidOffset : Addr} {bs_InvalidOffset : List Value} {sn_InvalidOffset : List Str} {su_InvalidOffset : List Value} {ab_InvalidOffset : Bool} {co_InvalidOffset : Option Bool} {dd_InvalidOffset : Option Addr} {k0_InvalidOffset k1_InvalidOffset k2_InvalidOffset k3_InvalidOffset k5_InvalidOffset : Option Value}
    {a0 : Addr} {od0 an0 : Option Addr} {sl0 : Array (Option Value)} {oc0 kV0 dc0 pm0 cd0 ct0 : Value}
    {a1 : Addr} {od1 an1 : Option Addr} {sl1 : Array (Option Value)} {oc1 kV1 dc1 pm1 cd1 ct1 : Value}
    {a2 : Addr} {od2 an2 : Option Addr} {sl2 : Array (Option Value)} {oc2 kV2 dc2 pm2 cd2 ct2 : Value}
    {tT2 tz2 : Addr} {odT2 odz2 : Option Addr} {nT2 nz2 : Nat} {slT2 slz2 : Array (Option Value)}
    {a3 : Addr} {od3 an3 : Option Addr} {sl3 : Array (Option Value)} {oc3 kV3 dc3 pm3 cd3 ct3 : Value}
    {p3 : Addr} {rs3 : List Value}
    {a4 : Addr} {od4 an4 : Option Addr} {sl4 : Array (Option Value)} {oc4 kV4 dc4 pm4 cd4 ct4 : Value}
    {a5 : Addr} {od5 an5 : Option Addr} {sl5 : Array (Option Value)} {oc5 kV5 dc5 pm5 cd5 ct5 : Value}
    {a6 : Addr} {od6 an6 : Option Addr} {sl6 : Array (Option Value)} {oc6 kV6 dc6 pm6 cd6 ct6 : Value}
    {a7 : Addr} {od7 an7 : Option Addr} {sl7 : Array (Option Value)} {oc7 kV7 dc7 pm7 cd7 ct7 : Value}
    {a8 : Addr} {od8 an8 : Option Addr} {sl8 : Array (Option Value)} {oc8 kV8 dc8 pm8 cd8 ct8 : Value}
    {a9 : Addr} {od9 an9 : Option Addr} {sl9 : Array (Option Value)} {oc9 kV9 dc9 pm9 cd9 ct9 : Value}
    {a10 : Addr} {od10 an10 : Option Addr} {sl10 : Array (Option Value)} {oc10 kV10 dc10 pm10 cd10 ct10 : Value}
    {a11 : Addr} {od11 an11 : Option Addr} {sl11 : Array (Option Value)} {oc11 kV11 dc11 pm11 cd11 ct11 : Value}
    {a12 : Addr} {od12 an12 : Option Addr} {sl12 : Array (Option Value)} {oc12 kV12 dc12 pm12 cd12 ct12 : Value}
    {a13 : Addr} {od13 an13 : Option Addr} {sl13 : Array (Option Value)} {oc13 kV13 dc13 pm13 cd13 ct13 : Value}
    {a14 : Addr} {od14 an14 : Option Addr} {sl14 : Array (Option Value)} {oc14 kV14 dc14 pm14 cd14 ct14 : Value}
    {a15 : Addr} {od15 an15 : Option Addr} {sl15 : Array (Option Value)} {oc15 kV15 dc15 pm15 cd15 ct15 : Value}
    {a16 : Addr} {od16 an16 : Option Addr} {sl16 : Array (Option Value)} {oc16 kV16 dc16 pm16 cd16 ct16 : Value}
    {a17 : Addr} {od17 an17 : Option Addr} {sl17 : Array (Option Value)} {oc17 kV17 dc17 pm17 cd17 ct17 : Value}
    {a18 : Addr} {od18 an18 : Option Addr} {sl18 : Array (Option Value)} {oc18 kV18 dc18 pm18 cd18 ct18 : Value}
    {a19 : Addr} {od19 an19 : Option Addr} {sl19 : Array (Option Value)} {oc19 kV19 dc19 pm19 cd19 ct19 : Value}
    {a20 : Addr} {od20 an20 : Option Addr} {sl20 : Array (Option Value)} {oc20 kV20 dc20 pm20 cd20 ct20 : Value}
    {a21 : Addr} {od21 an21 : Option Addr} {sl21 : Array (Option Value)} {oc21 kV21 dc21 pm21 cd21 ct21 : Value}
    {a22 : Addr} {od22 an22 : Option Addr} {sl22 : Array (Option Value)} {oc22 kV22 dc22 pm22 cd22 ct22 : Value}
    {a23 : Addr} {od23 an23 : Option Addr} {sl23 : Array (Option Value)} {oc23 kV23 dc23 pm23 cd23 ct23 : Value}
    {a24 : Addr} {od24 an24 : Option Addr} {sl24 : Array (Option Value)} {oc24 kV24 dc24 pm24 cd24 ct24 : Value}
    {a25 : Addr} {od25 an25 : Option Addr} {sl25 : Array (Option Value)} {oc25 kV25 dc25 pm25 cd25 ct25 : Value}
    {a26 : Addr} {od26 an26 : Option Addr} {sl26 : Array (Option Value)} {oc26 kV26 dc26 pm26 cd26 ct26 : Value}
    {a27 : Addr} {od27 an27 : Option Addr} {sl27 : Array (Option Value)} {oc27 kV27 dc27 pm27 cd27 ct27 : Value}
    {a28 : Addr} {od28 an28 : Option Addr} {sl28 : Array (Option Value)} {oc28 kV28 dc28 pm28 cd28 ct28 : Value}
    {a29 : Addr} {od29 an29 : Option Addr} {sl29 : Array (Option Value)} {oc29 kV29 dc29 pm29 cd29 ct29 : Value}
    {a30 : Addr} {od30 an30 : Option Addr} {sl30 : Array (Option Value)} {oc30 kV30 dc30 pm30 cd30 ct30 : Value}
    {a31 : Addr} {od31 an31 : Option Addr} {sl31 : Array (Option Value)} {oc31 kV31 dc31 pm31 cd31 ct31 : Value}
    {a32 : Addr} {od32 an32 : Option Addr} {sl32 : Array (Option Value)} {oc32 kV32 dc32 pm32 cd32 ct32 : Value}
    {a33 : Addr} {od33 an33 : Option Addr} {sl33 : Array (Option Value)} {oc33 kV33 dc33 pm33 cd33 ct33 : Value}
    {a34 : Addr} {od34 an34 : Option Addr} {sl34 : Array (Option Value)} {oc34 kV34 dc34 pm34 cd34 ct34 : Value}
    {a35 : Addr} {od35 an35 : Option Addr} {sl35 : Array (Option Value)} {oc35 kV35 dc35 pm35 ct35 : Value}
    {ccL ppL : Addr} {eL : Value} {ddL : Option Addr} {vsL : Array Value} {slL : Array (Option Value)}
    {t_BLANK : Tok}
    {t_LETTERS : Tok}
    {t_MAX_PAIRS : Tok}
    {t_MAX_TEXTS : Tok}
    {t_MAX_WIDTH : Tok} (X : K.In h) (G : h.Ns mainGlobals mg) (hfa : mg "law" = some (.ref fa)) (own : LamX.OwnTab K fa h)
    (hc_Sign : PySem.W.nsIn K mainGlobals "Sign" = some (some (.ref c_Sign)))
    (pg_Sign : PySem.W.plainGet K c_Sign Str.empty = true)
    (hd_Sign : PySem.W.hasDictIn K c_Sign = true)
    (po_Sign : PySem.W.plainOver K c_Sign = true)
    (sa_Sign : PySem.W.findIn K (.ref c_Sign) "__setattr__" = some (some (.builtin "object.__setattr__")))
    (mk_Sign : PySem.W.makesIn K c_Sign = true)
    (kc_Sign : PySem.W.keepIn K (.ref c_Sign) = true)
    (n_Sign_width : PySem.W.findIn K (.ref c_Sign) "width" = some none)
    (n_Sign_pairs : PySem.W.findIn K (.ref c_Sign) "pairs" = some none)
    (n_Sign_mates : PySem.W.findIn K (.ref c_Sign) "mates" = some none)
    (hc_Watcher : PySem.W.nsIn K mainGlobals "Watcher" = some (some (.ref c_Watcher)))
    (pg_Watcher : PySem.W.plainGet K c_Watcher Str.empty = true)
    (hd_Watcher : PySem.W.hasDictIn K c_Watcher = true)
    (po_Watcher : PySem.W.plainOver K c_Watcher = true)
    (sa_Watcher : PySem.W.findIn K (.ref c_Watcher) "__setattr__" = some (some (.builtin "object.__setattr__")))
    (mk_Watcher : PySem.W.makesIn K c_Watcher = true)
    (kc_Watcher : PySem.W.keepIn K (.ref c_Watcher) = true)
    (hc_SignError : PySem.W.nsIn K mainGlobals "SignError" = some (some (.ref c_SignError)))
    (hc_InvalidStock : PySem.W.nsIn K mainGlobals "InvalidStock" = some (some (.ref c_InvalidStock)))
    (hc_TooMany : PySem.W.nsIn K mainGlobals "TooMany" = some (some (.ref c_TooMany)))
    (hc_InvalidCount : PySem.W.nsIn K mainGlobals "InvalidCount" = some (some (.ref c_InvalidCount)))
    (hc_Contradiction : PySem.W.nsIn K mainGlobals "Contradiction" = some (some (.ref c_Contradiction)))
    (hc_InvalidName : PySem.W.nsIn K mainGlobals "InvalidName" = some (some (.ref c_InvalidName)))
    (hc_UnknownName : PySem.W.nsIn K mainGlobals "UnknownName" = some (some (.ref c_UnknownName)))
    (hc_NotEnough : PySem.W.nsIn K mainGlobals "NotEnough" = some (some (.ref c_NotEnough)))
    (hc_InvalidSign : PySem.W.nsIn K mainGlobals "InvalidSign" = some (some (.ref c_InvalidSign)))
    (hc_InvalidRow : PySem.W.nsIn K mainGlobals "InvalidRow" = some (some (.ref c_InvalidRow)))
    (hc_InvalidText : PySem.W.nsIn K mainGlobals "InvalidText" = some (some (.ref c_InvalidText)))
    (hc_InvalidOffset : PySem.W.nsIn K mainGlobals "InvalidOffset" = some (some (.ref c_InvalidOffset)))
    (hc_InvalidMove : PySem.W.nsIn K mainGlobals "InvalidMove" = some (some (.ref c_InvalidMove)))
    (hc_Unreadable : PySem.W.nsIn K mainGlobals "Unreadable" = some (some (.ref c_Unreadable)))
    (hc_InvalidCode : PySem.W.nsIn K mainGlobals "InvalidCode" = some (some (.ref c_InvalidCode)))
    (hc_InvalidOperation : PySem.W.nsIn K mainGlobals "InvalidOperation" = some (some (.ref c_InvalidOperation)))
    (eg_InvalidText : PySem.W.findIn K (.ref c_InvalidText) "__getattribute__" = some (some (.builtin "BaseException.__getattribute__")))
    (ek_InvalidText : PySem.W.findIn K (.ref c_InvalidText) "__getattr__" = some none)
    (es_InvalidText : PySem.W.subIn K (.ref c_InvalidText) (.type "BaseException") = some true)
    (ed_InvalidText : PySem.W.hasDictIn K c_InvalidText = true)
    (ea_InvalidText : PySem.W.findIn K (.ref c_InvalidText) "__class__" = some (some (.builtin "object.__class__")))
    (en_InvalidText : PySem.W.specialIn K (.builtin "object.__class__") "__get__" = some (some (.builtin "getset_descriptor.__get__")))
    (et_InvalidText : PySem.W.takesIn K (.builtin "object.__class__") = some true)
    (em_InvalidText : PySem.W.mroIn K c_InvalidText (.type "object") = some true)
    (sx_InvalidText : PySem.W.exmOne K (.ref c_InvalidText) (.ref c_SignError) = some true)
    (ki_InvalidText_InvalidStock : PySem.W.kitOne K (.ref c_InvalidText) (.ref c_InvalidStock) = some false)
    (ki_InvalidText_TooMany : PySem.W.kitOne K (.ref c_InvalidText) (.ref c_TooMany) = some false)
    (ki_InvalidText_InvalidCount : PySem.W.kitOne K (.ref c_InvalidText) (.ref c_InvalidCount) = some false)
    (ki_InvalidText_Contradiction : PySem.W.kitOne K (.ref c_InvalidText) (.ref c_Contradiction) = some false)
    (ki_InvalidText_InvalidName : PySem.W.kitOne K (.ref c_InvalidText) (.ref c_InvalidName) = some false)
    (ki_InvalidText_UnknownName : PySem.W.kitOne K (.ref c_InvalidText) (.ref c_UnknownName) = some false)
    (ki_InvalidText_NotEnough : PySem.W.kitOne K (.ref c_InvalidText) (.ref c_NotEnough) = some false)
    (ki_InvalidText_InvalidSign : PySem.W.kitOne K (.ref c_InvalidText) (.ref c_InvalidSign) = some false)
    (ki_InvalidText_InvalidRow : PySem.W.kitOne K (.ref c_InvalidText) (.ref c_InvalidRow) = some false)
    (ki_InvalidText_InvalidText : PySem.W.kitOne K (.ref c_InvalidText) (.ref c_InvalidText) = some true)
    (ki_InvalidText_InvalidOffset : PySem.W.kitOne K (.ref c_InvalidText) (.ref c_InvalidOffset) = some false)
    (ki_InvalidText_InvalidMove : PySem.W.kitOne K (.ref c_InvalidText) (.ref c_InvalidMove) = some false)
    (ki_InvalidText_Unreadable : PySem.W.kitOne K (.ref c_InvalidText) (.ref c_Unreadable) = some false)
    (ki_InvalidText_InvalidCode : PySem.W.kitOne K (.ref c_InvalidText) (.ref c_InvalidCode) = some false)
    (ki_InvalidText_InvalidOperation : PySem.W.kitOne K (.ref c_InvalidText) (.ref c_InvalidOperation) = some false)
    (kv_InvalidText : PySem.W.kitOne K (.ref c_InvalidText) (.type "ValueError") = some true)
    (kk_InvalidText : PySem.W.keepIn K (.ref c_InvalidText) = true)
    (ty_InvalidText : PySem.W.typeIn K (.ref c_InvalidText) = some (.type "type"))
    (ns_InvalidText : PySem.W.subIn K (.ref c_InvalidText) (.type "StopIteration") = some false)
    (nx_InvalidText_index : PySem.W.findIn K (.ref c_InvalidText) "index" = some none)
    (eg_InvalidOffset : PySem.W.findIn K (.ref c_InvalidOffset) "__getattribute__" = some (some (.builtin "BaseException.__getattribute__")))
    (ek_InvalidOffset : PySem.W.findIn K (.ref c_InvalidOffset) "__getattr__" = some none)
    (es_InvalidOffset : PySem.W.subIn K (.ref c_InvalidOffset) (.type "BaseException") = some true)
    (ed_InvalidOffset : PySem.W.hasDictIn K c_InvalidOffset = true)
    (ea_InvalidOffset : PySem.W.findIn K (.ref c_InvalidOffset) "__class__" = some (some (.builtin "object.__class__")))
    (en_InvalidOffset : PySem.W.specialIn K (.builtin "object.__class__") "__get__" = some (some (.builtin "getset_descriptor.__get__")))
    (et_InvalidOffset : PySem.W.takesIn K (.builtin "object.__class__") = some true)
    (em_InvalidOffset : PySem.W.mroIn K c_InvalidOffset (.type "object") = some true)
    (sx_InvalidOffset : PySem.W.exmOne K (.ref c_InvalidOffset) (.ref c_SignError) = some true)
    (ki_InvalidOffset_InvalidStock : PySem.W.kitOne K (.ref c_InvalidOffset) (.ref c_InvalidStock) = some false)
    (ki_InvalidOffset_TooMany : PySem.W.kitOne K (.ref c_InvalidOffset) (.ref c_TooMany) = some false)
    (ki_InvalidOffset_InvalidCount : PySem.W.kitOne K (.ref c_InvalidOffset) (.ref c_InvalidCount) = some false)
    (ki_InvalidOffset_Contradiction : PySem.W.kitOne K (.ref c_InvalidOffset) (.ref c_Contradiction) = some false)
    (ki_InvalidOffset_InvalidName : PySem.W.kitOne K (.ref c_InvalidOffset) (.ref c_InvalidName) = some false)
    (ki_InvalidOffset_UnknownName : PySem.W.kitOne K (.ref c_InvalidOffset) (.ref c_UnknownName) = some false)
    (ki_InvalidOffset_NotEnough : PySem.W.kitOne K (.ref c_InvalidOffset) (.ref c_NotEnough) = some false)
    (ki_InvalidOffset_InvalidSign : PySem.W.kitOne K (.ref c_InvalidOffset) (.ref c_InvalidSign) = some false)
    (ki_InvalidOffset_InvalidRow : PySem.W.kitOne K (.ref c_InvalidOffset) (.ref c_InvalidRow) = some false)
    (ki_InvalidOffset_InvalidText : PySem.W.kitOne K (.ref c_InvalidOffset) (.ref c_InvalidText) = some false)
    (ki_InvalidOffset_InvalidOffset : PySem.W.kitOne K (.ref c_InvalidOffset) (.ref c_InvalidOffset) = some true)
    (ki_InvalidOffset_InvalidMove : PySem.W.kitOne K (.ref c_InvalidOffset) (.ref c_InvalidMove) = some false)
    (ki_InvalidOffset_Unreadable : PySem.W.kitOne K (.ref c_InvalidOffset) (.ref c_Unreadable) = some false)
    (ki_InvalidOffset_InvalidCode : PySem.W.kitOne K (.ref c_InvalidOffset) (.ref c_InvalidCode) = some false)
    (ki_InvalidOffset_InvalidOperation : PySem.W.kitOne K (.ref c_InvalidOffset) (.ref c_InvalidOperation) = some false)
    (kv_InvalidOffset : PySem.W.kitOne K (.ref c_InvalidOffset) (.type "ValueError") = some true)
    (kk_InvalidOffset : PySem.W.keepIn K (.ref c_InvalidOffset) = true)
    (ty_InvalidOffset : PySem.W.typeIn K (.ref c_InvalidOffset) = some (.type "type"))
    (ns_InvalidOffset : PySem.W.subIn K (.ref c_InvalidOffset) (.type "StopIteration") = some false)
    (nx_InvalidOffset_index : PySem.W.findIn K (.ref c_InvalidOffset) "index" = some none)
    (br_S : PySem.W.readsIn K c_SignError (.type "type") = true)
    (bg_S : PySem.W.specialIn K (.ref c_SignError) "__getattribute__" = some (some (.builtin "type.__getattribute__")))
    (bf_S : PySem.W.findCls K (.ref c_SignError) (.type "type") "__init__" = some (.val (.builtin "ValueError.__init__")))
    (xl_InvalidText : K.lookup c_InvalidText = some (PySem.excClassObj nm_InvalidText q_InvalidText c_InvalidText N_InvalidText bs_InvalidText [.ref c_SignError, .type "ValueError", .type "Exception", .type "BaseException", .type "object"] true sn_InvalidText su_InvalidText ab_InvalidText co_InvalidText dd_InvalidText k0_InvalidText k1_InvalidText k2_InvalidText k3_InvalidText k5_InvalidText "ValueError.__new__"))
    (sa_InvalidText : PySem.W.findIn K (.ref c_InvalidText) "__setattr__" = some (some (.builtin "object.__setattr__")))
    (xl_InvalidOffset : K.lookup c_InvalidOffset = some (PySem.excClassObj nm_InvalidOffset q_InvalidOffset c_InvalidOffset N_InvalidOffset bs_InvalidOffset [.ref c_SignError, .type "ValueError", .type "Exception", .type "BaseException", .type "object"] true sn_InvalidOffset su_InvalidOffset ab_InvalidOffset co_InvalidOffset dd_InvalidOffset k0_InvalidOffset k1_InvalidOffset k2_InvalidOffset k3_InvalidOffset k5_InvalidOffset "ValueError.__new__"))
    (sa_InvalidOffset : PySem.W.findIn K (.ref c_InvalidOffset) "__setattr__" = some (some (.builtin "object.__setattr__")))
    (h0 : PySem.W.nsIn K mainGlobals "is_int_in" = some (some (.ref a0)))
    (l0 : K.lookup a0 = some ⟨oc0, od0, .func (PySem.W.fnOf "is_int_in" "is_int_in" (defArgs s_is_int_in) (defBody s_is_int_in) (defScope s_is_int_in) .none kV0 dc0 pm0 an0 cd0 ct0), sl0⟩)
    (cd_0 : PySem.W.codeIn K cd0 "is_int_in" = true)
    (k0 : PySem.W.keepIn K (.ref a0) = true)
    (h1 : PySem.W.nsIn K mainGlobals "is_pair" = some (some (.ref a1)))
    (l1 : K.lookup a1 = some ⟨oc1, od1, .func (PySem.W.fnOf "is_pair" "is_pair" (defArgs s_is_pair) (defBody s_is_pair) (defScope s_is_pair) .none kV1 dc1 pm1 an1 cd1 ct1), sl1⟩)
    (cd_1 : PySem.W.codeIn K cd1 "is_pair" = true)
    (k1 : PySem.W.keepIn K (.ref a1) = true)
    (h2 : PySem.W.findIn K (.ref c_Sign) "__init__" = some (some (.ref a2)))
    (i2 : PySem.W.isFn K (.ref a2) = true)
    (l2 : K.lookup a2 = some ⟨oc2, od2, .func (PySem.W.fnOf "__init__" "Sign.__init__" (defArgs s_Sign___init__) (defBody s_Sign___init__) (defScope s_Sign___init__) (.ref tT2) kV2 dc2 pm2 an2 cd2 ct2), sl2⟩)
    (cd_2 : PySem.W.codeIn K cd2 "Sign.__init__" = true)
    (k2 : PySem.W.keepIn K (.ref a2) = true)
    (hT2 : K.lookup tT2 = some ⟨.type "tuple", odT2, .seq #[.ref tz2] nT2, slT2⟩)
    (hz2 : K.lookup tz2 = some ⟨.type "tuple", odz2, .seq #[] nz2, slz2⟩)
    (h3 : PySem.W.findIn K (.ref c_Sign) "blank" = some (some (.ref p3)))
    (hg3 : PySem.W.specialIn K (.ref p3) "__get__" = some (some (.builtin "property.__get__")))
    (ht3 : PySem.W.takesIn K (.ref p3) = some true)
    (hr3 : PySem.W.recIn K p3 "property" = some (.ref a3 :: rs3))
    (l3 : K.lookup a3 = some ⟨oc3, od3, .func (PySem.W.fnOf "blank" "Sign.blank" (defArgs s_Sign_blank) (defBody s_Sign_blank) (defScope s_Sign_blank) .none kV3 dc3 pm3 an3 cd3 ct3), sl3⟩)
    (cd_3 : PySem.W.codeIn K cd3 "Sign.blank" = true)
    (k3 : PySem.W.keepIn K (.ref a3) = true)
    (h4 : PySem.W.findIn K (.ref c_Sign) "piece" = some (some (.ref a4)))
    (i4 : PySem.W.isFn K (.ref a4) = true)
    (l4 : K.lookup a4 = some ⟨oc4, od4, .func (PySem.W.fnOf "piece" "Sign.piece" (defArgs s_Sign_piece) (defBody s_Sign_piece) (defScope s_Sign_piece) .none kV4 dc4 pm4 an4 cd4 ct4), sl4⟩)
    (cd_4 : PySem.W.codeIn K cd4 "Sign.piece" = true)
    (k4 : PySem.W.keepIn K (.ref a4) = true)
    (h5 : PySem.W.findIn K (.ref c_Sign) "row_of" = some (some (.ref a5)))
    (i5 : PySem.W.isFn K (.ref a5) = true)
    (l5 : K.lookup a5 = some ⟨oc5, od5, .func (PySem.W.fnOf "row_of" "Sign.row_of" (defArgs s_Sign_row_of) (defBody s_Sign_row_of) (defScope s_Sign_row_of) .none kV5 dc5 pm5 an5 cd5 ct5), sl5⟩)
    (cd_5 : PySem.W.codeIn K cd5 "Sign.row_of" = true)
    (k5 : PySem.W.keepIn K (.ref a5) = true)
    (h6 : PySem.W.findIn K (.ref c_Sign) "is_text" = some (some (.ref a6)))
    (i6 : PySem.W.isFn K (.ref a6) = true)
    (l6 : K.lookup a6 = some ⟨oc6, od6, .func (PySem.W.fnOf "is_text" "Sign.is_text" (defArgs s_Sign_is_text) (defBody s_Sign_is_text) (defScope s_Sign_is_text) .none kV6 dc6 pm6 an6 cd6 ct6), sl6⟩)
    (cd_6 : PySem.W.codeIn K cd6 "Sign.is_text" = true)
    (k6 : PySem.W.keepIn K (.ref a6) = true)
    (h7 : PySem.W.findIn K (.ref c_Sign) "check_texts" = some (some (.ref a7)))
    (i7 : PySem.W.isFn K (.ref a7) = true)
    (l7 : K.lookup a7 = some ⟨oc7, od7, .func (PySem.W.fnOf "check_texts" "Sign.check_texts" (defArgs s_Sign_check_texts) (defBody s_Sign_check_texts) (defScope s_Sign_check_texts) .none kV7 dc7 pm7 an7 cd7 ct7), sl7⟩)
    (cd_7 : PySem.W.codeIn K cd7 "Sign.check_texts" = true)
    (k7 : PySem.W.keepIn K (.ref a7) = true)
    (h8 : PySem.W.nsIn K mainGlobals "links" = some (some (.ref a8)))
    (l8 : K.lookup a8 = some ⟨oc8, od8, .func (PySem.W.fnOf "links" "links" (defArgs s_links) (defBody s_links) (defScope s_links) .none kV8 dc8 pm8 an8 cd8 ct8), sl8⟩)
    (cd_8 : PySem.W.codeIn K cd8 "links" = true)
    (k8 : PySem.W.keepIn K (.ref a8) = true)
    (h9 : PySem.W.nsIn K mainGlobals "surplus" = some (some (.ref a9)))
    (l9 : K.lookup a9 = some ⟨oc9, od9, .func (PySem.W.fnOf "surplus" "surplus" (defArgs s_surplus) (defBody s_surplus) (defScope s_surplus) .none kV9 dc9 pm9 an9 cd9 ct9), sl9⟩)
    (cd_9 : PySem.W.codeIn K cd9 "surplus" = true)
    (k9 : PySem.W.keepIn K (.ref a9) = true)
    (h10 : PySem.W.nsIn K mainGlobals "groups" = some (some (.ref a10)))
    (l10 : K.lookup a10 = some ⟨oc10, od10, .func (PySem.W.fnOf "groups" "groups" (defArgs s_groups) (defBody s_groups) (defScope s_groups) .none kV10 dc10 pm10 an10 cd10 ct10), sl10⟩)
    (cd_10 : PySem.W.codeIn K cd10 "groups" = true)
    (k10 : PySem.W.keepIn K (.ref a10) = true)
    (h11 : PySem.W.nsIn K mainGlobals "shares" = some (some (.ref a11)))
    (l11 : K.lookup a11 = some ⟨oc11, od11, .func (PySem.W.fnOf "shares" "shares" (defArgs s_shares) (defBody s_shares) (defScope s_shares) .none kV11 dc11 pm11 an11 cd11 ct11), sl11⟩)
    (cd_11 : PySem.W.codeIn K cd11 "shares" = true)
    (k11 : PySem.W.keepIn K (.ref a11) = true)
    (h12 : PySem.W.nsIn K mainGlobals "is_closed" = some (some (.ref a12)))
    (l12 : K.lookup a12 = some ⟨oc12, od12, .func (PySem.W.fnOf "is_closed" "is_closed" (defArgs s_is_closed) (defBody s_is_closed) (defScope s_is_closed) .none kV12 dc12 pm12 an12 cd12 ct12), sl12⟩)
    (cd_12 : PySem.W.codeIn K cd12 "is_closed" = true)
    (k12 : PySem.W.keepIn K (.ref a12) = true)
    (h13 : PySem.W.nsIn K mainGlobals "cost" = some (some (.ref a13)))
    (l13 : K.lookup a13 = some ⟨oc13, od13, .func (PySem.W.fnOf "cost" "cost" (defArgs s_cost) (defBody s_cost) (defScope s_cost) .none kV13 dc13 pm13 an13 cd13 ct13), sl13⟩)
    (cd_13 : PySem.W.codeIn K cd13 "cost" = true)
    (k13 : PySem.W.keepIn K (.ref a13) = true)
    (h14 : PySem.W.nsIn K mainGlobals "check_offsets" = some (some (.ref a14)))
    (l14 : K.lookup a14 = some ⟨oc14, od14, .func (PySem.W.fnOf "check_offsets" "check_offsets" (defArgs s_check_offsets) (defBody s_check_offsets) (defScope s_check_offsets) .none kV14 dc14 pm14 an14 cd14 ct14), sl14⟩)
    (cd_14 : PySem.W.codeIn K cd14 "check_offsets" = true)
    (k14 : PySem.W.keepIn K (.ref a14) = true)
    (h15 : PySem.W.nsIn K mainGlobals "add" = some (some (.ref a15)))
    (l15 : K.lookup a15 = some ⟨oc15, od15, .func (PySem.W.fnOf "add" "add" (defArgs s_add) (defBody s_add) (defScope s_add) .none kV15 dc15 pm15 an15 cd15 ct15), sl15⟩)
    (cd_15 : PySem.W.codeIn K cd15 "add" = true)
    (k15 : PySem.W.keepIn K (.ref a15) = true)
    (h16 : PySem.W.nsIn K mainGlobals "fixed_cost" = some (some (.ref a16)))
    (l16 : K.lookup a16 = some ⟨oc16, od16, .func (PySem.W.fnOf "fixed_cost" "fixed_cost" (defArgs s_fixed_cost) (defBody s_fixed_cost) (defScope s_fixed_cost) .none kV16 dc16 pm16 an16 cd16 ct16), sl16⟩)
    (cd_16 : PySem.W.codeIn K cd16 "fixed_cost" = true)
    (k16 : PySem.W.keepIn K (.ref a16) = true)
    (h17 : PySem.W.nsIn K mainGlobals "season_cost" = some (some (.ref a17)))
    (l17 : K.lookup a17 = some ⟨oc17, od17, .func (PySem.W.fnOf "season_cost" "season_cost" (defArgs s_season_cost) (defBody s_season_cost) (defScope s_season_cost) .none kV17 dc17 pm17 an17 cd17 ct17), sl17⟩)
    (cd_17 : PySem.W.codeIn K cd17 "season_cost" = true)
    (k17 : PySem.W.keepIn K (.ref a17) = true)
    (h18 : PySem.W.nsIn K mainGlobals "count_best" = some (some (.ref a18)))
    (l18 : K.lookup a18 = some ⟨oc18, od18, .func (PySem.W.fnOf "count_best" "count_best" (defArgs s_count_best) (defBody s_count_best) (defScope s_count_best) .none kV18 dc18 pm18 an18 cd18 ct18), sl18⟩)
    (cd_18 : PySem.W.codeIn K cd18 "count_best" = true)
    (k18 : PySem.W.keepIn K (.ref a18) = true)
    (h19 : PySem.W.nsIn K mainGlobals "best_offsets" = some (some (.ref a19)))
    (l19 : K.lookup a19 = some ⟨oc19, od19, .func (PySem.W.fnOf "best_offsets" "best_offsets" (defArgs s_best_offsets) (defBody s_best_offsets) (defScope s_best_offsets) .none kV19 dc19 pm19 an19 cd19 ct19), sl19⟩)
    (cd_19 : PySem.W.codeIn K cd19 "best_offsets" = true)
    (k19 : PySem.W.keepIn K (.ref a19) = true)
    (h20 : PySem.W.nsIn K mainGlobals "needed_letters" = some (some (.ref a20)))
    (l20 : K.lookup a20 = some ⟨oc20, od20, .func (PySem.W.fnOf "needed_letters" "needed_letters" (defArgs s_needed_letters) (defBody s_needed_letters) (defScope s_needed_letters) .none kV20 dc20 pm20 an20 cd20 ct20), sl20⟩)
    (cd_20 : PySem.W.codeIn K cd20 "needed_letters" = true)
    (k20 : PySem.W.keepIn K (.ref a20) = true)
    (h21 : PySem.W.nsIn K mainGlobals "missing_letters" = some (some (.ref a21)))
    (l21 : K.lookup a21 = some ⟨oc21, od21, .func (PySem.W.fnOf "missing_letters" "missing_letters" (defArgs s_missing_letters) (defBody s_missing_letters) (defScope s_missing_letters) .none kV21 dc21 pm21 an21 cd21 ct21), sl21⟩)
    (cd_21 : PySem.W.codeIn K cd21 "missing_letters" = true)
    (k21 : PySem.W.keepIn K (.ref a21) = true)
    (h22 : PySem.W.nsIn K mainGlobals "best_order" = some (some (.ref a22)))
    (l22 : K.lookup a22 = some ⟨oc22, od22, .func (PySem.W.fnOf "best_order" "best_order" (defArgs s_best_order) (defBody s_best_order) (defScope s_best_order) .none kV22 dc22 pm22 an22 cd22 ct22), sl22⟩)
    (cd_22 : PySem.W.codeIn K cd22 "best_order" = true)
    (k22 : PySem.W.keepIn K (.ref a22) = true)
    (h23 : PySem.W.nsIn K mainGlobals "needless_pairs" = some (some (.ref a23)))
    (l23 : K.lookup a23 = some ⟨oc23, od23, .func (PySem.W.fnOf "needless_pairs" "needless_pairs" (defArgs s_needless_pairs) (defBody s_needless_pairs) (defScope s_needless_pairs) .none kV23 dc23 pm23 an23 cd23 ct23), sl23⟩)
    (cd_23 : PySem.W.codeIn K cd23 "needless_pairs" = true)
    (k23 : PySem.W.keepIn K (.ref a23) = true)
    (h24 : PySem.W.findIn K (.ref c_Watcher) "__init__" = some (some (.ref a24)))
    (i24 : PySem.W.isFn K (.ref a24) = true)
    (l24 : K.lookup a24 = some ⟨oc24, od24, .func (PySem.W.fnOf "__init__" "Watcher.__init__" (defArgs s_Watcher___init__) (defBody s_Watcher___init__) (defScope s_Watcher___init__) .none kV24 dc24 pm24 an24 cd24 ct24), sl24⟩)
    (cd_24 : PySem.W.codeIn K cd24 "Watcher.__init__" = true)
    (k24 : PySem.W.keepIn K (.ref a24) = true)
    (h25 : PySem.W.nsIn K mainGlobals "format_season" = some (some (.ref a25)))
    (l25 : K.lookup a25 = some ⟨oc25, od25, .func (PySem.W.fnOf "format_season" "format_season" (defArgs s_format_season) (defBody s_format_season) (defScope s_format_season) .none kV25 dc25 pm25 an25 cd25 ct25), sl25⟩)
    (cd_25 : PySem.W.codeIn K cd25 "format_season" = true)
    (k25 : PySem.W.keepIn K (.ref a25) = true)
    (h26 : PySem.W.nsIn K mainGlobals "encode" = some (some (.ref a26)))
    (l26 : K.lookup a26 = some ⟨oc26, od26, .func (PySem.W.fnOf "encode" "encode" (defArgs s_encode) (defBody s_encode) (defScope s_encode) .none kV26 dc26 pm26 an26 cd26 ct26), sl26⟩)
    (cd_26 : PySem.W.codeIn K cd26 "encode" = true)
    (k26 : PySem.W.keepIn K (.ref a26) = true)
    (h27 : PySem.W.findIn K (.ref c_InvalidText) "__init__" = some (some (.ref a27)))
    (i27 : PySem.W.isFn K (.ref a27) = true)
    (l27 : K.lookup a27 = some ⟨oc27, od27, .func (PySem.W.fnOf "__init__" "InvalidText.__init__" (defArgs s_InvalidText___init__) (defBody s_InvalidText___init__) (defScope s_InvalidText___init__) .none kV27 dc27 pm27 an27 cd27 ct27), sl27⟩)
    (cd_27 : PySem.W.codeIn K cd27 "InvalidText.__init__" = true)
    (k27 : PySem.W.keepIn K (.ref a27) = true)
    (h28 : PySem.W.findIn K (.ref c_InvalidOffset) "__init__" = some (some (.ref a28)))
    (i28 : PySem.W.isFn K (.ref a28) = true)
    (l28 : K.lookup a28 = some ⟨oc28, od28, .func (PySem.W.fnOf "__init__" "InvalidOffset.__init__" (defArgs s_InvalidOffset___init__) (defBody s_InvalidOffset___init__) (defScope s_InvalidOffset___init__) .none kV28 dc28 pm28 an28 cd28 ct28), sl28⟩)
    (cd_28 : PySem.W.codeIn K cd28 "InvalidOffset.__init__" = true)
    (k28 : PySem.W.keepIn K (.ref a28) = true)
    (h29 : PySem.W.nsIn K mainGlobals "_law_random" = some (some (.ref a29)))
    (l29 : K.lookup a29 = some ⟨oc29, od29, .func (PySem.W.fnOf "_law_random" "_law_random" (defArgs s__law_random) (defBody s__law_random) (defScope s__law_random) .none kV29 dc29 pm29 an29 cd29 ct29), sl29⟩)
    (cd_29 : PySem.W.codeIn K cd29 "_law_random" = true)
    (k29 : PySem.W.keepIn K (.ref a29) = true)
    (h30 : PySem.W.nsIn K mainGlobals "_law_below" = some (some (.ref a30)))
    (l30 : K.lookup a30 = some ⟨oc30, od30, .func (PySem.W.fnOf "_law_below" "_law_below" (defArgs s__law_below) (defBody s__law_below) (defScope s__law_below) .none kV30 dc30 pm30 an30 cd30 ct30), sl30⟩)
    (cd_30 : PySem.W.codeIn K cd30 "_law_below" = true)
    (k30 : PySem.W.keepIn K (.ref a30) = true)
    (h31 : PySem.W.nsIn K mainGlobals "_law_text" = some (some (.ref a31)))
    (l31 : K.lookup a31 = some ⟨oc31, od31, .func (PySem.W.fnOf "_law_text" "_law_text" (defArgs s__law_text) (defBody s__law_text) (defScope s__law_text) .none kV31 dc31 pm31 an31 cd31 ct31), sl31⟩)
    (cd_31 : PySem.W.codeIn K cd31 "_law_text" = true)
    (k31 : PySem.W.keepIn K (.ref a31) = true)
    (h32 : PySem.W.nsIn K mainGlobals "_law_texts" = some (some (.ref a32)))
    (l32 : K.lookup a32 = some ⟨oc32, od32, .func (PySem.W.fnOf "_law_texts" "_law_texts" (defArgs s__law_texts) (defBody s__law_texts) (defScope s__law_texts) .none kV32 dc32 pm32 an32 cd32 ct32), sl32⟩)
    (cd_32 : PySem.W.codeIn K cd32 "_law_texts" = true)
    (k32 : PySem.W.keepIn K (.ref a32) = true)
    (h33 : PySem.W.nsIn K mainGlobals "_law_error_of" = some (some (.ref a33)))
    (l33 : K.lookup a33 = some ⟨oc33, od33, .func (PySem.W.fnOf "_law_error_of" "_law_error_of" (defArgs s__law_error_of) (defBody s__law_error_of) (defScope s__law_error_of) .none kV33 dc33 pm33 an33 cd33 ct33), sl33⟩)
    (cd_33 : PySem.W.codeIn K cd33 "_law_error_of" = true)
    (k33 : PySem.W.keepIn K (.ref a33) = true)
    (h34 : PySem.W.nsIn K mainGlobals "_law_all_raise" = some (some (.ref a34)))
    (l34 : K.lookup a34 = some ⟨oc34, od34, .func (PySem.W.fnOf "_law_all_raise" "_law_all_raise" (defArgs s__law_all_raise) (defBody s__law_all_raise) (defScope s__law_all_raise) .none kV34 dc34 pm34 an34 cd34 ct34), sl34⟩)
    (cd_34 : PySem.W.codeIn K cd34 "_law_all_raise" = true)
    (k34 : PySem.W.keepIn K (.ref a34) = true)
    (h35 : PySem.W.nsIn K mainGlobals "law" = some (some (.ref a35)))
    (l35 : K.lookup a35 = some ⟨oc35, od35, .func (PySem.W.fnOf "law" "law" (defArgs s_law) (defBody s_law) (defScope s_law) .none kV35 dc35 pm35 an35 (.ref ccL) ct35), sl35⟩)
    (cd_35 : PySem.W.codeIn K (.ref ccL) "law" = true)
    (k35 : PySem.W.keepIn K (.ref a35) = true)
    (lcc : K.lookup ccL = some ⟨eL, ddL, .fields vsL, slL⟩)
    (vcc : vsL[11]? = some (.ref ppL))
    (hcc : PySem.W.codeHdIn K ccL ppL = true)
    (npp : K.lookup ppL = none)
    (z_ValueError : PySem.W.nsIn K mainGlobals "ValueError" = some none)
    (z_abs : PySem.W.nsIn K mainGlobals "abs" = some none)
    (z_all : PySem.W.nsIn K mainGlobals "all" = some none)
    (z_any : PySem.W.nsIn K mainGlobals "any" = some none)
    (z_bool : PySem.W.nsIn K mainGlobals "bool" = some none)
    (z_enumerate : PySem.W.nsIn K mainGlobals "enumerate" = some none)
    (z_int : PySem.W.nsIn K mainGlobals "int" = some none)
    (z_isinstance : PySem.W.nsIn K mainGlobals "isinstance" = some none)
    (z_len : PySem.W.nsIn K mainGlobals "len" = some none)
    (z_list : PySem.W.nsIn K mainGlobals "list" = some none)
    (z_min : PySem.W.nsIn K mainGlobals "min" = some none)
    (z_range : PySem.W.nsIn K mainGlobals "range" = some none)
    (z_sorted : PySem.W.nsIn K mainGlobals "sorted" = some none)
    (z_str : PySem.W.nsIn K mainGlobals "str" = some none)
    (z_sum : PySem.W.nsIn K mainGlobals "sum" = some none)
    (z_tuple : PySem.W.nsIn K mainGlobals "tuple" = some none)
    (z_zip : PySem.W.nsIn K mainGlobals "zip" = some none)
    (y_BLANK : PySem.W.nsIn K mainGlobals "BLANK" = some (some (.str " " t_BLANK)))
    (y_LETTERS : PySem.W.nsIn K mainGlobals "LETTERS" = some (some (.str "ABCDEFGHIJKLMNOPQRSTUVWXYZ0123456789" t_LETTERS)))
    (y_MAX_PAIRS : PySem.W.nsIn K mainGlobals "MAX_PAIRS" = some (some (.int 10 t_MAX_PAIRS)))
    (y_MAX_TEXTS : PySem.W.nsIn K mainGlobals "MAX_TEXTS" = some (some (.int 12 t_MAX_TEXTS)))
    (y_MAX_WIDTH : PySem.W.nsIn K mainGlobals "MAX_WIDTH" = some (some (.int 24 t_MAX_WIDTH))) :
    LamX.LawAtS l w K CX0 13 63 "_law_script" mg fa h := by
  have e := hfa.symm.trans (PySem.W.mg_of X G h35)
  cases e
  have F0 := fun_mk (st := s_is_int_in) l0 cd_0 k0
  have b0 := F0.binds (ps := ["value", "low", "high"]) fun _ _ _ _ _ _ us hl => match us, hl with | [_, _, _], _ => rfl
  have F1 := fun_mk (st := s_is_pair) l1 cd_1 k1
  have b1 := F1.binds (ps := ["value"]) fun _ _ _ _ _ _ us hl => match us, hl with | [_], _ => rfl
  have D2 : DflV K (.ref tT2) [V.ref tz2] := .inr ⟨by simp, tT2, _, [.ref tz2], _, rfl, hT2, rfl, .cons rfl .nil⟩
  have F2 : FunD K "__init__" "Sign.__init__" (defArgs s_Sign___init__) (defBody s_Sign___init__) (defScope s_Sign___init__) [V.ref tz2] [] a2 (PySem.W.fnOf "__init__" "Sign.__init__" (defArgs s_Sign___init__) (defBody s_Sign___init__) (defScope s_Sign___init__) (.ref tT2) kV2 dc2 pm2 an2 cd2 ct2) := ⟨⟨_, _, _, _, _, _, _, _, _, _, rfl, l2, cd_2, D2, .inl rfl⟩, k2⟩
  obtain ⟨eb2, rb2, b02⟩ := F2.binds1 (ps := ["self", "width", "pairs"]) 3 1 (by simp) rfl (fun T kV doc pm an cdv ct us its hu hi => match us, its, hu, hi with | [_, _, _], [_], _, _ => ⟨_, rfl, rfl⟩)
  have b2 : Binds K (PySem.W.fnOf "__init__" "Sign.__init__" (defArgs s_Sign___init__) (defBody s_Sign___init__) (defScope s_Sign___init__) (.ref tT2) kV2 dc2 pm2 an2 cd2 ct2) ["self", "width", "pairs"] [] := by cases rb2; exact b02
  obtain ⟨e2, v2, bd2⟩ := F2.binds1 (ps := ["self", "width", "pairs"]) 2 0 (by simp) rfl (fun T kV doc pm an cdv ct us its hu hi => match us, its, hu, hi with | [_, _], [_], _, _ => ⟨_, rfl, rfl⟩)
  have F3 := fun_mk (st := s_Sign_blank) l3 cd_3 k3
  have b3 := F3.binds (ps := ["self"]) fun _ _ _ _ _ _ us hl => match us, hl with | [_], _ => rfl
  have F4 := fun_mk (st := s_Sign_piece) l4 cd_4 k4
  have b4 := F4.binds (ps := ["self", "letter"]) fun _ _ _ _ _ _ us hl => match us, hl with | [_, _], _ => rfl
  have F5 := fun_mk (st := s_Sign_row_of) l5 cd_5 k5
  have b5 := F5.binds (ps := ["self", "text", "offset"]) fun _ _ _ _ _ _ us hl => match us, hl with | [_, _, _], _ => rfl
  have F6 := fun_mk (st := s_Sign_is_text) l6 cd_6 k6
  have b6 := F6.binds (ps := ["self", "value"]) fun _ _ _ _ _ _ us hl => match us, hl with | [_, _], _ => rfl
  have F7 := fun_mk (st := s_Sign_check_texts) l7 cd_7 k7
  have b7 := F7.binds (ps := ["self", "texts"]) fun _ _ _ _ _ _ us hl => match us, hl with | [_, _], _ => rfl
  have F8 := fun_mk (st := s_links) l8 cd_8 k8
  have b8 := F8.binds (ps := ["sign", "before", "after"]) fun _ _ _ _ _ _ us hl => match us, hl with | [_, _, _], _ => rfl
  have F9 := fun_mk (st := s_surplus) l9 cd_9 k9
  have b9 := F9.binds (ps := ["changed"]) fun _ _ _ _ _ _ us hl => match us, hl with | [_], _ => rfl
  have F10 := fun_mk (st := s_groups) l10 cd_10 k10
  have b10 := F10.binds (ps := ["changed"]) fun _ _ _ _ _ _ us hl => match us, hl with | [_], _ => rfl
  have F11 := fun_mk (st := s_shares) l11 cd_11 k11
  have b11 := F11.binds (ps := ["group", "link"]) fun _ _ _ _ _ _ us hl => match us, hl with | [_, _], _ => rfl
  have F12 := fun_mk (st := s_is_closed) l12 cd_12 k12
  have b12 := F12.binds (ps := ["group"]) fun _ _ _ _ _ _ us hl => match us, hl with | [_], _ => rfl
  have F13 := fun_mk (st := s_cost) l13 cd_13 k13
  have b13 := F13.binds (ps := ["sign", "before", "after"]) fun _ _ _ _ _ _ us hl => match us, hl with | [_, _, _], _ => rfl
  have F14 := fun_mk (st := s_check_offsets) l14 cd_14 k14
  have b14 := F14.binds (ps := ["sign", "texts", "offsets"]) fun _ _ _ _ _ _ us hl => match us, hl with | [_, _, _], _ => rfl
  have F15 := fun_mk (st := s_add) l15 cd_15 k15
  have b15 := F15.binds (ps := ["one", "other"]) fun _ _ _ _ _ _ us hl => match us, hl with | [_, _], _ => rfl
  have F16 := fun_mk (st := s_fixed_cost) l16 cd_16 k16
  have b16 := F16.binds (ps := ["sign", "texts", "offsets"]) fun _ _ _ _ _ _ us hl => match us, hl with | [_, _, _], _ => rfl
  have F17 := fun_mk (st := s_season_cost) l17 cd_17 k17
  have b17 := F17.binds (ps := ["sign", "texts"]) fun _ _ _ _ _ _ us hl => match us, hl with | [_, _], _ => rfl
  have F18 := fun_mk (st := s_count_best) l18 cd_18 k18
  have b18 := F18.binds (ps := ["sign", "texts"]) fun _ _ _ _ _ _ us hl => match us, hl with | [_, _], _ => rfl
  have F19 := fun_mk (st := s_best_offsets) l19 cd_19 k19
  have b19 := F19.binds (ps := ["sign", "texts"]) fun _ _ _ _ _ _ us hl => match us, hl with | [_, _], _ => rfl
  have F20 := fun_mk (st := s_needed_letters) l20 cd_20 k20
  have b20 := F20.binds (ps := ["sign", "texts"]) fun _ _ _ _ _ _ us hl => match us, hl with | [_, _], _ => rfl
  have F21 := fun_mk (st := s_missing_letters) l21 cd_21 k21
  have b21 := F21.binds (ps := ["sign", "texts", "stock"]) fun _ _ _ _ _ _ us hl => match us, hl with | [_, _, _], _ => rfl
  have F22 := fun_mk (st := s_best_order) l22 cd_22 k22
  have b22 := F22.binds (ps := ["sign", "texts"]) fun _ _ _ _ _ _ us hl => match us, hl with | [_, _], _ => rfl
  have F23 := fun_mk (st := s_needless_pairs) l23 cd_23 k23
  have b23 := F23.binds (ps := ["sign", "texts"]) fun _ _ _ _ _ _ us hl => match us, hl with | [_, _], _ => rfl
  have F24 := fun_mk (st := s_Watcher___init__) l24 cd_24 k24
  have b24 := F24.binds (ps := ["self", "sign", "texts"]) fun _ _ _ _ _ _ us hl => match us, hl with | [_, _, _], _ => rfl
  have F25 := fun_mk (st := s_format_season) l25 cd_25 k25
  have b25 := F25.binds (ps := ["sign", "texts", "offsets"]) fun _ _ _ _ _ _ us hl => match us, hl with | [_, _, _], _ => rfl
  have F26 := fun_mk (st := s_encode) l26 cd_26 k26
  have b26 := F26.binds (ps := ["sign", "texts"]) fun _ _ _ _ _ _ us hl => match us, hl with | [_, _], _ => rfl
  have F27 := fun_mk (st := s_InvalidText___init__) l27 cd_27 k27
  have b27 := F27.binds (ps := ["self", "index"]) fun _ _ _ _ _ _ us hl => match us, hl with | [_, _], _ => rfl
  have F28 := fun_mk (st := s_InvalidOffset___init__) l28 cd_28 k28
  have b28 := F28.binds (ps := ["self", "index"]) fun _ _ _ _ _ _ us hl => match us, hl with | [_, _], _ => rfl
  have F29 := fun_mk (st := s__law_random) l29 cd_29 k29
  have b29 := F29.binds (ps := ["_law_script", "_law_salt"]) fun _ _ _ _ _ _ us hl => match us, hl with | [_, _], _ => rfl
  have F30 := fun_mk (st := s__law_below) l30 cd_30 k30
  have b30 := F30.binds (ps := ["_law_d", "_law_limit"]) fun _ _ _ _ _ _ us hl => match us, hl with | [_, _], _ => rfl
  have F31 := fun_mk (st := s__law_text) l31 cd_31 k31
  have b31 := F31.binds (ps := ["_law_d", "_law_most", "_law_letters"]) fun _ _ _ _ _ _ us hl => match us, hl with | [_, _, _], _ => rfl
  have F32 := fun_mk (st := s__law_texts) l32 cd_32 k32
  have b32 := F32.binds (ps := ["_law_d", "_law_most", "_law_width", "_law_letters"]) fun _ _ _ _ _ _ us hl => match us, hl with | [_, _, _, _], _ => rfl
  have F33 := fun_mk (st := s__law_error_of) l33 cd_33 k33
  have b33 := F33.binds (ps := ["_law_call"]) fun _ _ _ _ _ _ us hl => match us, hl with | [_], _ => rfl
  have F34 := fun_mk (st := s__law_all_raise) l34 cd_34 k34
  have b34 := F34.binds (ps := ["_law_calls", "_law_expected"]) fun _ _ _ _ _ _ us hl => match us, hl with | [_, _], _ => rfl
  have F35 := fun_mk (st := s_law) l35 cd_35 k35
  have b35 := F35.binds (ps := ["_law_script"]) fun _ _ _ _ _ _ us hl => match us, hl with | [_], _ => rfl
  let T : Txt K mg := {
    c_Sign := c_Sign,
    m_Sign := PySem.W.mg_of X G hc_Sign,
    k_Sign := ⟨pg_Sign, hd_Sign, po_Sign, sa_Sign⟩,
    n_Sign_width := n_Sign_width,
    n_Sign_pairs := n_Sign_pairs,
    n_Sign_mates := n_Sign_mates,
    c_Watcher := c_Watcher,
    m_Watcher := PySem.W.mg_of X G hc_Watcher,
    k_Watcher := ⟨pg_Watcher, hd_Watcher, po_Watcher, sa_Watcher⟩,
    c_SignError := c_SignError,
    m_SignError := PySem.W.mg_of X G hc_SignError,
    c_InvalidStock := c_InvalidStock,
    m_InvalidStock := PySem.W.mg_of X G hc_InvalidStock,
    c_TooMany := c_TooMany,
    m_TooMany := PySem.W.mg_of X G hc_TooMany,
    c_InvalidCount := c_InvalidCount,
    m_InvalidCount := PySem.W.mg_of X G hc_InvalidCount,
    c_Contradiction := c_Contradiction,
    m_Contradiction := PySem.W.mg_of X G hc_Contradiction,
    c_InvalidName := c_InvalidName,
    m_InvalidName := PySem.W.mg_of X G hc_InvalidName,
    c_UnknownName := c_UnknownName,
    m_UnknownName := PySem.W.mg_of X G hc_UnknownName,
    c_NotEnough := c_NotEnough,
    m_NotEnough := PySem.W.mg_of X G hc_NotEnough,
    c_InvalidSign := c_InvalidSign,
    m_InvalidSign := PySem.W.mg_of X G hc_InvalidSign,
    c_InvalidRow := c_InvalidRow,
    m_InvalidRow := PySem.W.mg_of X G hc_InvalidRow,
    c_InvalidText := c_InvalidText,
    m_InvalidText := PySem.W.mg_of X G hc_InvalidText,
    c_InvalidOffset := c_InvalidOffset,
    m_InvalidOffset := PySem.W.mg_of X G hc_InvalidOffset,
    c_InvalidMove := c_InvalidMove,
    m_InvalidMove := PySem.W.mg_of X G hc_InvalidMove,
    c_Unreadable := c_Unreadable,
    m_Unreadable := PySem.W.mg_of X G hc_Unreadable,
    c_InvalidCode := c_InvalidCode,
    m_InvalidCode := PySem.W.mg_of X G hc_InvalidCode,
    c_InvalidOperation := c_InvalidOperation,
    m_InvalidOperation := PySem.W.mg_of X G hc_InvalidOperation,
    ec_InvalidText := ⟨eg_InvalidText, ek_InvalidText, es_InvalidText, ed_InvalidText, ea_InvalidText, en_InvalidText, et_InvalidText, em_InvalidText⟩,
    sx_InvalidText := sx_InvalidText,
    ki_InvalidText_InvalidStock := ki_InvalidText_InvalidStock,
    ki_InvalidText_TooMany := ki_InvalidText_TooMany,
    ki_InvalidText_InvalidCount := ki_InvalidText_InvalidCount,
    ki_InvalidText_Contradiction := ki_InvalidText_Contradiction,
    ki_InvalidText_InvalidName := ki_InvalidText_InvalidName,
    ki_InvalidText_UnknownName := ki_InvalidText_UnknownName,
    ki_InvalidText_NotEnough := ki_InvalidText_NotEnough,
    ki_InvalidText_InvalidSign := ki_InvalidText_InvalidSign,
    ki_InvalidText_InvalidRow := ki_InvalidText_InvalidRow,
    ki_InvalidText_InvalidText := ki_InvalidText_InvalidText,
    ki_InvalidText_InvalidOffset := ki_InvalidText_InvalidOffset,
    ki_InvalidText_InvalidMove := ki_InvalidText_InvalidMove,
    ki_InvalidText_Unreadable := ki_InvalidText_Unreadable,
    ki_InvalidText_InvalidCode := ki_InvalidText_InvalidCode,
    ki_InvalidText_InvalidOperation := ki_InvalidText_InvalidOperation,
    kv_InvalidText := kv_InvalidText,
    kk_InvalidText := kk_InvalidText,
    ty_InvalidText := ty_InvalidText,
    sb_InvalidText := es_InvalidText,
    ns_InvalidText := ns_InvalidText,
    nx_InvalidText_index := nx_InvalidText_index,
    ec_InvalidOffset := ⟨eg_InvalidOffset, ek_InvalidOffset, es_InvalidOffset, ed_InvalidOffset, ea_InvalidOffset, en_InvalidOffset, et_InvalidOffset, em_InvalidOffset⟩,
    sx_InvalidOffset := sx_InvalidOffset,
    ki_InvalidOffset_InvalidStock := ki_InvalidOffset_InvalidStock,
    ki_InvalidOffset_TooMany := ki_InvalidOffset_TooMany,
    ki_InvalidOffset_InvalidCount := ki_InvalidOffset_InvalidCount,
    ki_InvalidOffset_Contradiction := ki_InvalidOffset_Contradiction,
    ki_InvalidOffset_InvalidName := ki_InvalidOffset_InvalidName,
    ki_InvalidOffset_UnknownName := ki_InvalidOffset_UnknownName,
    ki_InvalidOffset_NotEnough := ki_InvalidOffset_NotEnough,
    ki_InvalidOffset_InvalidSign := ki_InvalidOffset_InvalidSign,
    ki_InvalidOffset_InvalidRow := ki_InvalidOffset_InvalidRow,
    ki_InvalidOffset_InvalidText := ki_InvalidOffset_InvalidText,
    ki_InvalidOffset_InvalidOffset := ki_InvalidOffset_InvalidOffset,
    ki_InvalidOffset_InvalidMove := ki_InvalidOffset_InvalidMove,
    ki_InvalidOffset_Unreadable := ki_InvalidOffset_Unreadable,
    ki_InvalidOffset_InvalidCode := ki_InvalidOffset_InvalidCode,
    ki_InvalidOffset_InvalidOperation := ki_InvalidOffset_InvalidOperation,
    kv_InvalidOffset := kv_InvalidOffset,
    kk_InvalidOffset := kk_InvalidOffset,
    ty_InvalidOffset := ty_InvalidOffset,
    sb_InvalidOffset := es_InvalidOffset,
    ns_InvalidOffset := ns_InvalidOffset,
    nx_InvalidOffset_index := nx_InvalidOffset_index,
    SB_SignError := ⟨br_S, bg_S, bf_S⟩,
    xf_InvalidText := ⟨eg_InvalidText, ek_InvalidText, es_InvalidText, ed_InvalidText⟩,
    xf_InvalidOffset := ⟨eg_InvalidOffset, ek_InvalidOffset, es_InvalidOffset, ed_InvalidOffset⟩,
    F_is_int_in := F0,
    b_is_int_in := b0,
    a_is_int_in := a0,
    d_is_int_in := _,
    m_is_int_in := PySem.W.mg_of X G h0,
    F_is_pair := F1,
    b_is_pair := b1,
    a_is_pair := a1,
    d_is_pair := _,
    m_is_pair := PySem.W.mg_of X G h1,
    z_Sign___init__ := [V.ref tz2],
    F_Sign___init__ := F2,
    zr_Sign___init__ := fun _ => .cons (.tup (.inr ⟨_, #[], _, hz2, rfl, rfl, Nat.zero_le _, .nil⟩) .nil) .nil,
    e_Sign___init__ := e2,
    vd_Sign___init__ := v2,
    bd_Sign___init__ := bd2,
    b_Sign___init__ := b2,
    a_Sign___init__ := a2,
    d_Sign___init__ := _,
    M_Sign := ⟨mk_Sign, h2, i2, kc_Sign⟩,
    F_Sign_blank := F3,
    b_Sign_blank := b3,
    a_Sign_blank := a3,
    d_Sign_blank := _,
    p_Sign_blank := p3,
    P_Sign_blank := ⟨h3, hg3, ht3, ⟨rs3, hr3⟩⟩,
    F_Sign_piece := F4,
    b_Sign_piece := b4,
    a_Sign_piece := a4,
    d_Sign_piece := _,
    Me_Sign_piece := ⟨h4, i4, k4⟩,
    F_Sign_row_of := F5,
    b_Sign_row_of := b5,
    a_Sign_row_of := a5,
    d_Sign_row_of := _,
    Me_Sign_row_of := ⟨h5, i5, k5⟩,
    F_Sign_is_text := F6,
    b_Sign_is_text := b6,
    a_Sign_is_text := a6,
    d_Sign_is_text := _,
    Me_Sign_is_text := ⟨h6, i6, k6⟩,
    F_Sign_check_texts := F7,
    b_Sign_check_texts := b7,
    a_Sign_check_texts := a7,
    d_Sign_check_texts := _,
    Me_Sign_check_texts := ⟨h7, i7, k7⟩,
    F_links := F8,
    b_links := b8,
    a_links := a8,
    d_links := _,
    m_links := PySem.W.mg_of X G h8,
    F_surplus := F9,
    b_surplus := b9,
    a_surplus := a9,
    d_surplus := _,
    m_surplus := PySem.W.mg_of X G h9,
    F_groups := F10,
    b_groups := b10,
    a_groups := a10,
    d_groups := _,
    m_groups := PySem.W.mg_of X G h10,
    F_shares := F11,
    b_shares := b11,
    a_shares := a11,
    d_shares := _,
    m_shares := PySem.W.mg_of X G h11,
    F_is_closed := F12,
    b_is_closed := b12,
    a_is_closed := a12,
    d_is_closed := _,
    m_is_closed := PySem.W.mg_of X G h12,
    F_cost := F13,
    b_cost := b13,
    a_cost := a13,
    d_cost := _,
    m_cost := PySem.W.mg_of X G h13,
    F_check_offsets := F14,
    b_check_offsets := b14,
    a_check_offsets := a14,
    d_check_offsets := _,
    m_check_offsets := PySem.W.mg_of X G h14,
    F_add := F15,
    b_add := b15,
    a_add := a15,
    d_add := _,
    m_add := PySem.W.mg_of X G h15,
    F_fixed_cost := F16,
    b_fixed_cost := b16,
    a_fixed_cost := a16,
    d_fixed_cost := _,
    m_fixed_cost := PySem.W.mg_of X G h16,
    F_season_cost := F17,
    b_season_cost := b17,
    a_season_cost := a17,
    d_season_cost := _,
    m_season_cost := PySem.W.mg_of X G h17,
    F_count_best := F18,
    b_count_best := b18,
    a_count_best := a18,
    d_count_best := _,
    m_count_best := PySem.W.mg_of X G h18,
    F_best_offsets := F19,
    b_best_offsets := b19,
    a_best_offsets := a19,
    d_best_offsets := _,
    m_best_offsets := PySem.W.mg_of X G h19,
    F_needed_letters := F20,
    b_needed_letters := b20,
    a_needed_letters := a20,
    d_needed_letters := _,
    m_needed_letters := PySem.W.mg_of X G h20,
    F_missing_letters := F21,
    b_missing_letters := b21,
    a_missing_letters := a21,
    d_missing_letters := _,
    m_missing_letters := PySem.W.mg_of X G h21,
    F_best_order := F22,
    b_best_order := b22,
    a_best_order := a22,
    d_best_order := _,
    m_best_order := PySem.W.mg_of X G h22,
    F_needless_pairs := F23,
    b_needless_pairs := b23,
    a_needless_pairs := a23,
    d_needless_pairs := _,
    m_needless_pairs := PySem.W.mg_of X G h23,
    F_Watcher___init__ := F24,
    b_Watcher___init__ := b24,
    a_Watcher___init__ := a24,
    d_Watcher___init__ := _,
    M_Watcher := ⟨mk_Watcher, h24, i24, kc_Watcher⟩,
    F_format_season := F25,
    b_format_season := b25,
    a_format_season := a25,
    d_format_season := _,
    m_format_season := PySem.W.mg_of X G h25,
    F_encode := F26,
    b_encode := b26,
    a_encode := a26,
    d_encode := _,
    m_encode := PySem.W.mg_of X G h26,
    F_InvalidText___init__ := F27,
    b_InvalidText___init__ := b27,
    a_InvalidText___init__ := a27,
    d_InvalidText___init__ := _,
    X_InvalidText := ⟨⟨⟨nm_InvalidText, q_InvalidText, N_InvalidText, bs_InvalidText, _, sn_InvalidText, su_InvalidText, ab_InvalidText, co_InvalidText, dd_InvalidText, k0_InvalidText, k1_InvalidText, k2_InvalidText, k3_InvalidText, k5_InvalidText, xl_InvalidText, rfl⟩, sa_InvalidText, es_InvalidText, ty_InvalidText, kk_InvalidText⟩, h27, beq_iff_eq.mp i27⟩,
    F_InvalidOffset___init__ := F28,
    b_InvalidOffset___init__ := b28,
    a_InvalidOffset___init__ := a28,
    d_InvalidOffset___init__ := _,
    X_InvalidOffset := ⟨⟨⟨nm_InvalidOffset, q_InvalidOffset, N_InvalidOffset, bs_InvalidOffset, _, sn_InvalidOffset, su_InvalidOffset, ab_InvalidOffset, co_InvalidOffset, dd_InvalidOffset, k0_InvalidOffset, k1_InvalidOffset, k2_InvalidOffset, k3_InvalidOffset, k5_InvalidOffset, xl_InvalidOffset, rfl⟩, sa_InvalidOffset, es_InvalidOffset, ty_InvalidOffset, kk_InvalidOffset⟩, h28, beq_iff_eq.mp i28⟩,
    F__law_random := F29,
    b__law_random := b29,
    a__law_random := a29,
    d__law_random := _,
    m__law_random := PySem.W.mg_of X G h29,
    F__law_below := F30,
    b__law_below := b30,
    a__law_below := a30,
    d__law_below := _,
    m__law_below := PySem.W.mg_of X G h30,
    F__law_text := F31,
    b__law_text := b31,
    a__law_text := a31,
    d__law_text := _,
    m__law_text := PySem.W.mg_of X G h31,
    F__law_texts := F32,
    b__law_texts := b32,
    a__law_texts := a32,
    d__law_texts := _,
    m__law_texts := PySem.W.mg_of X G h32,
    F__law_error_of := F33,
    b__law_error_of := b33,
    a__law_error_of := a33,
    d__law_error_of := _,
    m__law_error_of := PySem.W.mg_of X G h33,
    F__law_all_raise := F34,
    b__law_all_raise := b34,
    a__law_all_raise := a34,
    d__law_all_raise := _,
    m__law_all_raise := PySem.W.mg_of X G h34,
    cc_law := ccL,
    pp_law := ppL,
    FC_law := ⟨⟨_, _, _, _, _, _, _, _, rfl, l35, cd_35⟩⟩,
    F_law := F35,
    b_law := b35,
    a_law := fa,
    d_law := _,
    m_law := PySem.W.mg_of X G h35,
    g_ValueError := PySem.W.mg_none_of X G z_ValueError,
    g_abs := PySem.W.mg_none_of X G z_abs,
    g_all := PySem.W.mg_none_of X G z_all,
    g_any := PySem.W.mg_none_of X G z_any,
    g_bool := PySem.W.mg_none_of X G z_bool,
    g_enumerate := PySem.W.mg_none_of X G z_enumerate,
    g_int := PySem.W.mg_none_of X G z_int,
    g_isinstance := PySem.W.mg_none_of X G z_isinstance,
    g_len := PySem.W.mg_none_of X G z_len,
    g_list := PySem.W.mg_none_of X G z_list,
    g_min := PySem.W.mg_none_of X G z_min,
    g_range := PySem.W.mg_none_of X G z_range,
    g_sorted := PySem.W.mg_none_of X G z_sorted,
    g_str := PySem.W.mg_none_of X G z_str,
    g_sum := PySem.W.mg_none_of X G z_sum,
    g_tuple := PySem.W.mg_none_of X G z_tuple,
    g_zip := PySem.W.mg_none_of X G z_zip,
    u_BLANK := _,
    m_BLANK := PySem.W.mg_of X G y_BLANK,
    r_BLANK := ⟨_, rfl⟩,
    u_LETTERS := _,
    m_LETTERS := PySem.W.mg_of X G y_LETTERS,
    r_LETTERS := ⟨_, rfl⟩,
    u_MAX_PAIRS := _,
    m_MAX_PAIRS := PySem.W.mg_of X G y_MAX_PAIRS,
    r_MAX_PAIRS := ⟨_, rfl⟩,
    u_MAX_TEXTS := _,
    m_MAX_TEXTS := PySem.W.mg_of X G y_MAX_TEXTS,
    r_MAX_TEXTS := ⟨_, rfl⟩,
    u_MAX_WIDTH := _,
    m_MAX_WIDTH := PySem.W.mg_of X G y_MAX_WIDTH,
    r_MAX_WIDTH := ⟨_, rfl⟩ }
  obtain ⟨e_, dd_, vs_, sl_, q1, q2⟩ := codeHd_shape hcc
  refine ⟨T.d_law, [(ccL, ppL)], toSp K (spLaw ppL), fun p hp => ?_, fun p hp => ?_, fun p hp => ?_, fun s v => .of_eq rfl, fun H a ns hl _ hT hS => ?_, fun base _ _ TB => all_ok T (TB (ccL, ppL) (List.mem_singleton.mpr rfl))⟩
  · rw [List.mem_singleton.mp hp]; exact own ccL ppL _ _ _ _ _ _ l35 rfl rfl q1 q2
  · rw [List.mem_singleton.mp hp]; exact npp
  · rw [List.mem_singleton.mp hp]; exact PySem.W.codeHd_of_K X hcc
  · exact start_lawT (hT (ccL, ppL) (List.mem_singleton.mpr rfl)) npp hS fun F ms hA => ⟨ns, rfl, hl, hA, fun _ _ => rfl⟩
theorem walk {l : PySem.W.OpenLaw} {q : Program} {loose : List Str} {XP : (Str → Option Value) → Heap → Prop} {YP : World → Heap → Prop} {d : DefRec} {K : Params → PySem.W.Frag} (hn : l.most = some 63) (hdf : d.params.defaults = [])
    (hrec : ((recsOf q).any fun e => e.name == d.name) = true) (hY : ∀ (w : World) (h : Heap), YP w h → (K w.params).In h)
    (F : ∀ (w : World) (mg : Str → Option Value) (fa : Addr) (h : Heap), YP w h → (K w.params).In h → h.Ns mainGlobals mg → mg d.name = some (.ref fa) → LamX.OwnTab (K w.params) fa h → LamX.LawAtS l w (K w.params) CX0 13 63 "_law_script" mg fa h) :
    PySem.W.WalkO q loose XP YP l.row.toRowW d [] (fun f vs => PySem.call f vs) :=
  LamX.walk_ofOwn (n := 63) (k := 13) (x := "_law_script") (CX := fun _ => CX0) hn (by decide) hdf ⟨rfl, by decide, by decide⟩ hrec hY F fun _ _ _ _ _ z => z
end K14

open PySem PySem.W PyProof.Rows in
set_option maxRecDepth 100000 in
set_option maxHeartbeats 0 in
theorem PySem.Challenge.cw_marqueeletters_k14_invalid_texts_and_off_holds : PySem.Challenge.rw_marqueeletters_k14_invalid_texts_and_off.Holds := by
  w_on; o_law; k_head; (case hw => w_witness2)
  k_fill
  refine K14.walk (l := PySem.Challenge.rw_marqueeletters_k14_invalid_texts_and_off) rfl rfl (by first | rfl | kernel_rfl | decide +kernel) (fun w h Y => PySem.W.km_in_of Y) ?F
  case F =>
    intro w mg fa h Y KX G hmg own
    refine' K14.all_mk KX G hmg own ?hc_Sign ?pg_Sign ?hd_Sign ?po_Sign ?sa_Sign ?mk_Sign ?kc_Sign ?n_Sign_width ?n_Sign_pairs ?n_Sign_mates ?hc_Watcher ?pg_Watcher ?hd_Watcher ?po_Watcher ?sa_Watcher ?mk_Watcher ?kc_Watcher ?hc_SignError ?hc_InvalidStock ?hc_TooMany ?hc_InvalidCount ?hc_Contradiction ?hc_InvalidName ?hc_UnknownName ?hc_NotEnough ?hc_InvalidSign ?hc_InvalidRow ?hc_InvalidText ?hc_InvalidOffset ?hc_InvalidMove ?hc_Unreadable ?hc_InvalidCode ?hc_InvalidOperation ?eg_InvalidText ?ek_InvalidText ?es_InvalidText ?ed_InvalidText ?ea_InvalidText ?en_InvalidText ?et_InvalidText ?em_InvalidText ?sx_InvalidText ?ki_InvalidText_InvalidStock ?ki_InvalidText_TooMany ?ki_InvalidText_InvalidCount ?ki_InvalidText_Contradiction ?ki_InvalidText_InvalidName ?ki_InvalidText_UnknownName ?ki_InvalidText_NotEnough ?ki_InvalidText_InvalidSign ?ki_InvalidText_InvalidRow ?ki_InvalidText_InvalidText ?ki_InvalidText_InvalidOffset ?ki_InvalidText_InvalidMove ?ki_InvalidText_Unreadable ?ki_InvalidText_InvalidCode ?ki_InvalidText_InvalidOperation ?kv_InvalidText ?kk_InvalidText ?ty_InvalidText ?ns_InvalidText ?nx_InvalidText_index ?eg_InvalidOffset ?ek_InvalidOffset ?es_InvalidOffset ?ed_InvalidOffset ?ea_InvalidOffset ?en_InvalidOffset ?et_InvalidOffset ?em_InvalidOffset ?sx_InvalidOffset ?ki_InvalidOffset_InvalidStock ?ki_InvalidOffset_TooMany ?ki_InvalidOffset_InvalidCount ?ki_InvalidOffset_Contradiction ?ki_InvalidOffset_InvalidName ?ki_InvalidOffset_UnknownName ?ki_InvalidOffset_NotEnough ?ki_InvalidOffset_InvalidSign ?ki_InvalidOffset_InvalidRow ?ki_InvalidOffset_InvalidText ?ki_InvalidOffset_InvalidOffset ?ki_InvalidOffset_InvalidMove ?ki_InvalidOffset_Unreadable ?ki_InvalidOffset_InvalidCode ?ki_InvalidOffset_InvalidOperation ?kv_InvalidOffset ?kk_InvalidOffset ?ty_InvalidOffset ?ns_InvalidOffset ?nx_InvalidOffset_index ?br_S ?bg_S ?bf_S ?xl_InvalidText ?sa_InvalidText ?xl_InvalidOffset ?sa_InvalidOffset ?h0 ?l0 ?cd_0 ?k0 ?h1 ?l1 ?cd_1 ?k1 ?h2 ?i2 ?l2 ?cd_2 ?k2 ?hT2 ?hz2 ?h3 ?hg3 ?ht3 ?hr3 ?l3 ?cd_3 ?k3 ?h4 ?i4 ?l4 ?cd_4 ?k4 ?h5 ?i5 ?l5 ?cd_5 ?k5 ?h6 ?i6 ?l6 ?cd_6 ?k6 ?h7 ?i7 ?l7 ?cd_7 ?k7 ?h8 ?l8 ?cd_8 ?k8 ?h9 ?l9 ?cd_9 ?k9 ?h10 ?l10 ?cd_10 ?k10 ?h11 ?l11 ?cd_11 ?k11 ?h12 ?l12 ?cd_12 ?k12 ?h13 ?l13 ?cd_13 ?k13 ?h14 ?l14 ?cd_14 ?k14 ?h15 ?l15 ?cd_15 ?k15 ?h16 ?l16 ?cd_16 ?k16 ?h17 ?l17 ?cd_17 ?k17 ?h18 ?l18 ?cd_18 ?k18 ?h19 ?l19 ?cd_19 ?k19 ?h20 ?l20 ?cd_20 ?k20 ?h21 ?l21 ?cd_21 ?k21 ?h22 ?l22 ?cd_22 ?k22 ?h23 ?l23 ?cd_23 ?k23 ?h24 ?i24 ?l24 ?cd_24 ?k24 ?h25 ?l25 ?cd_25 ?k25 ?h26 ?l26 ?cd_26 ?k26 ?h27 ?i27 ?l27 ?cd_27 ?k27 ?h28 ?i28 ?l28 ?cd_28 ?k28 ?h29 ?l29 ?cd_29 ?k29 ?h30 ?l30 ?cd_30 ?k30 ?h31 ?l31 ?cd_31 ?k31 ?h32 ?l32 ?cd_32 ?k32 ?h33 ?l33 ?cd_33 ?k33 ?h34 ?l34 ?cd_34 ?k34 ?h35 ?l35 ?cd_35 ?k35 ?lcc ?vcc ?hcc ?npp ?z_ValueError ?z_abs ?z_all ?z_any ?z_bool ?z_enumerate ?z_int ?z_isinstance ?z_len ?z_list ?z_min ?z_range ?z_sorted ?z_str ?z_sum ?z_tuple ?z_zip ?y_BLANK ?y_LETTERS ?y_MAX_PAIRS ?y_MAX_TEXTS ?y_MAX_WIDTH
    (case hc_Sign => k_is)
    (case pg_Sign => k_is)
    (case hd_Sign => k_is)
    (case po_Sign => k_is)
    (case sa_Sign => k_is)
    (case mk_Sign => k_is)
    (case kc_Sign => k_is)
    (case n_Sign_width => k_is)
    (case n_Sign_pairs => k_is)
    (case n_Sign_mates => k_is)
    (case hc_Watcher => k_is)
    (case pg_Watcher => k_is)
    (case hd_Watcher => k_is)
    (case po_Watcher => k_is)
    (case sa_Watcher => k_is)
    (case mk_Watcher => k_is)
    (case kc_Watcher => k_is)
    (case hc_SignError => k_is)
    (case hc_InvalidStock => k_is)
    (case hc_TooMany => k_is)
    (case hc_InvalidCount => k_is)
    (case hc_Contradiction => k_is)
    (case hc_InvalidName => k_is)
    (case hc_UnknownName => k_is)
    (case hc_NotEnough => k_is)
    (case hc_InvalidSign => k_is)
    (case hc_InvalidRow => k_is)
    (case hc_InvalidText => k_is)
    (case hc_InvalidOffset => k_is)
    (case hc_InvalidMove => k_is)
    (case hc_Unreadable => k_is)
    (case hc_InvalidCode => k_is)
    (case hc_InvalidOperation => k_is)
    (case eg_InvalidText => k_is)
    (case ek_InvalidText => k_is)
    (case es_InvalidText => k_is)
    (case ed_InvalidText => k_is)
    (case ea_InvalidText => k_is)
    (case en_InvalidText => k_is)
    (case et_InvalidText => k_is)
    (case em_InvalidText => k_is)
    (case sx_InvalidText => kts_exm)
    (case ki_InvalidText_InvalidStock => kit_is)
    (case ki_InvalidText_TooMany => kit_is)
    (case ki_InvalidText_InvalidCount => kit_is)
    (case ki_InvalidText_Contradiction => kit_is)
    (case ki_InvalidText_InvalidName => kit_is)
    (case ki_InvalidText_UnknownName => kit_is)
    (case ki_InvalidText_NotEnough => kit_is)
    (case ki_InvalidText_InvalidSign => kit_is)
    (case ki_InvalidText_InvalidRow => kit_is)
    (case ki_InvalidText_InvalidText => kit_is)
    (case ki_InvalidText_InvalidOffset => kit_is)
    (case ki_InvalidText_InvalidMove => kit_is)
    (case ki_InvalidText_Unreadable => kit_is)
    (case ki_InvalidText_InvalidCode => kit_is)
    (case ki_InvalidText_InvalidOperation => kit_is)
    (case kv_InvalidText => kit_is)
    (case kk_InvalidText => k_is)
    (case ty_InvalidText => k_is)
    (case ns_InvalidText => k_is)
    (case nx_InvalidText_index => k_is)
    (case eg_InvalidOffset => k_is)
    (case ek_InvalidOffset => k_is)
    (case es_InvalidOffset => k_is)
    (case ed_InvalidOffset => k_is)
    (case ea_InvalidOffset => k_is)
    (case en_InvalidOffset => k_is)
    (case et_InvalidOffset => k_is)
    (case em_InvalidOffset => k_is)
    (case sx_InvalidOffset => kts_exm)
    (case ki_InvalidOffset_InvalidStock => kit_is)
    (case ki_InvalidOffset_TooMany => kit_is)
    (case ki_InvalidOffset_InvalidCount => kit_is)
    (case ki_InvalidOffset_Contradiction => kit_is)
    (case ki_InvalidOffset_InvalidName => kit_is)
    (case ki_InvalidOffset_UnknownName => kit_is)
    (case ki_InvalidOffset_NotEnough => kit_is)
    (case ki_InvalidOffset_InvalidSign => kit_is)
    (case ki_InvalidOffset_InvalidRow => kit_is)
    (case ki_InvalidOffset_InvalidText => kit_is)
    (case ki_InvalidOffset_InvalidOffset => kit_is)
    (case ki_InvalidOffset_InvalidMove => kit_is)
    (case ki_InvalidOffset_Unreadable => kit_is)
    (case ki_InvalidOffset_InvalidCode => kit_is)
    (case ki_InvalidOffset_InvalidOperation => kit_is)
    (case kv_InvalidOffset => kit_is)
    (case kk_InvalidOffset => k_is)
    (case ty_InvalidOffset => k_is)
    (case ns_InvalidOffset => k_is)
    (case nx_InvalidOffset_index => k_is)
    (case br_S => k_is)
    (case bg_S => k_is)
    (case bf_S => k_is)
    (case xl_InvalidText => k_is)
    (case sa_InvalidText => k_is)
    (case xl_InvalidOffset => k_is)
    (case sa_InvalidOffset => k_is)
    (case h0 => k_is)
    (case l0 => k_is)
    (case cd_0 => k_is)
    (case k0 => k_is)
    (case h1 => k_is)
    (case l1 => k_is)
    (case cd_1 => k_is)
    (case k1 => k_is)
    (case h2 => k_is)
    (case i2 => k_is)
    (case l2 => k_is)
    (case cd_2 => k_is)
    (case k2 => k_is)
    (case hT2 => k_is)
    (case hz2 => k_is)
    (case h3 => k_is)
    (case hg3 => k_is)
    (case ht3 => k_is)
    (case hr3 => k_is)
    (case l3 => k_is)
    (case cd_3 => k_is)
    (case k3 => k_is)
    (case h4 => k_is)
    (case i4 => k_is)
    (case l4 => k_is)
    (case cd_4 => k_is)
    (case k4 => k_is)
    (case h5 => k_is)
    (case i5 => k_is)
    (case l5 => k_is)
    (case cd_5 => k_is)
    (case k5 => k_is)
    (case h6 => k_is)
    (case i6 => k_is)
    (case l6 => k_is)
    (case cd_6 => k_is)
    (case k6 => k_is)
    (case h7 => k_is)
    (case i7 => k_is)
    (case l7 => k_is)
    (case cd_7 => k_is)
    (case k7 => k_is)
    (case h8 => k_is)
    (case l8 => k_is)
    (case cd_8 => k_is)
    (case k8 => k_is)
    (case h9 => k_is)
    (case l9 => k_is)
    (case cd_9 => k_is)
    (case k9 => k_is)
    (case h10 => k_is)
    (case l10 => k_is)
    (case cd_10 => k_is)
    (case k10 => k_is)
    (case h11 => k_is)
    (case l11 => k_is)
    (case cd_11 => k_is)
    (case k11 => k_is)
    (case h12 => k_is)
    (case l12 => k_is)
    (case cd_12 => k_is)
    (case k12 => k_is)
    (case h13 => k_is)
    (case l13 => k_is)
    (case cd_13 => k_is)
    (case k13 => k_is)
    (case h14 => k_is)
    (case l14 => k_is)
    (case cd_14 => k_is)
    (case k14 => k_is)
    (case h15 => k_is)
    (case l15 => k_is)
    (case cd_15 => k_is)
    (case k15 => k_is)
    (case h16 => k_is)
    (case l16 => k_is)
    (case cd_16 => k_is)
    (case k16 => k_is)
    (case h17 => k_is)
    (case l17 => k_is)
    (case cd_17 => k_is)
    (case k17 => k_is)
    (case h18 => k_is)
    (case l18 => k_is)
    (case cd_18 => k_is)
    (case k18 => k_is)
    (case h19 => k_is)
    (case l19 => k_is)
    (case cd_19 => k_is)
    (case k19 => k_is)
    (case h20 => k_is)
    (case l20 => k_is)
    (case cd_20 => k_is)
    (case k20 => k_is)
    (case h21 => k_is)
    (case l21 => k_is)
    (case cd_21 => k_is)
    (case k21 => k_is)
    (case h22 => k_is)
    (case l22 => k_is)
    (case cd_22 => k_is)
    (case k22 => k_is)
    (case h23 => k_is)
    (case l23 => k_is)
    (case cd_23 => k_is)
    (case k23 => k_is)
    (case h24 => k_is)
    (case i24 => k_is)
    (case l24 => k_is)
    (case cd_24 => k_is)
    (case k24 => k_is)
    (case h25 => k_is)
    (case l25 => k_is)
    (case cd_25 => k_is)
    (case k25 => k_is)
    (case h26 => k_is)
    (case l26 => k_is)
    (case cd_26 => k_is)
    (case k26 => k_is)
    (case h27 => k_is)
    (case i27 => k_is)
    (case l27 => k_is)
    (case cd_27 => k_is)
    (case k27 => k_is)
    (case h28 => k_is)
    (case i28 => k_is)
    (case l28 => k_is)
    (case cd_28 => k_is)
    (case k28 => k_is)
    (case h29 => k_is)
    (case l29 => k_is)
    (case cd_29 => k_is)
    (case k29 => k_is)
    (case h30 => k_is)
    (case l30 => k_is)
    (case cd_30 => k_is)
    (case k30 => k_is)
    (case h31 => k_is)
    (case l31 => k_is)
    (case cd_31 => k_is)
    (case k31 => k_is)
    (case h32 => k_is)
    (case l32 => k_is)
    (case cd_32 => k_is)
    (case k32 => k_is)
    (case h33 => k_is)
    (case l33 => k_is)
    (case cd_33 => k_is)
    (case k33 => k_is)
    (case h34 => k_is)
    (case l34 => k_is)
    (case cd_34 => k_is)
    (case k34 => k_is)
    (case h35 => k_is)
    (case l35 => k_is)
    (case cd_35 => k_is)
    (case k35 => k_is)
    (case lcc => k_is)
    (case vcc => rfl)
    (case hcc => kernel_rfl)
    (case npp => kernel_rfl)
    (case z_ValueError => k_is)
    (case z_abs => k_is)
    (case z_all => k_is)
    (case z_any => k_is)
    (case z_bool => k_is)
    (case z_enumerate => k_is)
    (case z_int => k_is)
    (case z_isinstance => k_is)
    (case z_len => k_is)
    (case z_list => k_is)
    (case z_min => k_is)
    (case z_range => k_is)
    (case z_sorted => k_is)
    (case z_str => k_is)
    (case z_sum => k_is)
    (case z_tuple => k_is)
    (case z_zip => k_is)
    (case y_BLANK => k_is)
    (case y_LETTERS => k_is)
    (case y_MAX_PAIRS => k_is)
    (case y_MAX_TEXTS => k_is)
    (case y_MAX_WIDTH => k_is)

