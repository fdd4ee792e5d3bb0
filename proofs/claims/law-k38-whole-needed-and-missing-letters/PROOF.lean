import PyProof.Rows.All
import Wide.All
import OpenK.AllK
import Wide.FinOn
import HandS.ForMost
import HandS.Base
import HandS.Call
import HandS.List
import HandS.Comp
import HandS.Ends
import HandS.Dict
import HandS.Iter
import HandS.Text
import HandS.Words
import HandS.Exc
import HandS.Walk
import HandS.Evl
import HandS.Conv
import HandS.TupAny
import HandS.Codes
import HandS.IsInst
import HandS.Property
import HandS.WordsExc
import HandS.StrMore
import PyProof.ListStr
import KE.GoesMore
import HandS.Zip
import HandS.ClsMeth
import HandS.Defaults
import HandS.Replace
import HandS.Star
import KE.KUnpackStar
import HandS.StrSplit
import HandS.DictComp
import HandS.More
import KE.GoesZip
import HandS.Sort
import PyProof.SumAny
import HandS.Strs
import HandS.SetFor
import KE.DataMinMax
import KE.SortData
import HandS.GenBody
import HandS.GenYield
import HandS.GenCall
import HandS.GenList
import PyProof.ZipIter
import HandS.Lambda
import HandS.ExcIs
import HandS.EndTab
import HandS.ExcOwn
import KE.KNestM
import HandS.EndOwn
import HandS.TryOnly
import HandS.ListItems
import HandS.ExcInit
import HandS.ExcField
import KE.KExcIs
import HandS.WordsDict
import KE.KDictKeyed
import KE.KeyNested
import KE.KDictWalk
import HandS.TupMul
import KE.DatumOrd
import KE.KDflt
import OpenK.KCall
import HandS.Finally
import HandS.SuiteRaise
import KE.KAssignIn
import KE.GoesComp
import HandS.Style
import PyProof.Rows.RegMatchSeq
import PyProof.DictCalls
import HandS.HeadHook3
import HandS.ReplaceLit
import KE.DataFind
import KE.DataEq
import PyProof.Rows.TupTab
import KE.KDictDisplayH
import HandS.RaiseFrom
import KE.KExcRaise
import KE.KDictZip
import KE.KTurns
import HandS.TupSets
import KE.KDictExact
import KE.KRevSl
import PySem.Challenge.RW_marqueeletters_k38_whole_needed_and_miss
import KE.OsRunLaw
set_option Elab.async false
set_option linter.all false
set_option maxRecDepth 100000
set_option maxHeartbeats 4000000
/-! A layer of our own over HandS: values as deep data, the heap as a frozen part and owned objects. -/
namespace AL
open PySem L2
noncomputable abbrev Frg := PySem.W.Frag
noncomputable abbrev Ex : Hp → Hp → Prop := Evl.Ex
theorem Ex.refl {H : Hp} : Ex H H := Evl.Ex.refl H
theorem Ex.trans {H H1 H2 : Hp} (a : Ex H H1) (b : Ex H1 H2) : Ex H H2 := Evl.Ex.trans a b

/-- deep data -/
inductive D where
  | non | bl (b : Bool) | int (i : Int) | str (x : Str) | ref (a : Addr) | ty (n : String)
  | tup (ds : List D) | lst (ds : List D) | rdl (ds : List D) | dic (kvs : List (Key × D))

mutual
inductive Rep (K : Frg) (F : Hp) : D → V → Prop
  | non : Rep K F .non .non
  | bl (b : Bool) : Rep K F (.bl b) (.bl b)
  | int (i : Int) : Rep K F (.int i) (.int i)
  | str (x : Str) : Rep K F (.str x) (.str x)
  | ref (a : Addr) : Rep K F (.ref a) (.ref a)
  | ty (n : String) : Rep K F (.ty n) (.ty n)
  | tup {a : Addr} {xs : List V} {ds : List D} : SqT K F a xs → RepL K F ds xs → Rep K F (.tup ds) (.ref a)
  | lst {a : Addr} {xs : List V} {ds : List D} : F a = some (.lst xs) → RepL K F ds xs → Rep K F (.lst ds) (.ref a)
  | rdl {a : Addr} {xs : List V} {ds : List D} : SqL K F a xs → RepL K F ds xs → Rep K F (.rdl ds) (.ref a)
  | dic {a : Addr} {xs : List (Key × V)} {ds : List (Key × D)} : F a = some (.dK xs) → RepK K F ds xs → Rep K F (.dic ds) (.ref a)
inductive RepL (K : Frg) (F : Hp) : List D → List V → Prop
  | nil : RepL K F [] []
  | cons {d : D} {v : V} {ds : List D} {vs : List V} : Rep K F d v → RepL K F ds vs → RepL K F (d :: ds) (v :: vs)
inductive RepK (K : Frg) (F : Hp) : List (Key × D) → List (Key × V) → Prop
  | nil : RepK K F [] []
  | cons {k : Key} {d : D} {v : V} {ds : List (Key × D)} {vs : List (Key × V)} : Rep K F d v → RepK K F ds vs → RepK K F ((k, d) :: ds) ((k, v) :: vs)
end
theorem ex_t {K : Frg} {H H' : Hp} {a : Addr} {xs : List V} (e : Ex H H') (h : SqT K H a xs) : SqT K H' a xs := Evl.ex_t e h
theorem ex_l {K : Frg} {H H' : Hp} {a : Addr} {xs : List V} (e : Ex H H') (h : SqL K H a xs) : SqL K H' a xs := Evl.ex_l e h
section
variable {K : Frg} {F F' : Hp}
mutual
theorem Rep.mono (e : Ex F F') : ∀ {d : D} {v : V}, Rep K F d v → Rep K F' d v
  | _, _, .non => .non
  | _, _, .bl b => .bl b
  | _, _, .int i => .int i
  | _, _, .str x => .str x
  | _, _, .ref a => .ref a
  | _, _, .ty n => .ty n
  | _, _, .tup h r => .tup (ex_t e h) (RepL.mono e r)
  | _, _, .lst h r => .lst (e _ _ h) (RepL.mono e r)
  | _, _, .rdl h r => .rdl (ex_l e h) (RepL.mono e r)
  | _, _, .dic h r => .dic (e _ _ h) (RepK.mono e r)
theorem RepL.mono (e : Ex F F') : ∀ {ds : List D} {vs : List V}, RepL K F ds vs → RepL K F' ds vs
  | _, _, .nil => .nil
  | _, _, .cons h r => .cons (Rep.mono e h) (RepL.mono e r)
theorem RepK.mono (e : Ex F F') : ∀ {ds : List (Key × D)} {vs : List (Key × V)}, RepK K F ds vs → RepK K F' ds vs
  | _, _, .nil => .nil
  | _, _, .cons h r => .cons (Rep.mono e h) (RepK.mono e r)
end
theorem RepL.len : ∀ {ds : List D} {vs : List V}, RepL K F ds vs → ds.length = vs.length
  | _, _, .nil => rfl
  | _, _, .cons _ r => by rw [List.length_cons, List.length_cons, RepL.len r]
theorem RepL.get : ∀ {ds : List D} {vs : List V} {i : Nat} {v : V}, RepL K F ds vs → vs[i]? = some v → ∃ d, ds[i]? = some d ∧ Rep K F d v
  | _, _, _, _, .nil, h => by simp at h
  | _, _, 0, _, .cons h _, e => by simp at e; subst e; exact ⟨_, rfl, h⟩
  | _, _, i + 1, _, .cons _ r, e => by simp at e; obtain ⟨d, h1, h2⟩ := RepL.get r e; exact ⟨d, by simpa using h1, h2⟩
theorem RepL.getD : ∀ {ds : List D} {vs : List V} {i : Nat} {d : D}, RepL K F ds vs → ds[i]? = some d → ∃ v, vs[i]? = some v ∧ Rep K F d v
  | _, _, _, _, .nil, h => by simp at h
  | _, _, 0, _, .cons h _, e => by simp at e; subst e; exact ⟨_, rfl, h⟩
  | _, _, i + 1, _, .cons _ r, e => by simp at e; obtain ⟨d, h1, h2⟩ := RepL.getD r e; exact ⟨d, by simpa using h1, h2⟩
theorem RepL.append : ∀ {ds es : List D} {vs ws : List V}, RepL K F ds vs → RepL K F es ws → RepL K F (ds ++ es) (vs ++ ws)
  | _, _, _, _, .nil, s => s
  | _, _, _, _, .cons h r, s => .cons h (RepL.append r s)
theorem RepL.one {d : D} {v : V} (h : Rep K F d v) : RepL K F [d] [v] := .cons h .nil
theorem RepL.set {d : D} {v : V} (h : Rep K F d v) : ∀ {ds : List D} {vs : List V} (i : Nat), RepL K F ds vs → RepL K F (ds.set i d) (vs.set i v)
  | _, _, _, .nil => .nil
  | _, _, 0, .cons _ r => .cons h r
  | _, _, i + 1, .cons q r => .cons q (RepL.set h i r)
theorem RepL.take : ∀ {ds : List D} {vs : List V} (n : Nat), RepL K F ds vs → RepL K F (ds.take n) (vs.take n)
  | _, _, 0, _ => .nil
  | _, _, _ + 1, .nil => .nil
  | _, _, n + 1, .cons h r => .cons h (RepL.take n r)
theorem RepL.drop : ∀ {ds : List D} {vs : List V} (n : Nat), RepL K F ds vs → RepL K F (ds.drop n) (vs.drop n)
  | _, _, 0, r => r
  | _, _, _ + 1, .nil => .nil
  | _, _, n + 1, .cons _ r => RepL.drop n r
theorem RepL.eraseIdx : ∀ {ds : List D} {vs : List V} (n : Nat), RepL K F ds vs → RepL K F (ds.eraseIdx n) (vs.eraseIdx n)
  | _, _, _, .nil => .nil
  | _, _, 0, .cons _ r => r
  | _, _, n + 1, .cons h r => .cons h (RepL.eraseIdx n r)
theorem RepK.len : ∀ {ds : List (Key × D)} {vs : List (Key × V)}, RepK K F ds vs → ds.length = vs.length
  | _, _, .nil => rfl
  | _, _, .cons _ r => by rw [List.length_cons, List.length_cons, RepK.len r]
theorem RepK.append : ∀ {ds es : List (Key × D)} {vs ws : List (Key × V)}, RepK K F ds vs → RepK K F es ws → RepK K F (ds ++ es) (vs ++ ws)
  | _, _, _, _, .nil, s => s
  | _, _, _, _, .cons h r, s => .cons h (RepK.append r s)
end

/-! ### owned objects -/
inductive MO where
  | lst (ds : List D) | dic (kvs : List (Key × D)) | ins (C : Addr) (fs : List (Str × D)) | raw (o : HO)
inductive RepF (K : Frg) (F : Hp) : List (Str × D) → List (Str × V) → Prop
  | nil : RepF K F [] []
  | cons {k : Str} {d : D} {v : V} {ds : List (Str × D)} {vs : List (Str × V)} : Rep K F d v → RepF K F ds vs → RepF K F ((k, d) :: ds) ((k, v) :: vs)
noncomputable def MRep (K : Frg) (F H : Hp) (a : Addr) : MO → Prop
  | .lst ds => ∃ vs, H a = some (.lst vs) ∧ RepL K F ds vs
  | .dic ds => ∃ vs, H a = some (.dK vs) ∧ RepK K F ds vs
  | .ins C fs => ∃ dx gs, H a = some (.ins C dx gs) ∧ F dx = some (.own a) ∧ RepF K F fs gs
  | .raw o => H a = some o
noncomputable abbrev Ms := List (Addr × MO)
structure Hold (K : Frg) (F : Hp) (ms : Ms) (H : Hp) : Prop where
  ex : Ex F H
  own : ∀ p ∈ ms, F p.1 = none ∧ MRep K F H p.1 p.2
  nd : (ms.map Prod.fst).Nodup
section
variable {K : Frg} {F F' H : Hp} {ms : Ms}
theorem RepF.mono (e : Ex F F') : ∀ {ds : List (Str × D)} {vs : List (Str × V)}, RepF K F ds vs → RepF K F' ds vs
  | _, _, .nil => .nil
  | _, _, .cons h r => .cons (h.mono e) (RepF.mono e r)
theorem RepF.look : ∀ {ds : List (Str × D)} {vs : List (Str × V)} {f : Str} {d : D}, RepF K F ds vs → ds.lookup f = some d → ∃ v, vs.lookup f = some v ∧ Rep K F d v
  | _, _, _, _, .nil, h => by simp at h
  | _, _, f, d, .cons (k := k) h r, e => by
    rw [List.lookup_cons] at e ⊢
    cases q : f == k with
    | true => rw [q] at e; cases e; exact ⟨_, rfl, h⟩
    | false => rw [q] at e; exact RepF.look r e
theorem RepF.lookN : ∀ {ds : List (Str × D)} {vs : List (Str × V)} {f : Str}, RepF K F ds vs → ds.lookup f = none → vs.lookup f = none
  | _, _, _, .nil, h => rfl
  | _, _, f, .cons (k := k) h r, e => by
    rw [List.lookup_cons] at e ⊢
    cases q : f == k with
    | true => rw [q] at e; cases e
    | false => rw [q] at e; exact RepF.lookN r e
theorem RepF.len : ∀ {ds : List (Str × D)} {vs : List (Str × V)}, RepF K F ds vs → ds.length = vs.length
  | _, _, .nil => rfl
  | _, _, .cons _ r => by rw [List.length_cons, List.length_cons, RepF.len r]
noncomputable def putD (f : Str) (d : D) : List (Str × D) → List (Str × D)
  | [] => [(f, d)]
  | (g, e) :: r => if g = f then (f, d) :: r else (g, e) :: putD f d r
theorem RepF.put {f : Str} {d : D} {v : V} (h : Rep K F d v) : ∀ {ds : List (Str × D)} {vs : List (Str × V)}, RepF K F ds vs → RepF K F (putD f d ds) (putF f v vs)
  | _, _, .nil => .cons h .nil
  | _, _, .cons (k := k) q r => by
    unfold putD putF
    split
    · rename_i e; subst e; exact .cons h r
    · exact .cons q (RepF.put h r)
theorem MRep.mono (e : Ex F F') : ∀ {m : MO} {a : Addr}, MRep K F H a m → MRep K F' H a m
  | .lst _, _, ⟨vs, h, r⟩ => ⟨vs, h, r.mono e⟩
  | .dic _, _, ⟨vs, h, r⟩ => ⟨vs, h, r.mono e⟩
  | .ins _ _, _, ⟨dx, gs, h, q, r⟩ => ⟨dx, gs, h, e _ _ q, r.mono e⟩
  | .raw _, _, h => h
theorem MRep.there : ∀ {m : MO} {a : Addr}, MRep K F H a m → ∃ o, H a = some o
  | .lst _, _, ⟨_, h, _⟩ => ⟨_, h⟩
  | .dic _, _, ⟨_, h, _⟩ => ⟨_, h⟩
  | .ins _ _, _, ⟨_, _, h, _⟩ => ⟨_, h⟩
  | .raw _, _, h => ⟨_, h⟩
theorem MRep.at {H' : Hp} : ∀ {m : MO} {a : Addr}, MRep K F H a m → H' a = H a → MRep K F H' a m
  | .lst _, _, ⟨vs, h, r⟩, e => ⟨vs, e.trans h, r⟩
  | .dic _, _, ⟨vs, h, r⟩, e => ⟨vs, e.trans h, r⟩
  | .ins _ _, _, ⟨dx, gs, h, q, r⟩, e => ⟨dx, gs, e.trans h, q, r⟩
  | .raw _, _, h, e => Eq.trans e h
theorem free_of (e : Ex F H) {p : Addr} (h : H p = none) : F p = none := Evl.fresh_back e h
theorem Hold.free (h : Hold K F ms H) {p : Addr} (hp : H p = none) : F p = none := free_of h.ex hp
theorem Hold.ne (h : Hold K F ms H) {p : Addr} (hp : H p = none) : ∀ q ∈ ms, q.1 ≠ p := fun q hq e => by
  obtain ⟨o, ho⟩ := (h.own q hq).2.there
  rw [e, hp] at ho
  cases ho
/-- a new frozen object -/
theorem Hold.laid (h : Hold K F ms H) {p : Addr} (o : HO) (hp : H p = none) : Ex F (upd F p o) ∧ Hold K (upd F p o) ms (upd H p o) := by
  have e : Ex F (upd F p o) := Evl.Ex.new (h.free hp)
  refine ⟨e, fun a u q => ?_, fun q hq => ?_, h.nd⟩
  · by_cases ha : a = p
    · subst ha; rw [upd_same] at q ⊢; exact q
    · rw [upd_ne ha] at q ⊢; exact h.ex _ _ q
  · have ne := h.ne hp q hq
    refine ⟨by rw [upd_ne ne]; exact (h.own q hq).1, ((h.own q hq).2.mono e).at (upd_ne ne)⟩
/-- a new owned object -/
theorem Hold.made (h : Hold K F ms H) {p : Addr} {o : HO} {m : MO} (hp : H p = none) (hm : MRep K F (upd H p o) p m) : Hold K F ((p, m) :: ms) (upd H p o) := by
  refine ⟨h.ex.trans (Evl.Ex.new hp), fun q hq => ?_, ?_⟩
  · rcases List.mem_cons.mp hq with rfl | hq
    · exact ⟨h.free hp, hm⟩
    · exact ⟨(h.own q hq).1, (h.own q hq).2.at (upd_ne (h.ne hp q hq))⟩
  · rw [List.map_cons]
    refine List.nodup_cons.mpr ⟨fun hm' => ?_, h.nd⟩
    obtain ⟨q, hq, e⟩ := List.mem_map.mp hm'
    exact h.ne hp q hq e
theorem Hold.at (h : Hold K F ms H) {i : Nat} {l : Addr} {m : MO} (hi : ms[i]? = some (l, m)) : F l = none ∧ MRep K F H l m := h.own (l, m) (List.mem_of_getElem? hi)
theorem map_fst_set {i : Nat} {l : Addr} {m m' : MO} : ∀ {ms : Ms} {i : Nat}, ms[i]? = some (l, m) → (ms.set i (l, m')).map Prod.fst = ms.map Prod.fst
  | [], _, h => by simp at h
  | _ :: _, 0, h => by simp at h; subst h; rfl
  | _ :: r, i + 1, h => by
    show _ :: (r.set i (l, m')).map Prod.fst = _ :: r.map Prod.fst
    rw [map_fst_set (i := i) (by simpa using h)]
/-- an owned object is changed -/
theorem Hold.set (h : Hold K F ms H) {i : Nat} {l : Addr} {m m' : MO} {o : HO} (hi : ms[i]? = some (l, m)) (hm : MRep K F (upd H l o) l m') : Hold K F (ms.set i (l, m')) (upd H l o) := by
  have hl := h.at hi
  refine ⟨Evl.Ex.mut h.ex hl.1, fun q hq => ?_, by rw [map_fst_set (i := i) hi]; exact h.nd⟩
  obtain ⟨j, hj⟩ := List.getElem?_of_mem hq
  by_cases e : j = i
  · subst e
    have hlt : j < ms.length := (List.getElem?_eq_some_iff.mp hi).1
    rw [List.getElem?_set_self hlt] at hj
    cases hj
    exact ⟨hl.1, hm⟩
  · rw [List.getElem?_set_ne (Ne.symm e)] at hj
    have hq' := h.own q (List.mem_of_getElem? hj)
    refine ⟨hq'.1, hq'.2.at (upd_ne fun z => e ?_)⟩
    have h1 : (ms.map Prod.fst)[j]? = some q.1 := by rw [List.getElem?_map, hj]; rfl
    have h2 : (ms.map Prod.fst)[i]? = some q.1 := by rw [List.getElem?_map, hi, z]; rfl
    exact nodup_ix' h.nd h1 h2
where
  nodup_ix' {N : List Addr} (hN : N.Nodup) {i j : Nat} {x : Addr} (a : N[i]? = some x) (b : N[j]? = some x) : i = j := by
    obtain ⟨h1, e1⟩ := List.getElem?_eq_some_iff.mp a
    obtain ⟨h2, e2⟩ := List.getElem?_eq_some_iff.mp b
    exact (List.getElem_inj hN).mp (e1.trans e2.symm)
theorem Hold.drop (h : Hold K F ms H) (i : Nat) : Hold K F (ms.eraseIdx i) H :=
  ⟨h.ex, fun q hq => h.own q (List.mem_of_mem_eraseIdx hq), by
    have e : (ms.eraseIdx i).map Prod.fst = (ms.map Prod.fst).eraseIdx i := map_erase _ _
    rw [e]
    exact h.nd.sublist (List.eraseIdx_sublist _ _)⟩
where
  map_erase : ∀ (l : Ms) (i : Nat), (l.eraseIdx i).map Prod.fst = (l.map Prod.fst).eraseIdx i
    | [], _ => rfl
    | _ :: _, 0 => rfl
    | p :: r, i + 1 => by
      show p.1 :: (r.eraseIdx i).map Prod.fst = p.1 :: (r.map Prod.fst).eraseIdx i
      rw [map_erase r i]
theorem Hold.tl {p : Addr × MO} (h : Hold K F (p :: ms) H) : Hold K F ms H := h.drop 0
/-- an owned object freezes -/
theorem Hold.freeze (h : Hold K F ms H) {i : Nat} {l : Addr} {m : MO} (hi : ms[i]? = some (l, m)) : ∃ o, H l = some o ∧ Ex F (upd F l o) ∧ Hold K (upd F l o) (ms.eraseIdx i) H := by
  have hl := h.at hi
  obtain ⟨o, ho⟩ := hl.2.there
  have e : Ex F (upd F l o) := Evl.Ex.new hl.1
  have d := h.drop i
  refine ⟨o, ho, e, fun a u q => ?_, fun q hq => ?_, d.nd⟩
  · by_cases ha : a = l
    · subst ha; rw [upd_same] at q; rw [← q]; exact ho
    · rw [upd_ne ha] at q; exact h.ex _ _ q
  · have hq' := d.own q hq
    have ne : q.1 ≠ l := fun z => by
      obtain ⟨j, hj⟩ := List.getElem?_of_mem hq
      rw [List.getElem?_eraseIdx] at hj
      have two : ∀ k, ms[k]? = some q → k = i := fun k hk => by
        have h1 : (ms.map Prod.fst)[k]? = some q.1 := by rw [List.getElem?_map, hk]; rfl
        have h2 : (ms.map Prod.fst)[i]? = some q.1 := by rw [List.getElem?_map, hi, z]; rfl
        exact Hold.set.nodup_ix' h.nd h1 h2
      split at hj
      · have := two _ hj; omega
      · have := two _ hj; omega
    exact ⟨by rw [upd_ne ne]; exact hq'.1, hq'.2.mono e⟩
end

/-! ### the slots -/
noncomputable abbrev Sg := List (Option D)
noncomputable def SRep (K : Frg) (F : Hp) (S : Sg) (σ : St) : Prop := S.length = σ.length ∧ ∀ (i : Nat) (d : D), S[i]? = some (some d) → ∃ v, σ[i]? = some (some v) ∧ Rep K F d v
section
variable {K : Frg} {F F' : Hp} {S : Sg} {σ : St}
theorem SRep.mono (e : Ex F F') (h : SRep K F S σ) : SRep K F' S σ := ⟨h.1, fun i d q => by
  obtain ⟨v, h1, h2⟩ := h.2 i d q
  exact ⟨v, h1, h2.mono e⟩⟩
theorem SRep.set (h : SRep K F S σ) {i : Nat} {d : D} {v : V} (r : Rep K F d v) : SRep K F (S.set i (some d)) (σ.set i (some v)) := by
  refine ⟨by rw [List.length_set, List.length_set]; exact h.1, fun j e q => ?_⟩
  by_cases hj : j = i
  · subst hj
    by_cases hl : j < S.length
    · rw [List.getElem?_set_self hl] at q
      cases q
      exact ⟨v, by rw [List.getElem?_set_self (by rw [← h.1]; exact hl)], r⟩
    · rw [List.getElem?_eq_none (by rw [List.length_set]; omega)] at q
      cases q
  · rw [List.getElem?_set_ne (Ne.symm hj)] at q ⊢
    exact h.2 j e q
theorem SRep.setN (h : SRep K F S σ) {i : Nat} : SRep K F (S.set i none) (σ.set i none) := by
  refine ⟨by rw [List.length_set, List.length_set]; exact h.1, fun j e q => ?_⟩
  by_cases hj : j = i
  · subst hj
    by_cases hl : j < S.length
    · rw [List.getElem?_set_self hl] at q
      cases q
    · rw [List.getElem?_eq_none (by rw [List.length_set]; omega)] at q
      cases q
  · rw [List.getElem?_set_ne (Ne.symm hj)] at q ⊢
    exact h.2 j e q
noncomputable def wipeS (S : Sg) : List Nat → Sg
  | [] => S
  | v :: vs => (wipeS S vs).set v none
theorem SRep.wipe (h : SRep K F S σ) : ∀ vs : List Nat, SRep K F (wipeS S vs) (L2.wipe σ vs)
  | [] => h
  | v :: vs => SRep.setN (SRep.wipe h vs)
theorem SRep.weak (h : SRep K F S σ) {S' : Sg} (hl : S'.length = S.length) (hw : ∀ (i : Nat) d, S'[i]? = some (some d) → S[i]? = some (some d)) : SRep K F S' σ :=
  ⟨hl.trans h.1, fun i d q => h.2 i d (hw i d q)⟩
end

/-! ### the judgements -/
noncomputable abbrev QE := Hp → Ms → D → Prop
/-- what is wanted of an exception: its class, its attributes -/
noncomputable abbrev XA := Addr → List (Str × D) → Hp → Ms → Prop
/-- where one stands: the written part, what is wanted of an exception (concretely, abstractly) -/
structure Cg where
  K : Frg
  E : XK
  Ea : XA
/-- the attributes of an exception: its own dict -/
noncomputable def XDat (K : Frg) (F H : Hp) (dx : Option Addr) (fs : List (Str × D)) : Prop := (dx = none ∧ fs = []) ∨ ∃ d gs, dx = some d ∧ fs ≠ [] ∧ F d = some (.xd gs) ∧ RepF K F fs gs
noncomputable def XLe (Γ : Cg) (R : Ms) (F : Hp) : Prop := ∀ F' ms' C dx fs H', Ex F F' → Hold Γ.K F' (ms' ++ R) H' → XDat Γ.K F' H' dx fs → Γ.Ea C fs F' ms' → Γ.E (.ref C) dx H'
theorem XLe.ex {Γ : Cg} {R : Ms} {F F' : Hp} (x : XLe Γ R F) (e : Ex F F') : XLe Γ R F' := fun F2 ms' C dx fs H' e2 => x F2 ms' C dx fs H' (e.trans e2)
noncomputable abbrev QS := Hp → Ms → Sg → Prop
noncomputable def AE (Γ : Cg) (te : TE) (F : Hp) (ms : Ms) (S : Sg) (Q : QE) : Prop := ∀ (R : Ms) σ H (Qc : VK), SRep Γ.K F S σ → Hold Γ.K F (ms ++ R) H → XLe Γ R F → (∀ F' ms' d v H', Ex F F' → Hold Γ.K F' (ms' ++ R) H' → Rep Γ.K F' d v → Q F' ms' d → Qc v H') → te σ H Qc
noncomputable def AA (Γ : Cg) (ta : TA) (F : Hp) (ms : Ms) (S : Sg) (Q : Hp → Ms → List D → Prop) : Prop := ∀ (R : Ms) σ H (Qc : List V → Hp → Prop), SRep Γ.K F S σ → Hold Γ.K F (ms ++ R) H → XLe Γ R F → (∀ F' ms' ds vs H', Ex F F' → Hold Γ.K F' (ms' ++ R) H' → RepL Γ.K F' ds vs → Q F' ms' ds → Qc vs H') → ta σ H Qc
noncomputable def AT (Γ : Cg) (tt : TT) (F : Hp) (ms : Ms) (S : Sg) (Q : Hp → Ms → Bool → Prop) : Prop := ∀ (R : Ms) σ H (Qc : Bool → Hp → Prop), SRep Γ.K F S σ → Hold Γ.K F (ms ++ R) H → XLe Γ R F → (∀ F' ms' b H', Ex F F' → Hold Γ.K F' (ms' ++ R) H' → Q F' ms' b → Qc b H') → tt σ H Qc
noncomputable def AR (K : Frg) (r : R2) (x y : D) (F : Hp) (ms : Ms) (Q : QE) : Prop := ∀ (R : Ms) u v H (Qc : VK), Rep K F x u → Rep K F y v → Hold K F (ms ++ R) H → (∀ F' ms' d v H', Ex F F' → Hold K F' (ms' ++ R) H' → Rep K F' d v → Q F' ms' d → Qc v H') → r u v H Qc
noncomputable def AC (K : Frg) (r : List V → Hp → VK → Prop) (ds : List D) (F : Hp) (ms : Ms) (Q : QE) : Prop := ∀ (R : Ms) vs H (Qc : VK), RepL K F ds vs → Hold K F (ms ++ R) H → (∀ F' ms' d v H', Ex F F' → Hold K F' (ms' ++ R) H' → Rep K F' d v → Q F' ms' d → Qc v H') → r vs H Qc
/-- a method of a built-in type: the receiver, the arguments -/
noncomputable def AM (K : Frg) (T : String) (r : V → List V → Hp → VK → Prop) (x : D) (ds : List D) (F : Hp) (ms : Ms) (Q : QE) : Prop := ∀ (R : Ms) u vs H (Qc : VK), Rep K F x u → RepL K F ds vs → Hold K F (ms ++ R) H → (∀ F' ms' d v H', Ex F F' → Hold K F' (ms' ++ R) H' → Rep K F' d v → Q F' ms' d → Qc v H') → r u vs H Qc
structure AEnds where
  nx : QS
  rt : QE
  bk : QS := fun _ _ _ => False
  ct : QS := fun _ _ _ => False
structure Le (Γ : Cg) (R : Ms) (F : Hp) (A : AEnds) (E : Ends) : Prop where
  xe : XLe Γ R F
  nx : ∀ F' ms' S' σ' H', Ex F F' → SRep Γ.K F' S' σ' → Hold Γ.K F' (ms' ++ R) H' → A.nx F' ms' S' → E.nx σ' H'
  rt : ∀ F' ms' d v H', Ex F F' → Hold Γ.K F' (ms' ++ R) H' → Rep Γ.K F' d v → A.rt F' ms' d → E.rt v H'
  bk : ∀ F' ms' S' σ' H', Ex F F' → SRep Γ.K F' S' σ' → Hold Γ.K F' (ms' ++ R) H' → A.bk F' ms' S' → E.bk σ' H'
  ct : ∀ F' ms' S' σ' H', Ex F F' → SRep Γ.K F' S' σ' → Hold Γ.K F' (ms' ++ R) H' → A.ct F' ms' S' → E.ct σ' H'
noncomputable def AS (Γ : Cg) (ts : TS) (F : Hp) (ms : Ms) (S : Sg) (A : AEnds) : Prop := ∀ (R : Ms) (E : Ends) σ H, SRep Γ.K F S σ → Hold Γ.K F (ms ++ R) H → Le Γ R F A E → ts E σ H
theorem Le.ex {Γ : Cg} {R : Ms} {F F' : Hp} {A : AEnds} {E : Ends} (l : Le Γ R F A E) (e : Ex F F') : Le Γ R F' A E :=
  ⟨l.xe.ex e, fun F'' ms' S' σ' H' x => l.nx F'' ms' S' σ' H' (e.trans x), fun F'' ms' d v H' x => l.rt F'' ms' d v H' (e.trans x), fun F'' ms' S' σ' H' x => l.bk F'' ms' S' σ' H' (e.trans x), fun F'' ms' S' σ' H' x => l.ct F'' ms' S' σ' H' (e.trans x)⟩

section
variable {Γ : Cg} {K : Frg} {F : Hp} {ms : Ms} {S : Sg} {Q : QE} {ta tb te tx : TE} {t u : TT} {r : R2}
/-! ### expressions -/
theorem ae_var {i : Nat} {d : D} (h : S[i]? = some (some d)) (q : Q F ms d) : AE Γ (tVar i) F ms S Q := fun R σ H Qc hs hh x k => by
  obtain ⟨v, h1, h2⟩ := hs.2 i d h
  exact ⟨v, h1, k F ms d v H Ex.refl hh h2 q⟩
theorem ae_int {i : Int} (q : Q F ms (.int i)) : AE Γ (tC (.int i)) F ms S Q := fun R σ H Qc hs hh x k => k F ms _ _ H Ex.refl hh (.int i) q
theorem ae_str {i : Str} (q : Q F ms (.str i)) : AE Γ (tC (.str i)) F ms S Q := fun R σ H Qc hs hh x k => k F ms _ _ H Ex.refl hh (.str i) q
theorem ae_ty {n : String} (q : Q F ms (.ty n)) : AE Γ (tC (.ty n)) F ms S Q := fun R σ H Qc hs hh x k => k F ms _ _ H Ex.refl hh (.ty n) q
theorem AE.mono {Q' : QE} (h : AE Γ te F ms S Q) (m : ∀ F' ms' d, Ex F F' → Q F' ms' d → Q' F' ms' d) : AE Γ te F ms S Q' := fun R σ H Qc hs hh x k => h R σ H Qc hs hh x fun F' ms' d v H' e ho hr q => k F' ms' d v H' e ho hr (m F' ms' d e q)
theorem AS.mono {ts : TS} {A A' : AEnds} (h : AS Γ ts F ms S A) (m1 : ∀ F' ms' S', Ex F F' → A.nx F' ms' S' → A'.nx F' ms' S') (m2 : ∀ F' ms' d, Ex F F' → A.rt F' ms' d → A'.rt F' ms' d)
    (m3 : ∀ F' ms' S', Ex F F' → A.bk F' ms' S' → A'.bk F' ms' S') (m4 : ∀ F' ms' S', Ex F F' → A.ct F' ms' S' → A'.ct F' ms' S') : AS Γ ts F ms S A' := fun R E σ H hs hh l =>
  h R E σ H hs hh ⟨l.xe, fun F' ms' S' σ' H' e a b q => l.nx F' ms' S' σ' H' e a b (m1 _ _ _ e q), fun F' ms' d v H' e a b q => l.rt F' ms' d v H' e a b (m2 _ _ _ e q), fun F' ms' S' σ' H' e a b q => l.bk F' ms' S' σ' H' e a b (m3 _ _ _ e q), fun F' ms' S' σ' H' e a b q => l.ct F' ms' S' σ' H' e a b (m4 _ _ _ e q)⟩
theorem ae_op (h : AE Γ ta F ms S fun F1 ms1 x => AE Γ tb F1 ms1 S fun F2 ms2 y => AR Γ.K r x y F2 ms2 Q) : AE Γ (tOp r ta tb) F ms S Q := fun R σ H Qc hs hh x k =>
  h R σ H _ hs hh x fun F1 ms1 x1 v1 H1 e1 h1 r1 q1 => q1 R σ H1 _ (hs.mono e1) h1 (x.ex e1) fun F2 ms2 y v2 H2 e2 h2 r2 q2 => q2 R v1 v2 H2 Qc (r1.mono e2) r2 h2 fun F3 ms3 d v3 H3 e3 h3 r3 q3 => k F3 ms3 d v3 H3 ((e1.trans e2).trans e3) h3 r3 q3
theorem ae_un {r1 : V → Hp → VK → Prop} (h : AE Γ ta F ms S fun F1 ms1 x => ∀ (R : Ms) u H (Qc : VK), Rep Γ.K F1 x u → Hold Γ.K F1 (ms1 ++ R) H → (∀ F' ms' d v H', Ex F1 F' → Hold Γ.K F' (ms' ++ R) H' → Rep Γ.K F' d v → Q F' ms' d → Qc v H') → r1 u H Qc) : AE Γ (tUn r1 ta) F ms S Q := fun R σ H Qc hs hh x k =>
  h R σ H _ hs hh x fun F1 ms1 x1 v1 H1 e1 h1 r1 q1 => q1 R v1 H1 Qc r1 h1 fun F3 ms3 d v3 H3 e3 h3 r3 q3 => k F3 ms3 d v3 H3 (e1.trans e3) h3 r3 q3
theorem ae_neg {f : Int → V} {g : Int → Int} (hf : ∀ i, f i = .int (g i)) (h : AE Γ ta F ms S fun F1 ms1 x => ∃ i, x = .int i ∧ Q F1 ms1 (.int (g i))) : AE Γ (tUn (rU f) ta) F ms S Q := ae_un (AE.mono h fun F1 ms1 x e ⟨i, hx, q⟩ R u H Qc hr hh k => by
  subst hx
  cases hr
  refine ⟨i, rfl, ?_⟩
  rw [hf]
  exact k F1 ms1 _ _ H Ex.refl hh (.int _) q)
theorem aa_nil {Q : Hp → Ms → List D → Prop} (q : Q F ms []) : AA Γ tNil F ms S Q := fun R σ H Qc hs hh x k => k F ms [] [] H Ex.refl hh .nil q
theorem aa_cons {tr : TA} {Q : Hp → Ms → List D → Prop} (h : AE Γ te F ms S fun F1 ms1 x => AA Γ tr F1 ms1 S fun F2 ms2 xs => Q F2 ms2 (x :: xs)) : AA Γ (tCons te tr) F ms S Q := fun R σ H Qc hs hh x k =>
  h R σ H _ hs hh x fun F1 ms1 x1 v1 H1 e1 h1 r1 q1 => q1 R σ H1 _ (hs.mono e1) h1 (x.ex e1) fun F2 ms2 xs vs H2 e2 h2 r2 q2 => k F2 ms2 (x1 :: xs) (v1 :: vs) H2 (e1.trans e2) h2 (.cons (r1.mono e2) r2) q2
theorem ae_tup {ta : TA} (h : AA Γ ta F ms S fun F1 ms1 xs => xs.length ≤ 100000 ∧ ∀ F2, Ex F1 F2 → Q F2 ms1 (.tup xs)) : AE Γ (tTup ta) F ms S Q := fun R σ H Qc hs hh x k =>
  h R σ H _ hs hh x fun F1 ms1 xs vs H1 e1 h1 r1 q1 => ⟨Evl.sz_of (by rw [← r1.len]; exact q1.1), fun p hp => by
    obtain ⟨e2, h2⟩ := h1.laid (.tup vs) hp
    exact k _ ms1 (.tup xs) _ _ (e1.trans e2) h2 (.tup (SqT.of upd_same) (r1.mono e2)) (q1.2 _ e2)⟩
/-- a displayed list, frozen -/
theorem ae_lstF {ta : TA} (h : AA Γ ta F ms S fun F1 ms1 xs => xs.length ≤ 100000 ∧ ∀ F2, Ex F1 F2 → Q F2 ms1 (.lst xs)) : AE Γ (tLst ta) F ms S Q := fun R σ H Qc hs hh x k =>
  h R σ H _ hs hh x fun F1 ms1 xs vs H1 e1 h1 r1 q1 => ⟨Evl.sz_of (by rw [← r1.len]; exact q1.1), fun p hp => by
    obtain ⟨e2, h2⟩ := h1.laid (.lst vs) hp
    exact k _ ms1 (.lst xs) _ _ (e1.trans e2) h2 (.lst upd_same (r1.mono e2)) (q1.2 _ e2)⟩
/-- a displayed list, owned -/
theorem ae_lstO {ta : TA} (h : AA Γ ta F ms S fun F1 ms1 xs => xs.length ≤ 100000 ∧ ∀ l, Q F1 ((l, .lst xs) :: ms1) (.ref l)) : AE Γ (tLst ta) F ms S Q := fun R σ H Qc hs hh x k =>
  h R σ H _ hs hh x fun F1 ms1 xs vs H1 e1 h1 r1 q1 => ⟨Evl.sz_of (by rw [← r1.len]; exact q1.1), fun p hp =>
    k _ _ (.ref p) _ _ e1 (h1.made (m := .lst xs) hp ⟨vs, upd_same, r1⟩) (.ref p) (q1.2 p)⟩
theorem ae_dnewO (h : ∀ l, Q F ((l, .dic []) :: ms) (.ref l)) : AE Γ tDNewK F ms S Q := fun R σ H Qc hs hh x k p hp => k _ _ (.ref p) _ _ Ex.refl (hh.made (m := .dic []) hp ⟨[], upd_same, .nil⟩) (.ref p) (h p)
theorem ae_call1 {rc : List V → Hp → VK → Prop} {ta : TA} (h : AA Γ ta F ms S fun F1 ms1 xs => AC Γ.K rc xs F1 ms1 Q) : AE Γ (tCB rc ta) F ms S Q := fun R σ H Qc hs hh x k =>
  h R σ H _ hs hh x fun F1 ms1 xs vs H1 e1 h1 r1 q1 => q1 R vs H1 Qc r1 h1 fun F2 ms2 d v H2 e2 h2 r2 q2 => k F2 ms2 d v H2 (e1.trans e2) h2 r2 q2
theorem ae_if (h : AT Γ t F ms S fun F1 ms1 b => (b = true → AE Γ ta F1 ms1 S Q) ∧ (b = false → AE Γ tb F1 ms1 S Q)) : AE Γ (tIf t ta tb) F ms S Q := fun R σ H Qc hs hh x k =>
  h R σ H _ hs hh x fun F1 ms1 b H1 e1 h1 q1 => by
    cases b with
    | true => exact q1.1 rfl R σ H1 Qc (hs.mono e1) h1 (x.ex e1) fun F2 ms2 d v H2 e2 h2 r2 q2 => k F2 ms2 d v H2 (e1.trans e2) h2 r2 q2
    | false => exact q1.2 rfl R σ H1 Qc (hs.mono e1) h1 (x.ex e1) fun F2 ms2 d v H2 e2 h2 r2 q2 => k F2 ms2 d v H2 (e1.trans e2) h2 r2 q2
theorem ae_andV (h : AE Γ ta F ms S fun F1 ms1 x => ∃ b, x = .bl b ∧ (b = true → AE Γ tb F1 ms1 S Q) ∧ (b = false → Q F1 ms1 (.bl false))) : AE Γ (tAndV ta tb) F ms S Q := fun R σ H Qc hs hh x k =>
  h R σ H _ hs hh x fun F1 ms1 x1 v1 H1 e1 h1 r1 ⟨b, hx, p1, p2⟩ => by
    subst hx
    cases r1
    refine ⟨b, rfl, ?_⟩
    cases b with
    | true => exact p1 rfl R σ H1 Qc (hs.mono e1) h1 (x.ex e1) fun F2 ms2 d v H2 e2 h2 r2 q2 => k F2 ms2 d v H2 (e1.trans e2) h2 r2 q2
    | false => exact k F1 ms1 _ _ H1 e1 h1 (.bl false) (p2 rfl)
theorem ae_orV (h : AE Γ ta F ms S fun F1 ms1 x => ∃ b, x = .bl b ∧ (b = false → AE Γ tb F1 ms1 S Q) ∧ (b = true → Q F1 ms1 (.bl true))) : AE Γ (tOrV ta tb) F ms S Q := fun R σ H Qc hs hh x k =>
  h R σ H _ hs hh x fun F1 ms1 x1 v1 H1 e1 h1 r1 ⟨b, hx, p1, p2⟩ => by
    subst hx
    cases r1
    refine ⟨b, rfl, ?_⟩
    cases b with
    | false => exact p1 rfl R σ H1 Qc (hs.mono e1) h1 (x.ex e1) fun F2 ms2 d v H2 e2 h2 r2 q2 => k F2 ms2 d v H2 (e1.trans e2) h2 r2 q2
    | true => exact k F1 ms1 _ _ H1 e1 h1 (.bl true) (p2 rfl)
theorem ae_notV (h : AE Γ ta F ms S fun F1 ms1 x => ∃ b, x = .bl b ∧ Q F1 ms1 (.bl (!b))) : AE Γ (tNotV ta) F ms S Q := fun R σ H Qc hs hh x k =>
  h R σ H _ hs hh x fun F1 ms1 x1 v1 H1 e1 h1 r1 ⟨b, hx, p1⟩ => by
    subst hx
    cases r1
    exact ⟨b, rfl, k F1 ms1 _ _ H1 e1 h1 (.bl _) p1⟩
/-! ### tests -/
variable {QT : Hp → Ms → Bool → Prop}
theorem at_test (h : AE Γ ta F ms S fun F1 ms1 x => ∃ b, x = .bl b ∧ QT F1 ms1 b) : AT Γ (tTest ta) F ms S QT := fun R σ H Qc hs hh x k =>
  h R σ H _ hs hh x fun F1 ms1 x1 v1 H1 e1 h1 r1 ⟨b, hx, p1⟩ => by
    subst hx
    cases r1
    exact ⟨b, rfl, k F1 ms1 b H1 e1 h1 p1⟩
theorem at_B (h : AE Γ ta F ms S fun F1 ms1 x => ∃ b, x = .bl b ∧ QT F1 ms1 b) : AT Γ (tB ta) F ms S QT := fun R σ H Qc hs hh x k =>
  h R σ H _ hs hh x fun F1 ms1 x1 v1 H1 e1 h1 r1 ⟨b, hx, p1⟩ => by
    subst hx
    cases r1
    exact ⟨b, rfl, k F1 ms1 b H1 e1 h1 p1⟩
theorem at_and (h : AT Γ t F ms S fun F1 ms1 b => (b = true → AT Γ u F1 ms1 S QT) ∧ (b = false → QT F1 ms1 false)) : AT Γ (tAnd t u) F ms S QT := fun R σ H Qc hs hh x k =>
  h R σ H _ hs hh x fun F1 ms1 b H1 e1 h1 q1 => by
    cases b with
    | true => exact q1.1 rfl R σ H1 Qc (hs.mono e1) h1 (x.ex e1) fun F2 ms2 d H2 e2 h2 q2 => k F2 ms2 d H2 (e1.trans e2) h2 q2
    | false => exact k F1 ms1 _ H1 e1 h1 (q1.2 rfl)
theorem at_or (h : AT Γ t F ms S fun F1 ms1 b => (b = false → AT Γ u F1 ms1 S QT) ∧ (b = true → QT F1 ms1 true)) : AT Γ (tOr t u) F ms S QT := fun R σ H Qc hs hh x k =>
  h R σ H _ hs hh x fun F1 ms1 b H1 e1 h1 q1 => by
    cases b with
    | false => exact q1.1 rfl R σ H1 Qc (hs.mono e1) h1 (x.ex e1) fun F2 ms2 d H2 e2 h2 q2 => k F2 ms2 d H2 (e1.trans e2) h2 q2
    | true => exact k F1 ms1 _ H1 e1 h1 (q1.2 rfl)
theorem at_not (h : AT Γ t F ms S fun F1 ms1 b => QT F1 ms1 (!b)) : AT Γ (tNot t) F ms S QT := fun R σ H Qc hs hh x k =>
  h R σ H _ hs hh x fun F1 ms1 b H1 e1 h1 q1 => k F1 ms1 _ H1 e1 h1 q1
theorem at_yes (q : QT F ms true) : AT Γ tYes F ms S QT := fun R σ H Qc hs hh x k => k F ms true H Ex.refl hh q
theorem AT.mono {Q' : Hp → Ms → Bool → Prop} (h : AT Γ t F ms S QT) (m : ∀ F' ms' d, Ex F F' → QT F' ms' d → Q' F' ms' d) : AT Γ t F ms S Q' := fun R σ H Qc hs hh x k => h R σ H Qc hs hh x fun F' ms' d H' e ho q => k F' ms' d H' e ho (m F' ms' d e q)

/-! ### operators -/
theorem ar_I0 {g : Int → Int → V} {f : Int → Int → D} (hg : ∀ F i j, Rep K F (f i j) (g i j)) {i j : Int} (q : Q F ms (f i j)) : AR K (rI0 g) (.int i) (.int j) F ms Q := fun R u v H Qc hu hv hh k => by
  cases hu; cases hv
  exact ⟨i, j, rfl, rfl, k F ms _ _ H Ex.refl hh (hg F i j) q⟩
theorem ar_I {C : Int → Int → Prop} {g : Int → Int → V} {f : Int → Int → D} (hg : ∀ F i j, Rep K F (f i j) (g i j)) {i j : Int} (c : C i j) (q : Q F ms (f i j)) : AR K (rI C g) (.int i) (.int j) F ms Q := fun R u v H Qc hu hv hh k => by
  cases hu; cases hv
  exact ⟨i, j, rfl, rfl, c, k F ms _ _ H Ex.refl hh (hg F i j) q⟩
theorem ar_addI {i j : Int} (q : Q F ms (.int (i + j))) : AR K (rI0 fun i j => .int (i + j)) (.int i) (.int j) F ms Q := ar_I0 (f := fun i j => .int (i + j)) (fun _ _ _ => .int _) q
theorem ar_subI {i j : Int} (q : Q F ms (.int (i - j))) : AR K (rI0 fun i j => .int (i - j)) (.int i) (.int j) F ms Q := ar_I0 (f := fun i j => .int (i - j)) (fun _ _ _ => .int _) q
theorem ar_mulI {i j : Int} (c : CMul i j) (q : Q F ms (.int (i * j))) : AR K (rI CMul fun i j => .int (i * j)) (.int i) (.int j) F ms Q := ar_I (f := fun i j => .int (i * j)) (fun _ _ _ => .int _) c q
theorem ar_modI {i j : Int} (c : 0 < j) (q : Q F ms (.int (i % j))) : AR K (rI (fun _ j => 0 < j) fun i j => .int (i % j)) (.int i) (.int j) F ms Q := ar_I (f := fun i j => .int (i % j)) (fun _ _ _ => .int _) c q
theorem ar_divI {i j : Int} (c : CDiv i j) (q : Q F ms (.int (i / j))) : AR K (rI CDiv fun i j => .int (i / j)) (.int i) (.int j) F ms Q := ar_I (f := fun i j => .int (i / j)) (fun _ _ _ => .int _) c q
theorem ar_powI {i j : Int} (c : CPow i j) (q : Q F ms (.int (i ^ j.toNat))) : AR K (rI CPow fun i j => .int (i ^ j.toNat)) (.int i) (.int j) F ms Q := ar_I (f := fun i j => .int (i ^ j.toNat)) (fun _ _ _ => .int _) c q
theorem ar_ltI {i j : Int} (q : Q F ms (.bl (decide (i < j)))) : AR K (rI0 fun i j => .bl (decide (i < j))) (.int i) (.int j) F ms Q := ar_I0 (f := fun i j => .bl (decide (i < j))) (fun _ _ _ => .bl _) q
theorem ar_leI {i j : Int} (q : Q F ms (.bl (decide (i ≤ j)))) : AR K (rI0 fun i j => .bl (decide (i ≤ j))) (.int i) (.int j) F ms Q := ar_I0 (f := fun i j => .bl (decide (i ≤ j))) (fun _ _ _ => .bl _) q
theorem ar_gtI {i j : Int} (q : Q F ms (.bl (decide (j < i)))) : AR K (rI0 fun i j => .bl (decide (j < i))) (.int i) (.int j) F ms Q := ar_I0 (f := fun i j => .bl (decide (j < i))) (fun _ _ _ => .bl _) q
theorem ar_geI {i j : Int} (q : Q F ms (.bl (decide (j ≤ i)))) : AR K (rI0 fun i j => .bl (decide (j ≤ i))) (.int i) (.int j) F ms Q := ar_I0 (f := fun i j => .bl (decide (j ≤ i))) (fun _ _ _ => .bl _) q
theorem ar_eqI {i j : Int} (q : Q F ms (.bl (decide (i = j)))) : AR K rEq (.int i) (.int j) F ms Q := fun R u v H Qc hu hv hh k => by
  cases hu; cases hv
  refine ⟨rfl, k F ms (.bl (decide (i = j))) _ H Ex.refl hh ?_ q⟩
  have e : decide (V.int i = V.int j) = decide (i = j) := by rw [dec_int]; by_cases z : i = j <;> simp [z]
  rw [e]
  exact .bl _
theorem ar_eqS {i j : Str} (q : Q F ms (.bl (decide (i = j)))) : AR K rEq (.str i) (.str j) F ms Q := fun R u v H Qc hu hv hh k => by
  cases hu; cases hv
  refine ⟨rfl, k F ms (.bl (decide (i = j))) _ H Ex.refl hh ?_ q⟩
  have e : decide (V.str i = V.str j) = decide (i = j) := by by_cases z : i = j <;> simp [z]
  rw [e]
  exact .bl _
theorem ar_neI {i j : Int} (q : Q F ms (.bl (!decide (i = j)))) : AR K rNe (.int i) (.int j) F ms Q := fun R u v H Qc hu hv hh k => by
  cases hu; cases hv
  refine ⟨rfl, k F ms (.bl (!decide (i = j))) _ H Ex.refl hh ?_ q⟩
  have e : decide (V.int i = V.int j) = decide (i = j) := by rw [dec_int]; by_cases z : i = j <;> simp [z]
  rw [e]
  exact .bl _
theorem ar_neS {i j : Str} (q : Q F ms (.bl (!decide (i = j)))) : AR K rNe (.str i) (.str j) F ms Q := fun R u v H Qc hu hv hh k => by
  cases hu; cases hv
  refine ⟨rfl, k F ms (.bl (!decide (i = j))) _ H Ex.refl hh ?_ q⟩
  have e : decide (V.str i = V.str j) = decide (i = j) := by by_cases z : i = j <;> simp [z]
  rw [e]
  exact .bl _
end
end AL

set_option Elab.async false
set_option linter.all false
set_option maxRecDepth 100000
set_option maxHeartbeats 4000000
namespace AL
open PySem L2
section
variable {K : Frg} {F : Hp} {ms : Ms} {S : Sg} {Q : QE} {ta tb te tx : TE} {t u : TT} {r : R2}
/-! ### operators by the kinds of their data: one rule a sign -/
theorem ar_inl {r r' : R2} {x y : D} (h : AR K r x y F ms Q) : AR K (fun x y H Q => r x y H Q ∨ r' x y H Q) x y F ms Q := fun R u v H Qc hu hv hh k => .inl (h R u v H Qc hu hv hh k)
theorem ar_inr {r r' : R2} {x y : D} (h : AR K r' x y F ms Q) : AR K (fun x y H Q => r x y H Q ∨ r' x y H Q) x y F ms Q := fun R u v H Qc hu hv hh k => .inr (h R u v H Qc hu hv hh k)
noncomputable def rAddS' : R2 := fun x y H Q => ∃ i j, x = .str i ∧ y = .str j ∧ i.length + j.length ≤ sizeLine ∧ Q (.str (i ++ j)) H
/-- + -/
noncomputable def rADD (K : Frg) : R2 := fun x y H Q => (rI0 fun i j => .int (i + j)) x y H Q ∨ (rAddS' x y H Q ∨ (rCat x y H Q ∨ rCatA K x y H Q))
theorem op_ADD {X : Cx} : OpR X (binaryOp .Add) (rADD X.K) := op_add.or (op_add_str.or (op_cat.or op_catA))
theorem ar_ADDi {i j : Int} (q : Q F ms (.int (i + j))) : AR K (rADD K) (.int i) (.int j) F ms Q := ar_inl (ar_addI q)
theorem ar_ADDs {i j : Str} (h : i.length + j.length ≤ 100000) (q : Q F ms (.str (i ++ j))) : AR K (rADD K) (.str i) (.str j) F ms Q := ar_inr (ar_inl fun R u v H Qc hu hv hh k => by
  cases hu; cases hv
  exact ⟨i, j, rfl, rfl, Evl.sz_of h, k F ms _ _ H Ex.refl hh (.str _) q⟩)
/-- .. a new owned one -/
theorem ar_ADDlo {xs ys : List D} (h : xs.length + ys.length ≤ 100000) (q : ∀ l, Q F ((l, .lst (xs ++ ys)) :: ms) (.ref l)) : AR K (rADD K) (.lst xs) (.lst ys) F ms Q := ar_inr (ar_inr (ar_inl fun R u v H Qc hu hv hh k => by
  cases hu with
  | lst h1 r1 =>
    cases hv with
    | lst h2 r2 =>
      refine ⟨_, _, _, _, rfl, rfl, hh.ex _ _ h1, hh.ex _ _ h2, Evl.sz_of (by rw [← r1.len, ← r2.len]; exact h), fun p hp => ?_⟩
      exact k F ((p, .lst (xs ++ ys)) :: ms) (.ref p) _ _ Ex.refl (hh.made (m := .lst (xs ++ ys)) hp ⟨_, upd_same, r1.append r2⟩) (.ref p) (q p)))
theorem ar_ADDt {xs ys : List D} (h : xs.length + ys.length ≤ 100000) (q : ∀ F', Ex F F' → Q F' ms (.tup (xs ++ ys))) : AR K (rADD K) (.tup xs) (.tup ys) F ms Q := ar_inr (ar_inr (ar_inr fun R u v H Qc hu hv hh k => by
  cases hu with
  | tup h1 r1 =>
    cases hv with
    | tup h2 r2 =>
      refine ⟨_, _, _, _, rfl, rfl, ex_t hh.ex h1, ex_t hh.ex h2, Evl.sz_of (by rw [← r1.len, ← r2.len]; exact h), fun e => ?_, fun _ e => ?_, fun _ _ p hp => ?_⟩
      · subst e
        cases r1
        exact k F ms (.tup ys) _ H Ex.refl hh (.tup h2 r2) (q F Ex.refl)
      · subst e
        cases r2
        have q' := q F Ex.refl
        rw [List.append_nil] at q'
        exact k F ms (.tup xs) _ H Ex.refl hh (.tup h1 r1) q'
      · obtain ⟨e, hh'⟩ := hh.laid (.tup _) hp
        exact k _ ms _ _ _ e hh' (.tup (SqT.of upd_same) ((r1.append r2).mono e)) (q _ e)))
theorem ar_SUB {i j : Int} (q : Q F ms (.int (i - j))) : AR K (rI0 fun i j => .int (i - j)) (.int i) (.int j) F ms Q := ar_subI q
/-- text * int -/
noncomputable def mulS (z : Str) (n : Int) : Str := ⟨(List.replicate n.toNat z.cps.toList).flatten.toArray⟩
noncomputable def rRepS : R2 := fun x y H Q => ∃ z n, x = .str z ∧ y = .int n ∧ n ≤ 100000 ∧ -100000 ≤ n ∧ z.length * n.toNat ≤ 100000 ∧ Q (.str (mulS z n)) H
theorem foldl_rep (a : Array Nat) : ∀ (n : Nat) (b : Array Nat), (List.replicate n a).foldl (· ++ ·) b = b ++ (List.replicate n a.toList).flatten.toArray
  | 0, b => by simp
  | n + 1, b => by
    rw [List.replicate_succ, List.foldl_cons, foldl_rep a n, List.replicate_succ, List.flatten_cons]
    apply Array.ext'
    simp [Array.append_assoc]
theorem len_flat {α : Type} (l : List α) : ∀ n : Nat, (List.replicate n l).flatten.length = l.length * n
  | 0 => by simp
  | n + 1 => by
    rw [List.replicate_succ, List.flatten_cons, List.length_append, len_flat l n, Nat.mul_succ, Nat.add_comm]
theorem op_repS {X : Cx} : OpR X (binaryOp .Mult) rRepS := by
  intro pins s σ H x y v u Q I rx ry h
  obtain ⟨z, n, rfl, rfl, h1, h2, h3, q⟩ := h
  obtain ⟨t, rfl⟩ := rx
  obtain ⟨t', rfl⟩ := ry
  have hz : z.length * n.toNat ≤ sizeLine := Evl.sz_of h3
  refine PySem.P.mul_str ?_ (fun a b => ?_) (fun a b => ?_) ?_
  · have e1 : decide (n < -(2 ^ 63 : Int)) = false := decide_eq_false (by omega)
    have e2 : decide (n ≥ (2 ^ 63 : Int)) = false := decide_eq_false (by omega)
    rw [e1, e2]; rfl
  · have hn : 0 < n := by omega
    have hb : (z.length : Int) ≤ 100000 := by
      have : z.length * 1 ≤ z.length * n.toNat := Nat.mul_le_mul_left _ (by omega)
      omega
    have : (2 ^ 63 - 1 : Int) / n ≥ (2 ^ 63 - 1) / 100000 := by
      apply (Int.le_ediv_iff_mul_le hn).mpr
      have h5 : (2 ^ 63 - 1 : Int) / 100000 = 92233720368547 := by decide
      rw [h5]
      omega
    have h6 : (2 ^ 63 - 1 : Int) / 100000 = 92233720368547 := by decide
    rw [h6] at this
    omega
  · exact decide_eq_false (by omega)
  · have fin : ∀ (w : Str) (tk : Tok) (s' : Shared), w = mulS z n → Inv X pins σ H s' → EP X pins σ Q (.str w tk) s' := fun w tk s' e I' => ⟨.str w, H, I', ⟨tk, rfl⟩, by rw [e]; exact q⟩
    by_cases hn : n < 1
    · rw [if_pos hn]
      refine ⟨by decide, fin _ _ _ ?_ (I.tok _)⟩
      have e : n.toNat = 0 := by omega
      unfold mulS
      rw [e]; rfl
    · rw [if_neg hn]
      by_cases hc : (n == 1 || z.length == 0) = true
      · rw [if_pos hc]
        refine fin _ _ _ ?_ I
        unfold mulS
        rcases Bool.or_eq_true _ _ ▸ hc with h5 | h5
        · have e : n = 1 := by simpa using h5
          subst e
          show z = ⟨(List.replicate 1 z.cps.toList).flatten.toArray⟩
          simp [List.replicate_succ]
        · have e : z.cps = #[] := by
            have h6 : z.cps.size = 0 := by
              have h7 : z.length = 0 := by simpa using h5
              exact h7
            exact Array.eq_empty_of_size_eq_zero h6
          obtain ⟨c⟩ := z
          have e : c = #[] := e
          subst e
          simp
      · rw [if_neg hc]
        have e : (⟨(List.replicate n.toNat z.cps).foldl (· ++ ·) #[]⟩ : Str) = mulS z n := by
          unfold mulS
          rw [foldl_rep]
          simp
        have hl : (mulS z n).length ≤ sizeLine := by
          show (List.replicate n.toNat z.cps.toList).flatten.toArray.size ≤ sizeLine
          rw [List.size_toArray, len_flat]
          have : z.cps.toList.length = z.length := by simp [Str.length]
          rw [this]
          exact hz
        rw [e]
        exact ⟨hl, fin _ _ _ rfl (I.tok _)⟩
/-- * -/
noncomputable def rMUL (K : Frg) : R2 := fun x y H Q => (rI CMul fun i j => .int (i * j)) x y H Q ∨ (rRepS x y H Q ∨ rRep x y H Q)
theorem op_MUL {X : Cx} : OpR X (binaryOp .Mult) (rMUL X.K) := op_mul.or (op_repS.or op_rep)
theorem ar_MULi {i j : Int} (c : CMul i j) (q : Q F ms (.int (i * j))) : AR K (rMUL K) (.int i) (.int j) F ms Q := ar_inl (ar_mulI c q)
theorem ar_MULs {z : Str} {n : Int} (h1 : n ≤ 100000) (h2 : -100000 ≤ n) (h3 : z.length * n.toNat ≤ 100000) (q : Q F ms (.str (mulS z n))) : AR K (rMUL K) (.str z) (.int n) F ms Q := ar_inr (ar_inl fun R u v H Qc hu hv hh k => by
  cases hu; cases hv
  exact ⟨z, n, rfl, rfl, h1, h2, h3, k F ms _ _ H Ex.refl hh (.str _) q⟩)
/-! ### an item -/
theorem at_rep {ds : List D} {vs : List V} {i : Int} {d : D} (r : RepL K F ds vs) (h : atI ds i = some d) : ∃ v, atI vs i = some v ∧ Rep K F d v := by
  unfold atI at h ⊢
  rw [← r.len]
  cases e : ixN ds.length i with
  | none => rw [e] at h; cases h
  | some j => rw [e] at h; exact r.getD h
theorem ar_ixL {ds : List D} {i : Int} {d : D} (h : atI ds i = some d) (q : Q F ms d) : AR K (rIx K) (.lst ds) (.int i) F ms Q := fun R u v H Qc hu hv hh k => by
  cases hv
  cases hu with
  | lst ha r1 =>
    obtain ⟨w, hw, rw'⟩ := at_rep r1 h
    exact .inl ⟨_, _, i, w, rfl, rfl, SqL.of (hh.ex _ _ ha), hw, k F ms d w H Ex.refl hh rw' q⟩
theorem get_app {i : Nat} {p : Addr × MO} {R : Ms} (h : ms[i]? = some p) : (ms ++ R)[i]? = some p := by
  rw [List.getElem?_append_left (List.getElem?_eq_some_iff.mp h).1]
  exact h
theorem set_app {i : Nat} {p p' : Addr × MO} {R : Ms} (h : ms[i]? = some p) : (ms ++ R).set i p' = ms.set i p' ++ R := List.set_append_left _ _ (List.getElem?_eq_some_iff.mp h).1
theorem ar_ixO {l : Addr} {ds : List D} {i : Int} {d : D} (n : Nat) (hn : ms[n]? = some (l, .lst ds)) (h : atI ds i = some d) (q : Q F ms d) : AR K (rIx K) (.ref l) (.int i) F ms Q := fun R u v H Qc hu hv hh k => by
  cases hv
  cases hu with
  | ref =>
    obtain ⟨_, vs, hl, r1⟩ := hh.at (get_app hn)
    obtain ⟨w, hw, rw'⟩ := at_rep r1 h
    exact .inl ⟨_, _, i, w, rfl, rfl, SqL.of hl, hw, k F ms d w H Ex.refl hh rw' q⟩
noncomputable def sg (c : Nat) : Str := ⟨#[c]⟩
theorem ar_ixS {z : Str} {i : Int} {c : Nat} (hz : z.length ≤ 100000) (h : atI z.cps.toList i = some c) (q : Q F ms (.str (sg c))) : AR K (rIx K) (.str z) (.int i) F ms Q := fun R u v H Qc hu hv hh k => by
  cases hv
  cases hu with
  | str => exact .inr (.inr ⟨z, i, c, rfl, rfl, Evl.sz_of hz, h, k F ms _ _ H Ex.refl hh (.str _) q⟩)

/-! ### calls of built-ins -/
noncomputable def rLEN (K : Frg) : List V → Hp → VK → Prop := fun xs H Q => ∃ x n, xs = [x] ∧ LenV K x H n ∧ Q (.int n) H
theorem call_LEN {X : Cx} : CallR X (.builtin "len") (rLEN X.K) := call_len
theorem ac1 {rc : List V → Hp → VK → Prop} {d : D} (h : ∀ (R : Ms) v H (Qc : VK), Rep K F d v → Hold K F (ms ++ R) H → (∀ F' ms' d v H', Ex F F' → Hold K F' (ms' ++ R) H' → Rep K F' d v → Q F' ms' d → Qc v H') → rc [v] H Qc) : AC K rc [d] F ms Q := fun R vs H Qc hv hh k => by
  cases hv with
  | cons h1 h2 =>
    cases h2
    exact h R _ H Qc h1 hh k
theorem ac_lenS {z : Str} (hz : z.length ≤ 100000) (q : Q F ms (.int z.length)) : AC K (rLEN K) [.str z] F ms Q := ac1 fun R v H Qc hv hh k => by
  cases hv
  exact ⟨_, z.length, rfl, ⟨Evl.sz_of hz, rfl⟩, k F ms _ _ H Ex.refl hh (.int _) q⟩
theorem ac_lenL {ds : List D} (q : Q F ms (.int ds.length)) : AC K (rLEN K) [.lst ds] F ms Q := ac1 fun R v H Qc hv hh k => by
  cases hv with
  | lst ha r => exact ⟨_, ds.length, rfl, .inl ⟨_, SqL.of (hh.ex _ _ ha), r.len⟩, k F ms _ _ H Ex.refl hh (.int _) q⟩
theorem ac_lenT {ds : List D} (q : Q F ms (.int ds.length)) : AC K (rLEN K) [.tup ds] F ms Q := ac1 fun R v H Qc hv hh k => by
  cases hv with
  | tup ha r => exact ⟨_, ds.length, rfl, .inr ⟨_, ex_t hh.ex ha, r.len⟩, k F ms _ _ H Ex.refl hh (.int _) q⟩
theorem ac_lenO {l : Addr} {ds : List D} (n : Nat) (hn : ms[n]? = some (l, .lst ds)) (q : Q F ms (.int ds.length)) : AC K (rLEN K) [.ref l] F ms Q := ac1 fun R v H Qc hv hh k => by
  cases hv with
  | ref =>
    obtain ⟨_, vs, hl, r⟩ := hh.at (get_app hn)
    exact ⟨_, ds.length, rfl, .inl ⟨_, SqL.of hl, r.len⟩, k F ms _ _ H Ex.refl hh (.int _) q⟩
end
end AL

set_option Elab.async false
set_option linter.all false
set_option maxRecDepth 100000
set_option maxHeartbeats 4000000
namespace AL
open PySem L2
theorem Hold.perm {K : Frg} {F H : Hp} {ms ms' : Ms} (h : Hold K F ms H) (p : ms'.Perm ms) : Hold K F ms' H :=
  ⟨h.ex, fun q hq => h.own q (p.mem_iff.mp hq), (p.map Prod.fst).nodup_iff.mpr h.nd⟩
section
variable {Γ : Cg} {K : Frg} {F : Hp} {ms : Ms} {S : Sg} {Q : QE} {ta tb te tx : TE} {t u : TT} {r : R2} {ts tu tw : TS} {A : AEnds}
/-! ### statements -/
theorem as_seq (h : AS Γ ts F ms S { A with nx := fun F' ms' S' => AS Γ tu F' ms' S' A }) : AS Γ (tSeq ts tu) F ms S A := fun R E σ H hs hh l =>
  h R { E with nx := tu E } σ H hs hh ⟨l.xe, fun F' ms' S' σ' H' e a b q => q R E σ' H' a b (l.ex e), l.rt, l.bk, l.ct⟩
theorem as_next (q : A.nx F ms S) : AS Γ tNext F ms S A := fun R E σ H hs hh l => l.nx F ms S σ H Ex.refl hs hh q
theorem as_drop (h : AE Γ te F ms S fun F' ms' _ => A.nx F' ms' S) : AS Γ (tDrop te) F ms S A := fun R E σ H hs hh l =>
  h R σ H _ hs hh l.xe fun F' ms' d v H' e ho hr q => l.nx F' ms' S σ H' e (hs.mono e) ho q
theorem as_ret (h : AE Γ te F ms S A.rt) : AS Γ (tRet te) F ms S A := fun R E σ H hs hh l => h R σ H _ hs hh l.xe fun F' ms' d v H' e ho hr q => l.rt F' ms' d v H' e ho hr q
theorem as_if (h : AT Γ t F ms S fun F' ms' b => (b = true → AS Γ tu F' ms' S A) ∧ (b = false → AS Γ tw F' ms' S A)) : AS Γ (tIfS t tu tw) F ms S A := fun R E σ H hs hh l =>
  h R σ H _ hs hh l.xe fun F' ms' b H' e ho q => by
    cases b with
    | true => exact q.1 rfl R E σ H' (hs.mono e) ho (l.ex e)
    | false => exact q.2 rfl R E σ H' (hs.mono e) ho (l.ex e)
/-! ### targets -/
noncomputable def AG (Γ : Cg) (g : TG) (d : D) (F : Hp) (ms : Ms) (S : Sg) (N : QS) : Prop := ∀ (R : Ms) v σ H (Nc : St → Hp → Prop), Rep Γ.K F d v → SRep Γ.K F S σ → Hold Γ.K F (ms ++ R) H → XLe Γ R F → (∀ F' ms' S' σ' H', Ex F F' → SRep Γ.K F' S' σ' → Hold Γ.K F' (ms' ++ R) H' → N F' ms' S' → Nc σ' H') → g v σ H Nc
noncomputable def AGs (Γ : Cg) (g : TGs) (ds : List D) (F : Hp) (ms : Ms) (S : Sg) (N : QS) : Prop := ∀ (R : Ms) vs σ H (Nc : St → Hp → Prop), RepL Γ.K F ds vs → SRep Γ.K F S σ → Hold Γ.K F (ms ++ R) H → XLe Γ R F → (∀ F' ms' S' σ' H', Ex F F' → SRep Γ.K F' S' σ' → Hold Γ.K F' (ms' ++ R) H' → N F' ms' S' → Nc σ' H') → g vs σ H Nc
variable {g : TG} {gs : TGs} {N : QS}
theorem ag_name {i : Nat} {d : D} (q : N F ms (S.set i (some d))) : AG Γ (gName i) d F ms S N := fun R v σ H Nc hv hs hh x k => k F ms _ _ H Ex.refl (hs.set hv) hh q
theorem ags_nil (q : N F ms S) : AGs Γ gNil [] F ms S N := fun R vs σ H Nc hv hs hh x k => by
  cases hv
  exact ⟨rfl, k F ms S σ H Ex.refl hs hh q⟩
theorem ags_cons {d : D} {ds : List D} (h : AG Γ g d F ms S fun F' ms' S' => AGs Γ gs ds F' ms' S' N) : AGs Γ (gCons g gs) (d :: ds) F ms S N := fun R vs σ H Nc hv hs hh x k => by
  cases hv with
  | cons h1 h2 =>
    exact ⟨_, _, rfl, h R _ σ H _ h1 hs hh x fun F' ms' S' σ' H' e a b q => q R _ σ' H' Nc (h2.mono e) a b (x.ex e) fun F2 ms2 S2 σ2 H2 e2 a2 b2 q2 => k F2 ms2 S2 σ2 H2 (e.trans e2) a2 b2 q2⟩
theorem ag_tup {n : Nat} {ds : List D} (hn : ds.length = n) (h : AGs Γ gs ds F ms S N) : AG Γ (gTup Γ.K n gs) (.tup ds) F ms S N := fun R v σ H Nc hv hs hh x k => by
  cases hv with
  | tup h1 r1 => exact ⟨_, _, rfl, ex_t hh.ex h1, by rw [← r1.len]; exact hn, h R _ σ H Nc r1 hs hh x k⟩
theorem as_asgG (h : AE Γ te F ms S fun F' ms' d => AG Γ g d F' ms' S A.nx) : AS Γ (tAsg te g) F ms S A := fun R E σ H hs hh l =>
  h R σ H _ hs hh l.xe fun F' ms' d v H' e ho hr q => q R v σ H' _ hr (hs.mono e) ho (l.xe.ex e) fun F2 ms2 S2 σ2 H2 e2 a b q2 => l.nx F2 ms2 S2 σ2 H2 (e.trans e2) a b q2
theorem as_asg {i : Nat} (h : AE Γ te F ms S fun F' ms' d => A.nx F' ms' (S.set i (some d))) : AS Γ (tAsg te (gName i)) F ms S A := as_asgG (h.mono fun _ _ _ _ q => ag_name q)
theorem as_par {i j : Nat} {ta : TA} (h : AA Γ ta F ms S fun F' ms' ds => ∃ x y, ds = [x, y] ∧ A.nx F' ms' ((S.set i (some x)).set j (some y))) : AS Γ (tPar i j ta) F ms S A := fun R E σ H hs hh l =>
  h R σ H _ hs hh l.xe fun F' ms' ds vs H' e ho hr ⟨x, y, hd, q⟩ => by
    subst hd
    cases hr with
    | cons h1 h2 =>
      cases h2 with
      | cons h3 h4 =>
        cases h4
        exact ⟨_, _, rfl, l.nx F' ms' _ _ H' e (((hs.mono e).set h1).set h3) ho q⟩
/-- an owned list's item is set -/
theorem ag_subO {to ti : TE} {d : D} (h : AE Γ to F ms S fun F1 ms1 o => AE Γ ti F1 ms1 S fun F2 ms2 i => ∃ (n : Nat) (l : Addr) (ds : List D) (z : Int) (j : Nat), o = .ref l ∧ i = .int z ∧ ms2[n]? = some (l, .lst ds) ∧ ixN ds.length z = some j ∧ N F2 (ms2.set n (l, .lst (ds.set j d))) S) :
    AG Γ (gSub to ti rSetL) d F ms S N := fun R v σ H Nc hv hs hh x k =>
  h R σ H _ hs hh x fun F1 ms1 o ov H1 e1 h1 r1 q1 => q1 R σ H1 _ (hs.mono e1) h1 (x.ex e1) fun F2 ms2 i iv H2 e2 h2 r2 ⟨n, l, ds, z, j, ho, hi, hn, hj, q⟩ => by
    subst ho hi
    cases r2
    cases r1
    obtain ⟨_, vs, hl, r⟩ := h2.at (get_app hn)
    refine ⟨l, vs, z, j, rfl, rfl, hl, by rw [← r.len]; exact hj, k F2 (ms2.set n (l, .lst (ds.set j d))) S σ _ (e1.trans e2) (hs.mono (e1.trans e2)) ?_ q⟩
    rw [← set_app hn]
    exact h2.set (get_app hn) ⟨_, upd_same, r.set (hv.mono (e1.trans e2)) j⟩
/-! ### owned things are dropped or freeze -/
/-- at a value: the list that is handed on freezes -/
theorem ae_frz (h : AE Γ te F ms S fun F' ms' d => ∃ (n : Nat) (l : Addr) (ds : List D), d = .ref l ∧ ms'[n]? = some (l, .lst ds) ∧ ∀ F2, Ex F' F2 → Q F2 (ms'.eraseIdx n) (.lst ds)) : AE Γ te F ms S Q := fun R σ H Qc hs hh x k =>
  h R σ H _ hs hh x fun F' ms' d v H' e ho hr ⟨n, l, ds, hd, hn, q⟩ => by
    subst hd
    cases hr
    obtain ⟨_, vs, hl, r⟩ := ho.at (get_app hn)
    obtain ⟨o, ho', e2, h2⟩ := ho.freeze (get_app hn)
    rw [hl] at ho'
    cases ho'
    rw [List.eraseIdx_append_of_lt_length (List.getElem?_eq_some_iff.mp hn).1] at h2
    exact k _ _ (.lst ds) _ H' (e.trans e2) h2 (.lst upd_same (r.mono e2)) (q _ e2)
/-- .. and owned things are dropped behind a value -/
theorem ae_dropm (h : AE Γ te F ms S fun F' ms' d => ∃ n, n < ms'.length ∧ Q F' (ms'.eraseIdx n) d) : AE Γ te F ms S Q := fun R σ H Qc hs hh x k =>
  h R σ H _ hs hh x fun F' ms' d v H' e ho hr ⟨n, hn, q⟩ => k F' (ms'.eraseIdx n) d v H' e (by
    have := ho.drop n
    rw [List.eraseIdx_append_of_lt_length hn] at this
    exact this) hr q
/-! ### frames: what a call does not see -/
/-! ### what is walked -/
structure ItD (K : Frg) (J : It) (F : Hp) (G : Ms → Prop) (ds : List D) : Prop where
  goes : ∀ (R : Ms) i H F' ms', i < ds.length → Ex F F' → Hold K F' (ms' ++ R) H → G ms' → J.go i H
  stops : ∀ (R : Ms) H F' ms', Ex F F' → Hold K F' (ms' ++ R) H → G ms' → J.stop ds.length H
  yields : ∀ (R : Ms) i H x H' F' ms', i < ds.length → Ex F F' → Hold K F' (ms' ++ R) H → G ms' → J.yld i H x H' → ∃ F'' d, Ex F' F'' ∧ Hold K F'' (ms' ++ R) H' ∧ ds[i]? = some d ∧ Rep K F'' d x
noncomputable def AI (Γ : Cg) (wi : TI) (F : Hp) (ms : Ms) (S : Sg) (P : Hp → Ms → List D → (Ms → Prop) → Prop) : Prop := ∀ (R : Ms) σ H (Rc : It → Hp → Prop), SRep Γ.K F S σ → Hold Γ.K F (ms ++ R) H → XLe Γ R F →
  (∀ F' ms' ds G J H', Ex F F' → Hold Γ.K F' (ms' ++ R) H' → ItD Γ.K J F' G ds → P F' ms' ds G → Rc J H') → wi σ H Rc
theorem as_for {wi : TI} (h : AI Γ wi F ms S fun F1 ms1 ds G => ∃ I : Nat → Hp → Ms → Sg → Prop, I 0 F1 ms1 S ∧ (∀ i F' ms' S', Ex F1 F' → I i F' ms' S' → G ms') ∧
    (∀ i d F' ms' S', Ex F1 F' → ds[i]? = some d → I i F' ms' S' → ∀ F'', Ex F' F'' → AG Γ g d F'' ms' S' fun F2 ms2 S2 => AS Γ tu F2 ms2 S2 { A with nx := I (i + 1), ct := I (i + 1), bk := A.nx }) ∧
    (∀ F' ms' S', Ex F1 F' → I ds.length F' ms' S' → A.nx F' ms' S')) : AS Γ (tFor wi g tu) F ms S A := fun R E σ H hs hh l =>
  h R σ H _ hs hh l.xe fun F1 ms1 ds G J H1 e1 h1 it ⟨I, i0, iG, ib, ie⟩ => by
    refine ⟨fun i m σ' H' => m = ds.length - i ∧ i ≤ ds.length ∧ ∃ F' ms' S', Ex F1 F' ∧ SRep Γ.K F' S' σ' ∧ Hold Γ.K F' (ms' ++ R) H' ∧ I i F' ms' S', ⟨_, rfl, Nat.zero_le _, F1, ms1, S, Ex.refl, hs.mono e1, h1, i0⟩, ?_⟩
    rintro i m σ' H' ⟨rfl, hi, F', ms', S', e', hs', hh', p⟩
    have hG := iG i F' ms' S' e' p
    by_cases hlt : i < ds.length
    · refine .inr ⟨it.goes R i H' F' ms' hlt e' hh' hG, fun σ2 H2 => ∃ F2 ms2 S2, Ex F1 F2 ∧ SRep Γ.K F2 S2 σ2 ∧ Hold Γ.K F2 (ms2 ++ R) H2 ∧ I (i + 1) F2 ms2 S2, fun σ2 H2 ⟨F2, ms2, S2, e2, a2, b2, q2⟩ => ⟨ds.length - (i + 1), by omega, rfl, hlt, F2, ms2, S2, e2, a2, b2, q2⟩, fun x H2 y => ?_⟩
      obtain ⟨F2, d, e2, hh2, hd, hr⟩ := it.yields R i H' x H2 F' ms' hlt e' hh' hG y
      refine ib i d F' ms' S' e' hd p F2 e2 R x σ' H2 _ hr (hs'.mono e2) hh2 (l.xe.ex ((e1.trans e').trans e2)) fun F3 ms3 S3 σ3 H3 e3 a3 b3 q3 => ?_
      refine q3 R _ σ3 H3 a3 b3 ⟨l.xe.ex (((e1.trans e').trans e2).trans e3), fun F4 ms4 S4 σ4 H4 e4 a4 b4 q4 => ⟨F4, ms4, S4, ((e'.trans e2).trans e3).trans e4, a4, b4, q4⟩, fun F4 ms4 d4 v4 H4 e4 b4 r4 q4 => l.rt F4 ms4 d4 v4 H4 ((((e1.trans e').trans e2).trans e3).trans e4) b4 r4 q4,
        fun F4 ms4 S4 σ4 H4 e4 a4 b4 q4 => l.nx F4 ms4 S4 σ4 H4 ((((e1.trans e').trans e2).trans e3).trans e4) a4 b4 q4, fun F4 ms4 S4 σ4 H4 e4 a4 b4 q4 => ⟨F4, ms4, S4, ((e'.trans e2).trans e3).trans e4, a4, b4, q4⟩⟩
    · have ei : i = ds.length := by omega
      subst ei
      exact .inl ⟨it.stops R H' F' ms' e' hh' hG, l.nx F' ms' S' σ' H' (e1.trans e') hs' hh' (ie F' ms' S' e' p)⟩
theorem as_while (I : Nat → Hp → Ms → Sg → Prop) (m0 : Nat) (h0 : I m0 F ms S) (hb : ∀ m F' ms' S', Ex F F' → I m F' ms' S' → AT Γ t F' ms' S' fun F2 ms2 b => (b = true → AS Γ tu F2 ms2 S' { A with nx := fun F3 ms3 S3 => ∃ m', m' < m ∧ I m' F3 ms3 S3, ct := fun F3 ms3 S3 => ∃ m', m' < m ∧ I m' F3 ms3 S3, bk := A.nx }) ∧ (b = false → A.nx F2 ms2 S')) :
    AS Γ (tWhile t tu) F ms S A := fun R E σ H hs hh l => by
  refine ⟨fun m σ' H' => ∃ F' ms' S', Ex F F' ∧ SRep Γ.K F' S' σ' ∧ Hold Γ.K F' (ms' ++ R) H' ∧ I m F' ms' S', ⟨m0, F, ms, S, Ex.refl, hs, hh, h0⟩, ?_⟩
  rintro m σ' H' ⟨F', ms', S', e', hs', hh', p⟩
  refine hb m F' ms' S' e' p R σ' H' _ hs' hh' (l.xe.ex e') fun F2 ms2 b H2 e2 hh2 q => ?_
  cases b with
  | true =>
    refine ⟨fun σ3 H3 => ∃ m', m' < m ∧ ∃ F' ms' S', Ex F F' ∧ SRep Γ.K F' S' σ3 ∧ Hold Γ.K F' (ms' ++ R) H3 ∧ I m' F' ms' S', fun σ3 H3 z => z, ?_⟩
    exact q.1 rfl R _ σ' H2 (hs'.mono e2) hh2 ⟨l.xe.ex (e'.trans e2), fun F4 ms4 S4 σ4 H4 e4 a4 b4 ⟨m', lt, q4⟩ => ⟨m', lt, F4, ms4, S4, (e'.trans e2).trans e4, a4, b4, q4⟩, fun F4 ms4 d4 v4 H4 e4 b4 r4 q4 => l.rt F4 ms4 d4 v4 H4 ((e'.trans e2).trans e4) b4 r4 q4,
      fun F4 ms4 S4 σ4 H4 e4 a4 b4 q4 => l.nx F4 ms4 S4 σ4 H4 ((e'.trans e2).trans e4) a4 b4 q4, fun F4 ms4 S4 σ4 H4 e4 a4 b4 ⟨m', lt, q4⟩ => ⟨m', lt, F4, ms4, S4, (e'.trans e2).trans e4, a4, b4, q4⟩⟩
  | false => exact l.nx F2 ms2 S' σ' H2 (e'.trans e2) (hs'.mono e2) hh2 (q.2 rfl)
variable {P : Hp → Ms → List D → (Ms → Prop) → Prop}
/-- over a list: frozen, the script, or an owned one -/
theorem ai_list {tl : TE} (h : AE Γ tl F ms S fun F1 ms1 d => (∃ ds : List D, (d = .lst ds ∨ d = .rdl ds) ∧ P F1 ms1 ds fun _ => True) ∨ ∃ (n : Nat) (l : Addr) (ds : List D), d = .ref l ∧ ms1[n]? = some (l, MO.lst ds) ∧ P F1 ms1 ds fun ms' => ∃ n : Nat, ms'[n]? = some (l, MO.lst ds)) : AI Γ (iList Γ.K tl) F ms S P := fun R σ H Rc hs hh x k =>
  h R σ H _ hs hh x fun F1 ms1 d v H1 e1 h1 r1 q => by
    rcases q with ⟨ds, hd, p⟩ | ⟨n, l, ds, hd, hn, p⟩
    · obtain ⟨a, xs, rfl, hq, rl⟩ : ∃ a xs, v = .ref a ∧ SqL Γ.K F1 a xs ∧ RepL Γ.K F1 ds xs := by
        rcases hd with rfl | rfl
        · cases r1 with
          | lst ha r => exact ⟨_, _, rfl, SqL.of ha, r⟩
        · cases r1 with
          | rdl ha r => exact ⟨_, _, rfl, ha, r⟩
      refine ⟨a, rfl, ⟨xs, ex_l h1.ex hq⟩, k F1 ms1 ds (fun _ => True) _ H1 e1 h1 ⟨fun _ i H' F' ms' hi e' hh' _ => ?_, fun _ H' F' ms' e' hh' _ => ?_, fun _ i H' x H2 F' ms' hi e' hh' _ y => ?_⟩ p⟩
      · exact ⟨xs, xs[i]'(by rw [← rl.len]; exact hi), ex_l hh'.ex (ex_l e' hq), by simp [show i < xs.length by rw [← rl.len]; exact hi]⟩
      · exact ⟨xs, ex_l hh'.ex (ex_l e' hq), by rw [rl.len]; exact Nat.le_refl _⟩
      · obtain ⟨y1, y2⟩ := y
        subst y1
        obtain ⟨d, hd, rd⟩ := rl.get (y2 xs (ex_l hh'.ex (ex_l e' hq)))
        exact ⟨F', d, Ex.refl, hh', hd, rd.mono e'⟩
    · subst hd
      cases r1
      obtain ⟨_, xs, hl, rl⟩ := h1.at (get_app hn)
      refine ⟨l, rfl, ⟨xs, SqL.of hl⟩, k F1 ms1 ds _ _ H1 e1 h1 ⟨fun _ i H' F' ms' hi e' hh' ⟨n', hn'⟩ => ?_, fun _ H' F' ms' e' hh' ⟨n', hn'⟩ => ?_, fun _ i H' x H2 F' ms' hi e' hh' ⟨n', hn'⟩ y => ?_⟩ p⟩
      · obtain ⟨_, xs', hl', rl'⟩ := hh'.at (get_app hn')
        exact ⟨xs', xs'[i]'(by rw [← rl'.len]; exact hi), SqL.of hl', by simp [show i < xs'.length by rw [← rl'.len]; exact hi]⟩
      · obtain ⟨_, xs', hl', rl'⟩ := hh'.at (get_app hn')
        exact ⟨xs', SqL.of hl', by rw [rl'.len]; exact Nat.le_refl _⟩
      · obtain ⟨_, xs', hl', rl'⟩ := hh'.at (get_app hn')
        obtain ⟨y1, y2⟩ := y
        subst y1
        obtain ⟨d, hd, rd⟩ := rl'.get (y2 xs' (SqL.of hl'))
        exact ⟨F', d, Ex.refl, hh', hd, rd⟩
theorem ai_tup {tl : TE} (h : AE Γ tl F ms S fun F1 ms1 d => ∃ ds, d = .tup ds ∧ P F1 ms1 ds fun _ => True) : AI Γ (iTup Γ.K tl) F ms S P := fun R σ H Rc hs hh x k =>
  h R σ H _ hs hh x fun F1 ms1 d v H1 e1 h1 r1 ⟨ds, hd, p⟩ => by
    subst hd
    cases r1 with
    | @tup a xs _ hq rl =>
      refine ⟨a, rfl, ⟨xs, ex_t h1.ex hq⟩, k F1 ms1 ds (fun _ => True) _ H1 e1 h1 ⟨fun _ i H' F' ms' hi e' hh' _ => ?_, fun _ H' F' ms' e' hh' _ => ?_, fun _ i H' x H2 F' ms' hi e' hh' _ y => ?_⟩ p⟩
      · exact ⟨xs, xs[i]'(by rw [← rl.len]; exact hi), ex_t hh'.ex (ex_t e' hq), by simp [show i < xs.length by rw [← rl.len]; exact hi]⟩
      · exact ⟨xs, ex_t hh'.ex (ex_t e' hq), by rw [rl.len]; exact Nat.le_refl _⟩
      · obtain ⟨y1, y2⟩ := y
        subst y1
        obtain ⟨d, hd, rd⟩ := rl.get (y2 xs (ex_t hh'.ex (ex_t e' hq)))
        exact ⟨F', d, Ex.refl, hh', hd, rd.mono e'⟩
noncomputable def rangeD (lo : Int) (n : Nat) : List D := (List.range n).map fun i => .int (lo + (i : Nat))
theorem rangeD_len (lo : Int) (n : Nat) : (rangeD lo n).length = n := by unfold rangeD; rw [List.length_map, List.length_range]
theorem rangeD_get {lo : Int} {n i : Nat} (h : i < n) : (rangeD lo n)[i]? = some (.int (lo + (i : Nat))) := by
  unfold rangeD
  rw [List.getElem?_map, List.getElem?_range h]
  rfl
theorem it_range {lo : Int} {n : Nat} {F1 : Hp} : ItD K (Itr lo n) F1 (fun _ => True) (rangeD lo n) where
  goes := fun _ i H F' ms' hi _ _ _ => by rw [rangeD_len] at hi; exact hi
  stops := fun _ H F' ms' _ _ _ => by rw [rangeD_len]; exact Nat.le_refl _
  yields := fun _ i H x H' F' ms' hi _ hh' _ y => by
    rw [rangeD_len] at hi
    obtain ⟨y1, y2⟩ := y
    subst y1 y2
    exact ⟨F', _, Ex.refl, hh', rangeD_get hi, .int _⟩
theorem ai_rng1 {ta : TA} (h : AA Γ ta F ms S fun F1 ms1 ds => ∃ n : Int, ds = [.int n] ∧ n < 2 ^ 62 ∧ -(2 ^ 62) ≤ n ∧ P F1 ms1 (rangeD 0 n.toNat) fun _ => True) : AI Γ (iRng1 ta) F ms S P := fun R σ H Rc hs hh x k =>
  h R σ H _ hs hh x fun F1 ms1 ds vs H1 e1 h1 r1 ⟨n, hd, n1, n2, p⟩ => by
    subst hd
    cases r1 with
    | cons a b =>
      cases b
      cases a
      exact ⟨n, rfl, n2, n1, k F1 ms1 _ _ _ H1 e1 h1 it_range p⟩
noncomputable def charsD (z : Str) : List D := z.cps.toList.map fun c => .str (sg c)
theorem ai_str {te : TE} (h : AE Γ te F ms S fun F1 ms1 d => ∃ z, d = .str z ∧ P F1 ms1 (charsD z) fun _ => True) : AI Γ (iStr te) F ms S P := fun R σ H Rc hs hh x k =>
  h R σ H _ hs hh x fun F1 ms1 d v H1 e1 h1 r1 ⟨z, hd, p⟩ => by
    subst hd
    cases r1
    have hl : (charsD z).length = z.cps.size := by unfold charsD; rw [List.length_map, Array.length_toList]
    refine ⟨z, rfl, k F1 ms1 (charsD z) (fun _ => True) _ H1 e1 h1 ⟨fun _ i H' F' ms' hi e' hh' _ => by rw [hl] at hi; exact hi, fun _ H' F' ms' e' hh' _ => by rw [hl]; exact Nat.le_refl _, fun _ i H' x H2 F' ms' hi e' hh' _ y => ?_⟩ p⟩
    obtain ⟨y1, c, y2, y3⟩ := y
    subst y1 y3
    refine ⟨F', _, Ex.refl, hh', ?_, .str _⟩
    unfold charsD
    rw [List.getElem?_map, Array.getElem?_toList, y2]
    rfl
end
end AL

set_option Elab.async false
set_option linter.all false
set_option maxRecDepth 100000
set_option maxHeartbeats 4000000
namespace AL
open PySem L2
/-! ### comprehensions -/
theorem wipe_get (σ : St) (j : Nat) : ∀ vs : List Nat, (L2.wipe σ vs)[j]? = if j ∈ vs then σ[j]?.map (fun _ => none) else σ[j]?
  | [] => by simp [L2.wipe]
  | v :: vs => by
    unfold L2.wipe
    by_cases h : v = j
    · subst h
      rw [List.getElem?_set]
      simp only [if_true, List.mem_cons, true_or, wipe_length]
      by_cases hl : v < σ.length
      · rw [if_pos hl, List.getElem?_eq_getElem hl]; rfl
      · rw [if_neg hl, List.getElem?_eq_none (by omega)]; rfl
    · rw [List.getElem?_set_ne h, wipe_get σ j vs]
      have e : (j ∈ v :: vs) ↔ j ∈ vs := by simp [Ne.symm h]
      simp only [e]
theorem wipe_set {σ : St} {i : Nat} {x : Option V} {vs : List Nat} (h : i ∈ vs) : L2.wipe (σ.set i x) vs = L2.wipe σ vs := by
  apply List.ext_getElem?
  intro j
  rw [wipe_get, wipe_get]
  by_cases e : i = j
  · subst e
    rw [if_pos h, if_pos h, List.getElem?_set]
    simp only [if_true]
    by_cases hl : i < σ.length
    · rw [if_pos hl, List.getElem?_eq_getElem hl]; rfl
    · rw [if_neg hl, List.getElem?_eq_none (by omega)]
  · rw [List.getElem?_set_ne e]
theorem wipe_wipe (σ : St) (vs : List Nat) : L2.wipe (L2.wipe σ vs) vs = L2.wipe σ vs := by
  apply List.ext_getElem?
  intro j
  rw [wipe_get, wipe_get]
  split
  · cases σ[j]? <;> rfl
  · rfl
/-- a target that stores in the block's own slots alone -/
noncomputable def GW (g : TG) (vs : List Nat) : Prop := ∀ v σ H N τ, L2.wipe σ vs = τ → g v σ H N → g v σ H fun σ2 H2 => N σ2 H2 ∧ L2.wipe σ2 vs = τ
noncomputable def GWs (g : TGs) (vs : List Nat) : Prop := ∀ xs σ H N τ, L2.wipe σ vs = τ → g xs σ H N → g xs σ H fun σ2 H2 => N σ2 H2 ∧ L2.wipe σ2 vs = τ
theorem gw_name {i : Nat} {vs : List Nat} (h : i ∈ vs) : GW (gName i) vs := fun v σ H N τ e q => ⟨q, by rw [wipe_set h]; exact e⟩
theorem gm_name {i : Nat} : ∀ v σ H N N', (∀ σ2 H2, N σ2 H2 → N' σ2 H2) → gName i v σ H N → gName i v σ H N' := fun v σ H N N' m q => m _ _ q
/-- nothing may be raised -/
noncomputable abbrev Cg.nox (Γ : Cg) : Cg := { Γ with E := E0, Ea := fun _ _ _ _ => False }
theorem xle0 {Γ : Cg} {R : Ms} {F : Hp} : XLe Γ.nox R F := fun _ _ _ _ _ _ _ _ _ h => h.elim
section
variable {Γ : Cg} {K : Frg} {F : Hp} {ms : Ms} {S : Sg} {Q : QE} {ta tb te tx : TE} {t u tt : TT} {r : R2} {ts tu tw : TS} {A : AEnds} {g : TG} {wi : TI} {vs : List Nat}
theorem mid_get {ms R : Ms} {p : Addr × MO} : (ms ++ p :: R)[ms.length]? = some p := by rw [List.getElem?_append_right (Nat.le_refl _), Nat.sub_self]; rfl
theorem mid_erase {ms R : Ms} {p : Addr × MO} : (ms ++ p :: R).eraseIdx ms.length = ms ++ R := by rw [List.eraseIdx_append_of_length_le (Nat.le_refl _), Nat.sub_self]; rfl
theorem mid_set {ms R : Ms} {p q : Addr × MO} : (ms ++ p :: R).set ms.length q = ms ++ q :: R := by rw [List.set_append_right _ _ (Nat.le_refl _), Nat.sub_self]; rfl
theorem ae_lc (hg : GW g vs) (gm : ∀ v σ H N N', (∀ σ2 H2, N σ2 H2 → N' σ2 H2) → g v σ H N → g v σ H N') (h : AI Γ wi F ms S fun F1 ms1 ds G => ∃ I : Nat → Hp → Ms → List D → Prop, I 0 F1 ms1 [] ∧ (∀ i F' ms' acc, Ex F1 F' → I i F' ms' acc → G ms') ∧
    (∀ i d F' ms' acc, Ex F1 F' → ds[i]? = some d → I i F' ms' acc → ∀ F'', Ex F' F'' → AG Γ.nox g d F'' ms' (wipeS S vs) fun F2 ms2 S2 => AT Γ.nox tt F2 ms2 S2 fun F3 ms3 b => (b = true → AE Γ.nox te F3 ms3 S2 fun F4 ms4 y => acc.length < 100000 ∧ I (i + 1) F4 ms4 (acc ++ [y])) ∧ (b = false → I (i + 1) F3 ms3 acc)) ∧
    (∀ F' ms' acc, Ex F1 F' → I ds.length F' ms' acc → ∀ F'', Ex F' F'' → Q F'' ms' (.lst acc))) : AE Γ (tLc wi g tt te vs) F ms S Q := fun R σ H Qc hs hh x k =>
  h R σ H _ hs hh x fun F1 ms1 ds G J H1 e1 h1 it ⟨I, i0, iG, ib, ie⟩ => by
    intro D hD
    refine ⟨fun i m H' => m = ds.length - i ∧ i ≤ ds.length ∧ ∃ F' ms' acc, Ex F1 F' ∧ Hold Γ.K F' (ms' ++ (D, .lst acc) :: R) H' ∧ I i F' ms' acc, ⟨_, rfl, Nat.zero_le _, F1, ms1, [], Ex.refl, ?_, i0⟩, ?_⟩
    · exact (h1.made (m := .lst []) hD ⟨[], upd_same, .nil⟩).perm List.perm_middle
    rintro i m H' ⟨rfl, hi, F', ms', acc, e', hh', p⟩
    have hG := iG i F' ms' acc e' p
    by_cases hlt : i < ds.length
    · refine .inr ⟨it.goes _ i H' F' ms' hlt e' hh' hG, fun H2 => ∃ F2 ms2 acc2, Ex F1 F2 ∧ Hold Γ.K F2 (ms2 ++ (D, .lst acc2) :: R) H2 ∧ I (i + 1) F2 ms2 acc2, fun H2 ⟨F2, ms2, acc2, e2, b2, q2⟩ => ⟨ds.length - (i + 1), by omega, rfl, hlt, F2, ms2, acc2, e2, b2, q2⟩, fun x H2 y => ?_⟩
      obtain ⟨F2, d, e2, hh2, hd, hr⟩ := it.yields _ i H' x H2 F' ms' hlt e' hh' hG y
      refine gm x _ H2 _ _ (fun σ2 H3 z => ⟨z.2, z.1⟩) (hg x _ H2 _ _ (wipe_wipe σ vs) ?_)
      refine ib i d F' ms' acc e' hd p F2 e2 _ x (L2.wipe σ vs) H2 _ hr (((hs.mono e1).mono (e'.trans e2)).wipe vs) hh2 xle0 fun F3 ms3 S3 σ3 H3 e3 a3 b3 q3 => ?_
      refine q3 _ σ3 H3 _ a3 b3 xle0 fun F4 ms4 b H4 e4 b4 q4 => ?_
      cases b with
      | true =>
        refine q4.1 rfl _ σ3 H4 _ (a3.mono e4) b4 xle0 fun F5 ms5 d5 v5 H5 e5 b5 r5 q5 => ?_
        obtain ⟨_, vs5, hl, rl⟩ := b5.at mid_get
        refine ⟨vs5, hl, Evl.sz_lt (by rw [← rl.len]; exact q5.1), F5, ms5, acc ++ [d5], (((e'.trans e2).trans e3).trans e4).trans e5, ?_, q5.2⟩
        have := b5.set (m' := .lst (acc ++ [d5])) (o := .lst (vs5 ++ [v5])) mid_get ⟨_, upd_same, rl.append (RepL.one r5)⟩
        rw [mid_set] at this
        exact this
      | false => exact ⟨F4, ms4, acc, ((e'.trans e2).trans e3).trans e4, b4, q4.2 rfl⟩
    · have ei : i = ds.length := by omega
      subst ei
      refine .inl ⟨it.stops _ H' F' ms' e' hh' hG, ?_⟩
      obtain ⟨_, vsD, hl, rl⟩ := hh'.at mid_get
      obtain ⟨o, ho, e2, h2⟩ := hh'.freeze mid_get
      rw [hl] at ho
      cases ho
      rw [mid_erase] at h2
      exact k _ ms' (.lst acc) _ H' ((e1.trans e').trans e2) h2 (.lst upd_same (rl.mono e2)) (ie F' ms' acc e' p _ e2)

/-! ### defs -/
noncomputable abbrev ASp := List D → Hp → Ms → QE → XA → Prop
noncomputable def toSp (K : Frg) (sp : ASp) : Sp := fun vs H Q E => ∃ F ms R ds Qa Ea, Hold K F (ms ++ R) H ∧ RepL K F ds vs ∧ sp ds F ms Qa Ea ∧ (∀ F' ms' d v H', Ex F F' → Hold K F' (ms' ++ R) H' → Rep K F' d v → Qa F' ms' d → Q v H') ∧ XLe ⟨K, E, Ea⟩ R F
theorem ae_call {sp : ASp} {ta : TA} (h : AA Γ ta F ms S fun F1 ms1 ds => sp ds F1 ms1 Q Γ.Ea) : AE Γ (tCall (toSp Γ.K sp) [] Γ.E ta) F ms S Q := fun R σ H Qc hs hh x k =>
  h R σ H _ hs hh x fun F1 ms1 ds vs H1 e1 h1 r1 q1 => by
    show toSp Γ.K sp (vs ++ []) H1 Qc Γ.E
    rw [List.append_nil]
    exact ⟨F1, ms1, R, ds, Q, Γ.Ea, h1, r1, q1, fun F' ms' d v H' e => k F' ms' d v H' (e1.trans e), x.ex e1⟩
/-- an instance: frozen or owned -/
noncomputable def InsF (K : Frg) (F : Hp) (a C : Addr) (fs : List (Str × D)) : Prop := ∃ dx gs, F a = some (.ins C dx gs) ∧ F dx = some (.own a) ∧ RepF K F fs gs
theorem InsF.mono {F' : Hp} {a C : Addr} {fs : List (Str × D)} (e : Ex F F') : InsF K F a C fs → InsF K F' a C fs := fun ⟨dx, gs, h1, h2, h3⟩ => ⟨dx, gs, e _ _ h1, e _ _ h2, h3.mono e⟩
noncomputable def InsA (K : Frg) (F : Hp) (ms : Ms) (a C : Addr) (fs : List (Str × D)) : Prop := InsF K F a C fs ∨ ∃ n : Nat, ms[n]? = some (a, MO.ins C fs)
theorem InsA.to {a C : Addr} {fs : List (Str × D)} {R : Ms} {H : Hp} (i : InsA K F ms a C fs) (hh : Hold K F (ms ++ R) H) : ∃ dx gs, H a = some (.ins C dx gs) ∧ F dx = some (.own a) ∧ RepF K F fs gs := by
  rcases i with ⟨dx, gs, h1, h2, h3⟩ | ⟨n, hn⟩
  · exact ⟨dx, gs, hh.ex _ _ h1, h2, h3⟩
  · exact (hh.at (get_app hn)).2
theorem ae_fld {f : Str} (h : AE Γ ta F ms S fun F1 ms1 x => ∃ a C fs d, x = .ref a ∧ InsA Γ.K F1 ms1 a C fs ∧ Cls Γ.K C ∧ NoAttr Γ.K C f ∧ fs.lookup f = some d ∧ Q F1 ms1 d) : AE Γ (tFld Γ.K ta f) F ms S Q := fun R σ H Qc hs hh x k =>
  h R σ H _ hs hh x fun F1 ms1 d1 v1 H1 e1 h1 r1 ⟨a, C, fs, d, hx, hi, hc, hn, hl, q⟩ => by
    subst hx
    cases r1
    obtain ⟨dx, gs, i1, i2, i3⟩ := hi.to h1
    obtain ⟨v, hv, rv⟩ := i3.look hl
    exact ⟨a, C, dx, gs, v, rfl, i1, hc, hn, hv, k F1 ms1 d v H1 e1 h1 rv q⟩
theorem as_fld {f : Str} {tv : TE} (h : AE Γ tv F ms S fun F1 ms1 y => AE Γ ta F1 ms1 S fun F2 ms2 x => ∃ (n : Nat) (a C : Addr) (fs : List (Str × D)), x = .ref a ∧ ms2[n]? = some (a, .ins C fs) ∧ Cls Γ.K C ∧ NoAttr Γ.K C f ∧ fs.length < 1000 ∧ A.nx F2 (ms2.set n (a, .ins C (putD f y fs))) S) :
    AS Γ (sFld Γ.K ta tv f) F ms S A := fun R E σ H hs hh l =>
  h R σ H _ hs hh l.xe fun F1 ms1 y vy H1 e1 h1 r1 q1 => q1 R σ H1 _ (hs.mono e1) h1 (l.xe.ex e1) fun F2 ms2 x2 v2 H2 e2 h2 r2 ⟨n, a, C, fs, hx, hn, hc, hna, hl, q⟩ => by
    subst hx
    cases r2
    obtain ⟨_, dx, gs, i1, i2, i3⟩ := h2.at (get_app hn)
    refine ⟨a, C, dx, gs, rfl, i1, hc, hna, by rw [← i3.len]; exact hl, l.nx F2 (ms2.set n (a, .ins C (putD f y fs))) S σ _ (e1.trans e2) (hs.mono (e1.trans e2)) ?_ q⟩
    rw [← set_app hn]
    exact h2.set (get_app hn) ⟨dx, _, upd_same, i2, i3.put (r1.mono e2)⟩
theorem ae_meth {C : Addr} {m : Str} {sp : ASp} {ta' : TA} (h : AE Γ ta F ms S fun F1 ms1 x => ∃ a fs, x = .ref a ∧ InsA Γ.K F1 ms1 a C fs ∧ fs.lookup m = none ∧ AA Γ ta' F1 ms1 S fun F2 ms2 ds => sp (.ref a :: ds) F2 ms2 Q Γ.Ea) :
    AE Γ (tMeth C m (toSp Γ.K sp) [] Γ.E ta ta') F ms S Q := fun R σ H Qc hs hh x k =>
  h R σ H _ hs hh x fun F1 ms1 d1 v1 H1 e1 h1 r1 ⟨a, fs, hx, hi, hl, q⟩ => by
    subst hx
    cases r1
    obtain ⟨dx, gs, i1, i2, i3⟩ := hi.to h1
    refine ⟨a, dx, gs, rfl, i1, i3.lookN hl, q R σ H1 _ (hs.mono e1) h1 (x.ex e1) fun F2 ms2 ds vs H2 e2 h2 r2 q2 => ?_⟩
    show toSp Γ.K sp (V.ref a :: (vs ++ [])) H2 Qc Γ.E
    rw [List.append_nil]
    exact ⟨F2, ms2, R, .ref a :: ds, Q, Γ.Ea, h2, .cons (.ref a) r2, q2, fun F' ms' d v H' e => k F' ms' d v H' ((e1.trans e2).trans e), x.ex (e1.trans e2)⟩
theorem ae_make {C : Addr} {sp : ASp} {ta' : TA} {dvs : List V} {dds : List D} (hd : ∀ F, RepL Γ.K F dds dvs) (h : AA Γ ta' F ms S fun F1 ms1 ds => ∀ x F2, Ex F1 F2 → sp (.ref x :: (ds ++ dds)) F2 ((x, .ins C []) :: ms1) (fun F' ms' d => d = .non ∧ Q F' ms' (.ref x)) Γ.Ea) :
    AE Γ (tMake C (toSp Γ.K sp) dvs Γ.E ta') F ms S Q := fun R σ H Qc hs hh x k =>
  h R σ H _ hs hh x fun F1 ms1 ds vs H1 e1 h1 r1 q1 => by
    intro a dx na ndx ne
    obtain ⟨e2, h2⟩ := h1.laid (.own a) ndx
    have na2 : upd H1 dx (.own a) a = none := by rw [upd_ne ne.symm]; exact na
    have h3 := h2.made (m := .ins C []) (o := .ins C dx []) na2 ⟨dx, [], upd_same, upd_same, .nil⟩
    refine ⟨_, (a, .ins C []) :: ms1, R, .ref a :: (ds ++ dds), _, Γ.Ea, h3, .cons (.ref a) ((r1.mono e2).append (hd _)), q1 a _ e2, fun F' ms' d v H' e ho hr ⟨hdn, q⟩ => ?_, x.ex (e1.trans e2)⟩
    subst hdn
    cases hr
    exact ⟨rfl, k F' ms' (.ref a) _ H' ((e1.trans e2).trans e) ho (.ref a) q⟩
end
noncomputable def startS (N : List Str) (ds : List D) : Sg := ds.map some ++ List.replicate (N.length - ds.length) none
theorem start_rep {K : Frg} {F : Hp} {N : List Str} : ∀ {ds : List D} {vs : List V}, RepL K F ds vs → SRep K F (startS N ds) (L2.start N vs) := fun {ds vs} r => by
  unfold startS L2.start
  refine ⟨by simp [r.len], fun i d h => ?_⟩
  by_cases hi : i < ds.length
  · rw [List.getElem?_append_left (by simpa using hi), List.getElem?_map] at h
    cases e : ds[i]? with
    | none => rw [e] at h; cases h
    | some d' =>
      rw [e] at h
      cases h
      obtain ⟨v, hv, rv⟩ := r.getD e
      refine ⟨v, ?_, rv⟩
      rw [List.getElem?_append_left (by rw [List.length_map, ← r.len]; exact hi), List.getElem?_map, hv]
      rfl
  · rw [List.getElem?_append_right (by simpa using hi), List.getElem?_replicate] at h
    split at h <;> cases h
section
variable {P : Program} {w : World} {K : Frg} {mg : Str → Option Value} {base : Heap}
/-- a def that raises nothing -/
theorem fn_ok {x qual : Str} {st : Stmt} {f : Addr} {fd : FuncData} {N ps : List Str} {k : Nat} {sp : ASp} (F : Fun K x qual st f fd) (Sc : FnScope N ps (defScope st)) (len : ∀ ds F ms Q E, sp ds F ms Q E → ds.length = ps.length)
    (hbody : ∀ (cdv : Value) (A : Around) (outer : List Env) (s : Shared) (H : Hp) (E : XK), Room k (A.deeper (PyProof.Rows.envOfC qual (defScope st) s.heap.objs.size f cdv)) → ∃ t, PSs (cxOf CX0 P w K mg base N qual (defScope st) f cdv A outer s H E).nox (defBody st) t ∧
      ∀ ds F ms Q Ea, sp ds F ms Q Ea → AS ⟨K, E0, fun _ _ _ _ => False⟩ t F ms (startS N ds) { nx := fun F' ms' _ => Q F' ms' .non, rt := Q }) : FnOk P w K mg base CX0 (k + 1) f fd ps (toSp K sp) := by
  refine F.ok Sc (fun vs H Q E h => ?_) (fun cdv A outer s H vs Q E hr h => ?_)
  · obtain ⟨F0, ms, R, ds, Qa, Ea, h1, h2, h3, _⟩ := h
    rw [← h2.len]
    exact len _ _ _ _ _ h3
  · obtain ⟨F0, ms, R, ds, Qa, Ea, h1, h2, h3, h4, h5⟩ := h
    obtain ⟨t, ht, q⟩ := hbody cdv A outer s H E hr
    refine ⟨t, ht, q ds F0 ms Qa Ea h3 R _ _ H (start_rep h2) h1 ⟨fun _ _ _ _ _ _ _ _ _ z => z.elim, fun F' ms' S' σ' H' e a b q' => h4 F' ms' .non .non H' e b .non q', fun F' ms' d v H' e b r q' => h4 F' ms' d v H' e b r q', fun _ _ _ _ _ _ _ _ z => z.elim, fun _ _ _ _ _ _ _ _ z => z.elim⟩⟩
end
end AL

set_option Elab.async false
set_option linter.all false
set_option maxRecDepth 100000
set_option maxHeartbeats 4000000
namespace AL
open PySem L2
/-! ### two more built-ins at the library's level: list(text), min of texts -/
theorem richCmp_lt_str {prog : Program} {w : World} {A : Around} {E Q : Value → Shared → Prop} {s : Shared} {x y : Str} {t u : Tok} (h : Q (.bool (decide (x.cps.toList < y.cps.toList))) s) : wpAny (model prog w) A (richCompare .Lt (.str x t) (.str y u)) Q E s :=
  wpAny_richCompare_same (op := .Lt) (T := "str") (typeIs_str s x t) (typeIs_str s y u) PyProof.Rows.slot_str_lt
    (wpAny_call_entry PyProof.Rows.slot_str_lt (typeIs_str s x t) PyProof.Rows.entry_str_lt (show wpAny _ _ (ret (.bool (x.cps.toList < y.cps.toList))) _ _ s from wpAny_pure ⟨_, rfl, by simp, h⟩) (PyProof.Rows.args_str_lt _ _))
theorem cmp_strs {prog : Program} {w : World} {A : Around} {P : Nat → Value → Prop} (val : Nat → Str) (hval : ∀ i v, P i v → ∃ t, v = .str (val i) t) :
    CmpOf prog w A .Lt P (fun i j => decide ((val i).cps.toList < (val j).cps.toList)) := fun i j vi vj s Q E hi hj h => by
  obtain ⟨t, rfl⟩ := hval i vi hi
  obtain ⟨u, rfl⟩ := hval j vj hj
  exact richCmp_lt_str h
section
variable {X : Cx}
noncomputable def minS (x y : Str) : Str := if y.cps.toList < x.cps.toList then y else x
/-- min(a, b) of texts -/
noncomputable def rMinS : List V → Hp → VK → Prop := fun xs H Q => ∃ x y, xs = [.str x, .str y] ∧ Q (.str (minS x y)) H
theorem call_minS (hc : X.calm = true) : CallR X (.builtin "min") rMinS := by
  intro pins s σ H xs us Q I r h
  obtain ⟨x, y, rfl, q⟩ := h
  obtain ⟨u, w', rfl, ⟨t, rfl⟩, ⟨t', rfl⟩⟩ := vals2 r
  have hT : (s.heap.push { cls := .type "tuple", data := .seq #[Value.str x t, Value.str y t'] }).IsTuple s.heap.objs.size #[Value.str x t, Value.str y t'] := ⟨_, Heap.get?_push_size _ rfl, rfl, 0, rfl⟩
  refine call_min_two (wpAny_pyIter_tuple hT ?_)
  have hsz : (s.heap.push { cls := .type "tuple", data := .seq #[Value.str x t, Value.str y t'] }).objs.size = s.heap.objs.size + 1 := Heap.size_push ..
  refine ⟨_, [_, s.heap.objs.size], [_], _, _, _, _, rfl, Walks.tuple (A := X.A.in1) (I.ok.hd hc) _ s.heap.objs.size (by rw [hsz]; exact Nat.ne_of_lt (Nat.lt_succ_self _)) #[Value.str x t, Value.str y t'],
    ⟨⟨_, Heap.get?_push_size _ rfl, rfl, rfl⟩, hT.push _⟩, fun c hcm => ?_, by simp, cmp_strs (fun i => if i = 0 then x else y) (fun i v hv => ?_), fun v h' tk hP hk => ?_⟩
  · show c < ((s.heap.push _).push _).objs.size
    rw [Heap.size_push, hsz]
    rcases List.mem_cons.mp hcm with rfl | hcm
    · rw [hsz]; exact Nat.lt_succ_self _
    · rcases List.mem_cons.mp hcm with rfl | hcm
      · exact Nat.lt_succ_of_lt (Nat.lt_succ_self _)
      · cases hcm
  · match i, hv with
    | 0, hv => simp at hv; exact ⟨t, by simp [hv]⟩
    | 1, hv => simp at hv; exact ⟨t', by simp [hv]⟩
    | n + 2, hv => simp at hv
  · have hold : ∀ c o, s.heap.get? c = some o → h'.get? c = some o := fun c o e => by
      refine hk c o (fun hm => ?_) (Heap.get?_push_of_some _ (Heap.get?_push_of_some _ e))
      rcases List.mem_cons.mp hm with e1 | hm
      · have := Heap.lt_size e; rw [e1, hsz] at this; exact Nat.lt_irrefl _ (Nat.lt_of_succ_lt this)
      · cases hm
    refine ⟨.str (minS x y), H, I.kept hold, ?_, q⟩
    have hsz2 : (#[Value.str x t, Value.str y t'] : Array Value).size - 1 = 1 := by simp
    rw [hsz2] at hP
    unfold minS
    by_cases hba : y.cps.toList < x.cps.toList
    · have e : argBest (fun i j => decide ((if i = 0 then x else y).cps.toList < (if j = 0 then x else y).cps.toList)) 1 = 1 := by simp [argBest, hba]
      rw [e] at hP
      rw [if_pos hba]
      have : v = .str y t' := by simpa using hP.symm
      exact ⟨t', this⟩
    · have e : argBest (fun i j => decide ((if i = 0 then x else y).cps.toList < (if j = 0 then x else y).cps.toList)) 1 = 0 := by simp [argBest, hba]
      rw [e] at hP
      rw [if_neg hba]
      have : v = .str x t := by simpa using hP.symm
      exact ⟨t, this⟩
/-- min of a text of two signs -/
noncomputable def rMinT : List V → Hp → VK → Prop := fun xs H Q => ∃ a b : Nat, xs = [.str ⟨#[a, b]⟩] ∧ Q (.str (minS (sg a) (sg b))) H
theorem call_minT (hc : X.calm = true) : CallR X (.builtin "min") rMinT := by
  intro pins s σ H xs us Q I r h
  obtain ⟨a, b, rfl, q⟩ := h
  obtain ⟨u, rfl, t, rfl⟩ := vals1 r
  refine call_min_walk (wpAny_pyIter_str fun o St W st => ?_)
  have hsz : (s.heap.push o).objs.size = s.heap.objs.size + 1 := Heap.size_push ..
  refine ⟨_, _, _, _, _, _, _, rfl, W X.A.in1 (I.ok.hd hc), st, fun c hcm => ?_, by simp, cmp_strs (fun i => if i = 0 then sg a else sg b) (fun i v hv => ?_), fun v h' tk hP hk => ?_⟩
  · rcases List.mem_cons.mp hcm with rfl | hcm
    · show s.heap.objs.size < (s.heap.push o).objs.size
      rw [hsz]; exact Nat.lt_succ_self _
    · cases hcm
  · obtain ⟨c, u, h1, h2⟩ := hv
    match i, h1 with
    | 0, h1 => simp at h1; exact ⟨u, by rw [h2, ← h1]; rfl⟩
    | 1, h1 => simp at h1; exact ⟨u, by rw [h2, ← h1]; rfl⟩
    | n + 2, h1 => simp at h1
  · have hold : ∀ c o, s.heap.get? c = some o → h'.get? c = some o := fun c o e => by
      refine hk c o (fun hm => ?_) (Heap.get?_push_of_some _ e)
      rcases List.mem_cons.mp hm with e1 | hm
      · have := Heap.lt_size e; rw [e1] at this; exact Nat.lt_irrefl _ this
      · cases hm
    refine ⟨.str (minS (sg a) (sg b)), H, I.kept hold, ?_, q⟩
    have hsz2 : (⟨#[a, b]⟩ : Str).cps.size - 1 = 1 := by simp
    rw [hsz2] at hP
    unfold minS
    by_cases hba : (sg b).cps.toList < (sg a).cps.toList
    · have e : argBest (fun i j => decide ((if i = 0 then sg a else sg b).cps.toList < (if j = 0 then sg a else sg b).cps.toList)) 1 = 1 := by simp [argBest, hba]
      rw [e] at hP
      rw [if_pos hba]
      obtain ⟨c, u, h1, h2⟩ := hP
      simp at h1
      exact ⟨u, by rw [h2, ← h1]; rfl⟩
    · have e : argBest (fun i j => decide ((if i = 0 then sg a else sg b).cps.toList < (if j = 0 then sg a else sg b).cps.toList)) 1 = 0 := by simp [argBest, hba]
      rw [e] at hP
      rw [if_neg hba]
      obtain ⟨c, u, h1, h2⟩ := hP
      simp at h1
      exact ⟨u, by rw [h2, ← h1]; rfl⟩
noncomputable def rListT : List V → Hp → VK → Prop := fun xs H Q => ∃ z : Str, xs = [.str z] ∧ z.cps.size ≤ sizeLine ∧ ∀ l, H l = none → Q (.ref l) (upd H l (.lst (z.cps.toList.map fun c => V.str (sg c))))
theorem call_list_T (hc : X.calm = true) : CallR X (.type "list") rListT := by
  intro pins s σ H xs us Q I r h
  obtain ⟨z, rfl, hz, q⟩ := h
  obtain ⟨u, rfl, t, rfl⟩ := vals1 r
  refine call_list_str (I.ok.hd hc) z t (fun h' tk acc' c' hk hS hacc => ?_) hz
  refine ⟨.ref s.heap.objs.size, _, I.laid hk (Nat.le_refl _) (show ObjOk X.prog X.w _ h' _ (.lst (z.cps.toList.map fun c => V.str (sg c))) from ⟨?_, acc'.toList, c', ?_, ?_⟩), rfl, q _ (I.hok.fresh (Nat.le_refl _))⟩
  · rw [List.length_map, Array.length_toList]; exact hz
  · have el : acc'.toList.length = acc'.size := by simp
    refine vals_of_at (by rw [List.length_map, Array.length_toList, el, hacc.1]) fun j x w h1 h2 => ?_
    obtain ⟨c, u, h3, h4⟩ := hacc.2 j w (by rw [← Array.getElem?_toList]; exact h2)
    rw [List.getElem?_map, Array.getElem?_toList, h3] at h1
    cases h1
    exact ⟨u, h4⟩
  · rw [Array.toArray_toList]; exact hS
noncomputable def rListS' (K : Frg) : List V → Hp → VK → Prop := fun xs H Q => ∃ p ys, xs = [.ref p] ∧ (SqL K H p ys ∨ SqT K H p ys) ∧ ∀ l, H l = none → Q (.ref l) (upd H l (.lst ys))
noncomputable def rLIST (K : Frg) : List V → Hp → VK → Prop := fun xs H Q => rListS' K xs H Q ∨ rListT xs H Q
theorem cor {f : Value} {r r' : List V → Hp → VK → Prop} (h : CallR X f r) (h' : CallR X f r') : CallR X f fun xs H Q => r xs H Q ∨ r' xs H Q := by
  intro pins s σ H xs us Q I rs q
  rcases q with q | q
  · exact h pins s σ H xs us Q I rs q
  · exact h' pins s σ H xs us Q I rs q
theorem call_LIST (hc : X.calm = true) : CallR X (.type "list") (rLIST X.K) := cor call_list_of (call_list_T hc)
noncomputable def rMinI : List V → Hp → VK → Prop := fun xs H Q => ∃ i j, xs = [.int i, .int j] ∧ Q (.int (if j < i then j else i)) H
noncomputable def rMIN : List V → Hp → VK → Prop := fun xs H Q => rMinI xs H Q ∨ (rMinS xs H Q ∨ rMinT xs H Q)
theorem call_MIN (hc : X.calm = true) : CallR X (.builtin "min") rMIN := cor (call_min2 hc) (cor (call_minS hc) (call_minT hc))
noncomputable def rMaxI : List V → Hp → VK → Prop := fun xs H Q => ∃ i j, xs = [.int i, .int j] ∧ Q (.int (if j > i then j else i)) H
theorem call_MAX2 (hc : X.calm = true) : CallR X (.builtin "max") rMaxI := call_max2 hc
noncomputable def rABS : List V → Hp → VK → Prop := fun xs H Q => ∃ i, xs = [.int i] ∧ Q (.int (if i < 0 then -i else i)) H
theorem call_ABS : CallR X (.builtin "abs") rABS := call_abs
noncomputable def rTUPLE (K : Frg) : List V → Hp → VK → Prop := fun xs H Q => ∃ p ys, xs = [.ref p] ∧ ((SqL K H p ys ∧ ∀ l, H l = none → Q (.ref l) (upd H l (.tup ys))) ∨ (SqT K H p ys ∧ Q (.ref p) H))
theorem call_TUPLE : CallR X (.type "tuple") (rTUPLE X.K) := call_tuple_of
noncomputable def rSTRI : List V → Hp → VK → Prop := fun xs H Q => ∃ i, xs = [.int i] ∧ i.natAbs.log2 < 1920 ∧ Q (.str (toString i)) H
noncomputable def rINT : List V → Hp → VK → Prop := fun xs H Q => ((∃ i, xs = [.int i] ∧ Q (.int i) H) ∨ ∃ k, xs = [.bl k] ∧ Q (.int (if k then 1 else 0)) H) ∨ ∃ a n, xs = [.str a] ∧ PySem.intText? a = some n ∧ a.length ≤ 640 ∧ Q (.int n) H
end
section
variable {Γ : Cg} {K : Frg} {F : Hp} {ms : Ms} {S : Sg} {Q : QE} {ta tb te tx : TE} {t u tt : TT} {r : R2} {ts tu tw : TS} {A : AEnds}
theorem rep_l {d : D} {a : Addr} {H : Hp} {ds : List D} (hd : d = .lst ds ∨ d = .rdl ds) {v : V} (r : Rep K F d v) (e : Ex F H) : ∃ p ys, v = .ref p ∧ SqL K H p ys ∧ RepL K F ds ys := by
  rcases hd with rfl | rfl
  · cases r with
    | lst h r => exact ⟨_, _, rfl, SqL.of (e _ _ h), r⟩
  · cases r with
    | rdl h r => exact ⟨_, _, rfl, ex_l e h, r⟩
theorem ac2 {rc : List V → Hp → VK → Prop} {d d2 : D} (h : ∀ (R : Ms) v v2 H (Qc : VK), Rep K F d v → Rep K F d2 v2 → Hold K F (ms ++ R) H → (∀ F' ms' d v H', Ex F F' → Hold K F' (ms' ++ R) H' → Rep K F' d v → Q F' ms' d → Qc v H') → rc [v, v2] H Qc) : AC K rc [d, d2] F ms Q := fun R vs H Qc hv hh k => by
  cases hv with
  | cons h1 h2 =>
    cases h2 with
    | cons h2 h3 =>
      cases h3
      exact h R _ _ H Qc h1 h2 hh k
theorem AC.or1 {rc rc' : List V → Hp → VK → Prop} {ds : List D} (h : AC K rc ds F ms Q) : AC K (fun xs H Q => rc xs H Q ∨ rc' xs H Q) ds F ms Q := fun R vs H Qc hv hh k => .inl (h R vs H Qc hv hh k)
theorem AC.or2 {rc rc' : List V → Hp → VK → Prop} {ds : List D} (h : AC K rc' ds F ms Q) : AC K (fun xs H Q => rc xs H Q ∨ rc' xs H Q) ds F ms Q := fun R vs H Qc hv hh k => .inr (h R vs H Qc hv hh k)
theorem ac_abs {i : Int} (q : Q F ms (.int (if i < 0 then -i else i))) : AC K rABS [.int i] F ms Q := ac1 fun R v H Qc hv hh k => by
  cases hv
  exact ⟨i, rfl, k F ms _ _ H Ex.refl hh (.int _) q⟩
theorem ac_listO {d : D} {ds : List D} (hd : (d = .lst ds ∨ d = .rdl ds) ∨ d = .tup ds) (q : ∀ l, Q F ((l, .lst ds) :: ms) (.ref l)) : AC K (rLIST K) [d] F ms Q := AC.or1 (ac1 fun R v H Qc hv hh k => by
  have : ∃ p ys, v = .ref p ∧ (SqL K H p ys ∨ SqT K H p ys) ∧ RepL K F ds ys := by
    rcases hd with hd | rfl
    · obtain ⟨p, ys, h1, h2, h3⟩ := rep_l (a := 0) hd hv hh.ex
      exact ⟨p, ys, h1, .inl h2, h3⟩
    · cases hv with
      | tup h r => exact ⟨_, _, rfl, .inr (ex_t hh.ex h), r⟩
  obtain ⟨p, ys, rfl, h2, h3⟩ := this
  refine ⟨p, ys, rfl, h2, fun l hl => ?_⟩
  exact k F ((l, .lst ds) :: ms) (.ref l) _ _ Ex.refl (hh.made (m := .lst ds) hl ⟨ys, upd_same, h3⟩) (.ref l) (q l))
theorem repL_chars (z : Str) : RepL K F (charsD z) (z.cps.toList.map fun c => V.str (sg c)) := by
  unfold charsD
  induction z.cps.toList with
  | nil => exact .nil
  | cons c r ih => exact .cons (.str _) ih
theorem ac_listT {z : Str} (hz : z.length ≤ 100000) (q : ∀ F', Ex F F' → Q F' ms (.lst (charsD z))) : AC K (rLIST K) [.str z] F ms Q := AC.or2 (ac1 fun R v H Qc hv hh k => by
  cases hv
  refine ⟨z, rfl, Evl.sz_of hz, fun l hl => ?_⟩
  obtain ⟨e, hh'⟩ := hh.laid (.lst (z.cps.toList.map fun c => V.str (sg c))) hl
  exact k _ ms (.lst (charsD z)) _ _ e hh' (.lst upd_same (repL_chars z)) (q _ e))
theorem ac_tupleL {d : D} {ds : List D} (hd : d = .lst ds ∨ d = .rdl ds) (q : ∀ F', Ex F F' → Q F' ms (.tup ds)) : AC K (rTUPLE K) [d] F ms Q := ac1 fun R v H Qc hv hh k => by
  obtain ⟨p, ys, rfl, h2, h3⟩ := rep_l (a := 0) hd hv hh.ex
  refine ⟨p, ys, rfl, .inl ⟨h2, fun l hl => ?_⟩⟩
  obtain ⟨e, hh'⟩ := hh.laid (.tup ys) hl
  exact k _ ms (.tup ds) _ _ e hh' (.tup (SqT.of upd_same) (h3.mono e)) (q _ e)
theorem ac_minI {i j : Int} (q : Q F ms (.int (if j < i then j else i))) : AC K rMIN [.int i, .int j] F ms Q := AC.or1 (ac2 fun R v v2 H Qc hv hv2 hh k => by
  cases hv; cases hv2
  exact ⟨i, j, rfl, k F ms _ _ H Ex.refl hh (.int _) q⟩)
theorem ac_minS {i j : Str} (q : Q F ms (.str (minS i j))) : AC K rMIN [.str i, .str j] F ms Q := AC.or2 (AC.or1 (ac2 fun R v v2 H Qc hv hv2 hh k => by
  cases hv; cases hv2
  exact ⟨i, j, rfl, k F ms _ _ H Ex.refl hh (.str _) q⟩))
theorem ac_maxI {i j : Int} (q : Q F ms (.int (if j > i then j else i))) : AC K rMaxI [.int i, .int j] F ms Q := ac2 fun R v v2 H Qc hv hv2 hh k => by
  cases hv; cases hv2
  exact ⟨i, j, rfl, k F ms _ _ H Ex.refl hh (.int _) q⟩
/-! ### isinstance -/
noncomputable def kindD : D → String
  | .non => "NoneType" | .bl _ => "bool" | .int _ => "int" | .str _ => "str" | .tup _ => "tuple" | .lst _ => "list" | .rdl _ => "list" | .dic _ => "dict" | .ref _ => "" | .ty _ => ""
theorem ty_of {d : D} {v : V} {H : Hp} (r : Rep K F d v) (e : Ex F H) (hd : kindD d ≠ "") (hr : ∀ ds, d ≠ .rdl ds) : TyX K H v (.type (kindD d)) := by
  cases r with
  | non => exact .base .non
  | bl b => exact .base (.bl b)
  | int i => exact .base (.int i)
  | str x => exact .base (.str x)
  | ref a => exact absurd rfl hd
  | ty n => exact absurd rfl hd
  | tup h r =>
    rcases ex_t e h with (h | ⟨o, h⟩) | ⟨o, _, _, h, hc, _⟩
    · exact .base (.tup h)
    · exact .fTuple h
    · exact .kTuple h hc
  | lst h r => exact .base (.lst (e _ _ h))
  | rdl h r => exact absurd rfl (hr _)
  | dic h r => exact .base (.dK (e _ _ h))
theorem ac_isi {d : D} {n : String} (hd : kindD d ≠ "" := by decide) (hr : ∀ ds, d ≠ .rdl ds := by (intro ds h; cases h)) {b : Bool} (hk : kitB (kindD d) n = some b) (q : Q F ms (.bl b)) : AC K (rIsi K) [d, .ty n] F ms Q := ac2 fun R v v2 H Qc hv hv2 hh k => by
  cases hv2
  exact ⟨v, .ty n, _, _, b, rfl, .ty n, ty_of hv hh.ex hd hr, kit_ty hk, k F ms _ _ H Ex.refl hh (.bl _) q⟩
end
end AL

set_option Elab.async false
set_option linter.all false
set_option maxRecDepth 100000
set_option maxHeartbeats 4000000
namespace AL
open PySem L2
/-! ### plain data, == -/
mutual
noncomputable def toPy : D → PyData
  | .non => .none
  | .bl b => .bool b
  | .int i => .int i
  | .str x => .str x
  | .tup ds => .tuple (toPyL ds)
  | .lst ds => .list (toPyL ds)
  | .rdl ds => .list (toPyL ds)
  | .ref _ => .none
  | .ty _ => .none
  | .dic _ => .none
noncomputable def toPyL : List D → List PyData
  | [] => []
  | d :: ds => toPy d :: toPyL ds
end
mutual
/-- no objects in it, its texts of plain signs -/
noncomputable def okD : D → Bool
  | .non => true
  | .bl _ => true
  | .int _ => true
  | .str x => PyData.strOk x
  | .tup ds => okL ds
  | .lst ds => okL ds
  | .rdl ds => okL ds
  | .ref _ => false
  | .ty _ => false
  | .dic _ => false
noncomputable def okL : List D → Bool
  | [] => true
  | d :: ds => okD d && okL ds
end
mutual
noncomputable def dep : D → Nat
  | .tup ds => depL ds + 1
  | .lst ds => depL ds + 1
  | .rdl ds => depL ds + 1
  | .non => 0
  | .bl _ => 0
  | .int _ => 0
  | .str _ => 0
  | .ref _ => 0
  | .ty _ => 0
  | .dic _ => 0
noncomputable def depL : List D → Nat
  | [] => 0
  | d :: ds => max (dep d) (depL ds)
end
noncomputable def eqvD (d e : D) : Bool := PyData.eqv (toPy d) (toPy e)
mutual
theorem lay_ok : ∀ d : D, okD d = true → (toPy d).canLay0 = true
  | .non, _ => rfl
  | .bl _, _ => rfl
  | .int _, _ => rfl
  | .str x, h => by
    unfold okD at h
    unfold toPy PyData.canLay0
    exact h
  | .tup ds, h => by
    unfold okD at h
    unfold toPy PyData.canLay0
    exact layL_ok ds h
  | .lst ds, h => by
    unfold okD at h
    unfold toPy PyData.canLay0
    exact layL_ok ds h
  | .rdl ds, h => by
    unfold okD at h
    unfold toPy PyData.canLay0
    exact layL_ok ds h
  | .ref _, h => by unfold okD at h; cases h
  | .ty _, h => by unfold okD at h; cases h
  | .dic _, h => by unfold okD at h; cases h
theorem layL_ok : ∀ ds : List D, okL ds = true → PyData.canLayAll0 (toPyL ds) = true
  | [], _ => rfl
  | d :: ds, h => by
    unfold okL at h
    rw [Bool.and_eq_true] at h
    unfold toPyL PyData.canLayAll0
    rw [lay_ok d h.1, layL_ok ds h.2]
    rfl
end
mutual
theorem dep_ok : ∀ d : D, (toPy d).depth = dep d
  | .non => rfl
  | .bl _ => rfl
  | .int _ => rfl
  | .str x => rfl
  | .tup ds => by unfold toPy PyData.depth dep; rw [depL_ok ds]
  | .lst ds => by unfold toPy PyData.depth dep; rw [depL_ok ds]
  | .rdl ds => by unfold toPy PyData.depth dep; rw [depL_ok ds]
  | .ref _ => rfl
  | .ty _ => rfl
  | .dic _ => rfl
theorem depL_ok : ∀ ds : List D, PyData.depthAll (toPyL ds) = depL ds
  | [] => rfl
  | d :: ds => by unfold toPyL PyData.depthAll depL; rw [dep_ok d, depL_ok ds]
end
theorem shaped_ok {d : D} (h : okD d = true) (h2 : dep d ≤ 64) : SeqAt.shaped (toPy d) = true := by
  unfold SeqAt.shaped
  rw [lay_ok d h, dep_ok d, decide_eq_true h2]
  rfl
section
variable {K : Frg} {F H : Hp}
mutual
theorem dp_of (e : Ex F H) : ∀ {d : D} {v : V}, okD d = true → Rep K F d v → Dp K H v (toPy d)
  | _, _, _, .non => by unfold toPy; exact .non
  | _, _, _, .bl b => by unfold toPy; exact .bl b
  | _, _, _, .int i => by unfold toPy; exact .int i
  | _, _, _, .str x => by unfold toPy; exact .str x
  | .ref _, _, h, _ => by unfold okD at h; cases h
  | .ty _, _, h, _ => by unfold okD at h; cases h
  | _, _, h, .tup q r => by unfold okD at h; unfold toPy; exact .tup (ex_t e q) (dpL_of e h r)
  | _, _, h, .lst q r => by unfold okD at h; unfold toPy; exact .lst (SqL.of (e _ _ q)) (dpL_of e h r)
  | _, _, h, .rdl q r => by unfold okD at h; unfold toPy; exact .lst (ex_l e q) (dpL_of e h r)
  | .dic _, _, h, _ => by unfold okD at h; cases h
theorem dpL_of (e : Ex F H) : ∀ {ds : List D} {vs : List V}, okL ds = true → RepL K F ds vs → DpAll K H vs (toPyL ds)
  | _, _, _, .nil => by unfold toPyL; exact .nil
  | _, _, h, .cons q r => by
    unfold okL at h
    rw [Bool.and_eq_true] at h
    unfold toPyL
    exact .cons (dp_of e h.1 q) (dpL_of e h.2 r)
end
end
theorem eqv_self : ∀ d : D, okD d = true → eqvD d d = true := fun d h => by
  unfold eqvD
  exact SeqAt.eqv_refl _ (lay_ok d h)
/-- ==, != -/
noncomputable def rEQ (K : Frg) : R2 := fun x y H Q => rEq x y H Q ∨ rEqD K x y H Q
noncomputable def rNE (K : Frg) : R2 := fun x y H Q => rNe x y H Q ∨ rNeD K x y H Q
theorem op_EQ {X : Cx} (hu : X.A.units + 64 < cLine) : OpR X (compareOp .Eq) (rEQ X.K) := op_eq.or (op_eqD hu)
theorem op_NE {X : Cx} (hu : X.A.units + 64 < cLine) : OpR X (compareOp .NotEq) (rNE X.K) := op_ne.or (op_neD hu)
section
variable {Γ : Cg} {K : Frg} {F : Hp} {ms : Ms} {S : Sg} {Q : QE} {ta tb te tx : TE} {t u tt : TT} {r : R2} {ts tu tw : TS} {A : AEnds}
theorem ar_EQi {i j : Int} (q : Q F ms (.bl (decide (i = j)))) : AR K (rEQ K) (.int i) (.int j) F ms Q := ar_inl (ar_eqI q)
theorem ar_EQs {i j : Str} (q : Q F ms (.bl (decide (i = j)))) : AR K (rEQ K) (.str i) (.str j) F ms Q := ar_inl (ar_eqS q)
theorem ar_NEi {i j : Int} (q : Q F ms (.bl (!decide (i = j)))) : AR K (rNE K) (.int i) (.int j) F ms Q := ar_inl (ar_neI q)
theorem ar_NEs {i j : Str} (q : Q F ms (.bl (!decide (i = j)))) : AR K (rNE K) (.str i) (.str j) F ms Q := ar_inl (ar_neS q)
theorem ar_EQd {d e : D} (h1 : okD d = true) (h2 : okD e = true) (h3 : dep d ≤ 64) (h4 : dep e ≤ 64) (q : Q F ms (.bl (eqvD d e))) : AR K (rEQ K) d e F ms Q := ar_inr fun R u v H Qc hu hv hh k =>
  ⟨toPy d, toPy e, dp_of hh.ex h1 hu, dp_of hh.ex h2 hv, shaped_ok h1 h3, shaped_ok h2 h4, k F ms _ _ H Ex.refl hh (.bl _) q⟩
theorem ar_NEd {d e : D} (h1 : okD d = true) (h2 : okD e = true) (h3 : dep d ≤ 64) (h4 : dep e ≤ 64) (q : Q F ms (.bl (!eqvD d e))) : AR K (rNE K) d e F ms Q := ar_inr fun R u v H Qc hu hv hh k =>
  ⟨toPy d, toPy e, dp_of hh.ex h1 hu, dp_of hh.ex h2 hv, shaped_ok h1 h3, shaped_ok h2 h4, k F ms _ _ H Ex.refl hh (.bl _) q⟩
/-- an owned list of plain data, compared -/
theorem ar_EQo {l : Addr} {ds : List D} {e : D} (n : Nat) (hn : ms[n]? = some (l, .lst ds)) (h1 : okL ds = true) (h2 : okD e = true) (h3 : depL ds < 64) (h4 : dep e ≤ 64) (q : Q F ms (.bl (eqvD (.lst ds) e))) : AR K (rEQ K) (.ref l) e F ms Q := ar_inr fun R u v H Qc hu hv hh k => by
  cases hu
  obtain ⟨_, vs, hl, r⟩ := hh.at (get_app hn)
  have hd : okD (.lst ds) = true := by unfold okD; exact h1
  have hd2 : dep (.lst ds) ≤ 64 := by unfold dep; omega
  exact ⟨toPy (.lst ds), toPy e, by unfold toPy; exact .lst (SqL.of hl) (dpL_of hh.ex h1 r), dp_of hh.ex h2 hv, shaped_ok hd hd2, shaped_ok h2 h4, k F ms _ _ H Ex.refl hh (.bl _) q⟩
theorem ar_NEo {l : Addr} {ds : List D} {e : D} (n : Nat) (hn : ms[n]? = some (l, .lst ds)) (h1 : okL ds = true) (h2 : okD e = true) (h3 : depL ds < 64) (h4 : dep e ≤ 64) (q : Q F ms (.bl (!eqvD (.lst ds) e))) : AR K (rNE K) (.ref l) e F ms Q := ar_inr fun R u v H Qc hu hv hh k => by
  cases hu
  obtain ⟨_, vs, hl, r⟩ := hh.at (get_app hn)
  have hd : okD (.lst ds) = true := by unfold okD; exact h1
  have hd2 : dep (.lst ds) ≤ 64 := by unfold dep; omega
  exact ⟨toPy (.lst ds), toPy e, by unfold toPy; exact .lst (SqL.of hl) (dpL_of hh.ex h1 r), dp_of hh.ex h2 hv, shaped_ok hd hd2, shaped_ok h2 h4, k F ms _ _ H Ex.refl hh (.bl _) q⟩
/-! ### is -/
noncomputable def rISN : R2 := fun x y H Q => y = .non ∧ Q (.bl (decide (x = .non))) H
noncomputable def rNOTN : R2 := fun x y H Q => y = .non ∧ Q (.bl (!decide (x = .non))) H
noncomputable def isN : D → Bool
  | .non => true
  | _ => false
/-! ### in -/
noncomputable def rInS1 : R2 := fun x y H Q => ∃ (c : Nat) (z : Str), x = .str ⟨#[c]⟩ ∧ y = .str z ∧ Q (.bl (decide (c ∈ z.cps.toList))) H
noncomputable def rNotInS1 : R2 := fun x y H Q => ∃ (c : Nat) (z : Str), x = .str ⟨#[c]⟩ ∧ y = .str z ∧ Q (.bl (!decide (c ∈ z.cps.toList))) H
noncomputable def rIN (K : Frg) : R2 := fun x y H Q => rInS1 x y H Q ∨ rIn K false x y H Q
noncomputable def rNOTIN (K : Frg) : R2 := fun x y H Q => rNotInS1 x y H Q ∨ rIn K true x y H Q
theorem op_INN {X : Cx} : OpR X (compareOp .In) (rIN X.K) := op_in_sign.or op_in_seq
theorem ar_INs {c : Nat} {z : Str} (q : Q F ms (.bl (decide (c ∈ z.cps.toList)))) : AR K (rIN K) (.str (sg c)) (.str z) F ms Q := ar_inl fun R u v H Qc hu hv hh k => by
  cases hu; cases hv
  exact ⟨c, z, rfl, rfl, k F ms _ _ H Ex.refl hh (.bl _) q⟩
end
end AL

set_option Elab.async false
set_option linter.all false
set_option maxRecDepth 100000
set_option maxHeartbeats 4000000
namespace AL
open PySem L2
noncomputable def keyD : D → Option Key
  | .int i => some (.inl i)
  | .str x => some (.inr x)
  | _ => none
theorem key_rep {K : Frg} {F : Hp} {d : D} {v : V} {k : Key} (r : Rep K F d v) (h : keyD d = some k) : v = kV k := by
  cases r <;> first | (unfold keyD at h; cases h; done) | (unfold keyD at h; cases h; rfl)
noncomputable def valD (kvs : List (Key × D)) (k : Key) : Option D := (kvs.find? fun kv => decide (kv.1 = k)).map (·.2)
noncomputable def putKD (kvs : List (Key × D)) (k : Key) (d : D) : List (Key × D) := if kvs.any (fun kv => decide (kv.1 = k)) then kvs.map (fun kv => if kv.1 = k then (kv.1, d) else kv) else kvs ++ [(k, d)]
section
variable {K : Frg} {F : Hp}
theorem RepK.val : ∀ {ds : List (Key × D)} {vs : List (Key × V)} (k : Key), RepK K F ds vs → (valD ds k = none ∧ valV vs k = none) ∨ ∃ d v, valD ds k = some d ∧ valV vs k = some v ∧ Rep K F d v
  | _, _, k, .nil => .inl ⟨rfl, rfl⟩
  | _, _, k, .cons (k := k') (d := d) (v := v) h r => by
    by_cases e : k' = k
    · refine .inr ⟨d, v, ?_, ?_, h⟩
      · unfold valD; rw [List.find?_cons]; simp [e]
      · exact valV_pos e
    · rcases RepK.val k r with ⟨a, b⟩ | ⟨d', v', a, b, c⟩
      · refine .inl ⟨?_, by rw [valV_neg e]; exact b⟩
        unfold valD at a ⊢; rw [List.find?_cons]; simp only [decide_eq_false e]; exact a
      · refine .inr ⟨d', v', ?_, by rw [valV_neg e]; exact b, c⟩
        unfold valD at a ⊢; rw [List.find?_cons]; simp only [decide_eq_false e]; exact a
theorem RepK.any : ∀ {ds : List (Key × D)} {vs : List (Key × V)} (k : Key), RepK K F ds vs → (ds.any fun kv => decide (kv.1 = k)) = (vs.any fun kv => decide (kv.1 = k))
  | _, _, k, .nil => rfl
  | _, _, k, .cons h r => by rw [List.any_cons, List.any_cons, RepK.any k r]
theorem RepK.repl {d : D} {v : V} (h0 : Rep K F d v) (k : Key) : ∀ {ds : List (Key × D)} {vs : List (Key × V)}, RepK K F ds vs → RepK K F (ds.map fun kv => if kv.1 = k then (kv.1, d) else kv) (vs.map fun kv => if kv.1 = k then (kv.1, v) else kv)
  | _, _, .nil => .nil
  | _, _, .cons (k := k') h r => by
    rw [List.map_cons, List.map_cons]
    by_cases e : k' = k
    · rw [if_pos e, if_pos e]; exact .cons h0 (RepK.repl h0 k r)
    · rw [if_neg e, if_neg e]; exact .cons h (RepK.repl h0 k r)
theorem RepK.put {d : D} {v : V} (h0 : Rep K F d v) (k : Key) {ds : List (Key × D)} {vs : List (Key × V)} (r : RepK K F ds vs) : RepK K F (putKD ds k d) (putK vs k v) := by
  unfold putKD putK
  rw [r.any k]
  split
  · exact r.repl h0 k
  · exact r.append (.cons h0 .nil)
end
noncomputable def cutL {α : Type} (xs : List α) (lo hi : Option Int) : List α := (xs.drop (HT.sIx xs.length 0 lo)).take (HT.sIx xs.length xs.length hi - HT.sIx xs.length 0 lo)
section
variable {Γ : Cg} {K : Frg} {F : Hp} {ms : Ms} {S : Sg} {Q : QE} {ta tb te tx : TE} {t u tt : TT} {r : R2} {ts tu tw : TS} {A : AEnds}
/-- x is a dict of these pairs: frozen or owned -/
noncomputable def DicA (K : Frg) (F : Hp) (ms : Ms) (x : D) (kvs : List (Key × D)) : Prop := x = .dic kvs ∨ ∃ (n : Nat) (l : Addr), x = .ref l ∧ ms[n]? = some (l, MO.dic kvs)
theorem DicA.to {x : D} {kvs : List (Key × D)} {R : Ms} {H : Hp} {v : V} (i : DicA K F ms x kvs) (hh : Hold K F (ms ++ R) H) (r : Rep K F x v) : ∃ a vs, v = .ref a ∧ H a = some (.dK vs) ∧ RepK K F kvs vs := by
  rcases i with rfl | ⟨n, l, rfl, hn⟩
  · cases r with
    | dic h q => exact ⟨_, _, rfl, hh.ex _ _ h, q⟩
  · cases r
    obtain ⟨_, vs, h, q⟩ := hh.at (get_app hn)
    exact ⟨l, vs, rfl, h, q⟩
theorem ae_din {td ty : TE} (h : AE Γ ty F ms S fun F1 ms1 y => AE Γ td F1 ms1 S fun F2 ms2 x => ∃ k kvs, keyD y = some k ∧ DicA Γ.K F2 ms2 x kvs ∧ Q F2 ms2 (.bl (valD kvs k).isSome)) : AE Γ (tDIn ty td) F ms S Q := fun R σ H Qc hs hh x k =>
  h R σ H _ hs hh x fun F1 ms1 y vy H1 e1 h1 r1 q1 => q1 R σ H1 _ (hs.mono e1) h1 (x.ex e1) fun F2 ms2 d1 v1 H2 e2 h2 r2 ⟨key, kvs, hk, hd, q⟩ => by
    obtain ⟨a, vs, rfl, ha, rk⟩ := hd.to h2 r2
    have ey := key_rep (r1.mono e2) hk
    subst ey
    refine ⟨a, _, rfl, DGet.k ha, k F2 ms2 _ _ H2 (e1.trans e2) h2 ?_ q⟩
    rcases rk.val key with ⟨z1, z2⟩ | ⟨d', v', z1, z2, _⟩
    · rw [z1, z2]; exact .bl false
    · rw [z1, z2]; exact .bl true
theorem ae_dget2 {td ty : TE} (h : AE Γ td F ms S fun F1 ms1 x => ∃ kvs, DicA Γ.K F1 ms1 x kvs ∧ AE Γ ty F1 ms1 S fun F2 ms2 y => AE Γ tx F2 ms2 S fun F3 ms3 z => ∃ k, keyD y = some k ∧ DicA Γ.K F3 ms3 x kvs ∧ Q F3 ms3 ((valD kvs k).getD z)) : AE Γ (tDGet2 td ty tx) F ms S Q := fun R σ H Qc hs hh x k =>
  h R σ H _ hs hh x fun F1 ms1 d1 v1 H1 e1 h1 r1 ⟨kvs, hd0, q1⟩ => by
    obtain ⟨a, vs, rfl, ha, rk⟩ := hd0.to h1 r1
    refine ⟨a, rfl, .inl ⟨vs, .inl ha⟩, q1 R σ H1 _ (hs.mono e1) h1 (x.ex e1) fun F2 ms2 y vy H2 e2 h2 r2 q2 => q2 R σ H2 _ (hs.mono (e1.trans e2)) h2 (x.ex (e1.trans e2)) fun F3 ms3 z vz H3 e3 h3 r3 ⟨key, hk, hd, q⟩ => ?_⟩
    obtain ⟨a', vs', ea, ha', rk'⟩ := hd.to h3 (r1.mono (e2.trans e3))
    cases ea
    have ey := key_rep (r2.mono e3) hk
    subst ey
    refine ⟨_, DGet.k ha', k F3 ms3 _ _ H3 ((e1.trans e2).trans e3) h3 ?_ q⟩
    rcases rk'.val key with ⟨z1, z2⟩ | ⟨d', v', z1, z2, z3⟩
    · rw [z1, z2]; exact r3
    · rw [z1, z2]; exact z3
theorem as_dput {td ty tv : TE} (h : AE Γ tv F ms S fun F1 ms1 v => AE Γ td F1 ms1 S fun F2 ms2 x => AE Γ ty F2 ms2 S fun F3 ms3 y => ∃ (n : Nat) (l : Addr) (kvs : List (Key × D)) (k : Key), x = .ref l ∧ ms3[n]? = some (l, .dic kvs) ∧ keyD y = some k ∧ kvs.length < 100000 ∧ A.nx F3 (ms3.set n (l, .dic (putKD kvs k v))) S) :
    AS Γ (sDPut td ty tv) F ms S A := fun R E σ H hs hh l =>
  h R σ H _ hs hh l.xe fun F1 ms1 v vv H1 e1 h1 r1 q1 => q1 R σ H1 _ (hs.mono e1) h1 (l.xe.ex e1) fun F2 ms2 x2 v2 H2 e2 h2 r2 q2 => q2 R σ H2 _ (hs.mono (e1.trans e2)) h2 (l.xe.ex (e1.trans e2)) fun F3 ms3 y vy H3 e3 h3 r3 ⟨n, a, kvs, key, hx, hn, hk, hz, q⟩ => by
    subst hx
    cases r2
    have ey := key_rep r3 hk
    subst ey
    obtain ⟨_, vs, ha, rk⟩ := h3.at (get_app hn)
    refine ⟨a, _, rfl, DPut.k ha (Evl.sz_lt (by rw [← rk.len]; exact hz)), l.nx F3 (ms3.set n (a, .dic (putKD kvs key v))) S σ _ ((e1.trans e2).trans e3) (hs.mono ((e1.trans e2).trans e3)) ?_ q⟩
    rw [← set_app hn]
    exact h3.set (get_app hn) ⟨_, upd_same, rk.put (r1.mono (e2.trans e3)) key⟩
/-! ### methods of built-in types -/
theorem ae_bmS {rm : V → List V → Hp → VK → Prop} {to : TE} {ta : TA} (h : AE Γ to F ms S fun F1 ms1 x => ∃ z, x = .str z ∧ AA Γ ta F1 ms1 S fun F2 ms2 ds => AM Γ.K "str" rm (.str z) ds F2 ms2 Q) : AE Γ (tBM Γ.K "str" rm to ta) F ms S Q := fun R σ H Qc hs hh x k =>
  h R σ H _ hs hh x fun F1 ms1 d1 v1 H1 e1 h1 r1 ⟨z, hz, q1⟩ => by
    subst hz
    cases r1
    exact ⟨rfl, q1 R σ H1 _ (hs.mono e1) h1 (x.ex e1) fun F2 ms2 ds vs H2 e2 h2 r2 q2 => q2 R _ vs H2 Qc (.str z) r2 h2 fun F3 ms3 d v H3 e3 h3 r3 q3 => k F3 ms3 d v H3 ((e1.trans e2).trans e3) h3 r3 q3⟩
/-- a list: frozen or owned, with its items -/
noncomputable def LstA (F : Hp) (ms : Ms) (x : D) (ds : List D) : Prop := (x = .lst ds ∨ x = .rdl ds) ∨ ∃ (n : Nat) (l : Addr), x = .ref l ∧ ms[n]? = some (l, MO.lst ds)
theorem LstA.to {x : D} {ds : List D} {R : Ms} {H : Hp} {v : V} (i : LstA F ms x ds) (hh : Hold K F (ms ++ R) H) (r : Rep K F x v) : ∃ a vs, v = .ref a ∧ SqL K H a vs ∧ RepL K F ds vs := by
  rcases i with hd | ⟨n, l, rfl, hn⟩
  · exact rep_l (a := 0) hd r hh.ex
  · cases r
    obtain ⟨_, vs, h, q⟩ := hh.at (get_app hn)
    exact ⟨l, vs, rfl, SqL.of h, q⟩
theorem ae_bmL {rm : V → List V → Hp → VK → Prop} {to : TE} {ta : TA} (h : AE Γ to F ms S fun F1 ms1 x => ∃ ds0, LstA F1 ms1 x ds0 ∧ AA Γ ta F1 ms1 S fun F2 ms2 ds => AM Γ.K "list" rm x ds F2 ms2 Q) : AE Γ (tBM Γ.K "list" rm to ta) F ms S Q := fun R σ H Qc hs hh x k =>
  h R σ H _ hs hh x fun F1 ms1 d1 v1 H1 e1 h1 r1 ⟨ds0, hl, q1⟩ => by
    obtain ⟨a, vs0, rfl, ha, _⟩ := hl.to h1 r1
    exact ⟨.inl ⟨rfl, _, ha⟩, q1 R σ H1 _ (hs.mono e1) h1 (x.ex e1) fun F2 ms2 ds vs H2 e2 h2 r2 q2 => q2 R _ vs H2 Qc (r1.mono e2) r2 h2 fun F3 ms3 d v H3 e3 h3 r3 q3 => k F3 ms3 d v H3 ((e1.trans e2).trans e3) h3 r3 q3⟩
theorem am_append {l : Addr} {xs : List D} {d : D} (n : Nat) (hn : ms[n]? = some (l, .lst xs)) (hz : xs.length < 100000) (q : Q F (ms.set n (l, .lst (xs ++ [d]))) .non) : AM K "list" rAppend (.ref l) [d] F ms Q := fun R u vs H Qc hu hv hh k => by
  cases hu
  cases hv with
  | cons h1 h2 =>
    cases h2
    obtain ⟨_, ys, hl, r⟩ := hh.at (get_app hn)
    refine ⟨l, ys, _, rfl, rfl, hl, Evl.sz_lt (by rw [← r.len]; exact hz), k F (ms.set n (l, .lst (xs ++ [d]))) .non _ _ Ex.refl ?_ .non q⟩
    rw [← set_app hn]
    exact hh.set (get_app hn) ⟨_, upd_same, r.append (RepL.one h1)⟩
theorem am_popAt {l : Addr} {xs : List D} {z : Int} {j : Nat} {d : D} (n : Nat) (hn : ms[n]? = some (l, .lst xs)) (hz : z = (j : Int)) (hx : xs.length ≤ 100000) (hj : xs[j]? = some d) (q : Q F (ms.set n (l, .lst (xs.eraseIdx j))) d) : AM K "list" rPopAt (.ref l) [.int z] F ms Q := fun R u vs H Qc hu hv hh k => by
  cases hu
  cases hv with
  | cons h1 h2 =>
    cases h2
    cases h1
    obtain ⟨_, ys, hl, r⟩ := hh.at (get_app hn)
    obtain ⟨v, hv, rv⟩ := r.getD hj
    have hlt : j < ys.length := (List.getElem?_eq_some_iff.mp hv).1
    have := r.len
    subst hz
    refine ⟨l, ys, (j : Int), j, v, rfl, rfl, hl, by omega, by omega, ?_, hv, k F (ms.set n (l, .lst (xs.eraseIdx j))) d v _ Ex.refl ?_ rv q⟩
    · unfold seqIndex?
      simp
      omega
    · rw [← set_app hn]
      exact hh.set (get_app hn) ⟨_, upd_same, r.eraseIdx j⟩
noncomputable def rJOIN (K : Frg) : V → List V → Hp → VK → Prop := fun x xs H Q => ∃ a p, ∃ ys : List Str, x = .str a ∧ xs = [.ref p] ∧ (SqL K H p (ys.map V.str) ∨ SqT K H p (ys.map V.str)) ∧ (ys.map (·.length)).sum + ys.length * a.length ≤ 16777216 ∧ Q (.str (Txt.join a ys)) H
theorem mt_JOIN {X : Cx} : MtR X "str.join" (rJOIN X.K) := mt_join
theorem strs_rep : ∀ {ys : List Str} {vs : List V}, RepL K F (ys.map D.str) vs → vs = ys.map V.str
  | [], _, .nil => rfl
  | y :: ys, _, .cons h r => by
    cases h
    rw [strs_rep r]
    rfl
theorem am_join {a : Str} {ys : List Str} {x : D} (hx : (x = .lst (ys.map D.str) ∨ x = .rdl (ys.map D.str)) ∨ x = .tup (ys.map D.str)) (hz : (ys.map (·.length)).sum + ys.length * a.length ≤ 1000000) (q : Q F ms (.str (Txt.join a ys))) : AM K "str" (rJOIN K) (.str a) [x] F ms Q := fun R u vs H Qc hu hv hh k => by
  cases hu
  cases hv with
  | @cons _ v1 _ _ h1 h2 =>
    cases h2
    suffices hs : ∃ p, v1 = V.ref p ∧ (SqL K H p (ys.map V.str) ∨ SqT K H p (ys.map V.str)) by
      obtain ⟨p, e, hp⟩ := hs
      exact ⟨a, p, ys, rfl, by rw [e], hp, by omega, k F ms _ _ H Ex.refl hh (.str _) q⟩
    rcases hx with hx | rfl
    · obtain ⟨p, zs, e, h3, h4⟩ := rep_l (a := 0) hx h1 hh.ex
      rw [strs_rep h4] at h3
      exact ⟨p, e, .inl h3⟩
    · cases h1 with
      | tup h3 h4 =>
        rw [strs_rep h4] at h3
        exact ⟨_, rfl, .inr (ex_t hh.ex h3)⟩
/-! ### slices -/
noncomputable def AO (Γ : Cg) (to : TO) (F : Hp) (ms : Ms) (S : Sg) (Q : Hp → Ms → Option Int → Prop) : Prop := ∀ (R : Ms) σ H (Qc : Option Int → Hp → Prop), SRep Γ.K F S σ → Hold Γ.K F (ms ++ R) H → XLe Γ R F → (∀ F' ms' o H', Ex F F' → Hold Γ.K F' (ms' ++ R) H' → Q F' ms' o → Qc o H') → to σ H Qc
theorem ao_some {Q : Hp → Ms → Option Int → Prop} (h : AE Γ te F ms S fun F' ms' d => ∃ i, d = .int i ∧ Q F' ms' (some i)) : AO Γ (tPart te) F ms S Q := fun R σ H Qc hs hh x k =>
  h R σ H _ hs hh x fun F1 ms1 d1 v1 H1 e1 h1 r1 ⟨i, hi, q⟩ => by
    subst hi
    cases r1
    exact ⟨i, rfl, k F1 ms1 (some i) H1 e1 h1 q⟩
noncomputable def ASl (K : Frg) (r : V → Option Int → Option Int → Hp → VK → Prop) (x : D) (lo hi : Option Int) (F : Hp) (ms : Ms) (Q : QE) : Prop := ∀ (R : Ms) u H (Qc : VK), Rep K F x u → Hold K F (ms ++ R) H → (∀ F' ms' d v H', Ex F F' → Hold K F' (ms' ++ R) H' → Rep K F' d v → Q F' ms' d → Qc v H') → r u lo hi H Qc
theorem ae_sl {r : V → Option Int → Option Int → Hp → VK → Prop} {tl th : TO} (h : AE Γ te F ms S fun F1 ms1 x => AO Γ tl F1 ms1 S fun F2 ms2 lo => AO Γ th F2 ms2 S fun F3 ms3 hi => ASl Γ.K r x lo hi F3 ms3 Q) : AE Γ (tSl r te tl th) F ms S Q := fun R σ H Qc hs hh x k =>
  h R σ H _ hs hh x fun F1 ms1 d1 v1 H1 e1 h1 r1 q1 => q1 R σ H1 _ (hs.mono e1) h1 (x.ex e1) fun F2 ms2 lo H2 e2 h2 q2 => q2 R σ H2 _ (hs.mono (e1.trans e2)) h2 (x.ex (e1.trans e2)) fun F3 ms3 hi H3 e3 h3 q3 =>
    q3 R v1 H3 Qc (r1.mono (e2.trans e3)) h3 fun F4 ms4 d v H4 e4 h4 r4 q4 => k F4 ms4 d v H4 (((e1.trans e2).trans e3).trans e4) h4 r4 q4
noncomputable def rSLC (K : Frg) : V → Option Int → Option Int → Hp → VK → Prop := fun x lo hi H Q => rSlL K x lo hi H Q ∨ (rSlA K x lo hi H Q ∨ rSlS x lo hi H Q)
theorem sl_SLC {X : Cx} : SlR X (rSLC X.K) := sl_list.or (sl_tupA.or sl_str)
theorem sl_S {z : Str} {lo hi : Option Int} (hz : z.length ≤ 100000) (q : Q F ms (.str (cutS z lo hi))) : ASl K (rSLC K) (.str z) lo hi F ms Q := fun R u H Qc hu hh k => by
  cases hu
  exact .inr (.inr ⟨z, rfl, Evl.sz_of hz, k F ms _ _ H Ex.refl hh (.str _) q⟩)
end
end AL

set_option Elab.async false
set_option linter.all false
set_option maxRecDepth 100000
set_option maxHeartbeats 4000000
namespace AL
open PySem PySem.Spec PyProof.Rows L2
open AutoSeq1 (wpAny_loadPart')
/-! ### enumerate of a tuple, of a text -/
noncomputable def IteT (K : Frg) (a : Addr) : It :=
  ⟨fun i H => ∃ (xs : List V) (x : V), SqT K H a xs ∧ xs[i]? = some x, fun i H v H' => ∃ T x, v = .ref T ∧ H T = none ∧ H' = upd H T (.tup [.int (i : Nat), x]) ∧ ∀ xs, SqT K H a xs → xs[i]? = some x, fun i H => ∃ xs : List V, SqT K H a xs ∧ xs.length = i⟩
theorem turn_enumT {P : Program} {w : World} {K : Frg} {elts : List Expr} {kk : Nat} {tpos : Pos} (a e it : Addr) :
    Turn P w K (.Tuple elts kk tpos) (IteT K a) [e, it] e (fun i h => (∃ old, IsEnum h e it ((i : Nat) : Int) old) ∧ h.IsTupleIter it a i ∧ e ≠ it) where
  mem := by simp
  obj := fun i h st b hb => by
    obtain ⟨⟨old, he⟩, ⟨o, ho, hc, hd⟩, _⟩ := st
    have e' : b = e ∨ b = it := by simpa using hb
    rcases e' with z | z
    · rw [z]; exact ⟨_, he, fun v q => nomatch q⟩
    · rw [z]; exact ⟨o, ho, fun v q => by rw [hd] at q; cases q⟩
  keep := fun i h h' st k => let ⟨⟨old, he⟩, hi, hne⟩ := st; ⟨⟨old, k e (by simp) _ he⟩, hi.at fun o q => k it (by simp) o q, hne⟩
  item := by
    intro X hP hw hK hc i pins s σ H E I hf st hg
    subst hP hw hK
    obtain ⟨⟨old, he⟩, hit, hne⟩ := st
    obtain ⟨xs, x, hq, hx⟩ := hg
    obtain ⟨its, rv, p, hz⟩ := I.tuple hq
    obtain ⟨u, hu, ru⟩ := rv.get hx
    have hel : e < s.heap.objs.size := Heap.lt_size he
    have hil : it < s.heap.objs.size := by obtain ⟨_, q, _⟩ := hit; exact Heap.lt_size q
    have ite : ∃ o, s.heap.get? it = some o ∧ o.cls = .type "tuple_iterator" := by obtain ⟨o, q, c, _⟩ := hit; exact ⟨o, q, c⟩
    have hta : a ≠ it := fun z => by
      obtain ⟨o, q, c⟩ := ite
      obtain ⟨o', q', c', _⟩ := id p
      rw [z, q] at q'; cases q'; rw [c] at c'; injection c' with z1; exact absurd z1 (by decide)
    have hea : e ≠ a := fun z => by
      obtain ⟨o', q', c', _⟩ := id p
      have he' := he
      rw [z] at he'
      rw [show s.heap.get? a = _ from he'] at q'
      cases q'
      injection c' with z1
      exact absurd z1 (by decide)
    have hx' : its.toArray[i]? = some u := by simpa using hu
    have hlt : i < its.toArray.size := (Array.getElem?_eq_some_iff.mp hx').1
    refine wpAny_pyNext_enum_itemD (Draws.tuple (A := X.A.in1) (I.ok.hd hc) it a hta its.toArray) he ⟨hit, p⟩ hlt hne (by simp [hne, hea]) fun y h' tk hy ho hit' hT hsz hk => ?_
    have ey : y = u := by
      have hy' : its.toArray[i]? = some y := hy
      rw [hx'] at hy'; cases hy'; rfl
    subst ey
    refine ⟨_, rfl, wpAny_letOwnedTupleGo_enum (s := { s with heap := h', toks := tk + 1 }) ho fun h'' he' sb => ?_⟩
    have hT2 : h''.get? s.heap.objs.size = some { cls := .type "tuple", data := .seq #[.int i tk, y] } := (sb.2 _ (Nat.ne_of_gt hel)).trans hT
    have new : ObjOk X.prog X.w (upd H s.heap.objs.size (.tup [.int (i : Nat), x])) h'' s.heap.objs.size (.tup [.int (i : Nat), x]) :=
      ⟨by show 2 ≤ sizeLine; decide, [.int i tk, y], .cons ⟨_, rfl⟩ (.cons ru .nil), ⟨_, hT2, rfl, _, rfl⟩⟩
    have I1 : Inv X pins σ (upd H s.heap.objs.size (.tup [.int (i : Nat), x])) { s with heap := h'', toks := tk + 1 } :=
      I.turnedNew (ch := [e, it]) (fun b ob hb q => (sb.2 b (fun z => hb (by simp [z]))).trans (hk b ob (fun z => hb (by simp [z])) (fun z => hb (by simp [z])) q)) hf (Nat.le_refl _) new
    refine ⟨.ref s.heap.objs.size, _, I1, rfl, ⟨_, x, rfl, I.hok.fresh (Nat.le_refl _), rfl, fun ys hy => by rw [I.tuple_inj hy hq]; exact hx⟩, ⟨⟨y, ?_⟩, hit'.1.at fun o q => (sb.2 it (Ne.symm hne)).trans q, hne⟩, fun b hb => ?_⟩
    · have e1 : ((i + 1 : Nat) : Int) = (i : Int) + 1 := by omega
      rw [e1]; exact he'
    · have hb' : b < s.heap.objs.size := by
        have e' : b = e ∨ b = it := by simpa using hb
        rcases e' with z | z
        · rw [z]; exact hel
        · rw [z]; exact hil
      rw [upd_ne (Nat.ne_of_lt hb')]
      exact (hf b hb).1
  done := by
    intro X hP hw hK hc i pins s σ H E I hf st hg
    subst hP hw hK
    obtain ⟨⟨old, he⟩, hit, hne⟩ := st
    obtain ⟨xs, hq, hx⟩ := hg
    obtain ⟨its, rv, p, hz⟩ := I.tuple hq
    obtain ⟨f0, f1, f2, f3, f4, f5⟩ := hf it (by simp)
    have hl := rv.length
    have hta : a ≠ it := fun z => by
      obtain ⟨o, q, c, _⟩ := hit
      obtain ⟨o', q', c', _⟩ := id p
      rw [z, q] at q'; cases q'; rw [c] at c'; injection c' with z1; exact absurd z1 (by decide)
    have hn : its.toArray.size = i := by simp; omega
    exact wpAny_pyNext_enum_endD (Draws.tuple (A := X.A.in1) (I.ok.hd hc) it a hta its.toArray) he ⟨by rw [hn]; exact hit, p⟩ fun h' eb => ⟨rfl, I.turned (t' := s.toks) (fun b o hb q => eb b o hb q) f0 f1 f3 f4 f5⟩
  self := fun A i s Q E st h => let ⟨⟨_, he⟩, _⟩ := st; wpAny_pyIter_enum he h
noncomputable def IteS (z : Str) : It :=
  ⟨fun i H => i < z.cps.size, fun i H v H' => ∃ T c, v = .ref T ∧ H T = none ∧ H' = upd H T (.tup [.int (i : Nat), .str ⟨#[c]⟩]) ∧ z.cps[i]? = some c, fun i H => i = z.cps.size⟩
theorem turn_enumS {P : Program} {w : World} {K : Frg} {elts : List Expr} {kk : Nat} {tpos : Pos} (z : Str) (t : Tok) (e it : Addr) :
    Turn P w K (.Tuple elts kk tpos) (IteS z) [e, it] e (fun i h => (∃ old, IsEnum h e it ((i : Nat) : Int) old) ∧ h.IsStrIter it (strIterType z) z t i ∧ e ≠ it) where
  mem := by simp
  obj := fun i h st b hb => by
    obtain ⟨⟨old, he⟩, ⟨o, ho, hc, hd⟩, _⟩ := st
    have e' : b = e ∨ b = it := by simpa using hb
    rcases e' with z | z
    · rw [z]; exact ⟨_, he, fun v q => nomatch q⟩
    · rw [z]; exact ⟨o, ho, fun v q => by rw [hd] at q; cases q⟩
  keep := fun i h h' st k => let ⟨⟨old, he⟩, ⟨o, ho, r⟩, hne⟩ := st; ⟨⟨old, k e (by simp) _ he⟩, ⟨o, k it (by simp) o ho, r⟩, hne⟩
  item := by
    intro X hP hw hK hc i pins s σ H E I hf st hg
    subst hP hw hK
    obtain ⟨⟨old, he⟩, hit, hne⟩ := st
    have hel : e < s.heap.objs.size := Heap.lt_size he
    have hil : it < s.heap.objs.size := by obtain ⟨_, q, _⟩ := hit; exact Heap.lt_size q
    refine wpAny_pyNext_enum_itemD (Draws.text (A := X.A.in1) (I.ok.hd hc) it z t) he hit hg hne (by simp [hne]) fun y h' tk hy ho hit' hT hsz hk => ?_
    obtain ⟨c, u, hcx, ey⟩ := hy
    subst ey
    refine ⟨_, rfl, wpAny_letOwnedTupleGo_enum (s := { s with heap := h', toks := tk + 1 }) ho fun h'' he' sb => ?_⟩
    have hT2 : h''.get? s.heap.objs.size = some { cls := .type "tuple", data := .seq #[.int i tk, .str ⟨#[c]⟩ u] } := (sb.2 _ (Nat.ne_of_gt hel)).trans hT
    have new : ObjOk X.prog X.w (upd H s.heap.objs.size (.tup [.int (i : Nat), .str ⟨#[c]⟩])) h'' s.heap.objs.size (.tup [.int (i : Nat), .str ⟨#[c]⟩]) :=
      ⟨by show 2 ≤ sizeLine; decide, [.int i tk, .str ⟨#[c]⟩ u], .cons ⟨_, rfl⟩ (.cons ⟨_, rfl⟩ .nil), ⟨_, hT2, rfl, _, rfl⟩⟩
    have I1 : Inv X pins σ (upd H s.heap.objs.size (.tup [.int (i : Nat), .str ⟨#[c]⟩])) { s with heap := h'', toks := tk + 1 } :=
      I.turnedNew (ch := [e, it]) (fun b ob hb q => (sb.2 b (fun z => hb (by simp [z]))).trans (hk b ob (fun z => hb (by simp [z])) (fun z => hb (by simp [z])) q)) hf (Nat.le_refl _) new
    refine ⟨.ref s.heap.objs.size, _, I1, rfl, ⟨_, c, rfl, I.hok.fresh (Nat.le_refl _), rfl, hcx⟩, ⟨⟨.str ⟨#[c]⟩ u, ?_⟩, ?_, hne⟩, fun b hb => ?_⟩
    · have e1 : ((i + 1 : Nat) : Int) = (i : Int) + 1 := by omega
      rw [e1]; exact he'
    · obtain ⟨o, ho, r⟩ := hit'
      exact ⟨o, (sb.2 it (Ne.symm hne)).trans ho, r⟩
    · have hb' : b < s.heap.objs.size := by
        have e' : b = e ∨ b = it := by simpa using hb
        rcases e' with z | z
        · rw [z]; exact hel
        · rw [z]; exact hil
      rw [upd_ne (Nat.ne_of_lt hb')]
      exact (hf b hb).1
  done := by
    intro X hP hw hK hc i pins s σ H E I hf st hg
    subst hP hw hK
    obtain ⟨⟨old, he⟩, hit, hne⟩ := st
    have hg' : i = z.cps.size := hg
    subst hg'
    obtain ⟨f0, f1, f2, f3, f4, f5⟩ := hf it (by simp)
    exact wpAny_pyNext_enum_endD (Draws.text (A := X.A.in1) (I.ok.hd hc) it z t) he hit fun h' eb => ⟨rfl, I.turned (t' := s.toks) (fun b o hb q => eb b o hb q) f0 f1 f3 f4 f5⟩
  self := fun A i s Q E st h => let ⟨⟨_, he⟩, _⟩ := st; wpAny_pyIter_enum he h
set_option maxHeartbeats 1000000 in
theorem meets_enumerate_newB1 {v : Value} {o : Obj} {H : Heap → Prop} (B : Begins v o H) :
    Meets (Builtin.«enumerate.__new__» ⟨[.type "enumerate", v], []⟩) (fun _ R s => H s.heap ∧
      R (.ok (.ret (.ref (s.heap.push o).objs.size))) { s with heap := (s.heap.push o).push { cls := .type "enumerate", data := .fields #[.none, .bool false, .ref s.heap.objs.size, rawInt 0, .none, .none] } }) :=
  .of_wp fun prog w A R s h => by
    obtain ⟨hp, g, d, tk, os⟩ := s; obtain ⟨h1, h⟩ := h
    have hsub := sub_enumerate
    have q1 : ∀ {A' : Around} {E : Value → Shared → Prop} {Q : Value → Shared → Prop}, Q (.ref hp.objs.size) ⟨hp.push o, g, d, tk, os⟩ → wpAny (model prog w) A' (pyIter v) Q E ⟨hp, g, d, tk, os⟩ :=
      fun q => B.iter prog w _ _ ⟨hp, g, d, tk, os⟩ _ h1 q
    wp_walk using q1
    refine wpAny_stack_any fun st => wpAny_pure ?_
    split
    · rename_i c _ _ _ _ _
      cases (c == Value.type "enumerate")
      · wp_walk using q1
        exact ⟨_, rfl, h⟩
      · wp_walk using q1
        exact ⟨_, rfl, h⟩
    · wp_walk using q1
      exact ⟨_, rfl, h⟩
noncomputable def iEnumA (K : Frg) (ta : TA) : TI := fun σ H R => ta σ H fun vs H1 => (∃ a xs, vs = [.ref a] ∧ SqL K H1 a xs ∧ R (Ite K a) H1) ∨ (∃ a xs, vs = [.ref a] ∧ SqT K H1 a xs ∧ R (IteT K a) H1) ∨ ∃ z, vs = [.str z] ∧ R (IteS z) H1
theorem pi_enumA {X : Cx} {e : Expr} {ta : TA} {p pos tpos : Pos} {elts : List Expr} {kk : Nat} (hg : Gl X "enumerate") (hm : X.mg "enumerate" = none) (ha : PA X [e] ta) (hs : starEach [e] X.env = [(false, eval e X.env)] := by rfl) :
    PI X (.Tuple elts kk tpos) (.Call (.Name "enumerate" p) [e] [] pos) (iEnumA X.K ta) := by
  refine ⟨fun pins s σ H R I h => ?_⟩
  refine Call_ (ld_blt I hg hm boot_enumerate (PyProof.Rows.callWith_type1 (thn (ha.run pos pins s σ H _ I h) fun us s1 ⟨vs, H1, I1, r1, q1⟩ => ?_) hs rfl))
  have fresh2 : ∀ b ∈ [s1.heap.objs.size + 1, s1.heap.objs.size], FpOk X pins H1 b := fun b hb => by
    have e' : b = s1.heap.objs.size + 1 ∨ b = s1.heap.objs.size := by simpa using hb
    have hle : s1.heap.objs.size ≤ b := by
      rcases e' with z | z
      · rw [z]; exact Nat.le_add_right _ _
      · rw [z]; exact Nat.le_refl _
    exact I1.fpOk hle (I1.hok.fresh hle)
  rcases q1 with ⟨a, xs, ex, hq, q⟩ | ⟨a, xs, ex, hq, q⟩ | ⟨z, ex, q⟩
  · subst ex
    cases r1 with
    | cons r rr =>
      cases rr
      cases r
      obtain ⟨its, rv, p', hz⟩ := I1.list hq
      refine call_enumerate_list p'.isList fun h' he hit hsz hk => wpAny_pyIter_enum he ?_
      have I2 : Inv X pins σ H1 { s1 with heap := h' } := I1.kept (t' := s1.toks) hk
      exact ⟨s1.heap.objs.size + 1, [s1.heap.objs.size + 1, s1.heap.objs.size], _, _, H1, rfl, I2, turn_enum a (s1.heap.objs.size + 1) s1.heap.objs.size, ⟨⟨.none, he⟩, hit, Nat.succ_ne_self _⟩, fresh2, q⟩
  · subst ex
    cases r1 with
    | cons r rr =>
      cases rr
      cases r
      obtain ⟨its, rv, p', hz⟩ := I1.tuple hq
      refine enumT p' fun h' he hit hk => wpAny_pyIter_enum he ?_
      have I2 : Inv X pins σ H1 { s1 with heap := h' } := I1.kept (t' := s1.toks) hk
      exact ⟨s1.heap.objs.size + 1, [s1.heap.objs.size + 1, s1.heap.objs.size], _, _, H1, rfl, I2, turn_enumT a (s1.heap.objs.size + 1) s1.heap.objs.size, ⟨⟨.none, he⟩, hit, Nat.succ_ne_self _⟩, fresh2, q⟩
  · subst ex
    cases r1 with
    | cons r rr =>
      cases rr
      obtain ⟨t, rfl⟩ := r
      refine call_enumerate_str fun h' he hit hsz hk => wpAny_pyIter_enum he ?_
      have I2 : Inv X pins σ H1 { s1 with heap := h' } := I1.kept (t' := s1.toks) hk
      exact ⟨s1.heap.objs.size + 1, [s1.heap.objs.size + 1, s1.heap.objs.size], _, _, H1, rfl, I2, turn_enumS z t (s1.heap.objs.size + 1) s1.heap.objs.size, ⟨⟨.none, he⟩, hit, Nat.succ_ne_self _⟩, fresh2, q⟩
where
  enumT {prog : Program} {w : World} {A : Around} {E : Value → Shared → Prop} {s : Shared} {l : Addr} {items : Array Value} {Q : Value → Shared → Prop} (hL : IsTup s.heap l items)
    (h : ∀ h', IsEnum h' (s.heap.objs.size + 1) s.heap.objs.size 0 .none → h'.IsTupleIter s.heap.objs.size l 0 → (∀ b o, s.heap.get? b = some o → h'.get? b = some o) → Q (.ref (s.heap.objs.size + 1)) { s with heap := h' }) :
    wpAny (model prog w) A (call (.type "enumerate") [.ref l]) Q E s := by
    have B := begins_tuple l items
    refine callType_new F.called_enumerate (by decide) (F.typeCall_enumerate_1 _) (F.newCall_enumerate_1 _) (fun obj => F.args_object_init_2 obj _) F.entry_enumerate_new
      (meets_enumerate_newB1 B) ⟨hL, ?_⟩
    have hz : (s.heap.push { cls := .type "tuple_iterator", data := .fields #[.ref l, .int 0 0] }).objs.size = s.heap.objs.size + 1 := Heap.size_push ..
    show _ ∧ _
    rw [hz]
    have he : IsEnum ((s.heap.push { cls := .type "tuple_iterator", data := .fields #[.ref l, .int 0 0] }).push { cls := .type "enumerate", data := .fields #[.none, .bool false, .ref s.heap.objs.size, rawInt 0, .none, .none] }) (s.heap.objs.size + 1) s.heap.objs.size 0 .none := by
      have := Heap.get?_push_size (s.heap.push { cls := .type "tuple_iterator", data := .fields #[.ref l, .int 0 0] }) (o := { cls := .type "enumerate", data := .fields #[.none, .bool false, .ref s.heap.objs.size, rawInt 0, .none, .none] }) rfl
      rw [hz] at this; exact this
    exact ⟨⟨_, he, rfl⟩, h _ he ⟨_, Heap.get?_push_of_some _ (Heap.get?_push_size _ rfl), rfl, rfl⟩ fun b o x => Heap.get?_push_of_some _ (Heap.get?_push_of_some _ x)⟩
end AL

set_option Elab.async false
set_option linter.all false
set_option maxRecDepth 100000
set_option maxHeartbeats 4000000
namespace AL
open PySem L2
noncomputable def enumD (ds : List D) : List D := ds.zipIdx.map fun p => .tup [.int (p.2 : Nat), p.1]
theorem enumD_len (ds : List D) : (enumD ds).length = ds.length := by unfold enumD; rw [List.length_map, List.length_zipIdx]
theorem enumD_get {ds : List D} {i : Nat} {d : D} (h : ds[i]? = some d) : (enumD ds)[i]? = some (.tup [.int (i : Nat), d]) := by
  unfold enumD
  rw [List.getElem?_map, List.getElem?_zipIdx, h]
  simp
section
variable {Γ : Cg} {K : Frg} {F : Hp} {ms : Ms} {S : Sg} {P : Hp → Ms → List D → (Ms → Prop) → Prop}
theorem pair_rep {R : Ms} {ms' : Ms} {F' H : Hp} {T : Addr} {d e : D} {v w : V} (hh : Hold K F' (ms' ++ R) H) (hT : H T = none) (r1 : Rep K F' d v) (r2 : Rep K F' e w) :
    ∃ F'', Ex F' F'' ∧ Hold K F'' (ms' ++ R) (upd H T (.tup [v, w])) ∧ Rep K F'' (.tup [d, e]) (.ref T) := by
  obtain ⟨e1, h1⟩ := hh.laid (.tup [v, w]) hT
  exact ⟨_, e1, h1, .tup (SqT.of upd_same) (.cons (r1.mono e1) (.cons (r2.mono e1) .nil))⟩
theorem ai_enum {ta : TA} (h : AA Γ ta F ms S fun F1 ms1 xs => (∃ ds : List D, xs = [.lst ds] ∧ P F1 ms1 (enumD ds) fun _ => True) ∨ (∃ ds : List D, xs = [.tup ds] ∧ P F1 ms1 (enumD ds) fun _ => True) ∨ ∃ z, xs = [.str z] ∧ P F1 ms1 (enumD (charsD z)) fun _ => True) : AI Γ (iEnumA Γ.K ta) F ms S P := fun R σ H Rc hs hh x k =>
  h R σ H _ hs hh x fun F1 ms1 xs vs H1 e1 h1 r1 q => by
    rcases q with ⟨ds, hx, p⟩ | ⟨ds, hx, p⟩ | ⟨z, hx, p⟩
    · subst hx
      cases r1 with
      | cons a b =>
        cases b
        cases a with
        | @lst a ys _ ha rl =>
          refine .inl ⟨a, ys, rfl, SqL.of (h1.ex _ _ ha), k F1 ms1 _ (fun _ => True) _ H1 e1 h1 ⟨fun _ i H' F' ms' hi e' hh' _ => ?_, fun _ H' F' ms' e' hh' _ => ?_, fun _ i H' x' H2 F' ms' hi e' hh' _ y => ?_⟩ p⟩
          · rw [enumD_len] at hi
            exact ⟨ys, ys[i]'(by rw [← rl.len]; exact hi), SqL.of (hh'.ex _ _ (e' _ _ ha)), by simp [show i < ys.length by rw [← rl.len]; exact hi]⟩
          · exact ⟨ys, SqL.of (hh'.ex _ _ (e' _ _ ha)), by rw [enumD_len, rl.len]; exact Nat.le_refl _⟩
          · obtain ⟨T, w, y1, y2, y3, y4⟩ := y
            subst y1 y3
            obtain ⟨d, hd, rd⟩ := rl.get (y4 ys (SqL.of (hh'.ex _ _ (e' _ _ ha))))
            obtain ⟨F'', e2, h2, r2⟩ := pair_rep hh' y2 (.int (i : Nat)) (rd.mono e')
            exact ⟨F'', _, e2, h2, enumD_get hd, r2⟩
    · subst hx
      cases r1 with
      | cons a b =>
        cases b
        cases a with
        | @tup a ys _ ha rl =>
          refine .inr (.inl ⟨a, ys, rfl, ex_t h1.ex ha, k F1 ms1 _ (fun _ => True) _ H1 e1 h1 ⟨fun _ i H' F' ms' hi e' hh' _ => ?_, fun _ H' F' ms' e' hh' _ => ?_, fun _ i H' x' H2 F' ms' hi e' hh' _ y => ?_⟩ p⟩)
          · rw [enumD_len] at hi
            exact ⟨ys, ys[i]'(by rw [← rl.len]; exact hi), ex_t hh'.ex (ex_t e' ha), by simp [show i < ys.length by rw [← rl.len]; exact hi]⟩
          · exact ⟨ys, ex_t hh'.ex (ex_t e' ha), by rw [enumD_len, rl.len]⟩
          · obtain ⟨T, w, y1, y2, y3, y4⟩ := y
            subst y1 y3
            obtain ⟨d, hd, rd⟩ := rl.get (y4 ys (ex_t hh'.ex (ex_t e' ha)))
            obtain ⟨F'', e2, h2, r2⟩ := pair_rep hh' y2 (.int (i : Nat)) (rd.mono e')
            exact ⟨F'', _, e2, h2, enumD_get hd, r2⟩
    · subst hx
      cases r1 with
      | cons a b =>
        cases b
        cases a
        have hl : (charsD z).length = z.cps.size := by unfold charsD; rw [List.length_map, Array.length_toList]
        refine .inr (.inr ⟨z, rfl, k F1 ms1 _ (fun _ => True) _ H1 e1 h1 ⟨fun _ i H' F' ms' hi e' hh' _ => ?_, fun _ H' F' ms' e' hh' _ => ?_, fun _ i H' x' H2 F' ms' hi e' hh' _ y => ?_⟩ p⟩)
        · rw [enumD_len, hl] at hi; exact hi
        · show (enumD (charsD z)).length = z.cps.size
          rw [enumD_len, hl]
        · obtain ⟨T, c, y1, y2, y3, y4⟩ := y
          subst y1 y3
          obtain ⟨F'', e2, h2, r2⟩ := pair_rep hh' y2 (.int (i : Nat)) (.str ⟨#[c]⟩)
          refine ⟨F'', _, e2, h2, enumD_get ?_, r2⟩
          unfold charsD
          rw [List.getElem?_map, Array.getElem?_toList, y4]
          rfl
end
/-! ### static methods -/
/-- C.m is a staticmethod: its record at p, its def at g -/
structure SMet (K : Frg) (C : Addr) (mc : Value) (m : Str) (p g : Addr) : Prop where
  rd : PySem.W.readsIn K C mc = true
  ga : PySem.W.specialIn K (.ref C) "__getattribute__" = some (some (.builtin "type.__getattribute__"))
  at_ : PySem.W.findCls K (.ref C) mc m = some (.get (.builtin "staticmethod.__get__") (.ref p) .none (.ref C))
  rc : ∃ rest, PySem.W.recIn K p "staticmethod" = some (.ref g :: rest)
/-- .. reached through an instance of C -/
structure SInst (K : Frg) (C : Addr) (m : Str) (p g : Addr) : Prop where
  pg : PySem.W.plainGet K C Str.empty = true
  ic : PySem.W.isClsIn K C = true
  at_ : PySem.W.findIn K (.ref C) m = some (some (.ref p))
  ty : PySem.W.typeIn K (.ref p) = some (.type "staticmethod")
  get : PySem.W.specialIn K (.ref p) "__get__" = some (some (.builtin "staticmethod.__get__"))
  tk : PySem.W.takesIn K (.ref p) = some false
  cp : PySem.W.copiedNames.contains m = false
  rc : ∃ rest, PySem.W.recIn K p "staticmethod" = some (.ref g :: rest)
/-- e.m(..), e the class at C, m a static method -/
noncomputable def tSMeth (C : Addr) (sp : Sp) (E : XK) (ta : TE) (t : TA) : TE := fun σ H Q => ta σ H fun x H1 => x = .ref C ∧ t σ H1 fun vs H2 => sp vs H2 Q E
/-- o.m(..), o an instance of the class at C -/
noncomputable def tSMethI (C : Addr) (m : Str) (sp : Sp) (E : XK) (ta : TE) (t : TA) : TE := fun σ H Q => ta σ H fun x H1 => ∃ a dx fs, x = .ref a ∧ H1 a = some (.ins C dx fs) ∧ fs.lookup m = none ∧ t σ H1 fun vs H2 => sp vs H2 Q E
section
variable {X : Cx} {CX : CXT} {k : Nat} {f C p g : Addr} {mc : Value} {fd : FuncData} {ps : List Str} {sp : Sp} {E : XK} {m : Str} {pos apos : Pos} {e o : Expr} {es : List Expr} {ta : TE} {t : TA}
theorem pe_smeth {pl : Sem Bool} (he : PE X o ta) (c : SMet X.K C mc m p g) (hk : PySem.W.keepIn X.K (.ref g) = true) (F : FnOk X.prog X.w X.K X.mg X.base CX k g fd ps sp) (hr : Room k X.A) (hb : Binds X.K fd ps []) (hx : Passes CX X E) (ha : PA X (e :: es) t)
    (hst : starEach (e :: es) X.env = (false, eval e X.env) :: starEach es X.env := by rfl) (hpl : (backTo pos (starEach es X.env)).any (·.1) = false := by rfl)
    (ht : eval (.Call (.Attribute o m apos) (e :: es) [] pos) X.env = (do
      let ov ← eval o X.env
      standAt apos.atName
      let (f, first) ← holding [ov] (getMethod ov m pl)
      callWith pos f first (backTo pos (starEach (e :: es) X.env)) (backToKw pos (keywordEach [] X.env))) := by rfl) :
    PE X (.Call (.Attribute o m apos) (e :: es) [] pos) (tSMeth C sp E ta t) := by
  refine ⟨fun pins s σ H Q I h => ?_⟩
  refine PySem.W.methodCall_KW (pl := pl) (thn (he.run pins s σ H _ I h) fun u s1 ⟨x, H1, I1, rx, ex, q⟩ => ?_) ht
  subst ex
  obtain rfl : u = Value.ref C := rx
  obtain ⟨rest, hp⟩ := c.rc
  refine PySem.W.method_cls I1.kIn c.ga (PySem.W.cls_bind I1.kIn c.rd c.at_ (wpAny_call (PySem.W.sm_get (s := { s1 with toks := s1.toks + 1 }) I1.kIn hp (PySem.W.handed_on rfl ?_))))
  have I2 := I1.tok (s1.toks + 1)
  refine PySem.W.callWith_K (first := []) (h₀ := X.base) I.ok.mod.kin hk (thn (ha.run pos pins _ σ H1 _ I2 q) fun us s2 ⟨vs, H2, I2, r, q2⟩ => ⟨I2.kIn, ?_⟩) hst hpl
  exact run_fn (us := us) (vs := vs) (dvs := []) (ds := []) F hr hb .nil hx I2 r (by rw [List.append_nil]; exact q2)
theorem pe_smethI {pl : Sem Bool} (he : PE X o ta) (c : SInst X.K C m p g) (hk : PySem.W.keepIn X.K (.ref g) = true) (F : FnOk X.prog X.w X.K X.mg X.base CX k g fd ps sp) (hr : Room k X.A) (hb : Binds X.K fd ps []) (hx : Passes CX X E) (ha : PA X (e :: es) t)
    (hst : starEach (e :: es) X.env = (false, eval e X.env) :: starEach es X.env := by rfl) (hpl : (backTo pos (starEach es X.env)).any (·.1) = false := by rfl)
    (ht : eval (.Call (.Attribute o m apos) (e :: es) [] pos) X.env = (do
      let ov ← eval o X.env
      standAt apos.atName
      let (f, first) ← holding [ov] (getMethod ov m pl)
      callWith pos f first (backTo pos (starEach (e :: es) X.env)) (backToKw pos (keywordEach [] X.env))) := by rfl) :
    PE X (.Call (.Attribute o m apos) (e :: es) [] pos) (tSMethI C m sp E ta t) := by
  refine ⟨fun pins s σ H Q I h => ?_⟩
  refine PySem.W.methodCall_KW (pl := pl) (thn (he.run pins s σ H _ I h) fun u s1 ⟨x, H1, I1, rx, a, dx, fs, ex, ea, l, q⟩ => ?_) ht
  subst ex
  obtain rfl : u = Value.ref a := rx
  obtain ⟨rest, hp⟩ := c.rc
  obtain ⟨mA, O, rel, _, _, _⟩ := ins_get I1.hok ea
  obtain ⟨od, J, hl⟩ := O.look
  have z : mA m = none := RelO.none_of (by have q := rel m; rw [l] at q; exact q)
  have hn : PySem.W.lookIn m od = some none := by rw [hl m, z]
  refine PySem.W.method_usual (r := some (.ref p)) I1.kIn J (PySem.W.plainGet_of (show PySem.W.plainGet X.K C m = true from c.pg)).1 (PySem.W.plainGet_of (show PySem.W.plainGet X.K C m = true from c.pg)).2 c.at_ ?_ ?_
  · show ((PySem.W.typeIn X.K (.ref p)).any fun t => t != .type "function" && t != .type "method_descriptor" && t != .type "wrapper_descriptor") = true
    rw [c.ty]
    first
    | rfl
    | decide +kernel
  · refine PySem.W.get_bind I1.kIn J (PySem.W.plainGet_of (show PySem.W.plainGet X.K C m = true from c.pg)).1 (ClX.find_cm c.ic c.at_ c.get c.tk c.cp hn) (PySem.W.plainGet_of (show PySem.W.plainGet X.K C m = true from c.pg)).2 ?_
    refine wpAny_call (PySem.W.sm_get (s := { s1 with toks := s1.toks + 1 }) I1.kIn hp (PySem.W.handed_on rfl ?_))
    have I2 := I1.tok (s1.toks + 1)
    refine PySem.W.callWith_K (first := []) (h₀ := X.base) I.ok.mod.kin hk (thn (ha.run pos pins _ σ H1 _ I2 q) fun us s2 ⟨vs, H2, I2, r, q2⟩ => ⟨I2.kIn, ?_⟩) hst hpl
    exact run_fn (us := us) (vs := vs) (dvs := []) (ds := []) F hr hb .nil hx I2 r (by rw [List.append_nil]; exact q2)
end
section
variable {Γ : Cg} {K : Frg} {F : Hp} {ms : Ms} {S : Sg} {Q : QE} {ta : TE} {ta' : TA} {C : Addr} {m : Str} {sp : ASp}
theorem ae_smethI (h : AE Γ ta F ms S fun F1 ms1 x => ∃ a fs, x = .ref a ∧ InsA Γ.K F1 ms1 a C fs ∧ fs.lookup m = none ∧ AA Γ ta' F1 ms1 S fun F2 ms2 ds => sp ds F2 ms2 Q Γ.Ea) : AE Γ (tSMethI C m (toSp Γ.K sp) Γ.E ta ta') F ms S Q := fun R σ H Qc hs hh x k =>
  h R σ H _ hs hh x fun F1 ms1 d1 v1 H1 e1 h1 r1 ⟨a, fs, hx, hi, hl, q⟩ => by
    subst hx
    cases r1
    obtain ⟨dx, gs, i1, i2, i3⟩ := hi.to h1
    exact ⟨a, dx, gs, rfl, i1, i3.lookN hl, q R σ H1 _ (hs.mono e1) h1 (x.ex e1) fun F2 ms2 ds vs H2 e2 h2 r2 q2 => ⟨F2, ms2, R, ds, Q, Γ.Ea, h2, r2, q2, fun F' ms' d v H' e => k F' ms' d v H' ((e1.trans e2).trans e), x.ex (e1.trans e2)⟩⟩
end
end AL

set_option Elab.async false
set_option linter.all false
set_option maxRecDepth 100000
set_option maxHeartbeats 4000000
/-! Rules whose reading names the fragment K outright (so they may stand under binders), and a few more. -/
namespace AL
open PySem L2 PyProof.Rows
section
variable {X : Cx} {K : Frg}
theorem kADD (h : X.K = K) : OpR X (binaryOp .Add) (rADD K) := h ▸ op_ADD
theorem kMUL (h : X.K = K) : OpR X (binaryOp .Mult) (rMUL K) := h ▸ op_MUL
theorem kEQ (h : X.K = K) (hu : X.A.units + 64 < cLine) : OpR X (compareOp .Eq) (rEQ K) := h ▸ op_EQ hu
theorem kNE (h : X.K = K) (hu : X.A.units + 64 < cLine) : OpR X (compareOp .NotEq) (rNE K) := h ▸ op_NE hu
theorem kIN (h : X.K = K) : OpR X (compareOp .In) (rIN K) := h ▸ op_INN
theorem kIX (h : X.K = K) : IxR X (rIx K) := h ▸ ix_seq
theorem kSLC (h : X.K = K) : SlR X (rSLC K) := h ▸ sl_SLC
theorem kLEN (h : X.K = K) : CallR X (.builtin "len") (rLEN K) := h ▸ call_LEN
theorem kLIST (h : X.K = K) (hc : X.calm = true) : CallR X (.type "list") (rLIST K) := h ▸ call_LIST hc
theorem kTUPLE (h : X.K = K) : CallR X (.type "tuple") (rTUPLE K) := h ▸ call_TUPLE
theorem kALL (h : X.K = K) (hc : X.calm = true) : CallR X (.builtin "all") (rAll K) := h ▸ cr_all hc
theorem kISI (h : X.K = K) : CallR X (.builtin "isinstance") (rIsi K) := h ▸ call_isi
theorem kJOIN (h : X.K = K) : MtR X "str.join" (rJOIN K) := h ▸ mt_JOIN
variable {e o : Expr} {es : List Expr} {f name : Str} {pos apos cpos p2 : Pos} {ta te to : TE} {t : TA} {T id : String} {r : V → List V → Hp → VK → Prop} {tg : Expr}
theorem pe_fldk (h : X.K = K) (he : PE X e ta) (hb : attributeBase e f X.env (eval e X.env) = eval e X.env) : PE X (.Attribute e f pos) (tFld K ta f) := h ▸ pe_fld he hb
theorem pe_bmk (h : X.K = K) (pa : PlainAttrs T) (slot : Slot T name id) (hty : typeOf (.builtin id) = pure (.type "method_descriptor")) (hm : MtR X id r) (ho : PE X o to) (ha : PA X (e :: es) t)
    (hbase : attributeBase o name X.env (eval o X.env) = eval o X.env := by rfl)
    (hfew : ((backTo cpos (starEach (e :: es) X.env)).all (fun x => !x.1) && (backToKw cpos (keywordEach [] X.env)).all (fun x => x.1.isSome)
      && decide ((e :: es).length + ([] : List Keyword).length + (if ([] : List Keyword).isEmpty then 0 else 1) < 30)) = true := by rfl)
    (hline : (apos.endLine == cpos.line) = true := by rfl) (hs : starEach (e :: es) X.env = (false, eval e X.env) :: starEach es X.env := by rfl) (hplain : (backTo cpos (starEach es X.env)).any (·.1) = false := by rfl) :
    PE X (.Call (.Attribute o name apos) (e :: es) [] cpos) (tBM K T r to t) := h ▸ pe_bm pa slot hty hm ho ha hbase hfew hline hs hplain
theorem pi_listk (h : X.K = K) (he : PE X e ta) : PI X tg e (iList K ta) := h ▸ pi_list he
theorem pi_tupk (h : X.K = K) (he : PE X e ta) : PI X tg e (iTup K ta) := h ▸ pi_tup he
end
section
variable {Γ : Cg} {K : Frg} {F : Hp} {ms : Ms} {S : Sg} {Q : QE} {ta tb tc : TE} {r r' : R2}
theorem ae_chain (h : AE Γ ta F ms S fun F1 ms1 x => AE Γ tb F1 ms1 S fun F2 ms2 y => AR Γ.K r x y F2 ms2 fun F3 ms3 z => ∃ k, z = .bl k ∧ (k = true → AE Γ tc F3 ms3 S fun F4 ms4 w => AR Γ.K r' y w F4 ms4 Q) ∧ (k = false → Q F3 ms3 (.bl false))) :
    AE Γ (tChain r r' ta tb tc) F ms S Q := fun R σ H Qc hs hh x k =>
  h R σ H _ hs hh x fun F1 ms1 d1 v1 H1 e1 h1 r1 q1 => q1 R σ H1 _ (hs.mono e1) h1 (x.ex e1) fun F2 ms2 d2 v2 H2 e2 h2 r2 q2 =>
    q2 R v1 v2 H2 _ (r1.mono e2) r2 h2 fun F3 ms3 d3 v3 H3 e3 h3 r3 ⟨b, hb, qt, qf⟩ => by
      subst hb
      cases r3
      refine ⟨b, rfl, ?_⟩
      have e13 := (e1.trans e2).trans e3
      cases b with
      | true =>
        rw [if_pos rfl]
        exact qt rfl R σ H3 _ (hs.mono e13) h3 (x.ex e13) fun F4 ms4 d4 v4 H4 e4 h4 r4 q4 => q4 R v2 v4 H4 _ (r2.mono (e3.trans e4)) r4 h4 fun F5 ms5 d v H5 e5 => k F5 ms5 d v H5 ((e13.trans e4).trans e5)
      | false =>
        rw [if_neg (by decide)]
        exact k F3 ms3 _ _ H3 e13 h3 (.bl false) (qf rfl)
theorem ac_all {bs : List Bool} {d : D} (hd : d = .lst (bs.map D.bl)) (q : Q F ms (.bl (bs.all id))) : AC K (rAll K) [d] F ms Q := ac1 fun R v H Qc hv hh k => by
  subst hd
  obtain ⟨a, vs, rfl, hl, rl⟩ : ∃ a vs, v = .ref a ∧ F a = some (.lst vs) ∧ RepL K F (bs.map D.bl) vs := by
    cases hv with
    | lst h r => exact ⟨_, _, rfl, h, r⟩
  have hvs : vs = bs.map V.bl := by
    clear q hl hv hh k
    induction bs generalizing vs with
    | nil => cases rl; rfl
    | cons b bs ih =>
      cases rl with
      | cons h r => cases h; rw [ih _ r]; rfl
  subst hvs
  exact ⟨a, bs, rfl, SqL.of (hh.ex _ _ hl), k F ms _ _ H Ex.refl hh (.bl _) q⟩
end
/-- a def with defaults, that raises nothing -/
theorem fn_okD {P : Program} {w : World} {K : Frg} {mg : Str → Option Value} {base : Heap} {x qual : Str} {st : Stmt} {f : Addr} {fd : FuncData} {N ps : List Str} {dvs : List V} {kws : List (Str × V)} {k : Nat} {sp : ASp} (F : FunD K x qual (defArgs st) (defBody st) (defScope st) dvs kws f fd) (Sc : FnScope N ps (defScope st)) (len : ∀ ds F ms Q E, sp ds F ms Q E → ds.length = ps.length)
    (hbody : ∀ (cdv : Value) (A : Around) (outer : List Env) (s : Shared) (H : Hp) (E : XK), Room k (A.deeper (PyProof.Rows.envOfC qual (defScope st) s.heap.objs.size f cdv)) → ∃ t, PSs (cxOf CX0 P w K mg base N qual (defScope st) f cdv A outer s H E).nox (defBody st) t ∧
      ∀ ds F ms Q Ea, sp ds F ms Q Ea → AS ⟨K, E0, fun _ _ _ _ => False⟩ t F ms (startS N ds) { nx := fun F' ms' _ => Q F' ms' .non, rt := Q }) : FnOk P w K mg base CX0 (k + 1) f fd ps (toSp K sp) := by
  refine F.ok Sc (fun vs H Q E h => ?_) (fun cdv A outer s H vs Q E hr h => ?_)
  · obtain ⟨F0, ms, R, ds, Qa, Ea, h1, h2, h3, _⟩ := h
    rw [← h2.len]
    exact len _ _ _ _ _ h3
  · obtain ⟨F0, ms, R, ds, Qa, Ea, h1, h2, h3, h4, h5⟩ := h
    obtain ⟨t, ht, q⟩ := hbody cdv A outer s H E hr
    refine ⟨t, ht.nox, q ds F0 ms Qa Ea h3 R _ _ H (start_rep h2) h1 ⟨fun _ _ _ _ _ _ _ _ _ z => z.elim, fun F' ms' S' σ' H' e a b q' => h4 F' ms' .non .non H' e b .non q', fun F' ms' d v H' e b r q' => h4 F' ms' d v H' e b r q', fun _ _ _ _ _ _ _ _ z => z.elim, fun _ _ _ _ _ _ _ _ z => z.elim⟩⟩
end AL

set_option Elab.async false
set_option linter.all false
set_option maxRecDepth 100000
set_option maxHeartbeats 4000000
namespace AL
open PySem L2 PyProof.Rows
section
variable {Γ : Cg} {K : Frg} {F : Hp} {ms : Ms} {S : Sg} {Q : QE} {ta tb te tx : TE} {t u tt : TT} {r : R2} {ts tu tw : TS} {A : AEnds} {g : TG} {wi : TI} {vs : List Nat}
theorem isi_non_int (q : Q F ms (.bl false)) : AC K (rIsi K) [.non, .ty "int"] F ms Q := ac_isi (b := false) (by show ("NoneType" : String) ≠ ""; decide) (by intro ds h; cases h) (by show kitB "NoneType" "int" = some false; decide +kernel) q
theorem isi_non_str (q : Q F ms (.bl false)) : AC K (rIsi K) [.non, .ty "str"] F ms Q := ac_isi (b := false) (by show ("NoneType" : String) ≠ ""; decide) (by intro ds h; cases h) (by show kitB "NoneType" "str" = some false; decide +kernel) q
theorem isi_bl_bool {b0 : Bool} (q : Q F ms (.bl true)) : AC K (rIsi K) [.bl b0, .ty "bool"] F ms Q := ac_isi (b := true) (by show ("bool" : String) ≠ ""; decide) (by intro ds h; cases h) (by show kitB "bool" "bool" = some true; decide +kernel) q
theorem isi_bl_int {b0 : Bool} (q : Q F ms (.bl true)) : AC K (rIsi K) [.bl b0, .ty "int"] F ms Q := ac_isi (b := true) (by show ("bool" : String) ≠ ""; decide) (by intro ds h; cases h) (by show kitB "bool" "int" = some true; decide +kernel) q
theorem isi_bl_str {b0 : Bool} (q : Q F ms (.bl false)) : AC K (rIsi K) [.bl b0, .ty "str"] F ms Q := ac_isi (b := false) (by show ("bool" : String) ≠ ""; decide) (by intro ds h; cases h) (by show kitB "bool" "str" = some false; decide +kernel) q
theorem isi_int_bool {i : Int} (q : Q F ms (.bl false)) : AC K (rIsi K) [.int i, .ty "bool"] F ms Q := ac_isi (b := false) (by show ("int" : String) ≠ ""; decide) (by intro ds h; cases h) (by show kitB "int" "bool" = some false; decide +kernel) q
theorem isi_int_int {i : Int} (q : Q F ms (.bl true)) : AC K (rIsi K) [.int i, .ty "int"] F ms Q := ac_isi (b := true) (by show ("int" : String) ≠ ""; decide) (by intro ds h; cases h) (by show kitB "int" "int" = some true; decide +kernel) q
theorem isi_int_str {i : Int} (q : Q F ms (.bl false)) : AC K (rIsi K) [.int i, .ty "str"] F ms Q := ac_isi (b := false) (by show ("int" : String) ≠ ""; decide) (by intro ds h; cases h) (by show kitB "int" "str" = some false; decide +kernel) q
theorem isi_str_str {z : Str} (q : Q F ms (.bl true)) : AC K (rIsi K) [.str z, .ty "str"] F ms Q := ac_isi (b := true) (by show ("str" : String) ≠ ""; decide) (by intro ds h; cases h) (by show kitB "str" "str" = some true; decide +kernel) q
theorem isi_tup_str {ds : List D} (q : Q F ms (.bl false)) : AC K (rIsi K) [.tup ds, .ty "str"] F ms Q := ac_isi (b := false) (by show ("tuple" : String) ≠ ""; decide) (by intro ds h; cases h) (by show kitB "tuple" "str" = some false; decide +kernel) q
theorem isi_tup_tuple {ds : List D} (q : Q F ms (.bl true)) : AC K (rIsi K) [.tup ds, .ty "tuple"] F ms Q := ac_isi (b := true) (by show ("tuple" : String) ≠ ""; decide) (by intro ds h; cases h) (by show kitB "tuple" "tuple" = some true; decide +kernel) q
theorem isi_dic_dict {kv : List (Key × D)} (q : Q F ms (.bl true)) : AC K (rIsi K) [.dic kv, .ty "dict"] F ms Q := ac_isi (b := true) (by show ("dict" : String) ≠ ""; decide) (by intro ds h; cases h) (by show kitB "dict" "dict" = some true; decide +kernel) q
theorem and_T {A B : Prop} (h : A) : (true = true → A) ∧ (true = false → B) := ⟨fun _ => h, fun z => Bool.noConfusion z⟩
theorem and_F {A B : Prop} (h : B) : (false = true → A) ∧ (false = false → B) := ⟨fun z => Bool.noConfusion z, fun _ => h⟩
theorem and_F' {A B : Prop} (h : B) : (false = false → B) ∧ (false = true → A) := ⟨fun _ => h, fun z => Bool.noConfusion z⟩
end
/-! ### the start of a law -/
theorem start_law {K : Frg} {H : Hp} {a : Addr} {ns : List Int} {sp : ASp} (hS : SqL K H a (ns.map V.int)) (hq : ∀ F ms, sp [.rdl (ns.map D.int)] F ms (fun _ _ d => d = .bl true) fun _ _ _ _ => False) : toSp K sp [.ref a] H (fun v _ => v = .bl true) fun _ _ _ => False := by
  refine ⟨H, [], [], [.rdl (ns.map D.int)], _, _, ⟨Ex.refl, fun p hp => (List.not_mem_nil hp).elim, List.nodup_nil⟩, .cons (.rdl hS ?_) .nil, hq H [], fun F' ms' d v H' _ _ r e => ?_, fun _ _ _ _ _ _ _ _ _ z => z.elim⟩
  · clear hS hq
    induction ns with
    | nil => exact .nil
    | cons i ns ih => exact .cons (.int i) ih
  · subst e
    cases r
    rfl
end AL

set_option Elab.async false
set_option linter.all false
set_option maxRecDepth 100000
set_option maxHeartbeats 4000000
namespace AL
open PySem L2 PyProof.Rows
section
variable {Γ : Cg} {K : Frg} {F : Hp} {ms : Ms} {S : Sg} {Q : QE} {ta tb te tx : TE} {t u tt : TT} {r : R2} {ts tu tw : TS} {A : AEnds} {g : TG} {wi : TI} {vs : List Nat}
theorem as_cut (P : QS) (h1 : AS Γ ts F ms S { A with nx := P }) (h2 : ∀ F' ms' S', Ex F F' → P F' ms' S' → AS Γ tu F' ms' S' A) : AS Γ (tSeq ts tu) F ms S A :=
  as_seq (h1.mono (fun F' ms' S' e q => h2 F' ms' S' e q) (fun _ _ _ _ q => q) (fun _ _ _ _ q => q) (fun _ _ _ _ q => q))
/-- own[i] = value -/
theorem as_subO {to ti : TE} (h : AE Γ te F ms S fun F0 ms0 d => AE Γ to F0 ms0 S fun F1 ms1 o => AE Γ ti F1 ms1 S fun F2 ms2 i => ∃ (n : Nat) (l : Addr) (ds : List D) (z : Int) (j : Nat), o = .ref l ∧ i = .int z ∧ ms2[n]? = some (l, .lst ds) ∧ ixN ds.length z = some j ∧ A.nx F2 (ms2.set n (l, .lst (ds.set j d))) S) :
    AS Γ (tAsg te (gSub to ti rSetL)) F ms S A := as_asgG (h.mono fun F0 ms0 d e q => ag_subO q)
end
theorem ixN_of {n j : Nat} {z : Int} (hz : z = (j : Int)) (h : j < n) : ixN n z = some j := by
  subst hz
  unfold ixN
  rw [if_pos (by omega), if_pos (by omega)]
  simp
theorem atI_of {α : Type} {xs : List α} {j : Nat} {z : Int} {d : α} (hz : z = (j : Int)) (h : xs[j]? = some d) : atI xs z = some d := by
  unfold atI
  rw [ixN_of hz (List.getElem?_eq_some_iff.mp h).1]
  exact h
theorem ixN_neg {n j : Nat} {z : Int} (hz : z + (n : Int) = (j : Int)) (h : j < n) (h0 : z < 0) : ixN n z = some j := by
  unfold ixN
  rw [if_neg (by omega), if_pos (by omega), hz]
  simp
theorem atI_neg {α : Type} {xs : List α} {j : Nat} {z : Int} {d : α} (hz : z + (xs.length : Int) = (j : Int)) (h : xs[j]? = some d) (h0 : z < 0) : atI xs z = some d := by
  unfold atI
  rw [ixN_neg hz (List.getElem?_eq_some_iff.mp h).1 h0]
  exact h
theorem set_get {ms : Ms} {k : Nat} {p : Addr × MO} (h : k < ms.length) : (ms.set k p)[k]? = some p := by rw [List.getElem?_set_self h]
theorem set_set {ms : Ms} {k : Nat} {p q : Addr × MO} : (ms.set k p).set k q = ms.set k q := by simp
theorem set_same {ms : Ms} {k : Nat} {p : Addr × MO} (h : ms[k]? = some p) : ms.set k p = ms := by
  apply List.ext_getElem?
  intro j
  rw [List.getElem?_set]
  by_cases e : k = j
  · subst e; rw [if_pos rfl, h]; rw [if_pos (List.getElem?_eq_some_iff.mp h).1]
  · rw [if_neg e]
end AL

set_option Elab.async false
set_option linter.all false
set_option maxRecDepth 100000
set_option maxHeartbeats 4000000
namespace AL
open PySem L2 PyProof.Rows StX
section
variable {Γ : Cg} {K : Frg} {F : Hp} {ms : Ms} {S : Sg} {Q : QE} {ta tb te tx tv : TE} {t u tt : TT} {r : R2} {ts tu tw : TS} {A : AEnds} {g : TG} {wi : TI} {vs : List Nat}
noncomputable def rSIX : V → List V → Hp → VK → Prop := fun x xs H Q => ∃ a b i rest, x = .str a ∧ xs = [.str b] ∧ Builtin.Str.occurrences a b 0 a.length 1 = i :: rest ∧ Q (.int (i : Nat)) H
theorem rep_ints {ns : List Int} {vs : List V} (h : RepL K F (ns.map D.int) vs) : vs = ns.map V.int := by
  induction ns generalizing vs with
  | nil => cases h; rfl
  | cons n ns ih =>
    cases h with
    | cons a b => cases a; rw [ih b]; rfl
theorem rep_strs {ns : List Str} {vs : List V} (h : RepL K F (ns.map D.str) vs) : vs = ns.map V.str := by
  induction ns generalizing vs with
  | nil => cases h; rfl
  | cons n ns ih =>
    cases h with
    | cons a b => cases a; rw [ih b]; rfl
theorem kSUM {X : Cx} (h : X.K = K) (hc : X.calm = true) : CallR X (.builtin "sum") (rSum K) := h ▸ cr_sum hc
theorem ac_sumL {ns : List Int} (q : Q F ms (.int ns.sum)) : AC K (rSum K) [.lst (ns.map D.int)] F ms Q := ac1 fun R v H Qc hv hh k => by
  cases hv with
  | lst h r =>
    have e := rep_ints r
    subst e
    exact ⟨_, ns, rfl, SqL.of (hh.ex _ _ h), k F ms _ _ H Ex.refl hh (.int _) q⟩
noncomputable def rangeC (lo c : Int) (n : Nat) : List D := (List.range n).map fun i => .int (lo + (i : Nat) * c)
end
end AL

set_option Elab.async false
set_option linter.all false
set_option maxRecDepth 100000
set_option maxHeartbeats 4000000
namespace AL
open PySem L2 PyProof.Rows
/-! ### a, *b = a list -/
noncomputable def gStar (K : Frg) (t : TGs) : TG := fun v σ H Q => ∃ l x xs, v = .ref l ∧ SqL K H l (x :: xs) ∧ xs.length ≤ 10000 ∧ ∀ p, H p = none → t [x, .ref p] σ (upd H p (.lst xs)) Q
section
variable {Γ : Cg} {K : Frg} {F : Hp} {ms : Ms} {S : Sg} {Q : QE} {ta tb te tx tv : TE} {t u tt : TT} {r : R2} {ts tu tw : TS} {A : AEnds} {g : TG} {gs : TGs} {wi : TI} {vs : List Nat}
end
end AL

set_option Elab.async false
set_option linter.all false
set_option maxRecDepth 100000
set_option maxHeartbeats 4000000
namespace AL
open PySem L2 PyProof.Rows
open PySem.Builtin.Str PySem.StrLaws RZ
/-! ### split at one sign, at most twice -/
noncomputable def ostep (s sub : Str) (hi limit : Nat) (st : Array Nat × Nat) (i : Nat) : Array Nat × Nat :=
  if ((st.fst.size < limit ∧ st.snd ≤ i) ∧ i + sub.length ≤ hi) ∧ subAt s sub i = true then (st.fst.push i, i + sub.length) else (st.fst, st.snd)
section
variable {Γ : Cg} {K : Frg} {F : Hp} {ms : Ms} {S : Sg} {Q : QE} {ta tb te tx tv : TE} {A : AEnds} {P : Hp → Ms → List D → (Ms → Prop) → Prop}
noncomputable def rSPL : V → List V → Hp → VK → Prop := fun x xs H Q => ∃ a b, x = .str a ∧ xs = [.str b] ∧ (b.length == 0) = false ∧ a.length + 2 ≤ sizeLine ∧ rNewStrs (Txt.split a b) H Q
noncomputable def rSPM : V → List V → Hp → VK → Prop := fun x xs H Q => ∃ (a b : Str) (k : Int), x = .str a ∧ xs = [.str b, .int k] ∧ (b.length == 0) = false ∧ -(2 ^ 63) ≤ k ∧ k < 2 ^ 63 ∧ a.length + 2 ≤ sizeLine ∧ rNewStrs (Txt.splitMax a b k) H Q
theorem rep_strl (ys : List Str) : RepL K F (ys.map D.str) (ys.map V.str) := by
  induction ys with
  | nil => exact .nil
  | cons y ys ih => exact .cons (.str y) ih
/-- zip of two tuples of one length -/
noncomputable def zipD (xs ys : List D) : List D := (xs.zip ys).map fun p => .tup [p.1, p.2]
end
theorem pg_tupk {X : Cx} {K : Frg} {es : List Expr} {k : Nat} {t : TGs} {n : Nat} {pos : Pos} (hK : X.K = K) (hc : X.calm = true) (h : PGs X es t)
    (hn : (assignEach es X.env).length = n := by rfl) (hst : (assignEach es X.env).findIdx? (·.1) = none := by rfl) : PG X (.Tuple es k pos) (gTup K n t) := hK ▸ pg_tup hc h hn hst
end AL

set_option Elab.async false
set_option linter.all false
set_option maxRecDepth 100000
set_option maxHeartbeats 4000000
namespace AL
open PySem L2 PyProof.Rows
section
variable {Γ : Cg} {K : Frg} {F : Hp} {ms : Ms} {S : Sg} {Q : QE}
end
end AL

set_option Elab.async false
set_option linter.all false
set_option maxRecDepth 100000
set_option maxHeartbeats 4000000
/-! Dicts walked over (under a lock), sorted, in, min and max, one new dict by a comprehension. -/
namespace AL
open PySem L2 PyProof.Rows
noncomputable def kD : Key → D
  | .inl i => .int i
  | .inr s => .str s
theorem rep_kD {K : Frg} {F : Hp} (k : Key) : Rep K F (kD k) (kV k) := by
  cases k with
  | inl i => exact .int i
  | inr s => exact .str s
theorem RepK.getK {K : Frg} {F : Hp} : ∀ {ds : List (Key × D)} {vs : List (Key × V)} {i : Nat} {k : Key} {v : V}, RepK K F ds vs → vs[i]? = some (k, v) → ∃ d, ds[i]? = some (k, d) ∧ Rep K F d v
  | _, _, i, _, _, .nil, e => by simp at e
  | _, _, 0, _, _, .cons h r, e => by
    cases e
    exact ⟨_, rfl, h⟩
  | _, _, i + 1, _, _, .cons h r, e => RepK.getK (i := i) r (by simpa using e)
theorem RepK.lenK {K : Frg} {F : Hp} : ∀ {ds : List (Key × D)} {vs : List (Key × V)}, RepK K F ds vs → ds.length = vs.length
  | _, _, .nil => rfl
  | _, _, .cons _ r => by rw [List.length_cons, List.length_cons, RepK.lenK r]
section
variable {Γ : Cg} {K : Frg} {F : Hp} {ms : Ms} {S : Sg} {Q : QE} {ta tb te tx tv td : TE} {t u tt : TT} {r : R2} {ts tu tw : TS} {A : AEnds} {g : TG} {wi : TI} {vs : List Nat} {P : Hp → Ms → List D → (Ms → Prop) → Prop}
/-- the owned dict at l is locked: what stands at l while it is -/
noncomputable def Lck (ms : Ms) (l : Addr) (vs : List (Key × V)) : Prop := ∃ (n : Nat) (od : Obj), ms[n]? = some (l, .raw (.frz od (.dK vs)))
/-- the lock goes -/
noncomputable def unl (K : Frg) (l : Addr) (kvs : List (Key × D)) (vs : List (Key × V)) (od : Obj) (ms : Ms) (P : Ms → Prop) : Prop := ∃ m : Nat, ms[m]? = some (l, .raw (.frz od (.dK vs))) ∧ P (ms.set m (l, .dic kvs))
theorem as_lock {l : Addr} {kvs : List (Key × D)} (n : Nat) (hn : ms[n]? = some (l, .dic kvs)) (h : ∀ od vs, RepK Γ.K F kvs vs → AS Γ ts F (ms.set n (l, .raw (.frz od (.dK vs)))) S { nx := fun F' ms' S' => unl Γ.K l kvs vs od ms' fun m => A.nx F' m S', rt := fun F' ms' d => unl Γ.K l kvs vs od ms' fun m => A.rt F' m d, bk := fun F' ms' S' => unl Γ.K l kvs vs od ms' fun m => A.bk F' m S', ct := fun F' ms' S' => unl Γ.K l kvs vs od ms' fun m => A.ct F' m S' }) :
    AS Γ (tLock ts) F ms S A := fun R E σ H hs hh le => by
  obtain ⟨_, vs, hd, rk⟩ := hh.at (get_app hn)
  refine ⟨l, .dK vs, hd, trivial, fun od => h od vs rk R _ σ _ hs ?_ ⟨le.xe, ?_, ?_, ?_, ?_⟩⟩
  · rw [← set_app hn]
    exact hh.set (get_app hn) upd_same
  · rintro F' ms' S' σ' H' e a b ⟨m, hm, q⟩
    refine ⟨(b.at (get_app hm)).2, le.nx F' _ S' σ' _ e a ?_ q⟩
    rw [← set_app hm]
    exact b.set (get_app hm) ⟨vs, upd_same, rk.mono e⟩
  · rintro F' ms' d v H' e b r ⟨m, hm, q⟩
    refine ⟨(b.at (get_app hm)).2, le.rt F' _ d v _ e ?_ r q⟩
    rw [← set_app hm]
    exact b.set (get_app hm) ⟨vs, upd_same, rk.mono e⟩
  · rintro F' ms' S' σ' H' e a b ⟨m, hm, q⟩
    refine ⟨(b.at (get_app hm)).2, le.bk F' _ S' σ' _ e a ?_ q⟩
    rw [← set_app hm]
    exact b.set (get_app hm) ⟨vs, upd_same, rk.mono e⟩
  · rintro F' ms' S' σ' H' e a b ⟨m, hm, q⟩
    refine ⟨(b.at (get_app hm)).2, le.ct F' _ S' σ' _ e a ?_ q⟩
    rw [← set_app hm]
    exact b.set (get_app hm) ⟨vs, upd_same, rk.mono e⟩
theorem ae_lock {l : Addr} {kvs : List (Key × D)} (n : Nat) (hn : ms[n]? = some (l, .dic kvs)) (h : ∀ od vs, RepK Γ.K F kvs vs → AE Γ te F (ms.set n (l, .raw (.frz od (.dK vs)))) S fun F' ms' d => unl Γ.K l kvs vs od ms' fun m => Q F' m d) :
    AE Γ (tLockE te) F ms S Q := fun R σ H Qc hs hh x k => by
  obtain ⟨_, vs, hd, rk⟩ := hh.at (get_app hn)
  refine ⟨l, .dK vs, hd, trivial, fun od => h od vs rk R σ _ _ hs ?_ x ?_⟩
  · rw [← set_app hn]
    exact hh.set (get_app hn) upd_same
  · rintro F' ms' d v H' e b r ⟨m, hm, q⟩
    refine ⟨(b.at (get_app hm)).2, k F' _ d v _ e ?_ r q⟩
    rw [← set_app hm]
    exact b.set (get_app hm) ⟨vs, upd_same, rk.mono e⟩
noncomputable def itemsD (kvs : List (Key × D)) : List D := kvs.map fun p => .tup [kD p.1, p.2]
noncomputable def keysD (kvs : List (Key × D)) : List D := kvs.map fun p => kD p.1
/-- for .. in o.items(), o an owned dict under the lock -/
theorem ai_items (h : AE Γ td F ms S fun F1 ms1 x => ∃ (l : Addr) (od : Obj) (vs : List (Key × V)) (kvs : List (Key × D)) (n : Nat), x = .ref l ∧ ms1[n]? = some (l, .raw (.frz od (.dK vs))) ∧ RepK Γ.K F1 kvs vs ∧ P F1 ms1 (itemsD kvs) fun ms' => ∃ n : Nat, ms'[n]? = some (l, .raw (.frz od (.dK vs)))) :
    AI Γ (iItems td) F ms S P := fun R σ H Rc hs hh x k =>
  h R σ H _ hs hh x fun F1 ms1 d v H1 e1 h1 r1 ⟨l, od, vs, kvs, n, hx, hn, rk, p⟩ => by
    subst hx
    cases r1
    refine ⟨l, od, vs, rfl, (h1.at (get_app hn)).2, k F1 ms1 _ _ _ H1 e1 h1 ⟨fun _ i H' F' ms' hi e' hh' ⟨n', hn'⟩ => ?_, fun _ H' F' ms' e' hh' ⟨n', hn'⟩ => ?_, fun _ i H' x' H2 F' ms' hi e' hh' ⟨n', hn'⟩ y => ?_⟩ p⟩
    · refine ⟨(hh'.at (get_app hn')).2, ?_⟩
      unfold itemsD at hi
      rw [List.length_map, rk.lenK] at hi
      exact hi
    · refine ⟨(hh'.at (get_app hn')).2, ?_⟩
      unfold itemsD
      rw [List.length_map, rk.lenK]
      exact Nat.le_refl _
    · obtain ⟨T, key, v, y1, y2, y3, y4⟩ := y
      subst y2 y4
      obtain ⟨d, hd, rd⟩ := rk.getK y1
      obtain ⟨F'', e2, h2, r2⟩ := pair_rep hh' y3 (rep_kD key) (rd.mono e')
      refine ⟨F'', _, e2, h2, ?_, r2⟩
      unfold itemsD
      rw [List.getElem?_map, hd]
      rfl
theorem ai_keys (h : AE Γ td F ms S fun F1 ms1 x => ∃ (l : Addr) (od : Obj) (vs : List (Key × V)) (kvs : List (Key × D)) (n : Nat), x = .ref l ∧ ms1[n]? = some (l, .raw (.frz od (.dK vs))) ∧ RepK Γ.K F1 kvs vs ∧ P F1 ms1 (keysD kvs) fun ms' => ∃ n : Nat, ms'[n]? = some (l, .raw (.frz od (.dK vs)))) :
    AI Γ (iKeys td) F ms S P := fun R σ H Rc hs hh x k =>
  h R σ H _ hs hh x fun F1 ms1 d v H1 e1 h1 r1 ⟨l, od, vs, kvs, n, hx, hn, rk, p⟩ => by
    subst hx
    cases r1
    refine ⟨l, od, rfl, .inl ⟨vs, (h1.at (get_app hn)).2, k F1 ms1 _ _ _ H1 e1 h1 ⟨fun _ i H' F' ms' hi e' hh' ⟨n', hn'⟩ => ?_, fun _ H' F' ms' e' hh' ⟨n', hn'⟩ => ?_, fun _ i H' x' H2 F' ms' hi e' hh' ⟨n', hn'⟩ y => ?_⟩ p⟩⟩
    · refine ⟨(hh'.at (get_app hn')).2, ?_⟩
      unfold keysD at hi
      rw [List.length_map, rk.lenK] at hi
      exact hi
    · refine ⟨(hh'.at (get_app hn')).2, ?_⟩
      unfold keysD
      rw [List.length_map, rk.lenK]
      exact Nat.le_refl _
    · obtain ⟨y0, key, v, y1, y2⟩ := y
      subst y0 y2
      obtain ⟨d, hd, rd⟩ := rk.getK y1
      refine ⟨F', _, Ex.refl, hh', ?_, rep_kD key⟩
      unfold keysD
      rw [List.getElem?_map, hd]
      rfl
/-! ### sorted -/
noncomputable def rSRT (K : Frg) : List V → Hp → VK → Prop := fun xs H Q => rSorted K xs H Q ∨ rSortedS K xs H Q
end
end AL

set_option Elab.async false
set_option linter.all false
set_option maxRecDepth 100000
set_option maxHeartbeats 4000000
namespace AL
open PySem L2 PyProof.Rows
section
variable {Γ : Cg} {K : Frg} {F : Hp} {ms : Ms} {S : Sg} {Q : QE} {ta tb te tx tv tk td : TE} {t u tt tt1 : TT} {r : R2} {ts tu tw : TS} {A : AEnds} {g g1 : TG} {wi wi1 : TI} {vs vs1 : List Nat} {P : Hp → Ms → List D → (Ms → Prop) → Prop}
/-- {k: v for ..}: a new owned dict -/
theorem ae_dc (hg : GW g vs) (gm : ∀ v σ H N N', (∀ σ2 H2, N σ2 H2 → N' σ2 H2) → g v σ H N → g v σ H N') (h : AI Γ wi F ms S fun F1 ms1 ds G => ∃ I : Nat → Hp → Ms → List (Key × D) → Prop, I 0 F1 ms1 [] ∧ (∀ i F' ms' acc, Ex F1 F' → I i F' ms' acc → G ms') ∧
    (∀ i d F' ms' acc, Ex F1 F' → ds[i]? = some d → I i F' ms' acc → ∀ F'', Ex F' F'' → AG Γ.nox g d F'' ms' (wipeS S vs) fun F2 ms2 S2 => AT Γ.nox tt F2 ms2 S2 fun F3 ms3 b => (b = true → AE Γ.nox tk F3 ms3 S2 fun F4 ms4 y => ∃ key, keyD y = some key ∧ AE Γ.nox tv F4 ms4 S2 fun F5 ms5 z => acc.length < 100000 ∧ I (i + 1) F5 ms5 (putKD acc key z)) ∧ (b = false → I (i + 1) F3 ms3 acc)) ∧
    (∀ F' ms' acc, Ex F1 F' → I ds.length F' ms' acc → ∀ l, Q F' ((l, .dic acc) :: ms') (.ref l))) : AE Γ (tDc wi g tt tk tv vs) F ms S Q := fun R σ H Qc hs hh x k =>
  h R σ H _ hs hh x fun F1 ms1 ds G J H1 e1 h1 it ⟨I, i0, iG, ib, ie⟩ => by
    intro D hD
    refine ⟨fun i m H' => m = ds.length - i ∧ i ≤ ds.length ∧ ∃ F' ms' acc, Ex F1 F' ∧ Hold Γ.K F' (ms' ++ (D, .dic acc) :: R) H' ∧ I i F' ms' acc, ⟨_, rfl, Nat.zero_le _, F1, ms1, [], Ex.refl, ?_, i0⟩, ?_⟩
    · exact (h1.made (m := .dic []) hD ⟨[], upd_same, .nil⟩).perm List.perm_middle
    rintro i m H' ⟨rfl, hi, F', ms', acc, e', hh', p⟩
    have hG := iG i F' ms' acc e' p
    by_cases hlt : i < ds.length
    · refine .inr ⟨it.goes _ i H' F' ms' hlt e' hh' hG, fun H2 => ∃ F2 ms2 acc2, Ex F1 F2 ∧ Hold Γ.K F2 (ms2 ++ (D, .dic acc2) :: R) H2 ∧ I (i + 1) F2 ms2 acc2, fun H2 ⟨F2, ms2, acc2, e2, b2, q2⟩ => ⟨ds.length - (i + 1), by omega, rfl, hlt, F2, ms2, acc2, e2, b2, q2⟩, fun x H2 y => ?_⟩
      obtain ⟨F2, d, e2, hh2, hd, hr⟩ := it.yields _ i H' x H2 F' ms' hlt e' hh' hG y
      refine gm x _ H2 _ _ (fun σ2 H3 z => ⟨z.2, z.1⟩) (hg x _ H2 _ _ (wipe_wipe σ vs) ?_)
      refine ib i d F' ms' acc e' hd p F2 e2 _ x (L2.wipe σ vs) H2 _ hr (((hs.mono e1).mono (e'.trans e2)).wipe vs) hh2 xle0 fun F3 ms3 S3 σ3 H3 e3 a3 b3 q3 => ?_
      refine q3 _ σ3 H3 _ a3 b3 xle0 fun F4 ms4 b H4 e4 b4 q4 => ?_
      cases b with
      | true =>
        refine q4.1 rfl _ σ3 H4 _ (a3.mono e4) b4 xle0 fun F5 ms5 d5 v5 H5 e5 b5 r5 ⟨key, hk, q5⟩ => ?_
        have ek := key_rep r5 hk
        subst ek
        refine q5 _ σ3 H5 _ ((a3.mono e4).mono e5) b5 xle0 fun F6 ms6 d6 v6 H6 e6 b6 r6 q6 => ?_
        obtain ⟨_, vs6, hl, rl⟩ := b6.at mid_get
        refine ⟨vs6, key, rfl, hl, Evl.sz_lt (by rw [← rl.lenK]; exact q6.1), F6, ms6, putKD acc key d6, ((((e'.trans e2).trans e3).trans e4).trans e5).trans e6, ?_, q6.2⟩
        have := b6.set (m' := .dic (putKD acc key d6)) (o := .dK (putK vs6 key v6)) mid_get ⟨_, upd_same, rl.put r6 key⟩
        rw [mid_set] at this
        exact this
      | false => exact ⟨F4, ms4, acc, ((e'.trans e2).trans e3).trans e4, b4, q4.2 rfl⟩
    · have ei : i = ds.length := by omega
      subst ei
      refine .inl ⟨it.stops _ H' F' ms' e' hh' hG, ?_⟩
      exact k F' ((D, .dic acc) :: ms') (.ref D) _ H' (e1.trans e') (hh'.perm List.perm_middle.symm) (.ref D) (ie F' ms' acc e' p D)
/-! ### in, of texts -/
end
end AL

set_option Elab.async false
set_option linter.all false
set_option maxRecDepth 100000
set_option maxHeartbeats 4000000
/-! zip of two texts -/
namespace AL
open PySem PySem.Spec PySem.W PyProof.Rows L2
noncomputable def IteZ (x y : Str) : It :=
  ⟨fun i H => i < x.cps.size ∧ i < y.cps.size, fun i H v H' => ∃ T c d, v = .ref T ∧ H T = none ∧ H' = upd H T (.tup [.str ⟨#[c]⟩, .str ⟨#[d]⟩]) ∧ x.cps[i]? = some c ∧ y.cps[i]? = some d, fun i H => i ≤ x.cps.size ∧ i ≤ y.cps.size ∧ (i = x.cps.size ∨ i = y.cps.size)⟩
noncomputable def iZipS (ta : TA) : TI := fun σ H R => ta σ H fun vs H1 => ∃ x y, vs = [.str x, .str y] ∧ R (IteZ x y) H1
section
variable {Γ : Cg} {K : Frg} {F : Hp} {ms : Ms} {S : Sg} {P : Hp → Ms → List D → (Ms → Prop) → Prop}
end
end AL

set_option Elab.async false
set_option linter.all false
set_option maxRecDepth 100000
set_option maxHeartbeats 4000000
/-! sum(d.values()) -/
namespace AL
open PySem PySem.Spec PyProof.Rows L2
noncomputable def tSumVals (td : TE) : TE := fun σ H Q => td σ H fun x H1 => ∃ (a : Addr) (kvs : List (Key × V)) (is : List Int), x = V.ref a ∧ H1 a = some (.dK kvs) ∧ kvs.map (·.2) = is.map V.int ∧ Q (.int is.sum) H1
section
variable {Γ : Cg} {F : Hp} {ms : Ms} {S : Sg} {Q : QE} {td : TE}
end
end AL

set_option Elab.async false
set_option linter.all false
set_option maxRecDepth 100000
set_option maxHeartbeats 4000000
/-! a comprehension of two loops -/
namespace AL
open PySem L2 PyProof.Rows
section
variable {Γ : Cg} {K : Frg} {F : Hp} {ms : Ms} {S : Sg} {Q : QE} {te : TE} {tt tt1 : TT} {g g1 : TG} {wi wi1 : TI} {vs vs1 : List Nat}
end
end AL

set_option Elab.async false
set_option linter.all false
set_option maxRecDepth 100000
set_option maxHeartbeats 4000000
/-! tuples of ints compared, list(range(n)) -/
namespace AL
open PySem L2 PyProof.Rows
section
variable {Γ : Cg} {K : Frg} {F : Hp} {ms : Ms} {S : Sg} {Q : QE} {ta : TE}
theorem kLTT {X : Cx} (h : X.K = K) (hu : X.A.units + 64 < cLine) : OpR X (compareOp .Lt) (rLtT K) := h ▸ op_ltT (by omega)
end
end AL

set_option Elab.async false
set_option linter.all false
set_option maxRecDepth 100000
set_option maxHeartbeats 4000000
/-! owned lists that freeze at an operator; plain lists compared -/
namespace AL
open PySem L2 PyProof.Rows
section
variable {K : Frg} {F : Hp} {ms : Ms} {Q : QE} {r : R2}
end
theorem as_norm {Γ : Cg} {ts : TS} {F : Hp} {ms : Ms} {S S' : Sg} {A : AEnds} (e : S = S') (h : AS Γ ts F ms S' A) : AS Γ ts F ms S A := e ▸ h
theorem okS {x : Str} (h : ∀ c ∈ x.cps.toList, c < 128) : okD (.str x) = true := by
  show x.cps.all (· < 0x110000) = true
  rw [← Array.all_toList, List.all_eq_true]
  intro c hc
  have := h c hc
  simp
  omega
end AL

set_option Elab.async false
set_option linter.all false
set_option maxRecDepth 100000
set_option maxHeartbeats 4000000
/-! sorted(set(a list of texts or of ints)) -/
namespace AL
open PySem PySem.Spec L2 PyProof.Rows
theorem nodup_le {β : Type} [DecidableEq β] : ∀ {l U : List β}, l.Nodup → (∀ x ∈ l, x ∈ U) → l.length ≤ U.length
  | [], U, _, _ => Nat.zero_le _
  | b :: l, U, h, s => by
    have ha := s b List.mem_cons_self
    have hn := List.nodup_cons.mp h
    have ih := nodup_le (l := l) (U := U.erase b) hn.2 fun x hx => (List.mem_erase_of_ne (fun e : x = b => hn.1 (by rw [← e]; exact hx))).mpr (s x (List.mem_cons_of_mem _ hx))
    rw [List.length_erase_of_mem ha] at ih
    have := List.length_pos_of_mem ha
    rw [List.length_cons]
    omega
/-- the keys of a set -/
structure KS (P : Program) (w : World) (α : Type) [DecidableEq α] where
  knd : PySem.KeyKind P w α
  val : α → Tok → Value
  kf : Value → α
  is : ∀ k t, knd.is k (val k t) = true
  sc : ∀ k t, (val k t).scannable = true
  kfm : ∀ k t, kf (val k t) = k
noncomputable def ksI (P : Program) (w : World) : KS P w Int := ⟨intKind P w, Value.int, fun v => match v with | .int k _ => k | _ => 0, fun k t => intKind_is P w k t, fun _ _ => rfl, fun _ _ => rfl⟩
noncomputable def ksS (P : Program) (w : World) : KS P w Str := ⟨PySem.strKind P w, Value.str, fun v => match v with | .str k _ => k | _ => Str.empty, fun k t => strKind_is P w k t, fun _ _ => rfl, fun _ _ => rfl⟩
section
variable {P : Program} {w : World} {α : Type} [DecidableEq α] (c : KS P w α)
noncomputable def KS.Good (e : Int × Value) : Prop := ∃ k t, e.2 = c.val k t ∧ e.1 = c.knd.hash k
noncomputable def KS.key (e : Int × Value) : α := c.kf e.2
/-- a set at a: made of these keys -/
noncomputable def KS.At (h : Heap) (a : Addr) (ks : List α) : Prop :=
  ∃ o es ep t, h.get? a = some o ∧ o.ExactSet ∧ o.data = .set es ep t ∧ (∀ e ∈ es.toList, c.Good e) ∧ (es.toList.map c.key).Nodup ∧ (∀ k, k ∈ ks ↔ k ∈ es.toList.map c.key) ∧
    es.size < scanBound ∧ t.fits es.size = true ∧ es.size ≤ ks.length ∧ Ris t.place.toList ∧ (w.params.followText "set-order" = true ∨ t.led = true)
variable {c}
theorem KS.At.keep {h h' : Heap} {a : Addr} {ks : List α} (x : c.At h a ks) (k : ∀ o, h.get? a = some o → h'.get? a = some o) : c.At h' a ks := by
  obtain ⟨o, es, ep, t, ho, r⟩ := x
  exact ⟨o, es, ep, t, k o ho, r⟩
theorem KS.elems {l : List (Int × Value)} (g : ∀ e ∈ l, c.Good e) : ElemsOf c.knd l := fun e he => by
  obtain ⟨k, t, h1, h2⟩ := g e he
  exact ⟨⟨k, by rw [h1]; exact c.is k t, h2⟩, by rw [h1]; exact c.sc k t⟩
theorem KS.good_is {e : Int × Value} (g : c.Good e) (k : α) : c.knd.is k e.2 = true ↔ c.key e = k := by
  obtain ⟨k0, t, h1, _⟩ := g
  unfold KS.key
  rw [h1, c.kfm]
  exact ⟨fun h => (c.knd.inj _ _ _ h (c.is k0 t)).symm, fun h => h ▸ c.is k0 t⟩
theorem KS.mem {l : List (Int × Value)} (g : ∀ e ∈ l, c.Good e) (k : α) : k ∈ l.map c.key ↔ ∃ e ∈ l, c.knd.is k e.2 = true := by
  rw [List.mem_map]
  exact ⟨fun ⟨e, he, q⟩ => ⟨e, he, (KS.good_is (g e he) k).2 q⟩, fun ⟨e, he, q⟩ => ⟨e, he, (KS.good_is (g e he) k).1 q⟩⟩
section
variable {A : Around} {E : Value → Shared → Prop} {s : Shared} {a : Addr} {ks : List α}
theorem KS.tail {gv : Bool → Sem Unit} (hgv : ∀ (b : Bool) (u : Shared) (Y : Unit → Shared → Prop), Y () u → wpAny (model P w) A (gv b) Y E u)
    {o : Obj} {es : Array (Int × Value)} {ep : Nat} {t : SetTable} (ho : s.heap.get? a = some o) (hex : o.ExactSet) (hd : o.data = .set es ep t)
    {es1 : Array (Int × Value)} {t2 : SetTable} {ks' : List α} (g1 : ∀ e ∈ es1.toList, c.Good e) (nd1 : (es1.toList.map c.key).Nodup) (m1 : ∀ k, k ∈ ks' ↔ k ∈ es1.toList.map c.key)
    (hb1 : es1.size < scanBound) (hf2 : t2.fits es1.size = true) (hz : es1.size ≤ ks'.length) (hr : Ris t2.place.toList) (hl : w.params.followText "set-order" = true ∨ t2.led = true) {wasDummy : Bool} {Y : Option Bool → Shared → Prop}
    (hY : ∀ h', Heap.SameBut a s.heap h' → c.At h' a ks' → Y (some true) { s with heap := h' }) :
    wpAny (model P w) A (do
        storeSet a es1 t2
        if (!wasDummy && t2.tooFull) = true then do
            gv (relayAll t2 es1 (SetTable.grown es1.size)).2.2
            storeSet a (relayAll t2 es1 (SetTable.grown es1.size)).1 (relayAll t2 es1 (SetTable.grown es1.size)).2.1
            pure (some true)
          else pure (some true)) Y E s := by
  refine wpAny_bind (wpAny_storeSet_of ho hd ?_ (fits_of_scanBound hb1))
  have at1 := store_at (es' := es1) (t' := t2) ho hd
  have same1 := Heap.SameBut.update s.heap a (Obj.putSet es1 t2)
  by_cases hfull : (!wasDummy && t2.tooFull) = true
  · rw [if_pos hfull]
    have perm := relayAll_perm t2 es1 (SetTable.grown es1.size)
    have fit3 := relayAll_fits t2 es1 (SetTable.grown es1.size)
    have ris3 := relayAll_ris t2 es1 (SetTable.grown es1.size)
    have led3 := relayAll_led t2 es1 (SetTable.grown es1.size)
    generalize relayAll t2 es1 (SetTable.grown es1.size) = Z at perm fit3 ris3 led3 ⊢
    obtain ⟨es2, t3, gave⟩ := Z
    dsimp only at perm fit3 ris3 led3 ⊢
    have size2 : es2.size = es1.size := by rw [← Array.length_toList, perm.length_eq, Array.length_toList]
    have small2 : es2.size < scanBound := by rw [size2]; exact hb1
    refine wpAny_bind (hgv _ _ _ ?_)
    refine wpAny_bind (wpAny_storeSet_of at1 rfl ?_ (fits_of_scanBound small2))
    have at2 := store_at (es' := es2) (t' := t3) at1 rfl
    exact wpAny_pure (hY _ (same1.trans (Heap.SameBut.update _ a _)) ⟨_, es2, _, t3, at2, hex, rfl, fun e he => g1 e (perm.mem_iff.mp he), (perm.map c.key).nodup_iff.mpr nd1, fun k => (m1 k).trans (perm.map c.key).mem_iff.symm, small2, fit3, by rw [size2]; exact hz, ris3, hl.imp id fun z => by rw [led3]; exact z⟩)
  · rw [if_neg hfull]
    exact wpAny_pure (hY _ same1 ⟨_, es1, _, t2, at1, hex, rfl, g1, nd1, m1, hb1, hf2, hz, hr, hl⟩)
theorem KS.add {k : α} {tk : Tok} {Y : Bool → Shared → Prop} {U : List α} (R : c.At s.heap a ks) (hU : ∀ j ∈ ks, j ∈ U) (room : U.length + 1 < scanBound)
    (hY : ∀ b h', Heap.SameBut a s.heap h' → c.At h' a (ks ++ [k]) → Y b { s with heap := h' }) :
    wpAny (model P w) A (setAddHashed a (c.val k tk) (c.knd.hash k)) Y E s := by
  obtain ⟨o, es, ep, t, ho, hex, hd, g, nd, hm, hb, hf, hn, hr, hl⟩ := R
  have hbU : es.size ≤ U.length := by
    have z := nodup_le nd fun j hj => hU j ((hm j).2 hj)
    rw [List.length_map, Array.length_toList] at z
    exact z
  have here : c.knd.is k (c.val k tk) = true := c.is k tk
  have scan : (c.val k tk).scannable = true := c.sc k tk
  have els : ElemsOf c.knd es.toList := KS.elems g
  unfold setAddHashed setAddHashedIn
  refine wpAny_holding (wpAny_bind (wpAny_setState_of ho hd hf ?_))
  dsimp only
  rw [byScan_of scan hb els]
  simp only [↓reduceIte]
  unfold setAddByScan
  refine wpAny_bind (wpAny_bind (wpAny_rule (wpAny_bind (wpAny_setScan_of here ho hd hf els ?_))))
  have mem' : ∀ i, i ∈ ks ++ [k] ↔ (i ∈ ks ∨ i = k) := fun i => by rw [List.mem_append, List.mem_singleton]
  cases hfi : List.findIdx? (fun e => c.knd.is k e.2) es.toList with
  | some j =>
    dsimp only
    obtain ⟨hj, pj, _⟩ := List.findIdx?_eq_some_iff_getElem.mp hfi
    have hin : k ∈ ks := (hm k).2 ((KS.mem g k).2 ⟨es.toList[j], List.getElem_mem hj, pj⟩)
    refine wpAny_pure (wpAny_pure (hY _ s.heap (Heap.SameBut.refl a s.heap) ⟨o, es, ep, t, ho, hex, hd, g, nd, fun i => ?_, hb, hf, by rw [List.length_append]; omega, hr, hl⟩))
    rw [mem' i, ← hm i]
    exact ⟨fun z => z.elim id (fun e => e ▸ hin), .inl⟩
  | none =>
    dsimp only
    have hnk : k ∉ es.toList.map c.key := fun z => by
      obtain ⟨e, he, q⟩ := (KS.mem g k).1 z
      have := List.findIdx?_eq_none_iff.mp hfi e he
      rw [q] at this
      cases this
    have hgw : ∀ (b : Bool) {u : Shared} {Y' : Unit → Shared → Prop}, Y' () u → wpAny (model P w) A (match b with | true => rule "set.scan.the-table-gave-way" | false => pure ()) Y' E u :=
      fun b u Y' q => by cases b; exact wpAny_pure q; exact wpAny_rule q
    have perm := layNew_perm t es (c.knd.hash k) (c.val k tk)
    have fit1 := layNew_fits t es (c.knd.hash k) (c.val k tk)
    have ris1 := layNew_ris t es (c.knd.hash k) (c.val k tk) hr
    have led1 := layNew_led t es (c.knd.hash k) (c.val k tk)
    generalize layNew t es (c.knd.hash k) (c.val k tk) = Z at perm fit1 ris1 led1 ⊢
    obtain ⟨es1, t1, wasDummy, gave⟩ := Z
    dsimp only at perm fit1 ris1 led1 ⊢
    rw [Array.toList_push] at perm
    have pc : es1.toList.Perm ((c.knd.hash k, c.val k tk) :: es.toList) := perm.trans (List.perm_append_singleton _ _)
    have pk : (es1.toList.map c.key).Perm (k :: es.toList.map c.key) := by
      have := pc.map c.key
      rw [List.map_cons, show c.key (c.knd.hash k, c.val k tk) = k from c.kfm k tk] at this
      exact this
    have g1 : ∀ e ∈ es1.toList, c.Good e := fun e he => by
      rcases List.mem_cons.mp (pc.mem_iff.mp he) with z | z
      · exact ⟨k, tk, by rw [z], by rw [z]⟩
      · exact g e z
    have nd1 : (es1.toList.map c.key).Nodup := pk.nodup_iff.mpr (List.nodup_cons.mpr ⟨hnk, nd⟩)
    have m1 : ∀ i, i ∈ ks ++ [k] ↔ i ∈ es1.toList.map c.key := fun i => by
      rw [mem' i, hm i, pk.mem_iff, List.mem_cons]
      exact Or.comm
    have size1 : es1.size = es.size + 1 := by rw [← Array.length_toList, pc.length_eq, List.length_cons, Array.length_toList]
    have hb1 : es1.size < scanBound := by omega
    have hz1 : es1.size ≤ (ks ++ [k]).length := by rw [List.length_append, size1]; show _ ≤ ks.length + 1; omega
    have hled : w.params.followText "set-order" = true ∨ t1.led = true := hl.imp id fun z => by rw [led1]; exact z
    refine wpAny_bind (hgw _ ?_)
    have fin : ∀ h', Heap.SameBut a s.heap h' → c.At h' a (ks ++ [k]) → Y true { s with heap := h' } := fun h' sb r => hY true h' sb r
    split
    · refine wpAny_bind ?_
      rw [hashByValue_scannable 8 scan]
      refine wpAny_pure ?_
      refine KS.tail ?_ ho hex hd g1 nd1 m1 hb1 ?_ hz1 ?_ ?_ ?_
      · intro b u Y' q
        exact hgw b q
      · first | (split <;> first | exact fit1 | exact SetTable.fits_plain_off fit1) | exact fit1
      · first | (split <;> exact ris1) | exact ris1
      · first | (split <;> exact hled) | exact hled
      · intro h' sb r
        dsimp only
        exact wpAny_pure (fin h' sb r)
    · refine wpAny_bind (wpAny_pure ?_)
      simp only [↓reduceIte]
      refine KS.tail (fun b u Y' q => hgw b q) ho hex hd g1 nd1 m1 hb1 fit1 hz1 ris1 hled ?_
      intro h' sb r
      dsimp only
      exact wpAny_pure (fin h' sb r)
end
end
end AL

set_option Elab.async false
set_option linter.all false
set_option maxRecDepth 100000
set_option maxHeartbeats 4000000
/-! set(a list) -/
namespace AL
open PySem PySem.Spec L2 PyProof.Rows
section
variable {P : Program} {w : World} {α : Type} [DecidableEq α] {c : KS P w α} {A : Around} {E : Value → Shared → Prop} {s : Shared}
noncomputable def setNew (w : World) : Obj := { cls := .type "set", dict := none, data := .set #[] 0 (.fresh 0 0 (!w.params.followText "set-order")) }
theorem KS.new {h : Heap} {a : Addr} (ho : h.get? a = some (setNew w)) : c.At h a [] :=
  ⟨_, #[], 0, _, ho, ⟨rfl, rfl, rfl⟩, rfl, (fun e he => nomatch he), List.nodup_nil, (fun k => ⟨fun z => (nomatch z), fun z => (nomatch z)⟩), (by decide), rfl, Nat.le_refl _, List.Pairwise.nil, by
    show _ ∨ (!w.params.followText "set-order") = true
    cases w.params.followText "set-order"
    · exact .inr rfl
    · exact .inl rfl⟩
theorem KS.loop {I : Addr} {fp wr : List Addr} {G : Array GenState → Array GenState → Prop} {n : Nat} {Pv : Nat → Value → Prop} {St : Nat → Shared → Prop} {Y : Result → Shared → Prop}
    (W : WalksS P w A.in1 I fp wr G n Pv St) (S : Addr) (hSf : S ∉ fp) (ks U : List α) (hU : ∀ j ∈ ks, j ∈ U) (hn : n = ks.length) (hb : U.length + 1 < scanBound) (hval : ∀ i v, Pv i v → ∃ k t, ks[i]? = some k ∧ v = c.val k t) :
    ∀ (d i : Nat) (s : Shared), n - i = d → i ≤ n → St i s → c.At s.heap S (ks.take i) → (∀ s', Moved (S :: wr) G s s' → c.At s'.heap S ks → Y (.ok (.ret .none)) s') →
      codeAny (model P w) A (.builtin "set.update.loop" ⟨[.ref S, .ref I], []⟩) Y s := by
  have hSw : S ∉ wr := fun h => hSf (W.sub _ h)
  have up : ∀ b ∈ wr, b ∈ S :: wr := fun b hb => List.mem_cons_of_mem _ hb
  intro d
  induction d with
  | zero =>
    intro i s hd hi hst hS hY
    have hin : i = n := by omega
    subst hin
    refine codeAny_builtin F.entry_set_update_loop ?_
    rw [Around.under_plainId F.plain_set_update_loop _]
    refine (show wpAny (model P w) A.in1 (pyNext (.ref I) >>= _) _ _ s from ?_)
    refine wpAny_bind (W.done s _ _ hst fun s' hm => (show wpAny (model P w) A.in1 (ret Value.none) _ _ s' from ?_))
    rw [List.take_of_length_le (by omega)] at hS
    exact wpAny_pure (hY s' (hm.mono up) (hS.keep fun o e => hm.heap S o hSw e))
  | succ d ih =>
    intro i s hd hi hst hS hY
    have hlt : i < n := by omega
    refine codeAny_builtin F.entry_set_update_loop ?_
    rw [Around.under_plainId F.plain_set_update_loop _]
    refine (show wpAny (model P w) A.in1 (pyNext (.ref I) >>= _) _ _ s from ?_)
    refine wpAny_bind (W.item i s _ _ hlt hst fun v s' hP hst' hm => ?_)
    obtain ⟨z, t, hz, rfl⟩ := hval i v hP
    have hS' : c.At s'.heap S (ks.take i) := hS.keep fun o e => hm.heap S o hSw e
    refine (show wpAny (model P w) A.in1 (holding [c.val z t] (setAdd S (c.val z t)) >>= _) _ _ s' from ?_)
    refine wpAny_bind (wpAny_holding ?_)
    unfold setAdd
    refine wpAny_holding (wpAny_bind (c.knd.pyHash (k := z) (c.is z t) ?_))
    refine KS.add (s := { s' with toks := s'.toks + 1 }) hS' (fun j hj => hU j (List.mem_of_mem_take hj)) hb fun b h' hsb hS2 => ?_
    have e3 : ks.take i ++ [z] = ks.take (i + 1) := by rw [List.take_add_one, hz]; rfl
    rw [e3] at hS2
    refine wpAny_pure ⟨plainId_quiet F.plain_set_update_loop _, ih (i + 1) _ (by omega) hlt (W.frame _ s' _ _ hst' (Nat.le_succ _) fun b hb o e => ?_) hS2 fun s2 hm2 hS3 => ?_⟩
    · rw [hsb.2 b (fun q : b = S => hSf (by rw [← q]; exact hb))]; exact e
    · refine hY s2 (Moved.trans W.gtrans ((hm.mono up).then_heap (Nat.le_succ _) fun b o hb e => ?_) hm2) hS3
      rw [hsb.2 b (fun q : b = S => hb (by rw [q]; exact List.mem_cons_self))]; exact e

set_option maxRecDepth 100000 in
set_option maxHeartbeats 3200000 in
theorem KS.make {l : Addr} {items : Array Value} (ks U : List α) (hU : ∀ j ∈ ks, j ∈ U) {Y : Value → Shared → Prop} (hh : A.handled = none) (hl : s.heap.IsList l items) (hit : ∀ (i : Nat) v, items[i]? = some v → ∃ k t, ks[i]? = some k ∧ v = c.val k t) (hsz : items.size = ks.length) (hb : U.length + 1 < scanBound)
    (h : ∀ (h' : Heap) (tk : Nat), c.At h' s.heap.objs.size ks → (∀ b o, s.heap.get? b = some o → h'.get? b = some o) → Y (.ref s.heap.objs.size) { s with heap := h', toks := tk }) :
    wpAny (model P w) A (call (.type "set") [.ref l]) Y E s := by
  obtain ⟨c0, tl, hmro⟩ := F.called_set.mro
  have hmade := F.called_set.made
  have hsub := F.called_set.sub
  refine wpAny_call (codeAny_of_tree (show wpAny (model P w) _ (callAny (.type "set") _) _ _ _ from ?_))
  refine wpAny_pure ⟨Code.quiet_builtin _ (by decide +kernel), codeAny_builtin F.entry_type_call ?_⟩
  rw [Around.under_plain (weight_type_call_type "set" [.ref l] []) rfl]
  have h1 := F.called_set.notType
  have h2 := F.called_set.canCreate
  have hct := F.typeCall_set_1 (.ref l)
  repeat (any_goals (first | assumption | wp_step))
  refine codeAny_mono (code_set_led1 (.ref l) (E := E) (Q₁ := fun obj u => obj = .ref s.heap.objs.size ∧ u = { s with heap := s.heap.push (setNew w) }) ⟨rfl, rfl⟩) fun r u hr => ?_
  cases r with
  | error e => exact hr
  | ok fl =>
    cases fl with
    | ret obj =>
      obtain ⟨rfl, rfl⟩ := hr
      have hS : (s.heap.push (setNew w)).get? s.heap.objs.size = some (setNew w) := Heap.get?_push_size _ rfl
      have hT : Shared.TypeIs { s with heap := s.heap.push (setNew w) } (.ref s.heap.objs.size) "set" := ⟨_, hS, rfl⟩
      have hli := F.called_set.init.lookup
      have hbi := F.called_set.init.bind (.ref s.heap.objs.size)
      repeat (any_goals (first | assumption | wp_step))
      refine codeAny_mono (codeAny_call_builtin (R := wants (fun r u => r = .none ∧ ∃ h' tk, u = { s with heap := h', toks := tk } ∧ c.At h' s.heap.objs.size ks ∧
          (∀ b o, s.heap.get? b = some o → h'.get? b = some o)) E) F.called_set.init.plain F.entry_set_init (check_set_init_1 hT ?_)) fun r₂ u₂ hr₂ => ?_
      · obtain ⟨ol, hol, hcl, nl, hdl⟩ := hl
        obtain ⟨ocls, odict, odata, oslots⟩ := ol
        simp only at hcl hdl
        subst hcl; subst hdl
        have hol' : (s.heap.push (setNew w)).get? l = some { cls := .type "list", dict := odict, data := .seq items nl, slots := oslots } := Heap.get?_push_of_some _ hol
        have hsls := F.sub_list_set
        have hslf := F.sub_list_frozenset
        have hne : (Value.type "list" == Value.type "dict") = false := by decide
        have hl1 : (s.heap.push (setNew w)).IsList l items := ⟨_, hol', rfl, nl, rfl⟩
        unfold Builtin.«set.__init__» noKeywords Builtin.Frozenset.updateFrom
        generalize hPI : pyIter = PI
        wp_walk
        subst hPI
        refine wpAny_pyIter_list hl1 (wpAny_bind (wpAny_runValue ?_))
        have hlS : l < s.heap.objs.size := Heap.lt_size hol
        have hh3 : A.in1.in1.in1.handled = none := by simp [hh]
        have hneI : l ≠ (s.heap.push (setNew w)).objs.size := by
          rw [Heap.size_push]; exact Nat.ne_of_lt (Nat.lt_succ_of_lt hlS)
        have hSf : s.heap.objs.size ∉ [(s.heap.push (setNew w)).objs.size, l] := by
          rw [Heap.size_push]; simp only [List.mem_cons, List.mem_singleton, List.not_mem_nil, or_false, not_or]
          exact ⟨Nat.ne_of_lt (Nat.lt_succ_self _), Nat.ne_of_gt hlS⟩
        refine KS.loop ((Walks.list hh3 _ l hneI items).toS) s.heap.objs.size hSf ks U hU hsz hb hit (items.size - 0) 0 _ (by omega) (Nat.zero_le _)
          ⟨⟨_, Heap.get?_push_size _ rfl, rfl, rfl⟩, (hl1.push _)⟩ ?hS0 ?hR
        case hS0 => exact KS.new (Heap.get?_push_of_some _ hS)
        case hR =>
          intro s' hm hS'
          obtain ⟨h', g2, d', tk', os'⟩ := s'
          have eg : g2 = s.gens := hm.gens
          have ed : d' = s.drawn := hm.drawn
          have eo : os' = s.os := hm.os
          subst eg; subst ed; subst eo
          refine (show wpAny (model P w) _ _ _ _ _ from wpAny_pure (show wpAny (model P w) _ (ret Value.none) _ _ _ from ?_))
          refine wpAny_pure ⟨rfl, h', tk', rfl, hS', fun b o e => ?_⟩
          have lt0 : b < s.heap.objs.size := Heap.lt_size e
          have ne1 : b ≠ s.heap.objs.size := Nat.ne_of_lt lt0
          have ne2 : b ≠ (s.heap.push (setNew w)).objs.size := by
            rw [Heap.size_push]; exact Nat.ne_of_lt (Nat.lt_succ_of_lt lt0)
          exact hm.heap b o (by simp only [List.mem_cons, List.mem_singleton, List.not_mem_nil, or_false, not_or]; exact ⟨ne1, ne2⟩) (Heap.get?_push_of_some _ (Heap.get?_push_of_some _ e))
      · cases r₂ with
        | error e => exact hr₂
        | ok fl₂ =>
          cases fl₂ with
          | ret r =>
            obtain ⟨rfl, h', tk, rfl, hS', hk'⟩ := hr₂
            repeat (any_goals (first | assumption | wp_step))
            exact h _ _ hS' hk'
          | _ => exact hr₂.elim
    | _ => exact hr.elim
end
section
variable {X : Cx}
/-- sorted(set(xs)), fewer than 64 texts or ints -/
noncomputable def tSortSet (K : Frg) (ta : TE) : TE := fun σ H Q => ta σ H fun x H1 =>
  (∃ (l : Addr) (xs : List Str), x = .ref l ∧ SqL K H1 l (xs.map V.str) ∧ xs.length < 64 ∧ ∀ (ys : List Str) (p : Addr), sortedS ys = true → ys.Nodup → (∀ y, y ∈ ys ↔ y ∈ xs) → ys.length ≤ xs.length → H1 p = none → Q (.ref p) (upd H1 p (.lst (ys.map V.str)))) ∨
  (∃ (l : Addr) (xs U : List Int), x = .ref l ∧ SqL K H1 l (xs.map V.int) ∧ (∀ j ∈ xs, j ∈ U) ∧ U.length < 64 ∧ ∀ (ys : List Int) (p : Addr), ys.Pairwise (· < ·) → (∀ y, y ∈ ys ↔ y ∈ xs) → ys.length ≤ U.length → H1 p = none → Q (.ref p) (upd H1 p (.lst (ys.map V.int))))
end
end AL

set_option Elab.async false
set_option linter.all false
set_option maxRecDepth 100000
set_option maxHeartbeats 4000000
/-! sorted(set(..)), min of a list, dict of a list of pairs: the abstract rules -/
namespace AL
open PySem L2 PyProof.Rows
section
variable {Γ : Cg} {K : Frg} {F : Hp} {ms : Ms} {S : Sg} {Q : QE} {ta : TE}
noncomputable def rDICT (K : Frg) : List V → Hp → VK → Prop := fun xs H Q => ∃ (a : Addr) (ps : List Addr) (kvs : List (Key × V)), xs = [.ref a] ∧ SqL K H a (ps.map V.ref) ∧ Paired (fun p kv => SqT K H p [kV kv.1, kv.2]) ps kvs ∧ ∀ p, H p = none → Q (.ref p) (upd H p (.dK (mergeK [] kvs)))
noncomputable def mergeKD (kvs more : List (Key × D)) : List (Key × D) := more.foldl (fun acc kv => putKD acc kv.1 kv.2) kvs
end
end AL

set_option Elab.async false
set_option linter.all false
set_option maxRecDepth 100000
set_option maxHeartbeats 4000000
/-! comprehensions whose test and value change nothing -/
namespace AL
open PySem L2 PyProof.Rows
section
variable {Γ : Cg} {F : Hp} {ms : Ms} {S : Sg} {Q : QE} {wi : TI} {tt : TT} {te tx : TE} {ta : TA} {v : Nat} {vs : List Nat}
theorem AI.mono {P P' : Hp → Ms → List D → (Ms → Prop) → Prop} (h : AI Γ wi F ms S P) (m : ∀ F1 ms1 ds G, Ex F F1 → P F1 ms1 ds G → P' F1 ms1 ds G) : AI Γ wi F ms S P' := fun R σ H Rc hs hh x k =>
  h R σ H Rc hs hh x fun F1 ms1 ds G J H1 e a b q => k F1 ms1 ds G J H1 e a b (m _ _ _ _ e q)
theorem AA.mono {P P' : Hp → Ms → List D → Prop} (h : AA Γ ta F ms S P) (m : ∀ F' ms' ds, Ex F F' → P F' ms' ds → P' F' ms' ds) : AA Γ ta F ms S P' := fun R σ H Qc hs hh x k =>
  h R σ H Qc hs hh x fun F' ms' ds vs H' e ho hr q => k F' ms' ds vs H' e ho hr (m F' ms' ds e q)
/-- a test and a value that change nothing -/
noncomputable def Pure (Γ : Cg) (tt : TT) (te : TE) (F : Hp) (ms : Ms) (S : Sg) (b : Bool) (y : D) : Prop := AT Γ.nox tt F ms S fun F3 ms3 b' => ms3 = ms ∧ b' = b ∧ (b = true → AE Γ.nox te F3 ms3 S fun F4 ms4 y' => ms4 = ms ∧ y' = y)
theorem lc_core {α : Type} {xs : List α} {e : α → D} {p : α → Bool} {f : α → D} (hv : v ∈ vs)
    (h : AI Γ wi F ms S fun F1 ms1 ds G => ds = xs.map e ∧ xs.length ≤ 90000 ∧ (∀ m, G m) ∧ (∀ (i : Nat) (x : α), xs[i]? = some x → ∀ F2, Ex F1 F2 → Pure Γ tt te F2 ms1 ((wipeS S vs).set v (some (e x))) (p x) (f x)) ∧ ∀ F2, Ex F1 F2 → Q F2 ms1 (.lst ((xs.filter p).map f))) :
    AE Γ (tLc wi (gName v) tt te vs) F ms S Q := by
  refine ae_lc (gw_name hv) gm_name (h.mono fun F1 ms1 ds G e1 ⟨hd, hlen, hG, hb, q⟩ => ?_)
  subst hd
  refine ⟨fun n F' ms' acc => ms' = ms1 ∧ acc = ((xs.take n).filter p).map f, ⟨rfl, rfl⟩, fun _ _ _ _ _ _ => hG _, ?_, ?_⟩
  · rintro n d F2 ms2 acc e2 hd ⟨rfl, rfl⟩ F3 e3
    obtain ⟨x, hx, rfl⟩ : ∃ x, xs[n]? = some x ∧ d = e x := by
      rw [List.getElem?_map] at hd
      cases hq : xs[n]? with
      | none => rw [hq] at hd; cases hd
      | some x => rw [hq] at hd; exact ⟨x, rfl, (Option.some.inj hd).symm⟩
    have hl : (((xs.take n).filter p).map f).length < 100000 := by
      rw [List.length_map]
      have := List.length_filter_le p (xs.take n)
      rw [List.length_take] at this
      omega
    have hs : ((xs.take (n + 1)).filter p).map f = ((xs.take n).filter p).map f ++ if p x = true then [f x] else [] := by
      rw [List.take_succ, hx, List.filter_append, List.map_append]
      congr 1
      show ([x].filter p).map f = _
      rw [List.filter_cons, List.filter_nil]
      cases p x <;> rfl
    refine ag_name ?_
    refine AT.mono (hb n x hx F3 (e2.trans e3)) fun F4 ms4 b e4 ⟨h1, h2, h3⟩ => ?_
    subst h1
    subst h2
    refine ⟨fun hp => (h3 hp).mono fun F5 ms5 y e5 ⟨a, c⟩ => ?_, fun hp => ⟨rfl, ?_⟩⟩
    · subst a
      subst c
      refine ⟨hl, rfl, ?_⟩
      rw [hs, if_pos hp]
    · rw [hs, if_neg (by rw [hp]; decide), List.append_nil]
  · rintro F2 ms2 acc e2 ⟨rfl, rfl⟩ F3 e3
    rw [List.length_map, List.take_length]
    exact q F3 (e2.trans e3)
theorem lc_list {α : Type} {xs : List α} {e : α → D} {p : α → Bool} {f : α → D} (hv : v ∈ vs)
    (h : AE Γ tx F ms S fun F1 ms1 x => x = .lst (xs.map e) ∧ xs.length ≤ 90000 ∧ (∀ (i : Nat) (x : α), xs[i]? = some x → ∀ F2, Ex F1 F2 → Pure Γ tt te F2 ms1 ((wipeS S vs).set v (some (e x))) (p x) (f x)) ∧ ∀ F2, Ex F1 F2 → Q F2 ms1 (.lst ((xs.filter p).map f))) :
    AE Γ (tLc (iList Γ.K tx) (gName v) tt te vs) F ms S Q := by
  refine lc_core (xs := xs) (e := e) (p := p) (f := f) hv (ai_list (h.mono fun F1 ms1 x e1 ⟨hx, h1, h2, h3⟩ => .inl ⟨_, .inl hx, rfl, h1, fun _ => trivial, h2, h3⟩))
theorem lc_str {p : Nat → Bool} {f : Nat → D} (hv : v ∈ vs)
    (h : AE Γ tx F ms S fun F1 ms1 x => ∃ z : Str, x = .str z ∧ z.length ≤ 90000 ∧ (∀ (i : Nat) (c : Nat), z.cps.toList[i]? = some c → ∀ F2, Ex F1 F2 → Pure Γ tt te F2 ms1 ((wipeS S vs).set v (some (.str (sg c)))) (p c) (f c)) ∧ ∀ F2, Ex F1 F2 → Q F2 ms1 (.lst ((z.cps.toList.filter p).map f))) :
    AE Γ (tLc (iStr tx) (gName v) tt te vs) F ms S Q := by
  refine ae_lc (gw_name hv) gm_name (ai_str (h.mono fun F1 ms1 x e1 ⟨z, hx, h1, h2, h3⟩ => ⟨z, hx, ?_⟩))
  refine ⟨fun n F' ms' acc => ms' = ms1 ∧ acc = ((z.cps.toList.take n).filter p).map f, ⟨rfl, rfl⟩, fun _ _ _ _ _ _ => trivial, ?_, ?_⟩
  · rintro n d F2 ms2 acc e2 hd ⟨rfl, rfl⟩ F3 e3
    obtain ⟨c, hx, rfl⟩ : ∃ c, z.cps.toList[n]? = some c ∧ d = .str (sg c) := by
      unfold charsD at hd
      rw [List.getElem?_map] at hd
      cases hq : z.cps.toList[n]? with
      | none => rw [hq] at hd; cases hd
      | some x => rw [hq] at hd; exact ⟨x, rfl, (Option.some.inj hd).symm⟩
    have hz : z.cps.toList.length = z.length := Array.length_toList
    have hl : (((z.cps.toList.take n).filter p).map f).length < 100000 := by
      rw [List.length_map]
      have := List.length_filter_le p (z.cps.toList.take n)
      rw [List.length_take] at this
      omega
    have hs : ((z.cps.toList.take (n + 1)).filter p).map f = ((z.cps.toList.take n).filter p).map f ++ if p c = true then [f c] else [] := by
      rw [List.take_succ, hx, List.filter_append, List.map_append]
      congr 1
      show ([c].filter p).map f = _
      rw [List.filter_cons, List.filter_nil]
      cases p c <;> rfl
    refine ag_name ?_
    refine AT.mono (h2 n c hx F3 (e2.trans e3)) fun F4 ms4 b e4 ⟨q1, q2, q3⟩ => ?_
    subst q1
    subst q2
    refine ⟨fun hp => (q3 hp).mono fun F5 ms5 y e5 ⟨a, c⟩ => ?_, fun hp => ⟨rfl, ?_⟩⟩
    · subst a
      subst c
      refine ⟨hl, rfl, ?_⟩
      rw [hs, if_pos hp]
    · rw [hs, if_neg (by rw [hp]; decide), List.append_nil]
  · rintro F2 ms2 acc e2 ⟨rfl, rfl⟩ F3 e3
    have hz : (charsD z).length = z.cps.toList.length := by unfold charsD; rw [List.length_map]
    rw [hz, List.take_length]
    exact h3 F3 (e2.trans e3)
end
end AL

set_option Elab.async false
set_option linter.all false
set_option maxRecDepth 100000
set_option maxHeartbeats 4000000
/-! min of a list of pairs of ints -/
namespace AL
open PySem PySem.Spec PyProof.Rows L2
noncomputable abbrev I2 := Int × Int
noncomputable def lt2 (a b : I2) : Bool := if a.1 = b.1 then decide (a.2 < b.2) else decide (a.1 < b.1)
noncomputable def py2 (c : I2) : PyData := .tuple [.int c.1, .int c.2]
noncomputable def d2 (c : I2) : D := .tup [.int c.1, .int c.2]
/-- min of a list of pairs of ints -/
noncomputable def rMin2 (K : Frg) : List V → Hp → VK → Prop := fun vs H Q => ∃ (a : Addr) (xs : List V) (cs : List I2), vs = [.ref a] ∧ SqL K H a xs ∧ DpAll K H xs (cs.map py2) ∧ cs ≠ [] ∧ cs.length ≤ 100000 ∧
  ∀ (i : Nat) v m, xs[i]? = some v → cs[i]? = some m → (∀ y ∈ cs, lt2 y m = false) → Q v H
section
variable {X : Cx} {K : Frg}
end
end AL

set_option Elab.async false
set_option linter.all false
set_option maxRecDepth 100000
set_option maxHeartbeats 4000000
/-! comprehensions within comprehensions -/
namespace AL
open PySem PySem.Spec PyProof.Rows L2
noncomputable def blkB (N : List Str) (sc scope : Scope) (own : List (Str × Nat)) : Bool :=
  decide (scope.kind = .function) && decide (∀ y ∈ scope.names, scope.names.lookup y.1 = some y.2) && decide (∀ p ∈ own, N[p.2]? = some p.1) &&
  decide (∀ y ∈ scope.names, y.2 = .free → sc.names.lookup y.1 = some .cell ∨ sc.names.lookup y.1 = some .free) && decide (∀ y ∈ scope.names, y.2 = .local ∨ y.2 = .cell → y.1 ∈ own.map (·.1) ∨ y.1 ∉ N)
end AL

set_option Elab.async false
set_option linter.all false
set_option maxRecDepth 100000
set_option maxHeartbeats 4000000
/-! for loops in the body of a generator -/
namespace PySem
section
variable {M : Model} {A : Around} {R : GenEnd} {Y : Protocol} {n : Nat} {s₀ : Shared} {c : Code} {fs : List Frame} {s : Shared} {env : Env}
  {K : Flow → Sem Fin} {H : Value → Sem Fin} {gd : Bool → Bool} {lv : List Value → List Value}
end
section
variable {prog : Program} {w : World} {A : Around} {R : GenEnd} {Y : Protocol} {n : Nat} {s₀ : Shared} {fs : List Frame} {s : Shared} {env : Env}
noncomputable abbrev segBack (env : Env) (x : Value) : Sem Fin := (do noteFrame x env; theTreesLotGoes x : Sem Unit).wrap (fun _ => .raise x) .raise id id
end
end PySem

set_option Elab.async false
set_option linter.all false
set_option maxRecDepth 100000
set_option maxHeartbeats 4000000
/-! for loops in the body of a generator: the invariant's level -/
namespace L2
open PySem PySem.Spec PyProof.Rows GenW
section
variable {X : Cx}
noncomputable def tGFor (wi : TI) (g : TG) (tb : TGn) : TGn := fun D ys σ H => wi σ H fun J H1 => ∃ W : Nat → Nat → List V → St → Hp → Prop, (∃ m, W 0 m ys σ H1) ∧ ∀ i m ys σ H, W i m ys σ H →
  (J.stop i H ∧ D.nx ys σ H) ∨ (J.go i H ∧ ∃ N : List V → St → Hp → Prop, (∀ ys' σ' H', N ys' σ' H' → ∃ m', m' < m ∧ W (i + 1) m' ys' σ' H') ∧ ∀ x H', J.yld i H x H' → g x σ H' fun σ2 H2 => tb { D with nx := N, ct := N, bk := D.nx } ys σ2 H2)
end
end L2

set_option Elab.async false
set_option linter.all false
set_option maxRecDepth 100000
set_option maxHeartbeats 4000000
/-! generator defs in terms of data -/
namespace L2
open PySem PySem.Spec PyProof.Rows GenW
section
variable {X : Cx}
theorem GI.wish {S : Addr} {ip : List (Addr × Obj)} {ys : List V} {σ : St} {H : Hp} {s : Shared} (E : Value → Shared → Prop) (h : GI X S ip ys σ H s) : GI (X.wish E) S ip ys σ H s := by
  obtain ⟨acc, c, r, I⟩ := h
  exact ⟨acc, c, r, I.wish E⟩
theorem GI.unwish {S : Addr} {ip : List (Addr × Obj)} {ys : List V} {σ : St} {H : Hp} {s : Shared} {E : Value → Shared → Prop} (h : GI (X.wish E) S ip ys σ H s) : GI X S ip ys σ H s := by
  obtain ⟨acc, c, r, I⟩ := h
  exact ⟨acc, c, r, I.unwish⟩
theorem GSP.unwish {S : Addr} {ip : List (Addr × Obj)} {D : GEnds} {ys : List V} {f : Flow} {s : Shared} {E : Value → Shared → Prop} (h : GSP (X.wish E) S ip D ys f s) : GSP X S ip D ys f s := by
  cases f with
  | next => obtain ⟨σ, H, I, q⟩ := h; exact ⟨σ, H, I.unwish, q⟩
  | brk => obtain ⟨σ, H, I, q⟩ := h; exact ⟨σ, H, I.unwish, q⟩
  | cont => obtain ⟨σ, H, I, q⟩ := h; exact ⟨σ, H, I.unwish, q⟩
  | ret u => obtain ⟨v, σ, H, I, q⟩ := h; exact ⟨v, σ, H, I.unwish, q⟩
theorem GSs.nox {st : List Stmt} {t : TGn} (h : GSs X.nox st t) : GSs X st t := by
  refine ⟨fun A S ip R n ys s₀ c fs K J gd lv s σ H D g hn k hI ht => ?_⟩
  have g' : GC X.nox S ip A c fs gd := ⟨g.pn, g.ip, g.apart, g.over, g.split, g.guard, g.gd⟩
  have to : ∀ (n : Nat) {s₀ : Shared} {c : Code} {t : Sem PySem.Fin} {fs : List Frame} {s : Shared}, Seg (model X.prog X.w) A R (GY X S) n s₀ c t fs s → Seg (model X.prog X.w) A R (GY X.nox S) n s₀ c t fs s := fun n {s₀ c t fs s} q =>
    seg_imp (fun _ _ _ _ z => z) (fun n s₀ v s kap kap' hk ⟨ys, x, ip, σ, H, h1, h2, h3, h4⟩ => ⟨ys, x, ip, σ, H, h1, h2, h3.wish _, fun s' z => hk _ _ (h4 s' z)⟩) n q
  have back : ∀ (n : Nat) {s₀ : Shared} {c : Code} {t : Sem PySem.Fin} {fs : List Frame} {s : Shared}, Seg (model X.prog X.w) A R (GY X.nox S) n s₀ c t fs s → Seg (model X.prog X.w) A R (GY X S) n s₀ c t fs s := fun n {s₀ c t fs s} q =>
    seg_imp (fun _ _ _ _ z => z) (fun n s₀ v s kap kap' hk ⟨ys, x, ip, σ, H, h1, h2, h3, h4⟩ => ⟨ys, x, ip, σ, H, h1, h2, GI.unwish h3, fun s' z => hk _ _ (h4 s' z)⟩) n q
  exact back n (h.run A S ip R n ys s₀ c fs K J gd lv s σ H D g' hn ⟨fun n ys s₀ s f hn hs => to n (k.ok n ys s₀ s f hn (GSP.unwish hs)), fun _ _ _ _ z => False.elim z⟩ (hI.wish _) ht)
/-! if -/
noncomputable def tGIf (c : TT) (t u : TGn) : TGn := fun D ys σ H => c σ H fun b H1 => if b = true then t D ys σ H1 else u D ys σ H1
end
end L2
namespace AL
open PySem L2
structure AGEnds where
  nx : Hp → Ms → List D → Sg → Prop
  rt : Hp → Ms → List D → Prop := fun _ _ _ => False
  bk : Hp → Ms → List D → Sg → Prop := fun _ _ _ _ => False
  ct : Hp → Ms → List D → Sg → Prop := fun _ _ _ _ => False
structure GLe (Γ : Cg) (R : Ms) (F : Hp) (A : AGEnds) (E : GEnds) : Prop where
  xe : XLe Γ R F
  nx : ∀ F' ms' ys' S' vs' σ' H', Ex F F' → SRep Γ.K F' S' σ' → Hold Γ.K F' (ms' ++ R) H' → RepL Γ.K F' ys' vs' → A.nx F' ms' ys' S' → E.nx vs' σ' H'
  rt : ∀ F' ms' ys' vs' H', Ex F F' → Hold Γ.K F' (ms' ++ R) H' → RepL Γ.K F' ys' vs' → A.rt F' ms' ys' → E.rt vs' .non H'
  bk : ∀ F' ms' ys' S' vs' σ' H', Ex F F' → SRep Γ.K F' S' σ' → Hold Γ.K F' (ms' ++ R) H' → RepL Γ.K F' ys' vs' → A.bk F' ms' ys' S' → E.bk vs' σ' H'
  ct : ∀ F' ms' ys' S' vs' σ' H', Ex F F' → SRep Γ.K F' S' σ' → Hold Γ.K F' (ms' ++ R) H' → RepL Γ.K F' ys' vs' → A.ct F' ms' ys' S' → E.ct vs' σ' H'
noncomputable def AY (Γ : Cg) (tg : TGn) (F : Hp) (ms : Ms) (ys : List D) (S : Sg) (A : AGEnds) : Prop := ∀ (R : Ms) (E : GEnds) σ H vs, SRep Γ.K F S σ → Hold Γ.K F (ms ++ R) H → RepL Γ.K F ys vs → GLe Γ R F A E → tg E vs σ H
theorem GLe.ex {Γ : Cg} {R : Ms} {F F' : Hp} {A : AGEnds} {E : GEnds} (l : GLe Γ R F A E) (e : Ex F F') : GLe Γ R F' A E :=
  ⟨l.xe.ex e, fun F'' ms' ys' S' vs' σ' H' x => l.nx F'' ms' ys' S' vs' σ' H' (e.trans x), fun F'' ms' ys' vs' H' x => l.rt F'' ms' ys' vs' H' (e.trans x), fun F'' ms' ys' S' vs' σ' H' x => l.bk F'' ms' ys' S' vs' σ' H' (e.trans x), fun F'' ms' ys' S' vs' σ' H' x => l.ct F'' ms' ys' S' vs' σ' H' (e.trans x)⟩
section
variable {Γ : Cg} {K : Frg} {F : Hp} {ms : Ms} {S : Sg} {ts : TS} {ta : TA} {te : TE} {tt : TT} {t u : TGn} {ys : List D} {A : AGEnds} {wi : TI} {g : TG}
end
/-! ### promises -/
noncomputable abbrev AGp := List D → Hp → Ms → (Hp → Ms → List D → Prop) → Prop
noncomputable def toSpG (K : Frg) (sp : AGp) : SpG := fun vs H Q E => ∃ F ms R ds Qa, Hold K F (ms ++ R) H ∧ RepL K F ds vs ∧ sp ds F ms Qa ∧ (∀ F' ms' ys vs' H', Ex F F' → Hold K F' (ms' ++ R) H' → RepL K F' ys vs' → Qa F' ms' ys → Q vs' H')
section
variable {Γ : Cg} {K : Frg} {F : Hp} {ms : Ms} {S : Sg} {ta : TA} {Q : QE}
end
section
variable {P : Program} {w : World} {K : Frg} {mg : Str → Option Value} {base : Heap}
end
end AL

set_option Elab.async false
set_option linter.all false
set_option maxRecDepth 100000
set_option maxHeartbeats 4000000
/-! zip of a tuple and a list: two sources -/
namespace ZTL
open PySem PySem.Spec PyProof.Rows
open PySem.Sem (wp)
/-- what a zip draws from: its iterator at i, over l -/
structure Src (prog : Program) (w : World) (i l : Addr) (xs : Array Value) (St : Nat → Heap → Prop) : Prop where
  ext : ∀ k h h' c, St k h → Heap.ExtBut c h h' → i ≠ c → l ≠ c → St k h'
  at' : ∀ k h h', St k h → (∀ o, h.get? i = some o → h'.get? i = some o) → (∀ o, h.get? l = some o → h'.get? l = some o) → St k h'
  lt : ∀ k h, St k h → ∃ o, h.get? i = some o ∧ ∀ v, o.data ≠ .cell v
  item : ∀ (A : Around) (E : Value → Shared → Prop) (s : Shared) (k : Nat) (x : Value) (Q : Value → Shared → Prop), St k s.heap → xs[k]? = some x → (∀ h', St (k + 1) h' → Heap.SameBut i s.heap h' → Q x { s with heap := h' }) → wpAny (model prog w) A (Builtin.SmallTypes.nextOf (.ref i)) Q E s
  fin : ∀ (A : Around) (E : Value → Shared → Prop) (s : Shared) (k : Nat) (Q : Value → Shared → Prop), A.handled = none → St k s.heap → xs[k]? = none → (∀ h' e, Heap.ExtBut i s.heap h' → (∃ o, h'.get? e = some o ∧ o.cls = .type "StopIteration") → E (.ref e) { s with heap := h' }) → wpAny (model prog w) A (Builtin.SmallTypes.nextOf (.ref i)) Q E s
variable {prog : Program} {w : World} {A : Around} {E : Value → Shared → Prop} {s : Shared}
noncomputable abbrev TupSt (i l : Addr) (xs : Array Value) : Nat → Heap → Prop := fun k h => h.IsTupleIter i l k ∧ h.IsTuple l xs
noncomputable abbrev LstSt (i l : Addr) (xs : Array Value) : Nat → Heap → Prop := fun k h => h.IsListIter i l k ∧ h.IsList l xs
section
variable {z TI TO i1 i2 l1 l2 : Addr} {xs ys : Array Value} {P1 P2 : Nat → Heap → Prop}
end
/-! the call zip(tuple, list) -/
noncomputable def it1 (h : Heap) (l1 : Addr) : Heap := h.push { cls := .type "tuple_iterator", data := .fields #[.ref l1, .int 0 0] }
noncomputable def it2 (h : Heap) (l1 l2 : Addr) : Heap := (it1 h l1).push { cls := .type "list_iterator", data := .fields #[.ref l2, .int 0 0] }
noncomputable def it3 (h : Heap) (l1 l2 : Addr) : Heap := (it2 h l1 l2).push { cls := .type "tuple", data := .seq #[.ref h.objs.size, .ref (it1 h l1).objs.size] }
noncomputable def it4 (h : Heap) (l1 l2 : Addr) : Heap := (it3 h l1 l2).push { cls := .type "tuple", data := .seq #[.none, .none] }
noncomputable def it5 (h : Heap) (l1 l2 : Addr) : Heap := (it4 h l1 l2).push { cls := .type "zip", data := .fields #[.none, .bool false, .bool false, .ref (it2 h l1 l2).objs.size, .ref (it3 h l1 l2).objs.size] }
theorem made (l1 l2 : Addr) (xs ys : Array Value) :
    Meets (Builtin.«zip.__new__» ⟨[.type "zip", .ref l1, .ref l2], []⟩) (fun _ R s => s.heap.IsTuple l1 xs ∧ s.heap.IsList l2 ys ∧
      R (.ok (.ret (.ref (it4 s.heap l1 l2).objs.size))) { s with heap := it5 s.heap l1 l2 }) :=
  .of_wp fun prog w A R s h => by
    obtain ⟨hp, g, d, tk, os⟩ := s
    obtain ⟨q1, q2, h⟩ := h
    have hsub := sub_zip
    have t1 : Heap.IsTuple (Shared.heap ⟨hp, g, d, tk, os⟩) l1 xs := q1
    have t2 : Heap.IsList (Shared.heap ⟨hp.push { cls := .type "tuple_iterator", data := .fields #[.ref l1, .int 0 0] }, g, d, tk, os⟩) l2 ys := q2.push _
    wp_walk using wpAny_pyIter_tuple t1, wpAny_pyIter_list t2
    exact ⟨_, rfl, h⟩
end ZTL
namespace RZ
open PySem PySem.Spec PyProof.Rows L2
/-- a tuple at a, a list at b -/
noncomputable def ItzM (K : PySem.W.Frag) (a b : Addr) : It :=
  ⟨fun i H => ∃ (xs ys : List V) (x y : V), SqT K H a xs ∧ SqL K H b ys ∧ xs[i]? = some x ∧ ys[i]? = some y,
    fun i H v H' => ∃ T x y, v = .ref T ∧ H T = none ∧ H' = upd H T (.tup [x, y]) ∧ (∀ xs, SqT K H a xs → xs[i]? = some x) ∧ ∀ ys, SqL K H b ys → ys[i]? = some y,
    fun i H => ∃ xs ys : List V, SqT K H a xs ∧ SqL K H b ys ∧ (xs.length ≤ i ∨ ys.length ≤ i)⟩
noncomputable def iZipM (K : PySem.W.Frag) (ta : TA) : TI := fun σ H R => ta σ H fun vs H1 => ∃ a b xs ys, vs = [.ref a, .ref b] ∧ SqT K H1 a xs ∧ SqL K H1 b ys ∧ R (ItzM K a b) H1
end RZ
namespace AL
open PySem L2 RZ
section
variable {Γ : Cg} {F : Hp} {ms : Ms} {S : Sg} {P : Hp → Ms → List D → (Ms → Prop) → Prop}
end
end AL

set_option Elab.async false
set_option linter.all false
set_option maxRecDepth 100000
set_option maxHeartbeats 4000000
/-! list.count and list.index over flat items; raise of an own class; a lambda told precisely -/
namespace L2
open PySem PySem.Spec PyProof.Rows
section
variable {X : Cx}
noncomputable def rCntF (K : PySem.W.Frag) : V → List V → Hp → VK → Prop := fun x xs H Q => ∃ (a : Addr) (ys : List V) (y : V), x = .ref a ∧ xs = [y] ∧ SqL K H a ys ∧ flatV y = true ∧ ys.all flatV = true ∧ Q (.int (ys.countP (fun z => eqV z y) : Nat)) H
theorem cnt_vals {y : V} : ∀ {ys : List V} {us : List Value}, Vals ys us → ys.all flatV = true → us.countP (eqU y) = ys.countP fun z => eqV z y
  | _, _, .nil, _ => rfl
  | z :: ys, u :: us, .cons r rr, f => by
    rw [List.all_cons, Bool.and_eq_true] at f
    rw [List.countP_cons, List.countP_cons, cnt_vals rr f.2, eqU_of r f.1]
theorem mt_countF : MtR X "list.count" (rCntF X.K) := by
  intro pins s σ H x xs v us Q I rx rxs h
  obtain ⟨p, ys, y, rfl, rfl, hs, fy, fys, q⟩ := h
  cases rx
  obtain ⟨u, rfl, ru⟩ := rxs.one
  obtain ⟨its, rv, ⟨⟨cls, dd, data, sl⟩, n, ho, hc, hdn, hd⟩, hlen⟩ := I.list hs
  simp only at hc hd
  subst hc hd
  refine call_meets PySem.F.slot_list_count ⟨_, ho, rfl⟩ PySem.F.entry_list_count (PySem.F.args_list_count_2 _ _)
    (SeqAt.list_countAt p its.toArray n dd sl u (eqU y)) ⟨ho, fun w hw => mem_eqAt ru fy rv fys w (by simpa using hw), ?_⟩
  have ec : its.toArray.toList.countP (eqU y) = ys.countP fun z => eqV z y := cnt_vals rv fys
  refine ⟨.int (ys.countP (fun z => eqV z y) : Nat), H, I.tok _, ⟨s.toks, ?_⟩, q⟩
  rw [ec]
theorem kCNTF {K : PySem.W.Frag} (h : X.K = K) : MtR X "list.count" (rCntF K) := h ▸ mt_countF
end
end L2
namespace AL
open PySem L2
section
variable {Γ : Cg} {K : Frg} {F : Hp} {ms : Ms} {S : Sg} {Q : QE}
end
end AL

set_option Elab.async false
set_option linter.all false
set_option maxRecDepth 100000
set_option maxHeartbeats 4000000
/-! a lambda handed to a def: what becomes of the heap, told precisely; the exception that its body raises -/
namespace LamY
open PySem PySem.Spec PyProof.Rows L2 LamX
/-- the table at P knows code objects of the name q alone -/
noncomputable def TabK (H : Hp) (ps : Array Value) (q : Str) : Prop := TriplesOk ps.toList ∧ ∀ (pos : Pos) (cv : Value), codeAmong pos ps.toList = some cv → ∃ c, cv = .ref c ∧ H c = some (CodeO c q)
/-- the making of a lambda: nothing, or a new code object at c' and a row of the table -/
noncomputable def Grown (P : Addr) (q : Str) (ps : Array Value) (H H1 : Hp) : Prop := H1 = H ∨ ∃ (pos : Pos) (c' : Addr), H c' = none ∧ H1 = upd (upd H P (.tbl (ps ++ #[rawInt pos.line, rawInt pos.col, .ref c']))) c' (CodeO c' q)
section
variable {X : Cx} {pins : List (Addr × Obj)} {σ : L2.St} {H : Hp} {s : Shared}
end
section
variable {X : Cx} {pins : List (Addr × Obj)} {σ : L2.St} {H : Hp} {s : Shared}
end
/-- the def that calls what it got -/
noncomputable def Gives3 (X : Cx) (Ng : List Str) (x : Str) (sg : Scope) (g : Addr) (cdg : Value) (bg : List Stmt) (a : Str) (q : Str) (TT : (XK → Hp → VK → Prop) → Hp → VK → Prop) (k : Nat) : Prop :=
  ∀ (f c' : Addr) (s : Shared) (H : Hp) (Q : VK) (tl : XK → Hp → VK → Prop), Room (k + 1) (X.A.deeper (envOfC x sg s.heap.objs.size g cdg)) →
    (∀ (W : WX) (pn : List (Addr × Obj)) (xe : Value → Shared → Prop) (p1 p2 : Pos), Takes ((cxOf L2.CX0 X.prog X.w X.K X.mg X.base Ng x sg g cdg X.A X.stack s H L2.E0).nox.tr pn xe) W →
      PE ((cxOf L2.CX0 X.prog X.w X.K X.mg X.base Ng x sg g cdg X.A X.stack s H L2.E0).nox.tr pn xe) (.Call (.Name a p1) [] [] p2) (fun σZ HZ Q => σZ[0]? = some (some (.ref f)) ∧ HZ c' = some (CodeO c' q) ∧ tl (WE W σZ) HZ Q)) →
    H c' = some (CodeO c' q) → TT tl H Q →
    ∃ t, PSs (cxOf L2.CX0 X.prog X.w X.K X.mg X.base Ng x sg g cdg X.A X.stack s H L2.E0).nox bg t ∧ t { nx := fun _ H' => Q .non H', rt := Q } (L2.start Ng [.ref f]) H
noncomputable def tLam3 (P : Addr) (q : Str) (TT : (XK → Hp → VK → Prop) → Hp → VK → Prop) (t : XK → TE) : TE := fun σ H Q => ∃ ps, H P = some (.tbl ps) ∧ TabK H ps q ∧ ∀ H1, Grown P q ps H H1 → TT (fun E H' Q' => t E σ H' Q') H1 Q
section
variable {X : Cx}
end
end LamY
namespace AL
open PySem L2 LamX LamY
/-- the table at P: owned, and what it knows -/
noncomputable def TabA (F : Hp) (ms : Ms) (n : Nat) (P : Addr) (q : Str) : Prop := ∃ ps, ms[n]? = some (P, .raw (.tbl ps)) ∧ TabK F ps q
theorem TabA.ex {F F' : Hp} {ms : Ms} {n : Nat} {P : Addr} {q : Str} (e : Ex F F') : TabA F ms n P q → TabA F' ms n P q := fun ⟨ps, h, t, a⟩ => ⟨ps, h, t, fun pos cv hc => by obtain ⟨c, h1, h2⟩ := a pos cv hc; exact ⟨c, h1, e _ _ h2⟩⟩
theorem TabA.at {F : Hp} {ms ms' : Ms} {n n' : Nat} {P : Addr} {q : Str} (e : ∀ m, ms[n]? = some (P, m) → ms'[n']? = some (P, m)) : TabA F ms n P q → TabA F ms' n' P q := fun ⟨ps, h, t⟩ => ⟨ps, e _ h, t⟩
/-- what a def makes of a call that raises D: res, told in data -/
noncomputable def TTerr (K : Frg) (C : Addr) (res : AL.D) : (XK → Hp → VK → Prop) → Hp → VK → Prop := fun tl H Q => ∃ (F : Hp) (ms : Ms), Hold K F ms H ∧
  ∀ (E : XK) (Q' : VK), (∀ H' F' ms', Ex F F' → Hold K F' ms' H' → (∀ F2 v H2, Ex F' F2 → Hold K F2 ms' H2 → Rep K F2 res v → Q v H2) → E (.ref C) none H') → tl E H Q'
section
variable {Γ : Cg} {F : Hp} {ms : Ms} {S : Sg} {Q : QE}
end
end AL

set_option Elab.async false
set_option linter.all false
set_option maxRecDepth 100000
set_option maxHeartbeats 4000000
/-! the def that calls what it got and tells the error; the start of a law that makes lambdas -/
namespace L2
open PySem PySem.Spec PyProof.Rows
end L2
namespace LamY
open PySem PySem.Spec PyProof.Rows L2 LamX
section
variable {X : Cx}
end
end LamY
namespace AL
open PySem L2 LamX LamY
section
variable {K : Frg} {F : Hp} {ms : Ms} {Q : QE}
end
/-! ### the start -/
section
variable {P : Program} {w : World} {K : Frg} {mg : Str → Option Value} {base : Heap}
/-- a def's place, its code object told -/
structure FunC (K : Frg) (x qual : Str) (st : Stmt) (f : Addr) (fd : FuncData) (c : Addr) : Prop where
  ex : ∃ (oc : Value) (od : Option Addr) (kV doc pm : Value) (an : Option Addr) (ct : Value) (osl : Array (Option Value)),
    fd = PySem.W.fnOf x qual (defArgs st) (defBody st) (defScope st) .none kV doc pm an (.ref c) ct ∧ K.lookup f = some ⟨oc, od, .func fd, osl⟩ ∧ PySem.W.codeIn K (.ref c) qual = true
end
end AL
namespace AL
open PySem
end AL

set_option Elab.async false
set_option linter.all false
set_option maxRecDepth 100000
set_option maxHeartbeats 4000000
/-! calls of what raises nothing, where something may be raised -/
namespace AL
open PySem L2
section
variable {Γ : Cg} {F : Hp} {ms : Ms} {S : Sg} {Q : QE} {ta : TE}
end
end AL

set_option Elab.async false
set_option linter.all false
set_option maxRecDepth 100000
set_option maxHeartbeats 4000000
/-! in, of whole numbers -/
namespace AL
open PySem L2 PyProof.Rows
section
variable {K : Frg} {F : Hp} {ms : Ms} {Q : QE}
end
/-! owned objects behind a prefix -/
theorem app_at {E R : Ms} (c : Nat) : (E ++ R)[E.length + c]? = R[c]? := by
  rw [List.getElem?_append_right (Nat.le_add_right _ _), Nat.add_sub_cancel_left]
theorem app_set {E R : Ms} {c : Nat} {v : Addr × MO} : (E ++ R).set (E.length + c) v = E ++ R.set c v := by
  rw [List.set_append_right _ _ (Nat.le_add_right _ _), Nat.add_sub_cancel_left]
end AL

set_option Elab.async false
set_option linter.all false
set_option maxRecDepth 100000
set_option maxHeartbeats 4000000
/-! defs with a star parameter; a try that raises nothing; owned lists compared -/
namespace AL
open PySem PySem.Spec L2 PyProof.Rows
/-- called with some more arguments: they are a tuple -/
noncomputable def spV (sp : ASp) : ASp := fun ds F ms Q Ea => ∃ d0 rest, ds = d0 :: rest ∧ rest.length ≤ 5 ∧ ∀ F', Ex F F' → sp [d0, .tup rest] F' ms Q Ea
section
variable {P : Program} {w : World} {K : Frg} {mg : Str → Option Value} {base : Heap}
end
section
variable {Γ : Cg} {F : Hp} {ms : Ms} {S : Sg} {Q : QE} {ta : TE}
end
section
variable {X : Cx}
end
section
variable {K : Frg} {F : Hp} {ms : Ms} {Q : QE}
end
end AL

set_option Elab.async false
set_option linter.all false
set_option maxRecDepth 100000
set_option maxHeartbeats 4000000
/-! dicts: read under a lock, an unnamed one walked, sorted, copied, listed, compared, displayed; count of texts; max -/
namespace L2
open PySem PySem.Spec PyProof.Rows
/-- the value is locked from here on -/
noncomputable def tLockV (t : TE) : TE := fun σ H Q => t σ H fun x H1 => ∃ d u, x = .ref d ∧ H1 d = some u ∧ Mut (some u) ∧ ∀ od, Q x (upd H1 d (.frz od u))
theorem pe_lockV {X : Cx} {e : Expr} {t : TE} (h : PE X e t) : PE X e (tLockV t) := by
  refine ⟨fun pins s σ H Q I hw => ?_⟩
  refine thn (h.run pins s σ H _ I hw) fun v s1 ⟨x, H1, I1, r, d, u, ex, hd, mu, q⟩ => ?_
  obtain ⟨od, I2⟩ := I1.lock hd mu
  exact ⟨x, _, I2, r, q od⟩
end L2
namespace AL
open PySem PySem.Spec L2 PyProof.Rows
section
variable {Γ : Cg} {K : Frg} {F : Hp} {ms : Ms} {S : Sg} {Q : QE} {ta tb te tx tv td ty : TE} {A : AEnds}
/-- x can be read as a dict: frozen, owned, or locked -/
noncomputable def DicR (K : Frg) (F : Hp) (ms : Ms) (x : D) (kvs : List (Key × D)) : Prop := DicA K F ms x kvs ∨ ∃ (n : Nat) (l : Addr) (od : Obj) (vs : List (Key × V)), x = .ref l ∧ ms[n]? = some (l, MO.raw (.frz od (.dK vs))) ∧ RepK K F kvs vs
theorem DicR.to {x : D} {kvs : List (Key × D)} {R : Ms} {H : Hp} {v : V} (i : DicR K F ms x kvs) (hh : Hold K F (ms ++ R) H) (r : Rep K F x v) : ∃ a vs, v = .ref a ∧ Rd H a (.dK vs) ∧ RepK K F kvs vs := by
  rcases i with i | ⟨n, l, od, vs, rfl, hn, q⟩
  · obtain ⟨a, vs, e, h, q⟩ := i.to hh r
    exact ⟨a, vs, e, .inl h, q⟩
  · cases r
    exact ⟨l, vs, rfl, .inr ⟨od, (hh.at (get_app hn)).2⟩, q⟩
theorem DicR.own {n : Nat} {l : Addr} {kvs : List (Key × D)} (h : ms[n]? = some (l, MO.dic kvs)) : DicR K F ms (.ref l) kvs := .inl (.inr ⟨n, l, rfl, h⟩)
theorem DicR.lck {n : Nat} {l : Addr} {od : Obj} {vs : List (Key × V)} {kvs : List (Key × D)} (h : ms[n]? = some (l, MO.raw (.frz od (.dK vs)))) (r : RepK K F kvs vs) : DicR K F ms (.ref l) kvs := .inr ⟨n, l, od, vs, rfl, h, r⟩
theorem ae_dgetR (h : AE Γ td F ms S fun F1 ms1 x => AE Γ ty F1 ms1 S fun F2 ms2 y => ∃ k kvs d, keyD y = some k ∧ DicR Γ.K F2 ms2 x kvs ∧ valD kvs k = some d ∧ Q F2 ms2 d) : AE Γ (tDGet td ty) F ms S Q := fun R σ H Qc hs hh x k =>
  h R σ H _ hs hh x fun F1 ms1 d1 v1 H1 e1 h1 r1 q1 => q1 R σ H1 _ (hs.mono e1) h1 (x.ex e1) fun F2 ms2 y vy H2 e2 h2 r2 ⟨key, kvs, d, hk, hd, hv, q⟩ => by
    obtain ⟨a, vs, rfl, ha, rk⟩ := hd.to h2 (r1.mono e2)
    have ey := key_rep r2 hk
    subst ey
    rcases rk.val key with ⟨z, _⟩ | ⟨d', v', z1, z2, z3⟩
    · rw [hv] at z; cases z
    · rw [hv] at z1
      cases z1
      exact ⟨a, v', rfl, .inl ⟨vs, key, ha, rfl, z2.symm⟩, k F2 ms2 d v' H2 (e1.trans e2) h2 z3 q⟩
theorem ae_dget2R (h : AE Γ td F ms S fun F1 ms1 x => ∃ kvs, DicR Γ.K F1 ms1 x kvs ∧ AE Γ ty F1 ms1 S fun F2 ms2 y => AE Γ tx F2 ms2 S fun F3 ms3 z => ∃ k, keyD y = some k ∧ DicR Γ.K F3 ms3 x kvs ∧ Q F3 ms3 ((valD kvs k).getD z)) : AE Γ (tDGet2 td ty tx) F ms S Q := fun R σ H Qc hs hh x k =>
  h R σ H _ hs hh x fun F1 ms1 d1 v1 H1 e1 h1 r1 ⟨kvs, hd0, q1⟩ => by
    obtain ⟨a, vs, rfl, ha, rk⟩ := hd0.to h1 r1
    refine ⟨a, rfl, .inl ⟨vs, ha⟩, q1 R σ H1 _ (hs.mono e1) h1 (x.ex e1) fun F2 ms2 y vy H2 e2 h2 r2 q2 => q2 R σ H2 _ (hs.mono (e1.trans e2)) h2 (x.ex (e1.trans e2)) fun F3 ms3 z vz H3 e3 h3 r3 ⟨key, hk, hd, q⟩ => ?_⟩
    obtain ⟨a', vs', ea, ha', rk'⟩ := hd.to h3 (r1.mono (e2.trans e3))
    cases ea
    have ey := key_rep (r2.mono e3) hk
    subst ey
    refine ⟨_, .inl ⟨vs', key, ha', rfl, rfl⟩, k F3 ms3 _ _ H3 ((e1.trans e2).trans e3) h3 ?_ q⟩
    rcases rk'.val key with ⟨z1, z2⟩ | ⟨d', v', z1, z2, z3⟩
    · rw [z1, z2]; exact r3
    · rw [z1, z2]; exact z3
/-- an unnamed dict, locked -/
theorem ae_lockV (h : AE Γ te F ms S fun F1 ms1 x => ∃ (n : Nat) (l : Addr) (kvs : List (Key × D)), x = .ref l ∧ ms1[n]? = some (l, .dic kvs) ∧ ∀ od vs, RepK Γ.K F1 kvs vs → Q F1 (ms1.set n (l, .raw (.frz od (.dK vs)))) (.ref l)) : AE Γ (tLockV te) F ms S Q := fun R σ H Qc hs hh x k =>
  h R σ H _ hs hh x fun F1 ms1 d1 v1 H1 e1 h1 r1 ⟨n, l, kvs, hx, hn, q⟩ => by
    subst hx
    cases r1
    obtain ⟨_, vs, ha, rk⟩ := h1.at (get_app hn)
    refine ⟨l, .dK vs, rfl, ha, True.intro, fun od => ?_⟩
    have h2 := h1.set (m' := .raw (.frz od (.dK vs))) (o := .frz od (.dK vs)) (get_app hn) upd_same
    rw [set_app hn] at h2
    exact k F1 _ (.ref l) _ _ e1 h2 (.ref l) (q od vs rk)
/-- isinstance of a dict -/
theorem ac_isiD {x : D} {kvs : List (Key × D)} {n : String} {b : Bool} (hx : DicR K F ms x kvs) (hk : kitB "dict" n = some b) (q : Q F ms (.bl b)) : AC K (rIsi K) [x, .ty n] F ms Q := fun R vs H Qc hv hh k => by
  cases hv with
  | cons h1 h2 =>
    cases h2 with
    | cons h2 h3 =>
      cases h3
      cases h2
      obtain ⟨a, ws, rfl, ha, _⟩ := hx.to hh h1
      refine ⟨.ref a, .ty n, .type "dict", .type n, b, rfl, ClsV.ty n, ?_, kit_ty hk, k F ms _ _ H Ex.refl hh (.bl _) q⟩
      rcases ha with ha | ⟨o, ha⟩
      · exact .base (.dK ha)
      · exact .fDict ha
noncomputable def rSRTD (K : Frg) : List V → Hp → VK → Prop := fun xs H Q => ∃ (a : Addr) (kvs : List (Key × V)) (ks : List Str), xs = [.ref a] ∧ Rd H a (.dK kvs) ∧ kvs.map (·.1) = ks.map Sum.inr ∧ ks.length < 64 ∧ ∀ ys p, ys.Perm ks → sortedS ys = true → H p = none → Q (.ref p) (upd H p (.lst (ys.map V.str)))
theorem kSRTD {X : Cx} (h : X.K = K) (hc : X.calm = true) : CallR X (.builtin "sorted") (rSRTD K) := call_sortedD hc
theorem keys_rep : ∀ {kvs : List (Key × D)} {vs : List (Key × V)}, RepK K F kvs vs → vs.map (·.1) = kvs.map (·.1)
  | _, _, .nil => rfl
  | _, _, .cons _ r => by rw [List.map_cons, List.map_cons, keys_rep r]
theorem ac_sortD {x : D} {kvs : List (Key × D)} {ks : List Str} (hx : DicR K F ms x kvs) (hk : kvs.map (·.1) = ks.map Sum.inr) (hz : ks.length < 64) (q : ∀ F' (ys : List Str), Ex F F' → ys.Perm ks → sortedS ys = true → Q F' ms (.lst (ys.map D.str))) : AC K (rSRTD K) [x] F ms Q := ac1 fun R v H Qc hv hh k => by
  obtain ⟨a, vs, rfl, ha, rk⟩ := hx.to hh hv
  refine ⟨a, vs, ks, rfl, ha, (keys_rep rk).trans hk, hz, fun ys p y1 y2 hp => ?_⟩
  obtain ⟨e2, h2⟩ := hh.laid (.lst (ys.map V.str)) hp
  exact k _ ms (.lst _) _ _ e2 h2 (.lst upd_same (rep_strl ys)) (q _ ys e2 y1 y2)
noncomputable def rDICTD (K : Frg) : List V → Hp → VK → Prop := fun xs H Q => ∃ (a : Addr) (kvs : List (Key × V)), xs = [.ref a] ∧ Rd H a (.dK kvs) ∧ ∀ p, H p = none → Q (.ref p) (upd H p (.dK kvs))
theorem kDICTD {X : Cx} (h : X.K = K) : CallR X (.type "dict") (rDICTD K) := call_dictD
theorem ac_dictD {x : D} {kvs : List (Key × D)} (hx : DicR K F ms x kvs) (q : ∀ l, Q F ((l, .dic kvs) :: ms) (.ref l)) : AC K (rDICTD K) [x] F ms Q := ac1 fun R v H Qc hv hh k => by
  obtain ⟨a, vs, rfl, ha, rk⟩ := hx.to hh hv
  exact ⟨a, vs, rfl, ha, fun p hp => k F _ (.ref p) _ _ Ex.refl (hh.made (m := .dic kvs) hp ⟨vs, upd_same, rk⟩) (.ref p) (q p)⟩
noncomputable def rMAXL (K : Frg) : List V → Hp → VK → Prop := rMax K
theorem kMAXL {X : Cx} (h : X.K = K) (hc : X.calm = true) : CallR X (.builtin "max") (rMAXL K) := h ▸ cr_max hc
theorem ac_maxL {d : D} {ns : List Int} (hl : LstA F ms d (ns.map D.int)) (h0 : 0 < ns.length) (q : ∀ m, m ∈ ns → (∀ y, y ∈ ns → y ≤ m) → Q F ms (.int m)) : AC K (rMAXL K) [d] F ms Q := ac1 fun R v H Qc hv hh k => by
  obtain ⟨a, us, rfl, ha, rr⟩ := hl.to hh hv
  have e := rep_ints rr
  subst e
  exact ⟨a, ns, rfl, ha, h0, fun m h1 h2 => k F ms _ _ H Ex.refl hh (.int m) (q m h1 h2)⟩
theorem flat_strs (xs : List Str) : (xs.map V.str).all flatV = true := by
  induction xs with
  | nil => rfl
  | cons b bs ih => rw [List.map_cons, List.all_cons, ih]; rfl
theorem am_countS {d : D} {xs : List Str} {z : Str} (hl : LstA F ms d (xs.map D.str)) (q : Q F ms (.int (xs.countP (fun c => decide (c = z)) : Nat))) : AM K "list" (rCntF K) d [.str z] F ms Q := fun R u vs H Qc hu hv hh k => by
  obtain ⟨a, us, rfl, ha, rr⟩ := hl.to hh hu
  have e := rep_strs rr
  subst e
  cases hv with
  | cons h1 h2 =>
    cases h2
    cases h1
    refine ⟨a, _, _, rfl, rfl, ha, rfl, flat_strs xs, ?_⟩
    have e : (xs.map V.str).countP (fun y => eqV y (.str z)) = xs.countP (fun c => decide (c = z)) := by
      rw [List.countP_map]
      rfl
    rw [e]
    exact k F ms _ _ H Ex.refl hh (.int _) q
end
end AL

set_option Elab.async false
set_option linter.all false
set_option maxRecDepth 100000
set_option maxHeartbeats 4000000
/-! list(d.items()); a dict displayed; two dicts compared -/
namespace AL
open PySem PySem.Spec L2 PyProof.Rows LiI
section
variable {K : Frg} {F H H' : Hp} {ms : Ms}
end
section
variable {Γ : Cg} {K : Frg} {F : Hp} {ms : Ms} {S : Sg} {Q : QE} {ta tb te tx tv td ty tk : TE} {A : AEnds}
noncomputable def rNED (K : Frg) : R2 := fun x y H Q => rNeDA x y H Q
theorem kNED {X : Cx} (h : X.K = K) (hu : X.A.units + 64 < cLine) : OpR X (compareOp .NotEq) (rNED K) := op_ne_dictA (by omega)
theorem repK_ints : ∀ {m : List (Key × Int)} {vs : List (Key × V)}, RepK K F (m.map fun p => (p.1, D.int p.2)) vs → vs = m.map fun p => (p.1, V.int p.2)
  | [], _, .nil => rfl
  | p :: m, _, .cons h r => by
    cases h
    rw [List.map_cons, ← repK_ints r]
theorem valV_nd : ∀ {m : List (Key × Int)}, (m.map (·.1)).Nodup → ∀ p ∈ m, valV (m.map fun p => (p.1, V.int p.2)) p.1 = some (V.int p.2)
  | [], _, p, hp => (List.not_mem_nil hp).elim
  | q :: m, nd, p, hp => by
    rw [List.map_cons, List.nodup_cons] at nd
    unfold valV
    rw [List.map_cons, List.find?_cons]
    rcases List.mem_cons.mp hp with rfl | hp
    · rw [decide_eq_true rfl]
      rfl
    · have hne : q.1 ≠ p.1 := fun e => nd.1 (List.mem_map.mpr ⟨p, hp, e.symm⟩)
      rw [decide_eq_false hne]
      exact valV_nd nd.2 p hp
/-- d != e, the same entries in both -/
theorem ar_NEdic {x y : D} {m : List (Key × Int)} {n n' : Nat} {l l' : Addr} (hx : ms[n]? = some (l, .dic (m.map fun p => (p.1, D.int p.2)))) (hy : ms[n']? = some (l', .dic (m.map fun p => (p.1, D.int p.2)))) (nd : (m.map (·.1)).Nodup) (q : Q F ms (.bl false)) : AR K (rNED K) (.ref l) (.ref l') F ms Q := fun R u v H Qc hu hv hh k => by
  cases hu
  cases hv
  obtain ⟨_, vs, ha, rk⟩ := hh.at (get_app hx)
  obtain ⟨_, vs', ha', rk'⟩ := hh.at (get_app hy)
  have e1 := repK_ints rk
  have e2 := repK_ints rk'
  subst e1 e2
  refine ⟨l, l', _, _, rfl, rfl, ha, ha', rfl, fun p hp => ?_, k F ms _ _ H Ex.refl hh (.bl _) q⟩
  obtain ⟨p0, hp0, rfl⟩ := List.mem_map.mp hp
  exact ⟨valV_nd nd p0 hp0, rfl⟩
end
end AL

set_option Elab.async false
set_option linter.all false
set_option maxRecDepth 100000
set_option maxHeartbeats 4000000
/-! errors with attributes: made by their own __init__, raised -/
namespace L2
open PySem PySem.Spec PyProof.Rows
/-- B.__init__(self, ..), B an own class over ValueError that has none of its own -/
structure SInit (K : PySem.W.Frag) (B : Addr) : Prop where
  rd : PySem.W.readsIn K B (.type "type") = true
  ga : PySem.W.specialIn K (.ref B) "__getattribute__" = some (some (.builtin "type.__getattribute__"))
  at_ : PySem.W.findCls K (.ref B) (.type "type") "__init__" = some (.val (.builtin "ValueError.__init__"))
/-- an own error class whose __init__ is walked -/
structure XCls (K : PySem.W.Frag) (C fI : Addr) : Prop where
  ox : OexC K C
  iC : PySem.W.findIn K (.ref C) "__init__" = some (some (.ref fI))
  tI : PySem.W.typeIn K (.ref fI) = some (.type "function")
section
variable {X : Cx} {o e : Expr} {es : List Expr} {to te : TE} {ta : TA} {f : Str} {p p' p1 p2 pos : Pos} {B : Addr}
end
/-- what the __init__ of an error with one attribute does -/
noncomputable def spI1 (C : Addr) (f : Str) : Sp := fun vs H Q _ => ∃ a v, vs = [.ref a, v] ∧ H a = some (exo a C none) ∧ ∀ d, H d = none → d ≠ a → Q .non (upd (upd H d (exd d [(f, v)])) a (exo a C (some d)))
/-- .. with two -/
noncomputable def spI2 (C : Addr) (f g : Str) : Sp := fun vs H Q _ => ∃ a v u, vs = [.ref a, v, u] ∧ H a = some (exo a C none) ∧ ∀ d, H d = none → d ≠ a → Q .non (upd (upd (upd H d (exd d [(f, v)])) a (exo a C (some d))) d (exd d [(g, u), (f, v)]))
section
variable {P : Program} {w : World} {K : PySem.W.Frag} {mg : Str → Option Value} {base : Heap}
end
end L2
namespace AL
open PySem PySem.Spec L2 PyProof.Rows
section
variable {Γ : Cg} {F : Hp} {ms : Ms} {S : Sg} {A : AEnds} {ta : TA}
theorem Hold.xd {K : Frg} {F H : Hp} {ms : Ms} (h : Hold K F ms H) {d : Addr} (o : HO) (hd : H d = none) : Ex F (upd F d o) ∧ Hold K (upd F d o) ms (upd H d o) := h.laid o hd
end
/-! ### the reading of the __init__s -/
section
end
end AL

set_option Elab.async false
set_option linter.all false
set_option maxRecDepth 100000
set_option maxHeartbeats 4000000
/-! the caught error and its attributes; what a def makes of a call that may raise, told of all errors -/
namespace L2
open PySem PySem.Spec PyProof.Rows
/-- isinstance(e, c), e the caught exception with a dict at dd -/
noncomputable def rIsEX (K : PySem.W.Frag) (D a dd : Addr) : List V → Hp → VK → Prop := fun xs H Q => ∃ (c : V) (cv : Value) (b : Bool) (fs : List (Str × V)), xs = [.ref a, c] ∧ (∀ u, RelV c u → u = cv) ∧ PySem.W.kitOne K (.ref D) cv = some b ∧ H dd = some (.xd fs) ∧ Q (.bl b) H
end L2
namespace AL
open PySem PySem.Spec L2 LamX LamY PyProof.Rows
section
variable {K : Frg} {F : Hp} {ms : Ms} {Q : QE}
end
section
variable {Γ : Cg} {F : Hp} {ms : Ms} {S : Sg} {Q : QE} {te : TE}
end
/-- what a def makes of a call: None, or what R tells of the error that it raises -/
noncomputable def TTX (K : Frg) (R : Addr → List (Str × AL.D) → AL.D → Prop) : (XK → Hp → VK → Prop) → Hp → VK → Prop := fun tl H Q => ∃ (F : Hp) (ms : Ms), Hold K F ms H ∧
  ∀ (E : XK) (Q' : VK), (∀ H' F' ms' C dx fs res, Ex F F' → Hold K F' ms' H' → XDat K F' H' dx fs → R C fs res → (∀ F2 v H2, Ex F' F2 → Hold K F2 ms' H2 → Rep K F2 res v → Q v H2) → E (.ref C) dx H') →
    (∀ H' F' ms' v, Ex F F' → Hold K F' ms' H' → (∀ F2 v H2, Ex F' F2 → Hold K F2 ms' H2 → Rep K F2 .non v → Q v H2) → Q' v H') → tl E H Q'
section
variable {Γ : Cg} {F : Hp} {ms : Ms} {S : Sg} {Q : QE}
end
end AL

set_option Elab.async false
set_option linter.all false
set_option maxRecDepth 100000
set_option maxHeartbeats 4000000
/-! len of a dict; pop(); a method without arguments -/
namespace AL
open PySem PySem.Spec L2 PyProof.Rows
section
variable {Γ : Cg} {K : Frg} {F : Hp} {ms : Ms} {S : Sg} {Q : QE}
noncomputable def rLEND (K : Frg) : List V → Hp → VK → Prop := fun xs H Q => ∃ (a : Addr) (kvs : List (Key × V)), xs = [V.ref a] ∧ H a = some (.dK kvs) ∧ Q (.int kvs.length) H
end
end AL
namespace AL
open PySem PySem.Spec L2 PyProof.Rows
section
variable {K : Frg} {F : Hp} {ms : Ms} {Q : QE}
end
end AL
namespace L2
open PySem PySem.Spec PyProof.Rows
section
variable {X : Cx}
theorem ps_setDc {i : Nat} {y : Str} {py : Pos} {kx vx tg iter : Expr} {ifs : List Expr} {scope : Scope} {own : List (Str × Nat)} {pos spos : Pos} {wi : TI} {g : TG} {tt : TT} {tk tv : TE} (hc : X.calm = true) (hN : X.N.Nodup) (hy : X.N[i]? = some y) (hyl : X.env.scope.names.lookup y = some .local)
    (hsw : swapsWith (.DictComp kx vx [⟨tg, iter, ifs, 0⟩] scope pos) (some (.Name y py)) spos.line X.env = pure true) (hi : PI X tg iter wi) (ok : BlkOk X.N X.env.scope scope own)
    (hg : ∀ (s : Shared) (H : Hp) (C : Addr) (cl : List (Str × Addr)) (fp : List Addr), PG (X.blk s H scope (compEnvC scope cl C X.env) fp) tg g) (ht : ∀ (s : Shared) (H : Hp) (C : Addr) (cl : List (Str × Addr)) (fp : List Addr), PTs (X.blk s H scope (compEnvC scope cl C X.env) fp) ifs tt)
    (hk : ∀ (s : Shared) (H : Hp) (C : Addr) (cl : List (Str × Addr)) (fp : List Addr), PE (X.blk s H scope (compEnvC scope cl C X.env) fp) kx tk)
    (he : ∀ (s : Shared) (H : Hp) (C : Addr) (cl : List (Str × Addr)) (fp : List Addr), PE (X.blk s H scope (compEnvC scope cl C X.env) fp) vx tv) (hs : ∀ x, foldedSetIterable iter X.env x = pure x := by intro _; rfl) :
    PS X (.Assign [.Name y py] (.DictComp kx vx [⟨tg, iter, ifs, 0⟩] scope pos) spos) (tAsg (tDc wi g tt tk tv (own.map (·.2))) (gName i)) := by
  refine ⟨fun pins s σ H D I h => ?_⟩
  rw [exec_Assign_Name_used _ _ _ _ hsw]
  refine wpAny_bind (wpAny_standAt (wpAny_bind ?_))
  show wpAny _ X.A (do let _ ← comprehension (.DictComp kx vx [⟨tg, iter, ifs, 0⟩] scope pos) scope X.env (firstIterPos [⟨tg, iter, ifs, 0⟩] pos) newDict false (eval iter X.env) (some (assign (.Name y py) X.env))) _ _ s
  have h : tDc wi g tt tk tv (own.map (·.2)) σ H (fun x H1 => gName i x σ H1 D.nx) := h
  refine wpAny_bind (thn (dc_core (Qf := fun _ s' => SP X pins D .next s') hc hN I hi ok hg ht hk he hs h fun L C s' m H' I' q hn f => ?_) fun _ s' hq => wpAny_pure (wpAny_pure hq))
  show wpAny _ _ (assign (.Name y py) X.env (.ref L)) _ _ _
  refine wpAny_assign_Name (store_ok2 (v := V.ref L) I' hN hy (.inl hyl) rfl (fun s2 I2 ⟨a, sb, ha⟩ => ?_) (.inr hyl))
  obtain ⟨f0, f1, f2, f3, f4, f5⟩ := f
  have haC : C ≠ a := by
    rcases ha with z | z
    · rw [z]; exact f1
    · exact fun e => f4 y a z e.symm
  refine ⟨m, hn.sameBut sb haC, fun h3 sb3 => ?_⟩
  exact ⟨_, H', I2.turned (t' := s2.toks) (fun b o hb e => (sb3.2 b hb).trans e) f0 f1 f3 f4 f5, q⟩
end
end L2

set_option Elab.async false
set_option linter.all false
set_option maxRecDepth 100000
set_option maxHeartbeats 4000000
/-! dicts whose keys are tuples, nested: an own object of the heap (HO.ext) -/
namespace ND
open PySem PySem.Spec PyProof.Rows L2
noncomputable abbrev NK := PySem.NestedKey
noncomputable abbrev Ent := NK × Addr × Value
noncomputable def Raw (P : Program) (w : World) (a : Addr) (xs : List Ent) : Heap → Prop := fun h => ((a == sysModules) = false ∧ xs.length ≤ sizeLine) ∧ ∃ o es ep, h.get? a = some o ∧ o.ExactDict ∧ o.data = .dict es ep ∧ es.toList = xs.map (entryOfKey (nestedKind P w)) ∧ (xs.map (·.1)).Nodup
noncomputable def NDO (P : Program) (w : World) (a : Addr) (xs : List Ent) : HO := .ext (Raw P w a xs)
theorem ndo_ok {P : Program} {w : World} {H : Hp} {h : Heap} {a : Addr} {xs : List Ent} (r : Raw P w a xs h) : ObjOk P w H h a (NDO P w a xs) :=
  ⟨r, let ⟨_, o, _, _, ho, _⟩ := r; ⟨o, ho⟩, fun h1 h2 ⟨z, o, es, ep, ho, q⟩ st => ⟨z, o, es, ep, st o ho, q⟩⟩
theorem raw_rd {P : Program} {w : World} {H : Hp} {h : Heap} {a : Addr} {xs : List Ent} (ok : HOk P w H h) (e : Rd H a (NDO P w a xs)) : Raw P w a xs h := (show ObjOk P w H h a (NDO P w a xs) from e.ok ok).1
mutual
inductive VKey (K : PySem.W.Frag) (H : Hp) : NK → V → Prop
  | non : VKey K H .none .non
  | int (i : Int) : VKey K H (.num i) (.int i)
  | text (x : Str) : VKey K H (.text x) (.str x)
  | tup {a : Addr} {us : List V} {ks : List NK} : SqT K H a us → VKeys K H ks us → VKey K H (.tup ks) (.ref a)
inductive VKeys (K : PySem.W.Frag) (H : Hp) : List NK → List V → Prop
  | nil : VKeys K H [] []
  | cons {k : NK} {v : V} {ks : List NK} {vs : List V} : VKey K H k v → VKeys K H ks vs → VKeys K H (k :: ks) (v :: vs)
end
section
variable {X : Cx} {pins : List (Addr × Obj)} {σ : L2.St} {H H' : Hp} {s : Shared}
theorem sqt_obj (I : Inv X pins σ H s) {a : Addr} {us : List V} (h : SqT X.K H a us) : ∃ o its n, s.heap.get? a = some o ∧ o.cls = .type "tuple" ∧ o.data = .seq its n ∧ Vals us its.toList := by
  rcases h with h | ⟨o, its, n, h1, h2, h3, _, h5⟩
  · obtain ⟨_, its, r, o, h1, h2, n, h3⟩ := (show ObjOk X.prog X.w H s.heap a (.tup us) from h.ok I.hok)
    exact ⟨o, its.toArray, n, h1, h2, h3, r⟩
  · exact ⟨o, its, n, I.kIn _ _ h1, h2, h3, h5⟩
mutual
theorem VKey.is (I : Inv X pins σ H s) : ∀ (k : NK) (v : V) (u : Value), VKey X.K H k v → RelV v u → NestedIs s.heap k u
  | .none, _, _, h, r => by
    cases h
    cases r
    exact .none
  | .num i, _, _, h, r => by
    cases h
    obtain ⟨t, rfl⟩ := r
    exact .int i t
  | .text x, _, _, h, r => by
    cases h
    obtain ⟨t, rfl⟩ := r
    exact .text x t
  | .tup ks, _, _, h, r => by
    cases h with
    | tup hq hk =>
      cases r
      obtain ⟨o, its, n, h1, h2, h3, h4⟩ := sqt_obj I hq
      exact .tup h1 h2 h3 (VKeys.is I ks _ _ hk h4)
theorem VKeys.is (I : Inv X pins σ H s) : ∀ (ks : List NK) (vs : List V) (us : List Value), VKeys X.K H ks vs → Vals vs us → NestedAll s.heap ks us
  | [], _, _, h, r => by
    cases h
    cases r
    exact .nil
  | k :: ks, _, _, h, r => by
    cases h with
    | cons h1 h2 =>
      cases r with
      | cons r1 r2 => exact .cons (VKey.is I k _ _ h1 r1) (VKeys.is I ks _ _ h2 r2)
end
mutual
theorem VKey.mono {K : PySem.W.Frag} (e : ∀ a us, SqT K H a us → SqT K H' a us) : ∀ (k : NK) (v : V), VKey K H k v → VKey K H' k v
  | .none, _, h => by cases h; exact .non
  | .num i, _, h => by cases h; exact .int i
  | .text x, _, h => by cases h; exact .text x
  | .tup ks, _, h => by
    cases h with
    | tup hq hk => exact .tup (e _ _ hq) (VKeys.mono e ks _ hk)
theorem VKeys.mono {K : PySem.W.Frag} (e : ∀ a us, SqT K H a us → SqT K H' a us) : ∀ (ks : List NK) (vs : List V), VKeys K H ks vs → VKeys K H' ks vs
  | [], _, h => by cases h; exact .nil
  | k :: ks, _, h => by
    cases h with
    | cons h1 h2 => exact .cons (VKey.mono e k _ h1) (VKeys.mono e ks _ h2)
end
end
/-- the dict's table: keys, values -/
noncomputable abbrev KN (K : PySem.W.Frag) (H : Hp) : List (NK × V) → List Ent → Prop := Paired fun p q => p.1 = q.1 ∧ (VKey K H q.1 (.ref q.2.1) ∧ q.1.depth ≤ 8) ∧ RelV p.2 q.2.2
section
variable {K : PySem.W.Frag} {H H' : Hp}
theorem KN.val {kvs : List (NK × V)} {xs : List Ent} (r : KN K H kvs xs) (k : NK) : RelO (valV kvs k) ((atKey xs k).map (·.2)) := by
  induction r with
  | nil => exact True.intro
  | @cons p q ps qs h t ih =>
    obtain ⟨h1, _, h2⟩ := h
    by_cases e : p.1 = k
    · have e' : q.1 = k := h1.symm.trans e
      have b : atKey (q :: qs) k = some q.2 := by simp [atKey, List.find?_cons, e']
      rw [valV_pos e, b]; exact h2
    · have e' : ¬ q.1 = k := fun z => e (h1.trans z)
      have b : atKey (q :: qs) k = atKey qs k := by simp [atKey, List.find?_cons, e']
      rw [valV_neg e, b]; exact ih
theorem KN.repl {kvs : List (NK × V)} {xs : List Ent} (r : KN K H kvs xs) (k : NK) {y : V} {u : Value} (ry : RelV y u) :
    KN K H (kvs.map fun kv => if kv.1 = k then (kv.1, y) else kv) (xs.map (putAt k u)) := by
  induction r with
  | nil => exact .nil
  | @cons p q ps qs h t ih =>
    rw [List.map_cons, List.map_cons]
    refine .cons ?_ ih
    obtain ⟨h1, h2, h3⟩ := h
    unfold putAt
    by_cases e : p.1 = k
    · rw [if_pos e, if_pos (h1.symm.trans e)]; exact ⟨h1, h2, ry⟩
    · rw [if_neg e, if_neg (fun z => e (h1.trans z))]; exact ⟨h1, h2, h3⟩
theorem KN.put {kvs : List (NK × V)} {xs : List Ent} (r : KN K H kvs xs) (k : NK) {b : Addr} {y : V} {u : Value} (hb : VKey K H k (.ref b)) (hd : k.depth ≤ 8) (ry : RelV y u) :
    KN K H (putK kvs k y) (storedH xs k b u) := by
  have e : (kvs.any fun kv => decide (kv.1 = k)) = (atKey xs k).isSome := by
    rw [valV_any, (r.val k).isSome_eq, Option.isSome_map]
  unfold putK storedH
  rw [e]
  by_cases q : (atKey xs k).isSome = true
  · rw [if_pos q, if_pos q]; exact r.repl k ry
  · rw [if_neg q, if_neg q]; exact Paired.snoc r ⟨rfl, ⟨hb, hd⟩, ry⟩
theorem KN.mono {kvs : List (NK × V)} {xs : List Ent} (r : KN K H kvs xs) (e : ∀ a us, SqT K H a us → SqT K H' a us) : KN K H' kvs xs :=
  Paired.mapP r fun _ _ z => ⟨z.1, ⟨VKey.mono e _ _ z.2.1.1, z.2.1.2⟩, z.2.2⟩
end
section
variable {X : Cx} {pins : List (Addr × Obj)} {σ : L2.St} {H : Hp} {s : Shared} {a b : Addr} {xs : List Ent} {kvs : List (NK × V)} {k : NK} {v : V} {r : Value} {A : Around} {E : Value → Shared → Prop}
theorem KN.dict (I : Inv X pins σ H s) (rw_ : Raw X.prog X.w a xs s.heap) (kn : KN X.K H kvs xs) : s.heap.DictOfH (nestedKind X.prog X.w) a xs := by
  obtain ⟨_, o, es, ep, h1, h2, h3, h4, h5⟩ := rw_
  refine ⟨o, es, ep, h1, h2, h3, h4, fun x hx => ?_, h5⟩
  have all : ∀ {l : List (NK × V)} {m : List Ent}, KN X.K H l m → ∀ x ∈ m, (nestedKind X.prog X.w).is s.heap x.1 x.2.1 := by
    intro l m q
    induction q with
    | nil => intro x hx; exact nomatch hx
    | @cons p q ps qs hq t ih =>
      intro x hx
      rcases List.mem_cons.mp hx with e | hx
      · subst e
        exact ⟨VKey.is I _ _ _ hq.2.1.1 rfl, hq.2.1.2⟩
      · exact ih x hx
  exact all kn x hx
theorem room {A : Around} (hu : A.units + 16 < cLine) : (nestedKind X.prog X.w).room A.in1 := by
  show A.in1.units + 8 < cLine
  have : A.in1.units ≤ A.units + 1 := Nat.le_of_eq rfl
  omega
end
end ND

set_option Elab.async false
set_option linter.all false
set_option maxRecDepth 100000
set_option maxHeartbeats 4000000
/-! dicts of nested tuple keys: the statements' rules -/
namespace ND
open PySem PySem.Spec PyProof.Rows L2
section
variable {P : Program} {w : World} {K : PySem.W.Frag}
noncomputable def tNGet (P : Program) (w : World) (K : PySem.W.Frag) (td ty : TE) : TE := fun σ H Q => td σ H fun x H1 => ty σ H1 fun y H2 => ∃ (a b : Addr) (xs : List Ent) (kvs : List (NK × V)) (k : NK) (v : V), x = .ref a ∧ y = .ref b ∧ Rd H2 a (NDO P w a xs) ∧ KN K H2 kvs xs ∧ VKey K H2 k (.ref b) ∧ k.depth ≤ 8 ∧ valV kvs k = some v ∧ Q v H2
noncomputable def tNGet2 (P : Program) (w : World) (K : PySem.W.Frag) (td ty tx : TE) : TE := fun σ H Q => td σ H fun x H1 => ∃ (a : Addr) (xs : List Ent), x = .ref a ∧ Rd H1 a (NDO P w a xs) ∧ ty σ H1 fun y H2 => tx σ H2 fun z H3 => ∃ (b : Addr) (xs : List Ent) (kvs : List (NK × V)) (k : NK), y = .ref b ∧ Rd H3 a (NDO P w a xs) ∧ KN K H3 kvs xs ∧ VKey K H3 k (.ref b) ∧ k.depth ≤ 8 ∧ Q ((valV kvs k).getD z) H3
noncomputable def sNPut (P : Program) (w : World) (K : PySem.W.Frag) (td ty tv : TE) : TS := fun D σ H => tv σ H fun v H1 => td σ H1 fun x H2 => ty σ H2 fun y H3 => ∃ (a b : Addr) (xs : List Ent) (kvs : List (NK × V)) (k : NK), x = .ref a ∧ y = .ref b ∧ H3 a = some (NDO P w a xs) ∧ KN K H3 kvs xs ∧ VKey K H3 k (.ref b) ∧ k.depth ≤ 8 ∧ kvs.length < sizeLine ∧
  ∀ u, RelV v u → D.nx σ (upd H3 a (NDO P w a (storedH xs k b u)))
noncomputable def tNNew (P : Program) (w : World) : TE := fun _ H Q => ∀ p, H p = none → Q (.ref p) (upd H p (NDO P w p []))
end
theorem nd_empty {P : Program} {w : World} {H : Hp} (h : Heap) (hb : sysModules < h.objs.size) : ObjOk P w H (h.push { cls := .type "dict", data := .dict #[] }) h.objs.size (NDO P w h.objs.size []) :=
  ndo_ok ⟨⟨beq_eq_false_iff_ne.mpr (Ne.symm (Nat.ne_of_lt hb)), Nat.zero_le _⟩, _, #[], 0, Heap.get?_push_size _ rfl, ⟨rfl, rfl, rfl⟩, rfl, rfl, List.nodup_nil⟩
section
variable {X : Cx} {K : PySem.W.Frag} {o i e f value : Expr} {pos pos' apos cpos : Pos} {td ty tv tx : TE}
end
/-! ### for .. in d.items() -/
section
variable {X : Cx} {pins : List (Addr × Obj)} {σ : L2.St} {H : Hp} {s : Shared} {d : Addr} {o : Obj} {xs : List Ent}
end
/-- the pairs, each a new tuple: the key's own tuple, the value -/
noncomputable def Itn (P : Program) (w : World) (d : Addr) (o : Obj) (xs : List Ent) (vs : List V) : It :=
  ⟨fun i H => H d = some (.frz o (NDO P w d xs)) ∧ i < xs.length, fun i H x H' => ∃ T y v, xs[i]? = some y ∧ vs[i]? = some v ∧ x = .ref T ∧ H T = none ∧ H' = upd H T (.tup [.ref y.2.1, v]), fun i H => H d = some (.frz o (NDO P w d xs)) ∧ xs.length ≤ i⟩
noncomputable abbrev VsOf : List V → List Ent → Prop := Paired fun v q => RelV v q.2.2
noncomputable def iNItems (P : Program) (w : World) (td : TE) : TI := fun σ H R => td σ H fun x H1 => ∃ (d : Addr) (o : Obj) (xs : List Ent) (vs : List V), x = .ref d ∧ H1 d = some (.frz o (NDO P w d xs)) ∧ VsOf vs xs ∧ R (Itn P w d o xs vs) H1
section
variable {X : Cx} {e : Expr} {td : TE} {apos cpos : Pos}
end
end ND

set_option Elab.async false
set_option linter.all false
set_option maxRecDepth 100000
set_option maxHeartbeats 4000000
/-! comprehensions that make a dict of nested tuple keys: one loop, two loops -/
namespace ND
open PySem PySem.Spec PyProof.Rows L2
/-- what storing k: v into the new dict at D asks, and what it leaves -/
noncomputable def Sto (P : Program) (w : World) (K : PySem.W.Frag) (D : Addr) (y z : V) (H : Hp) (Nx : Hp → Prop) : Prop := ∃ (b : Addr) (xs : List Ent) (kvs : List (NK × V)) (k : NK), y = .ref b ∧ H D = some (NDO P w D xs) ∧ KN K H kvs xs ∧ VKey K H k (.ref b) ∧ k.depth ≤ 8 ∧ kvs.length < sizeLine ∧
  ∀ u, RelV z u → Nx (upd H D (NDO P w D (storedH xs k b u)))
theorem sto_ok {X : Cx} {pins : List (Addr × Obj)} {σ : L2.St} {H : Hp} {s : Shared} {E : Value → Shared → Prop} {D : Addr} {y z : V} {u r : Value} {Nx : Hp → Prop} {Q : Unit → Shared → Prop} (hu : X.A.units + 16 < cLine) (I : Inv X pins σ H s) (ry : RelV y u) (rv : RelV z r) (h : Sto X.prog X.w X.K D y z H Nx)
    (q : ∀ s' H', Inv X pins σ H' s' → Nx H' → Q () s') : wpAny (model X.prog X.w) X.A (dictSet D u r) Q E s := by
  obtain ⟨b, xs, kvs, k, rfl, hD, kn, hk, hd, hz, nx⟩ := h
  obtain rfl : u = Value.ref b := ry
  have rw_ := raw_rd I.hok (.inl hD)
  have hz' : xs.length ≤ sizeLine := by rw [← Paired.length kn]; exact Nat.le_of_lt hz
  refine wpAny_dictSet_heap (hsz := hz') (knd := nestedKind X.prog X.w) (by show X.A.units + 8 < cLine; omega) ⟨VKey.is I _ _ _ hk rfl, hd⟩ (kn.dict I rw_) fun h' dd' hs => ?_
  obtain ⟨o, es, ep, hq, h2, h3, h4, _, h5⟩ := dd'
  have kn' := kn.put k hk hd rv
  have hl : (storedH xs k b r).length ≤ sizeLine := by
    rw [← Paired.length kn']
    have := length_putK kvs k z
    omega
  exact q _ _ (d_write I (by rw [hD]; exact True.intro) hs ⟨o, hq⟩ (ndo_ok ⟨⟨rw_.1.1, hl⟩, o, es, ep, hq, h2, h3, h4, h5⟩)) (nx _ rv)
section
variable {prog : Program} {w : World} {A : Around} {R : Result → Shared → Prop} {s : Shared} {kx vx t0 i0 t1 i1 : Expr} {ifs0 ifs1 : List Expr} {scope : Scope} {pos : Pos} {it : Value} {D : Addr} {env : Env}
end
end ND

set_option Elab.async false
set_option linter.all false
set_option maxRecDepth 100000
set_option maxHeartbeats 4000000
/-! comprehensions that make a dict of nested tuple keys (printed by gen47.py) -/
namespace ND
open PySem PySem.Spec PyProof.Rows L2
noncomputable def tDcN (P : Program) (w : World) (K : PySem.W.Frag) (wi : TI) (g : TG) (tt : TT) (tk tv : TE) (vs : List Nat) : TE := fun σ H Q => wi σ H fun J H1 => ∀ D, H1 D = none → ∃ W : Nat → Nat → Hp → Prop, (∃ m, W 0 m (upd H1 D (NDO P w D []))) ∧ ∀ i m H, W i m H →
  (J.stop i H ∧ Q (.ref D) H) ∨ (J.go i H ∧ ∃ Nx : Hp → Prop, (∀ H', Nx H' → ∃ m', m' < m ∧ W (i + 1) m' H') ∧ ∀ x H', J.yld i H x H' → g x (wipe σ vs) H' fun σ2 H2 => wipe σ2 vs = wipe σ vs ∧ tt σ2 H2 fun b H3 =>
    if b = true then tk σ2 H3 fun y H4 => tv σ2 H4 fun z H5 => Sto P w K D y z H5 Nx else Nx H3)
noncomputable def tDcN2 (P : Program) (w : World) (K : PySem.W.Frag) (wi : TI) (g : TG) (tt : TT) (wi1 : TI) (g1 : TG) (tt1 : TT) (tk tv : TE) (vs vs1 : List Nat) : TE := fun σ H Q => wi σ H fun J H1 => ∀ D, H1 D = none → ∃ W : Nat → Nat → Hp → Prop, (∃ m, W 0 m (upd H1 D (NDO P w D []))) ∧ ∀ i m H, W i m H →
  (J.stop i H ∧ Q (.ref D) H) ∨ (J.go i H ∧ ∃ Nx : Hp → Prop, (∀ H', Nx H' → ∃ m', m' < m ∧ W (i + 1) m' H') ∧ ∀ x H', J.yld i H x H' → g x (wipe σ vs) H' fun σ2 H2 => wipe σ2 vs = wipe σ vs ∧ tt σ2 H2 fun b H3 =>
    if b = true then wi1 σ2 H3 fun J1 H4 => ∃ W1 : Nat → Nat → Hp → Prop, (∃ m, W1 0 m H4) ∧ ∀ j k H, W1 j k H →
      (J1.stop j H ∧ Nx H) ∨ (J1.go j H ∧ ∃ Nx1 : Hp → Prop, (∀ H', Nx1 H' → ∃ k', k' < k ∧ W1 (j + 1) k' H') ∧ ∀ x H', J1.yld j H x H' → g1 x (wipe σ2 vs1) H' fun σ3 H5 => wipe σ3 vs1 = wipe σ2 vs1 ∧ tt1 σ3 H5 fun b H6 =>
        if b = true then tk σ3 H6 fun y H7 => tv σ3 H7 fun z H8 => Sto P w K D y z H8 Nx1 else Nx1 H6)
    else Nx H3)
section
variable {X : Cx}
theorem dcn_core {pins : List (Addr × Obj)} {s : Shared} {σ : L2.St} {H : Hp} {Q : VK} {kx vx tg iter : Expr} {ifs : List Expr} {scope : Scope} {own : List (Str × Nat)} {pos pos' : Pos} {wi : TI} {g : TG} {tt : TT} {tk tv : TE} {use : Option (Value → Sem Unit)} {Qf : Value → Shared → Prop}
    (hu : X.A.units + 64 < cLine) (hc : X.calm = true) (hN : X.N.Nodup) (I : Inv X pins σ H s) (hi : PI X tg iter wi) (ok : BlkOk X.N X.env.scope scope own) (hg : ∀ (s : Shared) (H : Hp) (C : Addr) (cl : List (Str × Addr)) (fp : List Addr), PG (X.blk s H scope (compEnvC scope cl C X.env) fp) tg g) (ht : ∀ (s : Shared) (H : Hp) (C : Addr) (cl : List (Str × Addr)) (fp : List Addr), PTs (X.blk s H scope (compEnvC scope cl C X.env) fp) ifs tt) (hk : ∀ (s : Shared) (H : Hp) (C : Addr) (cl : List (Str × Addr)) (fp : List Addr), PE (X.blk s H scope (compEnvC scope cl C X.env) fp) kx tk) (he : ∀ (s : Shared) (H : Hp) (C : Addr) (cl : List (Str × Addr)) (fp : List Addr), PE (X.blk s H scope (compEnvC scope cl C X.env) fp) vx tv) (hs : ∀ x, foldedSetIterable iter X.env x = pure x)
    (h : tDcN X.prog X.w X.K wi g tt tk tv (own.map (·.2)) σ H Q)
    (hRR : ∀ D C s' m H', Inv X pins σ H' s' → Q (.ref D) H' → s'.heap.Ns C m → FpOk X pins H' C → compPost (model X.prog X.w) X.A X.xe use Qf (.ref D) C (.ok .next) s') :
    wpAny (model X.prog X.w) X.A (comprehension (.DictComp kx vx [⟨tg, iter, ifs, 0⟩] scope pos) scope X.env pos' newDict false (eval iter X.env) use) Qf X.xe s := by
  have hfree : ∀ y ∈ scope.names, y.2 = .free → ∃ c, X.env.cells.lookup y.1 = some c := fun y hy e => by
    rcases ok.free y hy e with k | k
    · exact I.ok.has _ (.inl k)
    · exact I.ok.has _ (.inr k)
  refine wpAny_comprehension_free (use := use) rfl hs (closure_ok hfree) ok.kind (fun y hy e => by rw [ok.uniq y hy, e])
    (thn (hi.run pins s σ H _ I h) fun xv s1 hx => thn hx fun itv s2 h2 => ?_)
  obtain ⟨it, fp, tn, J, H2, e, I2, T, st2, f2, q⟩ := h2
  subst e
  refine wpAny_newObj_type (newEnv_comp ?_)
  generalize hD : s2.heap.objs.size = D
  have hDn : H2 D = none := I2.hok.fresh (Nat.le_of_eq hD)
  obtain ⟨W, ⟨m0, w0⟩, turn⟩ := q D hDn
  generalize hs3 : ({ s2 with heap := s2.heap.push { cls := .type "dict", data := .dict #[] } } : Shared) = s3
  have I3 : Inv X pins σ (upd H2 D (NDO X.prog X.w D [])) s3 := by
    rw [← hs3, ← hD]
    exact I2.laid (t' := s2.toks) (fun b o e => Heap.get?_push_of_some _ e) (Nat.le_refl _) (nd_empty s2.heap I2.big)
  have h3 : s3.heap = s2.heap.push { cls := .type "dict", data := .dict #[] } := by rw [← hs3]
  have sz : ∀ b ∈ fp, b < s2.heap.objs.size := fun b hb => by
    obtain ⟨o, e, _⟩ := T.obj _ _ st2 b hb
    exact Heap.lt_size e
  have f3 : ∀ b ∈ fp, FpOk X pins (upd H2 D (NDO X.prog X.w D [])) b ∧ b < s3.heap.objs.size := fun b hb => by
    have hlt := sz b hb
    refine ⟨⟨?_, (f2 b hb).2⟩, by rw [h3, Heap.size_push]; exact Nat.lt_succ_of_lt hlt⟩
    rw [upd_ne (by rw [← hD]; exact Nat.ne_of_lt hlt)]
    exact (f2 b hb).1
  have st3 : tn 0 s3.heap := T.keep _ _ _ st2 fun b _ o e => by rw [h3]; exact Heap.get?_push_of_some _ e
  have I4 := block_start I3 ok hN f3
  have pg := hg s3 (upd H2 D (NDO X.prog X.w D [])) s3.heap.objs.size (cellsFrom (s3.heap.objs.size + 1) scope.names (cloFrom X.env.cells scope.names [])) fp
  have pt := ht s3 (upd H2 D (NDO X.prog X.w D [])) s3.heap.objs.size (cellsFrom (s3.heap.objs.size + 1) scope.names (cloFrom X.env.cells scope.names [])) fp
  have pk := hk s3 (upd H2 D (NDO X.prog X.w D [])) s3.heap.objs.size (cellsFrom (s3.heap.objs.size + 1) scope.names (cloFrom X.env.cells scope.names [])) fp
  have pe := he s3 (upd H2 D (NDO X.prog X.w D [])) s3.heap.objs.size (cellsFrom (s3.heap.objs.size + 1) scope.names (cloFrom X.env.cells scope.names [])) fp
  show codeAny _ _ (.compStart (.DictComp kx vx [⟨tg, iter, ifs, 0⟩] scope pos) 0 (.ref it) (.ref D) (compEnvC scope (cellsFrom (s3.heap.objs.size + 1) scope.names (cloFrom X.env.cells scope.names [])) s3.heap.objs.size X.env)) (compPost (model X.prog X.w) X.A X.xe use Qf (.ref D) s3.heap.objs.size) { s3 with heap := pushCells (s3.heap.push { cls := .type "dict", data := .dict #[] }) scope.names }
  have nfp : ∀ b ∈ fp, (upd H2 D (NDO X.prog X.w D [])) b = none := fun b hb => (f3 b hb).1.1
  generalize hce : compEnvC scope (cellsFrom (s3.heap.objs.size + 1) scope.names (cloFrom X.env.cells scope.names [])) s3.heap.objs.size X.env = ce at I4 pg pt pk pe ⊢
  have cL : ce.locals = s3.heap.objs.size := by subst hce; rfl
  generalize hH3 : upd H2 D (NDO X.prog X.w D []) = H3 at I3 I4 pg pt pk pe w0 nfp f3
  generalize hs4 : ({ s3 with heap := pushCells (s3.heap.push { cls := .type "dict", data := .dict #[] }) scope.names } : Shared) = s4 at I4 ⊢
  have st4 : tn 0 s4.heap := T.keep _ _ _ st3 fun b _ o e => by rw [← hs4]; exact pushCells_keeps _ _ _ _ (Heap.get?_push_of_some _ e)
  have stat : ∀ {σ' : L2.St} {H' : Hp} {s' : Shared}, Inv (X.blk s3 H3 scope ce fp) [] σ' H' s' → (∀ b ∈ fp, H' b = none) → ∀ b ∈ fp, FpOk (X.blk s3 H3 scope ce fp) [] H' b := fun {σ' H' s'} I' hn b hb =>
    ⟨hn b hb, (I'.ok.exf b hb).1, I'.ok.exfs b hb, .inl hb, fun x c e => (I'.ok.exf b hb).2 x c e, fun p hp => absurd (show p ∈ ([] : List (Addr × Obj)) ++ [] from hp) (by simp)⟩
  have loop : codeAny (model X.prog X.w) X.A (.compLoop (.DictComp kx vx [⟨tg, iter, ifs, 0⟩] scope pos) 0 (.ref it) (.ref D) ce) (compPost (model X.prog X.w) X.A X.xe use Qf (.ref D) s3.heap.objs.size) s4 := by
    refine compLoop_anyD (fun n s' => ∃ i H', Inv (X.blk s3 H3 scope ce fp) [] (wipe σ (own.map (·.2))) H' s' ∧ tn i s'.heap ∧ (∀ b ∈ fp, H' b = none) ∧ W i n H') ?_ m0 ⟨0, H3, I4, st4, nfp, w0⟩
    rintro n s5 ⟨i, H5, I5, st5, n5, w5⟩
    rcases turn i n H5 w5 with ⟨stop, qq⟩ | ⟨go, Nx, hNx, step⟩
    · have td := T.done (X.blk s3 H3 scope ce fp) rfl rfl rfl hc i [] s5 _ H5 (fun _ _ => False) I5 (stat I5 n5) st5 stop
      refine thnF td fun r s6 ⟨hr, I6⟩ => ?_
      subst hr
      have I7 : Inv X pins σ H5 s6 := I3.call' (ch := fp) I6.os I6.base I6.hok I6.bare fun b hb => ⟨(f3 b hb).1.2.2.2.1, (f3 b hb).1.2.1, (f3 b hb).1.2.2.2.2.1, (f3 b hb).1.2.2.2.2.2⟩
      have nC : H5 s3.heap.objs.size = none := by
        have z : H5 ce.locals = none := I6.free
        rw [cL] at z
        exact z
      obtain ⟨m, hn, _⟩ := I6.loc
      have hn : s6.heap.Ns ce.locals m := hn
      rw [cL] at hn
      exact hRR D s3.heap.objs.size s6 m H5 I7 qq hn (I3.fpOk (Nat.le_refl _) nC)
    · have ti := T.item (X.blk s3 H3 scope ce fp) rfl rfl rfl hc i [] s5 _ H5 (fun _ _ => False) I5 (stat I5 n5) st5 go
      refine thnF ti fun r s6 ⟨u, hr, h6⟩ => ?_
      subst hr
      refine thnF h6 fun _ s7 ⟨x, H7, I7, r7, y7, st7, n7⟩ => ?_
      have I7' := I7.pinned (stat I7 n7) (T.obj _ _ st7)
      refine thnF (pg.run _ s7 _ H7 x u _ I7' r7 (step x H7 y7)) fun _ s8 ⟨σ8, H8, I8, hw8, q8⟩ => ?_
      refine thnF (pt.run _ s8 σ8 H8 _ I8 q8) fun b s9 ⟨H9, I9, q9⟩ => ?_
      have fin : ∀ {σ9 : L2.St} {s' : Shared} {H' : Hp}, Inv (X.blk s3 H3 scope ce fp) ([] ++ pinsAt fp s7.heap) σ9 H' s' → (wipe σ (own.map (·.2))).length = σ9.length → (∀ (j : Nat) v, (wipe σ (own.map (·.2)))[j]? = some (some v) → σ9[j]? = some (some v)) → Nx H' →
          ∃ m, m < n ∧ ∃ i H', Inv (X.blk s3 H3 scope ce fp) [] (wipe σ (own.map (·.2))) H' s' ∧ tn i s'.heap ∧ (∀ b ∈ fp, H' b = none) ∧ W i m H' := fun {σ9 s' H'} I' hl hk nx => by
        obtain ⟨m', hm, w'⟩ := hNx H' nx
        have pin' : ∀ b ∈ fp, ∀ o, s7.heap.get? b = some o → s'.heap.get? b = some o ∧ H' b = none := fun b hb o e =>
          let z := I'.pin (b, o) (List.mem_append_right _ (List.mem_append_right _ (mem_pinsAt hb e)))
          ⟨z.1, z.2.1⟩
        refine ⟨m', hm, i + 1, H', (I'.unpinned (pins := [])).weak hl hk, T.keep _ _ _ st7 fun b hb o e => (pin' b hb o e).1, fun b hb => ?_, w'⟩
        obtain ⟨o, e, _⟩ := T.obj _ _ st7 b hb
        exact (pin' b hb o e).2
      have hl8 : (wipe σ (own.map (·.2))).length = σ8.length := by rw [← hw8, wipe_length]
      have hk8 : ∀ (j : Nat) v, (wipe σ (own.map (·.2)))[j]? = some (some v) → σ8[j]? = some (some v) := fun j v e => by
        rw [← hw8] at e
        exact (wipe_some e).1
      cases b with
      | false =>
        simp only [Bool.false_eq_true, if_false] at q9 ⊢
        exact fin I9 hl8 hk8 q9
      | true =>
        simp only [if_true] at q9 ⊢
        refine thnF (pk.run _ s9 σ8 H9 _ I9 q9) fun z s10 ⟨yk, H10, I10, r10, q10⟩ => ?_
        refine thnF (pe.run _ s10 σ8 H10 _ I10 q10) fun z2 s11 ⟨yv, H11, I11, r11, sto⟩ => ?_
        exact sto_ok (X := X.blk s3 H3 scope ce fp) (by show X.A.units + 16 < cLine; omega) I11 r10 r11 sto fun s12 H12 I12 nx => fin I12 hl8 hk8 nx
  exact codeAny_compStart_dict loop (T.self X.A 0 _ _ _ st4 loop)
end
end ND

set_option Elab.async false
set_option linter.all false
set_option maxRecDepth 100000
set_option maxHeartbeats 4000000
/-! min of two data, min of the values of a dict of nested keys, sorted of a tuple of ints -/
namespace ND
open PySem PySem.Spec PyProof.Rows L2 PySem.W
section
variable {prog : Program} {w : World} {A : Around} {E : Value → Shared → Prop} {s : Shared}
end
end ND

set_option Elab.async false
set_option linter.all false
set_option maxRecDepth 100000
set_option maxHeartbeats 4000000
namespace ND
open PySem PySem.Spec PyProof.Rows L2 PySem.W
section
variable {X : Cx}
noncomputable def rSRTT (K : PySem.W.Frag) : List V → Hp → VK → Prop := fun vs H Q => ∃ (a : Addr) (ns : List Int), vs = [V.ref a] ∧ SqT K H a (ns.map V.int) ∧ ns.length < 64 ∧
  ∀ (ns' : List Int) (p : Addr), ns'.Perm ns → ns'.Pairwise (· ≤ ·) → H p = none → Q (.ref p) (upd H p (.lst (ns'.map V.int)))
/-- min(x, y) of alike data -/
noncomputable def rMinD (K : PySem.W.Frag) : List V → Hp → VK → Prop := fun vs H Q => ∃ (x y : V) (a b : PyData), vs = [x, y] ∧ Dp K H x a ∧ Dp K H y b ∧ AlikeAll [a, b] ∧ PyData.depthAll [a, b] ≤ 8 ∧ Q (if dataLt b a = true then y else x) H
/-- min(d.values()), d a dict of nested keys, alike data -/
noncomputable def tMinNV (P : Program) (w : World) (K : PySem.W.Frag) (td : TE) : TE := fun σ H Q => td σ H fun x H1 => ∃ (a : Addr) (xs : List Ent) (vs : List V) (d : PyData) (ds : List PyData), x = V.ref a ∧ H1 a = some (NDO P w a xs) ∧ VsOf vs xs ∧ DpAll K H1 vs (d :: ds) ∧ AlikeAll (d :: ds) ∧ PyData.depthAll (d :: ds) ≤ 8 ∧
  ∀ (i : Nat) (v : V), vs[i]? = some v → (d :: ds).getD i .none = minD d ds → Q v H1
variable {o : Expr} {p pos apos mpos : Pos} {td : TE} {K : PySem.W.Frag}
end
end ND

set_option Elab.async false
set_option linter.all false
set_option maxRecDepth 100000
set_option maxHeartbeats 4000000
/-! dicts of nested tuple keys, told in data -/
namespace AL
open PySem L2 PyProof.Rows ND
mutual
noncomputable def nkD : NK → D
  | .none => .non
  | .num i => .int i
  | .text x => .str x
  | .tup ks => .tup (nkDs ks)
noncomputable def nkDs : List NK → List D
  | [] => []
  | k :: ks => nkD k :: nkDs ks
end
noncomputable def valN (kvs : List (NK × D)) (k : NK) : Option D := (kvs.find? fun kv => decide (kv.1 = k)).map (·.2)
noncomputable def putN (kvs : List (NK × D)) (k : NK) (d : D) : List (NK × D) := if kvs.any (fun kv => decide (kv.1 = k)) then kvs.map (fun kv => if kv.1 = k then (kv.1, d) else kv) else kvs ++ [(k, d)]
noncomputable def itemsN (kvs : List (NK × D)) : List D := kvs.map fun p => .tup [nkD p.1, p.2]
section
variable {K : Frg} {F F' : Hp}
mutual
theorem vkey_rep : ∀ (k : NK) (v : V), Rep K F (nkD k) v → VKey K F k v
  | .none, _, h => by unfold nkD at h; cases h; exact .non
  | .num i, _, h => by unfold nkD at h; cases h; exact .int i
  | .text x, _, h => by unfold nkD at h; cases h; exact .text x
  | .tup ks, _, h => by
    unfold nkD at h
    cases h with
    | tup hq hr => exact .tup hq (vkeys_rep ks _ hr)
theorem vkeys_rep : ∀ (ks : List NK) (vs : List V), RepL K F (nkDs ks) vs → VKeys K F ks vs
  | [], _, h => by unfold nkDs at h; cases h; exact .nil
  | k :: ks, _, h => by
    unfold nkDs at h
    cases h with
    | cons h1 h2 => exact .cons (vkey_rep k _ h1) (vkeys_rep ks _ h2)
end
mutual
theorem rep_vkey : ∀ (k : NK) (v : V), VKey K F k v → Rep K F (nkD k) v
  | .none, _, h => by cases h; exact .non
  | .num i, _, h => by cases h; exact .int i
  | .text x, _, h => by cases h; exact .str x
  | .tup ks, _, h => by
    cases h with
    | tup hq hr => exact .tup hq (rep_vkeys ks _ hr)
theorem rep_vkeys : ∀ (ks : List NK) (vs : List V), VKeys K F ks vs → RepL K F (nkDs ks) vs
  | [], _, h => by cases h; exact .nil
  | k :: ks, _, h => by
    cases h with
    | cons h1 h2 => exact .cons (rep_vkey k _ h1) (rep_vkeys ks _ h2)
end
noncomputable abbrev RepN (K : Frg) (F : Hp) : List (NK × D) → List (NK × V) → Prop := Paired fun p q => p.1 = q.1 ∧ Rep K F p.2 q.2
theorem RepN.val {kvs : List (NK × D)} {vs : List (NK × V)} (r : RepN K F kvs vs) (k : NK) : (valN kvs k = none ∧ valV vs k = none) ∨ ∃ d v, valN kvs k = some d ∧ valV vs k = some v ∧ Rep K F d v := by
  induction r with
  | nil => exact .inl ⟨rfl, rfl⟩
  | @cons p q ps qs h t ih =>
    obtain ⟨h1, h2⟩ := h
    by_cases e : p.1 = k
    · refine .inr ⟨p.2, q.2, ?_, valV_pos (h1.symm.trans e), h2⟩
      unfold valN
      rw [List.find?_cons]
      simp [e]
    · rw [valV_neg (fun z => e (h1.trans z))]
      have : valN (p :: ps) k = valN ps k := by
        unfold valN
        rw [List.find?_cons]
        simp [e]
      rw [this]
      exact ih
theorem RepN.any {kvs : List (NK × D)} {vs : List (NK × V)} (r : RepN K F kvs vs) (k : NK) : (kvs.any fun kv => decide (kv.1 = k)) = vs.any fun kv => decide (kv.1 = k) := by
  induction r with
  | nil => rfl
  | cons h t ih => rw [List.any_cons, List.any_cons, ih, h.1]
theorem RepN.repl {kvs : List (NK × D)} {vs : List (NK × V)} (r : RepN K F kvs vs) (k : NK) {d : D} {v : V} (h0 : Rep K F d v) : RepN K F (kvs.map fun kv => if kv.1 = k then (kv.1, d) else kv) (vs.map fun kv => if kv.1 = k then (kv.1, v) else kv) := by
  induction r with
  | nil => exact .nil
  | @cons p q ps qs h t ih =>
    rw [List.map_cons, List.map_cons]
    refine .cons ?_ ih
    obtain ⟨h1, h2⟩ := h
    by_cases e : p.1 = k
    · rw [if_pos e, if_pos (h1.symm.trans e)]; exact ⟨h1, h0⟩
    · rw [if_neg e, if_neg (fun z => e (h1.trans z))]; exact ⟨h1, h2⟩
theorem RepN.put {kvs : List (NK × D)} {vs : List (NK × V)} (r : RepN K F kvs vs) (k : NK) {d : D} {v : V} (h0 : Rep K F d v) : RepN K F (putN kvs k d) (putK vs k v) := by
  unfold putN putK
  rw [r.any k]
  split
  · exact r.repl k h0
  · exact Paired.snoc r ⟨rfl, h0⟩
/-- the table of an own dict of nested keys -/
noncomputable def TabN (K : Frg) (F : Hp) (kvs : List (NK × D)) (xs : List Ent) : Prop := ∃ vs, RepN K F kvs vs ∧ KN K F vs xs
theorem TabN.ex {kvs : List (NK × D)} {xs : List Ent} (e : Ex F F') (t : TabN K F kvs xs) : TabN K F' kvs xs :=
  let ⟨vs, r, kn⟩ := t
  ⟨vs, Paired.mapP r fun _ _ z => ⟨z.1, z.2.mono e⟩, kn.mono fun _ _ => ex_t e⟩
theorem TabN.nil : TabN K F [] [] := ⟨[], .nil, .nil⟩
theorem TabN.len {kvs : List (NK × D)} {xs : List Ent} (t : TabN K F kvs xs) : kvs.length = xs.length := let ⟨_, r, kn⟩ := t; (Paired.length r).trans (Paired.length kn)
theorem TabN.put {kvs : List (NK × D)} {xs : List Ent} (t : TabN K F kvs xs) {k : NK} {b : Addr} {d : D} {v : V} {u : Value} (hk : VKey K F k (.ref b)) (hd : k.depth ≤ 8) (rd : Rep K F d v) (rv : RelV v u) : TabN K F (putN kvs k d) (storedH xs k b u) :=
  let ⟨vs, r, kn⟩ := t
  ⟨putK vs k v, r.put k rd, kn.put k hk hd rv⟩
end
noncomputable def OwnN (P : Program) (w : World) (ms : Ms) (x : D) (xs : List Ent) : Prop := ∃ (n : Nat) (l : Addr), x = .ref l ∧ (ms[n]? = some (l, .raw (NDO P w l xs)) ∨ ∃ o, ms[n]? = some (l, .raw (.frz o (NDO P w l xs))))
theorem OwnN.to {P : Program} {w : World} {K : Frg} {F H : Hp} {ms R : Ms} {x : D} {xs : List Ent} {v : V} (i : OwnN P w ms x xs) (hh : Hold K F (ms ++ R) H) (r : Rep K F x v) : ∃ a, v = .ref a ∧ Rd H a (NDO P w a xs) := by
  obtain ⟨n, l, rfl, hn | ⟨o, hn⟩⟩ := i
  · cases r
    exact ⟨l, rfl, .inl (hh.at (get_app hn)).2⟩
  · cases r
    exact ⟨l, rfl, .inr ⟨o, (hh.at (get_app hn)).2⟩⟩
section
variable {P : Program} {w : World} {Γ : Cg} {K : Frg} {F : Hp} {ms : Ms} {S : Sg} {Q : QE} {td ty tv tx te tk : TE} {ts : TS} {A : AEnds}
/-- the lock goes -/
noncomputable def unlN (P : Program) (w : World) (l : Addr) (xs : List Ent) (od : Obj) (ms : Ms) (G : Ms → Prop) : Prop := ∃ m : Nat, ms[m]? = some (l, .raw (.frz od (NDO P w l xs))) ∧ G (ms.set m (l, .raw (NDO P w l xs)))
end
end AL

set_option Elab.async false
set_option linter.all false
set_option maxRecDepth 100000
set_option maxHeartbeats 4000000
/-! comprehensions, min, sorted: nested dicts in data -/
namespace AL
open PySem L2 PyProof.Rows ND
section
variable {P : Program} {w : World} {Γ : Cg} {K : Frg} {F : Hp} {ms : Ms} {S : Sg} {Q : QE} {td ty tv tx te tk : TE} {tt tt1 : TT} {g g1 : TG} {wi wi1 : TI} {vs vs1 : List Nat}
end
end AL

set_option Elab.async false
set_option linter.all false
set_option maxRecDepth 100000
set_option maxHeartbeats 4000000
/-! alike data compared, tuple * int -/
namespace AL
open PySem L2 PyProof.Rows
noncomputable def rLtD (K : Frg) : R2 := fun x y H Q => ∃ a b : PyData, Dp K H x a ∧ Dp K H y b ∧ PySem.W.alike a b = true ∧ a ≠ .none ∧ a.depth ≤ 8 ∧ Q (.bl (PySem.W.dataLt a b)) H
noncomputable def rLeD (K : Frg) : R2 := fun x y H Q => ∃ a b : PyData, Dp K H x a ∧ Dp K H y b ∧ PySem.W.alike a b = true ∧ a ≠ .none ∧ a.depth ≤ 8 ∧ Q (.bl (!PySem.W.dataLt b a)) H
section
variable {X : Cx}
end
section
variable {K : Frg} {F : Hp} {ms : Ms} {Q : QE}
end
end AL

set_option Elab.async false
set_option linter.all false
set_option maxRecDepth 100000
set_option maxHeartbeats 4000000
/-! min of a list of alike data -/
namespace ND
open PySem PySem.Spec PyProof.Rows L2 PySem.W
section
variable {X : Cx}
noncomputable def rMinLD (K : PySem.W.Frag) : List V → Hp → VK → Prop := fun vs H Q => ∃ (a : Addr) (xs : List V) (d : PyData) (ds : List PyData), vs = [V.ref a] ∧ SqL K H a xs ∧ DpAll K H xs (d :: ds) ∧ AlikeAll (d :: ds) ∧ PyData.depthAll (d :: ds) ≤ 8 ∧
  ∀ (i : Nat) (v : V), xs[i]? = some v → (d :: ds).getD i .none = minD d ds → Q v H
end
end ND
namespace AL
open PySem L2 PyProof.Rows ND
end AL

set_option Elab.async false
set_option linter.all false
set_option maxRecDepth 100000
set_option maxHeartbeats 4000000
/-! lambdas kept in lists, called by defs that got the list: the maker's captured cells are told by a base that is the heap of the call's start -/
namespace LamZ
open PySem PySem.Spec PySem.W PyProof.Rows L2 LamX LamY
/-! ### the heap at a call's start, without what is tracked and without the frames -/
noncomputable def hid (H : Hp) (fs : List Addr) (n : Nat) : List Addr := fs ++ (List.range n).filter fun b => (H b).isSome
noncomputable def snap (s : Shared) (H : Hp) (fs : List Addr) : Heap := hideAll s.heap (hid H fs s.heap.objs.size)
section
variable {s : Shared} {H : Hp} {fs : List Addr} {b : Addr} {o : Obj}
end
section
variable {X : Cx} {pins : List (Addr × Obj)} {σ : L2.St} {H : Hp} {s : Shared}
/-- names of a lambda: captured ones, globals, parameters that are no names of the maker -/
structure LamN (sc : Scope) (N : List Str) (scope : Scope) : Prop where
  kind : scope.kind = .function
  co : scope.isCoroutine = false
  gen : scope.isGenerator = false
  own : ∀ y ∈ scope.names, y.2 ≠ .cell ∧ (y.2 = .local → y.1 ∉ N)
  free : ∀ y ∈ scope.names, y.2 = .free → sc.names.lookup y.1 = some .cell ∨ sc.names.lookup y.1 = some .free
noncomputable def lamNB (sc : Scope) (N : List Str) (scope : Scope) : Bool :=
  decide (scope.kind = .function) && (!scope.isCoroutine && (!scope.isGenerator && scope.names.all fun y => (!decide (y.2 = .cell) && (!decide (y.2 = .local) || !decide (y.1 ∈ N))) && ((!decide (y.2 = .free) || decide (sc.names.lookup y.1 = some .cell)) || decide (sc.names.lookup y.1 = some .free))))
theorem LamN.caught {scope : Scope} (L : LamN X.env.scope X.N scope) (ok : X.Ok) : ∀ y ∈ scope.names, y.2 = .free → ∃ c, X.env.cells.lookup y.1 = some c := fun y hy e => ok.has _ (L.free y hy e)
end
section
variable {X : Cx} {pins : List (Addr × Obj)} {σ : L2.St} {H HZ : Hp} {s s1 : Shared}
end
/-! ### the function object, and what is known of it -/
noncomputable def lamObj (X : Cx) (params : Arguments) (body : Expr) (scope : Scope) (dV doc pm : Value) (c' : Addr) (ctv : Value) : Obj := kdv_obj "<lambda>" (X.env.qual ++ "<lambda>") params (.expr body) scope (cloFrom X.env.cells scope.names []) dV doc pm c' ctv
noncomputable def LamO (f : Addr) (o : Obj) : HO := .ext fun h => h.get? f = some o
/-- a lambda whose body is read: tb is its reading -/
structure LamOk (X : Cx) (k : Nat) (params : Arguments) (body : Expr) (scope : Scope) (dflt : Bool) (tb : XK → TE) : Prop where
  names : LamN X.env.scope X.N scope
  bind0 : dflt = false → ∀ (q : Str) (cl : List (Str × Addr)) (doc pm cv ctv : Value), bindArgs (kdv_fn "<lambda>" q params (.expr body) scope cl .none doc pm cv ctv) ⟨[], []⟩ = pure []
  bind1 : dflt = true → ∃ a : Str, scope.names.lookup a = some .local ∧ ∀ (q : Str) (cl : List (Str × Addr)) (dt : Addr) (doc pm cv ctv v : Value), ∃ kk, bindArgs (kdv_fn "<lambda>" q params (.expr body) scope cl (.ref dt) doc pm cv ctv) ⟨[], []⟩ = seqItems? (.ref dt) >>= kk ∧ kk (some #[v]) = pure [(a, v)]
  run : ∀ (A : Around) (outer : List Env) (s : Shared) (H : Hp) (E : XK) (f c' : Addr), Room k (A.deeper (lamEnv X scope s.heap.objs.size f c')) → PE (lamCx X A outer s H E scope f c') body (tb E)
/-- f is such a lambda -/
noncomputable def LamH (X : Cx) (k : Nat) (tb : XK → TE) (H : Hp) (f : Addr) : Prop := ∃ (params : Arguments) (body : Expr) (scope : Scope) (dflt : Bool) (c' : Addr) (dV doc pm ctv : Value), LamOk X k params body scope dflt tb ∧
  H f = some (LamO f (lamObj X params body scope dV doc pm c' ctv)) ∧ H c' = some (CodeO c' (X.env.qual ++ "<lambda>")) ∧ (dflt = false → dV = .none) ∧ (dflt = true → ∃ dt, dV = .ref dt ∧ H dt = some (.tup [V.int 0]))
theorem LamH.ex {X : Cx} {k : Nat} {tb : XK → TE} {H H' : Hp} {f : Addr} (e : ∀ b o, H b = some o → H' b = some o) : LamH X k tb H f → LamH X k tb H' f := fun ⟨a, b, c, d, e', f', g, h, i, p1, p2, p3, p4, p5⟩ =>
  ⟨a, b, c, d, e', f', g, h, i, p1, e _ _ p2, e _ _ p3, p4, fun z => let ⟨dt, q1, q2⟩ := p5 z; ⟨dt, q1, e _ _ q2⟩⟩
section
variable {X : Cx} {pins : List (Addr × Obj)} {σ : L2.St} {H : Hp} {s : Shared}
end
/-! ### the making -/
noncomputable def dflH (H : Hp) : Option Addr → Hp
  | none => H
  | some dt => upd H dt (.tup [V.int 0])
noncomputable def codH (P : Addr) (q : Str) (ps : Array Value) (H : Hp) : Option (Pos × Addr) → Hp
  | none => H
  | some g => upd (upd H P (.tbl (ps ++ #[rawInt g.1.line, rawInt g.1.col, .ref g.2]))) g.2 (CodeO g.2 q)
noncomputable def tLamE (X : Cx) (k : Nat) (P : Addr) (tb : XK → TE) : TE := fun _ H Q => ∃ ps, H P = some (.tbl ps) ∧ TabK H ps (X.env.qual ++ "<lambda>") ∧
  ∀ (d : Option Addr) (g : Option (Pos × Addr)) (f : Addr) (u : HO), (∀ dt, d = some dt → H dt = none) → (∀ g', g = some g' → dflH H d g'.2 = none) → codH P (X.env.qual ++ "<lambda>") ps (dflH H d) g f = none →
    (∀ F1 : Hp, F1 f = some u → (∀ dt, d = some dt → F1 dt = some (.tup [V.int 0])) → (∀ pos c0, codeAmong pos ps.toList = some (.ref c0) → F1 c0 = some (CodeO c0 (X.env.qual ++ "<lambda>"))) → (∀ g', g = some g' → F1 g'.2 = some (CodeO g'.2 (X.env.qual ++ "<lambda>"))) → LamH X k tb F1 f) →
    Q (.ref f) (upd (codH P (X.env.qual ++ "<lambda>") ps (dflH H d) g) f u)
section
variable {X : Cx}
/-! ### a call of a def that runs over the snapshot -/
noncomputable def tCallR (sp : L2.St → Sp) (E : XK) (ta : TA) : TE := fun σ H Q => ta σ H fun vs H1 => sp σ vs H1 Q E
variable {CX : CXT} {x : Str} {k : Nat} {g : Addr} {fd : FuncData} {ps : List Str} {sp : L2.St → Sp} {E : XK} {e : Expr} {es : List Expr} {t : TA} {p pos : Pos}
end
end LamZ

set_option Elab.async false
set_option linter.all false
set_option maxRecDepth 100000
set_option maxHeartbeats 4000000
/-! lambdas in lists, told in data -/
namespace LamZ
open PySem PySem.Spec PySem.W PyProof.Rows L2 LamX LamY
/-- a context with another base, other rooms, other frames -/
noncomputable def xcx (X : Cx) (base : Heap) (A : Around) (stack : List Env) : Cx := { X with base := base, A := A, stack := stack }
end LamZ
namespace AL
open PySem PySem.Spec PyProof.Rows L2 LamX LamY LamZ
section
variable {Γ : Cg} {F : Hp} {ms : Ms} {S : Sg} {Q : QE} {ta : TA}
end
/-- a def that calls what it got and tells the error: its promise for lambdas kept in a list -/
noncomputable def spErr (K : Frg) (X : Cx) (k : Nat) (RR : Addr → List (Str × D) → D → Prop) (σ : L2.St) : ASp := fun ds F ms Q _ => ∃ (f : Addr) (tb : XK → TE) (S : Sg), ds = [.ref f] ∧ LamH X k tb F f ∧ SRep K F S σ ∧
  ∀ E : XK, AE ⟨K, E, fun C' fs F' ms' => ∃ res, RR C' fs res ∧ ∀ F2, Ex F' F2 → Q F2 ms' res⟩ (tb E) F ms S fun F' ms' _ => ∀ F2, Ex F' F2 → Q F2 ms' .non
/-- all of them raise the expected error -/
noncomputable def spAll (K : Frg) (X : Cx) (k : Nat) (RR : Addr → List (Str × D) → D → Prop) (σ : L2.St) : ASp := fun ds F ms Q _ => ∃ (d ex : D) (fs : List Addr) (J : Hp → Ms → Prop), ds = [d, ex] ∧ fs.length ≤ 100 ∧ okD ex = true ∧ dep ex ≤ 8 ∧ (∀ F' ms', Ex F F' → J F' ms' → LstA F' ms' d (fs.map D.ref)) ∧
  J F ms ∧ (∀ F' F2 ms', Ex F F' → Ex F' F2 → J F' ms' → J F2 ms') ∧ (∀ f ∈ fs, ∀ F' ms', Ex F F' → J F' ms' → spErr K X k RR σ [.ref f] F' ms' (fun F2 ms2 d2 => d2 = ex ∧ J F2 ms2) fun _ _ _ _ => False) ∧ ∀ F' ms', Ex F F' → J F' ms' → Q F' ms' (.bl true)
section
variable {X : Cx} {pins : List (Addr × Obj)} {σ : L2.St} {H : Hp} {s : Shared} {K : Frg}
end
end AL

set_option Elab.async false
set_option linter.all false
set_option maxRecDepth 100000
set_option maxHeartbeats 4000000
/-! the rest of a def is never reached; generator defs that raise -/
namespace L2
open PySem PySem.Spec PyProof.Rows GenW
/-- what a list() of a generator may let go out: no StopIteration -/
noncomputable def nsE (K : PySem.W.Frag) (E : XK) : XK := fun cls d H => PySem.W.subIn K cls (.type "StopIteration") = some false ∧ E cls d H
end L2
namespace AL
open PySem L2
noncomputable abbrev AGpX := List D → Hp → Ms → (Hp → Ms → List D → Prop) → XA → Prop
noncomputable def toSpGX (K : Frg) (sp : AGpX) : SpG := fun vs H Q E => ∃ F ms R ds Qa Ea, Hold K F (ms ++ R) H ∧ RepL K F ds vs ∧ sp ds F ms Qa Ea ∧ (∀ F' ms' ys vs' H', Ex F F' → Hold K F' (ms' ++ R) H' → RepL K F' ys vs' → Qa F' ms' ys → Q vs' H') ∧ XLe ⟨K, E, Ea⟩ R F
section
variable {Γ : Cg} {K : Frg} {F : Hp} {ms : Ms} {S : Sg} {ta : TA} {Q : QE}
end
section
variable {P : Program} {w : World} {K : Frg} {mg : Str → Option Value} {base : Heap}
end
end AL

set_option Elab.async false
set_option linter.all false
set_option maxRecDepth 100000
set_option maxHeartbeats 4000000
/-! an except suite that ends by a bare raise; unpacking while an exception is handled -/
namespace HotX
open PySem PySem.Spec PyProof.Rows
section
variable {prog : Program} {w : World} {A : Around} {E : Value → Shared → Prop} {s : Shared}
end
end HotX
namespace L2
open PySem PySem.Spec PyProof.Rows HotX
section
variable {X : Cx}
/-- o.f = .. as a part of a target -/
noncomputable def gFld (K : PySem.W.Frag) (ta : TE) (f : Str) : TG := fun y σ H Q => ta σ H fun x H2 => ∃ a C dx fs, x = .ref a ∧ H2 a = some (.ins C dx fs) ∧ Cls K C ∧ NoAttr K C f ∧ fs.length < 1000 ∧ Q σ (upd H2 a (.ins C dx (putF f y fs)))
end
/-! ### exceptions without a context are exceptions -/
/-! ### method calls, the wish by the slots -/
noncomputable def tMethE (C : Addr) (m : Str) (sp : Sp) (E : L2.St → XK) (ta : TE) (t : TA) : TE := fun σ H Q => ta σ H fun x H1 => ∃ a dx fs, x = .ref a ∧ H1 a = some (.ins C dx fs) ∧ fs.lookup m = none ∧ t σ H1 fun vs H2 => sp (.ref a :: vs) H2 Q (E σ)
section
variable {X : Cx} {CX : CXT} {k : Nat} {C f : Addr} {m : Str} {sp : Sp} {fd : FuncData} {ps : List Str} {E : L2.St → XK} {o e : Expr} {es : List Expr} {ta : TE} {t : TA} {apos pos : Pos}
end
/-! ### try: body / except X: suite, which may end by a bare raise -/
/-- the context of the suite -/
noncomputable abbrev suiteR (X : Cx) (a : Addr) (pn : List (Addr × Obj)) : Cx := { X with A := X.A.mark (some (.ref a)), calm := false, pn := pn }
section
variable {X : Cx} {x : Str} {c : Value} {body suite : List Stmt} {b₀ : Stmt} {np pos pos' : Pos} {tb : WX → TS} {ts : Addr → Value → Option Addr → TS} {Wout : WX}
end
end L2

set_option Elab.async false
set_option linter.all false
set_option maxRecDepth 100000
set_option maxHeartbeats 4000000
/-! try / except with a bare raise, told in data -/
namespace AL
open PySem PySem.Spec PyProof.Rows L2
noncomputable abbrev XW := Addr → List (Str × D) → Hp → Ms → Sg → Prop
/-- what a try's body wishes of an exception, by the slots -/
noncomputable def WLe (K : Frg) (R : Ms) (F : Hp) (W : WX) (Ew : XW) : Prop := ∀ F' ms' S' σ' C dx fs H', Ex F F' → SRep K F' S' σ' → Hold K F' (ms' ++ R) H' → XDat K F' H' dx fs → Ew C fs F' ms' S' → W (.ref C) dx σ' H'
theorem WLe.ex {K : Frg} {R : Ms} {F F' : Hp} {W : WX} {Ew : XW} (x : WLe K R F W Ew) (e : Ex F F') : WLe K R F' W Ew := fun F2 ms' S' σ' C dx fs H' e2 => x F2 ms' S' σ' C dx fs H' (e.trans e2)
noncomputable def ASW (Γ : Cg) (tb : WX → TS) (Ew : XW) (F : Hp) (ms : Ms) (S : Sg) (A : AEnds) : Prop := ∀ W (R : Ms) (E : Ends) σ H, SRep Γ.K F S σ → Hold Γ.K F (ms ++ R) H → Le Γ R F A E → WLe Γ.K R F W Ew → tb W E σ H
noncomputable def AEW (Γ : Cg) (te : WX → TE) (Ew : XW) (F : Hp) (ms : Ms) (S : Sg) (Q : QE) : Prop := ∀ W (R : Ms) σ H (Qc : VK), SRep Γ.K F S σ → Hold Γ.K F (ms ++ R) H → XLe Γ R F → WLe Γ.K R F W Ew → (∀ F' ms' d v H', Ex F F' → Hold Γ.K F' (ms' ++ R) H' → Rep Γ.K F' d v → Q F' ms' d → Qc v H') → te W σ H Qc
section
variable {Γ : Cg} {F : Hp} {ms : Ms} {S : Sg} {Q : QE} {ta : TE} {A : AEnds} {Ew : XW} {tb tb2 : WX → TS} {te : WX → TE} {g : TG} {wi : TI}
/-- the try -/
noncomputable def tTryRe (K : Frg) (E : XK) (c : Value) (ts : Addr → Value → Option Addr → TS) (tb : WX → TS) : TS := fun D σ H => tb (wOnly K c ts (fun cls d _ H => E cls d H) D) D σ H
end
section
variable {P : Program} {w : World} {K : Frg} {mg : Str → Option Value} {base : Heap}
end
end AL
namespace L2
open PySem PySem.Spec PyProof.Rows
section
variable {X : Cx} {K : AL.Frg} {E : XK} {x : Str} {c : Value} {body suite : List Stmt} {b₀ : Stmt} {np pos pos' : Pos} {tb : WX → TS} {ts : Addr → Value → Option Addr → TS}
end
end L2

set_option Elab.async false
set_option linter.all false
set_option maxRecDepth 100000
set_option maxHeartbeats 4000000
/-! defs with a star parameter that may raise -/
namespace L2
open PySem PySem.Spec PyProof.Rows
end L2
namespace AL
open PySem PySem.Spec L2 PyProof.Rows
section
variable {P : Program} {w : World} {K : Frg} {mg : Str → Option Value} {base : Heap}
end
end AL

set_option Elab.async false
set_option linter.all false
set_option maxRecDepth 100000
set_option maxHeartbeats 4000000
/-! exceptions that leave a list comprehension; errors with attributes whose context is None -/
namespace L2N
open PySem PySem.Spec PyProof.Rows L2
section
variable {X : Cx}
end
end L2N
namespace L2
open PySem PySem.Spec PyProof.Rows
/-- an exception in flight out of a callee -/
noncomputable def XEF (X : Cx) (Wx : XK) (u : Value) (s' : Shared) : Prop :=
  ∃ (a : Addr) (B : Heap) (sI : Shared) (pins : List (Addr × Obj)) (σ : L2.St) (H : Hp) (cls : Value) (d : Option Addr),
    u = .ref a ∧ Inv X pins σ H sI ∧ (∀ b o, sI.heap.get? b = some o → b ∉ frs X.stack → B.get? b = some o) ∧ sI.heap.UpToSlots s'.heap ∧
      HandSPX.FlyingZ B X.stack a (L2N.Zn cls d) s'.heap ∧ H a = none ∧ s'.os = sI.os ∧ AllBare s'.gens ∧ Wx cls d H
/-- a comprehension's block whose element may raise -/
noncomputable abbrev Cx.blkN (X : Cx) (s : Shared) (H : Hp) (scope : Scope) (cenv : Env) (fp : List Addr) (Wx : XK) : Cx := { X with s_0 := s, H_0 := H, env := cenv, outer := X.stack, ex := fp, fn := fun x => scope.names.lookup x == some .cell, pn := [], xe := XEF (X.blk s H scope cenv fp) Wx }
section
variable {X : Cx} {pins : List (Addr × Obj)} {σ : L2.St} {H : Hp} {s : Shared}
end
end L2

set_option Elab.async false
set_option linter.all false
set_option maxRecDepth 100000
set_option maxHeartbeats 4000000
/-! comprehensions whose element may raise, told in data -/
namespace L2
open PySem PySem.Spec PyProof.Rows
section
variable {X : Cx}
/-- .. in a try's body -/
noncomputable def tLcW (wi : TI) (g : TG) (tt : TT) (te : XK → TE) (vs : List Nat) (W : WX) : TE := fun σ H Q => tLc wi g tt (te fun cls d H' => W cls d σ H') vs σ H Q
end
end L2
namespace AL
open PySem PySem.Spec PyProof.Rows L2
section
variable {Γ : Cg} {K : Frg} {F : Hp} {ms : Ms} {S : Sg} {Q : QE} {ta te : TE} {tt : TT} {g : TG} {wi : TI} {vs : List Nat} {Ew : XW}
end
end AL

set_option Elab.async false
set_option linter.all false
set_option maxRecDepth 100000
set_option maxHeartbeats 4000000
/-! three names stored at once -/
namespace AL
open PySem PySem.Spec PyProof.Rows L2
variable {Γ : Cg} {F : Hp} {ms : Ms} {S : Sg} {A : AEnds}
end AL

set_option Elab.async false
set_option linter.all false
set_option maxRecDepth 100000
set_option maxHeartbeats 4000000
/-! match over tuples whose parts are words and names -/
namespace L2
open PySem PySem.Spec PyProof.Rows
/-- a part of a pattern: a word, a name, or one of some words under a name -/
inductive IP where
  | val (z : Str)
  | cap (i : Nat)
  | alt (z1 z2 : Str) (i : Nat)
noncomputable abbrev Bs := List (Nat × V)
noncomputable def IP.wp : IP → V → (Option Bs → Prop) → Prop
  | .val z, v, k => scal v (.str z) = true ∧ k (if v = .str z then some [] else none)
  | .cap i, v, k => k (some [(i, v)])
  | .alt z1 z2 i, v, k => scal v (.str z1) = true ∧ scal v (.str z2) = true ∧ k (if v = .str z1 ∨ v = .str z2 then some [(i, v)] else none)
noncomputable def wps : List IP → List V → (Option Bs → Prop) → Prop
  | [], _, k => k (some [])
  | p :: ps, v :: vs, k => p.wp v fun r => match r with
    | none => k none
    | some bs => wps ps vs fun r' => match r' with
      | none => k none
      | some more => k (some (bs ++ more))
  | _ :: _, [], _ => False
noncomputable def putB (σ : St) : Bs → St
  | [] => σ
  | p :: bs => putB (σ.set p.1 (some p.2)) bs
noncomputable def tCases : List (List IP × TS) → List V → TS
  | [], _ => fun D σ H => D.nx σ H
  | (ips, t) :: r, vs => fun D σ H => if vs.length = ips.length then wps ips vs fun o => match o with
      | none => tCases r vs D σ H
      | some bs => t D (putB σ bs) H
    else tCases r vs D σ H
noncomputable def tMatch (K : PySem.W.Frag) (te : TE) (ts : List (List IP × TS)) : TS := fun D σ H => te σ H fun v H1 => ∃ a xs, v = .ref a ∧ SqT K H1 a xs ∧ tCases ts xs D σ H1
inductive BR (X : Cx) : Bs → List (Str × Value) → Prop
  | nil : BR X [] []
  | cons {i : Nat} {v : V} {x : Str} {u : Value} {bs : Bs} {cs : List (Str × Value)} : X.N[i]? = some x → Loc X.env.scope x → (X.fn x = true ∨ X.env.scope.names.lookup x = some .local) → RelV v u → BR X bs cs → BR X ((i, v) :: bs) ((x, u) :: cs)
inductive BRo (X : Cx) : Option Bs → Option (List (Str × Value)) → Prop
  | no : BRo X none none
  | yes {b : Bs} {c : List (Str × Value)} : BR X b c → BRo X (some b) (some c)
theorem BRo.get {X : Cx} {b : Bs} {c : List (Str × Value)} (h : BRo X (some b) (some c)) : BR X b c := by
  cases h with
  | yes h => exact h
structure PMi (X : Cx) (p : Pattern) (ip : IP) : Prop where
  star : p.isStar = false
  run : ∀ (pins : List (Addr × Obj)) (s : Shared) (σ : St) (H : Hp) (v : V) (u : Value) (k : Option Bs → Prop) (Q : Option (List (Str × Value)) → Shared → Prop), Inv X pins σ H s → RelV v u → ip.wp v k →
    (∀ r r' s', Inv X pins σ H s' → BRo X r r' → k r → Q r' s') → wpAny (model X.prog X.w) X.A (matchPattern p X.env u) Q X.xe s
section
variable {X : Cx}
inductive PMs (X : Cx) : List Pattern → List IP → Prop
  | nil : PMs X [] []
  | cons {p : Pattern} {ip : IP} {ps : List Pattern} {ips : List IP} : PMi X p ip → PMs X ps ips → PMs X (p :: ps) (ip :: ips)
theorem PMs.length {ps : List Pattern} {ips : List IP} (h : PMs X ps ips) : ps.length = ips.length := by
  induction h with
  | nil => rfl
  | cons _ _ ih => rw [List.length_cons, List.length_cons, ih]
inductive MCs (X : Cx) : List MatchCase → List (List IP × TS) → Prop
  | nil : MCs X [] []
  | cons {ps : List Pattern} {ips : List IP} {pos : Pos} {body : List Stmt} {t : TS} {rest : List MatchCase} {ts : List (List IP × TS)} : PMs X ps ips → ps.findIdx? (·.isStar) = none → (ps.all fun p => p.isWildcard || (p.isStar && p.names.isEmpty)) = false → PSs X body t → MCs X rest ts →
    MCs X (⟨.MatchSequence ps pos, none, body⟩ :: rest) ((ips, t) :: ts)
end
end L2

set_option Elab.async false
set_option linter.all false
set_option maxRecDepth 100000
set_option maxHeartbeats 4000000
/-! match, told in data -/
namespace AL
open PySem PySem.Spec PyProof.Rows L2
noncomputable abbrev DB := List (Nat × D)
noncomputable def dp1 : IP → D → (Option DB → Prop) → Prop
  | .val z, d, k => (∃ y, d = .str y ∧ k (if y = z then some [] else none)) ∨ ((d = .non ∨ (∃ b, d = .bl b) ∨ ∃ i, d = .int i) ∧ k none)
  | .cap i, d, k => k (some [(i, d)])
  | .alt z1 z2 i, d, k => (∃ y, d = .str y ∧ k (if y = z1 ∨ y = z2 then some [(i, d)] else none)) ∨ ((d = .non ∨ (∃ b, d = .bl b) ∨ ∃ i, d = .int i) ∧ k none)
noncomputable def dps : List IP → List D → (Option DB → Prop) → Prop
  | [], _, k => k (some [])
  | p :: ps, d :: ds, k => dp1 p d fun r => match r with
    | none => k none
    | some bs => dps ps ds fun r' => match r' with
      | none => k none
      | some more => k (some (bs ++ more))
  | _ :: _, [], _ => False
noncomputable def putM (S : Sg) : DB → Sg
  | [] => S
  | p :: bs => putM (S.set p.1 (some p.2)) bs
/-- the cases of a match on the tuple of ds -/
noncomputable def AMs (Γ : Cg) : List (List IP × TS) → List D → Hp → Ms → Sg → AEnds → Prop
  | [], _, F, ms, S, A => A.nx F ms S
  | (ips, t) :: r, ds, F, ms, S, A => if ds.length = ips.length then dps ips ds fun o => match o with
      | none => AMs Γ r ds F ms S A
      | some bs => AS Γ t F ms (putM S bs) A
    else AMs Γ r ds F ms S A
inductive RB (K : Frg) (F : Hp) : DB → Bs → Prop
  | nil : RB K F [] []
  | cons {i : Nat} {d : D} {v : V} {a : DB} {b : Bs} : Rep K F d v → RB K F a b → RB K F ((i, d) :: a) ((i, v) :: b)
inductive RBo (K : Frg) (F : Hp) : Option DB → Option Bs → Prop
  | no : RBo K F none none
  | yes {a : DB} {b : Bs} : RB K F a b → RBo K F (some a) (some b)
theorem RB.put {K : Frg} {F : Hp} {a : DB} {b : Bs} (h : RB K F a b) : ∀ {S : Sg} {σ : L2.St}, SRep K F S σ → SRep K F (putM S a) (putB σ b) := by
  induction h with
  | nil => intro S σ hs; exact hs
  | cons r _ ih => intro S σ hs; exact ih (hs.set r)
variable {Γ : Cg} {F : Hp} {ms : Ms} {S : Sg} {A : AEnds}
end AL

set_option Elab.async false
set_option linter.all false
set_option maxRecDepth 100000
set_option maxHeartbeats 4000000
/-! get of a written dict of the module -/
namespace L2
open PySem PySem.Spec PyProof.Rows
noncomputable def IsK (K : PySem.W.Frag) (w : World) (a : Addr) : Prop := ∃ es n, K.lookup a = some ⟨.type "dict", none, .dict es n, #[]⟩ ∧ PySem.W.KeysLit w.params es.toList ∧ (a == sysModules) = false
/-- what stands at a key, or that nothing does -/
noncomputable def KAt (K : PySem.W.Frag) (a : Addr) (z : Str) : Option V → Prop
  | none => PySem.W.nsIn K a z = some none
  | some v => ∃ u, PySem.W.nsIn K a z = some (some u) ∧ RelV v u
noncomputable def tKGet2 (K : PySem.W.Frag) (w : World) (td ty tx : TE) : TE := fun σ H Q => td σ H fun x H1 => ∃ a, x = .ref a ∧ IsK K w a ∧ ty σ H1 fun y H2 => tx σ H2 fun z H3 => ∃ (k : Str) (o : Option V), y = .str k ∧ KAt K a k o ∧ Q (o.getD z) H3
section
variable {X : Cx} {o e f : Expr} {apos cpos : Pos} {td ty tx : TE}
end
end L2

set_option Elab.async false
set_option linter.all false
set_option maxRecDepth 100000
set_option maxHeartbeats 4000000
/-! dict displays, told in data -/
namespace AL
open PySem PySem.Spec PyProof.Rows L2
inductive RepP (K : Frg) (F : Hp) : List (D × D) → List (V × V) → Prop
  | nil : RepP K F [] []
  | cons {x y : D} {u v : V} {ds : List (D × D)} {vs : List (V × V)} : Rep K F x u → Rep K F y v → RepP K F ds vs → RepP K F ((x, y) :: ds) ((u, v) :: vs)
theorem rep_key {K : Frg} {F : Hp} {k : Key} {v : V} (h : Rep K F (kD k) v) : v = kV k := by
  cases k <;> cases h <;> rfl
theorem RepP.to {K : Frg} {F : Hp} : ∀ {kvs : List (Key × D)} {vs : List (V × V)}, RepP K F (kvs.map fun kv => (kD kv.1, kv.2)) vs → ∃ ws : List (Key × V), vs = ws.map (fun kv => (kV kv.1, kv.2)) ∧ RepK K F kvs ws
  | [], _, .nil => ⟨[], rfl, .nil⟩
  | (k, d) :: r, _, .cons h1 h2 h3 => by
    obtain ⟨ws, rfl, rk⟩ := RepP.to h3
    obtain rfl := rep_key h1
    exact ⟨(k, _) :: ws, rfl, .cons h2 rk⟩
/-- the pairs of a display -/
noncomputable def AP (Γ : Cg) (trs : List (TE × TE)) (F : Hp) (ms : Ms) (S : Sg) (Q : Hp → Ms → List (D × D) → Prop) : Prop := ∀ (R : Ms) σ H (Qc : List (V × V) → Hp → Prop), SRep Γ.K F S σ → Hold Γ.K F (ms ++ R) H → XLe Γ R F →
  (∀ F' ms' ps vs H', Ex F F' → Hold Γ.K F' (ms' ++ R) H' → RepP Γ.K F' ps vs → Q F' ms' ps → Qc vs H') → tPairs trs σ H Qc
variable {Γ : Cg} {F : Hp} {ms : Ms} {S : Sg}
theorem RepP.mono {K : Frg} {F F' : Hp} (e : Ex F F') {ds : List (D × D)} {vs : List (V × V)} (h : RepP K F ds vs) : RepP K F' ds vs := by
  induction h with
  | nil => exact .nil
  | cons h1 h2 _ ih => exact .cons (h1.mono e) (h2.mono e) ih
end AL

set_option Elab.async false
set_option linter.all false
set_option maxRecDepth 100000
set_option maxHeartbeats 4000000
/-! get of a module's dict of ints, told in data -/
namespace AL
open PySem PySem.Spec PyProof.Rows L2
variable {Γ : Cg} {F : Hp} {ms : Ms} {S : Sg} {Q : QE}
end AL

set_option Elab.async false
set_option linter.all false
set_option maxRecDepth 100000
set_option maxHeartbeats 4000000
/-! a comprehension whose element may raise, in a try's body -/
namespace L2
open PySem PySem.Spec PyProof.Rows
end L2

set_option Elab.async false
set_option linter.all false
set_option maxRecDepth 100000
set_option maxHeartbeats 4000000
/-! owned objects reordered or forgotten -/
namespace AL
open PySem PySem.Spec PyProof.Rows L2
theorem Hold.sub {K : Frg} {F H : Hp} {ms ms2 G : Ms} (h : Hold K F ms H) (p : ms.Perm (ms2 ++ G)) : Hold K F ms2 H := by
  have h := h.perm p.symm
  refine ⟨h.ex, fun q hq => h.own q (List.mem_append_left _ hq), ?_⟩
  have hn := h.nd
  rw [List.map_append, List.nodup_append] at hn
  exact hn.1
/-- up to order and forgotten objects -/
noncomputable def UpQ (Q : QE) : QE := fun F ms d => ∃ ms2 G, ms.Perm (ms2 ++ G) ∧ Q F ms2 d
noncomputable def UpX (Ea : XA) : XA := fun C fs F ms => ∃ ms2 G, ms.Perm (ms2 ++ G) ∧ Ea C fs F ms2
theorem perm_r {ms ms2 G R : Ms} (p : ms.Perm (ms2 ++ G)) : (ms ++ R).Perm ((ms2 ++ R) ++ G) := by
  refine (p.append_right R).trans ?_
  rw [List.append_assoc, List.append_assoc]
  exact List.Perm.append_left _ List.perm_append_comm
theorem Hold.subR {K : Frg} {F H : Hp} {ms ms2 G R : Ms} (h : Hold K F (ms ++ R) H) (p : ms.Perm (ms2 ++ G)) : Hold K F (ms2 ++ R) H := h.sub (perm_r p)
section
variable {K : Frg} {F : Hp} {ms ms2 G R : Ms} {S : Sg} {Q : QE} {E : XK} {Ea : XA} {t : TS} {te : TE} {A : AEnds} {Γ : Cg}
theorem as_permA (p : ms.Perm (ms2 ++ G)) (h : AS Γ t F ms2 S A) : AS Γ t F ms S A := fun R E' σ H hs hh l => h R E' σ H hs (hh.subR p) l
end
end AL

set_option Elab.async false
set_option linter.all false
set_option maxRecDepth 100000
set_option maxHeartbeats 4000000
/-! list() : of a text, owned; of an owned list, frozen -/
namespace AL
open PySem PySem.Spec PyProof.Rows L2
section
variable {K : Frg} {F : Hp} {ms : Ms} {Q : QE}
end
end AL

set_option Elab.async false
set_option linter.all false
set_option maxRecDepth 100000
set_option maxHeartbeats 4000000
/-! b is c for bools; d == e for dicts; a board's or another object's place told in the middle -/
namespace AL
open PySem PySem.Spec PyProof.Rows L2
noncomputable def rISB : R2 := fun x y H Q => ∃ b c, x = .bl b ∧ y = .bl c ∧ Q (.bl (decide (b = c))) H
noncomputable def rNOTB : R2 := fun x y H Q => ∃ b c, x = .bl b ∧ y = .bl c ∧ Q (.bl (!decide (b = c))) H
section
variable {K : Frg} {F : Hp} {ms : Ms} {Q : QE}
noncomputable def rEQD (K : Frg) : R2 := fun x y H Q => rEqDA x y H Q
theorem kEQD {X : Cx} (h : X.K = K) (hu : X.A.units + 64 < cLine) : OpR X (compareOp .Eq) (rEQD K) := op_eq_dictA (by omega)
/-- d == e, the same entries in both -/
theorem ar_EQdic {m : List (Key × Int)} {n n' : Nat} {l l' : Addr} (hx : ms[n]? = some (l, .dic (m.map fun p => (p.1, D.int p.2)))) (hy : ms[n']? = some (l', .dic (m.map fun p => (p.1, D.int p.2)))) (nd : (m.map (·.1)).Nodup) (q : Q F ms (.bl true)) : AR K (rEQD K) (.ref l) (.ref l') F ms Q := fun R u v H Qc hu hv hh k => by
  cases hu
  cases hv
  obtain ⟨_, vs, ha, rk⟩ := hh.at (get_app hx)
  obtain ⟨_, vs', ha', rk'⟩ := hh.at (get_app hy)
  have e1 := repK_ints rk
  have e2 := repK_ints rk'
  subst e1 e2
  refine ⟨l, l', _, _, rfl, rfl, ha, ha', rfl, fun p hp => ?_, k F ms _ _ H Ex.refl hh (.bl _) q⟩
  obtain ⟨p0, hp0, rfl⟩ := List.mem_map.mp hp
  exact ⟨valV_nd nd p0 hp0, rfl⟩
end
end AL

set_option Elab.async false
set_option linter.all false
set_option maxRecDepth 100000
set_option maxHeartbeats 4000000
/-! x(..) of a name that holds a class; class methods; a try with a named handler that is never reached -/
namespace L2
open PySem PySem.Spec PyProof.Rows
section
variable {X : Cx} {CX : CXT} {k : Nat} {f C : Addr} {fd : FuncData} {ps : List Str} {sp : Sp} {E : XK} {x : Str} {p pos : Pos} {e : Expr} {es : List Expr} {t : TA} {dvs : List V} {ds : List Value}
/-- x(..), x a local name -/
noncomputable def tMakeV (i : Nat) (C : Addr) (sp : Sp) (dvs : List V) (E : XK) (t : TA) : TE := fun σ H Q => tVar i σ H fun v H' => v = .ref C ∧ tMake C sp dvs E t σ H' Q
theorem FnOk.met {P : Program} {w : World} {K : PySem.W.Frag} {mg : Str → Option Value} {base : Heap} (F : FnOk P w K mg base CX k f fd ps sp) (hb : Binds K fd ps []) : FnR P w K mg base CX k f sp :=
  (F.raw hb .nil).imp fun vs H Q E h => by rw [List.append_nil]; exact h
end
end L2
namespace AL
open PySem PySem.Spec PyProof.Rows L2
section
variable {Γ : Cg} {F : Hp} {ms : Ms} {S : Sg} {Q : QE} {ta : TE} {ta' : TA} {C : Addr} {sp : ASp}
/-- isinstance(x, C) of an own class -/
noncomputable def rISC (C : Addr) : List V → Hp → VK → Prop := fun xs H Q => ∃ a dx fs, xs = [.ref a, .ref C] ∧ H a = some (.ins C dx fs) ∧ Q (.bl true) H
end
end AL

set_option Elab.async false
set_option linter.all false
set_option maxRecDepth 100000
set_option maxHeartbeats 4000000
/-! a name whose cell holds a text with a token; str.replace with such a name -/
namespace L2
open PySem PySem.Spec PyProof.Rows
/-- an iterable, evaluated where a fact about the state is kept -/
noncomputable def PIF (X : Cx) (Fact : Shared → Prop) (tg iter : Expr) (wi : TI) : Prop := ∀ (pins : List (Addr × Obj)) (s : Shared) (σ : St) (H : Hp) (R : It → Hp → Prop), Fact s → Inv X pins σ H s → wi σ H R →
  wpAny (model X.prog X.w) X.A (eval iter X.env) (fun v s1 => wpAny (model X.prog X.w) X.A (pyIter v) (fun itv s2 => Fact s2 ∧ PIE X pins σ tg R itv s2) X.xe s1) X.xe s
/-- what gives out tokens alone -/
noncomputable def PEn (n : Nat) (X : Cx) (e : Expr) (t : TE) : Prop := ∀ (pins : List (Addr × Obj)) (s : Shared) (σ : St) (H : Hp) (Q : VK), n ≤ s.toks → Inv X pins σ H s → t σ H Q → wpAny (model X.prog X.w) X.A (eval e X.env) (EP X pins σ Q) X.xe s
theorem tkF {α : Type} {t : Sem α} {Q : α → Shared → Prop} {M : Model} {A : Around} {s : Shared} {n : Nat} (hn : n ≤ s.toks) (h : wpAny M A t Q (fun _ _ => False) s) : wpAny M A t (fun a s' => n ≤ s'.toks ∧ Q a s') (fun _ _ => False) s :=
  wpAny_mono (PySem.wpAny_toks_of hn h) (fun _ _ z => z) fun _ _ z => z.2
theorem lc_coreT {X : Cx} {pins : List (Addr × Obj)} {s : Shared} {σ : St} {H : Hp} {Q : VK} {elt tg iter : Expr} {ifs : List Expr} {scope : Scope} {own : List (Str × Nat)} {pos pos' : Pos} {wi : TI} {g : TG} {tt : TT} {te : TE} {use : Option (Value → Sem Unit)} {Qf : Value → Shared → Prop} {Fact : Shared → Prop}
    (hc : X.calm = true) (hN : X.N.Nodup) (I : Inv X pins σ H s) (hi : PIF X Fact tg iter wi) (ok : BlkOk X.N X.env.scope scope own)
    (hg : ∀ (s : Shared) (H : Hp) (C : Addr) (cl : List (Str × Addr)) (fp : List Addr), PG (X.blk s H scope (compEnvC scope cl C X.env) fp) tg g) (ht : ∀ (s : Shared) (H : Hp) (C : Addr) (cl : List (Str × Addr)) (fp : List Addr), PTs (X.blk s H scope (compEnvC scope cl C X.env) fp) ifs tt)
    (hFk : ∀ s s' : Shared, s.toks ≤ s'.toks → (∀ b o, s.heap.get? b = some o → s'.heap.get? b = some o) → Fact s → Fact s') (hF : Fact s)
    (he : ∀ (s : Shared) (H : Hp) (C : Addr) (cl : List (Str × Addr)) (fp : List Addr), C = s.heap.objs.size → cl = cellsFrom (C + 1) scope.names (cloFrom X.env.cells scope.names []) → Inv X pins σ H s → Fact s → (∀ b ∈ fp, FpOk X pins H b) → PEn s.toks (X.blk s H scope (compEnvC scope cl C X.env) fp) elt te) (hs : ∀ x, foldedSetIterable iter X.env x = pure x)
    (h : tLc wi g tt te (own.map (·.2)) σ H Q)
    (hRR : ∀ D C s' m H', Inv X pins σ H' s' → Q (.ref D) H' → s'.heap.Ns C m → FpOk X pins H' C → compEnds (model X.prog X.w) X.A X.xe use Qf (.ref D) (compEnvC scope (cellsFrom (C + 1) scope.names (cloFrom X.env.cells scope.names [])) C X.env) (.ok .next) s') :
    wpAny (model X.prog X.w) X.A (comprehension (.ListComp elt [⟨tg, iter, ifs, 0⟩] scope pos) scope X.env pos' (newList []) false (eval iter X.env) use) Qf X.xe s := by
  have hfree : ∀ y ∈ scope.names, y.2 = .free → ∃ c, X.env.cells.lookup y.1 = some c := fun y hy e => by
    rcases ok.free y hy e with k | k
    · exact I.ok.has _ (.inl k)
    · exact I.ok.has _ (.inr k)
  refine PySem.comprehension_at (use := use) rfl hs (closure_ok hfree) ok.kind (fun y hy e => by rw [ok.uniq y hy, e])
    (thn (hi pins s σ H _ hF I h) fun xv s1 hx => thn hx fun itv s2 ⟨hF2, h2⟩ => ?_)
  obtain ⟨it, fp, tn, J, H2, e, I2, T, st2, f2, q⟩ := h2
  subst e
  refine wpAny_newObj_type (newEnv_comp ?_) (by show 0 ≤ sizeLine; decide)
  generalize hD : s2.heap.objs.size = D
  have hDn : H2 D = none := I2.hok.fresh (Nat.le_of_eq hD)
  obtain ⟨W, ⟨m0, w0⟩, turn⟩ := q D hDn
  -- the new list
  generalize hs3 : ({ s2 with heap := s2.heap.push { cls := .type "list", data := .seq ([] : List Value).toArray } } : Shared) = s3
  have I3 : Inv X pins σ (upd H2 D (.lst [])) s3 := by
    rw [← hs3]
    refine I2.laid (t' := s2.toks) (fun b o e => Heap.get?_push_of_some _ e) (Nat.le_of_eq hD) ⟨Nat.zero_le _, [], 0, .nil, ?_⟩
    rw [← hD]
    exact Heap.get?_push_size _ rfl
  have h3 : s3.heap = s2.heap.push { cls := .type "list", data := .seq ([] : List Value).toArray } := by rw [← hs3]
  have sz : ∀ b ∈ fp, b < s2.heap.objs.size := fun b hb => by
    obtain ⟨o, e, _⟩ := T.obj _ _ st2 b hb
    exact Heap.lt_size e
  have f3 : ∀ b ∈ fp, FpOk X pins (upd H2 D (.lst [])) b ∧ b < s3.heap.objs.size := fun b hb => by
    have hlt := sz b hb
    refine ⟨⟨?_, (f2 b hb).2⟩, by rw [h3, Heap.size_push]; exact Nat.lt_succ_of_lt hlt⟩
    rw [upd_ne (by rw [← hD]; exact Nat.ne_of_lt hlt)]
    exact (f2 b hb).1
  have st3 : tn 0 s3.heap := T.keep _ _ _ st2 fun b _ o e => by rw [h3]; exact Heap.get?_push_of_some _ e
  have I4 := block_start I3 ok hN f3
  have pg := hg s3 (upd H2 D (.lst [])) s3.heap.objs.size (cellsFrom (s3.heap.objs.size + 1) scope.names (cloFrom X.env.cells scope.names [])) fp
  have pt := ht s3 (upd H2 D (.lst [])) s3.heap.objs.size (cellsFrom (s3.heap.objs.size + 1) scope.names (cloFrom X.env.cells scope.names [])) fp
  have hF3 : Fact s3 := hFk s2 s3 (by rw [← hs3]; exact Nat.le_refl _) (fun b o e => by rw [h3]; exact Heap.get?_push_of_some _ e) hF2
  have pe := he s3 (upd H2 D (.lst [])) s3.heap.objs.size (cellsFrom (s3.heap.objs.size + 1) scope.names (cloFrom X.env.cells scope.names [])) fp rfl rfl I3 hF3 fun b hb => (f3 b hb).1
  show codeAny _ _ (.compStart (.ListComp elt [⟨tg, iter, ifs, 0⟩] scope pos) 0 (.ref it) (.ref D) (compEnvC scope (cellsFrom (s3.heap.objs.size + 1) scope.names (cloFrom X.env.cells scope.names [])) s3.heap.objs.size X.env)) (compEnds (model X.prog X.w) X.A X.xe use Qf (.ref D) (compEnvC scope (cellsFrom (s3.heap.objs.size + 1) scope.names (cloFrom X.env.cells scope.names [])) s3.heap.objs.size X.env)) { s3 with heap := pushCells (s3.heap.push { cls := .type "dict", data := .dict #[] }) scope.names }
  have nfp : ∀ b ∈ fp, (upd H2 D (.lst [])) b = none := fun b hb => (f3 b hb).1.1
  generalize hce : compEnvC scope (cellsFrom (s3.heap.objs.size + 1) scope.names (cloFrom X.env.cells scope.names [])) s3.heap.objs.size X.env = ce at I4 pg pt pe ⊢
  have cL : ce.locals = s3.heap.objs.size := by subst hce; rfl
  generalize hH3 : upd H2 D (.lst []) = H3 at I3 I4 pg pt pe w0 nfp f3
  generalize hs4 : ({ s3 with heap := pushCells (s3.heap.push { cls := .type "dict", data := .dict #[] }) scope.names } : Shared) = s4 at I4 ⊢
  have st4 : tn 0 s4.heap := T.keep _ _ _ st3 fun b _ o e => by rw [← hs4]; exact pushCells_keeps _ _ _ _ (Heap.get?_push_of_some _ e)
  have stat : ∀ {σ' : St} {H' : Hp} {s' : Shared}, Inv (X.blk s3 H3 scope ce fp) [] σ' H' s' → (∀ b ∈ fp, H' b = none) → ∀ b ∈ fp, FpOk (X.blk s3 H3 scope ce fp) [] H' b := fun {σ' H' s'} I' hn b hb =>
    ⟨hn b hb, (I'.ok.exf b hb).1, I'.ok.exfs b hb, .inl hb, fun x c e => (I'.ok.exf b hb).2 x c e, fun p hp => absurd (show p ∈ ([] : List (Addr × Obj)) ++ [] from hp) (by simp)⟩
  have loop : codeAny (model X.prog X.w) X.A (.compLoop (.ListComp elt [⟨tg, iter, ifs, 0⟩] scope pos) 0 (.ref it) (.ref D) ce) (compEnds (model X.prog X.w) X.A X.xe use Qf (.ref D) ce) s4 := by
    refine compLoop_any (fun n s' => s3.toks ≤ s'.toks ∧ ∃ i H', Inv (X.blk s3 H3 scope ce fp) [] (wipe σ (own.map (·.2))) H' s' ∧ tn i s'.heap ∧ (∀ b ∈ fp, H' b = none) ∧ W i n H') ?_ m0 ⟨by rw [← hs4]; exact Nat.le_refl _, 0, H3, I4, st4, nfp, w0⟩
    rintro n s5 ⟨k5, i, H5, I5, st5, n5, w5⟩
    rcases turn i n H5 w5 with ⟨stop, qq⟩ | ⟨go, Nx, hNx, step⟩
    · have td := T.done (X.blk s3 H3 scope ce fp) rfl rfl rfl hc i [] s5 _ H5 (fun _ _ => False) I5 (stat I5 n5) st5 stop
      refine thnF td fun r s6 ⟨hr, I6⟩ => ?_
      subst hr
      -- back in the def's context
      have I7 : Inv X pins σ H5 s6 := I3.call' (ch := fp) I6.os I6.base I6.hok I6.bare fun b hb => ⟨(f3 b hb).1.2.2.2.1, (f3 b hb).1.2.1, (f3 b hb).1.2.2.2.2.1, (f3 b hb).1.2.2.2.2.2⟩
      have nC : H5 s3.heap.objs.size = none := by
        have z : H5 ce.locals = none := I6.free
        rw [cL] at z
        exact z
      obtain ⟨m, hn, _⟩ := I6.loc
      have hn : s6.heap.Ns ce.locals m := hn
      rw [cL] at hn
      have fin0 := hRR D s3.heap.objs.size s6 m H5 I7 qq hn (I3.fpOk (Nat.le_refl _) nC)
      rw [hce] at fin0
      exact fin0
    · have ti := T.item (X.blk s3 H3 scope ce fp) rfl rfl rfl hc i [] s5 _ H5 (fun _ _ => False) I5 (stat I5 n5) st5 go
      refine thnF (tkF k5 ti) fun r s6 ⟨k6, u, hr, h6⟩ => ?_
      subst hr
      refine thnF (tkF k6 h6) fun _ s7 ⟨k7, x, H7, I7, r7, y7, st7, n7⟩ => ?_
      have I7' := I7.pinned (stat I7 n7) (T.obj _ _ st7)
      refine thnF (tkF k7 (pg.run _ s7 _ H7 x u _ I7' r7 (step x H7 y7))) fun _ s8 ⟨k8, σ8, H8, I8, hw8, q8⟩ => ?_
      refine thnF (tkF k8 (pt.run _ s8 σ8 H8 _ I8 q8)) fun b s9 ⟨k9, H9, I9, q9⟩ => ?_
      -- the turn's end
      have fin : ∀ {s' : Shared} {H' : Hp}, Inv (X.blk s3 H3 scope ce fp) ([] ++ pinsAt fp s7.heap) σ8 H' s' → Nx H' → s3.toks ≤ s'.toks → ∃ m, m < n ∧ s3.toks ≤ s'.toks ∧ ∃ i H', Inv (X.blk s3 H3 scope ce fp) [] (wipe σ (own.map (·.2))) H' s' ∧ tn i s'.heap ∧ (∀ b ∈ fp, H' b = none) ∧ W i m H' := fun {s' H'} I' nx kt => by
        obtain ⟨m', hm, w'⟩ := hNx H' nx
        have pin' : ∀ b ∈ fp, ∀ o, s7.heap.get? b = some o → s'.heap.get? b = some o ∧ H' b = none := fun b hb o e =>
          let z := I'.pin (b, o) (List.mem_append_right _ (List.mem_append_right _ (mem_pinsAt hb e)))
          ⟨z.1, z.2.1⟩
        have hl : (wipe σ (own.map (·.2))).length = σ8.length := by rw [← hw8, wipe_length]
        refine ⟨m', hm, kt, i + 1, H', (I'.unpinned (pins := [])).weak hl (fun j v e => ?_), T.keep _ _ _ st7 fun b hb o e => (pin' b hb o e).1, fun b hb => ?_, w'⟩
        · rw [← hw8] at e
          exact (wipe_some e).1
        · obtain ⟨o, e, _⟩ := T.obj _ _ st7 b hb
          exact (pin' b hb o e).2
      cases b with
      | false =>
        simp only [Bool.false_eq_true, if_false] at q9 ⊢
        exact fin I9 q9 k9
      | true =>
        simp only [if_true] at q9 ⊢
        refine thnF (tkF k9 (pe _ s9 σ8 H9 _ k9 I9 q9)) fun z s10 ⟨k10, yv, H10, I10, r10, acc, hD10, hz10, nx⟩ => ?_
        exact thnF (tkF k10 (app_ok (X := X.blk s3 H3 scope ce fp) (Q := fun _ s' => Inv (X.blk s3 H3 scope ce fp) ([] ++ pinsAt fp s7.heap) σ8 (upd H10 D (.lst (acc ++ [yv]))) s') I10 hD10 hz10 r10 fun s11 I11 => I11)) fun _ s11 ⟨k11, I11⟩ => fin I11 nx k11
  exact codeAny_compStart_list loop (T.self X.A 0 _ _ _ st4 loop)
/-! ### a cell whose text has a token -/
noncomputable def CT (X : Cx) (x : Str) (s : Shared) : Prop := ∃ (c : Addr) (z : Str) (t : Nat), X.env.cells.lookup x = some c ∧ s.heap.IsCell c (some (.str z t)) ∧ t ≠ 0 ∧ t < s.toks
section
variable {X : Cx} {x : Str} {s s' : Shared} {pins : List (Addr × Obj)} {σ : St} {H H' : Hp}
theorem CT.keep (h : CT X x s) (k : s.toks ≤ s'.toks) (g : ∀ b o, s.heap.get? b = some o → s'.heap.get? b = some o) : CT X x s' := by
  obtain ⟨c, z, t, h1, h2, h3, h4⟩ := h
  exact ⟨c, z, t, h1, h2.keeps g, h3, Nat.lt_of_lt_of_le h4 k⟩
theorem CT.tok (h : CT X x s) {k : Nat} (hk : s.toks ≤ k) : CT X x { s with toks := k } := h.keep hk fun _ _ e => e
theorem CT.un {fs ex : List Addr} (h : CT X x s) (I : Inv X pins σ H s) (k : s.toks ≤ s'.toks) (u : Un fs ex H H' s.heap s'.heap) (hx : ∀ c, X.env.cells.lookup x = some c → c ∉ ex) : CT X x s' := by
  obtain ⟨c, z, t, h1, ⟨o, ho, hd⟩, h3, h4⟩ := h
  obtain ⟨sl, e⟩ := u.any ho (I.freeC x c h1) (hx c h1)
  exact ⟨c, z, t, h1, ⟨_, e, hd⟩, h3, Nat.lt_of_lt_of_le h4 k⟩
end
noncomputable def PEk (X : Cx) (x : Str) (e : Expr) (t : TE) : Prop := ∀ (pins : List (Addr × Obj)) (s : Shared) (σ : St) (H : Hp) (Q : VK), CT X x s → Inv X pins σ H s → t σ H Q → wpAny (model X.prog X.w) X.A (eval e X.env) (fun v s' => CT X x s' ∧ EP X pins σ Q v s') X.xe s
noncomputable def PTk (X : Cx) (x : Str) (e : Expr) (t : TT) : Prop := ∀ (pins : List (Addr × Obj)) (s : Shared) (σ : St) (H : Hp) (Q : Bool → Hp → Prop), CT X x s → Inv X pins σ H s → t σ H Q → wpAny (model X.prog X.w) X.A (isTrue e X.env (eval e X.env)) (fun b s' => CT X x s' ∧ TP X pins σ Q b s') X.xe s
noncomputable def PAk (X : Cx) (x : Str) (es : List Expr) (t : TA) : Prop := ∀ (pos : Pos) (pins : List (Addr × Obj)) (s : Shared) (σ : St) (H : Hp) (Q : List V → Hp → Prop), CT X x s → Inv X pins σ H s → t σ H Q → wpAny (model X.prog X.w) X.A (spliced (backTo pos (starEach es X.env))) (fun us s' => CT X x s' ∧ AP X pins σ Q us s') X.xe s
/-- a statement behind which the cell still has its token -/
noncomputable def KS (X : Cx) (x : Str) (st : Stmt) (t : TS) : Prop := ∀ (pins : List (Addr × Obj)) (s : Shared) (σ : St) (H : Hp) (D : Ends), CT X x s → Inv X pins σ H s → t D σ H → wpAny (model X.prog X.w) X.A (exec st X.env) (fun f s' => SP X pins D f s' ∧ (f = .next → CT X x s')) X.xe s
/-- a statement before which the cell has its token -/
noncomputable def KS1 (X : Cx) (x : Str) (st : Stmt) (t : TS) : Prop := ∀ (pins : List (Addr × Obj)) (s : Shared) (σ : St) (H : Hp) (D : Ends), CT X x s → Inv X pins σ H s → t D σ H → wpAny (model X.prog X.w) X.A (exec st X.env) (SP X pins D) X.xe s
noncomputable def KSs (X : Cx) (x : Str) (sts : List Stmt) (t : TS) : Prop := ∀ (pins : List (Addr × Obj)) (s : Shared) (σ : St) (H : Hp) (D : Ends), CT X x s → Inv X pins σ H s → t D σ H → wpAny (model X.prog X.w) X.A (execs sts X.env) (SP X pins D) X.xe s
noncomputable def rIxTo (K : PySem.W.Frag) : R2 := rIxT K
/-- two texts -/
noncomputable def rEqSS : R2 := fun x y H Q => ∃ i j, x = .str i ∧ y = .str j ∧ Q (.bl (decide (i = j))) H
section
variable {X : Cx} {x y : Str} {a b e : Expr} {es : List Expr} {ta tb te : TE} {tr : TA} {tc : TT} {t u : TS} {st : Stmt} {sts rest : List Stmt} {pos p : Pos}
theorem pek_str {z : Str} {j} : PEk X x (.Constant (.str z) j pos) (tC (.str z)) := fun _ s _ H _ ct I h => Calls.Constant_str ⟨ct.tok (by omega), .str z, H, I.tok _, ⟨_, rfl⟩, h⟩
theorem kss_cons1 (h1 : KS1 X x st t) (h2 : PSs X rest u) : KSs X x (st :: rest) (tSeq t u) := by
  intro pins s σ H D ct I h
  refine wpAny_execs_cons (thn (h1 pins s σ H { D with nx := u D } ct I h) fun f s1 q => ?_)
  cases f with
  | next =>
    obtain ⟨σ', H', I', q⟩ := q
    exact h2.run pins s1 σ' H' D I' q
  | ret v => exact q
  | brk => exact q
  | cont => exact q
end
section
variable {X : Cx} {x : Str} {pins : List (Addr × Obj)} {σ : St} {H : Hp} {s : Shared}
/-- a cell is stored: what it holds -/
theorem store_cell {M : Model} {A : Around} {E : Value → Shared → Prop} {i : Nat} {v : V} {u : Value} {Q : Unit → Shared → Prop} (I : Inv X pins σ H s) (hN : X.N.Nodup) (hi : X.N[i]? = some x) (hk : X.env.scope.names.lookup x = some .cell) (r : RelV v u) (hfn : X.fn x = true)
    (h : ∀ s' c, s'.toks = s.toks → Inv X pins (σ.set i (some v)) H s' → X.env.cells.lookup x = some c → s'.heap.IsCell c (some u) → Q () s') : wpAny M A (storeName X.env x u) Q E s := by
  obtain ⟨m, hn, hl⟩ := id I.loc
  have hiσ : i < σ.length := by rw [I.len]; exact (List.getElem?_eq_some_iff.mp hi).1
  have cne := I.cne
  obtain ⟨c, hc⟩ := I.ok.has x (.inl hk)
  obtain ⟨w', z⟩ := I.cell x c hc
  refine wpAny_storeName_cell I.ok.kind hk hc z (fun h' hc' hs => ?_)
  obtain ⟨oc, hoc, hocd⟩ := id z
  have old : ∀ b o, X.s_0.heap.get? b = some o → b ≠ c := fun b o e => Nat.ne_of_lt (Nat.lt_of_lt_of_le (Heap.lt_size e) (I.ok.cab x c hfn hc))
  have tr : HOk X.prog X.w H h' := fun b ob e => (I.hok b ob e).stay (fun d w2 hd q => (hs.2 d (by
    rintro rfl
    have nf := I.freeC x _ hc
    rcases hd with rfl | hd
    · rw [nf] at e; cases e
    · rw [nf] at hd; cases hd)).trans q) (fun _ q => q) fun _ _ q => q
  refine h { s with heap := h' } c rfl ⟨I.ok, I.os, I.bare, ?_, ⟨m, hn.sameBut hs (Ne.symm (cne x c hc)), fun j y v' e1 e2 e3 => ?_⟩, fun y c' e => ?_, I.free, I.freeC, fun p hp => ?_, tr, by simpa using I.len⟩ hc hc'
  · exact ⟨fun b o e n hb hx => (hs.2 b (old b o e)).trans (I.base.keep b o e n hb hx), fun b o e n hb hx => let ⟨sl, q⟩ := I.base.slot b o e n hb hx; ⟨sl, (hs.2 b (old b o e)).trans q⟩, I.base.free,
      fun b o e hx => let ⟨o', q⟩ := I.base.there b o e hx; ⟨o', (hs.2 b (old b o e)).trans q⟩, I.base.tups, I.base.frzs, I.base.tbls⟩
  · by_cases hj : j = i
    · subst hj
      rw [hi] at e1; cases e1
      rw [List.getElem?_set_self hiσ] at e2
      cases e2
      exact ⟨u, r, .inr ⟨.inl hk, c, hc, hc'⟩⟩
    · rw [List.getElem?_set_ne (Ne.symm hj)] at e2
      obtain ⟨u', r', q⟩ := hl j y v' e1 e2 e3
      rcases q with q | ⟨k, c', e, z'⟩
      · exact ⟨u', r', .inl q⟩
      · refine ⟨u', r', .inr ⟨k, c', e, z'.sameBut hs ?_⟩⟩
        rintro rfl
        exact hj (nodup_ix hN e1 (I.ok.inj _ _ _ e hc ▸ hi))
  · by_cases hcc : c' = c
    · subst hcc; exact ⟨_, hc'⟩
    · obtain ⟨w2, z2⟩ := I.cell y c' e
      exact ⟨w2, z2.sameBut hs hcc⟩
  · obtain ⟨e, n, ne, nf, d⟩ := I.pin p hp
    refine ⟨(hs.2 p.1 fun q => ?_).trans e, n, ne, nf, d⟩
    rw [q, hoc] at e
    exact d w' (by rw [← Option.some.inj e]; exact hocd)
end
section
variable {X : Cx} {x : Str} {a b e : Expr} {ta tb : TE} {t u : TS} {rest : List Stmt} {pos pos' ps : Pos}
/-- behind it a token is out -/
noncomputable def PEo (X : Cx) (e : Expr) (t : TE) : Prop := ∀ (pins : List (Addr × Obj)) (s : Shared) (σ : St) (H : Hp) (Q : VK), Inv X pins σ H s → t σ H Q → wpAny (model X.prog X.w) X.A (eval e X.env) (fun v s' => 1 ≤ s'.toks ∧ EP X pins σ Q v s') X.xe s
theorem peo_ix {r : R2} {i : Int} {j : Nat} {pc : Pos} (hr : IxR X r) (ha : PE X a ta) (hs : PlainIx (.Constant (.int i) j pc) := by intro _ _; rfl) : PEo X (.Subscript a (.Constant (.int i) j pc) pos) (tOp r ta (tC (.int i))) := by
  intro pins s σ H Q I h
  refine Subscript_ (thn (ha.run pins s σ H _ I h) fun v s1 ⟨x, H1, I1, rx, q⟩ => ?_)
  refine wpAny_Constant_int ?_
  have I2 : Inv X pins σ H1 { s1 with toks := s1.toks + 1 } := I1.tok _
  exact wpAny_mono (PySem.wpAny_toks_of (n := 1) (by show 1 ≤ s1.toks + 1; omega) (hr a (.Constant (.int i) j pc) pins _ σ H1 x (.int i) v (.int i s1.toks) Q I2 rx ⟨_, rfl⟩ q (hs _ _))) (fun _ _ z => z) fun _ _ z => z.2
/-- the iterable is a name that holds a tuple -/
theorem pif_tup {tg : Expr} {i : Nat} {l : Str} {pl : Pos} (hN : X.N[i]? = some l := by rfl) (hv : Vis X.env.scope l := by first | exact Or.inl rfl | exact Or.inr (Or.inl rfl) | exact Or.inr (Or.inr rfl)) (hd : (l == ("__debug__" : Str)) = false := by decide) (hcd : (l == ("__classdict__" : Str)) = false := by decide) :
    PIF X (CT X x) tg (.Name l pl) (iTup X.K (tVar i)) := by
  intro pins s σ H R ct I h
  obtain ⟨v, e, a, rfl, ⟨xs, hq⟩, q⟩ := h
  refine raw_name hN hv I e (fun u r => ?_) hd hcd
  cases r
  obtain ⟨its, rv, p, hz⟩ := I.tuple hq
  refine wpAny_pyIter_tuple (show s.heap.IsTuple a its.toArray from p) ?_
  refine ⟨ct.keep (Nat.le_refl _) fun b o e => Heap.get?_push_of_some _ e, s.heap.objs.size, [s.heap.objs.size], _, _, H, rfl, I.kept (t' := s.toks) fun b o e => Heap.get?_push_of_some _ e, turn_tuple a _, ⟨_, Heap.get?_push_size _ rfl, rfl, rfl⟩, fun b hb => ?_, q⟩
  have e : b = s.heap.objs.size := by simpa using hb
  subst e
  exact I.fpOk (Nat.le_refl _) (I.hok.fresh (Nat.le_refl _))
end
/-- name.replace(cell's name, written text) -/
noncomputable def tReplV (i k : Nat) (z : Str) : TE := fun σ H Q => ∃ a b, σ[i]? = some (some (.str a)) ∧ σ[k]? = some (some (.str b)) ∧ (b == z) = false ∧ a.length + (a.length + 1) * z.length ≤ 16777216 ∧ Q (.str (Txt.replace a b z)) H
section
variable {X : Cx} {x : Str} {pins : List (Addr × Obj)} {σ : St} {H : Hp} {s : Shared} {scope : Scope} {own : List (Str × Nat)} {C : Addr} {cl : List (Str × Addr)} {fp : List Addr}
theorem blk_free (ok : BlkOk X.N X.env.scope scope own) (I : Inv X pins σ H s) (hC : C = s.heap.objs.size) (hcl : cl = cellsFrom (C + 1) scope.names (cloFrom X.env.cells scope.names [])) (hy : scope.names.lookup x = some .free) {c c' : Addr} (h : X.env.cells.lookup x = some c) (h' : cl.lookup x = some c') : c' = c := by
  subst hcl
  subst hC
  rw [← Heap.size_push s.heap { cls := .type "dict", data := .dict #[] }] at h'
  have hm : (x, NameKind.free) ∈ scope.names := PySem.mem_of_lookup hy
  rcases cells_mem (PySem.mem_of_lookup h') with hm' | ⟨h1, _, _⟩
  · rcases cloFrom_mem hm' with hm' | ⟨h1, rfl⟩
    · cases hm'
    · rw [h]; rfl
  · have := ok.uniq _ h1
    rw [hy] at this; cases this
theorem pen_replV {i k j : Nat} {xk z : Str} {p1 p2 c1 apos pos : Pos} (hC : C = s.heap.objs.size) (hcl : cl = cellsFrom (C + 1) scope.names (cloFrom X.env.cells scope.names [])) (I : Inv X pins σ H s) (ct : CT X x s) (hfp : ∀ b ∈ fp, FpOk X pins H b) (ok : BlkOk X.N X.env.scope scope own) (hy : scope.names.lookup x = some .free)
    (hNi : X.N[i]? = some xk) (hvi : Vis (compEnvC scope cl C X.env).scope xk) (hNk : X.N[k]? = some x) (hvk : (compEnvC scope cl C X.env).scope.names.lookup x = some .cell)
    (hd : (xk == ("__debug__" : Str)) = false := by decide) (hcd : (xk == ("__classdict__" : Str)) = false := by decide) (hdk : (x == ("__debug__" : Str)) = false := by decide)
    (hst : starEach [.Name x p2, .Constant (.str z) j c1] (compEnvC scope cl C X.env) = [(false, eval (.Name x p2) (compEnvC scope cl C X.env)), (false, eval (.Constant (.str z) j c1) (compEnvC scope cl C X.env))] := by rfl)
    (hbase : attributeBase (.Name xk p1) "replace" (compEnvC scope cl C X.env) (eval (.Name xk p1) (compEnvC scope cl C X.env)) = eval (.Name xk p1) (compEnvC scope cl C X.env) := by rfl) (hline : (apos.endLine == pos.line) = true := by rfl) :
    PEn s.toks (X.blk s H scope (compEnvC scope cl C X.env) fp) (.Call (.Attribute (.Name xk p1) "replace" apos) [.Name x p2, .Constant (.str z) j c1] [] pos) (tReplV i k z) := by
  intro pins' s' σ' H' Q hn I' h
  obtain ⟨a, b, ha, hb, hne, hlen, q⟩ := h
  refine PySem.Call_method2 hbase hst hline (raw_name (X := X.blk s H scope (compEnvC scope cl C X.env) fp) hNi hvi I' ha (fun v r => ?_) hd hcd)
  obtain ⟨tx, e⟩ := r
  subst e
  refine ⟨"str", _, F.plainAttrs_str, F.slot_str_replace, F.type_str_replace, typeIs_str _ _ _, (fun _ e => nomatch e), Calls.callWith_builtin rfl (Calls.evalArgs_plain (Calls.spliced_cons ?_))⟩
  obtain ⟨c, zz, t, g1, ⟨o, ho, hdo⟩, g3, g4⟩ := ct
  obtain ⟨sl, e⟩ := I'.base.any ho (I.freeC x c g1) (fun hm => (hfp c hm).2.2.2.2.1 x c g1 rfl)
  obtain ⟨m, hnm, hlk⟩ := I'.loc
  obtain ⟨u, ru, lu⟩ := hlk k x (.str b) hNk hb (.inr (.inl hvk))
  rcases lu with ⟨hk, _⟩ | ⟨hk, c', hc', hcell⟩
  · have hk : (compEnvC scope cl C X.env).scope.names.lookup x = some .local := hk
    rw [hvk] at hk; cases hk
  have ec : c' = c := blk_free ok I hC hcl hy g1 hc'
  subst ec
  obtain ⟨o2, ho2, hd2⟩ := id hcell
  rw [e] at ho2
  cases ho2
  have hd2 : o.data = .cell (some u) := hd2
  rw [hdo] at hd2
  cases hd2
  obtain ⟨_, ru⟩ := ru
  cases ru
  refine wpAny_Name (wpAny_loadName_cell I'.ok.kind hvk hc' hcell ?_) hdk
  refine Calls.spliced_cons (Calls.Constant_str (Calls.spliced_nil ?_))
  have n1 : s.toks ≤ s'.toks := hn
  exact PySem.SC.replace g3 (by show s'.toks ≠ 0; omega) (by show t ≠ s'.toks; omega) hne hlen fun t' k => ⟨.str (Txt.replace a b z), H', (I'.tok _).tok k, ⟨t', rfl⟩, q⟩
end
section
variable {X : Cx} {x : Str}
/-- name = [.. for tg in a tuple's name if ..], the element may want the cell's token -/
theorem ks1_setLc {i : Nat} {y : Str} {py : Pos} {elt tg iter : Expr} {ifs : List Expr} {scope : Scope} {own : List (Str × Nat)} {pos spos : Pos} {wi : TI} {g : TG} {tt : TT} {te : TE} (hc : X.calm = true) (hN : X.N.Nodup) (hy : X.N[i]? = some y) (hyl : X.env.scope.names.lookup y = some .local)
    (hsw : swapsWith (.ListComp elt [⟨tg, iter, ifs, 0⟩] scope pos) (some (.Name y py)) spos.line X.env = pure true) (hi : PIF X (CT X x) tg iter wi) (ok : BlkOk X.N X.env.scope scope own)
    (hg : ∀ (s : Shared) (H : Hp) (C : Addr) (cl : List (Str × Addr)) (fp : List Addr), PG (X.blk s H scope (compEnvC scope cl C X.env) fp) tg g) (ht : ∀ (s : Shared) (H : Hp) (C : Addr) (cl : List (Str × Addr)) (fp : List Addr), PTs (X.blk s H scope (compEnvC scope cl C X.env) fp) ifs tt)
    (he : ∀ (pins : List (Addr × Obj)) (σ : St) (s : Shared) (H : Hp) (C : Addr) (cl : List (Str × Addr)) (fp : List Addr), C = s.heap.objs.size → cl = cellsFrom (C + 1) scope.names (cloFrom X.env.cells scope.names []) → Inv X pins σ H s → CT X x s → (∀ b ∈ fp, FpOk X pins H b) → PEn s.toks (X.blk s H scope (compEnvC scope cl C X.env) fp) elt te) (hs : ∀ x, foldedSetIterable iter X.env x = pure x := by intro _; rfl) :
    KS1 X x (.Assign [.Name y py] (.ListComp elt [⟨tg, iter, ifs, 0⟩] scope pos) spos) (tAsg (tLc wi g tt te (own.map (·.2))) (gName i)) := by
  intro pins s σ H D ct I h
  rw [exec_Assign_Name_used _ _ _ _ hsw]
  refine wpAny_bind (wpAny_standAt (wpAny_bind ?_))
  show wpAny _ X.A (do let _ ← comprehension (.ListComp elt [⟨tg, iter, ifs, 0⟩] scope pos) scope X.env (firstIterPos [⟨tg, iter, ifs, 0⟩] pos) (newList []) false (eval iter X.env) (some (assign (.Name y py) X.env))) _ _ s
  have h : tLc wi g tt te (own.map (·.2)) σ H (fun x H1 => gName i x σ H1 D.nx) := h
  refine wpAny_bind (thn (lc_coreT (Fact := CT X x) (Qf := fun _ s' => SP X pins D .next s') hc hN I (hFk := fun s s' k g c => CT.keep c k g) (hF := ct) hi ok hg ht (he pins σ) hs h fun L C s' m H' I' q hn f => ?_) fun _ s' hq => wpAny_pure (wpAny_pure hq))
  show wpAny _ _ (assign (.Name y py) X.env (.ref L)) _ _ _
  refine wpAny_assign_Name (store_ok2 (v := V.ref L) I' hN hy (.inl hyl) rfl (fun s2 I2 ⟨a, sb, ha⟩ => ?_) (.inr hyl))
  obtain ⟨f0, f1, f2, f3, f4, f5⟩ := f
  have haC : C ≠ a := by
    rcases ha with z | z
    · rw [z]; exact f1
    · exact fun e => f4 y a z e.symm
  refine ⟨m, hn.sameBut sb haC, fun h3 sb3 => ?_⟩
  exact ⟨_, H', I2.turned (t' := s2.toks) (fun b o hb e => (sb3.2 b hb).trans e) f0 f1 f3 f4 f5, q⟩
end
end L2

set_option Elab.async false
set_option linter.all false
set_option maxRecDepth 100000
set_option maxHeartbeats 4000000
/-! the readings of AL74 in data -/
namespace AL
open PySem PySem.Spec L2 PyProof.Rows
section
variable {K : Frg} {F : Hp} {ms : Ms} {Q : QE} {Γ : Cg} {S : Sg}
theorem ae_replV {i k : Nat} {a b z : Str} (hi : S[i]? = some (some (.str a))) (hk : S[k]? = some (some (.str b))) (hne : (b == z) = false) (hb : a.length + (a.length + 1) * z.length ≤ 16777216) (q : Q F ms (.str (PySem.Txt.replace a b z))) : AE Γ (tReplV i k z) F ms S Q := fun R σ H Qc hs hh x kk => by
  obtain ⟨v, h1, r1⟩ := hs.2 i _ hi
  obtain ⟨u, h2, r2⟩ := hs.2 k _ hk
  cases r1
  cases r2
  exact ⟨a, b, h1, h2, hne, hb, kk F ms _ _ H Ex.refl hh (.str _) q⟩
end
end AL

set_option Elab.async false
set_option linter.all false
set_option maxRecDepth 100000
set_option maxHeartbeats 4000000
/-! a, b, .. = a list of that length -/
namespace AL
open PySem PySem.Spec L2 PyProof.Rows
section
variable {Γ : Cg} {F : Hp} {ms : Ms} {S : Sg} {gs : TGs} {N : QS}
end
end AL

set_option Elab.async false
set_option linter.all false
set_option maxRecDepth 100000
set_option maxHeartbeats 4000000
/-! plain data in lists: x in xs, xs.remove(x) -/
namespace L2
open PySem PySem.Spec PyProof.Rows
section
variable {X : Cx}
noncomputable def rInD (K : PySem.W.Frag) : R2 := fun x y H Q => ∃ (d : PyData) (es : List PyData), Dp K H x d ∧ Dp K H y (.list es) ∧ PyData.plainAll es = true ∧ d.plain = true ∧ PyData.depthAll es ≤ 60 ∧ Q (.bl (es.any fun z => PyData.eqv z d)) H
noncomputable def rRemD (K : PySem.W.Frag) : V → List V → Hp → VK → Prop := fun x xs H Q => ∃ (l : Addr) (vs : List V) (v : V) (es : List PyData) (d : PyData) (j : Nat), x = .ref l ∧ xs = [v] ∧ H l = some (.lst vs) ∧ DpAll K H vs es ∧ Dp K H v d ∧ PyData.plainAll es = true ∧ d.plain = true ∧ PyData.depthAll es ≤ 60 ∧ SeqAt.dataPlace es d = some j ∧ Q .non (upd H l (.lst (vs.eraseIdx j)))
end
end L2
namespace AL
open PySem PySem.Spec L2 PyProof.Rows
section
variable {K : Frg} {F : Hp} {ms : Ms} {Q : QE}
end
end AL

set_option Elab.async false
set_option linter.all false
set_option maxRecDepth 100000
set_option maxHeartbeats 4000000
/-! if in the body of a generator -/
namespace L2
open PySem PySem.Spec PyProof.Rows GenW
section
variable {X : Cx}
end
end L2

set_option Elab.async false
set_option linter.all false
set_option maxRecDepth 100000
set_option maxHeartbeats 4000000
/-! dicts of nested tuple keys: k in d, k not in d, {k: v} -/
namespace ND
open PySem PySem.Spec PyProof.Rows L2
section
variable {prog : Program} {w : World} {K : Type} [DecidableEq K] {knd : HeapKind prog w K} {A : Around} {E : Value → Shared → Prop} {s : Shared} {env : Env}
end
section
variable {X : Cx}
noncomputable def rNIn (neg : Bool) (P : Program) (w : World) (K : PySem.W.Frag) : R2 := fun x y H Q => ∃ (a b : Addr) (xs : List Ent) (kvs : List (NK × V)) (k : NK), y = .ref a ∧ x = .ref b ∧ Rd H a (NDO P w a xs) ∧ KN K H kvs xs ∧ VKey K H k (.ref b) ∧ k.depth ≤ 8 ∧ Q (.bl (neg ^^ kvs.any fun kv => decide (kv.1 = k))) H
noncomputable def tNDisp (P : Program) (w : World) (K : PySem.W.Frag) (tk tv : TE) : TE := fun σ H Q => ∀ p, H p = none → tk σ (upd H p (NDO P w p [])) fun y H1 => tv σ H1 fun v H2 => H2 p = some (NDO P w p []) ∧ ∃ (b : Addr) (k : NK), y = .ref b ∧ VKey K H2 k (.ref b) ∧ k.depth ≤ 8 ∧ ∀ u, RelV v u → Q (.ref p) (upd H2 p (NDO P w p [(k, b, u)]))
end
end ND
namespace AL
open PySem L2 ND
section
variable {P : Program} {w : World} {Γ : Cg} {K : Frg} {F : Hp} {ms : Ms} {S : Sg} {Q : QE} {tk tv : TE}
end
end AL

set_option Elab.async false
set_option linter.all false
set_option maxRecDepth 100000
set_option maxHeartbeats 4000000
/-! try / except X as n: raise C(..) from n -/
namespace L2
open PySem PySem.Spec PyProof.Rows HotX L2H
/-! ### an own error with an own __init__, made while another one is handled -/
theorem RoomH.make {k : Nat} {A : Around} (r : RoomH (k + 1) A) (C : Addr) (us : List Value) (kw : List (Str × Value)) : RoomH k (A.under (.builtin "type.__call__" ⟨.ref C :: us, kw⟩)) :=
  ⟨by have := r.dp; rw [make_depth]; omega, by have := r.un; rw [make_units]; omega⟩
/-! ### raise X(..) from n -/
noncomputable def causeFrom (h : Heap) (a x : Addr) : Heap := (h.update a (Obj.mapFields (·.setIfInBounds 3 (.ref x)))).update a (Obj.mapFields (·.setIfInBounds 4 (.bool true)))
/-! ### the exception goes on out of the suite -/
section
variable {X : Cx} {pins : List (Addr × Obj)} {σ : L2.St} {H : Hp} {s : Shared} {B : Heap} {sI : Shared}
end
/-! ### the try -/
/-- what the body wishes of an exception -/
noncomputable def wCause (K : PySem.W.Frag) (c : Value) (i : Nat) (t : L2.St → Hp → XK → Prop) (Wout : WX) : WX := fun cls d σ H =>
  ∃ b, PySem.W.exmOne K cls c = some b ∧ (b = true → (PySem.W.subIn K cls (.type "BaseException") = some true ∧ PySem.W.typeIn K cls = some (.type "type")) ∧ ∀ a, H a = none → t (σ.set i (some (.ref a))) H fun cls' d' H' => Wout cls' d' (σ.set i none) H') ∧ (b = false → Wout cls d σ H)
section
variable {X : Cx} {x n : Str} {c : Value} {i : Nat} {body : List Stmt} {e : Expr} {np cp rp pos pos' : Pos} {tb : WX → TS} {t : L2.St → Hp → XK → Prop} {Wout : WX}
end
end L2
namespace L2
open PySem PySem.Spec PyProof.Rows HotX L2H
section
variable {P : Program} {w : World} {K : PySem.W.Frag} {mg : Str → Option Value} {base : Heap}
end
end L2
namespace AL
open PySem PySem.Spec PyProof.Rows L2
noncomputable def tTryCause (K : Frg) (E : XK) (c : Value) (i : Nat) (t : L2.St → Hp → XK → Prop) (tb : WX → TS) : TS := fun D σ H => tb (wCause K c i t (fun cls d _ H => E cls d H)) D σ H
section
variable {Γ : Cg} {F : Hp} {ms : Ms} {S : Sg} {A : AEnds} {Ew : XW} {tb : WX → TS}
end
end AL
namespace L2
open PySem PySem.Spec PyProof.Rows
section
variable {X : Cx} {K : AL.Frg} {E : XK} {x n : Str} {c : Value} {i : Nat} {body : List Stmt} {e : Expr} {np cp rp pos pos' : Pos} {tb : WX → TS} {t : L2.St → Hp → XK → Prop}
end
end L2

set_option Elab.async false
set_option linter.all false
set_option maxRecDepth 100000
set_option maxHeartbeats 4000000
/-! tuple * int, once or more -/
namespace L2
open PySem PySem.Spec PyProof.Rows
noncomputable def rRepT1 (K : PySem.W.Frag) : R2 := fun x y H Q => ∃ l xs, x = .ref l ∧ y = .int 1 ∧ SqT K H l xs ∧ Q (.ref l) H
noncomputable def rRepTA (K : PySem.W.Frag) : R2 := fun x y H Q => rRepT1 K x y H Q ∨ rRepT K x y H Q
section
variable {X : Cx}
end
end L2
namespace AL
open PySem L2 PyProof.Rows
section
variable {K : Frg} {F : Hp} {ms : Ms} {Q : QE}
end
end AL

set_option Elab.async false
set_option linter.all false
set_option maxRecDepth 100000
set_option maxHeartbeats 4000000
/-! list(d.items()), the list owned -/
namespace AL
open PySem PySem.Spec L2 PyProof.Rows LiI
section
variable {Γ : Cg} {K : Frg} {F : Hp} {ms : Ms} {S : Sg} {Q : QE} {te : TE}
end
end AL

set_option Elab.async false
set_option linter.all false
set_option maxRecDepth 100000
set_option maxHeartbeats 4000000
/-! expressions that give out a token; str.replace of written texts in a test -/
namespace L2
open PySem PySem.Spec PyProof.Rows
theorem tk9 {α : Type} {t : Sem α} {Q : α → Shared → Prop} {M : Model} {A : Around} {E : Value → Shared → Prop} {s : Shared} {n : Nat} (hn : n ≤ s.toks) (h : wpAny M A t Q E s) : wpAny M A t (fun a s' => n ≤ s'.toks ∧ Q a s') E s :=
  wpAny_mono (PySem.wpAny_toks_of hn h) (fun _ _ z => z) fun _ _ z => z.2
noncomputable def PEq (X : Cx) (e : Expr) (t : TE) : Prop :=
  ∀ (pins : List (Addr × Obj)) (s : Shared) (σ : St) (H : Hp) (Q : VK), Inv X pins σ H s → t σ H Q → wpAny (model X.prog X.w) X.A (eval e X.env) (fun v s' => 1 ≤ s'.toks ∧ EP X pins σ Q v s') X.xe s
noncomputable def PAq (X : Cx) (es : List Expr) (t : TA) : Prop :=
  ∀ (pos : Pos) (pins : List (Addr × Obj)) (s : Shared) (σ : St) (H : Hp) (Q : List V → Hp → Prop), Inv X pins σ H s → t σ H Q → wpAny (model X.prog X.w) X.A (spliced (backTo pos (starEach es X.env))) (fun us s' => 1 ≤ s'.toks ∧ AP X pins σ Q us s') X.xe s
noncomputable def PTq (X : Cx) (e : Expr) (t : TT) : Prop :=
  ∀ (pins : List (Addr × Obj)) (s : Shared) (σ : St) (H : Hp) (Q : Bool → Hp → Prop), 1 ≤ s.toks → Inv X pins σ H s → t σ H Q → wpAny (model X.prog X.w) X.A (isTrue e X.env (eval e X.env)) (TP X pins σ Q) X.xe s
noncomputable def PWq (X : Cx) (e : Expr) (t : TT) : Prop :=
  ∀ (whole : Sem Value) (pins : List (Addr × Obj)) (s : Shared) (σ : St) (H : Hp) (Q : Bool → Hp → Prop), 1 ≤ s.toks → Inv X pins σ H s → t σ H Q → wpAny (model X.prog X.w) X.A (isTrue e X.env whole) (TP X pins σ Q) X.xe s
section
variable {X : Cx} {e a b c : Expr} {es rest : List Expr} {te ta tb : TE} {t : TA} {tA tB' tc : TT} {pos p : Pos} {x : Str} {r : R2}
theorem pk_str {j : Nat} : PEq X (.Constant (.str x) j pos) (tC (.str x)) := fun _ s _ H _ I h => Calls.Constant_str ⟨by show 1 ≤ s.toks + 1; omega, .str x, H, I.tok _, ⟨_, rfl⟩, h⟩
theorem pak_here (ha : PEq X e te) (hr : PA X es t) (hs : starEach (e :: es) X.env = (false, eval e X.env) :: starEach es X.env := by rfl) : PAq X (e :: es) (tCons te t) := by
  intro pos pins s σ H Q I h
  rw [hs]
  show wpAny _ _ (spliced ((false, eval e X.env) :: backTo pos (starEach es X.env))) _ _ s
  refine Calls.spliced_cons (thn (ha pins s σ H _ I h) fun u s1 ⟨hk, x, H1, I1, r1, q1⟩ => ?_)
  exact thn (tk9 hk (hr.run pos pins s1 σ H1 _ I1 q1)) fun us s2 ⟨hk2, xs, H2, I2, r2, q2⟩ => ⟨hk2, x :: xs, H2, I2, .cons r1 r2, q2⟩
theorem pk_lst (h : PAq X es t) : PEq X (.List es pos) (tLst t) := by
  intro pins s σ H Q I hq
  refine wpAny_List_spliced (thn (h pos pins s σ H _ I hq) fun us s1 ⟨hk, xs, H1, I1, r, z, q⟩ => ⟨by rw [← r.length]; exact z, hk, ?_⟩)
  have hf : H1 s1.heap.objs.size = none := I1.hok.fresh (Nat.le_refl _)
  refine ⟨.ref s1.heap.objs.size, upd H1 s1.heap.objs.size (.lst xs), I1.laid (t' := s1.toks) (fun b u e => Heap.get?_push_of_some _ e) (Nat.le_refl _) ?_, rfl, q _ hf⟩
  exact ⟨z, us, 0, r, Heap.get?_push_size _ rfl⟩
theorem pk_ix (hr : IxR X r) (ha : PEq X a ta) (hb : PE X b tb) (hs : PlainIx b) : PEq X (.Subscript a b pos) (tOp r ta tb) := by
  intro pins s σ H Q I h
  refine Subscript_ (thn (ha pins s σ H _ I h) fun v s1 ⟨hk, x, H1, I1, r1, q1⟩ => ?_)
  exact thn (tk9 hk (hb.run pins s1 σ H1 _ I1 q1)) fun u s2 ⟨hk2, y, H2, I2, r2, q2⟩ => tk9 hk2 (hr a b pins s2 σ H2 x y v u Q I2 r1 r2 q2 (hs _ _))
/-- targets = e where e gives out a token: one is out behind it -/
theorem pss_asgk {tg : Expr} {g : TG} {sts : List Stmt} {u : TS} (he : PEq X e te) (hg : PG X tg g) (h2 : PSsT X sts u) (hs : swapsWithSole [tg] e pos.line X.env = pure false := by rfl) (hw : swappedStores [tg] e X.env = pure none := by rfl)
    (h1 : (assignEach [tg] X.env).map (·.2) = [assign tg X.env] := by rfl) : PSs X (.Assign [tg] e pos :: sts) (tSeq (tAsg te g) u) := by
  refine ⟨fun pins s σ H D I h => ?_⟩
  have key : wpAny (model X.prog X.w) X.A (exec (.Assign [tg] e pos) X.env) (fun f s' => 1 ≤ s'.toks ∧ SP X pins { D with nx := u D } f s') X.xe s := by
    refine wpAny_Assign_stores (thn (he pins s σ H _ I h) fun v s1 ⟨hk, x, H1, I1, r1, q1⟩ => ?_) hs hw
    rw [h1]
    exact thn (tk9 hk (hg.run pins s1 σ H1 x v _ I1 r1 q1)) fun _ s2 q => q
  refine wpAny_execs_cons (thn key fun f s1 ⟨hk, q⟩ => ?_)
  cases f with
  | next =>
    obtain ⟨σ', H', I', q⟩ := q
    exact h2 pins s1 σ' H' D hk I' q
  | ret v => exact q
  | brk => exact q
  | cont => exact q
theorem psst_of1 {st : Stmt} {sts : List Stmt} {t1 u : TS} (h1 : PS X st t1) (h2 : PSsT X sts u) : PSsT X (st :: sts) (tSeq t1 u) := psst_cons (PST.of h1) h2
end
end L2
namespace AL
open PySem PySem.Spec PyProof.Rows L2
variable {Γ : Cg} {F : Hp} {ms : Ms} {S : Sg}
end AL

set_option Elab.async false
set_option linter.all false
set_option maxRecDepth 100000
set_option maxHeartbeats 4000000
/-! dict(zip(a list, a list)) -/
namespace AL
open PySem PySem.Spec L2 PyProof.Rows
noncomputable def tDictZip (K : Frg) (ta : TA) : TE := fun σ H Q => ta σ H fun vs H1 => ∃ (a b : Addr) (kvs : List (Key × V)), vs = [.ref a, .ref b] ∧ SqL K H1 a (kvs.map fun p => kV p.1) ∧ SqL K H1 b (kvs.map (·.2)) ∧ kvs.length ≤ 1000 ∧ ∀ p, H1 p = none → Q (.ref p) (upd H1 p (.dK (mergeK [] kvs)))
section
variable {Γ : Cg} {F : Hp} {ms : Ms} {S : Sg} {ta : TA} {Q : QE}
end
end AL

set_option Elab.async false
set_option linter.all false
set_option maxRecDepth 100000
set_option maxHeartbeats 4000000
/-! sorted(d.items()), texts to ints -/
namespace AL
open PySem PySem.Spec L2 PyProof.Rows PySem.W
noncomputable def encI (p : Str × Int) : PyData := .tuple [.str p.1, .int p.2]
noncomputable def rfI (h : Heap) (as : List Addr) (ns : List (Str × Int)) (v : Value) (n : Str × Int) : Prop := ∃ (j : Nat) (t : Addr) (tk tk2 : Tok), v = .ref t ∧ as[j]? = some t ∧ ns[j]? = some n ∧ h.get? t = some { cls := .type "tuple", data := .seq #[.str n.1 tk, .int n.2 tk2] }
section
variable {P : Program} {w : World} {A : Around} {E : Value → Shared → Prop} {s : Shared}
end
/-- sorted(e.items()) -/
noncomputable def tSortItems (te : TE) : TE := fun σ H Q => te σ H fun x H1 => ∃ (d : Addr) (ns : List (Str × Int)), x = .ref d ∧ H1 d = some (.dK (ns.map fun n => (.inr n.1, .int n.2))) ∧ 0 < ns.length ∧ ns.length ≤ 1000 ∧ ns.Nodup ∧
  ∀ (H' : Hp) (p : Addr) (ts : List Addr), (∀ b o, H1 b = some o → H' b = some o) → H1 p = none → (∀ t ∈ ts, H1 t = none) → p ∉ ts → H' p = some (.lst (ts.map V.ref)) → Paired (fun (t : Addr) (q : Str × Int) => H' t = some (.tup [.str q.1, .int q.2])) ts (ns.mergeSort (dataLe false encI)) → Q (.ref p) H'
theorem paired_len {α β : Type} {F : α → β → Prop} : ∀ {xs : List α} {ys : List β}, Paired F xs ys → xs.length = ys.length
  | _, _, .nil => rfl
  | _, _, .cons _ t => by rw [List.length_cons, List.length_cons, paired_len t]
noncomputable def kvI (n : Str × Int) : Key × V := (.inr n.1, .int n.2)
section
variable {X : Cx}
end
noncomputable def sortI (ns : List (Str × Int)) : List (Str × Int) := ns.mergeSort (dataLe false encI)
noncomputable def itD (n : Str × Int) : D := .tup [.str n.1, .int n.2]
section
variable {Γ : Cg} {K : Frg} {F : Hp} {ms : Ms} {S : Sg} {Q : QE} {te : TE}
end
end AL

set_option Elab.async false
set_option linter.all false
set_option maxRecDepth 100000
set_option maxHeartbeats 4000000
/-! sets of up to 300 different tuples of ints: the tables -/
namespace AL
open PySem PySem.Spec L2 PyProof.Rows
/-! ### the masks -/
/-- each slot is met from each start -/
noncomputable def Full (m : Nat) : Prop := ∀ i j, i ≤ m → j ≤ m → ∃ k, k ≤ m ∧ lcgI m i k = j
noncomputable def MaskW (m : Nat) : Prop := MaskOk m ∨ m = 511
noncomputable def orb (m : Nat) : Nat → Nat → List Nat
  | 0, _ => []
  | n + 1, i => i :: orb m n ((i * 5 + 1) % (m + 1))
theorem lcgI_one (m i : Nat) : ∀ k, lcgI m ((i * 5 + 1) % (m + 1)) k = lcgI m i (k + 1)
  | 0 => rfl
  | k + 1 => by
    show (lcgI m ((i * 5 + 1) % (m + 1)) k * 5 + 1) % (m + 1) = (lcgI m i (k + 1) * 5 + 1) % (m + 1)
    rw [lcgI_one m i k]
theorem orb_mem (m : Nat) : ∀ (n i j : Nat), j ∈ orb m n i → ∃ k, k < n ∧ lcgI m i k = j
  | 0, _, _, h => nomatch h
  | n + 1, i, j, h => by
    rcases List.mem_cons.mp h with e | h
    · exact ⟨0, Nat.succ_pos _, e.symm⟩
    · obtain ⟨k, hk, e⟩ := orb_mem m n _ j h
      exact ⟨k + 1, Nat.succ_lt_succ hk, by rw [← lcgI_one]; exact e⟩
theorem orb511 : ((List.range 512).all fun j => (orb 511 512 0).contains j) = true := by decide +kernel
theorem lcgI_zero (m : Nat) : ∀ k, lcgI m 0 k = lcgN m k
  | 0 => rfl
  | k + 1 => by
    show (lcgI m 0 k * 5 + 1) % (m + 1) = (lcgN m k * 5 + 1) % (m + 1)
    rw [lcgI_zero m k]
theorem met511 {j : Nat} (hj : j ≤ 511) : ∃ k, k < 512 ∧ lcgN 511 k = j := by
  have h := List.all_eq_true.mp orb511 j (List.mem_range.mpr (Nat.lt_succ_of_le hj))
  obtain ⟨k, hk, e⟩ := orb_mem 511 512 0 j (List.contains_iff_mem.mp h)
  exact ⟨k, hk, by rw [← lcgI_zero]; exact e⟩
theorem last511 : lcgN 511 512 = 0 := by decide +kernel
theorem per511 : ∀ k, lcgN 511 (512 + k) = lcgN 511 k
  | 0 => last511
  | k + 1 => by
    show (lcgN 511 (512 + k) * 5 + 1) % 512 = (lcgN 511 k * 5 + 1) % 512
    rw [per511 k]
theorem full511 : Full 511 := fun i j hi hj => by
  obtain ⟨a, ha, ea⟩ := met511 hi
  obtain ⟨b, hb, eb⟩ := met511 hj
  subst ea eb
  by_cases c : a ≤ b
  · exact ⟨b - a, by omega, by rw [lcgN_add]; congr 1; omega⟩
  · refine ⟨b + 512 - a, by omega, ?_⟩
    rw [lcgN_add, show a + (b + 512 - a) = 512 + b by omega, per511]
theorem MaskW.full {m : Nat} (h : MaskW m) : Full m := by
  rcases h with h | rfl
  · exact fun i j hi hj => lcgI_all h hi hj
  · exact full511
theorem MaskW.le {m : Nat} (h : MaskW m) : m ≤ 511 := by
  rcases h with (rfl | rfl | rfl) | rfl <;> decide
/-! ### the ways -/
theorem Full.runs {m : Nat} (hm : Full m) (h : Int) {j : Nat} (hj : j ≤ m) : ∃ n, n ≤ m + 12 ∧ runI m (SetTable.bits h) n = j := by
  obtain ⟨k, hk, e⟩ := hm _ _ (runI_le m (SetTable.bits h) 12) hj
  exact ⟨12 + k, by omega, (runI_tail (bits_lt h) k).trans e⟩
theorem Full.meets {m : Nat} (hm : Full m) (h : Int) {j : Nat} (hj : j ≤ m) : ∃ k, k < 10 * SetTable.turns m ∧ way m h k = j := by
  obtain ⟨n, hn, e⟩ := hm.runs h hj
  obtain ⟨k, hk, e2⟩ := run_nth m (SetTable.bits h) n
  exact ⟨k, by unfold SetTable.turns; omega, (congrArg SetTable.Probe.j e2).trans e⟩
/-! ### a table of n entries -/
structure TabW (t : SetTable) (n : Nat) : Prop where
  ris : Ris t.place.toList
  dm : t.dummies = #[]
  sz : t.place.size = n
  msk : MaskW t.mask
  bd : ∀ x ∈ t.place.toList, x ≤ t.mask
theorem TabW.free {t : SetTable} {n : Nat} (T : TabW t n) (hn : n ≤ t.mask) (h : Int) : ∃ K, K < 10 * SetTable.turns t.mask ∧ way t.mask h K ∉ t.place.toList ∧ ∀ k, k < K → way t.mask h k ∈ t.place.toList := by
  obtain ⟨j, hj, hf⟩ := st_missing t.place.toList (t.mask + 1) (by rw [Array.length_toList, T.sz]; omega)
  obtain ⟨k, hk, e⟩ := T.msk.full.meets h (Nat.le_of_lt_succ hj)
  obtain ⟨K, h1, h2, h3⟩ := st_least (p := fun k => way t.mask h k ∉ t.place.toList) k (by rw [e]; exact hf)
  exact ⟨K, by omega, h2, fun k' hk' => Classical.byContradiction fun z => h3 k' hk' z⟩
theorem TabW.put {t : SetTable} {n : Nat} (T : TabW t n) {j : Nat} (hj : j ≤ t.mask) (hf : j ∉ t.place.toList) : SetTable.below t.place j ≤ n ∧ TabW (t.put j).1 (n + 1) ∧ (t.put j).1.fill = n + 1 := by
  obtain ⟨c1, _, _⟩ := below_cut T.ris j
  have hp : SetTable.below t.place j ≤ t.place.toList.length := by rw [Array.length_toList]; exact c1
  have hl := put_place t j
  have hs : (t.put j).1.place.size = n + 1 := by
    rw [← Array.length_toList, hl, len_ins _ hp, Array.length_toList, T.sz]
  have hd := put_dm T.dm j
  refine ⟨by rw [← T.sz]; exact c1, ⟨ris_insert T.ris fun e => hf (List.mem_of_getElem? (by rw [Array.getElem?_toList]; exact e)), hd, hs, T.msk, fun x hx => ?_⟩, ?_⟩
  · rw [hl] at hx
    rcases mem_ins.1 hx with rfl | z
    · exact hj
    · exact T.bd x z
  · show (t.put j).1.place.size + (t.put j).1.dummies.size = n + 1
    rw [hs, hd]
    rfl
/-! ### laid anew -/
/-- n are laid -/
structure Lain (m n : Nat) (owner : Array (Option Nat)) : Prop where
  sz : owner.size = m + 1
  all : ∀ k, k < n → ∃ j, j ≤ m ∧ oAt owner j = some k
  ps : ∃ ps : List Nat, ps.length = n ∧ ∀ j, j ≤ m → oAt owner j ≠ none → j ∈ ps
theorem Lain.zero (m : Nat) : Lain m 0 (Array.replicate (m + 1) none) :=
  ⟨by simp, fun _ h => absurd h (Nat.not_lt_zero _), [], rfl, fun j hj e => absurd (oAt_init hj) e⟩
theorem Lain.next {m n p : Nat} {owner : Array (Option Nat)} (W : Lain m n owner) (hp : p ≤ m) (hf : oAt owner p = none) : Lain m (n + 1) (owner.setIfInBounds p (some n)) := by
  have hps : p < owner.size := by rw [W.sz]; exact Nat.lt_succ_of_le hp
  obtain ⟨ps, h1, h2⟩ := W.ps
  refine ⟨by rw [Array.size_setIfInBounds]; exact W.sz, fun k hk => ?_, p :: ps, by rw [List.length_cons, h1], fun j hj e => ?_⟩
  · by_cases c : k = n
    · exact ⟨p, hp, by rw [c]; exact oAt_set_self _ hps⟩
    · obtain ⟨j, j1, j2⟩ := W.all k (by omega)
      exact ⟨j, j1, by rw [oAt_set_ne _ (fun z => by rw [z, hf] at j2; cases j2)]; exact j2⟩
  · by_cases c : j = p
    · rw [c]; exact List.mem_cons_self ..
    · rw [oAt_set_ne _ c] at e
      exact List.mem_cons_of_mem _ (h2 j hj e)
end AL

set_option Elab.async false
set_option linter.all false
set_option maxRecDepth 100000
set_option maxHeartbeats 4000000
/-! sets of up to 300 different tuples of ints: one more is put in -/
namespace AL
open PySem PySem.Spec L2 PyProof.Rows
section
variable {P : Program} {w : World} {A : Around} {E : Value → Shared → Prop} {s : Shared}
structure SetW (P : Program) (w : World) (h : Heap) (a : Addr) (L : List (Addr × List Int)) (es : Array (Int × Value)) (ep : Nat) (t : SetTable) : Prop where
  ob : ∃ o, h.get? a = some o ∧ o.ExactSet ∧ o.data = .set es ep t
  rows : es.toList = rowsOf P w L
  tab : TabW t L.length
  nd : (L.map (·.2)).Nodup
  tup : ∀ p ∈ L, IsT P w h p.2 p.1
  plain : t.plain = true
  led : w.params.followText "set-order" = true ∨ t.led = true
  room : L.length * 5 < t.mask * 3
  few : L.length ≤ 300
variable {a : Addr} {L : List (Addr × List Int)} {es : Array (Int × Value)} {ep : Nat} {t : SetTable}
/-- the start of a way -/
noncomputable abbrev wayP (m : Nat) (h : Int) : SetTable.Probe := runAt m (SetTable.bits h % (m + 1)) (SetTable.bits h)
end
end AL

set_option Elab.async false
set_option linter.all false
set_option maxRecDepth 100000
set_option maxHeartbeats 4000000
/-! set(xs), sorted(set) of up to 300 different tuples of ints -/
namespace AL
open PySem PySem.Spec L2 PyProof.Rows PySem.W
section
variable {P : Program} {w : World} {A : Around} {E : Value → Shared → Prop} {s : Shared}
theorem SetW.stay {h h' : Heap} {a : Addr} {L : List (Addr × List Int)} {es : Array (Int × Value)} {ep : Nat} {t : SetTable} (R : SetW P w h a L es ep t) (ha : ∀ o, h.get? a = some o → h'.get? a = some o) (ht : ∀ p ∈ L, IsT P w h' p.2 p.1) : SetW P w h' a L es ep t := by
  obtain ⟨o, ho, r⟩ := R.ob
  exact ⟨⟨o, ha o ho, r⟩, R.rows, R.tab, R.nd, ht, R.plain, R.led, R.room, R.few⟩
theorem SetW.new {h : Heap} {a : Addr} (ho : h.get? a = some { cls := .type "set", dict := none, data := .set #[] 0 (.fresh 0 0 (!w.params.followText "set-order")) }) : SetW P w h a [] #[] 0 (.fresh 0 0 (!w.params.followText "set-order")) :=
  ⟨⟨_, ho, ⟨rfl, rfl, rfl⟩, rfl⟩, rfl, ⟨List.Pairwise.nil, rfl, rfl, .inl (.inl rfl), (fun x hx => by cases hx)⟩, List.nodup_nil, (fun p hp => by cases hp), rfl, by
    show _ ∨ (!w.params.followText "set-order") = true
    cases w.params.followText "set-order"
    · exact .inr rfl
    · exact .inl rfl, by show 0 * 5 < 7 * 3; decide, Nat.zero_le _⟩
/-- the data of a tuple of ints -/
noncomputable def encT (k : List Int) : PyData := .tuple (k.map PyData.int)
end
end AL

set_option Elab.async false
set_option linter.all false
set_option maxRecDepth 100000
set_option maxHeartbeats 4000000
/-! set(xs), sorted(set) of up to 300 different tuples of ints: the calls -/
namespace AL
open PySem PySem.Spec L2 PyProof.Rows PySem.W
section
variable {P : Program} {w : World} {A : Around} {E : Value → Shared → Prop} {s : Shared}
/-- a new set as it is made -/
noncomputable abbrev newSet (w : World) : Obj := { cls := .type "set", dict := none, data := .set #[] 0 (.fresh 0 0 (!w.params.followText "set-order")) }
end
end AL

set_option Elab.async false
set_option linter.all false
set_option maxRecDepth 100000
set_option maxHeartbeats 4000000
/-! set(xs), sorted(set) of up to 300 different tuples of ints, in data -/
namespace AL
open PySem PySem.Spec L2 PyProof.Rows
/-- a set of the tuples ks stands at a -/
noncomputable def SetWP (P : Program) (w : World) (a : Addr) (ks : List (Addr × List Int)) (h : Heap) : Prop := ∃ (L : List (Addr × List Int)) (es : Array (Int × Value)) (ep : Nat) (t : SetTable), L.Perm ks ∧ (∃ o, h.get? a = some o ∧ o.ExactSet ∧ o.data = .set es ep t) ∧ es.toList = L2.rowsOf P w L ∧ TabW t L.length ∧
  (L.map (·.2)).Nodup ∧ t.plain = true ∧ (w.params.followText "set-order" = true ∨ t.led = true) ∧ L.length * 5 < t.mask * 3 ∧ L.length ≤ 300
noncomputable def SetWO (P : Program) (w : World) (a : Addr) (ks : List (Addr × List Int)) : HO := .ext (SetWP P w a ks)
noncomputable def rSetW (K : Frg) (P : Program) (w : World) : List V → Hp → VK → Prop := fun xs H Q => ∃ (l : Addr) (ks : List (Addr × List Int)), xs = [V.ref l] ∧ SqL K H l (ks.map fun p => V.ref p.1) ∧ (∀ p ∈ ks, SqT K H p.1 (p.2.map V.int)) ∧ ks.length ≤ 300 ∧ (ks.map (·.2)).Nodup ∧
  ∀ a, H a = none → Q (.ref a) (upd H a (SetWO P w a ks))
noncomputable def rSortW (K : Frg) (P : Program) (w : World) : List V → Hp → VK → Prop := fun xs H Q => ∃ (a : Addr) (ks : List (Addr × List Int)), xs = [V.ref a] ∧ H a = some (SetWO P w a ks) ∧ (∀ p ∈ ks, SqT K H p.1 (p.2.map V.int)) ∧ (∀ p ∈ ks, p.2 ≠ []) ∧ ks.Pairwise (fun p q => PySem.W.dataLt (encT p.2) (encT q.2) = true) ∧
  ∀ p, H p = none → Q (.ref p) (upd H p (.lst (ks.map fun q => V.ref q.1)))
section
variable {X : Cx}
end
section
variable {K : Frg} {F : Hp} {ms : Ms} {Q : QE} {P : Program} {w : World}
end
/-! ### the order of tuples of ints -/
end AL

set_option Elab.async false
set_option linter.all false
set_option maxRecDepth 100000
set_option maxHeartbeats 4000000
/-! for v in d.values(), under the lock -/
namespace AL
open PySem PySem.Spec L2 PyProof.Rows
section
variable {Γ : Cg} {F : Hp} {ms : Ms} {S : Sg} {td : TE} {P : Hp → Ms → List D → (Ms → Prop) → Prop}
noncomputable def valsD (kvs : List (Key × D)) : List D := kvs.map fun p => p.2
end
end AL

set_option Elab.async false
set_option linter.all false
set_option maxRecDepth 100000
set_option maxHeartbeats 4000000
/-! expressions by which a fact about the state is kept; a local name whose text has a token -/
namespace L2
open PySem PySem.Spec PyProof.Rows
/-- a fact that new tokens and calls leave alone -/
structure FOk (X : Cx) (Φ : Shared → Prop) : Prop where
  tok : ∀ {s : Shared} {k : Nat}, s.toks ≤ k → Φ s → Φ { s with toks := k }
  run : ∀ {pins : List (Addr × Obj)} {σ : St} {H H' : Hp} {s s' : Shared}, Inv X pins σ H s → s.toks ≤ s'.toks → Un (frs X.stack) [] H H' s.heap s'.heap → Φ s → Φ s'
noncomputable def PEf (X : Cx) (Φ : Shared → Prop) (e : Expr) (t : TE) : Prop := ∀ (pins : List (Addr × Obj)) (s : Shared) (σ : St) (H : Hp) (Q : VK), Φ s → Inv X pins σ H s → t σ H Q → wpAny (model X.prog X.w) X.A (eval e X.env) (fun v s' => Φ s' ∧ EP X pins σ Q v s') X.xe s
noncomputable def PAf (X : Cx) (Φ : Shared → Prop) (es : List Expr) (t : TA) : Prop := ∀ (pos : Pos) (pins : List (Addr × Obj)) (s : Shared) (σ : St) (H : Hp) (Q : List V → Hp → Prop), Φ s → Inv X pins σ H s → t σ H Q → wpAny (model X.prog X.w) X.A (spliced (backTo pos (starEach es X.env))) (fun us s' => Φ s' ∧ AP X pins σ Q us s') X.xe s
noncomputable def PTf (X : Cx) (Φ : Shared → Prop) (e : Expr) (t : TT) : Prop := ∀ (pins : List (Addr × Obj)) (s : Shared) (σ : St) (H : Hp) (Q : Bool → Hp → Prop), Φ s → Inv X pins σ H s → t σ H Q → wpAny (model X.prog X.w) X.A (isTrue e X.env (eval e X.env)) (fun b s' => Φ s' ∧ TP X pins σ Q b s') X.xe s
section
variable {X : Cx} {Φ : Shared → Prop} {a b e : Expr} {es : List Expr} {ta tb te : TE} {tr : TA} {pos : Pos}
theorem pef_int (ok : FOk X Φ) {z : Int} {j : Nat} : PEf X Φ (.Constant (.int z) j pos) (tC (.int z)) := fun _ s _ H _ ct I h => wpAny_Constant_int ⟨ok.tok (by omega) ct, .int z, H, I.tok _, ⟨_, rfl⟩, h⟩
theorem pef_var {y : Str} {i : Nat} (hN : X.N[i]? = some y := by rfl) (hv : Vis X.env.scope y := by first | exact Or.inl rfl | exact Or.inr (Or.inl rfl) | exact Or.inr (Or.inr rfl)) (hd : (y == ("__debug__" : Str)) = false := by decide) (hcd : (y == ("__classdict__" : Str)) = false := by decide) : PEf X Φ (.Name y pos) (tVar i) := fun pins s σ H Q ct I h => by
  obtain ⟨v, e, h⟩ := h
  exact raw_name hN hv I e (fun u r => ⟨ct, v, H, I, r, h⟩) hd hcd
theorem paf_nil : PAf X Φ [] tNil := fun _ _ _ _ H Q ct I h => Calls.spliced_nil ⟨ct, [], H, I, .nil, h⟩
theorem paf_cons (ha : PEf X Φ e te) (hr : PAf X Φ es tr) (hs : starEach (e :: es) X.env = (false, eval e X.env) :: starEach es X.env := by rfl) : PAf X Φ (e :: es) (tCons te tr) := by
  intro pos pins s σ H Q ct I h
  rw [hs]
  show wpAny _ _ (spliced ((false, eval e X.env) :: backTo pos (starEach es X.env))) _ _ s
  refine Calls.spliced_cons (thn (ha pins s σ H _ ct I h) fun v s1 ⟨c1, x', H1, I1, r1, q1⟩ => ?_)
  exact thn (hr pos pins s1 σ H1 _ c1 I1 q1) fun us s2 ⟨c2, xs, H2, I2, r2, q2⟩ => ⟨c2, x' :: xs, H2, I2, .cons r1 r2, q2⟩
theorem pef_call (ok : FOk X Φ) {CX : CXT} {k : Nat} {f : Addr} {fd : FuncData} {ps : List Str} {sp : Sp} {dvs : List V} {ds : List Value} {E : XK} {fx : Str} {pf : Pos} (F : FnOk X.prog X.w X.K X.mg X.base CX k f fd ps sp) (hr : Room k X.A) (hg : Gl X fx) (hm : X.mg fx = some (.ref f)) (hk : PySem.W.keepIn X.K (.ref f) = true) (hb : Binds X.K fd ps ds) (hd : Vals dvs ds) (hx : Passes CX X E)
    (ha : PAf X Φ (e :: es) tr) (hdb : (fx == ("__debug__" : Str)) = false := by decide) (he : starEach (e :: es) X.env = (false, eval e X.env) :: starEach es X.env := by rfl) (hpl : (backTo pos (starEach es X.env)).any (·.1) = false := by rfl) :
    PEf X Φ (.Call (.Name fx pf) (e :: es) [] pos) (tCall sp dvs E tr) := by
  intro pins s σ H Q ct I h
  refine wpAny_Call_Name_kw (ld_glob I hg hm ?_ hdb)
  refine PySem.W.callWith_K (h₀ := X.base) I.ok.mod.kin hk (thn (ha pos pins s σ H _ ct I h) fun us s1 ⟨c1, vs, H1, I1, r, q⟩ => ⟨I1.kIn, ?_⟩) he hpl
  have r2 : Vals (vs ++ dvs) (us ++ ds) := r.append hd
  have hl : (us ++ ds).length = ps.length := by rw [← r2.length]; exact F.len _ _ _ _ q
  have run := wpAny_call (M := model X.prog X.w) (A := X.A) (Q := fun v s' => CE X.stack X.prog X.w H1 s1 Q v s') (E := X.xe) (s := s1) (codeAny_mono (F.run X.A X.stack s1 H1 ⟨us, []⟩ (us ++ ds) (vs ++ dvs) Q E hr I1.env0 (hb s1 us I1.kIn hl) r2 q) fun r s' hq => by
    cases r with
    | error e => exact hx pins σ H1 s1 e s' I1 hq
    | ok fl =>
      cases fl with
      | ret u => exact hq
      | next => exact False.elim hq
      | brk => exact False.elim hq
      | cont => exact False.elim hq)
  refine wpAny_mono (PySem.wpAny_toks run) (fun v s' hq => ?_) fun _ _ z => z.2
  obtain ⟨hk', hq⟩ := hq
  refine ⟨?_, I1.after hq⟩
  obtain ⟨v', H', os, bare, un, hok, r', q'⟩ := hq
  exact ok.run I1 hk' un c1
theorem ptf_gt (ha : PEf X Φ a ta) (hb : PEf X Φ b tb) (hm : behindInMarks .Gt b = false) : PTf X Φ (.Compare a [.Gt] [b] pos) (tTest (tOp (rI0 fun i j => .bl (decide (j < i))) ta tb)) := fun pins s σ H Q ct I h => by
  refine wpAny_isTrue_Compare1 (thn (ha pins s σ H _ ct I h) fun v s1 ⟨c1, x, H1, I1, rx, q1⟩ => thn (hb pins s1 σ H1 _ c1 I1 q1) fun u s2 ⟨c2, y, H2, I2, ry, q2⟩ => ?_) hm
  obtain ⟨i, j, rfl, rfl, k, ek, q⟩ := q2
  obtain ⟨t, rfl⟩ := rx
  obtain ⟨t', rfl⟩ := ry
  cases ek
  exact gt_int (wpAny_truthy_bool ⟨c2, H2, I2, q⟩)
end
/-- a local name's text is c, its token was given out -/
noncomputable def LT (X : Cx) (x : Str) (c : Str) (s : Shared) : Prop := ∃ (m : Str → Option Value) (t : Nat), s.heap.Ns X.env.locals m ∧ m x = some (.str c t) ∧ t ≠ 0 ∧ t < s.toks
theorem lt_ok {X : Cx} {x c : Str} : FOk X (LT X x c) where
  tok := fun {s k} hk ⟨m, t, h1, h2, h3, h4⟩ => ⟨m, t, h1, h2, h3, Nat.lt_of_lt_of_le h4 hk⟩
  run := fun {pins σ H H' s s'} I hk un ⟨m, t, ⟨o, es, ep, ho, hd, hr⟩, h2, h3, h4⟩ => by
    obtain ⟨sl, e⟩ := un.any ho I.free (by simp)
    exact ⟨m, t, ⟨_, es, ep, e, hd, hr⟩, h2, h3, Nat.lt_of_lt_of_le h4 hk⟩
/-- the name itself: its text with the token -/
theorem lt_name {X : Cx} {x c : Str} {p : Pos} {pins : List (Addr × Obj)} {σ : St} {H : Hp} {s : Shared} {E : Value → Shared → Prop} {Q : Value → Shared → Prop} (I : Inv X pins σ H s) (h : LT X x c s) (hk : X.env.scope.names.lookup x = some .local) (hd : (x == ("__debug__" : Str)) = false)
    (q : ∀ t, t ≠ 0 → t < s.toks → Q (.str c t) s) : wpAny (model X.prog X.w) X.A (eval (.Name x p) X.env) Q E s := by
  obtain ⟨m, t, h1, h2, h3, h4⟩ := h
  exact wpAny_Name (wpAny_loadName_local I.ok.kind hk h1 h2 (q t h3 h4)) hd
end L2

set_option Elab.async false
set_option linter.all false
set_option maxRecDepth 100000
set_option maxHeartbeats 4000000
/-! a def whose promise tells a bound of the tokens behind it -/
namespace L2
open PySem PySem.Spec PyProof.Rows
noncomputable abbrev TEh := St → Hp → (Nat → VK) → Prop
noncomputable abbrev SpH := List V → Hp → (Nat → VK) → Prop
/-- an expression; N tokens are out behind it -/
noncomputable def PEh (X : Cx) (e : Expr) (t : TEh) : Prop := ∀ (pins : List (Addr × Obj)) (s : Shared) (σ : St) (H : Hp) (Q : Nat → VK), 1 ≤ s.toks → Inv X pins σ H s → t σ H Q → wpAny (model X.prog X.w) X.A (eval e X.env) (fun v s' => ∃ N, N ≤ s'.toks ∧ EP X pins σ (Q N) v s') X.xe s
/-- a body that returns -/
noncomputable def PSsH (X : Cx) (body : List Stmt) (t : TEh) : Prop := ∀ (pins : List (Addr × Obj)) (s : Shared) (σ : St) (H : Hp) (Q : Nat → VK), 1 ≤ s.toks → Inv X pins σ H s → t σ H Q → wpAny (model X.prog X.w) X.A (execs body X.env) (fun f s' => ∃ u N, f = .ret u ∧ N ≤ s'.toks ∧ EP X pins σ (Q N) u s') X.xe s
theorem psh_ret {X : Cx} {e : Expr} {t : TEh} {pos : Pos} (h : PEh X e t) : PSsH X [.Return (some e) pos] t := by
  intro pins s σ H Q h0 I q
  refine wpAny_execs_cons (wpAny_Return_some (thn (h pins s σ H Q h0 I q) fun u s1 ⟨N, hN, hq⟩ => ?_))
  exact ⟨u, N, rfl, hN, hq⟩
structure FnOkH (P : Program) (w : World) (K : PySem.W.Frag) (mg : Str → Option Value) (base : Heap) (k : Nat) (f : Addr) (fd : FuncData) (ps : List Str) (sp : SpH) : Prop where
  len : ∀ vs H Q, sp vs H Q → vs.length = ps.length
  run : ∀ (A : Around) (outer : List Env) (s : Shared) (H : Hp) (args : Args) (us : List Value) (vs : List V) (Q : Nat → VK), 1 ≤ s.toks → Room k A → Env0 P w K mg base A outer s H → BindsTo s fd args (ps.zip us) → Vals vs us → sp vs H Q →
    codeAny (model P w) A (.call (.ref f) args) (fun r s' => match r with | .ok (.ret u) => ∃ N, N ≤ s'.toks ∧ CE outer P w H s (Q N) u s' | _ => False) s
theorem fn_ofH {P : Program} {w : World} {K : PySem.W.Frag} {mg : Str → Option Value} {base : Heap} {k : Nat} {f : Addr} {name qual : Str} {params : Arguments} {body : List Stmt} {scope : Scope} {dV kV doc pm cdv ct oc : Value} {an od : Option Addr}
    {osl : Array (Option Value)} {N ps : List Str} {sp : SpH} (lk : K.lookup f = some ⟨oc, od, .func (PySem.W.fnOf name qual params body scope dV kV doc pm an cdv ct), osl⟩) (hcd : PySem.W.codeIn K cdv qual = true) (S : FnScope N ps scope) (len : ∀ vs H Q, sp vs H Q → vs.length = ps.length)
    (hbody : ∀ (A : Around) (outer : List Env) (s : Shared) (H : Hp) (vs : List V) (Q : Nat → VK), Room k (A.deeper (envOfC qual scope s.heap.objs.size f cdv)) → sp vs H Q → ∃ t, PSsH (cxOf CX0 P w K mg base N qual scope f cdv A outer s H (fun _ _ _ => False)).nox body t ∧ t (start N vs) H Q) :
    FnOkH P w K mg base (k + 1) f (PySem.W.fnOf name qual params body scope dV kV doc pm an cdv ct) ps sp := by
  refine ⟨len, fun A outer s H args us vs Q h1 hr e0 hb r hsp => ?_⟩
  have hl := len _ _ _ hsp
  have KX : K.In s.heap := e0.mod.kin.keeps fun b o e => (e0.bs b o e).1
  have lim : s.heap.NoLimit := e0.mod.nolimit.keeps fun b o e => (e0.bs b o e).1
  have hkind : ∀ y ∈ ps.zip us, scope.names.lookup y.1 = some .local ∨ (scope.names.lookup y.1 = some .cell ∧ ((cellsFrom (s.heap.objs.size + 1) scope.names []).lookup y.1).isSome = true) := fun ⟨n, v⟩ hy => by
    rcases S.par n (List.of_mem_zip hy).1 with q | q
    · exact .inl q
    · exact .inr ⟨q, PySem.W.cellsFrom_some _ _ _ (.inl q)⟩
  refine codeAny_call_function hr.depth (KX _ _ lk) rfl S.co S.gen rfl (PySem.W.codeRec_of KX hcd) (hb _ _ _ _ ?_)
  refine PySem.wpAny_with_toks (n := 1) h1 (wpAny_mono (wpAny_newFunctionEnv_cells S.kind hkind fun env he s1 x => ?_) (fun _ _ z => z) fun _ _ z => z)
  intro ht
  subst he
  refine ⟨lim.keeps x.toInCall.keep, codeAny_func ?_⟩
  obtain ⟨t, hbt, hq⟩ := hbody A outer s H vs Q (hr.deeper _) hsp
  have I : Inv (cxOf CX0 P w K mg base N qual scope f cdv A outer s H (fun _ _ _ => False)) [] (start N vs) H s1 := inv_start S hr.hd e0 hl r x
  refine wpAny_mono (hbt [] s1 (start N vs) H Q ht (I.wish _) hq) (fun fl s' hs => ?_) fun e s' hs => hs.elim
  obtain ⟨u, n, rfl, hn, v, H', J, rv, q⟩ := hs
  have J := J.unwish
  exact ⟨n, hn, v, H', J.os, J.bare, J.base, J.hok, rv, q⟩
section
variable {X : Cx} {e : Expr} {es : List Expr} {tr : TA} {pos : Pos}
theorem peh_call {k : Nat} {f : Addr} {fd : FuncData} {ps : List Str} {sp : SpH} {dvs : List V} {ds : List Value} {fx : Str} {pf : Pos} (F : FnOkH X.prog X.w X.K X.mg X.base k f fd ps sp) (hr : Room k X.A) (hg : Gl X fx) (hm : X.mg fx = some (.ref f)) (hk : PySem.W.keepIn X.K (.ref f) = true) (hb : Binds X.K fd ps ds) (hd : Vals dvs ds)
    (ha : PA X (e :: es) tr) (hdb : (fx == ("__debug__" : Str)) = false := by decide) (he : starEach (e :: es) X.env = (false, eval e X.env) :: starEach es X.env := by rfl) (hpl : (backTo pos (starEach es X.env)).any (·.1) = false := by rfl) :
    PEh X (.Call (.Name fx pf) (e :: es) [] pos) (fun σ H Q => tr σ H fun vs H1 => sp (vs ++ dvs) H1 Q) := by
  intro pins s σ H Q h0 I h
  refine wpAny_Call_Name_kw (ld_glob I hg hm ?_ hdb)
  refine PySem.W.callWith_K (h₀ := X.base) I.ok.mod.kin hk (thn (wpAny_mono (PySem.wpAny_toks_of h0 (ha.run pos pins s σ H _ I h)) (fun _ _ z => z) fun _ _ z => z.2) fun us s1 ⟨h1, vs, H1, I1, r, q⟩ => ⟨I1.kIn, ?_⟩) he hpl
  have r2 : Vals (vs ++ dvs) (us ++ ds) := r.append hd
  have hl : (us ++ ds).length = ps.length := by rw [← r2.length]; exact F.len _ _ _ q
  refine wpAny_call (codeAny_mono (F.run X.A X.stack s1 H1 ⟨us, []⟩ (us ++ ds) (vs ++ dvs) Q h1 hr I1.env0 (hb s1 us I1.kIn hl) r2 q) fun r s' hq => ?_)
  cases r with
  | error e => exact False.elim hq
  | ok fl =>
    cases fl with
    | ret u =>
      obtain ⟨N, hN, hq⟩ := hq
      exact ⟨N, hN, I1.after hq⟩
    | next => exact False.elim hq
    | brk => exact False.elim hq
    | cont => exact False.elim hq
end
end L2

set_option Elab.async false
set_option linter.all false
set_option maxRecDepth 100000
set_option maxHeartbeats 4000000
/-! a local name is stored: what it holds; pairs whose text has a token -/
namespace L2
open PySem PySem.Spec PyProof.Rows
section
variable {X : Cx} {x : Str} {pins : List (Addr × Obj)} {σ : St} {H : Hp} {s : Shared}
theorem store_loc {M : Model} {A : Around} {E : Value → Shared → Prop} {i : Nat} {v : V} {u : Value} {Q : Unit → Shared → Prop} (I : Inv X pins σ H s) (hN : X.N.Nodup) (hi : X.N[i]? = some x) (hk : X.env.scope.names.lookup x = some .local) (r : RelV v u)
    (h : ∀ s', s'.toks = s.toks + 1 → Inv X pins (σ.set i (some v)) H s' → (∃ m, s'.heap.Ns X.env.locals m ∧ m x = some u) → Q () s') : wpAny M A (storeName X.env x u) Q E s := by
  obtain ⟨m, hn, hl⟩ := id I.loc
  have hiσ : i < σ.length := by rw [I.len]; exact (List.getElem?_eq_some_iff.mp hi).1
  have cne := I.cne
  refine wpAny_storeName_local hk hn (fun h' hn' hs => ?_) (by rw [I.ok.kind]; rfl)
  have old : ∀ b o, X.s_0.heap.get? b = some o → b ≠ X.env.locals := fun b o e => Nat.ne_of_lt (Nat.lt_of_lt_of_le (Heap.lt_size e) I.ok.above)
  have tr : HOk X.prog X.w H h' := fun b ob e => (I.hok b ob e).stay (fun d w2 hd q => (hs.2 d (by
    rintro rfl
    have nf := I.free
    rcases hd with rfl | hd
    · rw [nf] at e; cases e
    · rw [nf] at hd; cases hd)).trans q) (fun _ q => q) fun _ _ q => q
  refine h { s with heap := h', toks := s.toks + 1 } rfl ⟨I.ok, I.os, I.bare, ?_, ⟨_, hn', fun j y v' e1 e2 e3 => ?_⟩, fun y c' e => ?_, I.free, I.freeC, fun p hp => ?_, tr, by simpa using I.len⟩ ⟨_, hn', by simp⟩
  · exact ⟨fun b o e n hb hx => (hs.2 b (old b o e)).trans (I.base.keep b o e n hb hx), fun b o e n hb hx => let ⟨sl, q⟩ := I.base.slot b o e n hb hx; ⟨sl, (hs.2 b (old b o e)).trans q⟩, I.base.free,
      fun b o e hx => let ⟨o', q⟩ := I.base.there b o e hx; ⟨o', (hs.2 b (old b o e)).trans q⟩, I.base.tups, I.base.frzs, I.base.tbls⟩
  · by_cases hj : j = i
    · subst hj
      rw [hi] at e1; cases e1
      rw [List.getElem?_set_self hiσ] at e2
      cases e2
      exact ⟨u, r, .inl ⟨hk, by simp⟩⟩
    · rw [List.getElem?_set_ne (Ne.symm hj)] at e2
      obtain ⟨u', r', q⟩ := hl j y v' e1 e2 e3
      have hne : y ≠ x := fun e => hj (nodup_ix hN e1 (e ▸ hi))
      rcases q with ⟨k, q⟩ | ⟨k, c', e, z'⟩
      · exact ⟨u', r', .inl ⟨k, by show (if y = x then some u else m y) = some u'; rw [if_neg hne]; exact q⟩⟩
      · exact ⟨u', r', .inr ⟨k, c', e, z'.sameBut hs (cne y c' e)⟩⟩
  · obtain ⟨w2, z2⟩ := I.cell y c' e
    exact ⟨w2, z2.sameBut hs (cne y c' e)⟩
  · obtain ⟨e, n, ne, nf, d⟩ := I.pin p hp
    exact ⟨(hs.2 p.1 ne).trans e, n, ne, nf, d⟩
end
/-- a pair: a text with a token, a number -/
noncomputable def GoodT (c : Str) (n : Int) (o : Obj) : Prop := ∃ (t tk k : Nat), o.cls = .type "tuple" ∧ o.data = .seq #[.str c t, .int n tk] k
/-- its token was given out -/
noncomputable def TokT (o : Obj) (N : Nat) : Prop := ∃ (c : Str) (t : Nat) (v : Value) (k : Nat), o.cls = .type "tuple" ∧ o.data = .seq #[.str c t, v] k ∧ t ≠ 0 ∧ t < N
theorem TokT.le {o : Obj} {N N' : Nat} (h : TokT o N) (hn : N ≤ N') : TokT o N' := let ⟨c, t, v, k, h1, h2, h3, h4⟩ := h; ⟨c, t, v, k, h1, h2, h3, Nat.lt_of_lt_of_le h4 hn⟩
section
variable {X : Cx} {x : Str} {c : Str} {pins : List (Addr × Obj)} {σ : St} {H : Hp} {s : Shared} {e2 : Expr} {te2 : TE} {p1 p2 : Pos} {k1 : Nat}
/-- (name, e): the pair's own object -/
theorem pair_tok (I : Inv X pins σ H s) (hl : LT X x c s) (hk : X.env.scope.names.lookup x = some .local) (hd : (x == ("__debug__" : Str)) = false) (he : PE X e2 te2) {R : Int → Addr → Obj → Hp → Prop}
    (h : te2 σ H fun y H2 => ∃ n, y = .int n ∧ ∀ p o, H2 p = none → GoodT c n o → R n p o (upd H2 p (.frz o (.tup [.str c, .int n]))))
    (hs : starEach [.Name x p1, e2] X.env = [(false, eval (.Name x p1) X.env), (false, eval e2 X.env)]) :
    wpAny (model X.prog X.w) X.A (eval (.Tuple [.Name x p1, e2] k1 p2) X.env) (fun v s' => ∃ n p o H', v = .ref p ∧ Inv X pins σ H' s' ∧ TokT o s'.toks ∧ R n p o H' ∧ H' p = some (.frz o (.tup [.str c, .int n]))) X.xe s := by
  refine wpAny_Tuple_spliced ?_
  rw [hs]
  show wpAny _ _ (spliced [(false, eval (.Name x p1) X.env), (false, eval e2 X.env)]) _ _ s
  refine Calls.spliced_cons (lt_name I hl hk hd fun t h0 ht => ?_)
  refine Calls.spliced_cons (wpAny_mono (PySem.wpAny_toks (he.run pins s σ H _ I h)) (fun v s1 q => ?_) fun _ _ z => z.2)
  obtain ⟨hT, y, H1, I1, ry, n, rfl, q⟩ := q
  obtain ⟨tk, rfl⟩ := ry
  refine Calls.spliced_nil ⟨by show 2 ≤ sizeLine; decide, ?_⟩
  have hf : H1 s1.heap.objs.size = none := I1.hok.fresh (Nat.le_refl _)
  refine ⟨n, s1.heap.objs.size, { cls := .type "tuple", data := .seq #[.str c t, .int n tk] }, _, rfl, I1.laid (t' := s1.toks) (fun b u e => Heap.get?_push_of_some _ e) (Nat.le_refl _) ?_, ⟨c, t, .int n tk, 0, rfl, rfl, h0, Nat.lt_of_lt_of_le ht hT⟩, q _ _ hf ⟨t, tk, 0, rfl, rfl⟩, upd_same⟩
  refine ⟨Heap.get?_push_size _ rfl, ?_⟩
  exact ⟨by show 2 ≤ sizeLine; decide, [.str c t, .int n tk], .cons ⟨_, rfl⟩ (.cons ⟨_, rfl⟩ .nil), ⟨_, Heap.get?_push_size _ rfl, rfl, _, rfl⟩⟩
end
end L2

set_option Elab.async false
set_option linter.all false
set_option maxRecDepth 100000
set_option maxHeartbeats 4000000
/-! [(x, e) for x in text if test]: the pairs' own objects, each x with its token -/
namespace L2
open PySem PySem.Spec PyProof.Rows
noncomputable abbrev TLs := St → Hp → (V → Hp → List (Addr × Obj) → Prop) → Prop
noncomputable def tLcTok (il ix : Nat) (tt : TT) (te2 : TE) (own : List Nat) : TLs := fun σ H Q => ∃ z : Str, σ[il]? = some (some (.str z)) ∧ ∀ D, H D = none → ∃ W : Nat → Nat → Hp → List (Addr × Obj) → Prop, (∃ m, W 0 m (upd H D (.lst [])) []) ∧ ∀ i m H L, W i m H L →
  (z.cps.size ≤ i ∧ Q (.ref D) H L) ∨ ∃ c, z.cps[i]? = some c ∧ ∃ Nx : Hp → List (Addr × Obj) → Prop, (∀ H' L', Nx H' L' → ∃ m', m' < m ∧ W (i + 1) m' H' L') ∧
    tt ((wipe σ own).set ix (some (.str ⟨#[c]⟩))) H fun b H1 => if b = true then te2 ((wipe σ own).set ix (some (.str ⟨#[c]⟩))) H1 fun y H2 => ∃ n, y = .int n ∧ ∀ p o, H2 p = none → GoodT ⟨#[c]⟩ n o → ∃ acc, (upd H2 p (.frz o (.tup [.str ⟨#[c]⟩, .int n]))) D = some (.lst acc) ∧ acc.length < sizeLine ∧
      Nx (upd (upd H2 p (.frz o (.tup [.str ⟨#[c]⟩, .int n]))) D (.lst (acc ++ [.ref p]))) (L ++ [(p, o)]) else Nx H1 L
theorem lc_tok {X : Cx} {pins : List (Addr × Obj)} {s : Shared} {σ : St} {H : Hp} {Q : V → Hp → List (Addr × Obj) → Prop} {xl x : Str} {il ix : Nat} {e2 test : Expr} {px pl p1 p2 : Pos} {k1 : Nat} {scope : Scope} {own : List (Str × Nat)} {pos : Pos} {tt : TT} {te2 : TE}
    (hc : X.calm = true) (hN : X.N.Nodup) (I : Inv X pins σ H s) (h0 : 1 ≤ s.toks) (hNl : X.N[il]? = some xl) (hvl : Vis X.env.scope xl) (hNx : X.N[ix]? = some x) (hxk : scope.names.lookup x = some .local) (hown : ix ∈ own.map (·.2)) (ok : BlkOk X.N X.env.scope scope own)
    (ht : ∀ (s : Shared) (H : Hp) (C : Addr) (cl : List (Str × Addr)) (fp : List Addr) (c : Str), PTf (X.blk s H scope (compEnvC scope cl C X.env) fp) (LT (X.blk s H scope (compEnvC scope cl C X.env) fp) x c) test tt)
    (he : ∀ (s : Shared) (H : Hp) (C : Addr) (cl : List (Str × Addr)) (fp : List Addr), PE (X.blk s H scope (compEnvC scope cl C X.env) fp) e2 te2)
    (hst : ∀ (cl : List (Str × Addr)) (C : Addr), starEach [.Name x p1, e2] (compEnvC scope cl C X.env) = [(false, eval (.Name x p1) (compEnvC scope cl C X.env)), (false, eval e2 (compEnvC scope cl C X.env))])
    (h : tLcTok il ix tt te2 (own.map (·.2)) σ H Q) (hd : (x == ("__debug__" : Str)) = false := by decide) (hdl : (xl == ("__debug__" : Str)) = false := by decide) (hcl : (xl == ("__classdict__" : Str)) = false := by decide) (hs : ∀ y, foldedSetIterable (.Name xl pl) X.env y = pure y := by intro _; rfl) :
    wpAny (model X.prog X.w) X.A (eval (.ListComp (.Tuple [.Name x p1, e2] k1 p2) [⟨.Name x px, .Name xl pl, [test], 0⟩] scope pos) X.env) (fun v s' => ∃ H' L, Inv X pins σ H' s' ∧ (∃ D, v = .ref D ∧ Q (.ref D) H' L) ∧ ∀ q ∈ L, TokT q.2 s'.toks) X.xe s := by
  obtain ⟨z, hz, h⟩ := h
  have hfree : ∀ y ∈ scope.names, y.2 = .free → ∃ c, X.env.cells.lookup y.1 = some c := fun y hy e => by
    rcases ok.free y hy e with k | k
    · exact I.ok.has _ (.inl k)
    · exact I.ok.has _ (.inr k)
  rw [eval_ListComp]
  refine PySem.comprehension_at (use := none) rfl hs (closure_ok hfree) ok.kind (fun y hy e => by rw [ok.uniq y hy, e]) ?_
  refine raw_name hNl hvl I hz (fun xv rv => ?_) hdl hcl
  obtain ⟨tz, rfl⟩ := rv
  -- the iterator
  obtain ⟨ty, hty, hit⟩ : ∃ ty : String, (ty = "str_ascii_iterator" ∨ ty = "str_iterator") ∧ ∀ {E : Value → Shared → Prop} {Q : Value → Shared → Prop}, Q (.ref s.heap.objs.size) { s with heap := s.heap.push { cls := .type ty, data := .fields #[.str z tz, .int 0 0] } } → wpAny (model X.prog X.w) X.A (pyIter (.str z tz)) Q E s := by
    cases ha : z.cps.all (· < 128)
    · exact ⟨_, .inr rfl, fun q => wpAny_pyIter_wide ha q⟩
    · exact ⟨_, .inl rfl, fun q => wpAny_pyIter_ascii ha q⟩
  refine hit ?_
  generalize hit0 : s.heap.objs.size = it
  have T : Turn X.prog X.w X.K (.Name x px) (Its z) [it] it (fun i h => h.IsStrIter it ty z tz i) := turn_str it z tz ty hty
  have I2 : Inv X pins σ H { s with heap := s.heap.push { cls := .type ty, data := .fields #[.str z tz, .int 0 0] } } := I.kept (t' := s.toks) fun b o e => Heap.get?_push_of_some _ e
  have st2 : Heap.IsStrIter (s.heap.push { cls := .type ty, data := .fields #[.str z tz, .int 0 0] }) it ty z tz 0 := ⟨_, by rw [← hit0]; exact Heap.get?_push_size _ rfl, rfl, rfl⟩
  have f2 : ∀ b ∈ [it], FpOk X pins H b := fun b hb => by
    rw [List.mem_singleton.mp hb, ← hit0]
    exact I.fpOk (Nat.le_refl _) (I.hok.fresh (Nat.le_refl _))
  generalize hs2 : ({ s with heap := s.heap.push { cls := .type ty, data := .fields #[.str z tz, .int 0 0] } } : Shared) = s2 at I2 ⊢
  have st2 : s2.heap.IsStrIter it ty z tz 0 := by rw [← hs2]; exact st2
  have t2 : 1 ≤ s2.toks := by rw [← hs2]; exact h0
  refine wpAny_newObj_type (newEnv_comp ?_) (by show 0 ≤ sizeLine; decide)
  generalize hD : s2.heap.objs.size = D
  have hDn : H D = none := I2.hok.fresh (Nat.le_of_eq hD)
  obtain ⟨W, ⟨m0, w0⟩, turn⟩ := h D hDn
  generalize hs3 : ({ s2 with heap := s2.heap.push { cls := .type "list", data := .seq ([] : List Value).toArray } } : Shared) = s3
  have I3 : Inv X pins σ (upd H D (.lst [])) s3 := by
    rw [← hs3]
    refine I2.laid (t' := s2.toks) (fun b o e => Heap.get?_push_of_some _ e) (Nat.le_of_eq hD) ⟨Nat.zero_le _, [], 0, .nil, ?_⟩
    rw [← hD]
    exact Heap.get?_push_size _ rfl
  have h3 : s3.heap = s2.heap.push { cls := .type "list", data := .seq ([] : List Value).toArray } := by rw [← hs3]
  have t3 : 1 ≤ s3.toks := by rw [← hs3]; exact t2
  have sz : ∀ b ∈ [it], b < s2.heap.objs.size := fun b hb => by
    obtain ⟨o, e, _⟩ := T.obj _ _ st2 b hb
    exact Heap.lt_size e
  have f3 : ∀ b ∈ [it], FpOk X pins (upd H D (.lst [])) b ∧ b < s3.heap.objs.size := fun b hb => by
    have hlt := sz b hb
    refine ⟨⟨?_, (f2 b hb).2⟩, by rw [h3, Heap.size_push]; exact Nat.lt_succ_of_lt hlt⟩
    rw [upd_ne (by rw [← hD]; exact Nat.ne_of_lt hlt)]
    exact (f2 b hb).1
  have st3 : s3.heap.IsStrIter it ty z tz 0 := T.keep _ _ _ st2 fun b _ o e => by rw [h3]; exact Heap.get?_push_of_some _ e
  have I4 := block_start I3 ok hN f3
  have pt := fun c => ht s3 (upd H D (.lst [])) s3.heap.objs.size (cellsFrom (s3.heap.objs.size + 1) scope.names (cloFrom X.env.cells scope.names [])) [it] c
  have pe := he s3 (upd H D (.lst [])) s3.heap.objs.size (cellsFrom (s3.heap.objs.size + 1) scope.names (cloFrom X.env.cells scope.names [])) [it]
  have hst' := hst (cellsFrom (s3.heap.objs.size + 1) scope.names (cloFrom X.env.cells scope.names [])) s3.heap.objs.size
  have hkx : (compEnvC scope (cellsFrom (s3.heap.objs.size + 1) scope.names (cloFrom X.env.cells scope.names [])) s3.heap.objs.size X.env).scope.names.lookup x = some .local := lookup_relabel_local hxk
  show codeAny _ _ (.compStart (.ListComp (.Tuple [.Name x p1, e2] k1 p2) [⟨.Name x px, .Name xl pl, [test], 0⟩] scope pos) 0 (.ref it) (.ref D) (compEnvC scope (cellsFrom (s3.heap.objs.size + 1) scope.names (cloFrom X.env.cells scope.names [])) s3.heap.objs.size X.env)) (compEnds (model X.prog X.w) X.A X.xe none (fun v s' => ∃ H' L, Inv X pins σ H' s' ∧ (∃ D, v = .ref D ∧ Q (.ref D) H' L) ∧ ∀ q ∈ L, TokT q.2 s'.toks) (.ref D) (compEnvC scope (cellsFrom (s3.heap.objs.size + 1) scope.names (cloFrom X.env.cells scope.names [])) s3.heap.objs.size X.env)) { s3 with heap := pushCells (s3.heap.push { cls := .type "dict", data := .dict #[] }) scope.names }
  have nfp : ∀ b ∈ [it], (upd H D (.lst [])) b = none := fun b hb => (f3 b hb).1.1
  generalize hce : compEnvC scope (cellsFrom (s3.heap.objs.size + 1) scope.names (cloFrom X.env.cells scope.names [])) s3.heap.objs.size X.env = ce at I4 pt pe hst' hkx ⊢
  have cL : ce.locals = s3.heap.objs.size := by subst hce; rfl
  generalize hH3 : upd H D (.lst []) = H3 at I3 I4 pt pe w0 nfp f3
  generalize hs4 : ({ s3 with heap := pushCells (s3.heap.push { cls := .type "dict", data := .dict #[] }) scope.names } : Shared) = s4 at I4 ⊢
  have st4 : s4.heap.IsStrIter it ty z tz 0 := T.keep _ _ _ st3 fun b _ o e => by rw [← hs4]; exact pushCells_keeps _ _ _ _ (Heap.get?_push_of_some _ e)
  have t4 : 1 ≤ s4.toks := by rw [← hs4]; exact t3
  have stat : ∀ {σ' : St} {H' : Hp} {s' : Shared}, Inv (X.blk s3 H3 scope ce [it]) [] σ' H' s' → (∀ b ∈ [it], H' b = none) → ∀ b ∈ [it], FpOk (X.blk s3 H3 scope ce [it]) [] H' b := fun {σ' H' s'} I' hn b hb =>
    ⟨hn b hb, (I'.ok.exf b hb).1, I'.ok.exfs b hb, .inl hb, fun x c e => (I'.ok.exf b hb).2 x c e, fun p hp => absurd (show p ∈ ([] : List (Addr × Obj)) ++ [] from hp) (by simp)⟩
  have loop : codeAny (model X.prog X.w) X.A (.compLoop (.ListComp (.Tuple [.Name x p1, e2] k1 p2) [⟨.Name x px, .Name xl pl, [test], 0⟩] scope pos) 0 (.ref it) (.ref D) ce) (compEnds (model X.prog X.w) X.A X.xe none (fun v s' => ∃ H' L, Inv X pins σ H' s' ∧ (∃ D, v = .ref D ∧ Q (.ref D) H' L) ∧ ∀ q ∈ L, TokT q.2 s'.toks) (.ref D) ce) s4 := by
    refine compLoop_any (fun n s' => 1 ≤ s'.toks ∧ ∃ i H' L, Inv (X.blk s3 H3 scope ce [it]) [] (wipe σ (own.map (·.2))) H' s' ∧ s'.heap.IsStrIter it ty z tz i ∧ (∀ b ∈ [it], H' b = none) ∧ W i n H' L ∧ ∀ q ∈ L, TokT q.2 s'.toks) ?_ m0 ⟨t4, 0, H3, [], I4, st4, nfp, w0, fun q hq => nomatch hq⟩
    rintro n s5 ⟨k5, i, H5, L, I5, st5, n5, w5, b5⟩
    rcases turn i n H5 L w5 with ⟨stop, qq⟩ | ⟨c, hcx, Nx, hNx2, step⟩
    · have td := T.done (X.blk s3 H3 scope ce [it]) rfl rfl rfl hc i [] s5 _ H5 (fun _ _ => False) I5 (stat I5 n5) st5 stop
      refine thnF (tkF (Nat.le_refl _) td) fun r s6 ⟨k6, hr, I6⟩ => ?_
      subst hr
      have I7 : Inv X pins σ H5 s6 := I3.call' (ch := [it]) I6.os I6.base I6.hok I6.bare fun b hb => ⟨(f3 b hb).1.2.2.2.1, (f3 b hb).1.2.1, (f3 b hb).1.2.2.2.2.1, (f3 b hb).1.2.2.2.2.2⟩
      have nC : H5 s3.heap.objs.size = none := by
        have z : H5 ce.locals = none := I6.free
        rw [cL] at z
        exact z
      obtain ⟨m, hn, _⟩ := I6.loc
      have hn : s6.heap.Ns ce.locals m := hn
      rw [cL] at hn
      obtain ⟨g0, g1, g2, g3, g4, g5⟩ := I3.fpOk (Nat.le_refl _) nC
      have fin0 : compEnds (model X.prog X.w) X.A X.xe none (fun v s' => ∃ H' L, Inv X pins σ H' s' ∧ (∃ D, v = .ref D ∧ Q (.ref D) H' L) ∧ ∀ q ∈ L, TokT q.2 s'.toks) (.ref D) (compEnvC scope (cellsFrom (s3.heap.objs.size + 1) scope.names (cloFrom X.env.cells scope.names [])) s3.heap.objs.size X.env) (.ok .next) s6 :=
        ⟨m, hn, fun h'' sb => ⟨H5, L, I7.turned (t' := s6.toks) (fun b o hb e => (sb.2 b hb).trans e) g0 g1 g3 g4 g5, ⟨D, rfl, qq⟩, fun q hq => (b5 q hq).le k6⟩⟩
      rw [hce] at fin0
      exact fin0
    · have item : ∀ {Q' : Option Value → Shared → Prop} {E' : Value → Shared → Prop}, (∀ h', h'.IsStrIter it ty z tz (i + 1) → Heap.SameBut it s5.heap h' → Q' (some (.str ⟨#[c]⟩ s5.toks)) { s5 with heap := h', toks := s5.toks + 1 }) → wpAny (model X.prog X.w) X.A (pyNext (.ref it)) Q' E' s5 := by
        intro Q' E' hq
        rcases hty with e | e
        · subst e; exact wpAny_pyNext_ascii_item st5 hcx hq
        · subst e; exact wpAny_pyNext_wide_item st5 hcx hq
      refine item fun h6 st6 sb6 => ?_
      obtain ⟨f0, f1, f2', f3', f4, f5⟩ := stat I5 n5 it (by simp)
      have I6 : Inv (X.blk s3 H3 scope ce [it]) [] (wipe σ (own.map (·.2))) H5 { s5 with heap := h6, toks := s5.toks + 1 } := I5.turned (fun b o hb e => (sb6.2 b hb).trans e) f0 f1 f3' f4 f5
      obtain ⟨oi, ei, cc, dd⟩ := id st6
      refine go_of (s := { s5 with heap := h6, toks := s5.toks + 1 }) ei cc dd (by rcases hty with e | e <;> rw [e] <;> decide) ?_
      have I6' := I6.pinned (stat I6 n5) (T.obj _ _ st6)
      refine wpAny_assign_Name (store_loc (X := X.blk s3 H3 scope ce [it]) I6' hN hNx hkx (v := .str ⟨#[c]⟩) ⟨_, rfl⟩ fun s8 ht8 I8 ⟨m8, hn8, hm8⟩ => ?_)
      have ht8 : s8.toks = s5.toks + 1 + 1 := ht8
      have lt8 : LT (X.blk s3 H3 scope ce [it]) x ⟨#[c]⟩ s8 := ⟨m8, s5.toks, hn8, hm8, by omega, by omega⟩
      have fin : ∀ {s' : Shared} {H' : Hp} {L' : List (Addr × Obj)}, Inv (X.blk s3 H3 scope ce [it]) ([] ++ pinsAt [it] h6) ((wipe σ (own.map (·.2))).set ix (some (.str ⟨#[c]⟩))) H' s' → Nx H' L' → 1 ≤ s'.toks → (∀ q ∈ L', TokT q.2 s'.toks) →
          ∃ m, m < n ∧ 1 ≤ s'.toks ∧ ∃ i H' L, Inv (X.blk s3 H3 scope ce [it]) [] (wipe σ (own.map (·.2))) H' s' ∧ s'.heap.IsStrIter it ty z tz i ∧ (∀ b ∈ [it], H' b = none) ∧ W i m H' L ∧ ∀ q ∈ L, TokT q.2 s'.toks := fun {s' H' L'} I' nx kt bt => by
        obtain ⟨m', hm, w'⟩ := hNx2 H' L' nx
        have pin' : ∀ b ∈ [it], ∀ o, h6.get? b = some o → s'.heap.get? b = some o ∧ H' b = none := fun b hb o e =>
          let z := I'.pin (b, o) (List.mem_append_right _ (List.mem_append_right _ (mem_pinsAt hb e)))
          ⟨z.1, z.2.1⟩
        refine ⟨m', hm, kt, i + 1, H', L', (I'.unpinned (pins := [])).weak (by rw [List.length_set]) (fun j v e => ?_), T.keep _ _ _ st6 fun b hb o e => (pin' b hb o e).1, fun b hb => ?_, w', bt⟩
        · obtain ⟨e1, e2⟩ := wipe_some e
          rw [List.getElem?_set_ne (show ix ≠ j from fun z => e2 (by rw [← z]; exact hown))]
          exact e
        · obtain ⟨o, e, _⟩ := T.obj _ _ st6 b hb
          exact (pin' b hb o e).2
      refine wpAny_tests_one (thnF (tkF (Nat.le_refl _) (pt ⟨#[c]⟩ _ s8 _ H5 _ lt8 I8 step)) fun b s9 ⟨k9, lt9, H9, I9, q9⟩ => ?_)
      cases b with
      | false =>
        simp only [Bool.false_eq_true, if_false] at q9 ⊢
        exact fin I9 q9 (by omega) fun q hq => (b5 q hq).le (by omega)
      | true =>
        simp only [if_true] at q9 ⊢
        refine thnF (tkF (Nat.le_refl _) (pair_tok (X := X.blk s3 H3 scope ce [it]) (R := fun n p o H' => ∃ acc, H' D = some (.lst acc) ∧ acc.length < sizeLine ∧ Nx (upd H' D (.lst (acc ++ [.ref p]))) (L ++ [(p, o)])) I9 lt9 hkx hd pe ?_ hst')) fun zv s10 ⟨k10, nn, p, o, H10, ez, I10, tk10, ⟨acc, hD10, hz10, nx⟩, _⟩ => ?_
        · exact q9
        · subst ez
          exact thnF (tkF (Nat.le_refl _) (app_ok (X := X.blk s3 H3 scope ce [it]) (y := .ref p) (Q := fun _ s' => Inv (X.blk s3 H3 scope ce [it]) ([] ++ pinsAt [it] h6) ((wipe σ (own.map (·.2))).set ix (some (.str ⟨#[c]⟩))) (upd H10 D (.lst (acc ++ [.ref p]))) s') I10 hD10 hz10 rfl fun s11 I11 => I11)) fun _ s11 ⟨k11, I11⟩ => fin I11 nx (by omega) fun q hq => by
            rcases List.mem_append.mp hq with hq | hq
            · exact (b5 q hq).le (by omega)
            · rw [List.mem_singleton.mp hq]
              exact tk10.le k11
  exact codeAny_compStart_list loop (T.self X.A 0 _ _ _ st4 loop)
end L2

set_option Elab.async false
set_option linter.all false
set_option maxRecDepth 100000
set_option maxHeartbeats 4000000
/-! dict(pairs): the keys' own tokens -/
namespace L2
open PySem PySem.Spec PyProof.Rows
/-- each key of the dict at d -/
noncomputable def KeysP (P : Value → Prop) (h : Heap) (d : Addr) : Prop := ∃ o es ep, h.get? d = some o ∧ o.data = .dict es ep ∧ ∀ e ∈ es, P e.key
theorem KeysP.at {P : Value → Prop} {h h' : Heap} {d : Addr} (k : KeysP P h d) (g : ∀ o, h.get? d = some o → h'.get? d = some o) : KeysP P h' d := let ⟨o, es, ep, ho, r⟩ := k; ⟨o, es, ep, g o ho, r⟩
section
variable {prog : Program} {w : World} {A : Around} {E : Value → Shared → Prop} {s : Shared}
theorem dictSet_new {P : Value → Prop} {d : Addr} {kvs : List (Key × Value)} {k : Key} {key v : Value} {Q : Unit → Shared → Prop} (hkey : keyIs k key = true) (hm : s.heap.DictOf (mixKind prog w) d kvs) (hnew : k ∉ kvs.map (·.1)) (hP : KeysP P s.heap d) (hp : P key)
    (hQ : ∀ h', h'.DictOf (mixKind prog w) d (kvs ++ [(k, v)]) → KeysP P h' d → Heap.SameBut d s.heap h' → Q () { s with heap := h', toks := s.toks + 1 }) (hsz : kvs.length ≤ sizeLine) : wpAny (model prog w) A (dictSet d key v) Q E s := by
  obtain ⟨o, es, ep, ho, hc, hd, hk, hpr, hn⟩ := hm
  obtain ⟨o', es', ep', ho', hd', hall⟩ := hP
  rw [ho] at ho'
  cases ho'
  rw [hd] at hd'
  cases hd'
  have hkey' : (mixKind prog w).is k key = true := hkey
  have hes : es.size ≤ sizeLine := by
    have e1 := hpr.length
    have e2 : es.toList.length = es.size := by simp
    omega
  unfold dictSet
  try with_reducible refine wpAny_holding ?_
  refine wpAny_bind ((mixKind prog w).pyHash hkey' ?_)
  unfold dictSetHashed
  try with_reducible refine wpAny_holding ?_
  refine wpAny_bind (wpAny_dictFind_of (s := { s with toks := s.toks + 1 }) hkey' ho hd hk ?_)
  have hidx : (es.findIdx? fun e => (mixKind prog w).is k e.key) = kvs.findIdx? fun kv => decide (kv.1 = k) := by
    rw [← hpr.findIdx k]
    obtain ⟨l⟩ := es
    simp
  cases hi : es.findIdx? fun e => (mixKind prog w).is k e.key with
  | some i =>
    exfalso
    have := any_of_findIdx_some (hidx ▸ hi)
    obtain ⟨kv, hkv, e⟩ := List.any_eq_true.mp this
    exact hnew (List.mem_map.mpr ⟨kv, hkv, of_decide_eq_true e⟩)
  | none =>
    refine wpAny_bind (wpAny_rule (wpAny_updateDictKeys (hz := hes) (s := { s with toks := s.toks + 1 }) ho hd (hQ _ ⟨_, _, ep + 1, Heap.get?_update_self _ ho (Obj.isFreed_of_dict (Obj.data_mapDictKeys hd _)), hc.mapDictKeys _, Obj.data_mapDictKeys hd _, hk.push hkey' _, ?_, ?_⟩ ⟨_, _, ep + 1, Heap.get?_update_self _ ho (Obj.isFreed_of_dict (Obj.data_mapDictKeys hd _)), Obj.data_mapDictKeys hd _, fun e he => ?_⟩ (Heap.SameBut.update ..))))
    · have := hpr.append hkey' ((mixKind prog w).hash k) v
      obtain ⟨l⟩ := es
      simpa using this
    · rw [List.map_append, List.nodup_append]
      refine ⟨hn, by simp, ?_⟩
      intro a ha b hb
      simp only [List.map_cons, List.map_nil, List.mem_singleton] at hb
      subst hb
      exact fun e => hnew (e ▸ ha)
    · rcases Array.mem_push.mp he with he | he
      · exact hall e he
      · rw [he]
        exact hp
/-- the turns over different keys -/
theorem upd_new {P : Value → Prop} {R : Result → Shared → Prop} {S I l : Addr} {items : Array Value} {res : Value} (hh : A.handled = none) (hlI : l ≠ I) (hSI : S ≠ I) (hSl : S ≠ l) :
    ∀ (rest : List (Key × Value)) (i : Nat) (acc : List (Key × Value)) (ix : Int) (t : Tok) (s : Shared), items.size = i + rest.length → acc.length + rest.length ≤ sizeLine → ((acc ++ rest).map (·.1)).Nodup →
      (∀ (j : Nat) (q : Key × Value), rest[j]? = some q → ∃ (b : Addr) (u : Value), items[i + j]? = some (.ref b) ∧ b ≠ S ∧ b ≠ I ∧ IsTup s.heap b #[u, q.2] ∧ keyIs q.1 u = true ∧ P u) →
      s.heap.IsListIter I l i → s.heap.IsList l items → s.heap.DictOf (mixKind prog w) S acc → KeysP P s.heap S →
      (∀ h' tk, h'.DictOf (mixKind prog w) S (acc ++ rest) → KeysP P h' S → (∀ b o, b ≠ S → b ≠ I → s.heap.get? b = some o → h'.get? b = some o) → R (.ok (.ret res)) { s with heap := h', toks := tk }) →
      codeAny (model prog w) A (.builtin "dict.update.loop" ⟨[.ref S, .ref I, .int ix t, res], []⟩) R s
  | [], i, acc, ix, t, s, hsz, hln, nd, ht, hit, hl, hm, hP, hR => by
    refine codeAny_builtin ud_entry ?_
    rw [Around.under_plainId ud_plain _]
    show wpAny _ A.in1 (pyNext (.ref I) >>= _) _ _ s
    refine wpAny_bind (wpAny_pyNext_list_end (A := A.in1) hh hit hl (by first | exact Array.getElem?_eq_none (Nat.le_of_eq hsz) | (simp at hsz; simp; omega)) fun h' he => ?_)
    show wpAny _ A.in1 (Builtin.Dict.addKeywords S [] >>= _) _ _ _
    refine wpAny_bind (wpAny_pure (wpAny_pure ?_))
    refine hR h' s.toks (by rw [List.append_nil]; exact hm.extBut he hSI) (hP.at fun o e => he S o hSI e) fun b o _ hb e => he b o hb e
  | q :: rest, i, acc, ix, t, s, hsz, hln, nd, ht, hit, hl, hm, hP, hR => by
    obtain ⟨b, u, hb, hbS, hbI, htup, hk, hpu⟩ := ht 0 q rfl
    rw [List.length_cons] at hsz hln
    refine codeAny_builtin ud_entry ?_
    rw [Around.under_plainId ud_plain _]
    show wpAny _ A.in1 (pyNext (.ref I) >>= _) _ _ s
    refine wpAny_bind (wpAny_pyNext_list_item (x := .ref b) hit hl (by simpa using hb) fun h1 hit1 hs1 => ?_)
    have ht1 : IsTup h1 b #[u, q.2] := htup.extBut hs1.extBut hbI
    obtain ⟨o, ho, hc, n, hd⟩ := id ht1
    show wpAny _ A.in1 (holding [Value.ref b] _ >>= _) _ _ _
    refine wpAny_bind (wpAny_holding ?_)
    refine wpAny_bind (wpAny_tryCatch ?_)
    unfold Builtin.Dict.pairItems
    refine wpAny_bind (wpAny_typeOf (T := "tuple") ⟨o, ho, hc⟩ ?_)
    rw [if_pos (by first | decide | rfl | simp)]
    refine wpAny_bind (wpAny_seqItems ho hd (wpAny_pure ?_))
    show wpAny _ A.in1 (holding [u, q.2] (dictSet S u q.2)) _ _ _
    have e1 : acc ++ q :: rest = (acc ++ [q]) ++ rest := by simp
    have hnq : q.1 ∉ acc.map (·.1) := fun z => by
      rw [List.map_append, List.nodup_append] at nd
      exact nd.2.2 q.1 z q.1 (by simp) rfl
    refine wpAny_holding (dictSet_new (P := P) (k := q.1) hk (hm.extBut hs1.extBut hSI) hnq (hP.at fun o e => hs1.extBut S o hSI e) hpu (fun h2 hm2 hP2 hs2 => ?_) (by omega))
    refine wpAny_pure ⟨plainId_quiet ud_plain _, upd_new (items := items) hh hlI hSI hSl rest (i + 1) (acc ++ [q]) (ix + 1) 0 _ (show items.size = i + 1 + rest.length by omega) (by rw [List.length_append, List.length_singleton]; omega) (by rw [← e1]; exact nd) (fun j q' e => ?_) ?_ ?_ hm2 hP2 fun h' tk hd' hP' k => ?_⟩
    · obtain ⟨b', u', hb', hbS', hbI', htup', hk', hp'⟩ := ht (j + 1) q' (by simpa using e)
      refine ⟨b', u', ?_, hbS', hbI', (htup'.extBut hs1.extBut hbI').extBut hs2.extBut hbS', hk', hp'⟩
      rw [show i + 1 + j = i + (j + 1) by omega]
      exact hb'
    · exact hit1.at fun o' e => hs2.extBut I o' (Ne.symm hSI) e
    · exact (hl.extBut hs1.extBut hlI).extBut hs2.extBut (Ne.symm hSl)
    · exact hR h' tk (by rw [e1]; exact hd') hP' fun c oc h3 h4 e => k c oc h3 h4 (hs2.extBut c oc h3 (hs1.extBut c oc h4 e))
end
end L2

set_option Elab.async false
set_option linter.all false
set_option maxRecDepth 100000
set_option maxHeartbeats 4000000
/-! dict([(x, e) for x in text if test]): a dict of its own, its keys' tokens -/
namespace L2
open PySem PySem.Spec PyProof.Rows
noncomputable def TokV (N : Nat) (v : Value) : Prop := ∃ (c : Str) (t : Nat), v = .str c t ∧ t ≠ 0 ∧ t < N
/-- a dict's own object: its keys' tokens are out -/
noncomputable def KeysO (od : Obj) (N : Nat) : Prop := ∃ es ep, od.data = .dict es ep ∧ ∀ e ∈ es, TokV N e.key
section
variable {X : Cx} {pins : List (Addr × Obj)} {σ : St} {H : Hp} {s : Shared}
theorem pairs_tok {N : Nat} (I : Inv X pins σ H s) : ∀ {L : List (Addr × Obj)} {kvs : List (Str × Int)}, Paired (fun (q : Addr × Obj) (n : Str × Int) => H q.1 = some (.frz q.2 (.tup [.str n.1, .int n.2]))) L kvs → (∀ q ∈ L, TokT q.2 N) →
    ∃ prs : List (Key × Value), KV (kvs.map fun n => ((.inr n.1 : Key), V.int n.2)) prs ∧ prs.length = L.length ∧ prs.map (·.1) = kvs.map (fun n => (.inr n.1 : Key)) ∧ ∀ (j : Nat) (q : Key × Value), prs[j]? = some q → ∃ (b : Addr) (u : Value), (L.map fun r => Value.ref r.1)[j]? = some (.ref b) ∧ IsTup s.heap b #[u, q.2] ∧ keyIs q.1 u = true ∧ TokV N u
  | _, _, .nil, _ => ⟨[], .nil, rfl, rfl, fun j q e => by simp at e⟩
  | _, _, .cons (a := p) (b := n) (l₁ := L) (l₂ := kvs) h t, hT => by
    obtain ⟨prs, r, hl, hm, hp⟩ := pairs_tok I t fun q hq => hT q (List.mem_cons_of_mem _ hq)
    obtain ⟨c, tk, v, k, hc, hd, h0, hN⟩ := hT p (List.mem_cons_self ..)
    obtain ⟨ho, _⟩ := I.hok p.1 _ h
    obtain ⟨its, rv, ⟨o, ho2, hc2, m, hd2⟩, _⟩ := I.tuple (xs := [.str n.1, .int n.2]) (.inl (.inr ⟨_, h⟩))
    rw [ho] at ho2
    cases ho2
    rw [hd] at hd2
    injection hd2 with hd2 _
    obtain ⟨u, y, ei, ru, ry⟩ := vals2 rv
    subst ei
    have e1 : [Value.str c tk, v] = [u, y] := by simpa using congrArg Array.toList hd2
    injection e1 with e2 e3
    injection e3 with e3 _
    subst e2 e3
    refine ⟨(.inr n.1, v) :: prs, .cons ⟨rfl, ry⟩ r, by rw [List.length_cons, List.length_cons, hl], by rw [List.map_cons, List.map_cons, hm], fun j q e => ?_⟩
    cases j with
    | zero =>
      have e' : ((.inr n.1 : Key), v) = q := Option.some.inj e
      subst e'
      exact ⟨p.1, .str c tk, rfl, ⟨_, ho, hc, k, hd⟩, kV_is (P := X.prog) (w := X.w) (k := .inr n.1) ru, c, tk, rfl, h0, hN⟩
    | succ j =>
      obtain ⟨b, u', e1, e2, e3⟩ := hp j q (by simpa using e)
      exact ⟨b, u', by simpa using e1, e2, e3⟩
end
section
variable {prog : Program} {w : World} {A : Around} {E : Value → Shared → Prop}
theorem call_dict_tok {P : Value → Prop} {s : Shared} {l : Addr} {ol : Obj} {items : Array Value} {n : Nat} {prs : List (Key × Value)} {Q : Value → Shared → Prop} (hh : A.handled = none) (hl : s.heap.get? l = some ol) (hc : ol.cls = .type "list") (hd : ol.dict = none)
    (hdat : ol.data = .seq items n) (hsz : items.size = prs.length) (hln : prs.length ≤ sizeLine) (nd : (prs.map (·.1)).Nodup)
    (ht : ∀ (j : Nat) (q : Key × Value), prs[j]? = some q → ∃ (b : Addr) (u : Value), items[j]? = some (.ref b) ∧ IsTup s.heap b #[u, q.2] ∧ keyIs q.1 u = true ∧ P u)
    (h : ∀ h' tk, h'.DictOf (mixKind prog w) s.heap.objs.size prs → KeysP P h' s.heap.objs.size → (∀ b o, s.heap.get? b = some o → h'.get? b = some o) → Q (.ref s.heap.objs.size) { s with heap := h', toks := tk }) :
    wpAny (model prog w) A (call (.type "dict") [.ref l]) Q E s := by
  refine callType_codes (Q₁ := fun obj s₁ => obj = .ref s.heap.objs.size ∧ s₁ = { s with heap := s.heap.push { cls := .type "dict", data := .dict #[] } }) PySem.F.kt_called_dict (PySem.F.kt_typeCall_dict_1 _) PySem.F.entry_dict_init (kt_code_dict_new _ ⟨rfl, rfl⟩) ?_
  rintro obj s₁ ⟨rfl, rfl⟩
  have hnew : (s.heap.push { cls := .type "dict", data := .dict #[] }).DictOf (mixKind prog w) s.heap.objs.size [] := Heap.DictOf.new s.heap
  have hP0 : KeysP P (s.heap.push { cls := .type "dict", data := .dict #[] }) s.heap.objs.size := ⟨_, #[], 0, Heap.get?_push_size _ rfl, rfl, fun e he => by simp at he⟩
  have k0 : ∀ b o, s.heap.get? b = some o → (s.heap.push { cls := .type "dict", data := .dict #[] }).get? b = some o := fun b o e => Heap.get?_push_of_some _ e
  refine ⟨hnew.typeIs, PySem.F.args_dict_init_2 _ _, ?_⟩
  unfold Builtin.«dict.__init__»
  refine wpAny_bind ?_
  unfold Builtin.Dict.selfAndRest
  refine wpAny_bind (wpAny_notOrdered_dict hnew.typeIs ?_)
  show wpAny _ _ (pure (s.heap.objs.size, [Value.ref l])) _ _ _
  refine wpAny_pure ?_
  show wpAny _ _ (Builtin.Dict.updateFrom "dict.__init__" s.heap.objs.size (.ref l) [] .none) _ _ _
  unfold Builtin.Dict.updateFrom
  refine wpAny_bind (wpAny_typeOf (T := "list") ⟨ol, k0 _ _ hl, hc⟩ ?_)
  rw [if_pos (by first | decide | rfl | simp)]
  refine wpAny_bind (miss_list (k0 _ _ hl) hc hdat hd hh fun h1 tk1 hk1 => ?_)
  rw [if_pos (show (none : Option Value).isNone = true from rfl)]
  refine wpAny_bind (wpAny_rule ?_)
  have hl1 : h1.IsList l items := ⟨ol, hk1 _ _ (k0 _ _ hl), hc, n, hdat⟩
  have hS1 : s.heap.objs.size < h1.objs.size := Heap.lt_size (hk1 _ _ (show (s.heap.push { cls := .type "dict", data := .dict #[] }).get? s.heap.objs.size = some { cls := .type "dict", data := .dict #[] } from Heap.get?_push_size _ rfl))
  refine wpAny_bind (wpAny_pyIter_list hl1 ?_)
  have k2 : ∀ b o, h1.get? b = some o → (h1.push { cls := .type "list_iterator", data := .fields #[.ref l, .int 0 0] }).get? b = some o := fun b o e => Heap.get?_push_of_some _ e
  have hlt : l < s.heap.objs.size := Heap.lt_size hl
  have key := upd_new (prog := prog) (w := w) (A := A.in1) (P := P) (R := wants (fun r s₂ => r = .none ∧ Q (.ref s.heap.objs.size) s₂) E) (S := s.heap.objs.size) (I := h1.objs.size) (l := l) (items := items) (res := Value.none) hh
    (Nat.ne_of_lt (Nat.lt_trans hlt hS1)) (Nat.ne_of_lt hS1) (Nat.ne_of_gt hlt) prs 0 [] 0 0
    { s with heap := h1.push { cls := .type "list_iterator", data := .fields #[.ref l, .int 0 0] }, toks := tk1 } (by rw [hsz, Nat.zero_add]) (by rw [List.length_nil, Nat.zero_add]; exact hln) nd
    (fun j q e => by
      obtain ⟨b, u, e1, e2, e3, e4⟩ := ht j q e
      have hb : b < s.heap.objs.size := e2.lt
      exact ⟨b, u, by rw [Nat.zero_add]; exact e1, Nat.ne_of_lt hb, Nat.ne_of_lt (Nat.lt_trans hb hS1), e2.keeps fun c o z => k2 _ _ (hk1 _ _ (k0 _ _ z)), e3, e4⟩)
    ⟨_, Heap.get?_push_size _ rfl, rfl, rfl⟩ (hl1.at fun o e => k2 _ _ e) ((hnew.at fun o e => hk1 _ _ e).at fun o e => k2 _ _ e) ((hP0.at fun o e => hk1 _ _ e).at fun o e => k2 _ _ e)
    (fun h' tk hd' hP' k => ⟨rfl, h h' tk hd' hP' fun b o e => k b o (Nat.ne_of_lt (Heap.lt_size e)) (Nat.ne_of_lt (Nat.lt_trans (Heap.lt_size e) hS1)) (k2 _ _ (hk1 _ _ (k0 _ _ e)))⟩)
  first
    | exact wpAny_pure ⟨plainId_quiet ud_plain _, key⟩
    | exact wpAny_bind (wpAny_pure (wpAny_pure ⟨plainId_quiet ud_plain _, key⟩))
end
noncomputable def PLs (X : Cx) (e : Expr) (t : TLs) : Prop := ∀ (pins : List (Addr × Obj)) (s : Shared) (σ : St) (H : Hp) (Q : V → Hp → List (Addr × Obj) → Prop), 1 ≤ s.toks → Inv X pins σ H s → t σ H Q → wpAny (model X.prog X.w) X.A (eval e X.env) (fun v s' => ∃ H' L, Inv X pins σ H' s' ∧ (∃ D, v = .ref D ∧ Q (.ref D) H' L) ∧ ∀ q ∈ L, TokT q.2 s'.toks) X.xe s
noncomputable def tDictTok (t : TLs) : TEh := fun σ H Q => t σ H fun x H1 L => ∃ (D : Addr) (kvs : List (Str × Int)), x = .ref D ∧ H1 D = some (.lst (L.map fun q => V.ref q.1)) ∧ Paired (fun (q : Addr × Obj) (n : Str × Int) => H1 q.1 = some (.frz q.2 (.tup [.str n.1, .int n.2]))) L kvs ∧ (kvs.map (·.1)).Nodup ∧
  ∀ N a od, H1 a = none → KeysO od N → Q N (.ref a) (upd H1 a (.frz od (.dK (kvs.map fun n => ((.inr n.1 : Key), V.int n.2)))))
theorem peh_dict {X : Cx} {e : Expr} {t : TLs} {p pos : Pos} (hc : X.calm = true) (h : PLs X e t) (hg : Gl X "dict") (hm : X.mg "dict" = none) (he : starEach [e] X.env = (false, eval e X.env) :: starEach [] X.env := by rfl) : PEh X (.Call (.Name "dict" p) [e] [] pos) (tDictTok t) := by
  intro pins s σ H Q h0 I hq
  refine wpAny_Call_Name_kw (ld_blt I hg hm boot_dict ?_)
  refine PyProof.Rows.callWith_type1 ?_ he rfl
  rw [he]
  show wpAny _ _ (spliced ((false, eval e X.env) :: backTo pos (starEach [] X.env))) _ _ s
  refine Calls.spliced_cons (thn (h pins s σ H _ h0 I hq) fun u s1 ⟨H1, L, I1, ⟨D, eu, D', kvs, eD, hD, hp, nd, q⟩, hT⟩ => ?_)
  cases eD
  subst eu
  refine Calls.spliced_nil ?_
  obtain ⟨prs, rel, hl, hkeys, hpr⟩ := pairs_tok I1 hp hT
  obtain ⟨hz, its, nn, rv, ho⟩ := I1.hok D _ hD
  have ei : its = L.map fun q => Value.ref q.1 := by
    have g : ∀ {L : List (Addr × Obj)} {its : List Value}, Vals (L.map fun q => V.ref q.1) its → its = L.map fun q => Value.ref q.1 := by
      intro L
      induction L with
      | nil => intro its r; cases r; rfl
      | cons a L ih => intro its r; cases r with | cons h r => cases h; rw [ih r]; rfl
    exact g rv
  subst ei
  rw [List.length_map] at hz
  have ndp : (prs.map (·.1)).Nodup := by
    rw [hkeys]
    exact List.pairwise_map.mpr ((List.pairwise_map.mp nd).imp fun hne e => hne (by injection e))
  refine wpAny_mono (PySem.wpAny_toks (call_dict_tok (P := TokV s1.toks) (E := X.xe) (Q := fun v s' => ∃ od, v = .ref s1.heap.objs.size ∧ KeysO od s1.toks ∧ Inv X pins σ (upd H1 s1.heap.objs.size (.frz od (.dK (kvs.map fun n => ((.inr n.1 : Key), V.int n.2))))) s') (I1.ok.hd hc) ho rfl rfl rfl (by simp [hl]) (by rw [hl]; exact hz) ndp (fun j q' e => ?_) fun h' tk hd' hP' k => ?_)) (fun v s' hq => ?_) fun _ _ z => z.2
  · obtain ⟨b, u, e1, e2, e3, e4⟩ := hpr j q' e
    exact ⟨b, u, by simpa using e1, e2, e3, e4⟩
  · obtain ⟨od, es, ep, hod, hdd, hall⟩ := hP'
    have hm : (s1.heap.objs.size == sysModules) = false := beq_eq_false_iff_ne.mpr (Nat.ne_of_gt I1.big)
    refine ⟨od, rfl, ⟨es, ep, hdd, hall⟩, I1.laid (t' := tk) k (Nat.le_refl _) ⟨hod, ?_⟩⟩
    show ObjOk X.prog X.w _ _ _ (.dK _)
    refine ⟨?_, hm, prs, rel, hd'⟩
    rw [rel.length, hl]
    exact hz
  · obtain ⟨hk, od, rfl, hO, I2⟩ := hq
    exact ⟨s1.toks, hk, .ref _, _, I2, rfl, q _ _ _ (I1.hok.fresh (Nat.le_refl _)) hO⟩
end L2

set_option Elab.async false
set_option linter.all false
set_option maxRecDepth 100000
set_option maxHeartbeats 4000000
/-! statements before which N tokens are out; a loop over a dict whose keys' tokens are among them -/
namespace L2
open PySem PySem.Spec PyProof.Rows
theorem pls_lc {X : Cx} {xl x : Str} {il ix : Nat} {e2 test : Expr} {px pl p1 p2 : Pos} {k1 : Nat} {scope : Scope} {own : List (Str × Nat)} {pos : Pos} {tt : TT} {te2 : TE}
    (hc : X.calm = true) (hN : X.N.Nodup) (hNl : X.N[il]? = some xl) (hvl : Vis X.env.scope xl) (hNx : X.N[ix]? = some x) (hxk : scope.names.lookup x = some .local) (hown : ix ∈ own.map (·.2)) (ok : BlkOk X.N X.env.scope scope own)
    (ht : ∀ (s : Shared) (H : Hp) (C : Addr) (cl : List (Str × Addr)) (fp : List Addr) (c : Str), PTf (X.blk s H scope (compEnvC scope cl C X.env) fp) (LT (X.blk s H scope (compEnvC scope cl C X.env) fp) x c) test tt)
    (he : ∀ (s : Shared) (H : Hp) (C : Addr) (cl : List (Str × Addr)) (fp : List Addr), PE (X.blk s H scope (compEnvC scope cl C X.env) fp) e2 te2)
    (hst : ∀ (cl : List (Str × Addr)) (C : Addr), starEach [.Name x p1, e2] (compEnvC scope cl C X.env) = [(false, eval (.Name x p1) (compEnvC scope cl C X.env)), (false, eval e2 (compEnvC scope cl C X.env))] := by intro _ _; rfl)
    (hd : (x == ("__debug__" : Str)) = false := by decide) (hdl : (xl == ("__debug__" : Str)) = false := by decide) (hcl : (xl == ("__classdict__" : Str)) = false := by decide) (hs : ∀ y, foldedSetIterable (.Name xl pl) X.env y = pure y := by intro _; rfl) :
    PLs X (.ListComp (.Tuple [.Name x p1, e2] k1 p2) [⟨.Name x px, .Name xl pl, [test], 0⟩] scope pos) (tLcTok il ix tt te2 (own.map (·.2))) := fun pins s σ H Q h0 I h =>
  lc_tok hc hN I h0 hNl hvl hNx hxk hown ok ht he hst h hd hdl hcl hs
noncomputable def PSsN (N : Nat) (X : Cx) (sts : List Stmt) (u : TS) : Prop := ∀ (pins : List (Addr × Obj)) (s : Shared) (σ : St) (H : Hp) (D : Ends), N ≤ s.toks → Inv X pins σ H s → u D σ H → wpAny (model X.prog X.w) X.A (execs sts X.env) (SP X pins D) X.xe s
noncomputable def PSN (N : Nat) (X : Cx) (st : Stmt) (t : TS) : Prop := ∀ (pins : List (Addr × Obj)) (s : Shared) (σ : St) (H : Hp) (D : Ends), N ≤ s.toks → Inv X pins σ H s → t D σ H → wpAny (model X.prog X.w) X.A (exec st X.env) (SP X pins D) X.xe s
section
variable {X : Cx} {N : Nat} {st : Stmt} {rest : List Stmt} {t u : TS}
theorem psn_of (h : PS X st t) : PSN N X st t := fun pins s σ H D _ I q => h.run pins s σ H D I q
theorem pssn_of (h : PSs X rest u) : PSsN N X rest u := fun pins s σ H D _ I q => h.run pins s σ H D I q
theorem pssn_cons (h1 : PSN N X st t) (h2 : PSsN N X rest u) : PSsN N X (st :: rest) (tSeq t u) := by
  intro pins s σ H D hN I h
  refine wpAny_execs_cons (wpAny_mono (PySem.wpAny_toks_of hN (h1 pins s σ H { D with nx := u D } hN I h)) (fun f s1 ⟨hN1, q⟩ => ?_) fun _ _ z => z.2)
  cases f with
  | next =>
    obtain ⟨σ', H', I', q⟩ := q
    exact h2 pins s1 σ' H' D hN1 I' q
  | ret v => exact q
  | brk => exact q
  | cont => exact q
end
/-- a, b, c where c tells how many tokens are out -/
noncomputable def tTup3h (ta tb : TE) (tc : TEh) : TEh := fun σ H Q => ta σ H fun x H1 => tb σ H1 fun y H2 => tc σ H2 fun N z H3 => ∀ p, H3 p = none → Q N (.ref p) (upd H3 p (.tup [x, y, z]))
theorem peh_tup3 {X : Cx} {a b c : Expr} {ta tb : TE} {tc : TEh} {k : Nat} {pos : Pos} (ha : PE X a ta) (hb : PE X b tb) (hc : PEh X c tc) (hs : starEach [a, b, c] X.env = [(false, eval a X.env), (false, eval b X.env), (false, eval c X.env)] := by rfl) : PEh X (.Tuple [a, b, c] k pos) (tTup3h ta tb tc) := by
  intro pins s σ H Q h0 I h
  refine wpAny_Tuple_spliced ?_
  rw [hs]
  show wpAny _ _ (spliced [(false, eval a X.env), (false, eval b X.env), (false, eval c X.env)]) _ _ s
  refine Calls.spliced_cons (wpAny_mono (PySem.wpAny_toks_of h0 (ha.run pins s σ H _ I h)) (fun v1 s1 ⟨g1, x, H1, I1, r1, q1⟩ => ?_) fun _ _ z => z.2)
  refine Calls.spliced_cons (wpAny_mono (PySem.wpAny_toks_of g1 (hb.run pins s1 σ H1 _ I1 q1)) (fun v2 s2 ⟨g2, y, H2, I2, r2, q2⟩ => ?_) fun _ _ z => z.2)
  refine Calls.spliced_cons (thn (hc pins s2 σ H2 _ g2 I2 q2) fun v3 s3 ⟨N, hN, z, H3, I3, r3, q3⟩ => ?_)
  refine Calls.spliced_nil ⟨by show 3 ≤ sizeLine; decide, N, hN, ?_⟩
  have hf : H3 s3.heap.objs.size = none := I3.hok.fresh (Nat.le_refl _)
  refine ⟨.ref s3.heap.objs.size, upd H3 s3.heap.objs.size (.tup [x, y, z]), I3.laid (t' := s3.toks) (fun b u e => Heap.get?_push_of_some _ e) (Nat.le_refl _) ?_, rfl, q3 _ hf⟩
  exact ⟨by show 3 ≤ sizeLine; decide, [v1, v2, v3], .cons r1 (.cons r2 (.cons r3 .nil)), ⟨_, Heap.get?_push_size _ rfl, rfl, _, rfl⟩⟩
noncomputable def tAsgH (te : TEh) (g : TG) (u : Nat → TS) : TS := fun D σ H => te σ H fun N x H1 => g x σ H1 fun σ' H' => u N D σ' H'
theorem psst_asgH {X : Cx} {tg e : Expr} {g : TG} {te : TEh} {sts : List Stmt} {u : Nat → TS} {pos : Pos} (he : PEh X e te) (hg : PG X tg g) (h2 : ∀ N, PSsN N X sts (u N)) (hs : swapsWithSole [tg] e pos.line X.env = pure false := by rfl) (hw : swappedStores [tg] e X.env = pure none := by rfl)
    (h1 : (assignEach [tg] X.env).map (·.2) = [assign tg X.env] := by rfl) : PSsT X (.Assign [tg] e pos :: sts) (tAsgH te g u) := by
  intro pins s σ H D h0 I h
  refine wpAny_execs_cons (wpAny_Assign_stores (thn (he pins s σ H _ h0 I h) fun v s1 ⟨N, hN, x, H1, I1, r1, q1⟩ => ?_) hs hw)
  rw [h1]
  refine wpAny_mono (PySem.wpAny_toks_of hN (hg.run pins s1 σ H1 x v _ I1 r1 q1)) (fun _ s2 ⟨hN2, σ2, H2, I2, q2⟩ => ?_) fun _ _ z => z.2
  exact h2 N pins s2 σ2 H2 D hN2 I2 q2
/-- for x in d: x's cell holds the very key -/
noncomputable def tForK (N jd ix : Nat) (tb : TS) : TS := fun D σ H => ∃ a od kvs, σ[jd]? = some (some (.ref a)) ∧ H a = some (.frz od (.dK kvs)) ∧ KeysO od N ∧ ∃ W : Nat → Nat → St → Hp → Prop, (∃ m, W 0 m σ H) ∧ ∀ i m σ H, W i m σ H →
  ((Itk a od kvs).stop i H ∧ D.nx σ H) ∨ ((Itk a od kvs).go i H ∧ ∃ Nx : St → Hp → Prop, (∀ σ' H', Nx σ' H' → ∃ m', m' < m ∧ W (i + 1) m' σ' H') ∧ ∀ x H', (Itk a od kvs).yld i H x H' → gName ix x σ H' fun σ2 H2 => tb { D with nx := Nx, ct := Nx, bk := D.nx } σ2 H2)
theorem psn_forK {X : Cx} {N : Nat} {x d : Str} {jd ix : Nat} {px pd pos : Pos} {body : List Stmt} {tb : TS} (hp : PassesOwn (model X.prog X.w) X.A X.env X.xe) (hc : X.calm = true) (hN : X.N.Nodup) (hNd : X.N[jd]? = some d) (hvd : Vis X.env.scope d) (hNx : X.N[ix]? = some x) (hk : X.env.scope.names.lookup x = some .cell) (hfn : X.fn x = true) (hb : KSs X x body tb)
    (hd : (d == ("__debug__" : Str)) = false := by decide) (hcd : (d == ("__classdict__" : Str)) = false := by decide) (hs : ∀ y, foldedSetIterable (.Name d pd) X.env y = pure y := by intro _; rfl) : PSN N X (.For (.Name x px) (.Name d pd) body [] pos) (tForK N jd ix tb) := by
  intro pins s σ H D hT I h
  obtain ⟨a, od, kvs, hσ, ha, hO, h⟩ := h
  obtain ⟨hs', hgd, hx, es, ep, vs, hdt, hsz, kv, hm⟩ := I.frzK ha
  refine wpAny_For (raw_name hNd hvd I hσ (fun v r => ?_) hd hcd) hs
  cases r
  refine iter_keys hs' hgd hx hdt ?_
  obtain ⟨W, ⟨m0, w0⟩, turn⟩ := h
  generalize hit0 : s.heap.objs.size = it
  have T : Turn X.prog X.w X.K (.Name x px) (Itk a od kvs) [it] it (fun i h => h.IsKeyIter it a i kvs.length ep) := turn_keys it hdt
  have I2 : Inv X pins σ H { s with heap := s.heap.push { cls := .type "dict_keyiterator", data := .fields #[.ref a, .int 0 0, .int es.size 0, .int ep 0] } } := I.kept (t' := s.toks) fun b o e => Heap.get?_push_of_some _ e
  have st2 : Heap.IsKeyIter (s.heap.push { cls := .type "dict_keyiterator", data := .fields #[.ref a, .int 0 0, .int es.size 0, .int ep 0] }) it a 0 kvs.length ep := ⟨_, by rw [← hit0]; exact Heap.get?_push_size _ rfl, rfl, by rw [hsz]; rfl⟩
  have f2 : ∀ b ∈ [it], FpOk X pins H b := fun b hb => by
    rw [List.mem_singleton.mp hb, ← hit0]
    exact I.fpOk (Nat.le_refl _) (I.hok.fresh (Nat.le_refl _))
  generalize hs2 : ({ s with heap := s.heap.push { cls := .type "dict_keyiterator", data := .fields #[.ref a, .int 0 0, .int es.size 0, .int ep 0] } } : Shared) = s2 at I2 ⊢
  have st2 : s2.heap.IsKeyIter it a 0 kvs.length ep := by rw [← hs2]; exact st2
  have t2 : N ≤ s2.toks := by rw [← hs2]; exact hT
  have stat : ∀ {H' : Hp}, (∀ b ∈ [it], H' b = none) → ∀ b ∈ [it], FpOk X pins H' b := fun hn b hb => ⟨hn b hb, (f2 b hb).2⟩
  refine codeAny_forLoop_any (fun n s' => N ≤ s'.toks ∧ ∃ i σ' H', Inv X pins σ' H' s' ∧ s'.heap.IsKeyIter it a i kvs.length ep ∧ (∀ b ∈ [it], H' b = none) ∧ W i n σ' H') ?_ m0 ⟨t2, 0, σ, H, I2, st2, fun b hb => (f2 b hb).1, w0⟩
  rintro n s3 ⟨t3, i, σ3, H3, I3, st3, fr3, w3⟩
  rcases turn i n σ3 H3 w3 with ⟨stop, qn⟩ | ⟨go, Nx, hNx2, step⟩
  · refine wpAny_passesOwn hp (thn (T.done X rfl rfl rfl hc i pins s3 σ3 H3 X.xe I3 (stat fr3) st3 stop) fun r s4 ⟨hr, I4⟩ => ?_)
    subst hr
    exact wpAny_execs_nil ⟨σ3, H3, I4, qn⟩
  · obtain ⟨hd3, hi3⟩ := id go
    obtain ⟨_, hgd3, _, es3, ep3, vs3, hdt3, hsz3, kv3, hm3⟩ := I3.frzK hd3
    have e3 := (dict_ep hdt hdt3).1.symm
    subst e3
    have e3 := (dict_ep hdt hdt3).2.symm
    subst e3
    obtain ⟨⟨k, v⟩, hkv⟩ : ∃ p, kvs[i]? = some p := ⟨kvs[i], List.getElem?_eq_getElem hi3⟩
    have hen : es[i]? = some es[i] := Array.getElem?_eq_getElem (by omega)
    generalize es[i]'(by omega) = en at hen
    obtain ⟨es0, ep0, hd0, hall⟩ := hO
    have e0 := (dict_ep hdt hd0).1.symm
    subst e0
    obtain ⟨c, t, hkey, h0, hlt⟩ := hall en (Array.mem_of_getElem? hen)
    obtain ⟨u, hu, ru⟩ := kv_get kv3 hkv
    have hki : keyIs k en.key = true := by
      obtain ⟨es', ⟨o', ho', _, hd'⟩, _, he'⟩ := hm3.raw
      rw [hgd3] at ho'
      cases ho'
      have e4 := (dict_ep hdt hd').1.symm
      subst e4
      have hlt' : i < es.size := by omega
      have e : es[i]'hlt' = en := by
        rw [Array.getElem?_eq_getElem hlt'] at hen
        exact Option.some.inj hen
      rw [← e]
      exact (he' i hlt' k u hu).1
    refine wpAny_passesOwn hp (next_key_item st3 hgd3 hdt hsz hen fun h4 st4 sb4 => ?_)
    obtain ⟨f0, f1, _, f3, f4, f5⟩ := stat fr3 it (by simp)
    have I4 : Inv X pins σ3 H3 { s3 with heap := h4 } := I3.turned (t' := s3.toks) (fun b o hb e => (sb4.2 b hb).trans e) f0 f1 f3 f4 f5
    obtain ⟨oi, ei, cc, dd⟩ := id st4
    refine wpAny_passesOwn hp (go_of (s := { s3 with heap := h4 }) ei cc dd (by decide) ?_)
    have I4' := I4.pinned (stat fr3) (T.obj _ _ st4)
    refine wpAny_passesOwn hp (wpAny_assign_Name (store_cell (v := kV k) I4' hN hNx hk (relV_key hki) hfn fun s6 c6 ht6 I6 hcl hcell => ?_))
    have ht6 : s6.toks = s3.toks := ht6
    rw [hkey] at hcell
    have ct : CT X x s6 := ⟨c6, c, t, hcl, hcell, h0, by omega⟩
    refine wpAny_passesOwn hp (wpAny_mono (PySem.wpAny_toks_of (n := N) (by omega) (hb _ s6 _ H3 _ ct I6 (step _ H3 ⟨rfl, k, v, hkv, rfl⟩))) (fun f s7 ⟨t7, q7⟩ => ?_) fun _ _ z => z.2)
    have again : ∀ {σ7 : St} {H7 : Hp}, Inv X (pins ++ pinsAt [it] h4) σ7 H7 s7 → Nx σ7 H7 → ∃ m, m < n ∧ N ≤ s7.toks ∧ ∃ i σ' H', Inv X pins σ' H' s7 ∧ s7.heap.IsKeyIter it a i kvs.length ep ∧ (∀ b ∈ [it], H' b = none) ∧ W i m σ' H' := fun {σ7 H7} I7 n7 => by
      obtain ⟨m', hm, w7⟩ := hNx2 σ7 H7 n7
      refine ⟨m', hm, t7, i + 1, σ7, H7, I7.unpinned, T.keep _ _ _ st4 fun b hb o e => (I7.pin (b, o) (List.mem_append_right _ (List.mem_append_right _ (mem_pinsAt hb e)))).1, fun b hb => ?_, w7⟩
      obtain ⟨o, e, d⟩ := T.obj _ _ st4 b hb
      exact (I7.pin (b, o) (List.mem_append_right _ (List.mem_append_right _ (mem_pinsAt hb e)))).2.1
    cases f with
    | next => obtain ⟨σ7, H7, I7, n7⟩ := q7; exact again I7 n7
    | cont => obtain ⟨σ7, H7, I7, n7⟩ := q7; exact again I7 n7
    | brk => obtain ⟨σ7, H7, I7, q7⟩ := q7; exact ⟨σ7, H7, I7.unpinned, q7⟩
    | ret v => obtain ⟨x7, σ7, H7, I7, r7, q7⟩ := q7; exact ⟨x7, σ7, H7, I7.unpinned, r7, q7⟩
end L2

set_option Elab.async false
set_option linter.all false
set_option maxRecDepth 100000
set_option maxHeartbeats 4000000
/-! the tokens of a dict's keys, in data -/
namespace AL
open PySem PySem.Spec L2 PyProof.Rows
noncomputable def AEh (Γ : Cg) (te : TEh) (F : Hp) (ms : Ms) (S : Sg) (Q : Nat → QE) : Prop := ∀ (R : Ms) σ H (Qc : Nat → VK), SRep Γ.K F S σ → Hold Γ.K F (ms ++ R) H → XLe Γ R F → (∀ N F' ms' d v H', Ex F F' → Hold Γ.K F' (ms' ++ R) H' → Rep Γ.K F' d v → Q N F' ms' d → Qc N v H') → te σ H Qc
noncomputable abbrev ASpH := List D → Hp → Ms → (Nat → QE) → Prop
noncomputable def toSpH (K : Frg) (sp : ASpH) : SpH := fun vs H Q => ∃ F ms R ds Qa, Hold K F (ms ++ R) H ∧ RepL K F ds vs ∧ sp ds F ms Qa ∧ ∀ N F' ms' d v H', Ex F F' → Hold K F' (ms' ++ R) H' → Rep K F' d v → Qa N F' ms' d → Q N v H'
section
variable {P : Program} {w : World} {K : Frg} {mg : Str → Option Value} {base : Heap}
theorem fn_okH {x qual : Str} {st : Stmt} {f : Addr} {fd : FuncData} {N ps : List Str} {k : Nat} {sp : ASpH} (Fn : Fun K x qual st f fd) (Sc : FnScope N ps (defScope st)) (len : ∀ ds F ms Q, sp ds F ms Q → ds.length = ps.length)
    (hbody : ∀ (cdv : Value) (A : Around) (outer : List Env) (s : Shared) (H : Hp), Room k (A.deeper (PyProof.Rows.envOfC qual (defScope st) s.heap.objs.size f cdv)) → ∃ t, PSsH (cxOf CX0 P w K mg base N qual (defScope st) f cdv A outer s H (fun _ _ _ => False)).nox (defBody st) t ∧
      ∀ ds F ms Q, sp ds F ms Q → AEh ⟨K, E0, fun _ _ _ _ => False⟩ t F ms (startS N ds) Q) : FnOkH P w K mg base (k + 1) f fd ps (toSpH K sp) := by
  obtain ⟨oc, od, kV, doc, pm, an, cdv, ct, osl, rfl, lk, hcd⟩ := Fn.ex
  refine fn_ofH lk hcd Sc (fun vs H Q h => ?_) fun A outer s H vs Q hr hsp => ?_
  · obtain ⟨F0, ms, R, ds, Qa, h1, h2, h3, _⟩ := h
    rw [← h2.len]
    exact len _ _ _ _ h3
  · obtain ⟨F0, ms, R, ds, Qa, h1, h2, h3, h4⟩ := hsp
    obtain ⟨t, ht, q⟩ := hbody cdv A outer s H hr
    exact ⟨t, ht, q ds F0 ms Qa h3 R _ H _ (start_rep h2) h1 (fun _ _ _ _ _ _ _ _ _ z => z.elim) h4⟩
end
section
variable {Γ : Cg} {F : Hp} {ms : Ms} {S : Sg} {Q : Nat → QE} {A : AEnds} {ta tb te2 : TE} {tr : TA} {tc te : TEh} {g : TG} {u : Nat → TS} {tt : TT} {tu : TS}
theorem aeh_call {sp : ASpH} (h : AA Γ tr F ms S fun F1 ms1 ds => sp ds F1 ms1 Q) : AEh Γ (fun σ H Q => tr σ H fun vs H1 => toSpH Γ.K sp (vs ++ []) H1 Q) F ms S Q := fun R σ H Qc hs hh x k =>
  h R σ H _ hs hh x fun F1 ms1 ds vs H1 e1 h1 r1 q1 => by
    show toSpH Γ.K sp (vs ++ []) H1 Qc
    rw [List.append_nil]
    exact ⟨F1, ms1, R, ds, Q, h1, r1, q1, fun N F' ms' d v H' e => k N F' ms' d v H' (e1.trans e)⟩
theorem aeh_tup3 (h : AE Γ ta F ms S fun F1 ms1 x => AE Γ tb F1 ms1 S fun F2 ms2 y => AEh Γ tc F2 ms2 S fun N F3 ms3 z => ∀ F4, Ex F3 F4 → Q N F4 ms3 (.tup [x, y, z])) : AEh Γ (tTup3h ta tb tc) F ms S Q := fun R σ H Qc hs hh x k =>
  h R σ H _ hs hh x fun F1 ms1 d1 v1 H1 e1 h1 r1 q1 => q1 R σ H1 _ (hs.mono e1) h1 (x.ex e1) fun F2 ms2 d2 v2 H2 e2 h2 r2 q2 => q2 R σ H2 _ (hs.mono (e1.trans e2)) h2 (x.ex (e1.trans e2)) fun N F3 ms3 d3 v3 H3 e3 h3 r3 q3 p hp => by
    obtain ⟨e4, h4⟩ := h3.laid (.tup [v1, v2, v3]) hp
    exact k N _ ms3 _ (.ref p) _ (((e1.trans e2).trans e3).trans e4) h4 (.tup (SqT.of upd_same) (.cons (r1.mono ((e2.trans e3).trans e4)) (.cons (r2.mono (e3.trans e4)) (.cons (r3.mono e4) .nil)))) (q3 _ e4)
theorem as_asgH (h : AEh Γ te F ms S fun N F1 ms1 x => AG Γ g x F1 ms1 S fun F2 ms2 S2 => AS Γ (u N) F2 ms2 S2 A) : AS Γ (tAsgH te g u) F ms S A := fun R E σ H hs hh l =>
  h R σ H _ hs hh l.xe fun N F1 ms1 d v H1 e1 h1 r1 q1 => q1 R v σ H1 _ r1 (hs.mono e1) h1 (l.xe.ex e1) fun F2 ms2 S2 σ2 H2 e2 a2 h2 q2 => q2 R E σ2 H2 a2 h2 (l.ex (e1.trans e2))
theorem as_forK {N jd ix : Nat} {a : Addr} {od : Obj} {vs : List (Key × V)} {kvs : List (Key × D)} (hS : S[jd]? = some (some (.ref a))) (hm : ∃ n : Nat, ms[n]? = some (a, .raw (.frz od (.dK vs)))) (hO : KeysO od N) (rk : RepK Γ.K F kvs vs)
    (I : Nat → Hp → Ms → Sg → Prop) (i0 : I 0 F ms S) (iG : ∀ i F' ms' S', Ex F F' → I i F' ms' S' → ∃ n : Nat, ms'[n]? = some (a, .raw (.frz od (.dK vs))))
    (ib : ∀ i k d F' ms' S', Ex F F' → kvs[i]? = some (k, d) → I i F' ms' S' → AS Γ tu F' ms' (S'.set ix (some (kD k))) { A with nx := I (i + 1), ct := I (i + 1), bk := A.nx })
    (ie : ∀ F' ms' S', Ex F F' → I kvs.length F' ms' S' → A.nx F' ms' S') : AS Γ (tForK N jd ix tu) F ms S A := fun R E σ H hs hh l => by
  obtain ⟨v, hv, rv⟩ := hs.2 jd _ hS
  cases rv
  obtain ⟨n, hn⟩ := hm
  refine ⟨a, od, vs, hv, (hh.at (get_app hn)).2, hO, fun i m σ' H' => m = kvs.length - i ∧ i ≤ kvs.length ∧ ∃ F' ms' S', Ex F F' ∧ SRep Γ.K F' S' σ' ∧ Hold Γ.K F' (ms' ++ R) H' ∧ I i F' ms' S', ⟨_, rfl, Nat.zero_le _, F, ms, S, Ex.refl, hs, hh, i0⟩, ?_⟩
  rintro i m σ' H' ⟨rfl, hi, F', ms', S', e', hs', hh', p⟩
  obtain ⟨n', hn'⟩ := iG i F' ms' S' e' p
  have ha := (hh'.at (get_app hn')).2
  by_cases hlt : i < kvs.length
  · refine .inr ⟨⟨ha, by rw [← rk.lenK]; exact hlt⟩, fun σ2 H2 => ∃ F2 ms2 S2, Ex F F2 ∧ SRep Γ.K F2 S2 σ2 ∧ Hold Γ.K F2 (ms2 ++ R) H2 ∧ I (i + 1) F2 ms2 S2, fun σ2 H2 ⟨F2, ms2, S2, e2, a2, b2, q2⟩ => ⟨kvs.length - (i + 1), by omega, rfl, hlt, F2, ms2, S2, e2, a2, b2, q2⟩, fun x H2 y => ?_⟩
    obtain ⟨rfl, key, v, y1, rfl⟩ := y
    obtain ⟨d, hd, rd⟩ := rk.getK y1
    exact ib i key d F' ms' S' e' hd p R _ _ H2 (hs'.set (rep_kD key)) hh' ⟨l.xe.ex e', fun F4 ms4 S4 σ4 H4 e4 a4 b4 q4 => ⟨F4, ms4, S4, e'.trans e4, a4, b4, q4⟩, fun F4 ms4 d4 v4 H4 e4 b4 r4 q4 => l.rt F4 ms4 d4 v4 H4 (e'.trans e4) b4 r4 q4,
      fun F4 ms4 S4 σ4 H4 e4 a4 b4 q4 => l.nx F4 ms4 S4 σ4 H4 (e'.trans e4) a4 b4 q4, fun F4 ms4 S4 σ4 H4 e4 a4 b4 q4 => ⟨F4, ms4, S4, e'.trans e4, a4, b4, q4⟩⟩
  · have ei : i = kvs.length := by omega
    subst ei
    exact .inl ⟨⟨ha, by rw [rk.lenK]; exact Nat.le_refl _⟩, l.nx F' ms' S' σ' H' e' hs' hh' (ie F' ms' S' e' p)⟩
theorem paired_snoc {α β : Type} {G : α → β → Prop} : ∀ {xs : List α} {ys : List β} {x : α} {y : β}, Paired G xs ys → G x y → Paired G (xs ++ [x]) (ys ++ [y])
  | _, _, _, _, .nil, h => .cons h .nil
  | _, _, _, _, .cons a t, h => .cons a (paired_snoc t h)
theorem paired_imp {α β : Type} {G G' : α → β → Prop} (hg : ∀ a b, G a b → G' a b) : ∀ {xs : List α} {ys : List β}, Paired G xs ys → Paired G' xs ys
  | _, _, .nil => .nil
  | _, _, .cons a t => .cons (hg _ _ a) (paired_imp hg t)
/-- dict([(x, e) for x in text if test]) -/
theorem aeh_dictTok {il ix : Nat} {own : List Nat} {z : Str} (hz : S[il]? = some (some (.str z))) (hn : z.cps.size ≤ 1000) (I : Nat → Hp → Ms → List (Str × Int) → Prop) (i0 : I 0 F ms [])
    (ib : ∀ i c F' ms' acc, Ex F F' → z.cps[i]? = some c → I i F' ms' acc → AT Γ.nox tt F' ms' ((wipeS S own).set ix (some (.str ⟨#[c]⟩))) fun F2 ms2 b => (b = true → AE Γ.nox te2 F2 ms2 ((wipeS S own).set ix (some (.str ⟨#[c]⟩))) fun F3 ms3 d => ∃ n, d = .int n ∧ ∀ F4, Ex F3 F4 → I (i + 1) F4 ms3 (acc ++ [(⟨#[c]⟩, n)])) ∧ (b = false → I (i + 1) F2 ms2 acc))
    (ie : ∀ F' ms' acc, Ex F F' → I z.cps.size F' ms' acc → (acc.map (·.1)).Nodup ∧ ∀ N l od F'', Ex F' F'' → KeysO od N → Q N F'' ((l, .raw (.frz od (.dK (acc.map fun n => ((.inr n.1 : Key), V.int n.2))))) :: ms') (.ref l)) :
    AEh Γ (tDictTok (tLcTok il ix tt te2 own)) F ms S Q := fun R σ H Qc hs hh x k => by
  obtain ⟨vz, hvz, rz⟩ := hs.2 il _ hz
  cases rz
  refine ⟨z, hvz, fun D hD => ?_⟩
  refine ⟨fun i m H' L => m = z.cps.size - i ∧ i ≤ z.cps.size ∧ L.length ≤ i ∧ ∃ F' ms' acc, Ex F F' ∧ Hold Γ.K F' (ms' ++ (D, .raw (.lst (L.map fun q => V.ref q.1))) :: R) H' ∧ Paired (fun (q : Addr × Obj) (n : Str × Int) => F' q.1 = some (.frz q.2 (.tup [.str n.1, .int n.2]))) L acc ∧ I i F' ms' acc, ⟨_, rfl, Nat.zero_le _, Nat.le_refl _, F, ms, [], Ex.refl, ?_, .nil, i0⟩, ?_⟩
  · exact (hh.made (m := .raw (.lst [])) hD upd_same).perm List.perm_middle
  rintro i m H' L ⟨rfl, hi, hLi, F', ms', acc, e', hh', hp, p⟩
  have hDl := (hh'.at mid_get).2
  by_cases hlt : i < z.cps.size
  · refine .inr ⟨z.cps[i], Array.getElem?_eq_getElem hlt, fun H2 L2 => L2.length ≤ i + 1 ∧ ∃ F2 ms2 acc2, Ex F F2 ∧ Hold Γ.K F2 (ms2 ++ (D, .raw (.lst (L2.map fun q => V.ref q.1))) :: R) H2 ∧ Paired (fun (q : Addr × Obj) (n : Str × Int) => F2 q.1 = some (.frz q.2 (.tup [.str n.1, .int n.2]))) L2 acc2 ∧ I (i + 1) F2 ms2 acc2,
      fun H2 L2 ⟨hL2, F2, ms2, acc2, e2, b2, pr2, q2⟩ => ⟨z.cps.size - (i + 1), by omega, rfl, hlt, hL2, F2, ms2, acc2, e2, b2, pr2, q2⟩, ?_⟩
    have hs2 : SRep Γ.K F' ((wipeS S own).set ix (some (.str ⟨#[z.cps[i]]⟩))) ((L2.wipe σ own).set ix (some (.str ⟨#[z.cps[i]]⟩))) := ((hs.mono e').wipe own).set (.str _)
    refine ib i z.cps[i] F' ms' acc e' (Array.getElem?_eq_getElem hlt) p _ _ H' _ hs2 hh' xle0 fun F2 ms2 b H2 e2 h2 q2 => ?_
    cases b with
    | true =>
      refine q2.1 rfl _ _ H2 _ (hs2.mono e2) h2 xle0 fun F3 ms3 d v H3 e3 h3 r3 ⟨n, hd, q3⟩ => ?_
      subst hd
      cases r3
      refine ⟨n, rfl, fun pp o hp0 hg => ?_⟩
      have hD3 := (h3.at mid_get).2
      have hne : D ≠ pp := fun e => by
        have hD3 : H3 D = some (.lst (L.map fun q => V.ref q.1)) := hD3
        rw [e, hp0] at hD3
        cases hD3
      obtain ⟨e4, h4⟩ := h3.laid (.frz o (.tup [.str ⟨#[z.cps[i]]⟩, .int n])) hp0
      refine ⟨L.map fun q => V.ref q.1, by rw [upd_ne hne]; exact hD3, by rw [List.length_map, sizeLine_eq]; omega, by rw [List.length_append, List.length_singleton]; omega, _, ms3, acc ++ [(⟨#[z.cps[i]]⟩, n)], ((e'.trans e2).trans e3).trans e4, ?_, paired_snoc (paired_imp (fun a b h => e4 _ _ (e3 _ _ (e2 _ _ h))) hp) upd_same, q3 _ e4⟩
      have := h4.set (m' := .raw (.lst ((L ++ [(pp, o)]).map fun q => V.ref q.1))) (o := .lst ((L.map fun q => V.ref q.1) ++ [V.ref pp])) mid_get (by rw [List.map_append]; exact upd_same)
      rw [mid_set] at this
      exact this
    | false => exact ⟨by omega, F2, ms2, acc, e'.trans e2, h2, paired_imp (fun a b h => e2 _ _ h) hp, q2.2 rfl⟩
  · have ei : i = z.cps.size := by omega
    subst ei
    refine .inl ⟨Nat.le_refl _, ?_⟩
    obtain ⟨nd, qf⟩ := ie F' ms' acc e' p
    refine ⟨D, acc, rfl, hDl, paired_imp (fun a b h => hh'.ex _ _ h) hp, nd, fun N a od ha hO => ?_⟩
    obtain ⟨o, ho, e2, h2⟩ := hh'.freeze mid_get
    rw [mid_erase] at h2
    have h3 := h2.made (m := .raw (.frz od (.dK (acc.map fun n => ((.inr n.1 : Key), V.int n.2))))) ha upd_same
    exact k N _ ((a, .raw (.frz od (.dK (acc.map fun n => ((.inr n.1 : Key), V.int n.2))))) :: ms') (.ref a) _ _ (e'.trans e2) (show Hold Γ.K _ (((a, .raw (.frz od (.dK (acc.map fun n => ((.inr n.1 : Key), V.int n.2))))) :: ms') ++ R) _ from h3) (.ref a) (qf N a od _ e2 hO)
end
end AL

set_option Elab.async false
set_option linter.all false
set_option maxRecDepth 100000
set_option maxHeartbeats 4000000
/-! a tuple turned round (t[::-1]); list(d); d == e of dicts -/
namespace HT
open PySem PySem.Spec PyProof.Rows PySem.Calls
section
variable {prog : Program} {w : World} {A : Around} {E : Value → Shared → Prop} {s : Shared}
theorem adjust_rev (n : Nat) : Builtin.Slice.sliceAdjust none none (-1) (n : Int) = ((n : Int) - 1, -1) := rfl
theorem places_rev (n : Nat) : Builtin.Slice.slicePlaces ((n : Int) - 1) (-1) (-1) = n := by
  unfold Builtin.Slice.slicePlaces
  rw [if_neg (by omega)]
  by_cases h : (n : Int) - 1 > -1
  · rw [if_pos h]
    have : -(-1 : Int) = 1 := rfl
    rw [this, Int.ediv_one]
    omega
  · rw [if_neg h]
    omega
theorem sliceApplied_rev {sl : Addr} {vs : Value} {n : Nat} {Q : Int × Int × Nat → Shared → Prop} (hs : s.heap.IsSliceOf sl .none .none vs) (ps : IsPart vs (some (-1)))
    (h : Q ((n : Int) - 1, -1, n) s) : wpAny (model prog w) A (Builtin.Slice.sliceApplied (.ref sl) (pure (n : Int))) Q E s := by
  obtain ⟨os, hos, hcs, hds⟩ := id hs
  unfold Builtin.Slice.sliceApplied Builtin.Slice.sliceFields
  refine wpAny_bind (wpAny_bind (wpAny_field hos hds (x := .none) rfl (wpAny_bind (wpAny_field hos hds (x := .none) rfl (wpAny_bind (wpAny_field hos hds (x := vs) rfl (wpAny_pure ?_)))))))
  refine wpAny_bind (slicePart_ ps ?_)
  show wpAny _ _ (if ((-1 : Int) == 0) = true then _ else _) _ _ s
  rw [if_neg (by decide)]
  refine wpAny_bind (slicePart_ .none (wpAny_bind (slicePart_ .none (wpAny_bind (wpAny_pure ?_)))))
  show wpAny _ _ (match Builtin.Slice.sliceAdjust none none (-1) (n : Int) with | (lo, hi) => pure (lo, (-1 : Int), Builtin.Slice.slicePlaces lo hi (-1))) _ _ s
  rw [adjust_rev n]
  show wpAny _ _ (pure ((n : Int) - 1, (-1 : Int), Builtin.Slice.slicePlaces ((n : Int) - 1) (-1) (-1))) _ _ s
  rw [places_rev]
  exact wpAny_pure h
theorem fm_map {α β : Type} {f : α → Option β} {g : α → β} : ∀ {l : List α}, (∀ m ∈ l, f m = some (g m)) → l.filterMap f = l.map g
  | [], _ => rfl
  | a :: l, h => by
    rw [List.filterMap_cons, h a (List.mem_cons_self ..), List.map_cons, fm_map fun m hm => h m (List.mem_cons_of_mem _ hm)]
theorem pick_rev (xs : Array Value) : ((List.range xs.size).filterMap fun (m : Nat) => xs[(((xs.size : Int) - 1) + (m : Int) * -1).toNat]?).toArray = xs.toList.reverse.toArray := by
  congr 1
  refine List.ext_getElem? fun i => ?_
  have e : ((List.range xs.size).filterMap fun (m : Nat) => xs[(((xs.size : Int) - 1) + (m : Int) * -1).toNat]?) = (List.range xs.size).map fun m => xs[xs.size - 1 - m]! := by
    refine fm_map fun m hm => ?_
    have hm := List.mem_range.mp hm
    have : (((xs.size : Int) - 1) + (m : Int) * -1).toNat = xs.size - 1 - m := by omega
    rw [this]
    have hlt : xs.size - 1 - m < xs.size := by omega
    show xs[xs.size - 1 - m]? = some (xs[xs.size - 1 - m]!)
    rw [Array.getElem?_eq_getElem hlt, getElem!_pos xs _ hlt]
  rw [e, List.getElem?_map]
  by_cases hi : i < xs.size
  · have hlt : xs.size - 1 - i < xs.size := by omega
    rw [List.getElem?_range hi, List.getElem?_reverse (by simpa using hi)]
    show some (xs[xs.size - 1 - i]!) = xs.toList[xs.toList.length - 1 - i]?
    rw [Array.length_toList, Array.getElem?_toList, Array.getElem?_eq_getElem hlt, getElem!_pos xs _ hlt]
  · rw [List.getElem?_eq_none (by simpa using hi), List.getElem?_eq_none (by simpa using hi)]
    rfl
theorem getItem_tuple_rev {t sl : Addr} {items : Array Value} {vs : Value} {Q : Value → Shared → Prop} (ht : IsTup s.heap t items) (hs : s.heap.IsSliceOf sl .none .none vs) (ps : IsPart vs (some (-1)))
    (h : Q (.ref s.heap.objs.size) { s with heap := s.heap.push { cls := .type "tuple", data := .seq items.toList.reverse.toArray } })
    (hsz : items.size ≤ sizeLine) : wpAny (model prog w) A (getItem (.ref t) (.ref sl)) Q E s := by
  have htake : sizeOk (.seq items.toList.reverse.toArray) := by
    show items.toList.reverse.toArray.size ≤ sizeLine
    rw [List.size_toArray, List.length_reverse, Array.length_toList]
    exact hsz
  obtain ⟨os, hos, hcs, hds⟩ := id hs
  have hTs : s.TypeIs (.ref sl) "slice" := ⟨os, hos, hcs⟩
  unfold getItem
  try with_reducible refine wpAny_holding ?_
  first | refine wpAny_bind (wpAny_pure ?_) | skip
  refine wpAny_bind (wpAny_sequenceKey ht.typeIs (by decide) ?_)
  refine wpAny_bind (wpAny_callSpecial?_slot (name := Str.ofString "__getitem__") ht.typeIs PyProof.Rows.slot_tuple_getitem
    (wpAny_call_entry PyProof.Rows.slot_tuple_getitem ht.typeIs entry_tuple_getitem ?_ (args_tuple_getitem _ _)))
  show wpAny _ _ (Builtin.Tuple.tupleItemsOf (.ref t) >>= _) _ _ s
  refine wpAny_bind (tupleItemsOf_ ht ?_)
  refine wpAny_bind (wpAny_typeOf hTs ?_)
  rw [if_pos (by decide)]
  refine wpAny_bind (sliceApplied_rev hs ps ?_)
  have hno : ¬ ((((items.size : Int) - 1) == 0 && (-1 : Int) == 1 && items.size == items.size) = true) := by
    intro q
    rw [Bool.and_eq_true, Bool.and_eq_true] at q
    exact absurd q.1.2 (by decide)
  show wpAny _ _ (if (((items.size : Int) - 1) == 0 && (-1 : Int) == 1 && items.size == items.size) = true then _ else _) _ _ s
  rw [if_neg hno, pick_rev]
  first
    | exact wpAny_bind (m := Builtin.Tuple.tupleExact _) (wpAny_newObj_type (wpAny_pure ⟨_, rfl, wpAny_pure h⟩) htake)
    | exact wpAny_bind (m := Builtin.Tuple.tupleExact _) (wpAny_newObj_type (wpAny_bind (wpAny_pure (wpAny_pure ⟨_, rfl, wpAny_pure h⟩))) htake)
    | exact wpAny_bind (wpAny_bind (m := Builtin.Tuple.tupleExact _) (wpAny_newObj_type (wpAny_pure (wpAny_pure ⟨_, rfl, wpAny_pure h⟩)) htake))
    | exact wpAny_bind (wpAny_bind (m := Builtin.Tuple.tupleExact _) (wpAny_newObj_type (wpAny_pure ⟨_, rfl, wpAny_pure h⟩) htake))
end
end HT
namespace L2
open PySem PySem.Spec PyProof.Rows
section
variable {X : Cx}
/-- t[::-1] of a tuple -/
noncomputable def tRevT (K : PySem.W.Frag) (te : TE) : TE := fun σ H Q => te σ H fun x H1 => ∃ a xs, x = .ref a ∧ SqT K H1 a xs ∧ ∀ p, H1 p = none → Q (.ref p) (upd H1 p (.tup xs.reverse))
theorem pe_revT {K : PySem.W.Frag} {e : Expr} {te : TE} {k : Nat} {p1 p2 p3 pos : Pos} (hK : X.K = K) (he : PE X e te) : PE X (.Subscript e (.Slice none none (some (.UnaryOp .USub (.Constant (.int 1) k p1) p2)) p3) pos) (tRevT K te) := by
  subst hK
  refine ⟨fun pins s σ H Q I h => ?_⟩
  refine Subscript_ (thn (he.run pins s σ H _ I h) fun v s1 ⟨x, H1, I1, r1, q1⟩ => ?_)
  obtain ⟨a, xs, ex, hx, q⟩ := q1
  subst ex
  cases r1
  have hst : PO X (some (.UnaryOp .USub (.Constant (.int 1) k p1) p2)) (tPart (tUn (rU fun i => .int (-i)) (tC (.int 1)))) := po_some (pe_un un_neg pe_int)
  refine wpAny_Slice (thn (po_none.run pins s1 σ H1 (fun o H2 => o = none ∧ H2 = H1) I1 ⟨rfl, rfl⟩) fun vl s2 ⟨l, H2, I2, pl, el, e2⟩ => ?_)
  subst el e2
  refine thn (po_none.run pins s2 σ H2 (fun o H3 => o = none ∧ H3 = H2) I2 ⟨rfl, rfl⟩) fun vu s3 ⟨u, H3, I3, pu, eu, e3⟩ => ?_
  subst eu e3
  refine thn (hst.run pins s3 σ H3 (fun o H4 => o = some (-1) ∧ H4 = H3) I3 ⟨1, rfl, -1, rfl, rfl, rfl⟩) fun vs s4 ⟨o, H4, I4, ps, eo, e4⟩ => ?_
  subst eo e4
  cases pl
  cases pu
  have I5 : Inv X pins σ H4 { s4 with heap := s4.heap.push { cls := .type "slice", data := .fields #[.none, .none, vs] } } := I4.kept (t' := s4.toks) fun b ob q => Heap.get?_push_of_some _ q
  obtain ⟨its, r, ht, hz⟩ := I5.tuple hx
  have hlen := r.length
  show wpAny (model X.prog X.w) X.A (subscriptTail e (.Slice none none (some (.UnaryOp .USub (.Constant (.int 1) k p1) p2)) p3) (.ref a) (.ref s4.heap.objs.size)) (EP X pins σ Q) X.xe { s4 with heap := s4.heap.push { cls := .type "slice", data := .fields #[.none, .none, vs] } }
  refine tail_any (ops := [.ref a, .ref s4.heap.objs.size]) ht.typeIs PyProof.Rows.slot_tuple_getitem.lookup ?_ (by with_unfolding_all rfl)
  refine HT.getItem_tuple_rev ht (Heap.IsSliceOf.new _ .none .none vs) ps ?_ (by rw [List.size_toArray, ← hlen]; exact hz)
  refine ⟨.ref _, _, I5.laid (t' := s4.toks) (o := .tup xs.reverse) (fun b ob q => Heap.get?_push_of_some _ q) (Nat.le_refl _) ?_, rfl, q _ (I5.hok.fresh (Nat.le_refl _))⟩
  exact ⟨by rw [List.length_reverse]; exact hz, _, r.reverse, IsTup.new _ _⟩
end
end L2
namespace AL
open PySem PySem.Spec L2 PyProof.Rows
section
variable {Γ : Cg} {K : Frg} {F : Hp} {ms : Ms} {S : Sg} {Q : QE} {te : TE}
theorem rep_rev : ∀ {ds : List D} {vs : List V}, RepL K F ds vs → RepL K F ds.reverse vs.reverse
  | _, _, .nil => .nil
  | _, _, .cons h r => by
    rw [List.reverse_cons, List.reverse_cons]
    exact (rep_rev r).append (.cons h .nil)
theorem ae_revT (h : AE Γ te F ms S fun F1 ms1 x => ∃ ds, x = .tup ds ∧ ∀ F2, Ex F1 F2 → Q F2 ms1 (.tup ds.reverse)) : AE Γ (tRevT Γ.K te) F ms S Q := fun R σ H Qc hs hh x k =>
  h R σ H _ hs hh x fun F1 ms1 d1 v1 H1 e1 h1 r1 ⟨ds, hx, q⟩ => by
    subst hx
    cases r1 with
    | tup ha rr =>
      refine ⟨_, _, rfl, ex_t h1.ex ha, fun p hp => ?_⟩
      obtain ⟨e2, h2⟩ := h1.laid (.tup _) hp
      exact k _ ms1 (.tup ds.reverse) _ _ (e1.trans e2) h2 (.tup (SqT.of upd_same) ((rep_rev rr).mono e2)) (q _ e2)
noncomputable def rLISTD (K : Frg) : List V → Hp → VK → Prop := fun xs H Q => ∃ (a : Addr) (kvs : List (Key × V)), xs = [.ref a] ∧ Rd H a (.dK kvs) ∧ ∀ p, H p = none → Q (.ref p) (upd H p (.lst (kvs.map fun kv => kV kv.1)))
theorem kLISTD {X : Cx} (h : X.K = K) (hc : X.calm = true) : CallR X (.type "list") (rLISTD K) := call_listD hc
theorem ac_listD {x : D} {kvs : List (Key × D)} {ks : List Str} (hx : DicR K F ms x kvs) (hk : kvs.map (·.1) = ks.map Sum.inr) (q : ∀ F', Ex F F' → Q F' ms (.lst (ks.map D.str))) : AC K (rLISTD K) [x] F ms Q := ac1 fun R v H Qc hv hh k => by
  obtain ⟨a, vs, rfl, ha, rk⟩ := hx.to hh hv
  refine ⟨a, vs, rfl, ha, fun p hp => ?_⟩
  obtain ⟨e2, h2⟩ := hh.laid (.lst (vs.map fun kv => kV kv.1)) hp
  have e : (vs.map fun kv => kV kv.1) = ks.map V.str := by
    have h1 := (keys_rep rk).trans hk
    have h2 := congrArg (List.map kV) h1
    rw [List.map_map, List.map_map] at h2
    exact h2
  refine k _ ms (.lst _) _ _ e2 h2 (.lst upd_same ?_) (q _ e2)
  rw [e]
  exact rep_strl ks
end
end AL

set_option Elab.async false
set_option linter.all false
set_option maxRecDepth 100000
set_option maxHeartbeats 4000000
namespace K38
open PySem L2 PyProof.Rows AL
noncomputable def top (i : Nat) : Stmt := PySem.Challenge.pw_marqueeletters_k38_whole_needed_and_miss.main.body.getD i (.Pass ⟨0, 0, 0, 0⟩)
noncomputable abbrev s_is_int_in : Stmt := top 13
noncomputable abbrev s_is_pair : Stmt := top 14
noncomputable abbrev s_Sign___init__ : Stmt := inClass (top 15) 0
noncomputable abbrev s_Sign_is_letter : Stmt := inClass (top 15) 1
noncomputable abbrev s_Sign_piece : Stmt := inClass (top 15) 3
noncomputable abbrev s_Sign_is_text : Stmt := inClass (top 15) 7
noncomputable abbrev s_Sign_check_texts : Stmt := inClass (top 15) 8
noncomputable abbrev s_letters_of : Stmt := top 18
noncomputable abbrev s_needed_letters : Stmt := top 19
noncomputable abbrev s_missing_letters : Stmt := top 20
noncomputable abbrev s__law_random : Stmt := top 22
noncomputable abbrev s__law_below : Stmt := top 23
noncomputable abbrev s__law_shuffled : Stmt := top 24
noncomputable abbrev s__law_pairs : Stmt := top 25
noncomputable abbrev s__law_text : Stmt := top 26
noncomputable abbrev s__law_texts : Stmt := top 27
noncomputable abbrev s__law_stock : Stmt := top 28
noncomputable abbrev s_law : Stmt := top 29
noncomputable abbrev N_is_int_in : List Str := ["value", "low", "high"]
theorem sc_is_int_in : FnScope N_is_int_in ["value", "low", "high"] (defScope s_is_int_in) := ⟨rfl, rfl, rfl, by decide +kernel, rfl, by decide +kernel, by decide +kernel⟩
noncomputable abbrev N_is_pair : List Str := ["value"]
theorem sc_is_pair : FnScope N_is_pair ["value"] (defScope s_is_pair) := ⟨rfl, rfl, rfl, by decide +kernel, rfl, by decide +kernel, by decide +kernel⟩
noncomputable abbrev N_Sign___init__ : List Str := ["self", "width", "pairs", "index", "pair"]
theorem sc_Sign___init__ : FnScope N_Sign___init__ ["self", "width", "pairs"] (defScope s_Sign___init__) := ⟨rfl, rfl, rfl, by decide +kernel, rfl, by decide +kernel, by decide +kernel⟩
noncomputable abbrev N_Sign_is_letter : List Str := ["value"]
theorem sc_Sign_is_letter : FnScope N_Sign_is_letter ["value"] (defScope s_Sign_is_letter) := ⟨rfl, rfl, rfl, by decide +kernel, rfl, by decide +kernel, by decide +kernel⟩
noncomputable abbrev N_Sign_piece : List Str := ["self", "letter"]
theorem sc_Sign_piece : FnScope N_Sign_piece ["self", "letter"] (defScope s_Sign_piece) := ⟨rfl, rfl, rfl, by decide +kernel, rfl, by decide +kernel, by decide +kernel⟩
noncomputable abbrev N_Sign_is_text : List Str := ["self", "value", "letter"]
theorem sc_Sign_is_text : FnScope N_Sign_is_text ["self", "value"] (defScope s_Sign_is_text) := ⟨rfl, rfl, rfl, by decide +kernel, rfl, by decide +kernel, by decide +kernel⟩
noncomputable abbrev N_Sign_check_texts : List Str := ["self", "texts", "index", "text"]
theorem sc_Sign_check_texts : FnScope N_Sign_check_texts ["self", "texts"] (defScope s_Sign_check_texts) := ⟨rfl, rfl, rfl, by decide +kernel, rfl, by decide +kernel, by decide +kernel⟩
noncomputable abbrev N_letters_of : List Str := ["sign", "text", "counts", "letter"]
theorem sc_letters_of : FnScope N_letters_of ["sign", "text"] (defScope s_letters_of) := ⟨rfl, rfl, rfl, by decide +kernel, rfl, by decide +kernel, by decide +kernel⟩
noncomputable abbrev N_needed_letters : List Str := ["sign", "texts", "most", "text", "piece", "count"]
theorem sc_needed_letters : FnScope N_needed_letters ["sign", "texts"] (defScope s_needed_letters) := ⟨rfl, rfl, rfl, by decide +kernel, rfl, by decide +kernel, by decide +kernel⟩
noncomputable abbrev N_missing_letters : List Str := ["sign", "texts", "stock", "needed", "have", "letter", "count", "piece"]
theorem sc_missing_letters : FnScope N_missing_letters ["sign", "texts", "stock"] (defScope s_missing_letters) := ⟨rfl, rfl, rfl, by decide +kernel, rfl, by decide +kernel, by decide +kernel⟩
noncomputable abbrev N__law_random : List Str := ["_law_script", "_law_salt", "_law_seed", "_law_cell"]
theorem sc__law_random : FnScope N__law_random ["_law_script", "_law_salt"] (defScope s__law_random) := ⟨rfl, rfl, rfl, by decide +kernel, rfl, by decide +kernel, by decide +kernel⟩
noncomputable abbrev N__law_below : List Str := ["_law_d", "_law_limit", "_law_result"]
theorem sc__law_below : FnScope N__law_below ["_law_d", "_law_limit"] (defScope s__law_below) := ⟨rfl, rfl, rfl, by decide +kernel, rfl, by decide +kernel, by decide +kernel⟩
noncomputable abbrev N__law_shuffled : List Str := ["_law_d", "_law_items", "_law_pool", "_law_result"]
theorem sc__law_shuffled : FnScope N__law_shuffled ["_law_d", "_law_items"] (defScope s__law_shuffled) := ⟨rfl, rfl, rfl, by decide +kernel, rfl, by decide +kernel, by decide +kernel⟩
noncomputable abbrev N__law_pairs : List Str := ["_law_d", "_law_letters", "_law_shuffled_here", "_law_many", "_law_k"]
theorem sc__law_pairs : FnScope N__law_pairs ["_law_d", "_law_letters"] (defScope s__law_pairs) := ⟨rfl, rfl, rfl, by decide +kernel, rfl, by decide +kernel, by decide +kernel⟩
noncomputable abbrev N__law_text : List Str := ["_law_d", "_law_most", "_law_letters", "_law_length", "_law_signs", "_law_inner", "_law_k", "_law_first", "_law_last"]
theorem sc__law_text : FnScope N__law_text ["_law_d", "_law_most", "_law_letters"] (defScope s__law_text) := ⟨rfl, rfl, rfl, by decide +kernel, rfl, by decide +kernel, by decide +kernel⟩
noncomputable abbrev N__law_texts : List Str := ["_law_d", "_law_most", "_law_width", "_law_letters", "_law_k"]
theorem sc__law_texts : FnScope N__law_texts ["_law_d", "_law_most", "_law_width", "_law_letters"] (defScope s__law_texts) := ⟨rfl, rfl, rfl, by decide +kernel, rfl, by decide +kernel, by decide +kernel⟩
noncomputable abbrev N__law_stock : List Str := ["_law_d", "_law_letters", "_law_letter"]
theorem sc__law_stock : FnScope N__law_stock ["_law_d", "_law_letters"] (defScope s__law_stock) := ⟨rfl, rfl, rfl, by decide +kernel, rfl, by decide +kernel, by decide +kernel⟩
noncomputable abbrev N_law : List Str := ["_law_script", "_law_d", "_law_letters", "_law_width", "_law_pairs_here", "_law_sign", "_law_texts_here", "_law_stock_here", "_law_needed", "_law_missing", "_law_piece", "_law_most", "_law_text_here", "_law_letter", "_law_have", "_law_filled", "_law_swapped", "_law_mates", "_law_pair", "_law_other", "_law_parts", "_law_part"]
theorem sc_law : FnScope N_law ["_law_script"] (defScope s_law) := ⟨rfl, rfl, rfl, by decide +kernel, rfl, by decide +kernel, by decide +kernel⟩
set_option genInjectivity false in
set_option genSizeOf false in
structure Txt (K : Frg) (mg : Str → Option Value) where
  c_Sign : Addr
  m_Sign : mg "Sign" = some (.ref c_Sign)
  k_Sign : Cls K c_Sign
  n_Sign_width : NoAttr K c_Sign "width"
  n_Sign_pairs : NoAttr K c_Sign "pairs"
  n_Sign_mates : NoAttr K c_Sign "mates"
  a_is_int_in : Addr
  d_is_int_in : FuncData
  F_is_int_in : Fun K "is_int_in" "is_int_in" s_is_int_in a_is_int_in d_is_int_in
  b_is_int_in : Binds K d_is_int_in ["value", "low", "high"] []
  m_is_int_in : mg "is_int_in" = some (.ref a_is_int_in)
  a_is_pair : Addr
  d_is_pair : FuncData
  F_is_pair : Fun K "is_pair" "is_pair" s_is_pair a_is_pair d_is_pair
  b_is_pair : Binds K d_is_pair ["value"] []
  m_is_pair : mg "is_pair" = some (.ref a_is_pair)
  a_Sign___init__ : Addr
  d_Sign___init__ : FuncData
  z_Sign___init__ : List V
  F_Sign___init__ : FunD K "__init__" "Sign.__init__" (defArgs s_Sign___init__) (defBody s_Sign___init__) (defScope s_Sign___init__) z_Sign___init__ [] a_Sign___init__ d_Sign___init__
  zr_Sign___init__ : ∀ F : Hp, RepL K F [.tup []] z_Sign___init__
  e_Sign___init__ : List Value
  vd_Sign___init__ : Vals z_Sign___init__ e_Sign___init__
  bd_Sign___init__ : Binds K d_Sign___init__ ["self", "width", "pairs"] e_Sign___init__
  b_Sign___init__ : Binds K d_Sign___init__ ["self", "width", "pairs"] []
  M_Sign : Mk K c_Sign a_Sign___init__
  a_Sign_is_letter : Addr
  d_Sign_is_letter : FuncData
  F_Sign_is_letter : Fun K "is_letter" "Sign.is_letter" s_Sign_is_letter a_Sign_is_letter d_Sign_is_letter
  b_Sign_is_letter : Binds K d_Sign_is_letter ["value"] []
  p_Sign_is_letter : Addr
  S_Sign_is_letter : SMet K c_Sign (.type "type") "is_letter" p_Sign_is_letter a_Sign_is_letter
  SI_Sign_is_letter : SInst K c_Sign "is_letter" p_Sign_is_letter a_Sign_is_letter
  kp_Sign_is_letter : PySem.W.keepIn K (.ref a_Sign_is_letter) = true
  a_Sign_piece : Addr
  d_Sign_piece : FuncData
  F_Sign_piece : Fun K "piece" "Sign.piece" s_Sign_piece a_Sign_piece d_Sign_piece
  b_Sign_piece : Binds K d_Sign_piece ["self", "letter"] []
  Me_Sign_piece : Meth K c_Sign "piece" a_Sign_piece
  a_Sign_is_text : Addr
  d_Sign_is_text : FuncData
  F_Sign_is_text : Fun K "is_text" "Sign.is_text" s_Sign_is_text a_Sign_is_text d_Sign_is_text
  b_Sign_is_text : Binds K d_Sign_is_text ["self", "value"] []
  Me_Sign_is_text : Meth K c_Sign "is_text" a_Sign_is_text
  a_Sign_check_texts : Addr
  d_Sign_check_texts : FuncData
  F_Sign_check_texts : Fun K "check_texts" "Sign.check_texts" s_Sign_check_texts a_Sign_check_texts d_Sign_check_texts
  b_Sign_check_texts : Binds K d_Sign_check_texts ["self", "texts"] []
  Me_Sign_check_texts : Meth K c_Sign "check_texts" a_Sign_check_texts
  a_letters_of : Addr
  d_letters_of : FuncData
  F_letters_of : Fun K "letters_of" "letters_of" s_letters_of a_letters_of d_letters_of
  b_letters_of : Binds K d_letters_of ["sign", "text"] []
  m_letters_of : mg "letters_of" = some (.ref a_letters_of)
  a_needed_letters : Addr
  d_needed_letters : FuncData
  F_needed_letters : Fun K "needed_letters" "needed_letters" s_needed_letters a_needed_letters d_needed_letters
  b_needed_letters : Binds K d_needed_letters ["sign", "texts"] []
  m_needed_letters : mg "needed_letters" = some (.ref a_needed_letters)
  a_missing_letters : Addr
  d_missing_letters : FuncData
  F_missing_letters : Fun K "missing_letters" "missing_letters" s_missing_letters a_missing_letters d_missing_letters
  b_missing_letters : Binds K d_missing_letters ["sign", "texts", "stock"] []
  m_missing_letters : mg "missing_letters" = some (.ref a_missing_letters)
  a__law_random : Addr
  d__law_random : FuncData
  F__law_random : Fun K "_law_random" "_law_random" s__law_random a__law_random d__law_random
  b__law_random : Binds K d__law_random ["_law_script", "_law_salt"] []
  m__law_random : mg "_law_random" = some (.ref a__law_random)
  a__law_below : Addr
  d__law_below : FuncData
  F__law_below : Fun K "_law_below" "_law_below" s__law_below a__law_below d__law_below
  b__law_below : Binds K d__law_below ["_law_d", "_law_limit"] []
  m__law_below : mg "_law_below" = some (.ref a__law_below)
  a__law_shuffled : Addr
  d__law_shuffled : FuncData
  F__law_shuffled : Fun K "_law_shuffled" "_law_shuffled" s__law_shuffled a__law_shuffled d__law_shuffled
  b__law_shuffled : Binds K d__law_shuffled ["_law_d", "_law_items"] []
  m__law_shuffled : mg "_law_shuffled" = some (.ref a__law_shuffled)
  a__law_pairs : Addr
  d__law_pairs : FuncData
  F__law_pairs : Fun K "_law_pairs" "_law_pairs" s__law_pairs a__law_pairs d__law_pairs
  b__law_pairs : Binds K d__law_pairs ["_law_d", "_law_letters"] []
  m__law_pairs : mg "_law_pairs" = some (.ref a__law_pairs)
  a__law_text : Addr
  d__law_text : FuncData
  F__law_text : Fun K "_law_text" "_law_text" s__law_text a__law_text d__law_text
  b__law_text : Binds K d__law_text ["_law_d", "_law_most", "_law_letters"] []
  m__law_text : mg "_law_text" = some (.ref a__law_text)
  a__law_texts : Addr
  d__law_texts : FuncData
  F__law_texts : Fun K "_law_texts" "_law_texts" s__law_texts a__law_texts d__law_texts
  b__law_texts : Binds K d__law_texts ["_law_d", "_law_most", "_law_width", "_law_letters"] []
  m__law_texts : mg "_law_texts" = some (.ref a__law_texts)
  a__law_stock : Addr
  d__law_stock : FuncData
  F__law_stock : Fun K "_law_stock" "_law_stock" s__law_stock a__law_stock d__law_stock
  b__law_stock : Binds K d__law_stock ["_law_d", "_law_letters"] []
  m__law_stock : mg "_law_stock" = some (.ref a__law_stock)
  a_law : Addr
  d_law : FuncData
  F_law : Fun K "law" "law" s_law a_law d_law
  b_law : Binds K d_law ["_law_script"] []
  m_law : mg "law" = some (.ref a_law)
  g_abs : mg "abs" = none
  g_all : mg "all" = none
  g_bool : mg "bool" = none
  g_dict : mg "dict" = none
  g_enumerate : mg "enumerate" = none
  g_int : mg "int" = none
  g_isinstance : mg "isinstance" = none
  g_len : mg "len" = none
  g_list : mg "list" = none
  g_max : mg "max" = none
  g_min : mg "min" = none
  g_range : mg "range" = none
  g_sorted : mg "sorted" = none
  g_str : mg "str" = none
  g_sum : mg "sum" = none
  g_tuple : mg "tuple" = none
  u_BLANK : Value
  m_BLANK : mg "BLANK" = some u_BLANK
  r_BLANK : RelV (.str " ") u_BLANK
  u_LETTERS : Value
  m_LETTERS : mg "LETTERS" = some u_LETTERS
  r_LETTERS : RelV (.str "ABCDEFGHIJKLMNOPQRSTUVWXYZ0123456789") u_LETTERS
  u_MAX_PAIRS : Value
  m_MAX_PAIRS : mg "MAX_PAIRS" = some u_MAX_PAIRS
  r_MAX_PAIRS : RelV (.int 10) u_MAX_PAIRS
  u_MAX_STOCK : Value
  m_MAX_STOCK : mg "MAX_STOCK" = some u_MAX_STOCK
  r_MAX_STOCK : RelV (.int 999) u_MAX_STOCK
  u_MAX_TEXTS : Value
  m_MAX_TEXTS : mg "MAX_TEXTS" = some u_MAX_TEXTS
  r_MAX_TEXTS : RelV (.int 12) u_MAX_TEXTS
  u_MAX_WIDTH : Value
  m_MAX_WIDTH : mg "MAX_WIDTH" = some u_MAX_WIDTH
  r_MAX_WIDTH : RelV (.int 24) u_MAX_WIDTH
theorem ex_bl {b : Bool} {P : Bool → Prop} (h : P b) : ∃ b', D.bl b = .bl b' ∧ P b' := ⟨_, rfl, h⟩
theorem ex_int {b : Int} {P : Int → Prop} (h : P b) : ∃ b', D.int b = .int b' ∧ P b' := ⟨_, rfl, h⟩
theorem ex_str {b : Str} {P : Str → Prop} (h : P b) : ∃ b', D.str b = .str b' ∧ P b' := ⟨_, rfl, h⟩
theorem ex_par {a b : D} {P : D → D → Prop} (h : P a b) : ∃ x y, [a, b] = [x, y] ∧ P x y := ⟨_, _, rfl, h⟩
theorem and_nT {A B : Prop} (h : B) : ((!true) = true → A) ∧ ((!true) = false → B) := ⟨fun z => Bool.noConfusion z, fun _ => h⟩
theorem and_nF {A B : Prop} (h : A) : ((!false) = true → A) ∧ ((!false) = false → B) := ⟨fun _ => h, fun z => Bool.noConfusion z⟩
theorem and_nT' {A B : Prop} (h : B) : ((!true) = false → B) ∧ ((!true) = true → A) := ⟨fun _ => h, fun z => Bool.noConfusion z⟩
theorem and_dT {p A B : Prop} [Decidable p] (hp : p) (h : A) : (decide p = true → A) ∧ (decide p = false → B) := ⟨fun _ => h, fun z => absurd hp (of_decide_eq_false z)⟩
theorem and_dF {p A B : Prop} [Decidable p] (hp : ¬ p) (h : B) : (decide p = true → A) ∧ (decide p = false → B) := ⟨fun z => absurd (of_decide_eq_true z) hp, fun _ => h⟩
theorem and_dT' {p A B : Prop} [Decidable p] (hp : p) (h : A) : (decide p = false → B) ∧ (decide p = true → A) := ⟨fun z => absurd hp (of_decide_eq_false z), fun _ => h⟩
theorem and_dF' {p A B : Prop} [Decidable p] (hp : ¬ p) (h : B) : (decide p = false → B) ∧ (decide p = true → A) := ⟨fun _ => h, fun z => absurd (of_decide_eq_true z) hp⟩
theorem and_ndT {p A B : Prop} [Decidable p] (hp : p) (h : B) : ((!decide p) = true → A) ∧ ((!decide p) = false → B) := by rw [decide_eq_true hp]; exact and_nT h
theorem and_ndF {p A B : Prop} [Decidable p] (hp : ¬ p) (h : A) : ((!decide p) = true → A) ∧ ((!decide p) = false → B) := by rw [decide_eq_false hp]; exact and_nF h
theorem and_ndT' {p A B : Prop} [Decidable p] (hp : p) (h : B) : ((!decide p) = false → B) ∧ ((!decide p) = true → A) := by rw [decide_eq_true hp]; exact and_nT' h
section
variable {K : Frg} {F : Hp} {ms : Ms} {Q : QE}
end
/-! ### data -/
noncomputable def LET : Str := "ABCDEFGHIJKLMNOPQRSTUVWXYZ0123456789"
noncomputable def inL (c : Nat) : Prop := c ∈ LET.cps.toList
noncomputable abbrev Pr := Nat × Nat
noncomputable def pS (p : Pr) : Str := ⟨#[p.1, p.2]⟩
noncomputable def pD (p : Pr) : D := .str (pS p)
noncomputable def kS (c : Nat) : Key := .inr (sg c)
noncomputable def kvsOf : List Pr → List (Key × D)
  | [] => []
  | p :: ps => (kS p.1, .str (sg p.2)) :: (kS p.2, .str (sg p.1)) :: kvsOf ps
noncomputable def flat (ps : List Pr) : List Nat := ps.flatMap fun p => [p.1, p.2]
noncomputable def pieceS (ps : List Pr) (c : Nat) : Str := match ps.find? (fun p => c = p.1 ∨ c = p.2) with
  | some p => minS (sg p.1) (sg p.2)
  | none => sg c
noncomputable def St (st : List D) : Prop := ∃ (s c : Int) (rest : List Int), st = .int s :: .int c :: rest.map D.int ∧ 0 ≤ s ∧ s < 2147483647 ∧ 0 ≤ c ∧ (∀ x ∈ rest, 10 ^ 18 ≤ x) ∧ rest.length ≤ 64
noncomputable def fldS (m : Addr) (w : Int) (ps : List Pr) : List (Str × D) := [("mates", .ref m), ("width", .int w), ("pairs", .tup (ps.map pD))]
/-- a sign stands at x -/
noncomputable def Sgn (C : Addr) (ms : Ms) (x : Addr) (w : Int) (ps : List Pr) : Prop := ∃ (i j : Nat) (m : Addr), ms[i]? = some (x, .ins C (fldS m w ps)) ∧ ms[j]? = some (m, .dic (kvsOf ps))
noncomputable def sp1 : Str := " "
noncomputable def shown (w : Int) (t : Str) (o : Int) : Str := mulS sp1 o ++ t ++ mulS sp1 (w - o - t.length)
theorem str_len_add (a b : Str) : (a ++ b).length = a.length + b.length := Array.size_append ..
theorem mulS_len1 (n : Int) : (mulS sp1 n).length = n.toNat := by
  show (List.replicate n.toNat [32]).flatten.toArray.size = n.toNat
  rw [List.size_toArray, List.length_flatten]
  simp
theorem fld_no {f : Str} {m : Addr} {w : Int} {ps : List Pr} (h1 : (f == "mates") = false) (h2 : (f == "width") = false) (h3 : (f == "pairs") = false) : (fldS m w ps).lookup f = none := by
  unfold fldS
  rw [List.lookup_cons, h1, List.lookup_cons, h2, List.lookup_cons, h3]
  rfl
noncomputable def textOk (w : Int) (t : Str) : Prop := 1 ≤ (t.length : Int) ∧ (t.length : Int) ≤ w ∧ (∀ c ∈ t.cps.toList, c = 32 ∨ inL c) ∧ (∃ a, t.cps.toList[0]? = some a ∧ inL a) ∧ ∃ b, t.cps.toList[t.length - 1]? = some b ∧ inL b
noncomputable def okSeason (w : Int) (ps : List Pr) (ts : List Str) : Prop := 1 ≤ w ∧ w ≤ 24 ∧ ps.length ≤ 10 ∧ (∀ c ∈ flat ps, inL c) ∧ (flat ps).Nodup ∧ 1 ≤ ts.length ∧ ts.length ≤ 12 ∧ ∀ t ∈ ts, textOk w t
/-! ### the cost of a change -/
noncomputable abbrev Lk := Nat × Nat × Nat
noncomputable def lD (k : Lk) : D := .tup [.int (k.1 : Int), .str (sg k.2.1), .str (sg k.2.2)]
/-- the piece of a sign -/
noncomputable def pc (ps : List Pr) (c : Nat) : Nat := match ps.find? (fun p => c = p.1 ∨ c = p.2) with
  | some p => min p.1 p.2
  | none => c
noncomputable def lkAt (ps : List Pr) (b a : List Nat) (i : Nat) : Option Lk := if pc ps (b.getD i 0) = pc ps (a.getD i 0) then none else some (i, pc ps (b.getD i 0), pc ps (a.getD i 0))
noncomputable def linksF (ps : List Pr) (b a : List Nat) (n : Nat) : List Lk := (List.range n).filterMap (lkAt ps b a)
noncomputable def letsF (gs : List Lk) : List Nat := gs.flatMap fun k => [k.2.1, k.2.2].filter fun c => decide (c ≠ 32)
noncomputable def sharesF (gs : List Lk) (k : Lk) : Bool := decide (k.2.1 ∈ letsF gs) || decide (k.2.2 ∈ letsF gs)
noncomputable def togF (k : Lk) (found : List (List Lk)) : List Lk := (found.filter fun g => sharesF g k).foldl (fun t g => g ++ t) [k]
noncomputable def stepG (found : List (List Lk)) (k : Lk) : List (List Lk) := (found.filter fun g => !sharesF g k) ++ [togF k found]
noncomputable def groupsF (ks : List Lk) : List (List Lk) := ks.foldl stepG []
noncomputable def gD (g : List Lk) : D := .lst (g.map lD)
noncomputable def closedF (gs : List Lk) : Bool := gs.all (fun k => decide (k.2.1 ≠ 32) && decide (k.2.2 ≠ 32)) && decide ((gs.map (·.2.1)).Perm (gs.map (·.2.2)))
noncomputable abbrev Cn := List (Nat × Int)
noncomputable def valC (m : Cn) (c : Nat) : Int := ((m.find? fun p => decide (p.1 = c)).map (·.2)).getD 0
noncomputable def setC (m : Cn) (c : Nat) (z : Int) : Cn := if m.any (fun p => decide (p.1 = c)) then m.map (fun p => if p.1 = c then (p.1, z) else p) else m ++ [(c, z)]
noncomputable def stepC (m : Cn) (k : Lk) : Cn := setC (setC m k.2.1 (valC m k.2.1 + 1)) k.2.2 (valC (setC m k.2.1 (valC m k.2.1 + 1)) k.2.2 - 1)
noncomputable def cntF (ks : List Lk) : Cn := ks.foldl stepC []
noncomputable def cntD (m : Cn) : List (Key × D) := m.map fun p => (kS p.1, D.int p.2)
noncomputable def surF (ks : List Lk) : Cn := (cntF ks).filter fun p => decide (p.2 > 0) && !decide (p.1 = 32)
noncomputable def carriedF (ks : List Lk) : Int := ((ks.filter fun k => !decide (k.2.2 = 32)).length : Int) + ((surF ks).map (·.2)).sum + (((groupsF ks).filter closedF).length : Int)
noncomputable def turnedF (ps : List Pr) (b a : List Nat) (n : Nat) : Int := (((List.range n).filter fun i => decide (b.getD i 0 ≠ a.getD i 0) && decide (pc ps (b.getD i 0) = pc ps (a.getD i 0))).length : Int)
noncomputable def costD (ps : List Pr) (b a : Str) (w : Int) : D := .tup [.int (carriedF (linksF ps b.cps.toList a.cps.toList w.toNat)), .int (turnedF ps b.cps.toList a.cps.toList w.toNat)]
/-! ### letters needed -/
noncomputable def cntP (ps : List Pr) (t : Str) (c : Nat) : Int := ((t.cps.toList.countP fun a => decide (a ≠ 32) && decide (pc ps a = c) : Nat) : Int)
noncomputable def needC (ps : List Pr) (ts : List Str) (c : Nat) : Int := ts.foldl (fun m t => max m (cntP ps t c)) 0
/-- what is needed: each piece with its number, in ascending order -/
noncomputable def NeedOk (ps : List Pr) (ts : List Str) (nd : Cn) : Prop := (nd.map (·.1)).Pairwise (· < ·) ∧ ∀ p, p ∈ nd ↔ p.2 = needC ps ts p.1 ∧ 0 < p.2
noncomputable def haveC (ps : List Pr) (st : Cn) (c : Nat) : Int := ((st.filter fun p => decide (pc ps p.1 = c)).map (·.2)).sum
noncomputable def missF (ps : List Pr) (nd st : Cn) : Cn := (nd.filter fun p => decide (p.2 > haveC ps st p.1)).map fun p => (p.1, p.2 - haveC ps st p.1)
noncomputable def letF (ps : List Pr) (t : List Nat) : Cn := (t.filter fun a => decide (a ≠ 32)).foldl (fun m a => setC m (pc ps a) (valC m (pc ps a) + 1)) []
noncomputable def okStock (st : Cn) : Prop := st.length ≤ 40 ∧ (st.map (·.1)).Nodup ∧ ∀ p ∈ st, inL p.1 ∧ 0 ≤ p.2 ∧ p.2 ≤ 999
/-- an entry that no stock has -/
noncomputable def badE (k : Key) (v : D) : Prop := (∃ z : Str, k = .inr z ∧ 1 < z.length ∧ z.length ≤ 1000) ∨ (∃ c, k = kS c ∧ c < 128 ∧ ¬ inL c) ∨ (∃ i, k = .inl i) ∨ ∃ c, k = kS c ∧ inL c ∧ (v = .non ∨ (∃ b, v = .bl b) ∨ ∃ i, v = .int i ∧ ¬ (0 ≤ i ∧ i ≤ 999))
noncomputable def isLet : D → Bool
  | .str z => decide (z.length = 1) && decide (z.cps.toList.all fun c => decide (c ∈ LET.cps.toList))
  | _ => false
noncomputable def textZ (z r : Str) : Prop := ∀ c ∈ r.cps.toList, c = 32 ∨ c ∈ z.cps.toList
/-! ### promises -/
section
variable {K : Frg} {mg : Str → Option Value}
noncomputable def sp_is_int_in (T : Txt K mg) : ASp := fun ds F ms Q _ => (∃ v lo hi : Int, ds = [.int v, .int lo, .int hi] ∧ Q F ms (.bl (decide (lo ≤ v) && decide (v ≤ hi)))) ∨ ∃ (d : D) (lo hi : Int), ds = [d, .int lo, .int hi] ∧ (d = .non ∨ ∃ b, d = .bl b) ∧ Q F ms (.bl false)
noncomputable def sp_is_pair (T : Txt K mg) : ASp := fun ds F ms Q _ => ∃ p : Pr, ds = [pD p] ∧ p.1 ≠ p.2 ∧ inL p.1 ∧ inL p.2 ∧ Q F ms (.bl true)
noncomputable def sp_Sign___init__ (T : Txt K mg) : ASp := fun ds F ms Q _ => ∃ (x : Addr) (w : Int) (ps : List Pr) (R : Ms), ds = [.ref x, .int w, .tup (ps.map pD)] ∧ 1 ≤ w ∧ w ≤ 24 ∧ ps.length ≤ 10 ∧ (∀ c ∈ flat ps, inL c) ∧ (flat ps).Nodup ∧ ms = (x, .ins T.c_Sign []) :: R ∧
  ∀ m F', Ex F F' → Q F' ((m, .dic (kvsOf ps)) :: (x, .ins T.c_Sign (fldS m w ps)) :: R) .non
noncomputable def sp__law_random (T : Txt K mg) : ASp := fun ds F ms Q _ => ∃ ns : List Int, ds = [.rdl (ns.map D.int), .int 38] ∧ ns.length ≤ 63 ∧ ∀ F' l st, Ex F F' → St st → Q F' ((l, .lst st) :: ms) (.ref l)
noncomputable def sp__law_below (T : Txt K mg) : ASp := fun ds F ms Q _ => ∃ (k : Nat) (l : Addr) (st : List D) (n : Int), ds = [.ref l, .int n] ∧ ms[k]? = some (l, .lst st) ∧ St st ∧ 0 < n ∧ n < 1000000 ∧ ∀ st' r, St st' → 0 ≤ r → r < n → Q F (ms.set k (l, .lst st')) (.int r)
noncomputable def sp__law_shuffled (T : Txt K mg) : ASp := fun ds F ms Q _ => ∃ (k : Nat) (l : Addr) (st xs : List D), ds = [.ref l, .lst xs] ∧ ms[k]? = some (l, .lst st) ∧ St st ∧ xs.length ≤ 100 ∧ (∀ x ∈ xs, ∃ c, x = .str (sg c) ∧ c < 128) ∧
  ∀ st' F' ys, Ex F F' → St st' → ys.Perm xs → Q F' (ms.set k (l, .lst st')) (.lst ys)
noncomputable def sp__law_pairs (T : Txt K mg) : ASp := fun ds F ms Q _ => ∃ (k : Nat) (l : Addr) (st : List D) (z : Str), ds = [.ref l, .str z] ∧ ms[k]? = some (l, .lst st) ∧ St st ∧ z.length ≤ 100 ∧ z.cps.toList.Nodup ∧ (∀ c ∈ z.cps.toList, inL c) ∧
  ∀ st' F' ps, Ex F F' → St st' → ps.length ≤ 3 → (∀ c ∈ flat ps, c ∈ z.cps.toList) → (flat ps).Nodup → Q F' (ms.set k (l, .lst st')) (.tup (ps.map pD))
/-- plain data: no more than n deep -/
noncomputable def plainN : Nat → D → Prop
  | 0, d => d = .non ∨ (∃ b, d = .bl b) ∨ (∃ i, d = .int i) ∨ ∃ z, d = .str z
  | n + 1, d => (d = .non ∨ (∃ b, d = .bl b) ∨ (∃ i, d = .int i) ∨ ∃ z, d = .str z) ∨ ∃ ds, (d = .lst ds ∨ d = .tup ds) ∧ ds.length ≤ 10000 ∧ ∀ x ∈ ds, plainN n x
/-- an actual value that equals the expected one: the same data, an owned list, or a list of such -/
noncomputable def ActN (ms : Ms) : Nat → D → D → Prop
  | 0, a, d => a = d ∧ plainN 0 d
  | n + 1, a, d => (a = d ∧ plainN (n + 1) d) ∨ (∃ (m : Nat) (l : Addr) (ds : List D), a = .ref l ∧ d = .lst ds ∧ ms[m]? = some (l, .lst ds) ∧ plainN (n + 1) d) ∨ ∃ as ds : List D, a = .lst as ∧ d = .lst ds ∧ as.length = ds.length ∧ ds.length ≤ 10000 ∧ ∀ (i : Nat) (x y : D), as[i]? = some x → ds[i]? = some y → ActN ms n x y
noncomputable def sp__law_text (T : Txt K mg) : ASp := fun ds F ms Q _ => ∃ (k : Nat) (l : Addr) (st : List D) (w : Int) (z : Str), ds = [.ref l, .int w, .str z] ∧ ms[k]? = some (l, .lst st) ∧ St st ∧ 0 < w ∧ w ≤ 24 ∧ 0 < z.length ∧ z.length ≤ 100 ∧ (∀ c ∈ z.cps.toList, inL c) ∧
  ∀ st' F' (r : Str), Ex F F' → St st' → textOk w r → textZ z r → Q F' (ms.set k (l, .lst st')) (.str r)
noncomputable def sp__law_texts (T : Txt K mg) : ASp := fun ds F ms Q _ => ∃ (k : Nat) (l : Addr) (st : List D) (w : Int) (z : Str), ds = [.ref l, .int 5, .int w, .str z] ∧ ms[k]? = some (l, .lst st) ∧ St st ∧ 0 < w ∧ w ≤ 24 ∧ 0 < z.length ∧ z.length ≤ 100 ∧ (∀ c ∈ z.cps.toList, inL c) ∧
  ∀ st' F' (ts : List Str), Ex F F' → St st' → 1 ≤ ts.length → ts.length ≤ 5 → (∀ t ∈ ts, textOk w t) → (∀ t ∈ ts, textZ z t) → Q F' (ms.set k (l, .lst st')) (.tup (ts.map D.str))
noncomputable def sp_Sign_is_text (T : Txt K mg) : ASp := fun ds F ms Q _ => ∃ x w ps t, ds = [.ref x, .str t] ∧ Sgn T.c_Sign ms x w ps ∧ w ≤ 24 ∧ textOk w t ∧ ∀ F', Ex F F' → Q F' ms (.bl true)
noncomputable def sp_Sign_check_texts (T : Txt K mg) : ASp := fun ds F ms Q _ => ∃ x w ps ts, ds = [.ref x, .tup (List.map D.str ts)] ∧ Sgn T.c_Sign ms x w ps ∧ w ≤ 24 ∧ 1 ≤ ts.length ∧ ts.length ≤ 12 ∧ (∀ t ∈ ts, textOk w t) ∧ ∀ F', Ex F F' → Q F' ms .non
noncomputable def sp_Sign_is_letter (T : Txt K mg) : ASp := fun ds F ms Q _ => ∃ d : D, ds = [d] ∧ (d = .non ∨ (∃ b, d = .bl b) ∨ (∃ i, d = .int i) ∨ (∃ z, d = .str z ∧ z.length ≤ 1000) ∨ ∃ t, d = .tup t) ∧ Q F ms (.bl (isLet d))
noncomputable def sp_Sign_piece (T : Txt K mg) : ASp := fun ds F ms Q _ => ∃ x w ps c, ds = [.ref x, .str (sg c)] ∧ Sgn T.c_Sign ms x w ps ∧ Q F ms (.str (pieceS ps c))
noncomputable def okPs (ps : List Pr) : Prop := ∀ c ∈ flat ps, inL c
noncomputable def sp_letters_of (T : Txt K mg) : ASp := fun ds F ms Q _ => ∃ x w ps t, ds = [.ref x, .str t] ∧ Sgn T.c_Sign ms x w ps ∧ w ≤ 24 ∧ textOk w t ∧ ∀ F' l, Ex F F' → Q F' ((l, .dic (cntD (letF ps t.cps.toList))) :: ms) (.ref l)
noncomputable def sp_needed_letters (T : Txt K mg) : ASp := fun ds F ms Q _ => ∃ x w ps ts, ds = [.ref x, .tup (ts.map D.str)] ∧ Sgn T.c_Sign ms x w ps ∧ w ≤ 24 ∧ 1 ≤ ts.length ∧ ts.length ≤ 12 ∧ (∀ t ∈ ts, textOk w t) ∧ okPs ps ∧
  ∀ F' J l nd, Ex F F' → NeedOk ps ts nd → Q F' ((l, .dic (cntD nd)) :: (J ++ ms)) (.ref l)
noncomputable def sp_missing_letters (T : Txt K mg) : ASp := fun ds F ms Q _ => ∃ x w ps ts l st, ds = [.ref x, .tup (ts.map D.str), .ref l] ∧ Sgn T.c_Sign ms x w ps ∧ w ≤ 24 ∧ 1 ≤ ts.length ∧ ts.length ≤ 12 ∧ (∀ t ∈ ts, textOk w t) ∧ okPs ps ∧
  (∃ (n : Nat) (od : Obj) (vs : List (Key × V)), ms[n]? = some (l, .raw (.frz od (.dK vs))) ∧ RepK K F (cntD st) vs) ∧ okStock st ∧ ∀ F' J r nd, Ex F F' → NeedOk ps ts nd → Q F' ((r, .dic (cntD (missF ps nd st))) :: (J ++ ms)) (.ref r)
/-- the stock as it stands in the heap -/
noncomputable def stkV (sk : Cn) : List (Key × V) := sk.map fun p => (kS p.1, V.int p.2)
noncomputable def sp__law_stock (T : Txt K mg) : ASpH := fun ds F ms Q => ∃ (k : Nat) (l : Addr) (st : List D) (z : Str), ds = [.ref l, .str z] ∧ ms[k]? = some (l, .lst st) ∧ St st ∧ z.length ≤ 100 ∧ z.cps.toList.Nodup ∧ (∀ c ∈ z.cps.toList, inL c) ∧
  ∀ N st' F' a od (sk : Cn), Ex F F' → St st' → (sk.map (·.1)).Nodup → (∀ p ∈ sk, p.1 ∈ z.cps.toList ∧ 0 ≤ p.2 ∧ p.2 ≤ 4) → KeysO od N → Q N F' ((a, .raw (.frz od (.dK (stkV sk)))) :: ms.set k (l, .lst st')) (.ref a)
end
noncomputable def spLaw : ASp := fun ds F ms Q _ => ∃ ns : List Int, ds = [.rdl (ns.map D.int)] ∧ ns.length ≤ 63 ∧ ∀ F ms, Q F ms (.bl true)
noncomputable def sp_law {K : Frg} {mg : Str → Option Value} (T : Txt K mg) : ASp := spLaw
noncomputable abbrev OK_is_int_in (P : Program) (w : World) (base : Heap) {K : Frg} {mg : Str → Option Value} (T : Txt K mg) : Prop := FnOk P w K mg base CX0 1 T.a_is_int_in T.d_is_int_in ["value", "low", "high"] (toSp K (sp_is_int_in T))
noncomputable abbrev OK_is_pair (P : Program) (w : World) (base : Heap) {K : Frg} {mg : Str → Option Value} (T : Txt K mg) : Prop := FnOk P w K mg base CX0 1 T.a_is_pair T.d_is_pair ["value"] (toSp K (sp_is_pair T))
noncomputable abbrev OK_Sign___init__ (P : Program) (w : World) (base : Heap) {K : Frg} {mg : Str → Option Value} (T : Txt K mg) : Prop := FnOk P w K mg base CX0 2 T.a_Sign___init__ T.d_Sign___init__ ["self", "width", "pairs"] (toSp K (sp_Sign___init__ T))
noncomputable abbrev OK_Sign_is_letter (P : Program) (w : World) (base : Heap) {K : Frg} {mg : Str → Option Value} (T : Txt K mg) : Prop := FnOk P w K mg base CX0 1 T.a_Sign_is_letter T.d_Sign_is_letter ["value"] (toSp K (sp_Sign_is_letter T))
noncomputable abbrev OK_Sign_piece (P : Program) (w : World) (base : Heap) {K : Frg} {mg : Str → Option Value} (T : Txt K mg) : Prop := FnOk P w K mg base CX0 1 T.a_Sign_piece T.d_Sign_piece ["self", "letter"] (toSp K (sp_Sign_piece T))
noncomputable abbrev OK_Sign_is_text (P : Program) (w : World) (base : Heap) {K : Frg} {mg : Str → Option Value} (T : Txt K mg) : Prop := FnOk P w K mg base CX0 1 T.a_Sign_is_text T.d_Sign_is_text ["self", "value"] (toSp K (sp_Sign_is_text T))
noncomputable abbrev OK_Sign_check_texts (P : Program) (w : World) (base : Heap) {K : Frg} {mg : Str → Option Value} (T : Txt K mg) : Prop := FnOk P w K mg base CX0 2 T.a_Sign_check_texts T.d_Sign_check_texts ["self", "texts"] (toSp K (sp_Sign_check_texts T))
noncomputable abbrev OK_letters_of (P : Program) (w : World) (base : Heap) {K : Frg} {mg : Str → Option Value} (T : Txt K mg) : Prop := FnOk P w K mg base CX0 2 T.a_letters_of T.d_letters_of ["sign", "text"] (toSp K (sp_letters_of T))
noncomputable abbrev OK_needed_letters (P : Program) (w : World) (base : Heap) {K : Frg} {mg : Str → Option Value} (T : Txt K mg) : Prop := FnOk P w K mg base CX0 3 T.a_needed_letters T.d_needed_letters ["sign", "texts"] (toSp K (sp_needed_letters T))
noncomputable abbrev OK_missing_letters (P : Program) (w : World) (base : Heap) {K : Frg} {mg : Str → Option Value} (T : Txt K mg) : Prop := FnOk P w K mg base CX0 4 T.a_missing_letters T.d_missing_letters ["sign", "texts", "stock"] (toSp K (sp_missing_letters T))
noncomputable abbrev OK__law_random (P : Program) (w : World) (base : Heap) {K : Frg} {mg : Str → Option Value} (T : Txt K mg) : Prop := FnOk P w K mg base CX0 1 T.a__law_random T.d__law_random ["_law_script", "_law_salt"] (toSp K (sp__law_random T))
noncomputable abbrev OK__law_below (P : Program) (w : World) (base : Heap) {K : Frg} {mg : Str → Option Value} (T : Txt K mg) : Prop := FnOk P w K mg base CX0 1 T.a__law_below T.d__law_below ["_law_d", "_law_limit"] (toSp K (sp__law_below T))
noncomputable abbrev OK__law_shuffled (P : Program) (w : World) (base : Heap) {K : Frg} {mg : Str → Option Value} (T : Txt K mg) : Prop := FnOk P w K mg base CX0 2 T.a__law_shuffled T.d__law_shuffled ["_law_d", "_law_items"] (toSp K (sp__law_shuffled T))
noncomputable abbrev OK__law_pairs (P : Program) (w : World) (base : Heap) {K : Frg} {mg : Str → Option Value} (T : Txt K mg) : Prop := FnOk P w K mg base CX0 3 T.a__law_pairs T.d__law_pairs ["_law_d", "_law_letters"] (toSp K (sp__law_pairs T))
noncomputable abbrev OK__law_text (P : Program) (w : World) (base : Heap) {K : Frg} {mg : Str → Option Value} (T : Txt K mg) : Prop := FnOk P w K mg base CX0 2 T.a__law_text T.d__law_text ["_law_d", "_law_most", "_law_letters"] (toSp K (sp__law_text T))
noncomputable abbrev OK__law_texts (P : Program) (w : World) (base : Heap) {K : Frg} {mg : Str → Option Value} (T : Txt K mg) : Prop := FnOk P w K mg base CX0 3 T.a__law_texts T.d__law_texts ["_law_d", "_law_most", "_law_width", "_law_letters"] (toSp K (sp__law_texts T))
noncomputable abbrev OK__law_stock (P : Program) (w : World) (base : Heap) {K : Frg} {mg : Str → Option Value} (T : Txt K mg) : Prop := FnOkH P w K mg base 2 T.a__law_stock T.d__law_stock ["_law_d", "_law_letters"] (toSpH K (sp__law_stock T))
noncomputable abbrev OK_law (P : Program) (w : World) (base : Heap) {K : Frg} {mg : Str → Option Value} (T : Txt K mg) : Prop := FnOk P w K mg base CX0 6 T.a_law T.d_law ["_law_script"] (toSp K (sp_law T))
end K38


namespace K38
open PySem PySem.Spec L2 PyProof.Rows AL
local macro_rules | `(tactic| walk_at "isi") => `(tactic| with_reducible refine isi_dic_dict ?_)
local macro_rules | `(tactic| walk_at "isi") => `(tactic| with_reducible refine isi_dic_list ?_)
local macro_rules | `(tactic| walk_at "isi") => `(tactic| with_reducible refine isi_dic_tuple ?_)
local macro_rules | `(tactic| walk_at "isi") => `(tactic| with_reducible refine isi_dic_str ?_)
local macro_rules | `(tactic| walk_at "isi") => `(tactic| with_reducible refine isi_dic_int ?_)
local macro_rules | `(tactic| walk_at "isi") => `(tactic| with_reducible refine isi_dic_bool ?_)
local macro_rules | `(tactic| walk_at "isi") => `(tactic| with_reducible refine isi_lst_dict ?_)
local macro_rules | `(tactic| walk_at "isi") => `(tactic| with_reducible refine isi_lst_list ?_)
local macro_rules | `(tactic| walk_at "isi") => `(tactic| with_reducible refine isi_lst_tuple ?_)
local macro_rules | `(tactic| walk_at "isi") => `(tactic| with_reducible refine isi_lst_str ?_)
local macro_rules | `(tactic| walk_at "isi") => `(tactic| with_reducible refine isi_lst_int ?_)
local macro_rules | `(tactic| walk_at "isi") => `(tactic| with_reducible refine isi_lst_bool ?_)
local macro_rules | `(tactic| walk_at "isi") => `(tactic| with_reducible refine isi_tup_dict ?_)
local macro_rules | `(tactic| walk_at "isi") => `(tactic| with_reducible refine isi_tup_list ?_)
local macro_rules | `(tactic| walk_at "isi") => `(tactic| with_reducible refine isi_tup_tuple ?_)
local macro_rules | `(tactic| walk_at "isi") => `(tactic| with_reducible refine isi_tup_str ?_)
local macro_rules | `(tactic| walk_at "isi") => `(tactic| with_reducible refine isi_tup_int ?_)
local macro_rules | `(tactic| walk_at "isi") => `(tactic| with_reducible refine isi_tup_bool ?_)
local macro_rules | `(tactic| walk_at "isi") => `(tactic| with_reducible refine isi_str_dict ?_)
local macro_rules | `(tactic| walk_at "isi") => `(tactic| with_reducible refine isi_str_list ?_)
local macro_rules | `(tactic| walk_at "isi") => `(tactic| with_reducible refine isi_str_tuple ?_)
local macro_rules | `(tactic| walk_at "isi") => `(tactic| with_reducible refine isi_str_str ?_)
local macro_rules | `(tactic| walk_at "isi") => `(tactic| with_reducible refine isi_str_int ?_)
local macro_rules | `(tactic| walk_at "isi") => `(tactic| with_reducible refine isi_str_bool ?_)
local macro_rules | `(tactic| walk_at "isi") => `(tactic| with_reducible refine isi_int_dict ?_)
local macro_rules | `(tactic| walk_at "isi") => `(tactic| with_reducible refine isi_int_list ?_)
local macro_rules | `(tactic| walk_at "isi") => `(tactic| with_reducible refine isi_int_tuple ?_)
local macro_rules | `(tactic| walk_at "isi") => `(tactic| with_reducible refine isi_int_str ?_)
local macro_rules | `(tactic| walk_at "isi") => `(tactic| with_reducible refine isi_int_int ?_)
local macro_rules | `(tactic| walk_at "isi") => `(tactic| with_reducible refine isi_int_bool ?_)
local macro_rules | `(tactic| walk_at "isi") => `(tactic| with_reducible refine isi_bl_dict ?_)
local macro_rules | `(tactic| walk_at "isi") => `(tactic| with_reducible refine isi_bl_list ?_)
local macro_rules | `(tactic| walk_at "isi") => `(tactic| with_reducible refine isi_bl_tuple ?_)
local macro_rules | `(tactic| walk_at "isi") => `(tactic| with_reducible refine isi_bl_str ?_)
local macro_rules | `(tactic| walk_at "isi") => `(tactic| with_reducible refine isi_bl_int ?_)
local macro_rules | `(tactic| walk_at "isi") => `(tactic| with_reducible refine isi_bl_bool ?_)
local macro_rules | `(tactic| walk_at "isi") => `(tactic| with_reducible refine isi_non_dict ?_)
local macro_rules | `(tactic| walk_at "isi") => `(tactic| with_reducible refine isi_non_list ?_)
local macro_rules | `(tactic| walk_at "isi") => `(tactic| with_reducible refine isi_non_tuple ?_)
local macro_rules | `(tactic| walk_at "isi") => `(tactic| with_reducible refine isi_non_str ?_)
local macro_rules | `(tactic| walk_at "isi") => `(tactic| with_reducible refine isi_non_int ?_)
local macro_rules | `(tactic| walk_at "isi") => `(tactic| with_reducible refine isi_non_bool ?_)
local macro_rules | `(tactic| walk_at "al1") => `(tactic| walk_at "isi")
local macro_rules | `(tactic| walk_at "al1") => `(tactic| with_reducible refine ac_minS ?_)
local macro_rules | `(tactic| walk_at "al1") => `(tactic| with_reducible refine ac_maxI ?_)
local macro_rules | `(tactic| walk_at "al1") => `(tactic| with_reducible refine ac_minI ?_)
local macro_rules | `(tactic| walk_at "al1") => `(tactic| with_reducible refine ac_lenR ?_)
local macro_rules | `(tactic| walk_at "al1") => `(tactic| with_reducible refine ac_lenT ?_)
local macro_rules | `(tactic| walk_at "al1") => `(tactic| with_reducible refine ac_lenL ?_)
local macro_rules | `(tactic| walk_at "al1") => `(tactic| with_reducible refine ac_abs ?_)
local macro_rules | `(tactic| walk_at "al1") => `(tactic| with_reducible refine ar_NOTINs ?_)
local macro_rules | `(tactic| walk_at "al1") => `(tactic| with_reducible refine ar_INs ?_)
local macro_rules | `(tactic| walk_at "al1") => `(tactic| with_reducible refine notN_ref ?_)
local macro_rules | `(tactic| walk_at "al1") => `(tactic| with_reducible refine notN_lst ?_)
local macro_rules | `(tactic| walk_at "al1") => `(tactic| with_reducible refine notN_tup ?_)
local macro_rules | `(tactic| walk_at "al1") => `(tactic| with_reducible refine notN_str ?_)
local macro_rules | `(tactic| walk_at "al1") => `(tactic| with_reducible refine notN_int ?_)
local macro_rules | `(tactic| walk_at "al1") => `(tactic| with_reducible refine notN_bl ?_)
local macro_rules | `(tactic| walk_at "al1") => `(tactic| with_reducible refine notN_non ?_)
local macro_rules | `(tactic| walk_at "al1") => `(tactic| with_reducible refine isN_ref ?_)
local macro_rules | `(tactic| walk_at "al1") => `(tactic| with_reducible refine isN_lst ?_)
local macro_rules | `(tactic| walk_at "al1") => `(tactic| with_reducible refine isN_tup ?_)
local macro_rules | `(tactic| walk_at "al1") => `(tactic| with_reducible refine isN_str ?_)
local macro_rules | `(tactic| walk_at "al1") => `(tactic| with_reducible refine isN_int ?_)
local macro_rules | `(tactic| walk_at "al1") => `(tactic| with_reducible refine isN_bl ?_)
local macro_rules | `(tactic| walk_at "al1") => `(tactic| with_reducible refine isN_non ?_)
local macro_rules | `(tactic| walk_at "al1") => `(tactic| with_reducible refine ar_NEb ?_)
local macro_rules | `(tactic| walk_at "al1") => `(tactic| with_reducible refine ar_NEs ?_)
local macro_rules | `(tactic| walk_at "al1") => `(tactic| with_reducible refine ar_NEi ?_)
local macro_rules | `(tactic| walk_at "al1") => `(tactic| with_reducible refine ar_EQb ?_)
local macro_rules | `(tactic| walk_at "al1") => `(tactic| with_reducible refine ar_EQs ?_)
local macro_rules | `(tactic| walk_at "al1") => `(tactic| with_reducible refine ar_EQi ?_)
local macro_rules | `(tactic| walk_at "al1") => `(tactic| with_reducible refine ar_geI ?_)
local macro_rules | `(tactic| walk_at "al1") => `(tactic| with_reducible refine ar_gtI ?_)
local macro_rules | `(tactic| walk_at "al1") => `(tactic| with_reducible refine ar_leI ?_)
local macro_rules | `(tactic| walk_at "al1") => `(tactic| with_reducible refine ar_ltI ?_)
local macro_rules | `(tactic| walk_at "al1") => `(tactic| with_reducible refine ar_SUB ?_)
local macro_rules | `(tactic| walk_at "al1") => `(tactic| with_reducible refine ar_ADDi ?_)
local macro_rules | `(tactic| walk_at "al1") => `(tactic| with_reducible refine and_nF' ?_)
local macro_rules | `(tactic| walk_at "al1") => `(tactic| with_reducible refine and_nT' ?_)
local macro_rules | `(tactic| walk_at "al1") => `(tactic| with_reducible refine and_nF ?_)
local macro_rules | `(tactic| walk_at "al1") => `(tactic| with_reducible refine and_nT ?_)
local macro_rules | `(tactic| walk_at "al1") => `(tactic| with_reducible refine and_F' ?_)
local macro_rules | `(tactic| walk_at "al1") => `(tactic| with_reducible refine and_T' ?_)
local macro_rules | `(tactic| walk_at "al1") => `(tactic| with_reducible refine and_F ?_)
local macro_rules | `(tactic| walk_at "al1") => `(tactic| with_reducible refine and_T ?_)
local macro_rules | `(tactic| walk_at "al1") => `(tactic| with_reducible refine ex_par ?_)
local macro_rules | `(tactic| walk_at "al1") => `(tactic| with_reducible refine ex_str ?_)
local macro_rules | `(tactic| walk_at "al1") => `(tactic| with_reducible refine ex_int ?_)
local macro_rules | `(tactic| walk_at "al1") => `(tactic| with_reducible refine ex_bl ?_)
local macro_rules | `(tactic| walk_at "al1") => `(tactic| with_reducible refine at_yes ?_)
local macro_rules | `(tactic| walk_at "al1") => `(tactic| with_reducible refine at_not ?_)
local macro_rules | `(tactic| walk_at "al1") => `(tactic| with_reducible refine at_or ?_)
local macro_rules | `(tactic| walk_at "al1") => `(tactic| with_reducible refine at_and ?_)
local macro_rules | `(tactic| walk_at "al1") => `(tactic| with_reducible refine at_B ?_)
local macro_rules | `(tactic| walk_at "al1") => `(tactic| with_reducible refine at_test ?_)
local macro_rules | `(tactic| walk_at "al1") => `(tactic| with_reducible refine aa_nil ?_)
local macro_rules | `(tactic| walk_at "al1") => `(tactic| with_reducible refine aa_cons ?_)
local macro_rules | `(tactic| walk_at "al1") => `(tactic| with_reducible refine ae_if ?_)
local macro_rules | `(tactic| walk_at "al1") => `(tactic| with_reducible refine ae_chain ?_)
local macro_rules | `(tactic| walk_at "al1") => `(tactic| with_reducible refine ae_orV ?_)
local macro_rules | `(tactic| walk_at "al1") => `(tactic| with_reducible refine ae_andV ?_)
local macro_rules | `(tactic| walk_at "al1") => `(tactic| with_reducible refine ae_notV ?_)
local macro_rules | `(tactic| walk_at "al1") => `(tactic| with_reducible refine ae_call ?_)
local macro_rules | `(tactic| walk_at "al1") => `(tactic| with_reducible refine ae_call1 ?_)
local macro_rules | `(tactic| walk_at "al1") => `(tactic| with_reducible refine ae_op ?_)
local macro_rules | `(tactic| walk_at "al1") => `(tactic| with_reducible refine ae_ref ?_)
local macro_rules | `(tactic| walk_at "al1") => `(tactic| with_reducible refine ae_ty ?_)
local macro_rules | `(tactic| walk_at "al1") => `(tactic| with_reducible refine ae_non ?_)
local macro_rules | `(tactic| walk_at "al1") => `(tactic| with_reducible refine ae_str ?_)
local macro_rules | `(tactic| walk_at "al1") => `(tactic| with_reducible refine ae_bl ?_)
local macro_rules | `(tactic| walk_at "al1") => `(tactic| with_reducible refine ae_int ?_)
local macro_rules | `(tactic| walk_at "al1") => `(tactic| ((with_reducible refine' ae_var ?_ ?_); rotate_left; exact rfl))
local macro_rules | `(tactic| walk_at "al1") => `(tactic| with_reducible refine as_par ?_)
local macro_rules | `(tactic| walk_at "al1") => `(tactic| with_reducible refine as_cont ?_)
local macro_rules | `(tactic| walk_at "al1") => `(tactic| with_reducible refine as_break ?_)
local macro_rules | `(tactic| walk_at "al1") => `(tactic| with_reducible refine as_next ?_)
local macro_rules | `(tactic| walk_at "al1") => `(tactic| with_reducible refine as_asg ?_)
local macro_rules | `(tactic| walk_at "al1") => `(tactic| with_reducible refine as_drop ?_)
local macro_rules | `(tactic| walk_at "al1") => `(tactic| with_reducible refine as_if ?_)
local macro_rules | `(tactic| walk_at "al1") => `(tactic| with_reducible refine as_retN ?_)
local macro_rules | `(tactic| walk_at "al1") => `(tactic| with_reducible refine as_ret ?_)
local macro_rules | `(tactic| walk_at "al1") => `(tactic| with_reducible refine as_seq ?_)
local macro_rules | `(tactic| walk_at "al") => `(tactic| repeat walk_at "al1")

theorem valD_cons (k' k : Key) (d : D) (l : List (Key × D)) : valD ((k', d) :: l) k = if k' = k then some d else valD l k := by
  unfold valD
  rw [List.find?_cons]
  by_cases h : k' = k
  · simp [h]
  · simp [h]
theorem kS_inj {a b : Nat} : kS a = kS b ↔ b = a := ⟨fun z => by simpa [kS, sg] using z.symm, fun z => by rw [z]⟩
theorem val_kvs (ps : List Pr) (c : Nat) : valD (kvsOf ps) (kS c) = (ps.find? fun p => c = p.1 ∨ c = p.2).map fun p => .str (sg (if c = p.1 then p.2 else p.1)) := by
  induction ps with
  | nil => rfl
  | cons p ps ih =>
    rw [kvsOf, valD_cons, valD_cons, ih, List.find?_cons]
    by_cases h1 : c = p.1
    · rw [if_pos (kS_inj.mpr h1)]
      simp [h1]
    · rw [if_neg (fun z => h1 (kS_inj.mp z))]
      by_cases h2 : c = p.2
      · rw [if_pos (kS_inj.mpr h2)]
        have h3 : ¬ p.2 = p.1 := fun z => h1 (h2.trans z)
        simp [h2, h3]
      · rw [if_neg (fun z => h2 (kS_inj.mp z))]
        simp [h1, h2]
theorem chars_at {z : Str} {i : Nat} {d : D} (h : (charsD z)[i]? = some d) : ∃ c, z.cps.toList[i]? = some c ∧ d = .str (sg c) := by
  unfold charsD at h
  rw [List.getElem?_map] at h
  cases e : z.cps.toList[i]? with
  | none => rw [e] at h; cases h
  | some c => rw [e] at h; exact ⟨c, rfl, (Option.some.inj h).symm⟩
theorem chars_len (z : Str) : (charsD z).length = z.length := by unfold charsD; rw [List.length_map]; rfl
theorem enum_at {ds : List D} {i : Nat} {d : D} (h : (enumD ds)[i]? = some d) : ∃ e, ds[i]? = some e ∧ d = .tup [.int (i : Nat), e] := by
  unfold enumD at h
  rw [List.getElem?_map, List.getElem?_zipIdx] at h
  cases e : ds[i]? with
  | none => rw [e] at h; cases h
  | some c => rw [e] at h; exact ⟨c, rfl, by simpa using (Option.some.inj h).symm⟩
theorem enum_len (ds : List D) : (enumD ds).length = ds.length := by unfold enumD; rw [List.length_map, List.length_zipIdx]
theorem pairs_at {ps : List Pr} {n : Nat} {d : D} (h : (ps.map pD)[n]? = some d) : ∃ p, ps[n]? = some p ∧ d = pD p := by
  rw [List.getElem?_map] at h
  cases e : ps[n]? with
  | none => rw [e] at h; cases h
  | some p => rw [e] at h; exact ⟨p, rfl, (Option.some.inj h).symm⟩
theorem and_oF {α : Type} {o : Option α} {A B : Prop} (hp : o = none) (h : B) : (o.isSome = true → A) ∧ (o.isSome = false → B) := by subst hp; exact and_F h
theorem and_oF' {α : Type} {o : Option α} {A B : Prop} (hp : o = none) (h : B) : (o.isSome = false → B) ∧ (o.isSome = true → A) := by subst hp; exact and_F' h
theorem putKD_new {kvs : List (Key × D)} {k : Key} {d : D} (h : valD kvs k = none) : putKD kvs k d = kvs ++ [(k, d)] := by
  unfold putKD
  rw [if_neg]
  unfold valD at h
  rw [Option.map_eq_none_iff, List.find?_eq_none] at h
  intro z
  rw [List.any_eq_true] at z
  obtain ⟨x, hx, e⟩ := z
  exact h x hx e
theorem val_none {ps : List Pr} {c : Nat} (h : c ∉ flat ps) : valD (kvsOf ps) (kS c) = none := by
  rw [val_kvs, Option.map_eq_none_iff, List.find?_eq_none]
  intro p hp z
  simp only [decide_eq_true_eq] at z
  refine h (List.mem_flatMap.mpr ⟨p, hp, ?_⟩)
  rcases z with z | z <;> simp [z]
theorem valD_app {a b : List (Key × D)} {k : Key} (h : valD a k = none) : valD (a ++ b) k = valD b k := by
  unfold valD at *
  rw [Option.map_eq_none_iff] at h
  rw [List.find?_append, h]
  rfl
theorem kvs_app (a : List Pr) (p : Pr) : kvsOf (a ++ [p]) = kvsOf a ++ [(kS p.1, .str (sg p.2)), (kS p.2, .str (sg p.1))] := by
  induction a with
  | nil => rfl
  | cons q a ih => rw [List.cons_append, kvsOf, ih, kvsOf]; rfl
theorem flat_split {ps : List Pr} {i : Nat} {p : Pr} (h : ps[i]? = some p) : flat ps = flat (ps.take i) ++ (p.1 :: p.2 :: flat (ps.drop (i + 1))) := by
  have hi := (List.getElem?_eq_some_iff.mp h)
  obtain ⟨hi, e⟩ := hi
  have : ps = ps.take i ++ p :: ps.drop (i + 1) := by
    rw [← e, List.getElem_cons_drop, List.take_append_drop]
  conv => lhs; rw [this]
  unfold flat
  rw [List.flatMap_append, List.flatMap_cons]
  rfl
theorem flat_new {ps : List Pr} {i : Nat} {p : Pr} (h : ps[i]? = some p) (nd : (flat ps).Nodup) : p.1 ∉ flat (ps.take i) ∧ p.2 ∉ flat (ps.take i) ∧ p.1 ≠ p.2 := by
  rw [flat_split h] at nd
  have h1 := List.nodup_append.mp nd
  refine ⟨fun z => h1.2.2 _ z _ (by simp) rfl, fun z => h1.2.2 _ z _ (by simp) rfl, fun z => ?_⟩
  have := h1.2.1
  rw [z] at this
  simp at this
theorem flat_mem {ps : List Pr} {i : Nat} {p : Pr} (h : ps[i]? = some p) : p.1 ∈ flat ps ∧ p.2 ∈ flat ps := by
  rw [flat_split h]
  simp
theorem putD_len (f : Str) (d : D) : ∀ fs : List (Str × D), (putD f d fs).length ≤ fs.length + 1
  | [] => Nat.le_refl _
  | (g, e) :: fs => by
    unfold putD
    split
    · simp
    · simp [putD_len f d fs]
theorem kvs_len (ps : List Pr) : (kvsOf ps).length = 2 * ps.length := by
  induction ps with
  | nil => rfl
  | cons p ps ih => rw [kvsOf, List.length_cons, List.length_cons, ih, List.length_cons]; omega
theorem eqv_nil (ds : List D) : eqvD (.lst ds) (.lst []) = ds.isEmpty := by
  cases ds with
  | nil => rfl
  | cons d ds => simp [eqvD, toPy, toPyL, PyData.eqv, PyData.eqvAll]
theorem chr_ok {xs : List D} (h : ∀ x ∈ xs, ∃ c, x = .str (sg c) ∧ c < 128) : okL xs = true ∧ depL xs = 0 := by
  induction xs with
  | nil => exact ⟨rfl, rfl⟩
  | cons x xs ih =>
    obtain ⟨c, rfl, hc⟩ := h x (List.mem_cons_self ..)
    obtain ⟨i1, i2⟩ := ih fun y hy => h y (List.mem_cons_of_mem _ hy)
    have e : okD (.str (sg c)) = true := by
      unfold okD PyData.strOk sg
      simp
      omega
    refine ⟨?_, ?_⟩
    · unfold okL; rw [e, i1]; rfl
    · unfold depL; rw [i2]; rfl
theorem inL_lt {c : Nat} (h : inL c) : c < 128 := by
  have : (LET.cps.toList.all fun c => decide (c < 128)) = true := by decide +kernel
  exact of_decide_eq_true (List.all_eq_true.mp this c h)
theorem perm_chars {ys : List D} {z : Str} (h : ys.Perm (charsD z)) : ∃ cs : List Nat, ys = cs.map (fun c => .str (sg c)) ∧ cs.Perm z.cps.toList := by
  have hall : ∀ y ∈ ys, ∃ c, y = D.str (sg c) := fun y hy => by
    obtain ⟨c, _, hc⟩ := List.mem_map.mp (h.mem_iff.mp hy)
    exact ⟨c, hc.symm⟩
  obtain ⟨cs, rfl⟩ : ∃ cs : List Nat, ys = cs.map (fun c => .str (sg c)) := by
    clear h
    induction ys with
    | nil => exact ⟨[], rfl⟩
    | cons y ys ih =>
      obtain ⟨c, rfl⟩ := hall y (List.mem_cons_self ..)
      obtain ⟨cs, rfl⟩ := ih fun z hz => hall z (List.mem_cons_of_mem _ hz)
      exact ⟨c :: cs, rfl⟩
  refine ⟨cs, rfl, ?_⟩
  have h2 := h.map (fun d => match d with
    | .str s => s.cps.toList.headD 0
    | _ => 0)
  unfold charsD at h2
  rw [List.map_map, List.map_map] at h2
  have hid : ((fun d => match d with
    | .str s => s.cps.toList.headD 0
    | _ => 0) ∘ fun c => D.str (sg c)) = (id : Nat → Nat) := rfl
  rw [hid, List.map_id, List.map_id] at h2
  exact h2
theorem range_at {lo : Int} {n i : Nat} {d : D} (h : (rangeD lo n)[i]? = some d) : i < n ∧ d = .int (lo + (i : Nat)) := by
  unfold rangeD at h
  rw [List.getElem?_map] at h
  cases e : (List.range n)[i]? with
  | none => rw [e] at h; cases h
  | some j =>
    rw [e] at h
    have h1 := List.getElem?_eq_some_iff.mp e
    obtain ⟨h1, h2⟩ := h1
    rw [List.length_range] at h1
    rw [List.getElem_range] at h2
    subst h2
    exact ⟨h1, (Option.some.inj h).symm⟩
theorem range_len {lo : Int} {n : Nat} : (rangeD lo n).length = n := by unfold rangeD; rw [List.length_map, List.length_range]
theorem cut_len {z : Str} (h : 2 ≤ z.length) : (cutS z (some 1) (some (-1))).length + 2 = z.length := by
  have e1 : HT.sIx z.length 0 (some 1) = 1 := by
    show (if (1 : Int) < 0 then ((1 : Int) + (z.length : Int)).toNat else min (1 : Int).toNat z.length) = 1
    rw [if_neg (by decide)]
    show min 1 z.length = 1
    omega
  have e2 : HT.sIx z.length z.length (some (-1)) = z.length - 1 := by
    show (if (-1 : Int) < 0 then (-1 + (z.length : Int)).toNat else min (-1 : Int).toNat z.length) = _
    rw [if_pos (by decide)]
    omega
  unfold cutS
  rw [e1, e2]
  have e4 : ∀ l : List Nat, (⟨l.toArray⟩ : Str).length = l.length := fun l => List.size_toArray ..
  have e3 : z.cps.toList.length = z.length := rfl
  rw [e4, List.length_take, List.length_drop, e3]
  omega
theorem sign_mem {z : Str} {n : Int} {c : Nat} (h : c ∈ (z ++ mulS sp1 n).cps.toList) : c = 32 ∨ c ∈ z.cps.toList := by
  have e : (z ++ mulS sp1 n).cps.toList = z.cps.toList ++ (mulS sp1 n).cps.toList := Array.toList_append
  rw [e] at h
  rcases List.mem_append.mp h with h | h
  · exact .inr h
  · left
    have : (mulS sp1 n).cps.toList = (List.replicate n.toNat [32]).flatten := rfl
    rw [this] at h
    obtain ⟨l, hl, hc⟩ := List.mem_flatten.mp h
    rw [List.eq_of_mem_replicate hl] at hc
    exact List.mem_singleton.mp hc
theorem sum_ones : ∀ r : List Nat, (r.map ((fun s : Str => s.length) ∘ sg)).sum = r.length
  | [] => rfl
  | c :: r => by rw [List.map_cons, List.sum_cons, sum_ones r, List.length_cons]; show 1 + r.length = _; omega
theorem join_sg0 : ∀ r : List Nat, (Str.join (Str.ofString "") (r.map sg)).cps.toList = r
  | [] => rfl
  | [c] => rfl
  | c :: d :: r => by
    have e : Str.join (Str.ofString "") ((c :: d :: r).map sg) = sg c ++ Str.ofString "" ++ Str.join (Str.ofString "") ((d :: r).map sg) := rfl
    have e2 : ∀ a b : Str, (a ++ b).cps.toList = a.cps.toList ++ b.cps.toList := fun a b => Array.toList_append
    rw [e, e2, e2, join_sg0 (d :: r)]
    rfl
theorem join_sg (r : List Nat) : Txt.join (Str.ofString "") (r.map sg) = ⟨r.toArray⟩ := by
  have e := join_sg0 r
  show Builtin.Str.glued (PySem.Str.ofString "") (r.map sg) = _
  rw [StrLaws.glued_eq_join]
  cases h : Str.join (Str.ofString "") (r.map sg) with
  | mk a =>
    rw [h] at e
    rw [← e]
theorem erase_perm {α : Type} : ∀ {l : List α} {j : Nat} (hj : j < l.length), ([l[j]] ++ l.eraseIdx j).Perm l
  | a :: l, 0, _ => List.Perm.refl _
  | a :: l, j + 1, hj => by
    have ih := erase_perm (l := l) (j := j) (by simpa using hj)
    have hj' : j < l.length := by simpa using hj
    show (l[j]'hj' :: a :: l.eraseIdx j).Perm (a :: l)
    exact (List.Perm.swap a _ _).trans (List.Perm.cons a ih)
theorem rep_map (n : Nat) : List.replicate n (D.bl true) = (List.replicate n true).map D.bl := by rw [List.map_replicate]
theorem all_rep (n : Nat) : (List.replicate n true).all id = true := by
  rw [List.all_eq_true]
  intro x hx
  exact List.eq_of_mem_replicate hx
theorem Sgn.cons {C : Addr} {ms : Ms} {x : Addr} {w : Int} {ps : List Pr} {p : Addr × MO} : Sgn C ms x w ps → Sgn C (p :: ms) x w ps := fun ⟨i, j, m, h1, h2⟩ => ⟨i + 1, j + 1, m, h1, h2⟩
noncomputable def okZ (z : Str) : Prop := z.cps.toList.Nodup ∧ (∀ c ∈ z.cps.toList, inL c) ∧ 0 < z.length ∧ z.length ≤ 100
noncomputable def ZS : List D := [.str "ABCDMW", .str "ABCDEFGHIJ6789", .str "0Z9A"]
section
variable {P : Program} {w : World} {K : Frg} {mg : Str → Option Value} {base : Heap}
theorem ok_is_int_in (T : Txt K mg) : OK_is_int_in P w base T := by
  refine fn_ok T.F_is_int_in sc_is_int_in (by rintro _ _ _ _ _ (⟨v, lo, hi, rfl, _⟩ | ⟨v, lo, hi, rfl, _⟩) <;> rfl) (fun cdv A outer s H E hr => ?_)
  have hu64 := hr.units
  refine ⟨_, (pss_one (ps_ret (pe_and (pe_callB (kISI (K := K) rfl) (by rfl) T.g_isinstance boot_isinstance (pa_cons (pv 0) (pa_cons (pe_bltn (v := .ty "int") (by rfl) T.g_int boot_int rfl) pa_nil))) (pe_and (pe_not (pe_callB (kISI (K := K) rfl) (by rfl) T.g_isinstance boot_isinstance (pa_cons (pv 0) (pa_cons (pe_bltn (v := .ty "bool") (by rfl) T.g_bool boot_bool rfl) pa_nil)))) (pe_one (pe_chain op_le op_le (pv 1) (pv 0) (pv 2))))))), ?_⟩
  rintro _ F ms Q Ea (⟨v, lo, hi, rfl, q⟩ | ⟨d, lo, hi, rfl, hd, q⟩)
  · walk_at "al"
    by_cases h : lo ≤ v
    · refine ⟨fun _ => ?_, fun z => by simp [h] at z⟩
      walk_at "al"
      simpa [h] using q
    · refine ⟨fun z => by simp [h] at z, fun _ => ?_⟩
      walk_at "al"
      simpa [h] using q
  · rcases hd with rfl | ⟨b, rfl⟩
    · walk_at "al"
      exact q
    · walk_at "al"
      exact q
theorem ok_is_pair (T : Txt K mg) : OK_is_pair P w base T := by
  refine fn_ok T.F_is_pair sc_is_pair (by rintro _ _ _ _ _ ⟨v, rfl, _⟩; rfl) (fun cdv A outer s H E hr => ?_)
  have hu64 := hr.units
  refine ⟨_, (pss_cons (ps_if ((pw_or (pt_not (pt_val (pe_callB (kISI (K := K) rfl) (by rfl) T.g_isinstance boot_isinstance (pa_cons (pv 0) (pa_cons (pe_bltn (v := .ty "str") (by rfl) T.g_str boot_str rfl) pa_nil))))) (pw_or (pt_cmpR (kNE (K := K) rfl hu64) (pe_callB (kLEN (K := K) rfl) (by rfl) T.g_len boot_len (pa_cons (pv 0) pa_nil)) pe_int (nomark _)) (pw_or1 (pt_cmpR (kEQ (K := K) rfl hu64) (pe_ix (kIX (K := K) rfl) (pv 0) pe_int (fun _ _ => rfl)) (pe_ix (kIX (K := K) rfl) (pv 0) pe_int (fun _ _ => rfl)) (nomark _)))))).pt (pss_one (ps_ret pe_bl)) pss_nil)
      (pss_one (ps_ret (pe_and (pe_cmpR (kIN (K := K) rfl) (pe_ix (kIX (K := K) rfl) (pv 0) pe_int (fun _ _ => rfl)) (pe_glob (by rfl) T.m_LETTERS T.r_LETTERS) (by with_unfolding_all rfl)) (pe_one (pe_cmpR (kIN (K := K) rfl) (pe_ix (kIX (K := K) rfl) (pv 0) pe_int (fun _ _ => rfl)) (pe_glob (by rfl) T.m_LETTERS T.r_LETTERS) (by with_unfolding_all rfl))))))), ?_⟩
  rintro _ F ms Q Ea ⟨p, rfl, h1, h2, h3, q⟩
  have e1 : decide (((pS p).length : Int) = 2) = true := decide_eq_true rfl
  have e2 : decide (sg p.1 = sg p.2) = false := decide_eq_false fun z => h1 (by simpa [sg] using z)
  show AS _ _ _ _ [some (.str (pS p))] _
  walk_at "al"
  refine ac_lenS (z := pS p) (by show 2 ≤ 100000; decide) ?_
  walk_at "al"
  rw [e1]
  walk_at "al"
  refine ar_ixS (z := pS p) (c := p.1) (by show 2 ≤ 100000; decide) rfl ?_
  walk_at "al"
  refine ar_ixS (z := pS p) (c := p.2) (by show 2 ≤ 100000; decide) rfl ?_
  walk_at "al"
  rw [e2]
  walk_at "al"
  refine ar_ixS (z := pS p) (c := p.1) (by show 2 ≤ 100000; decide) rfl ?_
  walk_at "al"
  refine and_dT h2 ?_
  walk_at "al"
  refine ar_ixS (z := pS p) (c := p.2) (by show 2 ≤ 100000; decide) rfl ?_
  walk_at "al"
  have e3 : decide (p.2 ∈ LET.cps.toList) = true := decide_eq_true h3
  show Q F ms (.bl (decide (p.2 ∈ LET.cps.toList)))
  rw [e3]
  exact q
theorem ok__law_below (T : Txt K mg) : OK__law_below P w base T := by
  refine fn_ok T.F__law_below sc__law_below (by rintro _ _ _ _ _ ⟨k, l, st, n, rfl, _⟩; rfl) (fun cdv A outer s H E hr => ?_)
  have hu64 := hr.units
  refine ⟨_, (pss_cons (ps_if ((pw_and (pt_cmpR (kEQ (K := K) rfl hu64) (pe_ix (kIX (K := K) rfl) (pv 0) pe_int (fun _ _ => rfl)) pe_int (nomark _)) (pw_and1 (pt_cmpR op_gt (pe_callB (kLEN (K := K) rfl) (by rfl) T.g_len boot_len (pa_cons (pv 0) pa_nil)) pe_int (nomark _))))).pt (pss_one (ps_asg (pe_bmk (K := K) rfl PySem.F.plainAttrs_list PySem.F.slot_list_pop PySem.F.type_list_pop mt_popAt (pv 0) (pa_cons pe_int pa_nil)) (pg_sub (pv 0) pe_int set_list))) pss_nil)
      (pss_cons (ps_if (pt_cmpR op_gt (pe_ix (kIX (K := K) rfl) (pv 0) pe_int (fun _ _ => rfl)) pe_int (nomark _)) (pss_cons (ps_set (i := 2) sc__law_below.nd rfl (by first | exact Or.inl rfl | exact Or.inr rfl) (pe_op op_mod (pe_ix (kIX (K := K) rfl) (pv 0) pe_int (fun _ _ => rfl)) (pv 1)))
      (pss_cons (ps_asg (pe_op op_fdiv (pe_ix (kIX (K := K) rfl) (pv 0) pe_int (fun _ _ => rfl)) (pv 1)) (pg_sub (pv 0) pe_int set_list))
      (pss_one (ps_ret (pv 2))))) pss_nil)
      (pss_cons (ps_asg (pe_op op_mod (pe_op (kADD (K := K) rfl) (pe_op (kMUL (K := K) rfl) (pe_ix (kIX (K := K) rfl) (pv 0) pe_int (fun _ _ => rfl)) pe_int) pe_int) pe_int) (pg_sub (pv 0) pe_int set_list))
      (pss_one (ps_ret (pe_op op_mod (pe_op op_fdiv (pe_ix (kIX (K := K) rfl) (pv 0) pe_int (fun _ _ => rfl)) pe_int) (pv 1))))))), ?_⟩
  rintro _ F ms Q Ea ⟨k, l, _, n, rfl, hk, ⟨s0, c0, rest, rfl, hs0, hs1, hc0, hrest, hlen⟩, n0, n1, q⟩
  have hkl : k < ms.length := (List.getElem?_eq_some_iff.mp hk).1
  refine as_cut (fun F' ms' S' => F' = F ∧ S' = startS N__law_below [.ref l, .int n] ∧ ∃ (c : Int) (R' : List Int), ms' = ms.set k (l, .lst (.int s0 :: .int c :: R'.map D.int)) ∧ 0 ≤ c ∧ (∀ x ∈ R', 10 ^ 18 ≤ x) ∧ R'.length ≤ 64) ?_ ?_
  · walk_at "al"
    refine ar_ixO k hk (atI_of (j := 1) rfl rfl) ?_
    walk_at "al"
    by_cases hc : c0 = 0
    · refine and_dT hc ?_
      walk_at "al"
      refine ac_lenO k hk ?_
      walk_at "al"
      cases rest with
      | nil =>
        refine and_dF (by simp) ?_
        walk_at "al"
        exact ⟨rfl, rfl, c0, [], (set_same hk).symm, hc0, hrest, hlen⟩
      | cons r0 rest =>
        refine and_dT (by simp; omega) ?_
        refine as_subO ?_
        refine ae_bmL ?_
        walk_at "al"
        refine ⟨_, .inr ⟨k, l, rfl, hk⟩, ?_⟩
        walk_at "al"
        refine am_popAt k (j := 2) (d := .int r0) hk rfl (by simp; simp at hlen; omega) rfl ?_
        walk_at "al"
        refine ⟨k, l, _, 1, 1, rfl, rfl, set_get hkl, ixN_of rfl (by simp), ?_⟩
        refine ⟨rfl, rfl, r0, rest, ?_, ?_, fun x hx => hrest x (List.mem_cons_of_mem _ hx), ?_⟩
        · rw [set_set]; rfl
        · have := hrest r0 (List.mem_cons_self ..); omega
        · simp at hlen; omega
    · refine and_dF hc ?_
      walk_at "al"
      exact ⟨rfl, rfl, c0, rest, (set_same hk).symm, hc0, hrest, hlen⟩
  · rintro F' ms' S' eF ⟨rfl, rfl, c, R', rfl, hc0', hrest', hlen'⟩
    have hk' : (ms.set k (l, MO.lst (.int s0 :: .int c :: R'.map D.int)))[k]? = some (l, .lst (.int s0 :: .int c :: R'.map D.int)) := set_get hkl
    walk_at "al"
    refine ar_ixO k hk' (atI_of (j := 1) rfl rfl) ?_
    walk_at "al"
    by_cases hc : 0 < c
    · refine and_dT hc ?_
      walk_at "al"
      refine ar_ixO k hk' (atI_of (j := 1) rfl rfl) ?_
      walk_at "al"
      refine ar_modI n0 ?_
      walk_at "al"
      refine as_subO ?_
      walk_at "al"
      refine ar_ixO k hk' (atI_of (j := 1) rfl rfl) ?_
      walk_at "al"
      refine ar_divI ⟨n0, by omega⟩ ?_
      walk_at "al"
      refine ⟨k, l, _, 1, 1, rfl, rfl, hk', ixN_of rfl (by simp), ?_⟩
      walk_at "al"
      rw [set_set]
      exact q _ _ ⟨s0, c / n, R', rfl, hs0, hs1, Int.ediv_nonneg hc0' (by omega), hrest', hlen'⟩ (Int.emod_nonneg _ (by omega)) (Int.emod_lt_of_pos _ n0)
    · refine and_dF hc ?_
      walk_at "al"
      refine as_subO ?_
      walk_at "al"
      refine ar_ixO k hk' (atI_of (j := 0) rfl rfl) ?_
      walk_at "al"
      refine ar_MULi (.inr ⟨by decide, by decide⟩) ?_
      walk_at "al"
      refine ar_modI (by decide) ?_
      walk_at "al"
      refine ⟨k, l, _, 0, 0, rfl, rfl, hk', ixN_of rfl (by simp), ?_⟩
      walk_at "al"
      rw [set_set]
      refine ar_ixO k (set_get hkl) (atI_of (j := 0) rfl rfl) ?_
      walk_at "al"
      refine ar_divI ⟨by decide, by decide⟩ ?_
      walk_at "al"
      refine ar_modI n0 ?_
      exact q _ _ ⟨(s0 * 48271 + 11) % 2147483647, c, R', rfl, Int.emod_nonneg _ (by decide), Int.emod_lt_of_pos _ (by decide), hc0', hrest', hlen'⟩ (Int.emod_nonneg _ (by omega)) (Int.emod_lt_of_pos _ n0)
theorem ok__law_random (T : Txt K mg) : OK__law_random P w base T := by
  refine fn_ok T.F__law_random sc__law_random (by rintro _ _ _ _ _ ⟨ns, rfl, _⟩; rfl) (fun cdv A outer s H E hr => ?_)
  have hu64 := hr.units
  refine ⟨_, (pss_cons (ps_set (i := 2) sc__law_random.nd rfl (by first | exact Or.inl rfl | exact Or.inr rfl) (pv 1))
      (pss_cons (ps_for PassesOwn.never rfl (pi_listk (K := K) rfl (pv 0)) (pg_name (i := 3) sc__law_random.nd rfl (by first | exact Or.inl rfl | exact Or.inr rfl)) (pss_one (ps_set (i := 2) sc__law_random.nd rfl (by first | exact Or.inl rfl | exact Or.inr rfl) (pe_op op_mod (pe_op (kADD (K := K) rfl) (pe_op (kMUL (K := K) rfl) (pv 2) pe_int) (pe_callB call_ABS (by rfl) T.g_abs boot_abs (pa_cons (pv 3) pa_nil))) pe_int))))
      (pss_one (ps_ret (pe_op (kADD (K := K) rfl) (pe_lst (pa_cons (pv 2) (pa_cons pe_int pa_nil))) (pe_lc rfl sc__law_random.nd (pi_listk (K := K) rfl (pv 0)) (own := [("_law_cell", 3)]) (@BlkOk.mk N__law_random (defScope s__law_random) _ _ rfl (by decide +kernel) (by decide +kernel) (by decide +kernel) (by decide +kernel)) (fun _ _ _ _ _ => (pg_name (i := 3) sc__law_random.nd rfl (by first | exact Or.inl rfl | exact Or.inr rfl))) (fun _ _ _ _ _ => (pts_one (pt_cmpR op_ge (pv 3) (pe_op op_pow pe_int pe_int) (nomark _)))) (fun _ _ _ _ _ => (pv 3)))))))), ?_⟩
  rintro _ F ms Q Ea ⟨ns, rfl, hn, q⟩
  refine as_seq ?_
  walk_at "al"
  refine as_for ?_
  refine ai_list ?_
  walk_at "al"
  refine .inl ⟨_, .inr rfl, fun i F' ms' S' => ms' = ms ∧ ∃ (z : Int) (e : Option D), 0 ≤ z ∧ z < 2147483647 ∧ S' = [some (.rdl (ns.map D.int)), some (.int 38), some (.int z), e], ⟨rfl, 38, none, by decide, by decide, rfl⟩, fun _ _ _ _ _ _ => trivial, ?_, ?_⟩
  · rintro i d F' ms' S' e hd ⟨rfl, z, e', hz0, hz1, rfl⟩ F'' e''
    obtain ⟨x, rfl⟩ : ∃ x, d = .int x := by
      rw [List.getElem?_map] at hd
      cases h : ns[i]? with
      | none => rw [h] at hd; cases hd
      | some x => rw [h] at hd; exact ⟨x, (Option.some.inj hd).symm⟩
    refine ag_name ?_
    walk_at "al"
    refine ar_MULi (.inr ⟨by decide, by decide⟩) ?_
    walk_at "al"
    refine ar_modI (by decide) ?_
    walk_at "al"
    exact ⟨rfl, _, _, Int.emod_nonneg _ (by decide), Int.emod_lt_of_pos _ (by decide), rfl⟩
  · rintro F' ms' S' e ⟨rfl, z, e', hz0, hz1, rfl⟩
    walk_at "al"
    refine ae_lstF ?_
    walk_at "al"
    refine ⟨by simp, fun F2 e2 => ?_⟩
    refine ae_lc (gw_name (by simp)) gm_name ?_
    refine ai_list ?_
    walk_at "al"
    refine .inl ⟨_, .inr rfl, fun i F' ms1 acc => ms1 = ms' ∧ ∃ R' : List Int, acc = R'.map D.int ∧ (∀ x ∈ R', 10 ^ 18 ≤ x) ∧ R'.length ≤ i, ⟨rfl, [], rfl, fun _ h => (List.not_mem_nil h).elim, Nat.le_refl _⟩, fun _ _ _ _ _ _ => trivial, ?_, ?_⟩
    · rintro i d F3 ms3 acc e3 hd ⟨rfl, R', rfl, hR, hl⟩ F4 e4
      have hi : i < ns.length := by
        have := (List.getElem?_eq_some_iff.mp hd).1
        simpa using this
      obtain ⟨x, rfl⟩ : ∃ x, d = .int x := by
        rw [List.getElem?_map] at hd
        cases h : ns[i]? with
        | none => rw [h] at hd; cases hd
        | some x => rw [h] at hd; exact ⟨x, (Option.some.inj hd).symm⟩
      refine ag_name ?_
      walk_at "al"
      refine ar_powI ⟨by decide, by decide, by decide⟩ ?_
      walk_at "al"
      refine ⟨fun h => ?_, fun h => ?_⟩
      · walk_at "al"
        refine ⟨by rw [List.length_map]; omega, rfl, R' ++ [x], by rw [List.map_append]; rfl, ?_, by rw [List.length_append]; simp; omega⟩
        intro y hy
        rcases List.mem_append.mp hy with hy | hy
        · exact hR y hy
        · rw [List.mem_singleton.mp hy]
          exact of_decide_eq_true h
      · exact ⟨rfl, R', rfl, hR, by omega⟩
    · rintro F3 ms3 acc e3 ⟨rfl, R', rfl, hR, hl⟩ F4 e4
      rw [List.length_map] at hl
      refine ar_ADDlo (by rw [List.length_map]; simp; omega) fun l => ?_
      exact q F4 l _ ((((e.trans e2).trans e3).trans e4)) ⟨z, 0, R', rfl, hz0, hz1, by decide, hR, by omega⟩
theorem ok_Sign___init__ (T : Txt K mg) (G_is_int_in : OK_is_int_in P w base T) (G_is_pair : OK_is_pair P w base T) : OK_Sign___init__ P w base T := by
  refine fn_okD T.F_Sign___init__ sc_Sign___init__ (by rintro _ _ _ _ _ ⟨x, w, ps, R, rfl, _⟩; rfl) (fun cdv A outer s H E hr => ?_)
  have hu64 := hr.units
  refine ⟨_, (pss_cons (ps_if (pt_not (pt_val (pe_call G_is_int_in (hr.mono (by first | decide | omega)) (by rfl) T.m_is_int_in T.F_is_int_in.kp T.b_is_int_in .nil pass0 (pa_cons (pv 1) (pa_cons pe_int (pa_cons (pe_glob (by rfl) T.m_MAX_WIDTH T.r_MAX_WIDTH) pa_nil)))))) (pss_one ps_never) pss_nil)
      (pss_cons (ps_if (pt_not (pt_val (pe_callB (kISI (K := K) rfl) (by rfl) T.g_isinstance boot_isinstance (pa_cons (pv 2) (pa_cons (pe_bltn (v := .ty "tuple") (by rfl) T.g_tuple boot_tuple rfl) pa_nil))))) (pss_one ps_never) pss_nil)
      (pss_cons (ps_fld (pv 0) pe_dnewK (by rfl))
      (pss_cons (ps_for PassesOwn.never rfl (pi_enumA (by rfl) T.g_enumerate (pa_cons (pv 2) pa_nil)) (pg_tup rfl (pgs_cons (pg_name (i := 3) sc_Sign___init__.nd rfl (by first | exact Or.inl rfl | exact Or.inr rfl)) (pgs_cons (pg_name (i := 4) sc_Sign___init__.nd rfl (by first | exact Or.inl rfl | exact Or.inr rfl)) pgs_nil))) (pss_cons (ps_if ((pw_or (pt_cmpR (kEQ (K := K) rfl hu64) (pv 3) (pe_glob (by rfl) T.m_MAX_PAIRS T.r_MAX_PAIRS) (nomark _)) (pw_or (pt_not (pt_val (pe_call G_is_pair (hr.mono (by first | decide | omega)) (by rfl) T.m_is_pair T.F_is_pair.kp T.b_is_pair .nil pass0 (pa_cons (pv 4) pa_nil)))) (pw_or (pt_cmp (pc_din (hu_of hr) (pe_ix (kIX (K := K) rfl) (pv 4) pe_int (fun _ _ => rfl)) (pe_fldk (K := K) rfl (pv 0) (by rfl)))) (pw_or1 (pt_cmp (pc_din (hu_of hr) (pe_ix (kIX (K := K) rfl) (pv 4) pe_int (fun _ _ => rfl)) (pe_fldk (K := K) rfl (pv 0) (by rfl))))))))).pt (pss_one ps_never) pss_nil)
      (pss_cons (ps_dput (hu_of hr) (pe_fldk (K := K) rfl (pv 0) (by rfl)) (pe_ix (kIX (K := K) rfl) (pv 4) pe_int (fun _ _ => rfl)) (pe_ix (kIX (K := K) rfl) (pv 4) pe_int (fun _ _ => rfl)) (by rfl))
      (pss_one (ps_dput (hu_of hr) (pe_fldk (K := K) rfl (pv 0) (by rfl)) (pe_ix (kIX (K := K) rfl) (pv 4) pe_int (fun _ _ => rfl)) (pe_ix (kIX (K := K) rfl) (pv 4) pe_int (fun _ _ => rfl)) (by rfl))))))
      (pss_cons (ps_fld (pv 0) (pv 1) (by rfl))
      (pss_one (ps_fld (pv 0) (pv 2) (by rfl)))))))), ?_⟩
  rintro _ F _ Q Ea ⟨x, w, ps, R, rfl, w1, w2, hl, hL, hnd, rfl, q⟩
  walk_at "al"
  refine .inl ⟨w, 1, 24, rfl, ?_⟩
  rw [decide_eq_true w1, decide_eq_true w2]
  walk_at "al"
  refine and_nT ?_
  walk_at "al"
  refine as_fld ?_
  refine ae_dnewO fun m => ?_
  walk_at "al"
  refine ⟨1, x, T.c_Sign, [], rfl, rfl, T.k_Sign, T.n_Sign_mates, by decide, ?_⟩
  walk_at "al"
  refine as_for ?_
  refine ai_enum ?_
  walk_at "al"
  refine .inr (.inl ⟨_, rfl, fun i F' ms' S' => ms' = (m, .dic (kvsOf (ps.take i))) :: (x, .ins T.c_Sign [("mates", .ref m)]) :: R ∧ ∃ a b, S' = [some (.ref x), some (.int w), some (.tup (ps.map pD)), a, b], ⟨rfl, none, none, rfl⟩, fun _ _ _ _ _ _ => trivial, ?_, ?_⟩)
  · rintro n d F' ms' S' e hd ⟨rfl, a, b, rfl⟩ F'' e''
    obtain ⟨_, h1, rfl⟩ := enum_at hd
    obtain ⟨p, hp, rfl⟩ := pairs_at h1
    obtain ⟨f1, f2, f3⟩ := flat_new hp hnd
    obtain ⟨g1, g2⟩ := flat_mem hp
    have hn : n < ps.length := (List.getElem?_eq_some_iff.mp hp).1
    refine ag_tup rfl ?_
    refine ags_cons (ag_name ?_)
    refine ags_cons (ag_name ?_)
    refine ags_nil ?_
    walk_at "al"
    refine and_dF' (by omega) ?_
    walk_at "al"
    refine ⟨p, rfl, f3, hL _ g1, hL _ g2, ?_⟩
    walk_at "al"
    refine ae_din ?_
    walk_at "al"
    refine ar_ixS (z := pS p) (c := p.1) (by show 2 ≤ 100000; decide) rfl ?_
    refine ae_fld ?_
    walk_at "al"
    refine ⟨x, T.c_Sign, [("mates", .ref m)], .ref m, rfl, .inr ⟨1, rfl⟩, T.k_Sign, T.n_Sign_mates, rfl, ?_⟩
    refine ⟨kS p.1, _, rfl, .inr ⟨0, m, rfl, rfl⟩, ?_⟩
    walk_at "al"
    refine and_oF' (val_none f1) ?_
    walk_at "al"
    refine ae_din ?_
    walk_at "al"
    refine ar_ixS (z := pS p) (c := p.2) (by show 2 ≤ 100000; decide) rfl ?_
    refine ae_fld ?_
    walk_at "al"
    refine ⟨x, T.c_Sign, [("mates", .ref m)], .ref m, rfl, .inr ⟨1, rfl⟩, T.k_Sign, T.n_Sign_mates, rfl, ?_⟩
    refine ⟨kS p.2, _, rfl, .inr ⟨0, m, rfl, rfl⟩, ?_⟩
    walk_at "al"
    refine and_oF (val_none f2) ?_
    walk_at "al"
    refine as_dput ?_
    walk_at "al"
    refine ar_ixS (z := pS p) (c := p.2) (by show 2 ≤ 100000; decide) rfl ?_
    refine ae_fld ?_
    walk_at "al"
    refine ⟨x, T.c_Sign, [("mates", .ref m)], .ref m, rfl, .inr ⟨1, rfl⟩, T.k_Sign, T.n_Sign_mates, rfl, ?_⟩
    walk_at "al"
    refine ar_ixS (z := pS p) (c := p.1) (by show 2 ≤ 100000; decide) rfl ?_
    have l1 := kvs_len (ps.take n)
    have l2 : (ps.take n).length ≤ 10 := by rw [List.length_take]; omega
    refine ⟨0, m, _, kS p.1, rfl, rfl, rfl, by omega, ?_⟩
    walk_at "al"
    refine as_dput ?_
    walk_at "al"
    refine ar_ixS (z := pS p) (c := p.1) (by show 2 ≤ 100000; decide) rfl ?_
    refine ae_fld ?_
    walk_at "al"
    refine ⟨x, T.c_Sign, [("mates", .ref m)], .ref m, rfl, .inr ⟨1, rfl⟩, T.k_Sign, T.n_Sign_mates, rfl, ?_⟩
    walk_at "al"
    refine ar_ixS (z := pS p) (c := p.2) (by show 2 ≤ 100000; decide) rfl ?_
    have l3 : (putKD (kvsOf (ps.take n)) (kS p.1) (.str (sg p.2))).length = (kvsOf (ps.take n)).length + 1 := by rw [putKD_new (val_none f1), List.length_append]; rfl
    refine ⟨0, m, _, kS p.2, rfl, rfl, rfl, by omega, ?_⟩
    refine ⟨?_, _, _, rfl⟩
    show (m, MO.dic (putKD (putKD (kvsOf (ps.take n)) (kS p.1) (.str (sg p.2))) (kS p.2) (.str (sg p.1)))) :: _ = _
    rw [putKD_new (val_none f1), putKD_new (by
      rw [valD_app (val_none f2), valD_cons, if_neg (fun z => f3 (kS_inj.mp z).symm)]
      rfl), List.take_succ, hp]
    show _ = (m, MO.dic (kvsOf (ps.take n ++ [p]))) :: _
    rw [kvs_app, List.append_assoc]
    rfl
  · rintro F' ms' S' e ⟨rfl, a, b, rfl⟩
    rw [enum_len, List.length_map, List.take_length]
    walk_at "al"
    refine as_fld ?_
    walk_at "al"
    refine ⟨1, x, T.c_Sign, _, rfl, rfl, T.k_Sign, T.n_Sign_width, by show 1 < 1000; decide, ?_⟩
    walk_at "al"
    refine as_fld ?_
    walk_at "al"
    refine ⟨1, x, T.c_Sign, _, rfl, rfl, T.k_Sign, T.n_Sign_pairs, Nat.lt_of_le_of_lt (putD_len _ _ _) (by show 2 < 1000; decide), ?_⟩
    exact q m F' e
theorem ok__law_shuffled (T : Txt K mg) (G__law_below : OK__law_below P w base T) : OK__law_shuffled P w base T := by
  refine fn_ok T.F__law_shuffled sc__law_shuffled (by rintro _ _ _ _ _ ⟨k, l, st, xs, rfl, _⟩; rfl) (fun cdv A outer s H E hr => ?_)
  have hu64 := hr.units
  refine ⟨_, (pss_cons (ps_set (i := 2) sc__law_shuffled.nd rfl (by first | exact Or.inl rfl | exact Or.inr rfl) (pe_callTy (kLIST (K := K) rfl rfl) (by rfl) T.g_list boot_list (pa_cons (pv 1) pa_nil)))
      (pss_cons (ps_set (i := 3) sc__law_shuffled.nd rfl (by first | exact Or.inl rfl | exact Or.inr rfl) (pe_lst pa_nil))
      (pss_cons (ps_while PassesOwn.never (pt_cmpR (kNE (K := K) rfl hu64) (pv 2) (pe_lst pa_nil) (nomark _)) (pss_one (ps_expr (pe_bmk (K := K) rfl PySem.F.plainAttrs_list PySem.F.slot_list_append PySem.F.type_list_append mt_append (pv 3) (pa_cons (pe_bmk (K := K) rfl PySem.F.plainAttrs_list PySem.F.slot_list_pop PySem.F.type_list_pop mt_popAt (pv 2) (pa_cons (pe_call G__law_below (hr.mono (by first | decide | omega)) (by rfl) T.m__law_below T.F__law_below.kp T.b__law_below .nil pass0 (pa_cons (pv 0) (pa_cons (pe_callB (kLEN (K := K) rfl) (by rfl) T.g_len boot_len (pa_cons (pv 2) pa_nil)) pa_nil))) pa_nil)) pa_nil)))))
      (pss_one (ps_ret (pv 3)))))), ?_⟩
  rintro _ F ms Q Ea ⟨k, l, st, xs, rfl, hk, hst, hx, hc, q⟩
  have hkl : k < ms.length := (List.getElem?_eq_some_iff.mp hk).1
  walk_at "al"
  refine ac_listO (.inl (.inl rfl)) fun l1 => ?_
  walk_at "al"
  refine ae_lstO ?_
  walk_at "al"
  refine ⟨by simp, fun l2 => ?_⟩
  walk_at "al"
  refine as_while (fun m F' ms' S' => ∃ (r p st' : List D), ms' = (l2, .lst r) :: (l1, .lst p) :: ms.set k (l, .lst st') ∧ St st' ∧ (r ++ p).Perm xs ∧ p.length = m ∧ S' = [some (.ref l), some (.lst xs), some (.ref l1), some (.ref l2)]) xs.length ⟨[], xs, st, by rw [set_same hk], hst, List.Perm.refl _, rfl, rfl⟩ ?_
  rintro m F' ms' S' e ⟨r, p, st', rfl, hst', hp, rfl, rfl⟩
  have hps : ∀ y ∈ r ++ p, ∃ c, y = .str (sg c) ∧ c < 128 := fun y hy => hc y (hp.mem_iff.mp hy)
  obtain ⟨o1, o2⟩ := chr_ok fun y hy => hps y (List.mem_append_right _ hy)
  have hlen := hp.length_eq
  rw [List.length_append] at hlen
  walk_at "al"
  refine ae_lstF ?_
  walk_at "al"
  refine ⟨by simp, fun F2 e2 => ?_⟩
  refine ar_NEo 1 (ds := p) rfl o1 rfl (by rw [o2]; decide) (by decide) ?_
  walk_at "al"
  rw [eqv_nil]
  cases p with
  | nil =>
    refine and_nT ?_
    refine as_ret (ae_dropm (ae_frz ?_))
    walk_at "al"
    refine ⟨0, l2, r, rfl, rfl, fun F3 e3 => ⟨0, Nat.zero_lt_succ _, ?_⟩⟩
    exact q st' F3 r ((e.trans e2).trans e3) hst' (by simpa using hp)
  | cons d0 p0 =>
    refine and_nF ?_
    walk_at "al"
    refine ae_bmL ?_
    walk_at "al"
    refine ⟨r, .inr ⟨0, l2, rfl, rfl⟩, ?_⟩
    walk_at "al"
    refine ae_bmL ?_
    walk_at "al"
    refine ⟨d0 :: p0, .inr ⟨1, l1, rfl, rfl⟩, ?_⟩
    walk_at "al"
    refine ac_lenO 1 (ds := d0 :: p0) rfl ?_
    walk_at "al"
    rw [List.length_cons] at hlen
    refine ⟨k + 2, l, st', _, rfl, set_get hkl, hst', by rw [List.length_cons]; omega, by rw [List.length_cons]; omega, fun st2 z hst2 z0 z1 => ?_⟩
    walk_at "al"
    obtain ⟨j, rfl⟩ : ∃ j : Nat, z = j := ⟨z.toNat, by omega⟩
    have hj : j < (d0 :: p0).length := by omega
    refine am_popAt 1 (l := l1) (xs := d0 :: p0) rfl rfl (by rw [List.length_cons]; omega) (List.getElem?_eq_getElem hj) ?_
    walk_at "al"
    refine am_append 0 (l := l2) (xs := r) rfl (by omega) ?_
    have he : (List.eraseIdx (d0 :: p0) j).length = p0.length := by rw [List.length_eraseIdx_of_lt hj]; rfl
    refine ⟨p0.length, by simp, r ++ [(d0 :: p0)[j]], List.eraseIdx (d0 :: p0) j, st2, ?_, hst2, ?_, he, rfl⟩
    · show (l2, MO.lst _) :: (l1, MO.lst _) :: (ms.set k (l, MO.lst st')).set k (l, MO.lst st2) = _
      rw [set_set]
    · rw [List.append_assoc]
      refine List.Perm.trans (List.Perm.append_left r ?_) hp
      exact erase_perm hj
theorem ok__law_pairs (T : Txt K mg) (G__law_below : OK__law_below P w base T) (G__law_shuffled : OK__law_shuffled P w base T) : OK__law_pairs P w base T := by
  refine fn_ok T.F__law_pairs sc__law_pairs (by rintro _ _ _ _ _ ⟨k, l, st, z, rfl, _⟩; rfl) (fun cdv A outer s H E hr => ?_)
  have hu64 := hr.units
  refine ⟨_, (pss_cons (ps_set (i := 2) sc__law_pairs.nd rfl (by first | exact Or.inl rfl | exact Or.inr rfl) (pe_call G__law_shuffled (hr.mono (by first | decide | omega)) (by rfl) T.m__law_shuffled T.F__law_shuffled.kp T.b__law_shuffled .nil pass0 (pa_cons (pv 0) (pa_cons (pe_callTy (kLIST (K := K) rfl rfl) (by rfl) T.g_list boot_list (pa_cons (pv 1) pa_nil)) pa_nil))))
      (pss_cons (ps_set (i := 3) sc__law_pairs.nd rfl (by first | exact Or.inl rfl | exact Or.inr rfl) (pe_call G__law_below (hr.mono (by first | decide | omega)) (by rfl) T.m__law_below T.F__law_below.kp T.b__law_below .nil pass0 (pa_cons (pv 0) (pa_cons (pe_op (kADD (K := K) rfl) pe_int (pe_callB (call_MIN rfl) (by rfl) T.g_min boot_min (pa_cons pe_int (pa_cons (pe_op op_fdiv (pe_callB (kLEN (K := K) rfl) (by rfl) T.g_len boot_len (pa_cons (pv 2) pa_nil)) pe_int) pa_nil)))) pa_nil))))
      (pss_one (ps_ret (pe_callTy (kTUPLE (K := K) rfl) (by rfl) T.g_tuple boot_tuple (pa_cons (pe_lc rfl sc__law_pairs.nd (pi_range1 (by rfl) T.g_range (pa_cons (pv 3) pa_nil)) (own := [("_law_k", 4)]) (@BlkOk.mk N__law_pairs (defScope s__law_pairs) _ _ rfl (by decide +kernel) (by decide +kernel) (by decide +kernel) (by decide +kernel)) (fun _ _ _ _ _ => (pg_name (i := 4) sc__law_pairs.nd rfl (by first | exact Or.inl rfl | exact Or.inr rfl))) (fun _ _ _ _ _ => pts_nil) (fun _ _ _ _ _ => (pe_op (kADD (K := K) rfl) (pe_ix (kIX (K := K) rfl) (pv 2) (pe_op (kMUL (K := K) rfl) pe_int (pv 4)) (fun _ _ => rfl)) (pe_ix (kIX (K := K) rfl) (pv 2) (pe_op (kADD (K := K) rfl) (pe_op (kMUL (K := K) rfl) pe_int (pv 4)) pe_int) (fun _ _ => rfl))))) pa_nil)))))), ?_⟩
  rintro _ F ms Q Ea ⟨k, l, st, z, rfl, hk, hst, hz, hnd, hL, q⟩
  have hkl : k < ms.length := (List.getElem?_eq_some_iff.mp hk).1
  walk_at "al"
  refine ac_listT (z := z) (by omega) fun F1 e1 => ?_
  walk_at "al"
  refine ⟨k, l, st, charsD z, rfl, hk, hst, by rw [chars_len]; exact hz, ?_, fun st1 F2 ys e2 hst1 hy => ?_⟩
  · intro x hx
    obtain ⟨i, hi⟩ := List.mem_iff_getElem?.mp hx
    obtain ⟨c, hc, rfl⟩ := chars_at hi
    exact ⟨c, rfl, inL_lt (hL c (List.mem_of_getElem? hc))⟩
  walk_at "al"
  refine ar_divI ⟨by decide, by decide⟩ ?_
  walk_at "al"
  obtain ⟨cs, rfl, hcs⟩ := perm_chars hy
  have hlc : cs.length ≤ 100 := by rw [hcs.length_eq]; exact hz
  refine ⟨k, l, st1, _, rfl, set_get hkl, hst1, by rw [List.length_map]; split <;> omega, by split <;> omega, fun st2 n hst2 n0 n1 => ?_⟩
  walk_at "al"
  refine ae_lc (gw_name (by simp)) gm_name ?_
  refine ai_rng1 ?_
  walk_at "al"
  rw [List.length_map] at n1
  have n2 : n ≤ 3 ∧ 2 * n ≤ cs.length := by
    split at n1 <;> omega
  rw [set_set]
  refine ⟨n, rfl, by omega, by omega, fun i F' ms' acc => ms' = ms.set k (l, .lst st2) ∧ ∃ ps : List Pr, acc = ps.map pD ∧ ps.length = i ∧ flat ps = cs.take (2 * i), ⟨rfl, [], rfl, rfl, rfl⟩, fun _ _ _ _ _ _ => trivial, ?_, ?_⟩
  · rintro i d F' ms' acc e hd ⟨rfl, ps, rfl, hl, hf⟩ F'' e''
    obtain ⟨hi, rfl⟩ := range_at hd
    have hi2 : i < n.toNat := hi
    refine ag_name ?_
    walk_at "al"
    refine ar_MULi (.inl ⟨by decide, by decide⟩) ?_
    have a1 : 2 * i < cs.length := by omega
    have a2 : 2 * i + 1 < cs.length := by omega
    refine ar_ixL (atI_of (j := 2 * i) (d := .str (sg cs[2 * i])) (by omega) (by rw [List.getElem?_map, List.getElem?_eq_getElem a1]; rfl)) ?_
    walk_at "al"
    refine ar_MULi (.inl ⟨by decide, by decide⟩) ?_
    walk_at "al"
    refine ar_ixL (atI_of (j := 2 * i + 1) (d := .str (sg cs[2 * i + 1])) (by omega) (by rw [List.getElem?_map, List.getElem?_eq_getElem a2]; rfl)) ?_
    refine ar_ADDs (by show 1 + 1 ≤ 100000; decide) ?_
    refine ⟨by rw [List.length_map]; omega, rfl, ps ++ [(cs[2 * i], cs[2 * i + 1])], by rw [List.map_append]; rfl, by rw [List.length_append, hl]; rfl, ?_⟩
    unfold flat at *
    rw [List.flatMap_append, hf, show 2 * (i + 1) = 2 * i + 1 + 1 by omega, List.take_succ, List.take_succ, List.getElem?_eq_getElem a1, List.getElem?_eq_getElem a2, List.append_assoc]
    rfl
  · rintro F' ms' acc e ⟨rfl, ps, rfl, hl, hf⟩ F'' e''
    rw [range_len] at hl hf
    walk_at "al"
    refine ac_tupleL (.inl rfl) fun F3 e3 => ?_
    have sub : ∀ c ∈ flat ps, c ∈ cs := fun c hc => List.mem_of_mem_take (hf ▸ hc)
    refine q st2 F3 ps ((((e1.trans e2).trans e).trans e'').trans e3) hst2 (by omega) (fun c hc => hcs.mem_iff.mp (sub c hc)) ?_
    rw [hf]
    exact (hcs.nodup_iff.mpr hnd).sublist (List.take_sublist _ _)
end

theorem inL_ne {c : Nat} (h : inL c) : c ≠ 32 := by
  rintro rfl
  have : decide (32 ∈ LET.cps.toList) = false := by decide +kernel
  exact of_decide_eq_false this h
theorem sg_ne {c : Nat} (h : c ≠ 32) : ¬ sg c = Str.ofString " " := fun q => by
  have e : [c] = [32] := congrArg (fun s : Str => s.cps.toList) q
  exact h (by simpa using e)
theorem cut_mem {r : List Nat} {c : Nat} {lo hi : Option Int} (h : c ∈ (cutS ⟨r.toArray⟩ lo hi).cps.toList) : c ∈ r := by
  unfold cutS at h
  exact List.mem_of_mem_drop (List.mem_of_mem_take h)
theorem app_l (a b : Str) : (a ++ b).cps.toList = a.cps.toList ++ b.cps.toList := Array.toList_append
theorem ok_ends {a b : Nat} {m : Str} {w : Int} (ha : inL a) (hb : inL b) (hm : ∀ c ∈ m.cps.toList, c = 32 ∨ inL c) (hw : (m.length : Int) + 2 ≤ w) : textOk w (sg a ++ m ++ sg b) := by
  have e : (sg a ++ m ++ sg b).cps.toList = a :: (m.cps.toList ++ [b]) := by rw [app_l, app_l]; rfl
  have l : (sg a ++ m ++ sg b).length = m.length + 2 := by
    rw [str_len_add, str_len_add]
    show 1 + m.length + 1 = _
    omega
  refine ⟨by rw [l]; omega, by rw [l]; omega, ?_, ⟨a, by rw [e]; rfl, ha⟩, ⟨b, ?_, hb⟩⟩
  · intro c hc
    rw [e] at hc
    simp only [List.mem_cons, List.mem_append, List.not_mem_nil, or_false] at hc
    rcases hc with rfl | hc | rfl
    · exact .inr ha
    · exact hm c hc
    · exact .inr hb
  · rw [e, l]
    show (a :: (m.cps.toList ++ [b]))[m.length + 1]? = some b
    have h : m.cps.toList.length = m.length := rfl
    rw [List.getElem?_cons_succ, ← h, List.getElem?_append_right (Nat.le_refl _), Nat.sub_self]
    rfl
theorem ok_one {a : Nat} {w : Int} (ha : inL a) (hw : 1 ≤ w) : textOk w (sg a) := ⟨by show (1 : Int) ≤ 1; omega, hw, fun c hc => .inr (List.mem_singleton.mp (show c ∈ [a] from hc) ▸ ha), ⟨a, rfl, ha⟩, ⟨a, rfl, ha⟩⟩
theorem z_one {z : Str} {a : Nat} (h : a ∈ z.cps.toList) : textZ z (sg a) := fun c hc => by
  have hc : c ∈ [a] := hc
  rw [List.mem_singleton.mp hc]
  exact .inr h
theorem z_ends {z m : Str} {a b : Nat} (ha : a ∈ z.cps.toList) (hb : b ∈ z.cps.toList) (hm : ∀ c ∈ m.cps.toList, c = 32 ∨ c ∈ z.cps.toList) : textZ z (sg a ++ m ++ sg b) := fun c hc => by
  rw [app_l, app_l] at hc
  rcases List.mem_append.mp hc with hc | hc
  · rcases List.mem_append.mp hc with hc | hc
    · exact z_one ha c hc
    · exact hm c hc
  · exact z_one hb c hc
theorem strs_at {ts : List Str} {n : Nat} {d : D} (h : (ts.map D.str)[n]? = some d) : ∃ t, ts[n]? = some t ∧ d = .str t := by
  rw [List.getElem?_map] at h
  cases e : ts[n]? with
  | none => rw [e] at h; cases h
  | some p => rw [e] at h; exact ⟨p, rfl, (Option.some.inj h).symm⟩
theorem strs_ok {ts : List Str} {w : Int} (h : ∀ t ∈ ts, textOk w t) : okL (ts.map D.str) = true ∧ depL (ts.map D.str) = 0 ∧ (1 ≤ ts.length → eqvD (.tup (ts.map D.str)) (.tup []) = false) := by
  refine ⟨?_, ?_, ?_⟩
  · induction ts with
    | nil => rfl
    | cons t ts ih =>
      have h1 := (h t (List.mem_cons_self ..)).2.2.1
      have e : okD (.str t) = true := by
        show t.cps.all (· < 0x110000) = true
        rw [← Array.all_toList, List.all_eq_true]
        intro c hc
        rcases h1 c hc with rfl | h
        · decide
        · have := inL_lt h
          simp
          omega
      show (okD (.str t) && okL (ts.map D.str)) = true
      rw [e, ih fun y hy => h y (List.mem_cons_of_mem _ hy)]
      rfl
  · clear h
    induction ts with
    | nil => rfl
    | cons t ts ih => show max 0 (depL (ts.map D.str)) = 0; rw [ih]; rfl
  · intro hl
    cases ts with
    | nil => simp at hl
    | cons t ts => simp [eqvD, toPy, toPyL, PyData.eqv, PyData.eqvAll]
section
variable {P : Program} {w : World} {K : Frg} {mg : Str → Option Value} {base : Heap}
theorem ok_Sign_is_text (T : Txt K mg) : OK_Sign_is_text P w base T := by
  refine fn_ok T.F_Sign_is_text sc_Sign_is_text (by rintro _ _ _ _ _ ⟨x, w, ps, t, rfl, _⟩; rfl) (fun cdv A outer s H E hr => ?_)
  have hu64 := hr.units
  refine ⟨_, (pss_cons (ps_if ((pw_or (pt_not (pt_val (pe_callB (kISI (K := K) rfl) (by rfl) T.g_isinstance boot_isinstance (pa_cons (pv 1) (pa_cons (pe_bltn (v := .ty "str") (by rfl) T.g_str boot_str rfl) pa_nil))))) (pw_or1 (pt_not (pt_chain op_le op_le pe_int (pe_callB (kLEN (K := K) rfl) (by rfl) T.g_len boot_len (pa_cons (pv 1) pa_nil)) (pe_fldk (K := K) rfl (pv 0) (by rfl))))))).pt (pss_one (ps_ret pe_bl)) pss_nil)
      (pss_cons (ps_if ((pw_or (pt_cmpR (kEQ (K := K) rfl hu64) (pe_ix (kIX (K := K) rfl) (pv 1) pe_int (fun _ _ => rfl)) (pe_glob (by rfl) T.m_BLANK T.r_BLANK) (nomark _)) (pw_or1 (pt_cmpR (kEQ (K := K) rfl hu64) (pe_ix (kIX (K := K) rfl) (pv 1) (pe_un un_neg pe_int) (fun _ _ => rfl)) (pe_glob (by rfl) T.m_BLANK T.r_BLANK) (nomark _))))).pt (pss_one (ps_ret pe_bl)) pss_nil)
      (pss_one (ps_ret (pe_callB (kALL (K := K) rfl rfl) (by rfl) T.g_all boot_all (pa_cons (pe_lc rfl sc_Sign_is_text.nd (pi_str (pv 1)) (own := [("letter", 2)]) (@BlkOk.mk N_Sign_is_text (defScope s_Sign_is_text) _ _ rfl (by decide +kernel) (by decide +kernel) (by decide +kernel) (by decide +kernel)) (fun _ _ _ _ _ => (pg_name (i := 2) sc_Sign_is_text.nd rfl (by first | exact Or.inl rfl | exact Or.inr rfl))) (fun _ _ _ _ _ => pts_nil) (fun _ _ _ _ _ => (pe_or (pe_cmpR (kEQ (K := K) rfl hu64) (pv 2) (pe_glob (by rfl) T.m_BLANK T.r_BLANK) (nomark _)) (pe_one (pe_cmpR (kIN (K := K) rfl) (pv 2) (pe_glob (by rfl) T.m_LETTERS T.r_LETTERS) (by with_unfolding_all rfl)))))) pa_nil)))))), ?_⟩
  rintro _ F ms Q Ea ⟨x, w, ps, t, rfl, ⟨i, j, m, hi, hj⟩, hw, ⟨t1, t2, t3, ⟨a, ha, haL⟩, ⟨b, hb, hbL⟩⟩, q⟩
  walk_at "al"
  refine ac_lenS (z := t) (by omega) ?_
  walk_at "al"
  refine and_dT t1 ?_
  walk_at "al"
  refine ae_fld ?_
  walk_at "al"
  refine ⟨x, T.c_Sign, fldS m w ps, .int w, rfl, .inr ⟨i, hi⟩, T.k_Sign, T.n_Sign_width, rfl, ?_⟩
  walk_at "al"
  rw [decide_eq_true t2]
  walk_at "al"
  refine ar_ixS (z := t) (c := a) (by omega) (atI_of (j := 0) rfl ha) ?_
  walk_at "al"
  refine and_dF' (sg_ne (inL_ne haL)) ?_
  walk_at "al"
  refine ae_neg (g := fun i => -i) (fun _ => rfl) ?_
  walk_at "al"
  have tl : t.cps.toList.length = t.length := rfl
  refine ar_ixS (z := t) (c := b) (by omega) (atI_neg (j := t.length - 1) (by omega) hb (by omega)) ?_
  walk_at "al"
  refine and_dF (sg_ne (inL_ne hbL)) ?_
  walk_at "al"
  refine ae_lc (gw_name (by simp)) gm_name ?_
  refine ai_str ?_
  walk_at "al"
  refine ⟨fun i F' ms' acc => ms' = ms ∧ acc = List.replicate i (.bl true), ⟨rfl, rfl⟩, fun _ _ _ _ _ _ => trivial, ?_, ?_⟩
  · rintro n d F' ms' acc e1 hd ⟨rfl, rfl⟩ F'' e2
    obtain ⟨c, hc, rfl⟩ := chars_at hd
    have hn : n < t.cps.toList.length := (List.getElem?_eq_some_iff.mp hc).1
    refine ag_name ?_
    walk_at "al"
    have fin : (List.replicate n (D.bl true)).length < 100000 ∧ (fun i (F' : Hp) ms'_1 acc => ms'_1 = ms' ∧ acc = List.replicate i (D.bl true)) (n + 1) F'' ms' (List.replicate n (D.bl true) ++ [D.bl true]) := ⟨by rw [List.length_replicate]; omega, rfl, by rw [List.replicate_succ']⟩
    by_cases h32 : c = 32
    · subst h32
      refine and_dT' rfl ?_
      exact fin
    · refine and_dF' (sg_ne h32) ?_
      walk_at "al"
      rw [decide_eq_true (show c ∈ (Str.ofString "ABCDEFGHIJKLMNOPQRSTUVWXYZ0123456789").cps.toList from (t3 c (List.mem_of_getElem? hc)).resolve_left h32)]
      exact fin
  · rintro F' ms' acc e1 ⟨rfl, rfl⟩ F'' e2
    rw [chars_len]
    walk_at "al"
    refine ac_all (bs := List.replicate t.length true) (by rw [← rep_map]) ?_
    rw [all_rep]
    exact q _ (e1.trans e2)
theorem ok_Sign_check_texts (T : Txt K mg) (G_Sign_is_text : OK_Sign_is_text P w base T) : OK_Sign_check_texts P w base T := by
  refine fn_ok T.F_Sign_check_texts sc_Sign_check_texts (by rintro _ _ _ _ _ ⟨x, w, ps, t, rfl, _⟩; rfl) (fun cdv A outer s H E hr => ?_)
  have hu64 := hr.units
  refine ⟨_, (pss_cons (ps_if ((pw_or (pt_not (pt_val (pe_callB (kISI (K := K) rfl) (by rfl) T.g_isinstance boot_isinstance (pa_cons (pv 1) (pa_cons (pe_bltn (v := .ty "tuple") (by rfl) T.g_tuple boot_tuple rfl) pa_nil))))) (pw_or1 (pt_cmpR (kEQ (K := K) rfl hu64) (pv 1) (pe_tup pa_nil) (nomark _))))).pt (pss_one ps_never) pss_nil)
      (pss_one (ps_for PassesOwn.never rfl (pi_enumA (by rfl) T.g_enumerate (pa_cons (pv 1) pa_nil)) (pg_tup rfl (pgs_cons (pg_name (i := 2) sc_Sign_check_texts.nd rfl (by first | exact Or.inl rfl | exact Or.inr rfl)) (pgs_cons (pg_name (i := 3) sc_Sign_check_texts.nd rfl (by first | exact Or.inl rfl | exact Or.inr rfl)) pgs_nil))) (pss_one (ps_if ((pw_or (pt_cmpR (kEQ (K := K) rfl hu64) (pv 2) (pe_glob (by rfl) T.m_MAX_TEXTS T.r_MAX_TEXTS) (nomark _)) (pw_or1 (pt_not (pt_val (pe_meth (pv 0) T.k_Sign T.Me_Sign_is_text G_Sign_is_text (hr.mono (by first | decide | omega)) T.b_Sign_is_text .nil pass0 (pa_cons (pv 3) pa_nil))))))).pt (pss_one ps_never) pss_nil))))), ?_⟩
  rintro _ F ms Q Ea ⟨x, w, ps, ts, rfl, hS, hw, t1, t2, ht, q⟩
  obtain ⟨i, j, m, hi, hj⟩ := id hS
  walk_at "al"
  refine ae_tup ?_
  walk_at "al"
  refine ⟨by simp, fun F1 e1 => ?_⟩
  obtain ⟨o1, o2, o3⟩ := strs_ok ht
  refine ar_EQd (d := .tup (ts.map D.str)) (e := .tup []) o1 rfl (by show depL (ts.map D.str) + 1 ≤ 64; omega) (by decide) ?_
  rw [o3 (by omega)]
  walk_at "al"
  refine as_for ?_
  refine ai_enum ?_
  walk_at "al"
  refine .inr (.inl ⟨_, rfl, fun i F' ms' S' => ms' = ms ∧ ∃ a b, S' = [some (.ref x), some (.tup (ts.map D.str)), a, b], ⟨rfl, none, none, rfl⟩, fun _ _ _ _ _ _ => trivial, ?_, ?_⟩)
  · rintro n d F' ms' S' e hd ⟨rfl, a, b, rfl⟩ F'' e''
    obtain ⟨_, h1, rfl⟩ := enum_at hd
    obtain ⟨t, hp, rfl⟩ := strs_at h1
    have hn : n < ts.length := (List.getElem?_eq_some_iff.mp hp).1
    refine ag_tup rfl ?_
    refine ags_cons (ag_name ?_)
    refine ags_cons (ag_name ?_)
    refine ags_nil ?_
    walk_at "al"
    refine and_dF' (by omega) ?_
    walk_at "al"
    refine ae_meth ?_
    walk_at "al"
    refine ⟨x, fldS m w ps, rfl, .inr ⟨i, hi⟩, fld_no (by decide +kernel) (by decide +kernel) (by decide +kernel), ?_⟩
    walk_at "al"
    refine ⟨x, w, ps, t, rfl, hS, hw, ht t (List.mem_of_getElem? hp), fun F3 e3 => ?_⟩
    walk_at "al"
    exact ⟨rfl, _, _, rfl⟩
  · rintro F' ms' S' e ⟨rfl, a, b, rfl⟩
    exact q _ (e1.trans e)
theorem ok__law_text (T : Txt K mg) (G__law_below : OK__law_below P w base T) : OK__law_text P w base T := by
  refine fn_ok T.F__law_text sc__law_text (by rintro _ _ _ _ _ ⟨k, l, st, w, z, rfl, _⟩; rfl) (fun cdv A outer s H E hr => ?_)
  have hu64 := hr.units
  refine ⟨_, (pss_cons (ps_set (i := 3) sc__law_text.nd rfl (by first | exact Or.inl rfl | exact Or.inr rfl) (pe_op (kADD (K := K) rfl) pe_int (pe_call G__law_below (hr.mono (by first | decide | omega)) (by rfl) T.m__law_below T.F__law_below.kp T.b__law_below .nil pass0 (pa_cons (pv 0) (pa_cons (pv 1) pa_nil)))))
      (pss_cons (ps_set (i := 4) sc__law_text.nd rfl (by first | exact Or.inl rfl | exact Or.inr rfl) (pe_op (kADD (K := K) rfl) (pv 2) (pe_op (kMUL (K := K) rfl) pe_str (pe_call G__law_below (hr.mono (by first | decide | omega)) (by rfl) T.m__law_below T.F__law_below.kp T.b__law_below .nil pass0 (pa_cons (pv 0) (pa_cons pe_int pa_nil))))))
      (pss_cons (ps_set (i := 5) sc__law_text.nd rfl (by first | exact Or.inl rfl | exact Or.inr rfl) (pe_bmk (K := K) rfl PySem.F.plainAttrs_str PySem.F.slot_str_join PySem.F.type_str_join (kJOIN (K := K) rfl) pe_str (pa_cons (pe_lc rfl sc__law_text.nd (pi_range1 (by rfl) T.g_range (pa_cons (pv 3) pa_nil)) (own := [("_law_k", 6)]) (@BlkOk.mk N__law_text (defScope s__law_text) _ _ rfl (by decide +kernel) (by decide +kernel) (by decide +kernel) (by decide +kernel)) (fun _ _ _ _ _ => (pg_name (i := 6) sc__law_text.nd rfl (by first | exact Or.inl rfl | exact Or.inr rfl))) (fun _ _ _ _ _ => pts_nil) (fun _ _ _ _ _ => (pe_ix (kIX (K := K) rfl) (pv 4) (pe_call G__law_below (hr.mono (by first | decide | omega)) (by rfl) T.m__law_below T.F__law_below.kp T.b__law_below .nil pass0 (pa_cons (pv 0) (pa_cons (pe_callB (kLEN (K := K) rfl) (by rfl) T.g_len boot_len (pa_cons (pv 4) pa_nil)) pa_nil))) (fun _ _ => rfl)))) pa_nil)))
      (pss_cons (ps_par (i := 7) (j := 8) rfl sc__law_text.nd rfl rfl (by decide) rfl rfl (pa_cons (pe_ix (kIX (K := K) rfl) (pv 2) (pe_call G__law_below (hr.mono (by first | decide | omega)) (by rfl) T.m__law_below T.F__law_below.kp T.b__law_below .nil pass0 (pa_cons (pv 0) (pa_cons (pe_callB (kLEN (K := K) rfl) (by rfl) T.g_len boot_len (pa_cons (pv 2) pa_nil)) pa_nil))) (fun _ _ => rfl)) (pa_cons (pe_ix (kIX (K := K) rfl) (pv 2) (pe_call G__law_below (hr.mono (by first | decide | omega)) (by rfl) T.m__law_below T.F__law_below.kp T.b__law_below .nil pass0 (pa_cons (pv 0) (pa_cons (pe_callB (kLEN (K := K) rfl) (by rfl) T.g_len boot_len (pa_cons (pv 2) pa_nil)) pa_nil))) (fun _ _ => rfl)) pa_nil)) (by rfl))
      (pss_one (ps_ret (pe_ifExp (pt_cmpR (kEQ (K := K) rfl hu64) (pv 3) pe_int (nomark _)) (pv 7) (pe_op (kADD (K := K) rfl) (pe_op (kADD (K := K) rfl) (pv 7) (pe_slice (kSLC (K := K) rfl) (pv 5) (po_some pe_int) (po_some (pe_un un_neg pe_int)))) (pv 8))))))))), ?_⟩
  rintro _ F ms Q Ea ⟨k, l, st, w, z, rfl, hk, hst, w0, w1, hz0, hz1, hzL, q⟩
  have hkl : k < ms.length := (List.getElem?_eq_some_iff.mp hk).1
  walk_at "al"
  refine ⟨k, l, st, w, rfl, hk, hst, by omega, by omega, fun st0 m hst0 m0 m1 => ?_⟩
  walk_at "al"
  refine ⟨k, l, st0, 3, rfl, set_get hkl, hst0, by decide, by decide, fun st1 n hst1 n0 n1 => ?_⟩
  refine ar_MULs (z := sp1) (by omega) (by omega) (by show 1 * n.toNat ≤ 100000; omega) ?_
  have l1 := mulS_len1 n
  refine ar_ADDs (i := z) (j := mulS sp1 n) (by omega) ?_
  have l2 : (z ++ mulS sp1 n).length = z.length + n.toNat := by rw [str_len_add, l1]
  walk_at "al"
  refine ae_bmS ?_
  walk_at "al"
  refine ae_lc (gw_name (by simp)) gm_name ?_
  refine ai_rng1 ?_
  walk_at "al"
  rw [set_set]
  refine ⟨1 + m, rfl, by omega, by omega, fun i F' ms' acc => ∃ (st2 : List D) (r : List Nat), ms' = ms.set k (l, .lst st2) ∧ St st2 ∧ acc = r.map (fun c => .str (sg c)) ∧ r.length = i ∧ ∀ c ∈ r, c = 32 ∨ c ∈ z.cps.toList, ⟨st1, [], rfl, hst1, rfl, rfl, fun _ h => (List.not_mem_nil h).elim⟩, fun _ _ _ _ _ _ => trivial, ?_, ?_⟩
  · rintro i d F' ms' acc e hd ⟨st2, r, rfl, hst2, rfl, hl, hrm⟩ F'' e''
    obtain ⟨hi, rfl⟩ := range_at hd
    refine ag_name ?_
    walk_at "al"
    refine ac_lenS (z := z ++ mulS sp1 n) (by omega) ?_
    walk_at "al"
    refine ⟨k, l, st2, _, rfl, set_get hkl, hst2, by omega, by omega, fun st3 j hst3 j0 j1 => ?_⟩
    obtain ⟨j, rfl⟩ : ∃ j' : Nat, j = j' := ⟨j.toNat, by omega⟩
    have hj : j < (z ++ mulS sp1 n).cps.toList.length := by
      have : (z ++ mulS sp1 n).cps.toList.length = (z ++ mulS sp1 n).length := rfl
      omega
    refine ar_ixS (z := z ++ mulS sp1 n) (c := (z ++ mulS sp1 n).cps.toList[j]) (by omega) (atI_of rfl (List.getElem?_eq_getElem hj)) ?_
    exact ⟨by rw [List.length_map]; omega, st3, r ++ [(z ++ mulS sp1 n).cps.toList[j]], set_set, hst3, by rw [List.map_append]; rfl, by rw [List.length_append, hl]; rfl, fun c hc => by
      rcases List.mem_append.mp hc with hc | hc
      · exact hrm c hc
      · rw [List.mem_singleton.mp hc]
        exact sign_mem (List.getElem_mem hj)⟩
  · rintro F' ms' acc e ⟨st2, r, rfl, hst2, rfl, hl, hrm⟩ F'' e''
    rw [range_len] at hl
    walk_at "al"
    refine am_join (ys := r.map sg) (.inl (.inl (by rw [List.map_map]; rfl))) ?_ ?_
    · have : ((r.map sg).map (·.length)).sum = r.length := by
        rw [List.map_map]
        exact sum_ones r
      have e0 : (Str.ofString "").length = 0 := rfl
      rw [this, List.length_map, e0]
      omega
    rw [join_sg]
    walk_at "al"
    have pick : ∀ {st3 : List D} {Q : QE} {F3 : Hp}, St st3 → (∀ st4 c, St st4 → Q F3 (ms.set k (l, .lst st4)) (.str (sg c))) → True := fun _ _ => trivial
    refine ac_lenS (z := z) (by omega) ?_
    walk_at "al"
    refine ⟨k, l, st2, _, rfl, set_get hkl, hst2, by omega, by omega, fun st3 j hst3 j0 j1 => ?_⟩
    obtain ⟨j, rfl⟩ : ∃ j' : Nat, j = j' := ⟨j.toNat, by omega⟩
    have hj : j < z.cps.toList.length := by
      have : z.cps.toList.length = z.length := rfl
      omega
    refine ar_ixS (z := z) (c := z.cps.toList[j]) (by omega) (atI_of rfl (List.getElem?_eq_getElem hj)) ?_
    walk_at "al"
    refine ac_lenS (z := z) (by omega) ?_
    walk_at "al"
    rw [set_set]
    refine ⟨k, l, st3, _, rfl, set_get hkl, hst3, by omega, by omega, fun st4 i hst4 i0 i1 => ?_⟩
    obtain ⟨i, rfl⟩ : ∃ i' : Nat, i = i' := ⟨i.toNat, by omega⟩
    have hi : i < z.cps.toList.length := by
      have : z.cps.toList.length = z.length := rfl
      omega
    refine ar_ixS (z := z) (c := z.cps.toList[i]) (by omega) (atI_of rfl (List.getElem?_eq_getElem hi)) ?_
    walk_at "al"
    rw [set_set]
    have lr : (⟨r.toArray⟩ : Str).length = r.length := List.size_toArray ..
    by_cases hm : 1 + m = 1
    · refine and_dT hm ?_
      walk_at "al"
      exact q st4 F'' _ (e.trans e'') hst4 (ok_one (hzL _ (List.getElem_mem hj)) (by omega)) (z_one (List.getElem_mem hj))
    · refine and_dF hm ?_
      walk_at "al"
      refine ae_sl ?_
      walk_at "al"
      refine ao_some ?_
      walk_at "al"
      refine ao_some ?_
      refine ae_neg (g := fun i => -i) (fun _ => rfl) ?_
      walk_at "al"
      refine sl_S (by omega) ?_
      have hcut := cut_len (z := ⟨r.toArray⟩) (by omega)
      refine ar_ADDs (i := sg _) (by show 1 + _ ≤ 100000; omega) ?_
      walk_at "al"
      have h3 : ∀ a : Nat, (sg a ++ cutS ⟨r.toArray⟩ (some 1) (some (-1))).length = 1 + (cutS ⟨r.toArray⟩ (some 1) (some (-1))).length := fun a => str_len_add _ _
      refine ar_ADDs (j := sg _) (by rw [h3]; show _ + 1 ≤ 100000; omega) ?_
      exact q st4 F'' _ (e.trans e'') hst4 (ok_ends (hzL _ (List.getElem_mem hj)) (hzL _ (List.getElem_mem hi)) (fun c hc => (hrm c (cut_mem hc)).imp id fun h => hzL c h) (by omega)) (z_ends (List.getElem_mem hj) (List.getElem_mem hi) fun c hc => hrm c (cut_mem hc))
theorem ok__law_texts (T : Txt K mg) (G__law_below : OK__law_below P w base T) (G__law_text : OK__law_text P w base T) : OK__law_texts P w base T := by
  refine fn_ok T.F__law_texts sc__law_texts (by rintro _ _ _ _ _ ⟨k, l, st, w, z, rfl, _⟩; rfl) (fun cdv A outer s H E hr => ?_)
  have hu64 := hr.units
  refine ⟨_, (pss_one (ps_ret (pe_callTy (kTUPLE (K := K) rfl) (by rfl) T.g_tuple boot_tuple (pa_cons (pe_lc rfl sc__law_texts.nd (pi_range1 (by rfl) T.g_range (pa_cons (pe_op (kADD (K := K) rfl) pe_int (pe_call G__law_below (hr.mono (by first | decide | omega)) (by rfl) T.m__law_below T.F__law_below.kp T.b__law_below .nil pass0 (pa_cons (pv 0) (pa_cons (pv 1) pa_nil)))) pa_nil)) (own := [("_law_k", 4)]) (@BlkOk.mk N__law_texts (defScope s__law_texts) _ _ rfl (by decide +kernel) (by decide +kernel) (by decide +kernel) (by decide +kernel)) (fun _ _ _ _ _ => (pg_name (i := 4) sc__law_texts.nd rfl (by first | exact Or.inl rfl | exact Or.inr rfl))) (fun _ _ _ _ _ => pts_nil) (fun _ _ _ _ _ => (pe_call G__law_text (hr.mono (by first | decide | omega)) (by rfl) T.m__law_text T.F__law_text.kp T.b__law_text .nil pass0 (pa_cons (pv 0) (pa_cons (pv 2) (pa_cons (pv 3) pa_nil)))))) pa_nil)))), ?_⟩
  rintro _ F ms Q Ea ⟨k, l, st, w, z, rfl, hk, hst, w0, w1, hz0, hz1, hzL, q⟩
  have hkl : k < ms.length := (List.getElem?_eq_some_iff.mp hk).1
  walk_at "al"
  refine ae_lc (gw_name (by simp)) gm_name ?_
  refine ai_rng1 ?_
  walk_at "al"
  refine ⟨k, l, st, 5, rfl, hk, hst, by decide, by decide, fun st1 n hst1 n0 n1 => ?_⟩
  walk_at "al"
  refine ⟨1 + n, rfl, by omega, by omega, fun i F' ms' acc => ∃ (st2 : List D) (ts : List Str), ms' = ms.set k (l, .lst st2) ∧ St st2 ∧ acc = ts.map D.str ∧ ts.length = i ∧ (∀ t ∈ ts, textOk w t) ∧ (∀ t ∈ ts, textZ z t), ⟨st1, [], rfl, hst1, rfl, rfl, fun _ h => (List.not_mem_nil h).elim, fun _ h => (List.not_mem_nil h).elim⟩, fun _ _ _ _ _ _ => trivial, ?_, ?_⟩
  · rintro i d F' ms' acc e hd ⟨st2, ts, rfl, hst2, rfl, hl, ht, htz⟩ F'' e''
    obtain ⟨hi, rfl⟩ := range_at hd
    refine ag_name ?_
    walk_at "al"
    refine ⟨k, l, st2, w, z, rfl, set_get hkl, hst2, w0, w1, hz0, hz1, hzL, fun st3 F3 r e3 hst3 hr hrz => ?_⟩
    rw [set_set]
    exact ⟨by rw [List.length_map]; omega, st3, ts ++ [r], rfl, hst3, by rw [List.map_append]; rfl, by rw [List.length_append, hl]; rfl, fun t h => by
      rcases List.mem_append.mp h with h | h
      · exact ht t h
      · rw [List.mem_singleton.mp h]; exact hr, fun t h => by
      rcases List.mem_append.mp h with h | h
      · exact htz t h
      · rw [List.mem_singleton.mp h]; exact hrz⟩
  · rintro F' ms' acc e ⟨st2, ts, rfl, hst2, rfl, hl, ht, htz⟩ F'' e''
    rw [range_len] at hl
    walk_at "al"
    refine ac_tupleL (.inl rfl) fun F3 e3 => ?_
    exact q st2 F3 ts ((e.trans e'').trans e3) hst2 (by omega) (by omega) ht htz
end

theorem lt1 {a b : Nat} : (sg a).cps.toList < (sg b).cps.toList ↔ a < b := by
  show ([a] : List Nat) < [b] ↔ a < b
  rw [List.cons_lt_cons_iff]
  simp
theorem minS_comm (a b : Nat) : minS (sg a) (sg b) = minS (sg b) (sg a) := by
  unfold minS
  rcases Nat.lt_trichotomy a b with h | h | h
  · rw [if_neg (fun z => by have := lt1.mp z; omega), if_pos (lt1.mpr h)]
  · subst h; rfl
  · rw [if_pos (lt1.mpr h), if_neg (fun z => by have := lt1.mp z; omega)]
theorem minS_self (a : Nat) : minS (sg a) (sg a) = sg a := by unfold minS; split <;> rfl
theorem minS_min (a b : Nat) : minS (sg a) (sg b) = sg (min a b) := by
  unfold minS
  by_cases h : b < a
  · rw [if_pos (lt1.mpr h), Nat.min_eq_right (Nat.le_of_lt h)]
  · rw [if_neg (fun z => h (lt1.mp z)), Nat.min_eq_left (Nat.le_of_not_lt h)]
theorem pieceS_pc (ps : List Pr) (c : Nat) : pieceS ps c = sg (pc ps c) := by
  unfold pieceS pc
  cases ps.find? fun p => c = p.1 ∨ c = p.2 with
  | none => rfl
  | some p => exact minS_min _ _
theorem sg_inj {a b : Nat} : sg a = sg b ↔ a = b := ⟨fun q => by
  have e : [a] = [b] := congrArg (fun s : Str => s.cps.toList) q
  simpa using e, fun e => by rw [e]⟩
section
variable {P : Program} {w : World} {K : Frg} {mg : Str → Option Value} {base : Heap}
theorem ok_Sign_piece (T : Txt K mg) : OK_Sign_piece P w base T := by
  refine fn_ok T.F_Sign_piece sc_Sign_piece (by rintro _ _ _ _ _ ⟨x, w, ps, c, rfl, _⟩; rfl) (fun cdv A outer s H E hr => ?_)
  have hu64 := hr.units
  refine ⟨_, (pss_one (ps_ret (pe_callB (call_MIN rfl) (by rfl) T.g_min boot_min (pa_cons (pv 1) (pa_cons (pe_dget2 (hu_of hr) (pe_fldk (K := K) rfl (pv 0) (by rfl)) (pv 1) (pv 1) ⟨rfl, rfl, rfl, rfl⟩) pa_nil))))), ?_⟩
  rintro _ F ms Q Ea ⟨x, w, ps, c, rfl, ⟨i, j, m, hi, hj⟩, q⟩
  walk_at "al"
  refine ae_dget2 ?_
  refine ae_fld ?_
  walk_at "al"
  refine ⟨x, T.c_Sign, fldS m w ps, .ref m, rfl, .inr ⟨i, hi⟩, T.k_Sign, T.n_Sign_mates, rfl, ?_⟩
  refine ⟨kvsOf ps, .inr ⟨j, m, rfl, hj⟩, ?_⟩
  walk_at "al"
  refine ⟨kS c, rfl, .inr ⟨j, m, rfl, hj⟩, ?_⟩
  rw [val_kvs]
  unfold pieceS at q
  cases hf : ps.find? fun p => c = p.1 ∨ c = p.2 with
  | none =>
    rw [hf] at q
    show AA _ tNil _ _ _ _
    walk_at "al"
    refine ac_minS (j := sg c) ?_
    rw [minS_self]
    exact q
  | some p =>
    rw [hf] at q
    show AA _ tNil _ _ _ _
    walk_at "al"
    refine ac_minS (j := sg (if c = p.1 then p.2 else p.1)) ?_
    have hp := List.find?_some hf
    simp only [decide_eq_true_eq] at hp
    have e : minS (sg c) (sg (if c = p.1 then p.2 else p.1)) = minS (sg p.1) (sg p.2) := by
      rcases hp with h | h
      · subst h; rw [if_pos rfl]
      · by_cases h1 : c = p.1
        · rw [if_pos h1, ← h1]
        · rw [if_neg h1, h, minS_comm]
    rw [e]
    exact q
end
theorem sorted_uniq : ∀ {xs ys : List Nat}, xs.Pairwise (· ≤ ·) → ys.Pairwise (· ≤ ·) → xs.Perm ys → xs = ys
  | [], ys, _, _, p => p.nil_eq
  | x :: xs, [], _, _, p => by have := p.length_eq; simp at this
  | x :: xs, y :: ys, h1, h2, p => by
    have hx := List.pairwise_cons.mp h1
    have hy := List.pairwise_cons.mp h2
    have m1 : x ∈ y :: ys := p.mem_iff.mp (List.mem_cons_self ..)
    have m2 : y ∈ x :: xs := p.mem_iff.mpr (List.mem_cons_self ..)
    have e : x = y := by
      rcases List.mem_cons.mp m1 with e | e
      · exact e
      · rcases List.mem_cons.mp m2 with e2 | e2
        · exact e2.symm
        · exact Nat.le_antisymm (hx.1 _ e2) (hy.1 _ e)
    subst e
    rw [sorted_uniq hx.2 hy.2 (List.Perm.cons_inv p)]
theorem sorted_sg : ∀ {cs : List Nat}, sortedS (cs.map sg) = true → cs.Pairwise (· ≤ ·)
  | [], _ => List.Pairwise.nil
  | [c], _ => List.pairwise_singleton ..
  | a :: b :: r, h => by
    have h2 : (!ltCps (sg b).cps.toList (sg a).cps.toList && sortedS ((b :: r).map sg)) = true := h
    rw [Bool.and_eq_true] at h2
    have ih := sorted_sg (cs := b :: r) h2.2
    have hab : a ≤ b := by
      have := h2.1
      by_cases z : b < a
      · exfalso
        have e : ltCps (sg b).cps.toList (sg a).cps.toList = true := by
          show ltCps [b] [a] = true
          simp [ltCps, z]
        rw [e] at this
        cases this
      · omega
    refine List.pairwise_cons.mpr ⟨fun c hc => ?_, ih⟩
    rcases List.mem_cons.mp hc with rfl | hc
    · exact hab
    · exact Nat.le_trans hab ((List.pairwise_cons.mp ih).1 c hc)
theorem perm_sg {ys : List Str} {xs : List Nat} (h : ys.Perm (xs.map sg)) : ∃ cs : List Nat, ys = cs.map sg ∧ cs.Perm xs := by
  have hall : ∀ y ∈ ys, ∃ c, y = sg c := fun y hy => by
    obtain ⟨c, _, hc⟩ := List.mem_map.mp (h.mem_iff.mp hy)
    exact ⟨c, hc.symm⟩
  obtain ⟨cs, rfl⟩ : ∃ cs : List Nat, ys = cs.map sg := by
    clear h
    induction ys with
    | nil => exact ⟨[], rfl⟩
    | cons y ys ih =>
      obtain ⟨c, rfl⟩ := hall y (List.mem_cons_self ..)
      obtain ⟨cs, rfl⟩ := ih fun z hz => hall z (List.mem_cons_of_mem _ hz)
      exact ⟨c :: cs, rfl⟩
  refine ⟨cs, rfl, ?_⟩
  have h2 := h.map (fun s : Str => s.cps.toList.headD 0)
  rw [List.map_map, List.map_map] at h2
  have hid : ((fun s : Str => s.cps.toList.headD 0) ∘ sg) = (id : Nat → Nat) := rfl
  rw [hid, List.map_id, List.map_id] at h2
  exact h2
section
variable {P : Program} {w : World} {K : Frg} {mg : Str → Option Value} {base : Heap}
end

theorem kS_dec (a b : Nat) : decide (kS a = kS b) = decide (a = b) := by
  by_cases e : a = b
  · rw [e]; simp
  · rw [decide_eq_false e, decide_eq_false fun h => e (kS_inj.mp h).symm]
theorem valD_cnt (c : Nat) (z : D) : ∀ m : Cn, (valD (cntD m) (kS c)).getD (.int 0) = .int (valC m c)
  | [] => rfl
  | p :: m => by
    have ih := valD_cnt c z m
    unfold valD cntD valC at ih ⊢
    rw [List.map_cons, List.find?_cons, List.find?_cons, kS_dec]
    cases e : decide (p.1 = c) with
    | true => rfl
    | false => exact ih
theorem any_cnt (c : Nat) : ∀ m : Cn, ((cntD m).any fun kv => decide (kv.1 = kS c)) = m.any fun p => decide (p.1 = c)
  | [] => rfl
  | p :: m => by
    have ih := any_cnt c m
    unfold cntD at ih ⊢
    rw [List.map_cons, List.any_cons, List.any_cons, ih, kS_dec]
theorem put_cnt (m : Cn) (c : Nat) (z : Int) : putKD (cntD m) (kS c) (.int z) = cntD (setC m c z) := by
  unfold putKD setC
  rw [any_cnt]
  cases m.any fun p => decide (p.1 = c) with
  | false => simp [cntD]
  | true =>
    rw [if_pos rfl, if_pos rfl]
    unfold cntD
    rw [List.map_map, List.map_map]
    apply List.map_congr_left
    rintro ⟨a, y⟩ _
    show (if kS a = kS c then (kS a, D.int z) else (kS a, D.int y)) = (kS (if a = c then (a, z) else (a, y)).1, D.int (if a = c then (a, z) else (a, y)).2)
    by_cases e : a = c
    · rw [if_pos e, if_pos (by rw [e])]
    · rw [if_neg e, if_neg fun h => e (kS_inj.mp h).symm]
theorem setC_len (m : Cn) (c : Nat) (z : Int) : (setC m c z).length ≤ m.length + 1 := by
  unfold setC
  split
  · rw [List.length_map]; omega
  · rw [List.length_append]; exact Nat.le_refl _
theorem setC_new {m : Cn} {c : Nat} {z : Int} (h : ∀ r ∈ m, r.1 ≠ c) : setC m c z = m ++ [(c, z)] := by
  unfold setC
  have : m.any (fun p => decide (p.1 = c)) = false := by
    rw [List.any_eq_false]
    intro r hr
    simpa using h r hr
  rw [this]
  rfl
theorem nd_take {m : Cn} (h : (m.map (·.1)).Nodup) {i : Nat} {p : Nat × Int} (hp : m[i]? = some p) : ∀ r ∈ m.take i, r.1 ≠ p.1 := by
  obtain ⟨hi, e⟩ := List.getElem?_eq_some_iff.mp hp
  have hs : m = m.take i ++ p :: m.drop (i + 1) := by rw [← e, List.getElem_cons_drop, List.take_append_drop]
  rw [hs, List.map_append, List.nodup_append] at h
  intro r hr
  exact h.2.2 r.1 (List.mem_map_of_mem hr) p.1 (by simp)
theorem setC_nd {m : Cn} (c : Nat) (z : Int) (h : (m.map (·.1)).Nodup) : ((setC m c z).map (·.1)).Nodup := by
  unfold setC
  cases e : m.any fun p => decide (p.1 = c) with
  | true =>
    rw [if_pos rfl, List.map_map]
    have : m.map ((fun p : Nat × Int => p.1) ∘ fun p => if p.1 = c then (p.1, z) else p) = m.map (·.1) := by
      apply List.map_congr_left
      intro p _
      show (if p.1 = c then (p.1, z) else p).1 = p.1
      split <;> rfl
    rw [this]
    exact h
  | false =>
    rw [if_neg (by decide), List.map_append, List.nodup_append]
    rw [List.any_eq_false] at e
    refine ⟨h, by simp, ?_⟩
    intro a ha b hb
    obtain ⟨p, hp, rfl⟩ := List.mem_map.mp ha
    have hb : b = c := by simpa using hb
    subst hb
    simpa using e p hp
section
variable {P : Program} {w : World} {K : Frg} {mg : Str → Option Value} {base : Heap}
end

section
variable {P : Program} {w : World} {K : Frg} {mg : Str → Option Value} {base : Heap}
end
section
variable {P : Program} {w : World} {K : Frg} {mg : Str → Option Value} {base : Heap}
theorem str1 {z : Str} (h : z.length = 1) : ∃ c, z = sg c := by
  obtain ⟨⟨l⟩⟩ := z
  match l, h with
  | [c], _ => exact ⟨c, rfl⟩
end
theorem sg32 (c : Nat) : (sg c = Str.ofString " ") = (c = 32) := by
  rw [show Str.ofString " " = sg 32 from rfl]
  exact propext sg_inj
theorem okL_sg : ∀ {cs : List Nat}, (∀ c ∈ cs, c < 128) → okL (cs.map fun c => D.str (sg c)) = true
  | [], _ => rfl
  | c :: cs, h => by
    have e : okD (.str (sg c)) = true := okS fun x hx => by
      have hx : x ∈ [c] := hx
      rw [List.mem_singleton.mp hx]
      exact h c (List.mem_cons_self ..)
    show (okD (.str (sg c)) && okL (cs.map fun c => D.str (sg c))) = true
    rw [e, okL_sg fun y hy => h y (List.mem_cons_of_mem _ hy)]
    rfl
theorem eqv_nil' (cs : List Nat) : eqvD (.lst (cs.map fun c => D.str (sg c))) (.lst []) = decide (cs = []) := by
  cases cs with
  | nil => rfl
  | cons c cs => simp [eqvD, toPy, toPyL, PyData.eqv, PyData.eqvAll]
theorem depL_sg : ∀ cs : List Nat, depL (cs.map fun c => D.str (sg c)) = 0
  | [] => rfl
  | c :: cs => by show max 0 (depL (cs.map fun c => D.str (sg c))) = 0; rw [depL_sg cs]; rfl
section
variable {P : Program} {w : World} {K : Frg} {mg : Str → Option Value} {base : Heap}
end

theorem valC_set (m : Cn) (c d : Nat) (z : Int) : valC (setC m c z) d = if d = c then z else valC m d := by
  unfold setC
  cases e : m.any fun p => decide (p.1 = c) with
  | true =>
    rw [if_pos rfl]
    induction m with
    | nil => cases e
    | cons p m ih =>
      unfold valC at ih ⊢
      rw [List.map_cons, List.find?_cons]
      by_cases hp : p.1 = c
      · rw [if_pos hp]
        by_cases hd : d = c
        · subst hd
          rw [if_pos rfl, show decide ((p.1, z).1 = d) = true from decide_eq_true hp]
          rfl
        · rw [if_neg hd, show decide ((p.1, z).1 = d) = false from decide_eq_false fun h => hd (h.symm.trans hp), List.find?_cons, show decide (p.1 = d) = false from decide_eq_false fun h => hd (h.symm.trans hp)]
          show ((m.map fun p => if p.1 = c then (p.1, z) else p).find? _ |>.map _).getD 0 = _
          have gen : ∀ m : Cn, ((m.map fun p => if p.1 = c then (p.1, z) else p).find? fun p => decide (p.1 = d)) = m.find? fun p => decide (p.1 = d) := by
            intro m
            induction m with
            | nil => rfl
            | cons q m ih2 =>
              rw [List.map_cons, List.find?_cons, List.find?_cons]
              by_cases hq : q.1 = c
              · rw [if_pos hq, show decide ((q.1, z).1 = d) = false from decide_eq_false fun h => hd (h.symm.trans hq)]
                exact ih2
              · rw [if_neg hq]
                by_cases hqd : q.1 = d
                · rw [show decide (q.1 = d) = true from decide_eq_true hqd]
                · rw [show decide (q.1 = d) = false from decide_eq_false hqd]
                  exact ih2
          rw [gen]
      · rw [if_neg hp, List.find?_cons]
        by_cases hpd : p.1 = d
        · rw [show decide (p.1 = d) = true from decide_eq_true hpd, if_neg (fun h => hp (hpd.trans h))]
        · rw [show decide (p.1 = d) = false from decide_eq_false hpd]
          refine ih ?_
          rw [List.any_cons, decide_eq_false hp, Bool.false_or] at e
          exact e
  | false =>
    rw [if_neg (by decide)]
    rw [List.any_eq_false] at e
    unfold valC
    rw [List.find?_append]
    by_cases hd : d = c
    · subst hd
      rw [if_pos rfl, List.find?_eq_none.mpr e, Option.none_or, List.find?_cons, show decide ((d, z).1 = d) = true from decide_eq_true rfl]
      rfl
    · rw [if_neg hd, List.find?_cons, show decide ((c, z).1 = d) = false from decide_eq_false (Ne.symm hd)]
      cases m.find? fun p => decide (p.1 = d) <;> rfl
theorem valC_mem {m : Cn} (nd : (m.map (·.1)).Nodup) : ∀ p ∈ m, valC m p.1 = p.2 := by
  induction m with
  | nil => intro p hp; cases hp
  | cons q m ih =>
    intro p hp
    rw [List.map_cons, List.nodup_cons] at nd
    unfold valC at ih ⊢
    rw [List.find?_cons]
    rcases List.mem_cons.mp hp with rfl | hp
    · rw [decide_eq_true rfl]; rfl
    · have hne : q.1 ≠ p.1 := fun e => nd.1 (List.mem_map.mpr ⟨p, hp, e.symm⟩)
      rw [decide_eq_false hne]
      exact ih nd.2 p hp
theorem mem_valC {m : Cn} {c : Nat} (h : valC m c ≠ 0) : (c, valC m c) ∈ m := by
  unfold valC at h ⊢
  cases e : m.find? fun p => decide (p.1 = c) with
  | none => rw [e] at h; exact absurd rfl h
  | some p =>
    have h1 := List.mem_of_find?_eq_some e
    have h2 : p.1 = c := of_decide_eq_true (List.find?_some (p := fun p : Nat × Int => decide (p.1 = c)) e)
    show (c, p.2) ∈ m
    rw [← h2]
    exact h1
theorem setC_mem {m : Cn} {c : Nat} {z : Int} {p : Nat × Int} (h : p ∈ setC m c z) : p ∈ m ∨ p = (c, z) := by
  unfold setC at h
  split at h
  · obtain ⟨q, hq, rfl⟩ := List.mem_map.mp h
    split
    · rename_i e; rw [e]; exact .inr rfl
    · exact .inl hq
  · rcases List.mem_append.mp h with h | h
    · exact .inl h
    · exact .inr (List.mem_singleton.mp h)
/-! the letters of a text -/
noncomputable def stepL (ps : List Pr) (m : Cn) (a : Nat) : Cn := if a = 32 then m else setC m (pc ps a) (valC m (pc ps a) + 1)
theorem letF_step (ps : List Pr) : ∀ (cs : List Nat) (m : Cn), (cs.filter fun a => decide (a ≠ 32)).foldl (fun m a => setC m (pc ps a) (valC m (pc ps a) + 1)) m = cs.foldl (stepL ps) m
  | [], m => rfl
  | a :: cs, m => by
    rw [List.filter_cons, List.foldl_cons]
    unfold stepL
    by_cases h : a = 32
    · rw [if_neg (by simp [h]), if_pos h]
      exact letF_step ps cs m
    · rw [if_pos (by simp [h]), if_neg h, List.foldl_cons]
      exact letF_step ps cs _
theorem letF_eq (ps : List Pr) (cs : List Nat) : letF ps cs = cs.foldl (stepL ps) [] := letF_step ps cs []
noncomputable def cntL (ps : List Pr) (cs : List Nat) (c : Nat) : Int := ((cs.countP fun a => decide (a ≠ 32) && decide (pc ps a = c) : Nat) : Int)
theorem fold_val (ps : List Pr) (c : Nat) : ∀ (cs : List Nat) (m : Cn), valC (cs.foldl (stepL ps) m) c = valC m c + cntL ps cs c
  | [], m => by simp [cntL]
  | a :: cs, m => by
    rw [List.foldl_cons, fold_val ps c cs]
    unfold cntL stepL
    rw [List.countP_cons]
    by_cases h : a = 32
    · rw [if_pos h]
      simp [h]
    · rw [if_neg h, valC_set]
      by_cases hc : c = pc ps a
      · subst hc
        simp [h]
        omega
      · rw [if_neg hc]
        simp [h, Ne.symm hc]
theorem let_val (ps : List Pr) (cs : List Nat) (c : Nat) : valC (letF ps cs) c = cntL ps cs c := by
  rw [letF_eq, fold_val]
  show 0 + _ = _
  omega
theorem fold_ok (ps : List Pr) : ∀ (cs : List Nat) (m : Cn), (m.map (·.1)).Nodup → (∀ p ∈ m, 0 < p.2) → ((cs.foldl (stepL ps) m).map (·.1)).Nodup ∧ (∀ p ∈ cs.foldl (stepL ps) m, 0 < p.2) ∧ (cs.foldl (stepL ps) m).length ≤ m.length + cs.length
  | [], m, h1, h2 => ⟨h1, h2, Nat.le_refl _⟩
  | a :: cs, m, h1, h2 => by
    rw [List.foldl_cons]
    have h3 : ((stepL ps m a).map (·.1)).Nodup := by
      unfold stepL
      split
      · exact h1
      · exact setC_nd _ _ h1
    have h4 : ∀ p ∈ stepL ps m a, 0 < p.2 := by
      unfold stepL
      split
      · exact h2
      · intro p hp
        rcases setC_mem hp with hp | rfl
        · exact h2 p hp
        · show 0 < valC m (pc ps a) + 1
          by_cases hz : valC m (pc ps a) = 0
          · omega
          · have := h2 _ (mem_valC hz)
            have : 0 < valC m (pc ps a) := this
            omega
    have h5 : (stepL ps m a).length ≤ m.length + 1 := by
      unfold stepL
      split
      · omega
      · exact setC_len _ _ _
    obtain ⟨i1, i2, i3⟩ := fold_ok ps cs _ h3 h4
    exact ⟨i1, i2, by rw [List.length_cons]; omega⟩
theorem let_ok (ps : List Pr) (cs : List Nat) : ((letF ps cs).map (·.1)).Nodup ∧ (∀ p ∈ letF ps cs, 0 < p.2) ∧ (letF ps cs).length ≤ cs.length := by
  have := fold_ok ps cs [] (by simp) (fun p hp => by cases hp)
  rw [letF_eq]
  refine ⟨this.1, this.2.1, ?_⟩
  have := this.2.2
  simpa using this
/-! the most of all texts -/
noncomputable def stepX (M : Cn) (p : Nat × Int) : Cn := setC M p.1 (max p.2 (valC M p.1))
noncomputable def mostF (ps : List Pr) (ts : List Str) : Cn := ts.foldl (fun M t => (letF ps t.cps.toList).foldl stepX M) []
theorem stepX_val (M : Cn) (p : Nat × Int) (d : Nat) : valC (stepX M p) d = if d = p.1 then max p.2 (valC M d) else valC M d := by
  unfold stepX
  rw [valC_set]
  by_cases h : d = p.1
  · rw [if_pos h, if_pos h, h]
  · rw [if_neg h, if_neg h]
theorem foldX_val (d : Nat) : ∀ (L : Cn) (M : Cn), (L.map (·.1)).Nodup → (∀ p ∈ L, 0 < p.2) → 0 ≤ valC M d → valC (L.foldl stepX M) d = max (valC M d) (valC L d)
  | [], M, _, _, h => by
    show valC M d = max (valC M d) 0
    omega
  | p :: L, M, nd, hp, h => by
    rw [List.map_cons, List.nodup_cons] at nd
    have hM : 0 ≤ valC (stepX M p) d := by
      rw [stepX_val]
      split
      · omega
      · exact h
    rw [List.foldl_cons, foldX_val d L _ nd.2 (fun q hq => hp q (List.mem_cons_of_mem _ hq)) hM, stepX_val]
    by_cases hd : d = p.1
    · rw [if_pos hd]
      have e1 : valC L d = 0 := by
        by_cases hz : valC L d = 0
        · exact hz
        · exact absurd (List.mem_map.mpr ⟨_, mem_valC hz, hd⟩) nd.1
      have e2 : valC (p :: L) d = p.2 := by
        unfold valC
        rw [List.find?_cons, show decide (p.1 = d) = true from decide_eq_true hd.symm]
        rfl
      have := hp p (List.mem_cons_self ..)
      rw [e1, e2]
      omega
    · rw [if_neg hd]
      have e2 : valC (p :: L) d = valC L d := by
        unfold valC
        rw [List.find?_cons, show decide (p.1 = d) = false from decide_eq_false (Ne.symm hd)]
      rw [e2]
theorem most_gen (ps : List Pr) (d : Nat) : ∀ (ts : List Str) (M : Cn), 0 ≤ valC M d → valC (ts.foldl (fun M t => (letF ps t.cps.toList).foldl stepX M) M) d = ts.foldl (fun m t => max m (cntP ps t d)) (valC M d)
  | [], M, _ => rfl
  | t :: ts, M, h => by
    obtain ⟨l1, l2, _⟩ := let_ok ps t.cps.toList
    have e := foldX_val d (letF ps t.cps.toList) M l1 l2 h
    rw [let_val] at e
    rw [List.foldl_cons, List.foldl_cons, most_gen ps d ts _ (by rw [e]; omega), e]
    rfl
theorem most_val (ps : List Pr) (ts : List Str) (d : Nat) : valC (mostF ps ts) d = needC ps ts d := most_gen ps d ts [] (Int.le_refl _)
theorem foldX_ok : ∀ (L : Cn) (M : Cn), (M.map (·.1)).Nodup → (∀ p ∈ M, 0 < p.2) → (∀ p ∈ L, 0 < p.2) → ((L.foldl stepX M).map (·.1)).Nodup ∧ (∀ p ∈ L.foldl stepX M, 0 < p.2) ∧ (L.foldl stepX M).length ≤ M.length + L.length
  | [], M, h1, h2, _ => ⟨h1, h2, Nat.le_refl _⟩
  | p :: L, M, h1, h2, h3 => by
    rw [List.foldl_cons]
    have hp := h3 p (List.mem_cons_self ..)
    obtain ⟨i1, i2, i3⟩ := foldX_ok L (stepX M p) (setC_nd _ _ h1) (fun q hq => by
      rcases setC_mem hq with hq | rfl
      · exact h2 q hq
      · show 0 < max p.2 (valC M p.1)
        omega) (fun q hq => h3 q (List.mem_cons_of_mem _ hq))
    have := setC_len M p.1 (max p.2 (valC M p.1))
    have : (stepX M p).length ≤ M.length + 1 := this
    exact ⟨i1, i2, by rw [List.length_cons]; omega⟩
theorem most_ok (ps : List Pr) : ∀ (ts : List Str) (M : Cn), (M.map (·.1)).Nodup → (∀ p ∈ M, 0 < p.2) → ((ts.foldl (fun M t => (letF ps t.cps.toList).foldl stepX M) M).map (·.1)).Nodup ∧ (∀ p ∈ ts.foldl (fun M t => (letF ps t.cps.toList).foldl stepX M) M, 0 < p.2)
  | [], M, h1, h2 => ⟨h1, h2⟩
  | t :: ts, M, h1, h2 => by
    rw [List.foldl_cons]
    obtain ⟨l1, l2, _⟩ := let_ok ps t.cps.toList
    obtain ⟨i1, i2, _⟩ := foldX_ok (letF ps t.cps.toList) M h1 h2 l2
    exact most_ok ps ts _ i1 i2
theorem need_of {ps : List Pr} {ts : List Str} {cs : List Nat} (hp : cs.Perm ((mostF ps ts).map (·.1))) (hs : cs.Pairwise (· ≤ ·)) : NeedOk ps ts (cs.map fun c => (c, valC (mostF ps ts) c)) := by
  obtain ⟨m1, m2⟩ := most_ok ps ts [] (by simp) (fun p hp => by cases hp)
  have m1 : ((mostF ps ts).map (·.1)).Nodup := m1
  have m2 : ∀ p ∈ mostF ps ts, 0 < p.2 := m2
  have hnd : cs.Nodup := hp.nodup_iff.mpr m1
  refine ⟨?_, fun p => ?_⟩
  · rw [List.map_map]
    have : cs.map ((fun p : Nat × Int => p.1) ∘ fun c => (c, valC (mostF ps ts) c)) = cs := by
      have : ((fun p : Nat × Int => p.1) ∘ fun c => (c, valC (mostF ps ts) c)) = id := rfl
      rw [this, List.map_id]
    rw [this]
    exact (List.Pairwise.and hs hnd).imp fun ⟨a, b⟩ => Nat.lt_of_le_of_ne a b
  · rw [List.mem_map]
    constructor
    · rintro ⟨c, hc, rfl⟩
      obtain ⟨q, hq, e⟩ := List.mem_map.mp (hp.mem_iff.mp hc)
      have e : q.1 = c := e
      refine ⟨most_val ps ts c, ?_⟩
      show 0 < valC (mostF ps ts) c
      rw [← e, valC_mem m1 q hq]
      exact m2 q hq
    · rintro ⟨h1, h2⟩
      rw [← most_val] at h1
      have hz : valC (mostF ps ts) p.1 ≠ 0 := by omega
      refine ⟨p.1, hp.mem_iff.mpr (List.mem_map.mpr ⟨_, mem_valC hz, rfl⟩), ?_⟩
      rw [← h1]
/-- what is needed is told by its entries -/
theorem need_uniq : ∀ {a b : Cn}, (a.map (·.1)).Pairwise (· < ·) → (b.map (·.1)).Pairwise (· < ·) → (∀ p, p ∈ a ↔ p ∈ b) → a = b
  | [], [], _, _, _ => rfl
  | [], y :: ys, _, _, h => absurd ((h y).mpr (List.mem_cons_self ..)) List.not_mem_nil
  | x :: xs, [], _, _, h => absurd ((h x).mp (List.mem_cons_self ..)) List.not_mem_nil
  | x :: xs, y :: ys, h1, h2, h => by
    rw [List.map_cons] at h1 h2
    obtain ⟨a1, a2⟩ := List.pairwise_cons.mp h1
    obtain ⟨b1, b2⟩ := List.pairwise_cons.mp h2
    have e : x = y := by
      rcases List.mem_cons.mp ((h x).mp (List.mem_cons_self ..)) with e | e
      · exact e
      · rcases List.mem_cons.mp ((h y).mpr (List.mem_cons_self ..)) with e2 | e2
        · exact e2.symm
        · have := a1 _ (List.mem_map_of_mem e2)
          have := b1 _ (List.mem_map_of_mem e)
          omega
    subst e
    rw [need_uniq a2 b2 fun p => ⟨fun hp => ?_, fun hp => ?_⟩]
    · rcases List.mem_cons.mp ((h p).mp (List.mem_cons_of_mem _ hp)) with e | e
      · have := a1 _ (List.mem_map_of_mem hp)
        rw [e] at this
        omega
      · exact e
    · rcases List.mem_cons.mp ((h p).mpr (List.mem_cons_of_mem _ hp)) with e | e
      · have := b1 _ (List.mem_map_of_mem hp)
        rw [e] at this
        omega
      · exact e
/-! what one has -/
noncomputable def stepH (ps : List Pr) (m : Cn) (p : Nat × Int) : Cn := setC m (pc ps p.1) (valC m (pc ps p.1) + p.2)
theorem have_val (ps : List Pr) (c : Nat) : ∀ (st : Cn) (m : Cn), valC (st.foldl (stepH ps) m) c = valC m c + haveC ps st c
  | [], m => by simp [haveC]
  | p :: st, m => by
    rw [List.foldl_cons, have_val ps c st]
    unfold stepH haveC
    rw [valC_set, List.filter_cons]
    by_cases h : c = pc ps p.1
    · rw [if_pos h, if_pos (decide_eq_true h.symm), List.map_cons, List.sum_cons, h]
      omega
    · rw [if_neg h, if_neg (by simp [Ne.symm h])]
theorem have_len (ps : List Pr) : ∀ (st : Cn) (m : Cn), (st.foldl (stepH ps) m).length ≤ m.length + st.length
  | [], m => Nat.le_refl _
  | p :: st, m => by
    rw [List.foldl_cons]
    have h1 := have_len ps st (stepH ps m p)
    have h2 : (stepH ps m p).length ≤ m.length + 1 := setC_len _ _ _
    rw [List.length_cons]
    omega

section
variable {P : Program} {w : World} {K : Frg} {mg : Str → Option Value} {base : Heap}
theorem ok_Sign_is_letter (T : Txt K mg) : OK_Sign_is_letter P w base T := by
  refine fn_ok T.F_Sign_is_letter sc_Sign_is_letter (by rintro _ _ _ _ _ ⟨x, rfl, _⟩; rfl) (fun cdv A outer s H E hr => ?_)
  have hu64 := hr.units
  refine ⟨_, (pss_one (ps_ret (pe_and (pe_callB (kISI (K := K) rfl) (by rfl) T.g_isinstance boot_isinstance (pa_cons (pv 0) (pa_cons (pe_bltn (v := .ty "str") (by rfl) T.g_str boot_str rfl) pa_nil))) (pe_and (pe_cmpR (kEQ (K := K) rfl hu64) (pe_callB (kLEN (K := K) rfl) (by rfl) T.g_len boot_len (pa_cons (pv 0) pa_nil)) pe_int (nomark _)) (pe_one (pe_cmpR (kIN (K := K) rfl) (pv 0) (pe_glob (by rfl) T.m_LETTERS T.r_LETTERS) (by with_unfolding_all rfl))))))), ?_⟩
  rintro _ F ms Q Ea ⟨d, rfl, hd, q⟩
  rcases hd with rfl | ⟨b, rfl⟩ | ⟨i, rfl⟩ | ⟨z, rfl, hz⟩ | ⟨t, rfl⟩
  · walk_at "al"
    exact q
  · walk_at "al"
    exact q
  · walk_at "al"
    exact q
  · walk_at "al"
    refine ac_lenS (z := z) (by omega) ?_
    walk_at "al"
    by_cases h1 : z.length = 1
    · refine and_dT (by rw [h1]; rfl) ?_
      obtain ⟨c, rfl⟩ := str1 h1
      walk_at "al"
      have e : decide (c ∈ LET.cps.toList) = isLet (.str (sg c)) := by
        show _ = (decide ((sg c).length = 1) && decide ((sg c).cps.toList.all fun c => decide (c ∈ LET.cps.toList)))
        rw [decide_eq_true h1, Bool.true_and]
        by_cases hc : c ∈ LET.cps.toList
        · rw [decide_eq_true hc]; symm
          exact decide_eq_true (List.all_eq_true.mpr fun x hx => by rw [List.mem_singleton.mp (show x ∈ [c] from hx)]; exact decide_eq_true hc)
        · rw [decide_eq_false hc]; symm
          exact decide_eq_false fun z => hc (of_decide_eq_true (List.all_eq_true.mp z c (show c ∈ [c] from List.mem_singleton.mpr rfl)))
      show Q F ms (.bl (decide (c ∈ LET.cps.toList)))
      rw [e]
      exact q
    · refine and_dF (by omega) ?_
      have e : isLet (.str z) = false := by
        show (decide (z.length = 1) && decide (z.cps.toList.all fun c => decide (c ∈ LET.cps.toList))) = false
        rw [decide_eq_false h1, Bool.false_and]
      rw [e] at q
      exact q
  · walk_at "al"
    exact q
end
theorem let_take (ps : List Pr) (cs : List Nat) (n : Nat) (c : Nat) (h : cs[n]? = some c) : letF ps (cs.take (n + 1)) = stepL ps (letF ps (cs.take n)) c := by
  rw [letF_eq, letF_eq, List.take_succ, h, List.foldl_append]
  rfl
theorem cnt_at {m : Cn} {i : Nat} {d : D} (h : (itemsD (cntD m))[i]? = some d) : ∃ p : Nat × Int, m[i]? = some p ∧ d = .tup [.str (sg p.1), .int p.2] := by
  unfold itemsD cntD at h
  rw [List.map_map, List.getElem?_map] at h
  cases e : m[i]? with
  | none => rw [e] at h; cases h
  | some p => rw [e] at h; exact ⟨p, rfl, (Option.some.inj h).symm⟩
theorem items_cnt_len (m : Cn) : (itemsD (cntD m)).length = m.length := by
  unfold itemsD cntD
  rw [List.length_map, List.length_map]
theorem cntD_len (m : Cn) : (cntD m).length = m.length := by unfold cntD; rw [List.length_map]
theorem max_if (i j : Int) : (if j > i then j else i) = max i j := by
  split <;> omega
theorem valD_some {m : Cn} {c : Nat} (h : valC m c ≠ 0) : valD (cntD m) (kS c) = some (.int (valC m c)) := by
  have hm := mem_valC h
  have := valD_cnt c (.int 0) m
  cases e : valD (cntD m) (kS c) with
  | some d => rw [e] at this; exact congrArg some this
  | none =>
    exfalso
    unfold valD at e
    rw [Option.map_eq_none_iff, List.find?_eq_none] at e
    exact e (kS c, .int (valC m c)) (List.mem_map.mpr ⟨_, hm, rfl⟩) (decide_eq_true rfl)
theorem isLet_sg (c : Nat) : isLet (.str (sg c)) = decide (c ∈ LET.cps.toList) := by
  show (decide ((sg c).length = 1) && decide ([c].all fun c => decide (c ∈ LET.cps.toList))) = decide (c ∈ LET.cps.toList)
  rw [decide_eq_true (show (sg c).length = 1 from rfl), Bool.true_and]
  by_cases h : c ∈ LET.cps.toList
  · rw [decide_eq_true h]
    exact decide_eq_true (List.all_eq_true.mpr fun y hy => by rw [List.mem_singleton.mp hy]; exact decide_eq_true h)
  · rw [decide_eq_false h]
    exact decide_eq_false fun z => h (of_decide_eq_true (List.all_eq_true.mp z c (List.mem_singleton.mpr rfl)))
theorem sgn_app {C : Addr} (E : Ms) {R : Ms} {x : Addr} {w : Int} {ps : List Pr} (h : Sgn C R x w ps) : Sgn C (E ++ R) x w ps := by
  obtain ⟨i, j, m, hi, hj⟩ := h
  exact ⟨E.length + i, E.length + j, m, by rw [app_at]; exact hi, by rw [app_at]; exact hj⟩
theorem foldX_len : ∀ (L : Cn) (M : Cn), (L.foldl stepX M).length ≤ M.length + L.length
  | [], M => Nat.le_refl _
  | p :: L, M => by
    rw [List.foldl_cons]
    have h1 := foldX_len L (stepX M p)
    have h2 : (stepX M p).length ≤ M.length + 1 := setC_len _ _ _
    rw [List.length_cons]
    omega
theorem most_len (ps : List Pr) : ∀ (ts : List Str) (M : Cn), (∀ t ∈ ts, t.cps.toList.length ≤ 24) → (ts.foldl (fun M t => (letF ps t.cps.toList).foldl stepX M) M).length ≤ M.length + 24 * ts.length
  | [], M, _ => by simp
  | t :: ts, M, h => by
    rw [List.foldl_cons]
    have h1 := most_len ps ts ((letF ps t.cps.toList).foldl stepX M) fun t' h' => h t' (List.mem_cons_of_mem _ h')
    have h2 := foldX_len (letF ps t.cps.toList) M
    have h3 := (let_ok ps t.cps.toList).2.2
    have h4 := h t (List.mem_cons_self ..)
    rw [List.length_cons]
    omega
theorem nd_len : ∀ (xs U : List Nat), xs.Nodup → (∀ x ∈ xs, x ∈ U) → xs.length ≤ U.length
  | [], _, _, _ => Nat.zero_le _
  | x :: xs, U, nd, h => by
    rw [List.nodup_cons] at nd
    have hx := h x (List.mem_cons_self ..)
    have h1 := nd_len xs (U.erase x) nd.2 fun y hy => (List.mem_erase_of_ne (fun e => nd.1 (by rw [← e]; exact hy) : y ≠ x)).mpr (h y (List.mem_cons_of_mem _ hy))
    rw [List.length_erase_of_mem hx] at h1
    have := List.length_pos_of_mem hx
    rw [List.length_cons]
    omega
theorem pc_in {ps : List Pr} (h : okPs ps) {c : Nat} (hc : inL c) : inL (pc ps c) := by
  unfold pc
  cases e : ps.find? fun p => decide (c = p.1 ∨ c = p.2) with
  | none => exact hc
  | some p =>
    have hp := List.mem_of_find?_eq_some e
    obtain ⟨i, hi⟩ := List.getElem?_of_mem hp
    obtain ⟨g1, g2⟩ := flat_mem hi
    show inL (min p.1 p.2)
    rcases Nat.le_total p.1 p.2 with h1 | h1
    · rw [Nat.min_eq_left h1]; exact h _ g1
    · rw [Nat.min_eq_right h1]; exact h _ g2
theorem setC_keys {m : Cn} {c : Nat} {z : Int} (h : ∀ p ∈ m, inL p.1) (hc : inL c) : ∀ p ∈ setC m c z, inL p.1 := fun p hp => by
  rcases setC_mem hp with hp | rfl
  · exact h p hp
  · exact hc
theorem let_keys {ps : List Pr} (h : okPs ps) : ∀ (cs : List Nat) (m : Cn), (∀ a ∈ cs, a = 32 ∨ inL a) → (∀ p ∈ m, inL p.1) → ∀ p ∈ cs.foldl (stepL ps) m, inL p.1
  | [], m, _, hm => hm
  | a :: cs, m, hc, hm => by
    rw [List.foldl_cons]
    refine let_keys h cs _ (fun b hb => hc b (List.mem_cons_of_mem _ hb)) ?_
    unfold stepL
    split
    · exact hm
    · rename_i h32
      rcases hc a (List.mem_cons_self ..) with e | e
      · exact absurd e h32
      · exact setC_keys hm (pc_in h e)
theorem foldX_keys : ∀ (L M : Cn), (∀ p ∈ L, inL p.1) → (∀ p ∈ M, inL p.1) → ∀ p ∈ L.foldl stepX M, inL p.1
  | [], M, _, hm => hm
  | q :: L, M, hl, hm => by
    rw [List.foldl_cons]
    exact foldX_keys L _ (fun p hp => hl p (List.mem_cons_of_mem _ hp)) (setC_keys hm (hl q (List.mem_cons_self ..)))
theorem foldX_nd : ∀ (L M : Cn), (M.map (·.1)).Nodup → ((L.foldl stepX M).map (·.1)).Nodup
  | [], _, h => h
  | p :: L, M, h => by rw [List.foldl_cons]; exact foldX_nd L _ (setC_nd _ _ h)
theorem most_keys {ps : List Pr} (h : okPs ps) : ∀ (ts : List Str) (M : Cn), (∀ t ∈ ts, ∀ c ∈ t.cps.toList, c = 32 ∨ inL c) → (M.map (·.1)).Nodup → (∀ p ∈ M, inL p.1) →
    ((ts.foldl (fun M t => (letF ps t.cps.toList).foldl stepX M) M).map (·.1)).Nodup ∧ ∀ p ∈ ts.foldl (fun M t => (letF ps t.cps.toList).foldl stepX M) M, inL p.1
  | [], M, _, h1, h2 => ⟨h1, h2⟩
  | t :: ts, M, ht, h1, h2 => by
    rw [List.foldl_cons]
    have hL : ∀ p ∈ letF ps t.cps.toList, inL p.1 := by
      rw [letF_eq]
      exact let_keys h _ [] (ht t (List.mem_cons_self ..)) (fun p hp => by cases hp)
    have hN : (((letF ps t.cps.toList).foldl stepX M).map (·.1)).Nodup := foldX_nd _ _ h1
    exact most_keys h ts _ (fun t' h' => ht t' (List.mem_cons_of_mem _ h')) hN (foldX_keys _ _ hL h2)
theorem need_len {ps : List Pr} {ts : List Str} {nd : Cn} (h : okPs ps) (ht : ∀ t ∈ ts, ∀ c ∈ t.cps.toList, c = 32 ∨ inL c) (hn : NeedOk ps ts nd) : (nd.map (·.1)).length ≤ 36 := by
  obtain ⟨hk1, hk2⟩ := most_keys h ts [] ht (by simp) (fun p hp => by cases hp)
  have hk2 : ∀ p ∈ mostF ps ts, inL p.1 := hk2
  refine nd_len _ LET.cps.toList (hn.1.imp fun h => Nat.ne_of_lt h) fun c hc => ?_
  obtain ⟨p, hp, rfl⟩ := List.mem_map.mp hc
  obtain ⟨h1, h2⟩ := (hn.2 p).mp hp
  rw [← most_val] at h1
  exact hk2 (p.1, valC (mostF ps ts) p.1) (mem_valC (by omega : valC (mostF ps ts) p.1 ≠ 0))
section
variable {P : Program} {w : World} {K : Frg} {mg : Str → Option Value} {base : Heap}
theorem ok_letters_of (T : Txt K mg) (G_Sign_piece : OK_Sign_piece P w base T) : OK_letters_of P w base T := by
  refine fn_ok T.F_letters_of sc_letters_of (by rintro _ _ _ _ _ ⟨x, wd, ps, t, rfl, _⟩; rfl) (fun cdv A outer s H E hr => ?_)
  have hu64 := hr.units
  refine ⟨_, (pss_cons (ps_set (i := 2) sc_letters_of.nd rfl (by first | exact Or.inl rfl | exact Or.inr rfl) pe_dnewK)
      (pss_cons (ps_for PassesOwn.never rfl (pi_str (pv 1)) (pg_name (i := 3) sc_letters_of.nd rfl (by first | exact Or.inl rfl | exact Or.inr rfl)) (pss_one (ps_if (pt_cmpR (kNE (K := K) rfl hu64) (pv 3) (pe_glob (by rfl) T.m_BLANK T.r_BLANK) (nomark _)) (pss_one (ps_dput (hu_of hr) (pv 2) (pe_meth (pv 0) T.k_Sign T.Me_Sign_piece G_Sign_piece (hr.mono (by first | decide | omega)) T.b_Sign_piece .nil pass0 (pa_cons (pv 3) pa_nil)) (pe_op (kADD (K := K) rfl) (pe_dget2 (hu_of hr) (pv 2) (pe_meth (pv 0) T.k_Sign T.Me_Sign_piece G_Sign_piece (hr.mono (by first | decide | omega)) T.b_Sign_piece .nil pass0 (pa_cons (pv 3) pa_nil)) pe_int ⟨rfl, rfl, rfl, rfl⟩) pe_int) (by rfl))) pss_nil)))
      (pss_one (ps_ret (pv 2))))), ?_⟩
  rintro _ F ms Q Ea ⟨x, wd, ps, t, rfl, ⟨i, j, m, hi, hj⟩, w24, ht, q⟩
  have hlen : t.cps.toList.length = t.length := Array.length_toList
  have htw := ht.2.1
  walk_at "al"
  refine ae_dnewO fun l => ?_
  walk_at "al"
  refine as_for ?_
  refine ai_str ?_
  walk_at "al"
  refine ⟨fun n F' ms' S' => ms' = (l, .dic (cntD (letF ps (t.cps.toList.take n)))) :: ms ∧ ∃ b : Option D, S' = [some (.ref x), some (.str t), some (.ref l), b], ⟨rfl, none, rfl⟩, fun _ _ _ _ _ _ => trivial, ?_, ?_⟩
  · rintro n d F' ms' S' e hd ⟨rfl, b, rfl⟩ F'' e''
    obtain ⟨c, hc, rfl⟩ := chars_at hd
    have hstep := let_take ps _ n c hc
    have hlo := (let_ok ps (t.cps.toList.take n)).2.2
    rw [List.length_take] at hlo
    refine ag_name ?_
    refine as_norm (S' := [_, _, _, _]) rfl ?_
    walk_at "al"
    by_cases h32 : c = 32
    · subst h32
      refine and_ndT rfl ?_
      walk_at "al"
      refine ⟨?_, _, rfl⟩
      rw [hstep]
      unfold stepL
      rw [if_pos rfl]
    · refine and_ndF (fun e => h32 (by cases e; rfl)) ?_
      refine as_dput ?_
      walk_at "al"
      refine ae_dget2R ?_
      walk_at "al"
      refine ⟨_, .own (n := 0) rfl, ?_⟩
      refine ae_meth ?_
      walk_at "al"
      refine ⟨x, fldS m wd ps, rfl, .inr ⟨i + 1, hi⟩, fld_no (by decide +kernel) (by decide +kernel) (by decide +kernel), ?_⟩
      walk_at "al"
      refine ⟨x, wd, ps, c, rfl, ⟨i + 1, j + 1, m, hi, hj⟩, ?_⟩
      walk_at "al"
      refine ⟨kS (pc ps c), by rw [pieceS_pc]; rfl, .own (n := 0) rfl, ?_⟩
      rw [valD_cnt _ (.int 0)]
      walk_at "al"
      refine ae_meth ?_
      walk_at "al"
      refine ⟨x, fldS m wd ps, rfl, .inr ⟨i + 1, hi⟩, fld_no (by decide +kernel) (by decide +kernel) (by decide +kernel), ?_⟩
      walk_at "al"
      refine ⟨x, wd, ps, c, rfl, ⟨i + 1, j + 1, m, hi, hj⟩, ?_⟩
      refine ⟨0, l, _, kS (pc ps c), rfl, rfl, by rw [pieceS_pc]; rfl, by rw [cntD_len]; omega, ?_⟩
      refine ⟨?_, _, rfl⟩
      rw [hstep, put_cnt]
      unfold stepL
      rw [if_neg h32]
      rfl
  · rintro F' ms' S' e ⟨rfl, b, rfl⟩
    rw [chars_len, ← hlen, List.take_length]
    walk_at "al"
    exact q F' l e
theorem ok_needed_letters (T : Txt K mg) (G_Sign_check_texts : OK_Sign_check_texts P w base T) (G_letters_of : OK_letters_of P w base T) : OK_needed_letters P w base T := by
  refine fn_ok T.F_needed_letters sc_needed_letters (by rintro _ _ _ _ _ ⟨x, wd, ps, ts, rfl, _⟩; rfl) (fun cdv A outer s H E hr => ?_)
  have hu64 := hr.units
  refine ⟨_, (pss_cons (ps_expr (pe_meth (pv 0) T.k_Sign T.Me_Sign_check_texts G_Sign_check_texts (hr.mono (by first | decide | omega)) T.b_Sign_check_texts .nil pass0 (pa_cons (pv 1) pa_nil)))
      (pss_cons (ps_set (i := 2) sc_needed_letters.nd rfl (by first | exact Or.inl rfl | exact Or.inr rfl) pe_dnewK)
      (pss_cons (ps_for PassesOwn.never rfl (pi_tupk (K := K) rfl (pv 1)) (pg_name (i := 3) sc_needed_letters.nd rfl (by first | exact Or.inl rfl | exact Or.inr rfl)) (pss_one (ps_for PassesOwn.never rfl (pi_items (pe_lockV (pe_call G_letters_of (hr.mono (by first | decide | omega)) (by rfl) T.m_letters_of T.F_letters_of.kp T.b_letters_of .nil pass0 (pa_cons (pv 0) (pa_cons (pv 3) pa_nil))))) (pg_tupk (K := K) (n := 2) rfl rfl (pgs_cons (pg_name (i := 4) sc_needed_letters.nd rfl (by first | exact Or.inl rfl | exact Or.inr rfl)) (pgs_cons (pg_name (i := 5) sc_needed_letters.nd rfl (by first | exact Or.inl rfl | exact Or.inr rfl)) pgs_nil))) (pss_one (ps_dput (hu_of hr) (pv 2) (pv 4) (pe_callB (call_MAX2 rfl) (by rfl) T.g_max boot_max (pa_cons (pv 5) (pa_cons (pe_dget2 (hu_of hr) (pv 2) (pv 4) pe_int ⟨rfl, rfl, rfl, rfl⟩) pa_nil))) (by rfl))))))
      (pss_one (ps_ret (pe_dc rfl sc_needed_letters.nd (pi_listk (K := K) rfl (pe_callB (kSRTD (K := K) rfl rfl) (by rfl) T.g_sorted boot_sorted (pa_cons (pv 2) pa_nil))) (own := [("piece", 4)]) (@BlkOk.mk N_needed_letters (defScope s_needed_letters) _ _ rfl (by decide +kernel) (by decide +kernel) (by decide +kernel) (by decide +kernel)) (fun _ _ _ _ _ => (pg_name (i := 4) sc_needed_letters.nd rfl (by first | exact Or.inl rfl | exact Or.inr rfl))) (fun _ _ _ _ _ => pts_nil) (fun _ _ _ _ _ => (pv 4)) (fun _ _ _ _ _ => (pe_dget (hu_of hr) (pv 2) (pv 4) (fun _ _ => rfl))))))))), ?_⟩
  rintro _ F ms Q Ea ⟨x, wd, ps, ts, rfl, hS, w24, ht1, ht2, ht, hpL, q⟩
  obtain ⟨i, j, m, hi, hj⟩ := id hS
  walk_at "al"
  refine ae_meth ?_
  walk_at "al"
  refine ⟨x, fldS m wd ps, rfl, .inr ⟨i, hi⟩, fld_no (by decide +kernel) (by decide +kernel) (by decide +kernel), ?_⟩
  walk_at "al"
  refine ⟨x, wd, ps, ts, rfl, hS, w24, ht1, ht2, ht, fun F1 e1 => ?_⟩
  walk_at "al"
  refine ae_dnewO fun l => ?_
  walk_at "al"
  have ht24 : ∀ t ∈ ts, t.cps.toList.length ≤ 24 := fun t h => by
    have h1 := (ht t h).2.1
    have h2 : t.cps.toList.length = t.length := Array.length_toList
    omega
  have htL : ∀ t ∈ ts, ∀ c ∈ t.cps.toList, c = 32 ∨ inL c := fun t h => (ht t h).2.2.1
  refine as_for ?_
  refine ai_tup ?_
  walk_at "al"
  refine ⟨_, rfl, fun n F' ms' S' => ∃ (J : Ms) (a b c : Option D), ms' = J ++ (l, .dic (cntD (mostF ps (ts.take n)))) :: ms ∧ S' = [some (.ref x), some (.tup (ts.map D.str)), some (.ref l), a, b, c], ⟨[], none, none, none, rfl, rfl⟩, fun _ _ _ _ _ _ => trivial, ?_, ?_⟩
  · rintro n d F2 ms2 S2 e2 hd ⟨J, a, b, c, rfl, rfl⟩ F3 e3
    obtain ⟨t, htk, rfl⟩ := strs_at hd
    have htm := List.mem_of_getElem? htk
    have hn : n < ts.length := (List.getElem?_eq_some_iff.mp htk).1
    have hstep : mostF ps (ts.take (n + 1)) = (letF ps t.cps.toList).foldl stepX (mostF ps (ts.take n)) := by
      unfold mostF
      rw [List.take_succ, htk, List.foldl_append]
      rfl
    have hml := most_len ps (ts.take n) [] fun t h => ht24 t (List.mem_of_mem_take h)
    rw [List.length_take] at hml
    have hml : (mostF ps (ts.take n)).length ≤ 0 + 24 * min n ts.length := hml
    have hll := (let_ok ps t.cps.toList).2.2
    have h24 := ht24 t htm
    refine ag_name ?_
    refine as_norm (S' := [_, _, _, _, _, _]) rfl ?_
    refine as_for ?_
    refine ai_items ?_
    refine ae_lockV ?_
    walk_at "al"
    refine ⟨x, wd, ps, t, rfl, sgn_app J (Sgn.cons hS), w24, ht t htm, fun F4 lt e4 => ?_⟩
    refine ⟨0, lt, _, rfl, rfl, fun od vs rk => ?_⟩
    refine ⟨lt, od, vs, _, 0, rfl, rfl, rk, ?_⟩
    generalize letF ps t.cps.toList = L at hstep hll rk ⊢
    generalize mostF ps (ts.take n) = M at hstep hml ⊢
    refine ⟨fun i F' ms' S' => ms' = (lt, .raw (.frz od (.dK vs))) :: (J ++ (l, .dic (cntD ((L.take i).foldl stepX M))) :: ms) ∧ ∃ (b c : Option D), S' = [some (.ref x), some (.tup (ts.map D.str)), some (.ref l), some (.str t), b, c], ⟨rfl, b, c, rfl⟩, ?_, ?_, ?_⟩
    · rintro i F' ms' S' e' ⟨rfl, _⟩
      exact ⟨0, rfl⟩
    · rintro i d F5 ms5 S5 e5 hd5 ⟨rfl, b, c, rfl⟩ F6 e6
      obtain ⟨p, hp, rfl⟩ := cnt_at hd5
      have hpl : i < L.length := (List.getElem?_eq_some_iff.mp hp).1
      have hfl := foldX_len (L.take i) M
      rw [List.length_take] at hfl
      have hst2 : (L.take (i + 1)).foldl stepX M = stepX ((L.take i).foldl stepX M) p := by
        rw [List.take_succ, hp, List.foldl_append]
        rfl
      generalize (L.take i).foldl stepX M = N at hfl hst2 ⊢
      have hown : ((lt, MO.raw (.frz od (.dK vs))) :: (J ++ (l, MO.dic (cntD N)) :: ms))[J.length + 0 + 1]? = some (l, .dic (cntD N)) := app_at (E := J) 0
      refine ag_tup rfl ?_
      refine ags_cons (ag_name ?_)
      refine ags_cons (ag_name ?_)
      refine ags_nil ?_
      refine as_norm (S' := [_, _, _, _, _, _]) rfl ?_
      refine as_dput ?_
      walk_at "al"
      refine ae_dget2R ?_
      walk_at "al"
      refine ⟨_, .own hown, ?_⟩
      walk_at "al"
      refine ⟨kS p.1, rfl, .own hown, ?_⟩
      rw [valD_cnt _ (.int 0)]
      walk_at "al"
      refine ⟨J.length + 0 + 1, l, _, kS p.1, rfl, hown, rfl, by rw [cntD_len]; omega, ?_⟩
      refine ⟨?_, _, _, rfl⟩
      rw [hst2, put_cnt, max_if]
      show (lt, _) :: (J ++ (l, MO.dic (cntD N)) :: ms).set (J.length + 0) _ = _
      rw [app_set]
      rfl
    · rintro F5 ms5 S5 e5 ⟨rfl, b, c, rfl⟩
      rw [items_cnt_len, List.take_length]
      refine ⟨(lt, .raw (.frz od (.dK vs))) :: J, _, b, c, ?_, rfl⟩
      rw [hstep]
      rfl
  · rintro F2 ms2 S2 e2 ⟨J, a, b, c, rfl, rfl⟩
    rw [List.length_map, List.take_length]
    obtain ⟨hk1, hk2⟩ := most_keys hpL ts [] htL (by simp) (fun p hp => by cases hp)
    have hk1 : ((mostF ps ts).map (·.1)).Nodup := hk1
    have hk2 : ∀ p ∈ mostF ps ts, inL p.1 := hk2
    have h36 : ((mostF ps ts).map (·.1)).length ≤ 36 := nd_len _ LET.cps.toList hk1 fun c hc => by
      obtain ⟨p, hp, rfl⟩ := List.mem_map.mp hc
      exact hk2 p hp
    have hown : (J ++ (l, MO.dic (cntD (mostF ps ts))) :: ms)[J.length + 0]? = some (l, .dic (cntD (mostF ps ts))) := app_at 0
    walk_at "al"
    refine ae_dc (gw_name (by simp)) gm_name ?_
    refine ai_list ?_
    walk_at "al"
    refine ac_sortD (ks := ((mostF ps ts).map (·.1)).map sg) (.own hown) (by unfold cntD; rw [List.map_map, List.map_map, List.map_map]; rfl) (by rw [List.length_map]; omega) fun F5 ys e5 y1 y2 => ?_
    obtain ⟨cs, rfl, hcs⟩ := perm_sg y1
    have hneed := need_of hcs (sorted_sg y2)
    have hnd : cs.Nodup := hcs.nodup_iff.mpr hk1
    refine .inl ⟨_, .inl rfl, ?_⟩
    refine ⟨fun i F' ms' acc => ms' = J ++ (l, .dic (cntD (mostF ps ts))) :: ms ∧ acc = cntD ((cs.take i).map fun c => (c, valC (mostF ps ts) c)), ⟨rfl, rfl⟩, fun _ _ _ _ _ _ => trivial, ?_, ?_⟩
    · rintro i d F' ms' acc e1 hd ⟨rfl, rfl⟩ F'' e2
      obtain ⟨c, hc, rfl⟩ : ∃ c, cs[i]? = some c ∧ d = .str (sg c) := by
        rw [List.map_map, List.getElem?_map] at hd
        cases hh : cs[i]? with
        | none => rw [hh] at hd; cases hd
        | some z => rw [hh] at hd; exact ⟨z, rfl, (Option.some.inj hd).symm⟩
      have hz : valC (mostF ps ts) c ≠ 0 := by
        have := (hneed.2 (c, valC (mostF ps ts) c)).mp (List.mem_map.mpr ⟨c, List.mem_of_getElem? hc, rfl⟩)
        have : 0 < valC (mostF ps ts) c := this.2
        omega
      have hil : i < cs.length := (List.getElem?_eq_some_iff.mp hc).1
      have hcl : cs.length ≤ 36 := by rw [hcs.length_eq]; exact h36
      refine ag_name ?_
      walk_at "al"
      refine ⟨kS c, rfl, ?_⟩
      refine ae_dgetR ?_
      walk_at "al"
      refine ⟨kS c, _, _, rfl, .own hown, valD_some hz, ?_⟩
      refine ⟨by rw [cntD_len, List.length_map, List.length_take]; omega, rfl, ?_⟩
      rw [put_cnt, setC_new]
      · rw [List.take_succ, hc, List.map_append]
        rfl
      · intro r hr e
        obtain ⟨c2, hc2, rfl⟩ := List.mem_map.mp hr
        have e : c2 = c := e
        subst e
        have hs : cs = cs.take i ++ cs.drop i := (List.take_append_drop ..).symm
        rw [hs, List.nodup_append] at hnd
        exact hnd.2.2 c2 hc2 c2 (List.mem_of_getElem? (i := 0) (by rw [List.getElem?_drop]; exact hc)) rfl
    · rintro F' ms' acc e7 ⟨rfl, rfl⟩ l2
      rw [List.length_map, List.length_map, List.take_length]
      have := q F' (J ++ [(l, MO.dic (cntD (mostF ps ts)))]) l2 _ (e1.trans (e2.trans (e5.trans e7))) hneed
      rw [List.append_assoc] at this
      exact this
end

theorem fold_ub (f : Str → Int) : ∀ (ts : List Str) (m : Int), m ≤ ts.foldl (fun m t => max m (f t)) m ∧ ∀ t ∈ ts, f t ≤ ts.foldl (fun m t => max m (f t)) m
  | [], m => ⟨Int.le_refl _, fun t h => by cases h⟩
  | t :: ts, m => by
    rw [List.foldl_cons]
    obtain ⟨h1, h2⟩ := fold_ub f ts (max m (f t))
    refine ⟨by omega, fun x hx => ?_⟩
    rcases List.mem_cons.mp hx with rfl | hx
    · omega
    · exact h2 x hx
theorem fold_is (f : Str → Int) : ∀ (ts : List Str) (m : Int), ts.foldl (fun m t => max m (f t)) m = m ∨ ∃ t ∈ ts, ts.foldl (fun m t => max m (f t)) m = f t
  | [], m => .inl rfl
  | t :: ts, m => by
    rw [List.foldl_cons]
    rcases fold_is f ts (max m (f t)) with h | ⟨x, hx, h⟩
    · rcases Int.le_total m (f t) with h1 | h1
      · exact .inr ⟨t, List.mem_cons_self .., by rw [h]; omega⟩
      · exact .inl (by rw [h]; omega)
    · exact .inr ⟨x, List.mem_cons_of_mem _ hx, h⟩
theorem need_max {ps : List Pr} {ts : List Str} {c : Nat} {m : Int} (hm : m ∈ ts.map fun t => cntP ps t c) (hM : ∀ y, y ∈ (ts.map fun t => cntP ps t c) → y ≤ m) : m = needC ps ts c := by
  obtain ⟨t, ht, rfl⟩ := List.mem_map.mp hm
  have h1 := (fold_ub (fun t => cntP ps t c) ts 0).2 t ht
  have h0 : 0 ≤ cntP ps t c := Int.natCast_nonneg _
  have h2 : needC ps ts c ≤ cntP ps t c := by
    rcases fold_is (fun t => cntP ps t c) ts 0 with h | ⟨x, hx, h⟩
    · have h : needC ps ts c = 0 := h
      omega
    · have h : needC ps ts c = cntP ps x c := h
      rw [h]
      exact hM _ (List.mem_map_of_mem hx)
  have h1 : cntP ps t c ≤ needC ps ts c := h1
  omega
noncomputable def needW (ps : List Pr) (ts : List Str) (cs : List Nat) : Cn := (cs.filter fun c => decide (needC ps ts c > 0)).map fun c => (c, needC ps ts c)
theorem need_in {ps : List Pr} {ts : List Str} {z : Str} (hz : ∀ t ∈ ts, textZ z t) {c : Nat} (h : 0 < needC ps ts c) : c ∈ z.cps.toList.map (pc ps) := by
  rcases fold_is (fun t => cntP ps t c) ts 0 with h0 | ⟨t, ht, h1⟩
  · have h0 : needC ps ts c = 0 := h0
    omega
  · have h1 : needC ps ts c = cntP ps t c := h1
    rw [h1] at h
    unfold cntP at h
    have h : 0 < t.cps.toList.countP fun a => decide (a ≠ 32) && decide (pc ps a = c) := by omega
    obtain ⟨a, ha, hb⟩ := List.countP_pos_iff.mp h
    rw [Bool.and_eq_true, decide_eq_true_iff, decide_eq_true_iff] at hb
    rcases hz t ht a ha with h2 | h2
    · exact absurd h2 hb.1
    · exact List.mem_map.mpr ⟨a, h2, hb.2⟩
section
variable {P : Program} {w : World} {K : Frg} {mg : Str → Option Value} {base : Heap}
theorem ok_missing_letters (T : Txt K mg) (G_Sign_is_letter : OK_Sign_is_letter P w base T) (G_Sign_piece : OK_Sign_piece P w base T) (G_is_int_in : OK_is_int_in P w base T) (G_needed_letters : OK_needed_letters P w base T) : OK_missing_letters P w base T := by
  refine fn_ok T.F_missing_letters sc_missing_letters (by rintro _ _ _ _ _ ⟨x, wd, ps, ts, l, st, rfl, _⟩; rfl) (fun cdv A outer s H E hr => ?_)
  have hu64 := hr.units
  refine ⟨_, (pss_cons (ps_set (i := 3) sc_missing_letters.nd rfl (by first | exact Or.inl rfl | exact Or.inr rfl) (pe_call G_needed_letters (hr.mono (by first | decide | omega)) (by rfl) T.m_needed_letters T.F_needed_letters.kp T.b_needed_letters .nil pass0 (pa_cons (pv 0) (pa_cons (pv 1) pa_nil))))
      (pss_cons (ps_if (pt_not (pt_val (pe_callB (kISI (K := K) rfl) (by rfl) T.g_isinstance boot_isinstance (pa_cons (pv 2) (pa_cons (pe_bltn (v := .ty "dict") (by rfl) T.g_dict boot_dict rfl) pa_nil))))) (pss_one ps_never) pss_nil)
      (pss_cons (ps_set (i := 4) sc_missing_letters.nd rfl (by first | exact Or.inl rfl | exact Or.inr rfl) pe_dnewK)
      (pss_cons (ps_for PassesOwn.never rfl (pi_items (pv 2)) (pg_tupk (K := K) (n := 2) rfl rfl (pgs_cons (pg_name (i := 5) sc_missing_letters.nd rfl (by first | exact Or.inl rfl | exact Or.inr rfl)) (pgs_cons (pg_name (i := 6) sc_missing_letters.nd rfl (by first | exact Or.inl rfl | exact Or.inr rfl)) pgs_nil))) (pss_cons (ps_if ((pw_or (pt_not (pt_val (pe_smethI (pv 0) T.SI_Sign_is_letter T.kp_Sign_is_letter G_Sign_is_letter (hr.mono (by first | decide | omega)) T.b_Sign_is_letter pass0 (pa_cons (pv 5) pa_nil)))) (pw_or1 (pt_not (pt_val (pe_call G_is_int_in (hr.mono (by first | decide | omega)) (by rfl) T.m_is_int_in T.F_is_int_in.kp T.b_is_int_in .nil pass0 (pa_cons (pv 6) (pa_cons pe_int (pa_cons (pe_glob (by rfl) T.m_MAX_STOCK T.r_MAX_STOCK) pa_nil))))))))).pt (pss_one ps_never) pss_nil)
      (pss_one (ps_dput (hu_of hr) (pv 4) (pe_meth (pv 0) T.k_Sign T.Me_Sign_piece G_Sign_piece (hr.mono (by first | decide | omega)) T.b_Sign_piece .nil pass0 (pa_cons (pv 5) pa_nil)) (pe_op (kADD (K := K) rfl) (pe_dget2 (hu_of hr) (pv 4) (pe_meth (pv 0) T.k_Sign T.Me_Sign_piece G_Sign_piece (hr.mono (by first | decide | omega)) T.b_Sign_piece .nil pass0 (pa_cons (pv 5) pa_nil)) pe_int ⟨rfl, rfl, rfl, rfl⟩) (pv 6)) (by rfl)))))
      (pss_one (ps_ret (pe_lock (pe_dc rfl sc_missing_letters.nd (pi_keys (pv 3)) (own := [("piece", 7)]) (@BlkOk.mk N_missing_letters (defScope s_missing_letters) _ _ rfl (by decide +kernel) (by decide +kernel) (by decide +kernel) (by decide +kernel)) (fun _ _ _ _ _ => (pg_name (i := 7) sc_missing_letters.nd rfl (by first | exact Or.inl rfl | exact Or.inr rfl))) (fun _ _ _ _ _ => (pts_one (pt_cmpR op_gt (pe_dget (hu_of hr) (pv 3) (pv 7) (fun _ _ => rfl)) (pe_dget2 (hu_of hr) (pv 4) (pv 7) pe_int ⟨rfl, rfl, rfl, rfl⟩) (nomark _)))) (fun _ _ _ _ _ => (pv 7)) (fun _ _ _ _ _ => (pe_op op_sub (pe_dget (hu_of hr) (pv 3) (pv 7) (fun _ _ => rfl)) (pe_dget2 (hu_of hr) (pv 4) (pv 7) pe_int ⟨rfl, rfl, rfl, rfl⟩))))))))))), ?_⟩
  rintro _ F ms Q Ea ⟨x, wd, ps, ts, l, st, rfl, hS, w24, ht1, ht2, ht, hpL, ⟨n, od, vs, hn, rk⟩, hst, q⟩
  refine as_cut (P := fun F' ms' S' => ∃ J ln nd, Ex F F' ∧ NeedOk ps ts nd ∧ ms' = (ln, MO.dic (cntD nd)) :: (J ++ ms) ∧ S' = [some (.ref x), some (.tup (ts.map D.str)), some (.ref l), some (.ref ln), none, none, none, none]) ?_ ?_
  · walk_at "al"
    exact ⟨x, wd, ps, ts, rfl, hS, w24, ht1, ht2, ht, hpL, fun F1 J ln nd e1 hnd => ⟨J, ln, nd, e1, hnd, rfl, rfl⟩⟩
  rintro F1 _ _ _ ⟨J, ln, nd, e1, hnd, rfl, rfl⟩
  have hown : ((ln, MO.dic (cntD nd)) :: (J ++ ms))[J.length + n + 1]? = some (l, .raw (.frz od (.dK vs))) := by
    show (J ++ ms)[J.length + n]? = _
    rw [app_at]
    exact hn
  have hndk := hnd.1
  have hndn : (nd.map (·.1)).Nodup := hndk.imp fun h => Nat.ne_of_lt h
  have h36 : (nd.map (·.1)).length ≤ 36 := need_len hpL (fun t h => (ht t h).2.2.1) hnd
  rw [List.length_map] at h36
  walk_at "al"
  refine ac_isiD (b := true) (kvs := cntD st) (.lck hown (rk.mono e1)) (by decide +kernel) ?_
  walk_at "al"
  refine ae_dnewO fun lh => ?_
  walk_at "al"
  have hlk : ∀ z : MO, ((lh, z) :: (ln, MO.dic (cntD nd)) :: (J ++ ms))[J.length + n + 2]? = some (l, .raw (.frz od (.dK vs))) := fun z => hown
  have hSL : ∀ z : MO, Sgn T.c_Sign ((lh, z) :: (ln, MO.dic (cntD nd)) :: (J ++ ms)) x wd ps := fun z => (sgn_app J hS).cons.cons
  refine as_for ?_
  refine ai_items ?_
  walk_at "al"
  refine ⟨l, od, vs, _, J.length + n + 2, rfl, hlk _, rk.mono e1, ?_⟩
  refine ⟨fun i F' ms' S' => ms' = (lh, .dic (cntD ((st.take i).foldl (stepH ps) []))) :: (ln, MO.dic (cntD nd)) :: (J ++ ms) ∧ ∃ (b c : Option D), S' = [some (.ref x), some (.tup (ts.map D.str)), some (.ref l), some (.ref ln), some (.ref lh), b, c, none], ⟨rfl, none, none, rfl⟩, ?_, ?_, ?_⟩
  · rintro i F' ms' S' e' ⟨rfl, _⟩
    exact ⟨_, hlk _⟩
  · rintro i d F5 ms5 S5 e5 hd5 ⟨rfl, b, c, rfl⟩ F6 e6
    obtain ⟨p, hp, rfl⟩ := cnt_at hd5
    obtain ⟨pL, p0, p9⟩ := hst.2.2 p (List.mem_of_getElem? hp)
    have hpl : i < st.length := (List.getElem?_eq_some_iff.mp hp).1
    have hl40 := hst.1
    have hhl := have_len ps (st.take i) []
    rw [List.length_take] at hhl
    have hstep : (st.take (i + 1)).foldl (stepH ps) [] = stepH ps ((st.take i).foldl (stepH ps) []) p := by
      rw [List.take_succ, hp, List.foldl_append]
      rfl
    generalize (st.take i).foldl (stepH ps) [] = N at hhl hstep ⊢
    obtain ⟨i1, j1, m1, hi1, hj1⟩ := hSL (.dic (cntD N))
    refine ag_tup rfl ?_
    refine ags_cons (ag_name ?_)
    refine ags_cons (ag_name ?_)
    refine ags_nil ?_
    refine as_norm (S' := [_, _, _, _, _, _, _, _]) rfl ?_
    walk_at "al"
    refine ae_smethI ?_
    walk_at "al"
    refine ⟨x, fldS m1 wd ps, rfl, .inr ⟨i1, hi1⟩, fld_no (by decide +kernel) (by decide +kernel) (by decide +kernel), ?_⟩
    walk_at "al"
    refine ⟨_, rfl, .inr (.inr (.inr (.inl ⟨_, rfl, by show 1 ≤ 1000; decide⟩))), ?_⟩
    rw [isLet_sg, decide_eq_true (show p.1 ∈ LET.cps.toList from pL)]
    walk_at "al"
    refine .inl ⟨p.2, 0, 999, rfl, ?_⟩
    rw [decide_eq_true p0, decide_eq_true p9]
    walk_at "al"
    refine and_nT ?_
    walk_at "al"
    refine as_dput ?_
    walk_at "al"
    refine ae_dget2R ?_
    walk_at "al"
    refine ⟨_, .own (n := 0) rfl, ?_⟩
    refine ae_meth ?_
    walk_at "al"
    refine ⟨x, fldS m1 wd ps, rfl, .inr ⟨i1, hi1⟩, fld_no (by decide +kernel) (by decide +kernel) (by decide +kernel), ?_⟩
    walk_at "al"
    refine ⟨x, wd, ps, p.1, rfl, ⟨i1, j1, m1, hi1, hj1⟩, ?_⟩
    walk_at "al"
    refine ⟨kS (pc ps p.1), by rw [pieceS_pc]; rfl, .own (n := 0) rfl, ?_⟩
    rw [valD_cnt _ (.int 0)]
    walk_at "al"
    refine ae_meth ?_
    walk_at "al"
    refine ⟨x, fldS m1 wd ps, rfl, .inr ⟨i1, hi1⟩, fld_no (by decide +kernel) (by decide +kernel) (by decide +kernel), ?_⟩
    walk_at "al"
    refine ⟨x, wd, ps, p.1, rfl, ⟨i1, j1, m1, hi1, hj1⟩, ?_⟩
    refine ⟨0, lh, _, kS (pc ps p.1), rfl, rfl, by rw [pieceS_pc]; rfl, by rw [cntD_len]; simp at hhl; omega, ?_⟩
    refine ⟨?_, _, _, rfl⟩
    rw [hstep, put_cnt]
    rfl
  · rintro F5 ms5 S5 e5 ⟨rfl, b, c, rfl⟩
    rw [items_cnt_len, List.take_length]
    have hhv : ∀ c, valC (st.foldl (stepH ps) []) c = haveC ps st c := fun c => by
      rw [have_val]
      show 0 + _ = _
      omega
    generalize st.foldl (stepH ps) [] = HV at hhv ⊢
    walk_at "al"
    refine ae_lock 1 rfl fun od2 vs2 rk2 => ?_
    refine ae_dc (gw_name (by simp)) gm_name ?_
    refine ai_keys ?_
    walk_at "al"
    refine ⟨ln, od2, vs2, _, 1, rfl, rfl, rk2, ?_⟩
    refine ⟨fun i F' ms' acc => ms' = (lh, .dic (cntD HV)) :: (ln, .raw (.frz od2 (.dK vs2))) :: (J ++ ms) ∧ acc = cntD (missF ps (nd.take i) st), ⟨rfl, rfl⟩, ?_, ?_, ?_⟩
    · rintro i F' ms' acc e' ⟨rfl, _⟩
      exact ⟨1, rfl⟩
    · rintro i d F7 ms7 acc e7 hd7 ⟨rfl, rfl⟩ F8 e8
      obtain ⟨p, hp, rfl⟩ : ∃ p : Nat × Int, nd[i]? = some p ∧ d = .str (sg p.1) := by
        unfold keysD cntD at hd7
        rw [List.map_map, List.getElem?_map] at hd7
        cases hh : nd[i]? with
        | none => rw [hh] at hd7; cases hd7
        | some z => rw [hh] at hd7; exact ⟨z, rfl, (Option.some.inj hd7).symm⟩
      have hpl : i < nd.length := (List.getElem?_eq_some_iff.mp hp).1
      have hpm := List.mem_of_getElem? hp
      have hpos := ((hnd.2 p).mp hpm).2
      have hv := valC_mem hndn p hpm
      have hvs : valD (cntD nd) (kS p.1) = some (.int p.2) := by
        rw [← hv]
        exact valD_some (by omega)
      have hml : (missF ps (nd.take i) st).length ≤ 36 := by
        unfold missF
        rw [List.length_map]
        have h1 := List.length_filter_le (fun p : Nat × Int => decide (p.2 > haveC ps st p.1)) (nd.take i)
        rw [List.length_take] at h1
        omega
      have hms : missF ps (nd.take (i + 1)) st = missF ps (nd.take i) st ++ missF ps [p] st := by
        unfold missF
        rw [List.take_succ, hp, List.filter_append, List.map_append]
        rfl
      refine ag_name ?_
      walk_at "al"
      refine ae_dgetR ?_
      walk_at "al"
      refine ⟨kS p.1, _, _, rfl, .lck (n := 1) rfl (rk2.mono (e7.trans e8)), hvs, ?_⟩
      refine ae_dget2R ?_
      walk_at "al"
      refine ⟨_, .own (n := 0) rfl, ?_⟩
      walk_at "al"
      refine ⟨kS p.1, rfl, .own (n := 0) rfl, ?_⟩
      rw [valD_cnt _ (.int 0), hhv]
      walk_at "al"
      refine ⟨fun hb => ?_, fun hb => ?_⟩
      · have hb := of_decide_eq_true hb
        walk_at "al"
        refine ⟨kS p.1, rfl, ?_⟩
        walk_at "al"
        refine ae_dgetR ?_
        walk_at "al"
        refine ⟨kS p.1, _, _, rfl, .lck (n := 1) rfl (rk2.mono (e7.trans e8)), hvs, ?_⟩
        refine ae_dget2R ?_
        walk_at "al"
        refine ⟨_, .own (n := 0) rfl, ?_⟩
        walk_at "al"
        refine ⟨kS p.1, rfl, .own (n := 0) rfl, ?_⟩
        rw [valD_cnt _ (.int 0), hhv]
        walk_at "al"
        refine ⟨by rw [cntD_len]; omega, rfl, ?_⟩
        rw [put_cnt, setC_new, hms]
        · unfold missF
          rw [List.filter_cons, if_pos (decide_eq_true hb)]
          rfl
        · intro r hr e
          unfold missF at hr
          obtain ⟨p2, hp2, rfl⟩ := List.mem_map.mp hr
          have e : p2.1 = p.1 := e
          exact nd_take hndn hp p2 (List.mem_filter.mp hp2).1 e
      · have hb := of_decide_eq_false hb
        refine ⟨rfl, ?_⟩
        rw [hms]
        unfold missF
        rw [List.filter_cons, if_neg (by simpa using hb)]
        simp
    · rintro F7 ms7 acc e7 ⟨rfl, rfl⟩ l2
      rw [show (keysD (cntD nd)).length = nd.length by unfold keysD cntD; rw [List.length_map, List.length_map], List.take_length]
      refine ⟨2, rfl, ?_⟩
      exact q _ ((lh, .dic (cntD HV)) :: (ln, MO.dic (cntD nd)) :: J) l2 nd (e1.trans (e5.trans e7)) hnd
theorem stk_keys (sk : Cn) : (sk.map fun p => ((sg p.1, p.2) : Str × Int)).map (fun n => ((.inr n.1 : Key), V.int n.2)) = stkV sk := by
  unfold stkV
  rw [List.map_map]
  rfl
theorem ok__law_stock (T : Txt K mg) (G__law_below : OK__law_below P w base T) : OK__law_stock P w base T := by
  refine fn_okH T.F__law_stock sc__law_stock (by rintro _ _ _ _ ⟨k, l, st, z, rfl, _⟩; rfl) (fun cdv A outer s H hr => ?_)
  have hu64 := hr.units
  refine ⟨_, (psh_ret (peh_dict rfl (pls_lc (il := 1) (ix := 2) (own := [("_law_letter", 2)]) rfl sc__law_stock.nd rfl (by first | exact Or.inl rfl | exact Or.inr (Or.inl rfl) | exact Or.inr (Or.inr rfl)) rfl rfl (by decide) (@BlkOk.mk N__law_stock (defScope s__law_stock) _ _ rfl (by decide +kernel) (by decide +kernel) (by decide +kernel) (by decide +kernel)) (fun _ _ _ _ _ _ => (ptf_gt (pef_call lt_ok G__law_below (hr.mono (by first | decide | omega)) (by rfl) T.m__law_below T.F__law_below.kp T.b__law_below .nil pass0 (paf_cons (pef_var (i := 0)) (paf_cons (pef_int lt_ok) paf_nil))) (pef_int lt_ok) (nomark _))) (fun _ _ _ _ _ => (pe_call G__law_below (hr.mono (by first | decide | omega)) (by rfl) T.m__law_below T.F__law_below.kp T.b__law_below .nil pass0 (pa_cons (pv 0) (pa_cons pe_int pa_nil))))) (by rfl) T.g_dict)), ?_⟩
  rintro _ F ms Q ⟨k, l, st, z, rfl, hk, hst, hz1, hz2, hz3, q⟩
  refine aeh_dictTok (z := z) rfl (by show z.length ≤ 1000; omega) (fun i F' ms' acc => ∃ (st' : List D) (sk : Cn), ms' = ms.set k (l, .lst st') ∧ St st' ∧ acc = (sk.map fun p => ((sg p.1, p.2) : Str × Int)) ∧ (sk.map (·.1)).Sublist (z.cps.toList.take i) ∧ ∀ p ∈ sk, 0 ≤ p.2 ∧ p.2 ≤ 4) ⟨st, [], (set_same hk).symm, hst, rfl, .slnil, fun _ h => by cases h⟩ ?_ ?_
  · rintro i c F' ms' acc e hc ⟨st1, sk, rfl, hst1, rfl, hsub, hv⟩
    show AT _ _ _ _ [some (.ref l), some (.str z), some (.str (sg c))] _
    have hkl : k < ms.length := (List.getElem?_eq_some_iff.mp hk).1
    have hcl : z.cps.toList[i]? = some c := by rw [Array.getElem?_toList]; exact hc
    have htk : z.cps.toList.take (i + 1) = z.cps.toList.take i ++ [c] := by rw [List.take_succ, hcl]; rfl
    walk_at "al"
    refine ⟨k, l, st1, 6, rfl, set_get hkl, hst1, by decide, by decide, fun st2 r hst2 r0 r1 => ?_⟩
    rw [set_set]
    walk_at "al"
    refine ⟨fun _ => ?_, fun _ => ⟨st2, sk, rfl, hst2, rfl, by rw [htk]; exact hsub.trans (List.sublist_append_left _ _), hv⟩⟩
    walk_at "al"
    refine ⟨k, l, st2, 5, rfl, set_get hkl, hst2, by decide, by decide, fun st3 r2 hst3 r3 r4 => ?_⟩
    rw [set_set]
    refine ⟨r2, rfl, fun F4 e4 => ⟨st3, sk ++ [(c, r2)], rfl, hst3, by rw [List.map_append]; rfl, ?_, fun p hp => ?_⟩⟩
    · rw [List.map_append, htk]
      exact hsub.append (List.Sublist.refl _)
    · rcases List.mem_append.mp hp with hp | hp
      · exact hv p hp
      · rw [List.mem_singleton.mp hp]
        exact ⟨r3, by show r2 ≤ 4; omega⟩
  · rintro F' ms' acc e ⟨st1, sk, rfl, hst1, rfl, hsub, hv⟩
    have hsz : z.cps.size = z.cps.toList.length := (Array.length_toList).symm
    rw [hsz, List.take_length] at hsub
    refine ⟨?_, fun N l2 od F'' e2 hO => ?_⟩
    · rw [List.map_map, show ((fun x : Str × Int => x.1) ∘ fun p : Nat × Int => (sg p.1, p.2)) = sg ∘ (fun p : Nat × Int => p.1) from rfl, ← List.map_map, List.nodup_iff_pairwise_ne, List.pairwise_map]
      exact (List.nodup_iff_pairwise_ne.mp (hz2.sublist hsub)).imp fun ne e => ne (sg_inj.mp e)
    · rw [stk_keys]
      exact q N st1 F'' l2 od sk (e.trans e2) hst1 (hz2.sublist hsub) (fun p hp => ⟨hsub.subset (List.mem_map_of_mem hp), hv p hp⟩) hO
end

noncomputable def othr (c : Nat) (p : Pr) : Nat := if c = p.1 then p.2 else p.1
/-- the other letter of a letter's pair, or itself -/
noncomputable def mtF (ps : List Pr) (c : Nat) : Nat := ((ps.filter fun p => decide (c = p.1 ∨ c = p.2)).map (othr c)).headD c
theorem flat_cons (p : Pr) (ps : List Pr) : flat (p :: ps) = p.1 :: p.2 :: flat ps := rfl
theorem mem_flat {ps : List Pr} {p : Pr} (h : p ∈ ps) : p.1 ∈ flat ps ∧ p.2 ∈ flat ps := by
  obtain ⟨i, hi⟩ := List.getElem?_of_mem h
  exact flat_mem hi
theorem flat_uniq : ∀ {ps : List Pr}, (flat ps).Nodup → ∀ {p q : Pr} {c : Nat}, p ∈ ps → q ∈ ps → (c = p.1 ∨ c = p.2) → (c = q.1 ∨ c = q.2) → p = q
  | [], _, _, _, _, hp, _, _, _ => by cases hp
  | r :: ps, nd, p, q, c, hp, hq, h1, h2 => by
    rw [flat_cons, List.nodup_cons, List.nodup_cons] at nd
    obtain ⟨n1, n2, n3⟩ := nd
    have key : ∀ {x : Pr}, x ∈ ps → (c = x.1 ∨ c = x.2) → (c = r.1 ∨ c = r.2) → False := fun {x} hx a b => by
      obtain ⟨g1, g2⟩ := mem_flat hx
      have hc : c ∈ flat ps := by
        rcases a with rfl | rfl
        · exact g1
        · exact g2
      rcases b with rfl | rfl
      · exact n1 (List.mem_cons_of_mem _ hc)
      · exact n2 hc
    rcases List.mem_cons.mp hp with e1 | hp'
    · rcases List.mem_cons.mp hq with e2 | hq'
      · rw [e1, e2]
      · exact (key hq' h2 (by rw [← e1]; exact h1)).elim
    · rcases List.mem_cons.mp hq with e2 | hq'
      · exact (key hp' h1 (by rw [← e2]; exact h2)).elim
      · exact flat_uniq n3 hp' hq' h1 h2
theorem pc_at {ps : List Pr} (nd : (flat ps).Nodup) {p : Pr} {c : Nat} (hp : p ∈ ps) (h : c = p.1 ∨ c = p.2) : pc ps c = min p.1 p.2 := by
  unfold pc
  cases e : ps.find? fun p => decide (c = p.1 ∨ c = p.2) with
  | none =>
    rw [List.find?_eq_none] at e
    exact absurd (decide_eq_true h) (e p hp)
  | some q =>
    have hq := List.mem_of_find?_eq_some e
    have h2 := of_decide_eq_true (List.find?_some (p := fun p : Pr => decide (c = p.1 ∨ c = p.2)) e)
    rw [flat_uniq nd hq hp h2 h]
theorem pc_no {ps : List Pr} {c : Nat} (h : ∀ p ∈ ps, ¬ (c = p.1 ∨ c = p.2)) : pc ps c = c := by
  unfold pc
  rw [List.find?_eq_none.mpr fun p hp z => h p hp (of_decide_eq_true z)]
theorem pc_idem {ps : List Pr} (nd : (flat ps).Nodup) (c : Nat) : pc ps (pc ps c) = pc ps c := by
  by_cases h : ∃ p ∈ ps, c = p.1 ∨ c = p.2
  · obtain ⟨p, hp, h⟩ := h
    rw [pc_at nd hp h]
    refine pc_at nd hp ?_
    rcases Nat.le_total p.1 p.2 with h1 | h1
    · exact .inl (Nat.min_eq_left h1)
    · exact .inr (Nat.min_eq_right h1)
  · have e : pc ps c = c := pc_no fun p hp z => h ⟨p, hp, z⟩
    rw [e, e]
theorem mt_pc {ps : List Pr} (nd : (flat ps).Nodup) (c : Nat) : pc ps (mtF ps c) = pc ps c := by
  unfold mtF
  cases e : ps.filter fun p => decide (c = p.1 ∨ c = p.2) with
  | nil => rfl
  | cons p r =>
    have hm : p ∈ ps.filter fun p => decide (c = p.1 ∨ c = p.2) := by rw [e]; exact List.mem_cons_self ..
    obtain ⟨hp, h⟩ := List.mem_filter.mp hm
    have h := of_decide_eq_true h
    show pc ps (othr c p) = pc ps c
    rw [pc_at nd hp h]
    refine pc_at nd hp ?_
    unfold othr
    split
    · exact .inr rfl
    · exact .inl rfl
theorem mt_in {ps : List Pr} (h : okPs ps) {c : Nat} (hc : inL c) : inL (mtF ps c) := by
  unfold mtF
  cases e : ps.filter fun p => decide (c = p.1 ∨ c = p.2) with
  | nil => exact hc
  | cons p r =>
    have hm : p ∈ ps.filter fun p => decide (c = p.1 ∨ c = p.2) := by rw [e]; exact List.mem_cons_self ..
    obtain ⟨g1, g2⟩ := mem_flat (List.mem_filter.mp hm).1
    show inL (othr c p)
    unfold othr
    split
    · exact h _ g2
    · exact h _ g1
theorem have_cons (ps : List Pr) (p : Nat × Int) (m : Cn) (d : Nat) : haveC ps (p :: m) d = (if pc ps p.1 = d then p.2 else 0) + haveC ps m d := by
  unfold haveC
  rw [List.filter_cons]
  by_cases h : pc ps p.1 = d
  · rw [if_pos (decide_eq_true h), if_pos h, List.map_cons, List.sum_cons]
  · rw [if_neg (by simpa using h), if_neg h]
    omega
theorem have_nil (ps : List Pr) (d : Nat) : haveC ps [] d = 0 := rfl
theorem have_app (ps : List Pr) (d : Nat) : ∀ a b : Cn, haveC ps (a ++ b) d = haveC ps a d + haveC ps b d
  | [], b => by rw [List.nil_append, have_nil]; omega
  | p :: a, b => by rw [List.cons_append, have_cons, have_cons, have_app ps d a b]; omega
theorem set_map {m : Cn} {c : Nat} {z : Int} (h : c ∉ m.map (·.1)) : (m.map fun p => if p.1 = c then (p.1, z) else p) = m := by
  refine (List.map_congr_left fun p hp => ?_).trans (List.map_id m)
  rw [if_neg fun e => h (by rw [← e]; exact List.mem_map_of_mem hp)]
  rfl
theorem valC_cons (p : Nat × Int) (m : Cn) (c : Nat) : valC (p :: m) c = if p.1 = c then p.2 else valC m c := by
  unfold valC
  rw [List.find?_cons]
  by_cases h : p.1 = c
  · rw [decide_eq_true h, if_pos h]
    rfl
  · rw [decide_eq_false h, if_neg h]
theorem have_map (ps : List Pr) (c : Nat) (v : Int) (d : Nat) : ∀ m : Cn, (m.map (·.1)).Nodup → c ∈ m.map (·.1) → haveC ps (m.map fun p => if p.1 = c then (p.1, valC m c + v) else p) d = haveC ps m d + if pc ps c = d then v else 0
  | [], _, h => by cases h
  | q :: m, nd, h => by
    rw [List.map_cons, List.nodup_cons] at nd
    rw [List.map_cons, have_cons, have_cons, valC_cons]
    by_cases e : q.1 = c
    · subst e
      rw [if_pos rfl, if_pos rfl, set_map nd.1]
      show (if pc ps q.1 = d then q.2 + v else 0) + _ = _
      split <;> omega
    · rw [if_neg e, if_neg e]
      rw [List.map_cons] at h
      rcases List.mem_cons.mp h with h | h
      · exact absurd h.symm e
      · rw [have_map ps c v d m nd.2 h]
        omega
theorem any_key {m : Cn} {c : Nat} : (m.any fun p => decide (p.1 = c)) = true ↔ c ∈ m.map (·.1) := by
  rw [List.any_eq_true, List.mem_map]
  exact ⟨fun ⟨p, hp, h⟩ => ⟨p, hp, of_decide_eq_true h⟩, fun ⟨p, hp, h⟩ => ⟨p, hp, decide_eq_true h⟩⟩
theorem val_no {m : Cn} {c : Nat} (h : c ∉ m.map (·.1)) : valC m c = 0 := by
  unfold valC
  rw [List.find?_eq_none.mpr fun p hp z => h (by rw [← of_decide_eq_true z]; exact List.mem_map_of_mem hp)]
  rfl
theorem have_add (ps : List Pr) {m : Cn} (nd : (m.map (·.1)).Nodup) (c : Nat) (v : Int) (d : Nat) : haveC ps (setC m c (valC m c + v)) d = haveC ps m d + if pc ps c = d then v else 0 := by
  unfold setC
  by_cases h : c ∈ m.map (·.1)
  · rw [if_pos (any_key.mpr h)]
    exact have_map ps c v d m nd h
  · rw [if_neg fun z => h (any_key.mp z), have_app, have_cons, have_nil, val_no h]
    show _ + ((if pc ps c = d then 0 + v else 0) + 0) = _
    split <;> omega
/-- the numbers of L are added, each at the letter that f gives -/
noncomputable def sumF (f : Nat → Nat) (m L : Cn) : Cn := L.foldl (fun m p => setC m (f p.1) (valC m (f p.1) + p.2)) m
theorem sumF_take (f : Nat → Nat) (m : Cn) {L : Cn} {i : Nat} {p : Nat × Int} (h : L[i]? = some p) : sumF f m (L.take (i + 1)) = setC (sumF f m (L.take i)) (f p.1) (valC (sumF f m (L.take i)) (f p.1) + p.2) := by
  unfold sumF
  rw [List.take_succ, h, List.foldl_append]
  rfl
theorem sumF_nd (f : Nat → Nat) : ∀ (L m : Cn), (m.map (·.1)).Nodup → ((sumF f m L).map (·.1)).Nodup
  | [], _, h => h
  | p :: L, m, h => sumF_nd f L _ (setC_nd _ _ h)
theorem sumF_have {ps : List Pr} {f : Nat → Nat} (hf : ∀ c, pc ps (f c) = pc ps c) (d : Nat) : ∀ (L m : Cn), (m.map (·.1)).Nodup → haveC ps (sumF f m L) d = haveC ps m d + haveC ps L d
  | [], m, _ => by show haveC ps m d = haveC ps m d + 0; omega
  | p :: L, m, h => by
    rw [have_cons]
    show haveC ps (sumF f (setC m (f p.1) (valC m (f p.1) + p.2)) L) d = _
    rw [sumF_have hf d L _ (setC_nd _ _ h), have_add ps h, hf]
    omega
theorem sumF_keys (f : Nat → Nat) : ∀ (L m : Cn), (∀ p ∈ L, inL (f p.1)) → (∀ p ∈ m, inL p.1) → ∀ p ∈ sumF f m L, inL p.1
  | [], _, _, hm => hm
  | q :: L, m, hl, hm => sumF_keys f L _ (fun p hp => hl p (List.mem_cons_of_mem _ hp)) (setC_keys hm (hl q (List.mem_cons_self ..)))
theorem val_le {m : Cn} {M : Int} (h0 : 0 ≤ M) (h : ∀ p ∈ m, 0 ≤ p.2 ∧ p.2 ≤ M) (c : Nat) : 0 ≤ valC m c ∧ valC m c ≤ M := by
  by_cases e : valC m c = 0
  · omega
  · exact h _ (mem_valC e)
theorem sumF_val (f : Nat → Nat) (B : Int) (hB : 0 ≤ B) : ∀ (L m : Cn) (M : Int), 0 ≤ M → (∀ p ∈ L, 0 ≤ p.2 ∧ p.2 ≤ B) → (∀ p ∈ m, 0 ≤ p.2 ∧ p.2 ≤ M) → ∀ p ∈ sumF f m L, 0 ≤ p.2 ∧ p.2 ≤ M + B * (L.length : Int)
  | [], m, M, _, _, hm => fun p hp => by have := hm p hp; simp; omega
  | q :: L, m, M, h0, hl, hm => fun p hp => by
    have hq := hl q (List.mem_cons_self ..)
    have hv := val_le h0 hm (f q.1)
    have := sumF_val f B hB L (setC m (f q.1) (valC m (f q.1) + q.2)) (M + B) (by omega) (fun p hp => hl p (List.mem_cons_of_mem _ hp)) (fun r hr => by
      rcases setC_mem hr with hr | rfl
      · have := hm r hr; omega
      · show 0 ≤ valC m (f q.1) + q.2 ∧ valC m (f q.1) + q.2 ≤ M + B
        omega) p hp
    rw [List.length_cons, Int.natCast_add, Int.mul_add]
    have e : B * ((1 : Nat) : Int) = B := by simp
    rw [e]
    omega
theorem keys_len {m : Cn} (nd : (m.map (·.1)).Nodup) (h : ∀ p ∈ m, inL p.1) : m.length ≤ 36 := by
  have h1 := nd_len _ LET.cps.toList nd fun c hc => by
    obtain ⟨p, hp, rfl⟩ := List.mem_map.mp hc
    exact h p hp
  rw [List.length_map] at h1
  exact Nat.le_trans h1 (by decide +kernel)
theorem have_ge (ps : List Pr) {d : Nat} : ∀ {L : Cn}, (∀ p ∈ L, 0 ≤ p.2) → 0 ≤ haveC ps L d ∧ ∀ q ∈ L, pc ps q.1 = d → q.2 ≤ haveC ps L d
  | [], _ => ⟨by rw [have_nil]; exact Int.le_refl _, fun q hq => by cases hq⟩
  | p :: L, h => by
    obtain ⟨h1, h2⟩ := have_ge ps (d := d) fun q hq => h q (List.mem_cons_of_mem _ hq)
    have hp := h p (List.mem_cons_self ..)
    rw [have_cons]
    refine ⟨by split <;> omega, fun q hq e => ?_⟩
    rcases List.mem_cons.mp hq with rfl | hq
    · rw [if_pos e]; omega
    · have := h2 q hq e
      split <;> omega
theorem miss_congr {ps : List Pr} {nd a b : Cn} (h : ∀ c, haveC ps a c = haveC ps b c) : missF ps nd a = missF ps nd b := by
  unfold missF
  have e : (fun p : Nat × Int => decide (p.2 > haveC ps a p.1)) = fun p => decide (p.2 > haveC ps b p.1) := funext fun p => by rw [h]
  rw [e]
  exact List.map_congr_left fun p _ => by rw [h]
theorem miss_nil {ps : List Pr} {nd : Cn} (h : ∀ p ∈ nd, 0 < p.2) : missF ps nd [] = nd := by
  unfold missF
  rw [List.filter_eq_self.mpr fun p hp => decide_eq_true (by rw [have_nil]; exact h p hp)]
  refine (List.map_congr_left fun p _ => ?_).trans (List.map_id nd)
  rw [have_nil]
  show (p.1, p.2 - 0) = p
  rw [Int.sub_zero]
theorem miss_keys (ps : List Pr) (nd st : Cn) : ((missF ps nd st).map (·.1)).Sublist (nd.map (·.1)) := by
  unfold missF
  rw [List.map_map]
  show ((nd.filter _).map fun p : Nat × Int => p.1).Sublist _
  exact List.filter_sublist.map _
theorem miss_pos {ps : List Pr} {nd st : Cn} {p : Nat × Int} (h : p ∈ missF ps nd st) : 0 < p.2 := by
  unfold missF at h
  obtain ⟨q, hq, rfl⟩ := List.mem_map.mp h
  have := of_decide_eq_true (List.mem_filter.mp hq).2
  show 0 < q.2 - haveC ps st q.1
  omega
theorem miss_val {ps : List Pr} {nd st : Cn} (hn : (nd.map (·.1)).Nodup) {p : Nat × Int} (hp : p ∈ nd) : valC (missF ps nd st) p.1 = max 0 (p.2 - haveC ps st p.1) := by
  have hk : ((missF ps nd st).map (·.1)).Nodup := hn.sublist (miss_keys ps nd st)
  by_cases h : p.2 > haveC ps st p.1
  · have hm : (p.1, p.2 - haveC ps st p.1) ∈ missF ps nd st := List.mem_map.mpr ⟨p, List.mem_filter.mpr ⟨hp, decide_eq_true h⟩, rfl⟩
    have := valC_mem hk _ hm
    have : valC (missF ps nd st) p.1 = p.2 - haveC ps st p.1 := this
    omega
  · have : p.1 ∉ (missF ps nd st).map (·.1) := fun z => by
      obtain ⟨q, hq, e⟩ := List.mem_map.mp z
      unfold missF at hq
      obtain ⟨r, hr, rfl⟩ := List.mem_map.mp hq
      obtain ⟨h1, h2⟩ := List.mem_filter.mp hr
      have e : r.1 = p.1 := e
      have a := valC_mem hn r h1
      have b := valC_mem hn p hp
      rw [e] at a
      have h2 := of_decide_eq_true h2
      rw [e] at h2
      omega
    rw [val_no this]
    omega
theorem need_pc {ps : List Pr} {ts : List Str} {nd : Cn} (hf : (flat ps).Nodup) (hn : NeedOk ps ts nd) {p : Nat × Int} (hp : p ∈ nd) : pc ps p.1 = p.1 := by
  obtain ⟨h1, h2⟩ := (hn.2 p).mp hp
  rcases fold_is (fun t => cntP ps t p.1) ts 0 with h | ⟨t, _, h⟩
  · have h : needC ps ts p.1 = 0 := h
    omega
  · have h : needC ps ts p.1 = cntP ps t p.1 := h
    rw [h1, h] at h2
    unfold cntP at h2
    have h2 : 0 < t.cps.toList.countP fun a => decide (a ≠ 32) && decide (pc ps a = p.1) := by omega
    obtain ⟨a, _, ha⟩ := List.countP_pos_iff.mp h2
    rw [Bool.and_eq_true] at ha
    have e := of_decide_eq_true ha.2
    rw [← e]
    exact pc_idem hf a
theorem miss_fill {ps : List Pr} {ts : List Str} {nd sk : Cn} (hf : (flat ps).Nodup) (hn : NeedOk ps ts nd) (hs : (sk.map (·.1)).Nodup) : missF ps nd (sumF id sk (missF ps nd sk)) = [] := by
  rw [show missF ps nd (sumF id sk (missF ps nd sk)) = (nd.filter fun p => decide (p.2 > haveC ps (sumF id sk (missF ps nd sk)) p.1)).map (fun p => (p.1, p.2 - haveC ps (sumF id sk (missF ps nd sk)) p.1)) from rfl]
  rw [List.map_eq_nil_iff, List.filter_eq_nil_iff]
  intro p hp z
  have z := of_decide_eq_true z
  rw [sumF_have (f := id) (fun _ => rfl) _ _ _ hs] at z
  obtain ⟨g1, g2⟩ := have_ge ps (d := p.1) (L := missF ps nd sk) fun q hq => Int.le_of_lt (miss_pos hq)
  by_cases h : p.2 > haveC ps sk p.1
  · have := g2 (p.1, p.2 - haveC ps sk p.1) (List.mem_map.mpr ⟨p, List.mem_filter.mpr ⟨hp, decide_eq_true h⟩, rfl⟩) (show pc ps p.1 = p.1 from need_pc hf hn hp)
    have : p.2 - haveC ps sk p.1 ≤ haveC ps (missF ps nd sk) p.1 := this
    omega
  · omega
theorem need_mem {ps : List Pr} {a b : List Str} (h : ∀ t, t ∈ a → t ∈ b) (c : Nat) : needC ps a c ≤ needC ps b c := by
  obtain ⟨h1, h2⟩ := fold_ub (fun t => cntP ps t c) b 0
  have h1 : 0 ≤ needC ps b c := h1
  rcases fold_is (fun t => cntP ps t c) a 0 with e | ⟨t, ht, e⟩
  · have e : needC ps a c = 0 := e
    omega
  · have e : needC ps a c = cntP ps t c := e
    rw [e]
    exact h2 t (h t ht)
theorem need_rev (ps : List Pr) (ts : List Str) (c : Nat) : needC ps (ts.reverse ++ ts) c = needC ps ts c :=
  Int.le_antisymm (need_mem (fun t h => by simpa using h) c) (need_mem (fun t h => by simpa using h) c)
theorem need_one (ps : List Pr) (t : Str) (c : Nat) : needC ps [t] c = cntP ps t c := by
  show max 0 (cntP ps t c) = _
  have : 0 ≤ cntP ps t c := Int.natCast_nonneg _
  omega
theorem need_val {ps : List Pr} {ts : List Str} {nd : Cn} (hn : NeedOk ps ts nd) (c : Nat) : valC nd c = needC ps ts c := by
  have hnd : (nd.map (·.1)).Nodup := hn.1.imp fun h => Nat.ne_of_lt h
  have h0 : 0 ≤ needC ps ts c := (fold_ub (fun t => cntP ps t c) ts 0).1
  by_cases h : needC ps ts c = 0
  · rw [h]
    by_cases e : valC nd c = 0
    · exact e
    · have := (hn.2 _).mp (mem_valC e)
      exact this.1.trans h
  · exact valC_mem hnd (c, needC ps ts c) ((hn.2 _).mpr ⟨rfl, by show 0 < needC ps ts c; omega⟩)
theorem need_take (ps : List Pr) {ts : List Str} {i : Nat} {t : Str} (c : Nat) (h : ts[i]? = some t) : needC ps (ts.take (i + 1)) c = max (needC ps (ts.take i) c) (cntP ps t c) := by
  unfold needC
  rw [List.take_succ, h, List.foldl_append]
  rfl
theorem cnt_law2 (ps : List Pr) (t : List Nat) (c : Nat) : ((((t.filter fun a => decide (a ≠ 32)).map fun a => pieceS ps a).countP (fun d => decide (d = sg c)) : Nat) : Int) = ((t.countP fun a => decide (a ≠ 32) && decide (pc ps a = c) : Nat) : Int) := by
  rw [List.countP_map, List.countP_filter]
  congr 1
  refine List.countP_congr fun a _ => ?_
  show (decide (pieceS ps a = sg c) && decide (a ≠ 32)) = true ↔ _
  rw [pieceS_pc, Bool.and_eq_true, Bool.and_eq_true, decide_eq_true_iff, decide_eq_true_iff, decide_eq_true_iff, sg_inj]
  exact and_comm
theorem cnt_le (ps : List Pr) (t : Str) (c : Nat) : cntP ps t c ≤ (t.length : Int) := by
  unfold cntP
  have := List.countP_le_length (p := fun a => decide (a ≠ 32) && decide (pc ps a = c)) (l := t.cps.toList)
  have e : t.cps.toList.length = t.length := Array.length_toList
  omega
theorem need_le {ps : List Pr} {ts : List Str} {w : Int} (h0 : 0 ≤ w) (h : ∀ t ∈ ts, (t.length : Int) ≤ w) (c : Nat) : needC ps ts c ≤ w := by
  rcases fold_is (fun t => cntP ps t c) ts 0 with e | ⟨t, ht, e⟩
  · have e : needC ps ts c = 0 := e
    omega
  · have e : needC ps ts c = cntP ps t c := e
    have := cnt_le ps t c
    have := h t ht
    omega
theorem rep_stk {K : Frg} {F : Hp} : ∀ sk : Cn, RepK K F (cntD sk) (stkV sk)
  | [] => .nil
  | _ :: sk => .cons (.int _) (rep_stk sk)

noncomputable def Z38 : List D := [.str "ABMW6", .str "ACB", .str "AB69MW"]
theorem z38_at {r : Int} (h0 : 0 ≤ r) (h1 : r < 3) : ∃ z, atI Z38 r = some (.str z) ∧ z.length ≤ 6 ∧ z.cps.toList.Nodup ∧ (∀ c ∈ z.cps.toList, inL c) ∧ 0 < z.length := by
  obtain rfl | rfl | rfl : r = 0 ∨ r = 1 ∨ r = 2 := by omega
  · exact ⟨"ABMW6", rfl, by decide +kernel, by decide +kernel, by unfold inL; decide +kernel, by decide +kernel⟩
  · exact ⟨"ACB", rfl, by decide +kernel, by decide +kernel, by unfold inL; decide +kernel, by decide +kernel⟩
  · exact ⟨"AB69MW", rfl, by decide +kernel, by decide +kernel, by unfold inL; decide +kernel, by decide +kernel⟩
theorem keys_at {m : Cn} {n : Nat} {d : D} (h : (keysD (cntD m))[n]? = some d) : ∃ p : Nat × Int, m[n]? = some p ∧ d = .str (sg p.1) := by
  unfold keysD cntD at h
  rw [List.map_map, List.getElem?_map] at h
  cases e : m[n]? with
  | none => rw [e] at h; cases h
  | some p => rw [e] at h; exact ⟨p, rfl, (Option.some.inj h).symm⟩
theorem keys_lenD (m : Cn) : (keysD (cntD m)).length = m.length := by unfold keysD cntD; rw [List.length_map, List.length_map]
theorem perm5 {α : Type} {a b : α} {T J1 J2 : List α} : (a :: (J2 ++ b :: (J1 ++ T))).Perm (a :: b :: (T ++ (J2 ++ J1))) := (List.perm_middle.trans (.cons _ (by rw [← List.append_assoc]; exact List.perm_append_comm))).cons _
theorem sort_same {cs : List Nat} {ys : List Str} (h : cs.Pairwise (· < ·)) (y1 : ys.Perm (cs.map sg)) (y2 : sortedS ys = true) : ys = cs.map sg := by
  obtain ⟨ds, rfl, hds⟩ := perm_sg y1
  rw [sorted_uniq (sorted_sg y2) (h.imp Nat.le_of_lt) hds]
theorem okD_sgs {cs : List Nat} (h : ∀ c ∈ cs, inL c) : okD (.lst ((cs.map sg).map D.str)) = true ∧ dep (.lst ((cs.map sg).map D.str)) ≤ 64 := by
  rw [List.map_map]
  refine ⟨okL_sg fun c hc => inL_lt (h c hc), ?_⟩
  show depL (cs.map fun c => D.str (sg c)) + 1 ≤ 64
  rw [depL_sg]
  decide
theorem keys_sg (m : Cn) : (cntD m).map (·.1) = ((m.map (·.1)).map sg).map Sum.inr := by
  unfold cntD
  rw [List.map_map, List.map_map, List.map_map]
  rfl
theorem valD_in {m : Cn} {c : Nat} (h : c ∈ m.map (·.1)) : valD (cntD m) (kS c) = some (.int (valC m c)) := by
  obtain ⟨p, hp, rfl⟩ := List.mem_map.mp h
  have := valD_cnt p.1 (.int 0) m
  cases e : valD (cntD m) (kS p.1) with
  | some d => rw [e] at this; exact congrArg some this
  | none =>
    exfalso
    unfold valD at e
    rw [Option.map_eq_none_iff, List.find?_eq_none] at e
    exact e (kS p.1, .int p.2) (List.mem_map.mpr ⟨p, hp, rfl⟩) (decide_eq_true rfl)
theorem sgn_of {C : Addr} {ms : Ms} {x m : Addr} {w : Int} {ps : List Pr} (h1 : (x, MO.ins C (fldS m w ps)) ∈ ms) (h2 : (m, MO.dic (kvsOf ps)) ∈ ms) : Sgn C ms x w ps := by
  obtain ⟨i, hi⟩ := List.getElem?_of_mem h1
  obtain ⟨j, hj⟩ := List.getElem?_of_mem h2
  exact ⟨i, j, m, hi, hj⟩
theorem cntD_ints (m : Cn) : cntD m = (m.map fun p => (kS p.1, p.2)).map fun p => (p.1, D.int p.2) := by
  unfold cntD
  rw [List.map_map]
  rfl
theorem kS_nd {m : Cn} (h : (m.map (·.1)).Nodup) : ((m.map fun p => ((kS p.1, p.2) : Key × Int)).map (·.1)).Nodup := by
  rw [List.map_map, show ((fun p : Key × Int => p.1) ∘ fun p : Nat × Int => (kS p.1, p.2)) = kS ∘ (fun p : Nat × Int => p.1) from rfl, ← List.map_map, List.nodup_iff_pairwise_ne, List.pairwise_map]
  exact (List.nodup_iff_pairwise_ne.mp h).imp fun ne e => ne (kS_inj.mp e).symm
theorem perm7 {α : Type} {a b c d e : α} {T J1 J2 : List α} : (a :: (J2 ++ b :: c :: d :: (J1 ++ e :: T))).Perm (T ++ (a :: (J2 ++ b :: c :: d :: (J1 ++ [e])))) := by
  have h : (a :: (J2 ++ b :: c :: d :: (J1 ++ e :: T))) = (a :: (J2 ++ b :: c :: d :: (J1 ++ [e]))) ++ T := by simp
  rw [h]
  exact List.perm_append_comm
theorem perm2 {α : Type} {a e : α} {T J1 : List α} : (a :: (J1 ++ e :: T)).Perm (T ++ (a :: (J1 ++ [e]))) := by
  have h : (a :: (J1 ++ e :: T)) = (a :: (J1 ++ [e])) ++ T := by simp
  rw [h]
  exact List.perm_append_comm
noncomputable def RpA (a : Nat) : Bool := LET.cps.toList.all fun b => decide (a = b) || (decide (PySem.Txt.replace ⟨#[a, b]⟩ (sg a) "" = sg b) && decide (PySem.Txt.replace ⟨#[a, b]⟩ (sg b) "" = sg a))
theorem rpA_65 : RpA 65 = true := by decide +kernel
theorem rpA_66 : RpA 66 = true := by decide +kernel
theorem rpA_67 : RpA 67 = true := by decide +kernel
theorem rpA_68 : RpA 68 = true := by decide +kernel
theorem rpA_69 : RpA 69 = true := by decide +kernel
theorem rpA_70 : RpA 70 = true := by decide +kernel
theorem rpA_71 : RpA 71 = true := by decide +kernel
theorem rpA_72 : RpA 72 = true := by decide +kernel
theorem rpA_73 : RpA 73 = true := by decide +kernel
theorem rpA_74 : RpA 74 = true := by decide +kernel
theorem rpA_75 : RpA 75 = true := by decide +kernel
theorem rpA_76 : RpA 76 = true := by decide +kernel
theorem rpA_77 : RpA 77 = true := by decide +kernel
theorem rpA_78 : RpA 78 = true := by decide +kernel
theorem rpA_79 : RpA 79 = true := by decide +kernel
theorem rpA_80 : RpA 80 = true := by decide +kernel
theorem rpA_81 : RpA 81 = true := by decide +kernel
theorem rpA_82 : RpA 82 = true := by decide +kernel
theorem rpA_83 : RpA 83 = true := by decide +kernel
theorem rpA_84 : RpA 84 = true := by decide +kernel
theorem rpA_85 : RpA 85 = true := by decide +kernel
theorem rpA_86 : RpA 86 = true := by decide +kernel
theorem rpA_87 : RpA 87 = true := by decide +kernel
theorem rpA_88 : RpA 88 = true := by decide +kernel
theorem rpA_89 : RpA 89 = true := by decide +kernel
theorem rpA_90 : RpA 90 = true := by decide +kernel
theorem rpA_48 : RpA 48 = true := by decide +kernel
theorem rpA_49 : RpA 49 = true := by decide +kernel
theorem rpA_50 : RpA 50 = true := by decide +kernel
theorem rpA_51 : RpA 51 = true := by decide +kernel
theorem rpA_52 : RpA 52 = true := by decide +kernel
theorem rpA_53 : RpA 53 = true := by decide +kernel
theorem rpA_54 : RpA 54 = true := by decide +kernel
theorem rpA_55 : RpA 55 = true := by decide +kernel
theorem rpA_56 : RpA 56 = true := by decide +kernel
theorem rpA_57 : RpA 57 = true := by decide +kernel
theorem LET_list : LET.cps.toList = [65, 66, 67, 68, 69, 70, 71, 72, 73, 74, 75, 76, 77, 78, 79, 80, 81, 82, 83, 84, 85, 86, 87, 88, 89, 90, 48, 49, 50, 51, 52, 53, 54, 55, 56, 57] := by decide +kernel
theorem repl_all {a : Nat} (h : inL a) : RpA a = true := by
  have h : a ∈ LET.cps.toList := h
  rw [LET_list] at h
  simp only [List.mem_cons, List.not_mem_nil, or_false] at h
  rcases h with rfl | rfl | rfl | rfl | rfl | rfl | rfl | rfl | rfl | rfl | rfl | rfl | rfl | rfl | rfl | rfl | rfl | rfl | rfl | rfl | rfl | rfl | rfl | rfl | rfl | rfl | rfl | rfl | rfl | rfl | rfl | rfl | rfl | rfl | rfl | rfl
  · exact rpA_65
  · exact rpA_66
  · exact rpA_67
  · exact rpA_68
  · exact rpA_69
  · exact rpA_70
  · exact rpA_71
  · exact rpA_72
  · exact rpA_73
  · exact rpA_74
  · exact rpA_75
  · exact rpA_76
  · exact rpA_77
  · exact rpA_78
  · exact rpA_79
  · exact rpA_80
  · exact rpA_81
  · exact rpA_82
  · exact rpA_83
  · exact rpA_84
  · exact rpA_85
  · exact rpA_86
  · exact rpA_87
  · exact rpA_88
  · exact rpA_89
  · exact rpA_90
  · exact rpA_48
  · exact rpA_49
  · exact rpA_50
  · exact rpA_51
  · exact rpA_52
  · exact rpA_53
  · exact rpA_54
  · exact rpA_55
  · exact rpA_56
  · exact rpA_57
theorem repl_pair {p : Pr} {c : Nat} (h1 : inL p.1) (h2 : inL p.2) (hne : p.1 ≠ p.2) (hc : c = p.1 ∨ c = p.2) : PySem.Txt.replace (pS p) (sg c) "" = sg (if c = p.1 then p.2 else p.1) := by
  have h := List.all_eq_true.mp (repl_all h1) p.2 h2
  rw [decide_eq_false hne, Bool.false_or, Bool.and_eq_true] at h
  rcases hc with rfl | rfl
  · rw [if_pos rfl]
    exact of_decide_eq_true h.1
  · rw [if_neg (fun e => hne e.symm)]
    exact of_decide_eq_true h.2
theorem pair_ne : ∀ {ps : List Pr}, (flat ps).Nodup → ∀ {p : Pr}, p ∈ ps → p.1 ≠ p.2
  | [], _, _, h => by cases h
  | r :: ps, nd, p, h => by
    rw [flat_cons, List.nodup_cons, List.nodup_cons] at nd
    rcases List.mem_cons.mp h with e | h
    · rw [e]
      exact fun z => nd.1 (by rw [z]; exact List.mem_cons_self ..)
    · exact pair_ne nd.2.2 h
theorem filter_tt {α : Type} (l : List α) : (l.filter fun _ => true) = l := List.filter_eq_self.mpr fun _ _ => rfl
section
variable {P : Program} {w : World} {K : Frg} {mg : Str → Option Value} {base : Heap}
theorem ok_law (T : Txt K mg) (G__law_random : OK__law_random P w base T) (G__law_below : OK__law_below P w base T) (G__law_pairs : OK__law_pairs P w base T) (G_Sign___init__ : OK_Sign___init__ P w base T) (G__law_texts : OK__law_texts P w base T) (G__law_stock : OK__law_stock P w base T)
    (G_needed_letters : OK_needed_letters P w base T) (G_missing_letters : OK_missing_letters P w base T) (G_Sign_piece : OK_Sign_piece P w base T) : OK_law P w base T := by
  refine fn_ok T.F_law sc_law (by rintro _ _ _ _ _ ⟨ns, rfl, _⟩; rfl) (fun cdv A outer s H E hr => ?_)
  have hu64 := hr.units
  refine ⟨_, (pss_cons (ps_set (i := 1) sc_law.nd rfl (by first | exact Or.inl rfl | exact Or.inr rfl) (pe_call G__law_random (hr.mono (by first | decide | omega)) (by rfl) T.m__law_random T.F__law_random.kp T.b__law_random .nil pass0 (pa_cons (pv 0) (pa_cons pe_int pa_nil))))
      (pss_asgk (pk_ix (kIX (K := K) rfl) (pk_lst (pak_here pk_str (pa_cons pe_str (pa_cons pe_str pa_nil)))) (pe_call G__law_below (hr.mono (by first | decide | omega)) (by rfl) T.m__law_below T.F__law_below.kp T.b__law_below .nil pass0 (pa_cons (pv 1) (pa_cons pe_int pa_nil))) (fun _ _ => rfl)) (pg_name (i := 2) sc_law.nd rfl (by first | exact Or.inl rfl | exact Or.inr rfl))
      (psst_of1 (ps_par (i := 3) (j := 4) rfl sc_law.nd rfl rfl (by decide) rfl rfl (pa_cons (pe_op (kADD (K := K) rfl) pe_int (pe_call G__law_below (hr.mono (by first | decide | omega)) (by rfl) T.m__law_below T.F__law_below.kp T.b__law_below .nil pass0 (pa_cons (pv 1) (pa_cons pe_int pa_nil)))) (pa_cons (pe_call G__law_pairs (hr.mono (by first | decide | omega)) (by rfl) T.m__law_pairs T.F__law_pairs.kp T.b__law_pairs .nil pass0 (pa_cons (pv 1) (pa_cons (pv 2) pa_nil))) pa_nil)) (by rfl))
      (psst_asgH (peh_tup3 (pe_make T.M_Sign G_Sign___init__ (hr.mono (by first | decide | omega)) (by rfl) T.m_Sign T.b_Sign___init__ .nil pass0 (pa_cons (pv 3) (pa_cons (pv 4) pa_nil))) (pe_call G__law_texts (hr.mono (by first | decide | omega)) (by rfl) T.m__law_texts T.F__law_texts.kp T.b__law_texts .nil pass0 (pa_cons (pv 1) (pa_cons pe_int (pa_cons (pv 3) (pa_cons (pv 2) pa_nil))))) (peh_call G__law_stock (hr.mono (by first | decide | omega)) (by rfl) T.m__law_stock T.F__law_stock.kp T.b__law_stock .nil (pa_cons (pv 1) (pa_cons (pv 2) pa_nil)))) (pg_tupk (K := K) (n := 3) rfl rfl (pgs_cons (pg_name (i := 5) sc_law.nd rfl (by first | exact Or.inl rfl | exact Or.inr rfl)) (pgs_cons (pg_name (i := 6) sc_law.nd rfl (by first | exact Or.inl rfl | exact Or.inr rfl)) (pgs_cons (pg_name (i := 7) sc_law.nd rfl (by first | exact Or.inl rfl | exact Or.inr rfl)) pgs_nil)))) (fun N => (pssn_cons (psn_of (ps_par (i := 8) (j := 9) rfl sc_law.nd rfl rfl (by decide) rfl rfl (pa_cons (pe_call G_needed_letters (hr.mono (by first | decide | omega)) (by rfl) T.m_needed_letters T.F_needed_letters.kp T.b_needed_letters .nil pass0 (pa_cons (pv 5) (pa_cons (pv 6) pa_nil))) (pa_cons (pe_call G_missing_letters (hr.mono (by first | decide | omega)) (by rfl) T.m_missing_letters T.F_missing_letters.kp T.b_missing_letters .nil pass0 (pa_cons (pv 5) (pa_cons (pv 6) (pa_cons (pv 7) pa_nil)))) pa_nil)) (by rfl)))
      (pssn_cons (psn_of (ps_if ((pw_or (pt_cmpR (kNE (K := K) rfl hu64) (pe_callTy (kLISTD (K := K) rfl rfl) (by rfl) T.g_list boot_list (pa_cons (pv 8) pa_nil)) (pe_callB (kSRTD (K := K) rfl rfl) (by rfl) T.g_sorted boot_sorted (pa_cons (pv 8) pa_nil)) (nomark _)) (pw_or1 (pt_cmpR (kNE (K := K) rfl hu64) (pe_callTy (kLISTD (K := K) rfl rfl) (by rfl) T.g_list boot_list (pa_cons (pv 9) pa_nil)) (pe_callB (kSRTD (K := K) rfl rfl) (by rfl) T.g_sorted boot_sorted (pa_cons (pv 9) pa_nil)) (nomark _))))).pt (pss_one (ps_ret pe_bl)) pss_nil))
      (pssn_cons (psn_of (ps_lock (ps_for PassesOwn.never rfl (pi_keys (pv 8)) (pg_name (i := 10) sc_law.nd rfl (by first | exact Or.inl rfl | exact Or.inr rfl)) (pss_cons (ps_set (i := 11) sc_law.nd rfl (by first | exact Or.inl rfl | exact Or.inr rfl) pe_int)
      (pss_cons (ps_for PassesOwn.never rfl (pi_tupk (K := K) rfl (pv 6)) (pg_name (i := 12) sc_law.nd rfl (by first | exact Or.inl rfl | exact Or.inr rfl)) (pss_one (ps_set (i := 11) sc_law.nd rfl (by first | exact Or.inl rfl | exact Or.inr rfl) (pe_callB (call_MAX2 rfl) (by rfl) T.g_max boot_max (pa_cons (pv 11) (pa_cons (pe_bmk (K := K) rfl PySem.F.plainAttrs_list PySem.F.slot_list_count PySem.F.type_list_count (kCNTF (K := K) rfl) (pe_lc rfl sc_law.nd (pi_str (pv 12)) (own := [("_law_letter", 13)]) (@BlkOk.mk N_law (defScope s_law) _ _ rfl (by decide +kernel) (by decide +kernel) (by decide +kernel) (by decide +kernel)) (fun _ _ _ _ _ => (pg_name (i := 13) sc_law.nd rfl (by first | exact Or.inl rfl | exact Or.inr rfl))) (fun _ _ _ _ _ => (pts_one (pt_cmpR (kNE (K := K) rfl hu64) (pv 13) pe_str (nomark _)))) (fun _ _ _ _ _ => (pe_meth (pv 5) T.k_Sign T.Me_Sign_piece G_Sign_piece (hr.mono (by first | decide | omega)) T.b_Sign_piece .nil pass0 (pa_cons (pv 13) pa_nil)))) (pa_cons (pv 10) pa_nil)) pa_nil))))))
      (pss_cons (ps_set (i := 14) sc_law.nd rfl (by first | exact Or.inl rfl | exact Or.inr rfl) (pe_callB (kSUM (K := K) rfl rfl) (by rfl) T.g_sum boot_sum (pa_cons (pe_lc rfl sc_law.nd (pi_keys (pv 7)) (own := [("_law_letter", 13)]) (@BlkOk.mk N_law (defScope s_law) _ _ rfl (by decide +kernel) (by decide +kernel) (by decide +kernel) (by decide +kernel)) (fun _ _ _ _ _ => (pg_name (i := 13) sc_law.nd rfl (by first | exact Or.inl rfl | exact Or.inr rfl))) (fun _ _ _ _ _ => (pts_one (pt_cmpR (kEQ (K := K) rfl hu64) (pe_meth (pv 5) T.k_Sign T.Me_Sign_piece G_Sign_piece (hr.mono (by first | decide | omega)) T.b_Sign_piece .nil pass0 (pa_cons (pv 13) pa_nil)) (pv 10) (nomark _)))) (fun _ _ _ _ _ => (pe_dget (hu_of hr) (pv 7) (pv 13) (fun _ _ => rfl)))) pa_nil)))
      (pss_one (ps_if ((pw_or (pt_cmpR (kNE (K := K) rfl hu64) (pe_dget (hu_of hr) (pv 8) (pv 10) (fun _ _ => rfl)) (pv 11) (nomark _)) (pw_or (pt_cmpR (kEQ (K := K) rfl hu64) (pv 11) pe_int (nomark _)) (pw_or1 (pt_cmpR (kNE (K := K) rfl hu64) (pe_dget2 (hu_of hr) (pv 9) (pv 10) pe_int ⟨rfl, rfl, rfl, rfl⟩) (pe_callB (call_MAX2 rfl) (by rfl) T.g_max boot_max (pa_cons pe_int (pa_cons (pe_op op_sub (pv 11) (pv 14)) pa_nil))) (nomark _)))))).pt (pss_one (ps_ret pe_bl)) pss_nil))))))))
      (pssn_cons (psn_of (ps_set (i := 15) sc_law.nd rfl (by first | exact Or.inl rfl | exact Or.inr rfl) (pe_callTy (kDICTD (K := K) rfl) (by rfl) T.g_dict boot_dict (pa_cons (pv 7) pa_nil))))
      (pssn_cons (psn_of (ps_lock (ps_for PassesOwn.never rfl (pi_keys (pv 9)) (pg_name (i := 10) sc_law.nd rfl (by first | exact Or.inl rfl | exact Or.inr rfl)) (pss_one (ps_dput (hu_of hr) (pv 15) (pv 10) (pe_op (kADD (K := K) rfl) (pe_dget2 (hu_of hr) (pv 15) (pv 10) pe_int ⟨rfl, rfl, rfl, rfl⟩) (pe_dget (hu_of hr) (pv 9) (pv 10) (fun _ _ => rfl))) (by rfl))))))
      (pssn_cons (psn_of (ps_if ((pw_or (pt_cmpR (kNED (K := K) rfl hu64) (pe_call G_missing_letters (hr.mono (by first | decide | omega)) (by rfl) T.m_missing_letters T.F_missing_letters.kp T.b_missing_letters .nil pass0 (pa_cons (pv 5) (pa_cons (pv 6) (pa_cons (pe_lockV (pv 15)) pa_nil)))) pe_dnewK (nomark _)) (pw_or1 (pt_cmpR (kNED (K := K) rfl hu64) (pe_call G_missing_letters (hr.mono (by first | decide | omega)) (by rfl) T.m_missing_letters T.F_missing_letters.kp T.b_missing_letters .nil pass0 (pa_cons (pv 5) (pa_cons (pv 6) (pa_cons (pe_lockV pe_dnewK) pa_nil)))) (pv 8) (nomark _))))).pt (pss_one (ps_ret pe_bl)) pss_nil))
      (pssn_cons (psn_of (ps_set (i := 16) sc_law.nd rfl (by first | exact Or.inl rfl | exact Or.inr rfl) pe_dnewK))
      (pssn_cons (psn_forK (jd := 7) (ix := 13) PassesOwn.never rfl sc_law.nd rfl (by first | exact Or.inl rfl | exact Or.inr (Or.inl rfl) | exact Or.inr (Or.inr rfl)) rfl rfl rfl (kss_cons1 (ks1_setLc (i := 17) rfl sc_law.nd rfl rfl (by rfl) (pif_tup (i := 4)) (own := [("_law_pair", 18)]) (@BlkOk.mk N_law (defScope s_law) _ _ rfl (by decide +kernel) (by decide +kernel) (by decide +kernel) (by decide +kernel)) (fun _ _ _ _ _ => (pg_name (i := 18) sc_law.nd rfl (by first | exact Or.inl rfl | exact Or.inr rfl))) (fun _ _ _ _ _ => (pts_one (pt_cmpR (kIN (K := K) rfl) (pv 13) (pv 18) (by with_unfolding_all rfl)))) (fun pins σ s H C cl fp hC hcl I ct hfp => pen_replV (i := 18) (k := 13) hC hcl I ct hfp (own := [("_law_pair", 18)]) (@BlkOk.mk N_law (defScope s_law) _ _ rfl (by decide +kernel) (by decide +kernel) (by decide +kernel) (by decide +kernel)) rfl rfl (by first | exact Or.inl rfl | exact Or.inr rfl) rfl rfl))
      (pss_cons (ps_set (i := 19) sc_law.nd rfl (by first | exact Or.inl rfl | exact Or.inr rfl) (pe_ifExp (pt_cmpR (kNE (K := K) rfl hu64) (pv 17) (pe_lst pa_nil) (nomark _)) (pe_ix (kIX (K := K) rfl) (pv 17) pe_int (fun _ _ => rfl)) (pv 13)))
      (pss_one (ps_dput (hu_of hr) (pv 16) (pv 19) (pe_op (kADD (K := K) rfl) (pe_dget2 (hu_of hr) (pv 16) (pv 19) pe_int ⟨rfl, rfl, rfl, rfl⟩) (pe_dget (hu_of hr) (pv 7) (pv 13) (fun _ _ => rfl))) (by rfl))))))
      (pssn_of (pss_cons (ps_if (pt_cmpR (kNED (K := K) rfl hu64) (pe_call G_missing_letters (hr.mono (by first | decide | omega)) (by rfl) T.m_missing_letters T.F_missing_letters.kp T.b_missing_letters .nil pass0 (pa_cons (pv 5) (pa_cons (pv 6) (pa_cons (pe_lockV (pv 16)) pa_nil)))) (pv 9) (nomark _)) (pss_one (ps_ret pe_bl)) pss_nil)
      (pss_cons (ps_setLc (i := 20) rfl sc_law.nd rfl rfl (by rfl) (pi_tupk (K := K) rfl (pv 6)) (own := [("_law_text_here", 12)]) (@BlkOk.mk N_law (defScope s_law) _ _ rfl (by decide +kernel) (by decide +kernel) (by decide +kernel) (by decide +kernel)) (fun _ _ _ _ _ => (pg_name (i := 12) sc_law.nd rfl (by first | exact Or.inl rfl | exact Or.inr rfl))) (fun _ _ _ _ _ => pts_nil) (fun _ _ _ _ _ => (pe_call G_needed_letters (hr.mono (by first | decide | omega)) (by rfl) T.m_needed_letters T.F_needed_letters.kp T.b_needed_letters .nil pass0 (pa_cons (pv 5) (pa_cons (pe_tup (pa_cons (pv 12) pa_nil)) pa_nil)))))
      (pss_cons (ps_lock (ps_for PassesOwn.never rfl (pi_keys (pv 8)) (pg_name (i := 10) sc_law.nd rfl (by first | exact Or.inl rfl | exact Or.inr rfl)) (pss_one (ps_if (pt_cmpR (kNE (K := K) rfl hu64) (pe_callB (kMAXL (K := K) rfl rfl) (by rfl) T.g_max boot_max (pa_cons (pe_lc rfl sc_law.nd (pi_listk (K := K) rfl (pv 20)) (own := [("_law_part", 21)]) (@BlkOk.mk N_law (defScope s_law) _ _ rfl (by decide +kernel) (by decide +kernel) (by decide +kernel) (by decide +kernel)) (fun _ _ _ _ _ => (pg_name (i := 21) sc_law.nd rfl (by first | exact Or.inl rfl | exact Or.inr rfl))) (fun _ _ _ _ _ => pts_nil) (fun _ _ _ _ _ => (pe_dget2 (hu_of hr) (pv 21) (pv 10) pe_int ⟨rfl, rfl, rfl, rfl⟩))) pa_nil)) (pe_dget (hu_of hr) (pv 8) (pv 10) (fun _ _ => rfl)) (nomark _)) (pss_one (ps_ret pe_bl)) pss_nil))))
      (pss_one (ps_ret (pe_ifExp (pt_cmpR op_lt (pe_callB (kLEN (K := K) rfl) (by rfl) T.g_len boot_len (pa_cons (pv 6) pa_nil)) pe_int (nomark _)) (pe_cmpR (kEQD (K := K) rfl hu64) (pe_call G_needed_letters (hr.mono (by first | decide | omega)) (by rfl) T.m_needed_letters T.F_needed_letters.kp T.b_needed_letters .nil pass0 (pa_cons (pv 5) (pa_cons (pe_op (kADD (K := K) rfl) (pe_revT (K := K) rfl (pv 6)) (pv 6)) pa_nil))) (pv 8) (nomark _)) pe_bl)))))))))))))))))))), ?_⟩
  rintro _ F ms Q Ea ⟨ns, rfl, hn, q⟩
  walk_at "al"
  refine ⟨ns, rfl, hn, fun F1 l st e1 hst => ?_⟩
  walk_at "al"
  refine ae_lstF ?_
  walk_at "al"
  refine ⟨by simp, fun F2 e2 => ?_⟩
  walk_at "al"
  refine ⟨0, l, st, 3, rfl, rfl, hst, by decide, by decide, fun st1 r hst1 r0 r1 => ?_⟩
  obtain ⟨z, hz, hz1, hz2, hz3, hz4⟩ := z38_at r0 r1
  refine ar_ixL (d := .str z) hz ?_
  walk_at "al"
  refine ⟨0, l, st1, 9, rfl, rfl, hst1, by decide, by decide, fun st2 w0 hst2 w1 w2 => ?_⟩
  walk_at "al"
  refine ⟨0, l, st2, z, rfl, rfl, hst2, by omega, hz2, hz3, fun st3 F3 ps e3 hst3 hp1 hp2 hp3 => ?_⟩
  have hpL : okPs ps := fun c hc => hz3 c (hp2 c hc)
  obtain ⟨wd, hwd⟩ : ∃ wd, wd = 1 + w0 := ⟨_, rfl⟩
  rw [← hwd]
  have hwd1 : 1 ≤ wd := by omega
  have hwd2 : wd ≤ 9 := by omega
  walk_at "al"
  refine as_asgH ?_
  refine aeh_tup3 ?_
  refine ae_make (dds := []) (fun _ => .nil) ?_
  walk_at "al"
  intro x F4 e4
  refine ⟨x, wd, ps, _, rfl, by omega, by omega, by omega, hpL, hp3, rfl, fun m F5 e5 => ⟨rfl, ?_⟩⟩
  walk_at "al"
  refine ⟨2, l, st3, wd, z, rfl, rfl, hst3, by omega, by omega, hz4, by omega, hz3, fun st4 F6 ts e6 hst4 ht1 ht2 ht htz => ?_⟩
  walk_at "al"
  refine aeh_call ?_
  walk_at "al"
  refine ⟨2, l, st4, z, rfl, rfl, hst4, by omega, hz2, hz3, fun N st5 F7 sa od sk e7 hst5 hk1 hk2 hO => ?_⟩
  intro F8 e8
  walk_at "al"
  refine ag_tup rfl ?_
  refine ags_cons (ag_name ?_)
  refine ags_cons (ag_name ?_)
  refine ags_cons (ag_name ?_)
  refine ags_nil ?_
  refine as_norm (S' := [some (.rdl (ns.map D.int)), some (.ref l), some (.str z), some (.int wd), some (.tup (ps.map pD)), some (.ref x), some (.tup (ts.map D.str)), some (.ref sa), none, none, none, none, none, none, none, none, none, none, none, none, none, none]) rfl ?_
  refine as_permA (ms2 := [(sa, .raw (.frz od (.dK (stkV sk)))), (m, .dic (kvsOf ps)), (x, .ins T.c_Sign (fldS m wd ps))]) (G := (l, .lst st5) :: ms) (.refl _) ?_
  have hskN : (sk.map (·.1)).Nodup := hk1
  have hskl : sk.length ≤ 6 := by
    have h1 := nd_len _ z.cps.toList hskN fun c hc => by
      obtain ⟨p, hp, rfl⟩ := List.mem_map.mp hc
      exact (hk2 p hp).1
    rw [List.length_map] at h1
    have : z.cps.toList.length = z.length := Array.length_toList
    omega
  have hskO : okStock sk := ⟨by omega, hskN, fun p hp => ⟨hz3 _ (hk2 p hp).1, (hk2 p hp).2.1, by have := (hk2 p hp).2.2; omega⟩⟩
  have ht12 : ts.length ≤ 12 := by omega
  have hS3 : Sgn T.c_Sign [(sa, .raw (.frz od (.dK (stkV sk)))), (m, .dic (kvsOf ps)), (x, .ins T.c_Sign (fldS m wd ps))] x wd ps := ⟨2, 1, m, rfl, rfl⟩
  refine as_cut (P := fun F' ms' S' => ∃ (lm ln : Addr) (nd : Cn) (G : Ms), NeedOk ps ts nd ∧ ms'.Perm ([(lm, .dic (cntD (missF ps nd sk))), (ln, .dic (cntD nd)), (sa, .raw (.frz od (.dK (stkV sk)))), (m, .dic (kvsOf ps)), (x, .ins T.c_Sign (fldS m wd ps))] ++ G) ∧
    S' = [some (.rdl (ns.map D.int)), some (.ref l), some (.str z), some (.int wd), some (.tup (ps.map pD)), some (.ref x), some (.tup (ts.map D.str)), some (.ref sa), some (.ref ln), some (.ref lm), none, none, none, none, none, none, none, none, none, none, none, none]) ?_ ?_
  · walk_at "al"
    refine ⟨x, wd, ps, ts, rfl, hS3, by omega, ht1, ht12, ht, hpL, fun F9 J1 ln nd e9 hnd => ?_⟩
    walk_at "al"
    refine ⟨x, wd, ps, ts, sa, sk, rfl, (sgn_app J1 hS3).cons, by omega, ht1, ht12, ht, hpL, ⟨J1.length + 0 + 1, od, stkV sk, app_at (E := J1) 0, rep_stk sk⟩, hskO, fun F10 J2 lm nd2 e10 hnd2 => ?_⟩
    obtain rfl : nd2 = nd := need_uniq hnd2.1 hnd.1 fun p => (hnd2.2 p).trans (hnd.2 p).symm
    walk_at "al"
    exact ⟨lm, ln, nd2, J2 ++ J1, hnd, perm5, rfl⟩
  rintro F9 ms9 _ e9 ⟨lm, ln, nd, G, hnd, hpm, rfl⟩
  refine as_permA hpm ?_
  have hndn : (nd.map (·.1)).Nodup := hnd.1.imp fun h => Nat.ne_of_lt h
  have hndL : ∀ p ∈ nd, inL p.1 := fun p hp => by
    obtain ⟨h1, h2⟩ := (hnd.2 p).mp hp
    obtain ⟨a, ha, e⟩ := List.mem_map.mp (need_in htz (by omega : 0 < needC ps ts p.1))
    rw [← e]
    exact pc_in hpL (hz3 a ha)
  obtain ⟨mi, hmi⟩ : ∃ mi, mi = missF ps nd sk := ⟨_, rfl⟩
  rw [← hmi]
  have hmis : (mi.map (·.1)).Sublist (nd.map (·.1)) := by rw [hmi]; exact miss_keys ps nd sk
  have hmiP : (mi.map (·.1)).Pairwise (· < ·) := hnd.1.sublist hmis
  have hmin : (mi.map (·.1)).Nodup := hndn.sublist hmis
  have hmiL : ∀ p ∈ mi, inL p.1 := fun p hp => by
    obtain ⟨q, hq, e⟩ := List.mem_map.mp (hmis.subset (List.mem_map_of_mem hp))
    rw [← e]
    exact hndL q hq
  have hndl := keys_len hndn hndL
  have hmil := keys_len hmin hmiL
  have hndk : ∀ c ∈ nd.map (·.1), inL c := fun c hc => by
    obtain ⟨p, hp, rfl⟩ := List.mem_map.mp hc
    exact hndL p hp
  have hmik : ∀ c ∈ mi.map (·.1), inL c := fun c hc => by
    obtain ⟨p, hp, rfl⟩ := List.mem_map.mp hc
    exact hmiL p hp
  refine as_cut (P := fun F' ms' S' => ms' = [(lm, .dic (cntD mi)), (ln, .dic (cntD nd)), (sa, .raw (.frz od (.dK (stkV sk)))), (m, .dic (kvsOf ps)), (x, .ins T.c_Sign (fldS m wd ps))] ∧
    S' = [some (.rdl (ns.map D.int)), some (.ref l), some (.str z), some (.int wd), some (.tup (ps.map pD)), some (.ref x), some (.tup (ts.map D.str)), some (.ref sa), some (.ref ln), some (.ref lm), none, none, none, none, none, none, none, none, none, none, none, none]) ?_ ?_
  · walk_at "al"
    refine ac_listD (kvs := cntD nd) (ks := (nd.map (·.1)).map sg) (.own (n := 1) rfl) (keys_sg nd) fun F10 e10 => ?_
    walk_at "al"
    refine ac_sortD (kvs := cntD nd) (ks := (nd.map (·.1)).map sg) (.own (n := 1) rfl) (keys_sg nd) (by rw [List.length_map, List.length_map]; omega) fun F11 ys e11 y1 y2 => ?_
    obtain rfl := sort_same hnd.1 y1 y2
    refine ar_NEd (okD_sgs hndk).1 (okD_sgs hndk).1 (okD_sgs hndk).2 (okD_sgs hndk).2 ?_
    rw [eqv_self _ (okD_sgs hndk).1]
    walk_at "al"
    refine ac_listD (kvs := cntD mi) (ks := (mi.map (·.1)).map sg) (.own (n := 0) rfl) (keys_sg mi) fun F12 e12 => ?_
    walk_at "al"
    refine ac_sortD (kvs := cntD mi) (ks := (mi.map (·.1)).map sg) (.own (n := 0) rfl) (keys_sg mi) (by rw [List.length_map, List.length_map]; omega) fun F13 ys e13 y3 y4 => ?_
    obtain rfl := sort_same hmiP y3 y4
    refine ar_NEd (okD_sgs hmik).1 (okD_sgs hmik).1 (okD_sgs hmik).2 (okD_sgs hmik).2 ?_
    rw [eqv_self _ (okD_sgs hmik).1]
    walk_at "al"
    exact ⟨rfl, rfl⟩
  rintro F13 _ _ e13 ⟨rfl, rfl⟩
  have htL : ∀ t ∈ ts, (t.length : Int) ≤ 9 := fun t h => by have := (ht t h).2.1; omega
  refine as_cut (P := fun F' ms' S' => ∃ (a10 a11 a12 a13 a14 : Option D), ms' = [(lm, .dic (cntD mi)), (ln, .dic (cntD nd)), (sa, .raw (.frz od (.dK (stkV sk)))), (m, .dic (kvsOf ps)), (x, .ins T.c_Sign (fldS m wd ps))] ∧
    S' = [some (.rdl (ns.map D.int)), some (.ref l), some (.str z), some (.int wd), some (.tup (ps.map pD)), some (.ref x), some (.tup (ts.map D.str)), some (.ref sa), some (.ref ln), some (.ref lm), a10, a11, a12, a13, a14, none, none, none, none, none, none, none]) ?_ ?_
  · refine as_lock 1 rfl fun od2 vs2 rk2 => ?_
    refine as_for ?_
    refine ai_keys ?_
    walk_at "al"
    refine ⟨ln, od2, vs2, _, 1, rfl, rfl, rk2, ?_⟩
    refine ⟨fun i F' ms' S' => ∃ (a10 a11 a12 a13 a14 : Option D), ms' = [(lm, .dic (cntD mi)), (ln, .raw (.frz od2 (.dK vs2))), (sa, .raw (.frz od (.dK (stkV sk)))), (m, .dic (kvsOf ps)), (x, .ins T.c_Sign (fldS m wd ps))] ∧
    S' = [some (.rdl (ns.map D.int)), some (.ref l), some (.str z), some (.int wd), some (.tup (ps.map pD)), some (.ref x), some (.tup (ts.map D.str)), some (.ref sa), some (.ref ln), some (.ref lm), a10, a11, a12, a13, a14, none, none, none, none, none, none, none], ⟨_, _, _, _, _, rfl, rfl⟩, ?_, ?_, ?_⟩
    · rintro i F' ms' S' e' ⟨_, _, _, _, _, rfl, _⟩
      exact ⟨1, rfl⟩
    · rintro i d Fa msa Sa ea hd ⟨a10, a11, a12, a13, a14, rfl, rfl⟩ Fb eb
      obtain ⟨p, hp, rfl⟩ := keys_at hd
      have hpm := List.mem_of_getElem? hp
      obtain ⟨hpn, hp0⟩ := (hnd.2 p).mp hpm
      have hvs : valD (cntD nd) (kS p.1) = some (.int p.2) := by
        rw [← valC_mem hndn p hpm]
        exact valD_some (by rw [valC_mem hndn p hpm]; omega)
      refine ag_name ?_
      refine as_norm (S' := [_, _, _, _, _, _, _, _, _, _, some (.str (sg p.1)), _, _, _, _, _, _, _, _, _, _, _]) rfl ?_
      walk_at "al"
      refine as_norm (S' := [_, _, _, _, _, _, _, _, _, _, some (.str (sg p.1)), some (.int 0), _, _, _, _, _, _, _, _, _, _]) rfl ?_
      have hSL : Sgn T.c_Sign [(lm, .dic (cntD mi)), (ln, .raw (.frz od2 (.dK vs2))), (sa, .raw (.frz od (.dK (stkV sk)))), (m, .dic (kvsOf ps)), (x, .ins T.c_Sign (fldS m wd ps))] x wd ps := ⟨4, 3, m, rfl, rfl⟩
      refine as_for ?_
      refine ai_tup ?_
      walk_at "al"
      refine ⟨_, rfl, fun n F' ms' S' => ∃ (a12 a13 : Option D), ms' = [(lm, .dic (cntD mi)), (ln, .raw (.frz od2 (.dK vs2))), (sa, .raw (.frz od (.dK (stkV sk)))), (m, .dic (kvsOf ps)), (x, .ins T.c_Sign (fldS m wd ps))] ∧ S' = [some (.rdl (ns.map D.int)), some (.ref l), some (.str z), some (.int wd), some (.tup (ps.map pD)), some (.ref x), some (.tup (ts.map D.str)), some (.ref sa), some (.ref ln), some (.ref lm), some (.str (sg p.1)), some (.int (needC ps (ts.take n) p.1)), a12, a13, a14, none, none, none, none, none, none, none], ⟨_, _, rfl, rfl⟩, fun _ _ _ _ _ _ => trivial, ?_, ?_⟩
      · rintro n d F2 ms2 S2 e2 hd ⟨b12, b13, rfl, rfl⟩ F3 e3
        obtain ⟨t, ht1', rfl⟩ := strs_at hd
        have htm := List.mem_of_getElem? ht1'
        have ht9 := htL t htm
        refine ag_name ?_
        refine as_norm (S' := [_, _, _, _, _, _, _, _, _, _, _, _, some (.str t), _, _, _, _, _, _, _, _, _]) rfl ?_
        walk_at "al"
        refine ae_bmL ?_
        refine lc_str (p := fun a => decide (a ≠ 32)) (f := fun a => .str (pieceS ps a)) (by simp) ?_
        walk_at "al"
        refine ⟨by omega, fun i c hc F4 e4 => ?_, fun F4 e4 => ?_⟩
        · unfold AL.Pure
          walk_at "al"
          refine ⟨rfl, by by_cases h : c = 32 <;> simp [sg32, h], fun _ => ?_⟩
          refine ae_meth ?_
          walk_at "al"
          refine ⟨x, fldS m wd ps, rfl, .inr ⟨4, rfl⟩, fld_no (by decide +kernel) (by decide +kernel) (by decide +kernel), ?_⟩
          walk_at "al"
          exact ⟨x, wd, ps, c, rfl, hSL, rfl, rfl⟩
        refine ⟨_, .inl (.inl rfl), ?_⟩
        walk_at "al"
        refine am_countS (xs := (t.cps.toList.filter fun a => decide (a ≠ 32)).map (pieceS ps)) (.inl (.inl (by rw [List.map_map]; rfl))) ?_
        rw [cnt_law2]
        walk_at "al"
        refine ⟨some (.str t), b13, rfl, ?_⟩
        rw [need_take ps p.1 ht1', ← max_if]
        rfl
      · rintro F2 ms2 S2 e2 ⟨b12, b13, rfl, rfl⟩
        rw [List.length_map, List.take_length, ← hpn]
        walk_at "al"
        refine ae_lc (gw_name (by simp)) gm_name ?_
        refine ai_keys ?_
        walk_at "al"
        refine ⟨sa, od, stkV sk, _, 2, rfl, rfl, rep_stk sk, ?_⟩
        refine ⟨fun j F' ms' acc => ms' = [(lm, .dic (cntD mi)), (ln, .raw (.frz od2 (.dK vs2))), (sa, .raw (.frz od (.dK (stkV sk)))), (m, .dic (kvsOf ps)), (x, .ins T.c_Sign (fldS m wd ps))] ∧ acc = ((sk.take j).filter fun r => decide (pc ps r.1 = p.1)).map fun r => .int r.2, ⟨rfl, rfl⟩, ?_, ?_, ?_⟩
        · rintro j F' ms' acc e' ⟨rfl, _⟩
          exact ⟨2, rfl⟩
        · rintro j d F4 ms4 acc e4 hd4 ⟨rfl, rfl⟩ F5 e5
          obtain ⟨r, hr4, rfl⟩ := keys_at hd4
          have hjl : j < sk.length := (List.getElem?_eq_some_iff.mp hr4).1
          have hrs : valD (cntD sk) (kS r.1) = some (.int r.2) := by
            rw [← valC_mem hskN r (List.mem_of_getElem? hr4)]
            exact valD_in (List.mem_map_of_mem (List.mem_of_getElem? hr4))
          have hstep : ((sk.take (j + 1)).filter fun r => decide (pc ps r.1 = p.1)).map (fun r => D.int r.2) = ((sk.take j).filter fun r => decide (pc ps r.1 = p.1)).map (fun r => D.int r.2) ++ if pc ps r.1 = p.1 then [D.int r.2] else [] := by
            rw [List.take_succ, hr4, List.filter_append, List.map_append]
            congr 1
            show (List.filter _ [r]).map _ = _
            rw [List.filter_cons, List.filter_nil]
            by_cases h : pc ps r.1 = p.1
            · rw [decide_eq_true h, if_pos rfl, if_pos h]; rfl
            · rw [decide_eq_false h, if_neg (by decide), if_neg h]; rfl
          have hlt : (((sk.take j).filter fun r => decide (pc ps r.1 = p.1)).map (fun r => D.int r.2)).length ≤ 6 := by
            rw [List.length_map]
            refine Nat.le_trans (List.length_filter_le _ _) ?_
            rw [List.length_take]
            omega
          refine ag_name ?_
          walk_at "al"
          refine ae_meth ?_
          walk_at "al"
          refine ⟨x, fldS m wd ps, rfl, .inr ⟨4, rfl⟩, fld_no (by decide +kernel) (by decide +kernel) (by decide +kernel), ?_⟩
          walk_at "al"
          refine ⟨x, wd, ps, r.1, rfl, hSL, ?_⟩
          walk_at "al"
          refine ⟨fun hb => ?_, fun hb => ?_⟩
          · have hb := of_decide_eq_true hb
            rw [pieceS_pc, sg_inj] at hb
            refine ae_dgetR ?_
            walk_at "al"
            refine ⟨kS r.1, _, _, rfl, .lck (n := 2) rfl (rep_stk sk), hrs, ?_⟩
            refine ⟨by omega, rfl, ?_⟩
            rw [hstep, if_pos hb]
          · have hb := of_decide_eq_false hb
            rw [pieceS_pc, sg_inj] at hb
            refine ⟨rfl, ?_⟩
            rw [hstep, if_neg hb, List.append_nil]
        · rintro F4 ms4 acc e4 ⟨rfl, rfl⟩ F5 e5
          rw [keys_lenD, List.take_length]
          walk_at "al"
          rw [show (sk.filter fun r => decide (pc ps r.1 = p.1)).map (fun r => D.int r.2) = ((sk.filter fun r => decide (pc ps r.1 = p.1)).map (·.2)).map D.int by rw [List.map_map]; rfl]
          refine ac_sumL ?_
          rw [show ((sk.filter fun r => decide (pc ps r.1 = p.1)).map (·.2)).sum = haveC ps sk p.1 from rfl]
          have hmv : valC mi p.1 = max 0 (p.2 - haveC ps sk p.1) := by rw [hmi]; exact miss_val hndn hpm
          walk_at "al"
          refine ae_dgetR ?_
          walk_at "al"
          refine ⟨kS p.1, _, _, rfl, .lck (n := 1) rfl (rk2.mono (ea.trans (eb.trans (e2.trans (e4.trans e5))))), hvs, ?_⟩
          walk_at "al"
          refine and_ndT' rfl ?_
          walk_at "al"
          refine and_dF' (by omega) ?_
          walk_at "al"
          refine ae_dget2R ?_
          walk_at "al"
          refine ⟨_, .own (n := 0) rfl, ?_⟩
          walk_at "al"
          refine ⟨kS p.1, rfl, .own (n := 0) rfl, ?_⟩
          rw [valD_cnt _ (.int 0), hmv]
          walk_at "al"
          rw [max_if]
          refine and_ndT rfl ?_
          walk_at "al"
          exact ⟨_, _, _, _, _, rfl, rfl⟩
    · rintro Fa msa Sa ea ⟨a10, a11, a12, a13, a14, rfl, rfl⟩
      exact ⟨1, rfl, _, _, _, _, _, rfl, rfl⟩
  rintro F14 _ _ e14 ⟨a10, a11, a12, a13, a14, rfl, rfl⟩
  walk_at "al"
  refine ac_dictD (kvs := cntD sk) (.lck (n := 2) rfl (rep_stk sk)) fun lf => ?_
  refine as_norm (S' := [some (.rdl (ns.map D.int)), some (.ref l), some (.str z), some (.int wd), some (.tup (ps.map pD)), some (.ref x), some (.tup (ts.map D.str)), some (.ref sa), some (.ref ln), some (.ref lm), a10, a11, a12, a13, a14, some (.ref lf), none, none, none, none, none, none]) rfl ?_
  have hskL : ∀ p ∈ sk, inL p.1 := fun p hp => (hskO.2.2 p hp).1
  have hmi9 : ∀ p ∈ mi, 0 ≤ p.2 ∧ p.2 ≤ 9 := fun p hp => by
    have h1 := valC_mem hmin p hp
    rw [hmi] at hp
    have h2 := miss_pos hp
    unfold missF at hp
    obtain ⟨r, hr, rfl⟩ := List.mem_map.mp hp
    have h3 := ((hnd.2 r).mp (List.mem_filter.mp hr).1).1
    have h4 := need_le (ps := ps) (ts := ts) (w := 9) (by decide) htL r.1
    have h5 := (have_ge ps (d := r.1) (L := sk) fun q hq => (hskO.2.2 q hq).2.1).1
    show 0 ≤ r.2 - haveC ps sk r.1 ∧ r.2 - haveC ps sk r.1 ≤ 9
    have h2 : 0 < r.2 - haveC ps sk r.1 := h2
    omega
  refine as_cut (P := fun F' ms' S' => ∃ (a10 : Option D), ms' = (lf, .dic (cntD (sumF id sk mi))) :: [(lm, .dic (cntD mi)), (ln, .dic (cntD nd)), (sa, .raw (.frz od (.dK (stkV sk)))), (m, .dic (kvsOf ps)), (x, .ins T.c_Sign (fldS m wd ps))] ∧
    S' = [some (.rdl (ns.map D.int)), some (.ref l), some (.str z), some (.int wd), some (.tup (ps.map pD)), some (.ref x), some (.tup (ts.map D.str)), some (.ref sa), some (.ref ln), some (.ref lm), a10, a11, a12, a13, a14, some (.ref lf), none, none, none, none, none, none]) ?_ ?_
  · refine as_lock 1 rfl fun od2 vs2 rk2 => ?_
    refine as_for ?_
    refine ai_keys ?_
    walk_at "al"
    refine ⟨lm, od2, vs2, _, 1, rfl, rfl, rk2, ?_⟩
    refine ⟨fun i F' ms' S' => ∃ (a10 : Option D), ms' = (lf, .dic (cntD (sumF id sk (mi.take i)))) :: [(lm, .raw (.frz od2 (.dK vs2))), (ln, .dic (cntD nd)), (sa, .raw (.frz od (.dK (stkV sk)))), (m, .dic (kvsOf ps)), (x, .ins T.c_Sign (fldS m wd ps))] ∧
    S' = [some (.rdl (ns.map D.int)), some (.ref l), some (.str z), some (.int wd), some (.tup (ps.map pD)), some (.ref x), some (.tup (ts.map D.str)), some (.ref sa), some (.ref ln), some (.ref lm), a10, a11, a12, a13, a14, some (.ref lf), none, none, none, none, none, none], ⟨_, rfl, rfl⟩, ?_, ?_, ?_⟩
    · rintro i F' ms' S' e' ⟨_, rfl, _⟩
      exact ⟨1, rfl⟩
    · rintro i d Fa msa Sa ea hd ⟨b10, rfl, rfl⟩ Fb eb
      obtain ⟨p, hp, rfl⟩ := keys_at hd
      have hvs : valD (cntD mi) (kS p.1) = some (.int p.2) := by
        rw [← valC_mem hmin p (List.mem_of_getElem? hp)]
        exact valD_in (List.mem_map_of_mem (List.mem_of_getElem? hp))
      have hst := sumF_take id sk hp
      have hN := keys_len (sumF_nd id (mi.take i) sk hskN) (sumF_keys id (mi.take i) sk (fun r hr => hmiL r (List.mem_of_mem_take hr)) hskL)
      generalize sumF id sk (mi.take i) = N at hst hN ⊢
      refine ag_name ?_
      refine as_norm (S' := [_, _, _, _, _, _, _, _, _, _, some (.str (sg p.1)), _, _, _, _, _, _, _, _, _, _, _]) rfl ?_
      refine as_dput ?_
      walk_at "al"
      refine ae_dget2R ?_
      walk_at "al"
      refine ⟨_, .own (n := 0) rfl, ?_⟩
      walk_at "al"
      refine ⟨kS p.1, rfl, .own (n := 0) rfl, ?_⟩
      rw [valD_cnt _ (.int 0)]
      walk_at "al"
      refine ae_dgetR ?_
      walk_at "al"
      refine ⟨kS p.1, _, _, rfl, .lck (n := 1) rfl (rk2.mono (ea.trans eb)), hvs, ?_⟩
      walk_at "al"
      refine ⟨0, lf, _, kS p.1, rfl, rfl, rfl, by rw [cntD_len]; omega, ?_⟩
      refine ⟨_, ?_, rfl⟩
      rw [hst, put_cnt]
      rfl
    · rintro Fa msa Sa ea ⟨b10, rfl, rfl⟩
      rw [keys_lenD, List.take_length]
      exact ⟨1, rfl, _, rfl, rfl⟩
  rintro F15 _ _ e15 ⟨b10, rfl, rfl⟩
  obtain ⟨fi, hfi⟩ : ∃ fi, fi = sumF id sk mi := ⟨_, rfl⟩
  rw [← hfi]
  have hfiO : okStock fi := by
    have h1 := sumF_nd id mi sk hskN
    have h2 := sumF_keys id mi sk (fun r hr => hmiL r hr) hskL
    have h3 := sumF_val id 9 (by decide) mi sk 4 (by decide) hmi9 (fun p hp => (hk2 p hp).2)
    rw [← hfi] at h1 h2 h3
    refine ⟨Nat.le_trans (keys_len h1 h2) (by decide), h1, fun p hp => ⟨h2 p hp, (h3 p hp).1, ?_⟩⟩
    have := (h3 p hp).2
    omega
  have hfiE : missF ps nd fi = [] := by
    rw [hfi, hmi]
    exact miss_fill hp3 hnd hskN
  refine as_cut (P := fun F' ms' S' => ∃ (G : Ms), ms'.Perm ([(lm, .dic (cntD mi)), (ln, .dic (cntD nd)), (sa, .raw (.frz od (.dK (stkV sk)))), (m, .dic (kvsOf ps)), (x, .ins T.c_Sign (fldS m wd ps))] ++ G) ∧
    S' = [some (.rdl (ns.map D.int)), some (.ref l), some (.str z), some (.int wd), some (.tup (ps.map pD)), some (.ref x), some (.tup (ts.map D.str)), some (.ref sa), some (.ref ln), some (.ref lm), b10, a11, a12, a13, a14, some (.ref lf), none, none, none, none, none, none]) ?_ ?_
  · walk_at "al"
    refine ae_lockV ?_
    walk_at "al"
    refine ⟨0, lf, _, rfl, rfl, fun od2 vs2 rk2 => ?_⟩
    walk_at "al"
    refine ⟨x, wd, ps, ts, lf, fi, rfl, ⟨5, 4, m, rfl, rfl⟩, by omega, ht1, ht12, ht, hpL, ⟨0, od2, vs2, rfl, rk2⟩, hfiO, fun F16 J1 l1 nd2 e16 hnd2 => ?_⟩
    obtain rfl : nd2 = nd := need_uniq hnd2.1 hnd.1 fun p => (hnd2.2 p).trans (hnd.2 p).symm
    rw [hfiE]
    walk_at "al"
    refine ae_dnewO fun l0 => ?_
    refine ar_NEdic (x := .non) (y := .non) (m := []) (n := 1) (n' := 0) rfl rfl (by simp) ?_
    walk_at "al"
    refine ae_lockV ?_
    refine ae_dnewO fun l2 => ?_
    refine ⟨0, l2, _, rfl, rfl, fun od3 vs3 rk3 => ?_⟩
    walk_at "al"
    refine ⟨x, wd, ps, ts, l2, [], rfl, sgn_of (m := m) (by simp) (by simp), by omega, ht1, ht12, ht, hpL, ⟨0, od3, vs3, rfl, rk3⟩, ⟨by decide, .nil, fun p hp => by cases hp⟩, fun F17 J2 l3 nd3 e17 hnd3 => ?_⟩
    obtain rfl : nd3 = nd2 := need_uniq hnd3.1 hnd.1 fun p => (hnd3.2 p).trans (hnd.2 p).symm
    rw [miss_nil fun p hp => ((hnd.2 p).mp hp).2]
    walk_at "al"
    refine ar_NEdic (x := .non) (y := .non) (m := nd3.map fun p => (kS p.1, p.2)) (n := 0) (n' := J2.length + (J1.length + 2 + 3) + 1) (by rw [← cntD_ints]; rfl) (by rw [← cntD_ints]; exact (app_at (E := J2) (J1.length + 2 + 3)).trans (app_at (E := J1) 2)) (kS_nd hndn) ?_
    walk_at "al"
    exact ⟨_, perm7, rfl⟩
  rintro F16 ms16 _ e16 ⟨G, hpm, rfl⟩
  refine as_permA hpm ?_
  walk_at "al"
  refine ae_dnewO fun ls => ?_
  refine as_norm (S' := [some (.rdl (ns.map D.int)), some (.ref l), some (.str z), some (.int wd), some (.tup (ps.map pD)), some (.ref x), some (.tup (ts.map D.str)), some (.ref sa), some (.ref ln), some (.ref lm), b10, a11, a12, a13, a14, some (.ref lf), some (.ref ls), none, none, none, none, none]) rfl ?_
  refine as_cut (P := fun F' ms' S' => ∃ (b13 b17 b18 b19 : Option D), ms' = (ls, .dic (cntD (sumF (mtF ps) [] sk))) :: [(lm, .dic (cntD mi)), (ln, .dic (cntD nd)), (sa, .raw (.frz od (.dK (stkV sk)))), (m, .dic (kvsOf ps)), (x, .ins T.c_Sign (fldS m wd ps))] ∧
    S' = [some (.rdl (ns.map D.int)), some (.ref l), some (.str z), some (.int wd), some (.tup (ps.map pD)), some (.ref x), some (.tup (ts.map D.str)), some (.ref sa), some (.ref ln), some (.ref lm), b10, a11, a12, b13, a14, some (.ref lf), some (.ref ls), b17, b18, b19, none, none]) ?_ ?_
  · refine as_forK (kvs := cntD sk) (vs := stkV sk) rfl ⟨3, rfl⟩ hO (rep_stk sk) (fun i F' ms' S' => ∃ (b13 b17 b18 b19 : Option D), ms' = (ls, .dic (cntD (sumF (mtF ps) [] (sk.take i)))) :: [(lm, .dic (cntD mi)), (ln, .dic (cntD nd)), (sa, .raw (.frz od (.dK (stkV sk)))), (m, .dic (kvsOf ps)), (x, .ins T.c_Sign (fldS m wd ps))] ∧
      S' = [some (.rdl (ns.map D.int)), some (.ref l), some (.str z), some (.int wd), some (.tup (ps.map pD)), some (.ref x), some (.tup (ts.map D.str)), some (.ref sa), some (.ref ln), some (.ref lm), b10, a11, a12, b13, a14, some (.ref lf), some (.ref ls), b17, b18, b19, none, none]) ⟨a13, none, none, none, rfl, rfl⟩ (fun i F' ms' S' _ ⟨_, _, _, _, h, _⟩ => ⟨3, by rw [h]; rfl⟩) ?_ ?_
    · rintro i k d F' ms' S' e hkd ⟨b13, b17, b18, b19, rfl, rfl⟩
      obtain ⟨r, hr, rfl, rfl⟩ : ∃ r : Nat × Int, sk[i]? = some r ∧ k = kS r.1 ∧ d = .int r.2 := by
        unfold cntD at hkd
        rw [List.getElem?_map] at hkd
        cases hh : sk[i]? with
        | none => rw [hh] at hkd; cases hkd
        | some r =>
          rw [hh] at hkd
          have := Option.some.inj hkd
          exact ⟨r, rfl, (Prod.mk.inj this).1.symm, (Prod.mk.inj this).2.symm⟩
      have hrm := List.mem_of_getElem? hr
      have hst := sumF_take (mtF ps) [] hr
      have hN := keys_len (sumF_nd (mtF ps) (sk.take i) [] .nil) (sumF_keys (mtF ps) (sk.take i) [] (fun r hr => mt_in hpL (hskL r (List.mem_of_mem_take hr))) (fun p hp => by cases hp))
      generalize sumF (mtF ps) [] (sk.take i) = M at hst hN ⊢
      have hrs : valD (cntD sk) (kS r.1) = some (.int r.2) := by
        rw [← valC_mem hskN r hrm]
        exact valD_in (List.mem_map_of_mem hrm)
      obtain ⟨c0, hc0⟩ : ∃ c0, c0 = r.1 := ⟨_, rfl⟩
      rw [← hc0] at hst hrs ⊢
      refine as_norm (S' := [some (.rdl (ns.map D.int)), some (.ref l), some (.str z), some (.int wd), some (.tup (ps.map pD)), some (.ref x), some (.tup (ts.map D.str)), some (.ref sa), some (.ref ln), some (.ref lm), b10, a11, a12, some (.str (sg c0)), a14, some (.ref lf), some (.ref ls), b17, b18, b19, none, none]) rfl ?_
      have hcl : mtF ps c0 = ((ps.filter fun p => decide (c0 = p.1 ∨ c0 = p.2)).map (othr c0)).headD c0 := rfl
      walk_at "al"
      refine ae_lc (gw_name (by simp)) gm_name ?_
      refine ai_tup ?_
      walk_at "al"
      refine ⟨_, rfl, fun n F2 ms2 acc => ms2 = (ls, .dic (cntD M)) :: [(lm, .dic (cntD mi)), (ln, .dic (cntD nd)), (sa, .raw (.frz od (.dK (stkV sk)))), (m, .dic (kvsOf ps)), (x, .ins T.c_Sign (fldS m wd ps))] ∧ acc = (((ps.take n).filter fun p => decide (c0 = p.1 ∨ c0 = p.2)).map (othr c0)).map fun c => D.str (sg c), ⟨rfl, rfl⟩, fun _ _ _ _ _ _ => trivial, ?_, ?_⟩
      · rintro n d F2 ms3 acc e2 hd ⟨rfl, rfl⟩ F3 e3
        obtain ⟨p, hp, rfl⟩ := pairs_at hd
        have hpm := List.mem_of_getElem? hp
        have hs : (((ps.take (n + 1)).filter fun p => decide (c0 = p.1 ∨ c0 = p.2)).map (othr c0)).map (fun c => D.str (sg c)) = (((ps.take n).filter fun p => decide (c0 = p.1 ∨ c0 = p.2)).map (othr c0)).map (fun c => D.str (sg c)) ++ if c0 = p.1 ∨ c0 = p.2 then [D.str (sg (othr c0 p))] else [] := by
          rw [List.take_succ, hp, List.filter_append, List.map_append, List.map_append]
          congr 1
          show ((List.filter _ [p]).map _).map _ = _
          rw [List.filter_cons, List.filter_nil]
          by_cases h : c0 = p.1 ∨ c0 = p.2
          · rw [decide_eq_true h, if_pos rfl, if_pos h]; rfl
          · rw [decide_eq_false h, if_neg (by decide), if_neg h]; rfl
        refine ag_name ?_
        walk_at "al"
        refine ar_INs (c := c0) (z := pS p) ?_
        walk_at "al"
        refine ⟨fun hb => ?_, fun hb => ?_⟩
        · have hc : c0 = p.1 ∨ c0 = p.2 := by
            have := of_decide_eq_true hb
            simpa [pS] using this
          refine ae_replV (a := pS p) (b := sg c0) rfl rfl rfl (by show 2 + (2 + 1) * 0 ≤ 16777216; decide) ?_
          refine ⟨?_, rfl, ?_⟩
          · rw [List.length_map, List.length_map]
            have := List.length_filter_le (fun p => decide (c0 = p.1 ∨ c0 = p.2)) (ps.take n)
            rw [List.length_take] at this
            omega
          · rw [hs, if_pos hc, repl_pair (hpL p.1 (mem_flat hpm).1) (hpL p.2 (mem_flat hpm).2) (pair_ne hp3 hpm) hc]
            rfl
        · have hc : ¬ (c0 = p.1 ∨ c0 = p.2) := fun z => by
            have := of_decide_eq_false hb
            exact this (by simpa [pS] using z)
          exact ⟨rfl, by rw [hs, if_neg hc, List.append_nil]⟩
      · rintro F2 ms3 acc e2 ⟨rfl, rfl⟩ F3 e3
        rw [List.length_map, List.take_length]
        have hf : ∀ c ∈ (ps.filter fun p => decide (c0 = p.1 ∨ c0 = p.2)).map (othr c0), c < 128 := fun c hc => by
          obtain ⟨p, hp, rfl⟩ := List.mem_map.mp hc
          have hp := mem_flat (List.mem_filter.mp hp).1
          unfold othr
          split
          · exact inL_lt (hpL _ hp.2)
          · exact inL_lt (hpL _ hp.1)
        generalize (ps.filter fun p => decide (c0 = p.1 ∨ c0 = p.2)).map (othr c0) = fs at hcl hf ⊢
        refine as_norm (S' := [some (.rdl (ns.map D.int)), some (.ref l), some (.str z), some (.int wd), some (.tup (ps.map pD)), some (.ref x), some (.tup (ts.map D.str)), some (.ref sa), some (.ref ln), some (.ref lm), b10, a11, a12, some (.str (sg c0)), a14, some (.ref lf), some (.ref ls), some (.lst (fs.map fun c => D.str (sg c))), b18, b19, none, none]) rfl ?_
        refine as_cut (P := fun F' ms' S' => ms' = (ls, .dic (cntD M)) :: [(lm, .dic (cntD mi)), (ln, .dic (cntD nd)), (sa, .raw (.frz od (.dK (stkV sk)))), (m, .dic (kvsOf ps)), (x, .ins T.c_Sign (fldS m wd ps))] ∧ S' = [some (.rdl (ns.map D.int)), some (.ref l), some (.str z), some (.int wd), some (.tup (ps.map pD)), some (.ref x), some (.tup (ts.map D.str)), some (.ref sa), some (.ref ln), some (.ref lm), b10, a11, a12, some (.str (sg c0)), a14, some (.ref lf), some (.ref ls), some (.lst (fs.map fun c => D.str (sg c))), b18, some (.str (sg (mtF ps c0))), none, none]) ?_ ?_
        · walk_at "al"
          refine ae_lstF ?_
          walk_at "al"
          refine ⟨by simp, fun F4 e4 => ?_⟩
          refine ar_NEd (okL_sg hf) rfl (by show depL _ + 1 ≤ 64; rw [depL_sg]; decide) (by decide) ?_
          rw [eqv_nil', hcl]
          cases fs with
          | nil =>
            walk_at "al"
            refine and_ndT rfl ?_
            walk_at "al"
            exact ⟨rfl, rfl⟩
          | cons a fs =>
            walk_at "al"
            refine and_ndF (by simp) ?_
            walk_at "al"
            refine ar_ixL (d := .str (sg a)) (atI_of (j := 0) rfl rfl) ?_
            walk_at "al"
            exact ⟨rfl, rfl⟩
        rintro F4 _ _ e4 ⟨rfl, rfl⟩
        refine as_dput ?_
        walk_at "al"
        refine ae_dget2R ?_
        walk_at "al"
        refine ⟨_, .own (n := 0) rfl, ?_⟩
        walk_at "al"
        refine ⟨kS (mtF ps c0), rfl, .own (n := 0) rfl, ?_⟩
        rw [valD_cnt _ (.int 0)]
        walk_at "al"
        refine ae_dgetR ?_
        walk_at "al"
        refine ⟨kS c0, _, _, rfl, .lck (n := 3) rfl (rep_stk sk), hrs, ?_⟩
        walk_at "al"
        refine ⟨0, ls, _, kS (mtF ps c0), rfl, rfl, rfl, by rw [cntD_len]; omega, ?_⟩
        refine ⟨_, _, _, _, ?_, rfl⟩
        rw [hst, put_cnt]
        rfl
    · rintro F' ms' S' e ⟨b13, b17, b18, b19, rfl, rfl⟩
      rw [cntD_len, List.take_length]
      exact ⟨_, _, _, _, rfl, rfl⟩
  rintro F17 _ _ e17 ⟨b13, b17, b18, b19, rfl, rfl⟩
  obtain ⟨sw, hsw⟩ : ∃ sw, sw = sumF (mtF ps) [] sk := ⟨_, rfl⟩
  rw [← hsw]
  have hswO : okStock sw := by
    have h1 := sumF_nd (mtF ps) sk [] .nil
    have h2 := sumF_keys (mtF ps) sk [] (fun r hr => mt_in hpL (hskL r hr)) (fun p hp => by cases hp)
    have h3 := sumF_val (mtF ps) 4 (by decide) sk [] 0 (by decide) (fun p hp => (hk2 p hp).2) (fun p hp => by cases hp)
    rw [← hsw] at h1 h2 h3
    refine ⟨Nat.le_trans (keys_len h1 h2) (by decide), h1, fun p hp => ⟨h2 p hp, (h3 p hp).1, ?_⟩⟩
    have := (h3 p hp).2
    omega
  have hswE : missF ps nd sw = mi := by
    rw [hsw, hmi]
    refine miss_congr fun c => ?_
    rw [sumF_have (mt_pc hp3) c sk [] .nil, have_nil]
    omega
  refine as_cut (P := fun F' ms' S' => ∃ (G : Ms), ms'.Perm ([(lm, .dic (cntD mi)), (ln, .dic (cntD nd)), (sa, .raw (.frz od (.dK (stkV sk)))), (m, .dic (kvsOf ps)), (x, .ins T.c_Sign (fldS m wd ps))] ++ G) ∧
    S' = [some (.rdl (ns.map D.int)), some (.ref l), some (.str z), some (.int wd), some (.tup (ps.map pD)), some (.ref x), some (.tup (ts.map D.str)), some (.ref sa), some (.ref ln), some (.ref lm), b10, a11, a12, b13, a14, some (.ref lf), some (.ref ls), b17, b18, b19, none, none]) ?_ ?_
  · walk_at "al"
    refine ae_lockV ?_
    walk_at "al"
    refine ⟨0, ls, _, rfl, rfl, fun od2 vs2 rk2 => ?_⟩
    walk_at "al"
    refine ⟨x, wd, ps, ts, ls, sw, rfl, ⟨5, 4, m, rfl, rfl⟩, by omega, ht1, ht12, ht, hpL, ⟨0, od2, vs2, rfl, rk2⟩, hswO, fun F18 J1 l1 nd2 e18 hnd2 => ?_⟩
    obtain rfl : nd2 = nd := need_uniq hnd2.1 hnd.1 fun p => (hnd2.2 p).trans (hnd.2 p).symm
    rw [hswE]
    walk_at "al"
    refine ar_NEdic (x := .non) (y := .non) (m := mi.map fun p => (kS p.1, p.2)) (n := 0) (n' := J1.length + 1 + 1) (by rw [← cntD_ints]; rfl) (by rw [← cntD_ints]; exact app_at (E := J1) 1) (kS_nd hmin) ?_
    walk_at "al"
    exact ⟨_, perm2, rfl⟩
  rintro F18 ms18 _ e18 ⟨G2, hpm2, rfl⟩
  refine as_permA hpm2 ?_
  walk_at "al"
  have hS5 : ∀ E : Ms, Sgn T.c_Sign (E ++ [(lm, .dic (cntD mi)), (ln, .dic (cntD nd)), (sa, .raw (.frz od (.dK (stkV sk)))), (m, .dic (kvsOf ps)), (x, .ins T.c_Sign (fldS m wd ps))]) x wd ps := fun E => sgn_app E ⟨4, 3, m, rfl, rfl⟩
  refine ae_lc (gw_name (by simp)) gm_name ?_
  refine ai_tup ?_
  walk_at "al"
  refine ⟨_, rfl, fun i F' ms' acc => ∃ (E : Ms) (pl : List (Addr × Cn)), ms' = E ++ [(lm, .dic (cntD mi)), (ln, .dic (cntD nd)), (sa, .raw (.frz od (.dK (stkV sk)))), (m, .dic (kvsOf ps)), (x, .ins T.c_Sign (fldS m wd ps))] ∧ acc = pl.map (fun q => D.ref q.1) ∧ pl.length = i ∧ ∀ (j : Nat) (q : Addr × Cn) (t : Str), pl[j]? = some q → ts[j]? = some t → NeedOk ps [t] q.2 ∧ (q.1, MO.dic (cntD q.2)) ∈ E, ⟨[], [], rfl, rfl, rfl, fun j q t h => by simp at h⟩, fun _ _ _ _ _ _ => trivial, ?_, ?_⟩
  · rintro i d F' ms' acc e hd ⟨E0', pl, rfl, rfl, hpl, hP⟩ F'' e''
    obtain ⟨t, htk, rfl⟩ := strs_at hd
    have htm := List.mem_of_getElem? htk
    have hi : i < ts.length := (List.getElem?_eq_some_iff.mp htk).1
    refine ag_name ?_
    walk_at "al"
    refine ae_tup ?_
    walk_at "al"
    refine ⟨by simp, fun F19 e19 => ?_⟩
    walk_at "al"
    refine ⟨x, wd, ps, [t], rfl, hS5 E0', by omega, Nat.le_refl 1, (by decide : 1 ≤ 12), fun t' h => by rw [List.mem_singleton.mp h]; exact ht t htm, hpL, fun F20 J l2 nd2 e20 hnd2 => ?_⟩
    refine ⟨by rw [List.length_map]; omega, (l2, .dic (cntD nd2)) :: (J ++ E0'), pl ++ [(l2, nd2)], by rw [List.cons_append, List.append_assoc], by rw [List.map_append]; rfl, by rw [List.length_append, hpl]; rfl, fun j q t2 hj ht2' => ?_⟩
    by_cases hjl : j < pl.length
    · rw [List.getElem?_append_left hjl] at hj
      obtain ⟨a, b⟩ := hP j q t2 hj ht2'
      exact ⟨a, List.mem_cons_of_mem _ (List.mem_append_right _ b)⟩
    · have hj2 : j = pl.length := by
        have := (List.getElem?_eq_some_iff.mp hj).1
        rw [List.length_append, List.length_singleton] at this
        omega
      subst hj2
      rw [List.getElem?_append_right (Nat.le_refl _), Nat.sub_self] at hj
      obtain rfl := Option.some.inj hj
      rw [hpl, htk] at ht2'
      obtain rfl := Option.some.inj ht2'
      exact ⟨hnd2, List.mem_cons_self ..⟩
  · rintro F' ms' acc e ⟨E0', pl, rfl, rfl, hpl, hP⟩ F'' e''
    rw [List.length_map] at hpl
    refine as_norm (S' := [some (.rdl (ns.map D.int)), some (.ref l), some (.str z), some (.int wd), some (.tup (ps.map pD)), some (.ref x), some (.tup (ts.map D.str)), some (.ref sa), some (.ref ln), some (.ref lm), b10, a11, a12, b13, a14, some (.ref lf), some (.ref ls), b17, b18, b19, some (.lst (pl.map fun q => D.ref q.1)), none]) rfl ?_
    have hvals : ∀ c, pl.map (fun q => valC q.2 c) = ts.map fun t => cntP ps t c := fun c => by
      refine List.ext_getElem? fun j => ?_
      rw [List.getElem?_map, List.getElem?_map]
      by_cases hj : j < ts.length
      · rw [List.getElem?_eq_getElem hj, List.getElem?_eq_getElem (by omega : j < pl.length)]
        obtain ⟨a, _⟩ := hP j _ _ (List.getElem?_eq_getElem (by omega : j < pl.length)) (List.getElem?_eq_getElem hj)
        show some (valC _ c) = some (cntP ps _ c)
        rw [need_val a c, need_one]
      · rw [List.getElem?_eq_none (by omega), List.getElem?_eq_none (by omega)]
        rfl
    refine as_cut (P := fun F' ms' S' => ∃ (c10 c21 : Option D), ms' = E0' ++ [(lm, .dic (cntD mi)), (ln, .dic (cntD nd)), (sa, .raw (.frz od (.dK (stkV sk)))), (m, .dic (kvsOf ps)), (x, .ins T.c_Sign (fldS m wd ps))] ∧ S' = [some (.rdl (ns.map D.int)), some (.ref l), some (.str z), some (.int wd), some (.tup (ps.map pD)), some (.ref x), some (.tup (ts.map D.str)), some (.ref sa), some (.ref ln), some (.ref lm), c10, a11, a12, b13, a14, some (.ref lf), some (.ref ls), b17, b18, b19, some (.lst (pl.map fun q => D.ref q.1)), c21]) ?_ ?_
    · refine as_lock (E0'.length + 1) (app_at (E := E0') 1) fun od2 vs2 rk2 => ?_
      rw [app_set (E := E0') (c := 1)]
      refine as_for ?_
      refine ai_keys ?_
      walk_at "al"
      refine ⟨ln, od2, vs2, _, E0'.length + 1, rfl, app_at (E := E0') 1, rk2, ?_⟩
      refine ⟨fun i F' ms' S' => ∃ (c10 c21 : Option D), ms' = E0' ++ [(lm, .dic (cntD mi)), (ln, .raw (.frz od2 (.dK vs2))), (sa, .raw (.frz od (.dK (stkV sk)))), (m, .dic (kvsOf ps)), (x, .ins T.c_Sign (fldS m wd ps))] ∧ S' = [some (.rdl (ns.map D.int)), some (.ref l), some (.str z), some (.int wd), some (.tup (ps.map pD)), some (.ref x), some (.tup (ts.map D.str)), some (.ref sa), some (.ref ln), some (.ref lm), c10, a11, a12, b13, a14, some (.ref lf), some (.ref ls), b17, b18, b19, some (.lst (pl.map fun q => D.ref q.1)), c21], ⟨_, _, rfl, rfl⟩, ?_, ?_, ?_⟩
      · rintro i F' ms' S' e' ⟨_, _, rfl, _⟩
        exact ⟨_, app_at (E := E0') 1⟩
      · rintro i d Fa msa Sa ea hd ⟨c10, c21, rfl, rfl⟩ Fb eb
        obtain ⟨p, hp, rfl⟩ := keys_at hd
        have hpm := List.mem_of_getElem? hp
        obtain ⟨hpn, hp0⟩ := (hnd.2 p).mp hpm
        have hvs : valD (cntD nd) (kS p.1) = some (.int p.2) := by
          rw [← valC_mem hndn p hpm]
          exact valD_in (List.mem_map_of_mem hpm)
        refine ag_name ?_
        refine as_norm (S' := [_, _, _, _, _, _, _, _, _, _, some (.str (sg p.1)), _, _, _, _, _, _, _, _, _, _, _]) rfl ?_
        walk_at "al"
        refine lc_list (xs := pl) (e := fun q => D.ref q.1) (p := fun _ => true) (f := fun q => .int (valC q.2 p.1)) (by simp) ?_
        walk_at "al"
        refine ⟨rfl, by omega, fun j q hq F19 e19 => ?_, fun F19 e19 => ?_⟩
        · unfold AL.Pure
          walk_at "al"
          refine ⟨rfl, rfl, fun _ => ?_⟩
          have hjl : j < ts.length := by
            have := (List.getElem?_eq_some_iff.mp hq).1
            omega
          obtain ⟨_, hm2⟩ := hP j q _ hq (List.getElem?_eq_getElem hjl)
          obtain ⟨n2, hn2⟩ := List.getElem?_of_mem hm2
          refine ae_dget2R ?_
          walk_at "al"
          refine ⟨_, .own (get_app hn2), ?_⟩
          walk_at "al"
          refine ⟨kS p.1, rfl, .own (get_app hn2), ?_⟩
          rw [valD_cnt _ (.int 0)]
          exact ⟨rfl, rfl⟩
        rw [filter_tt]
        walk_at "al"
        refine ac_maxL (ns := ts.map fun t => cntP ps t p.1) (.inl (.inl (by rw [← hvals, List.map_map]; rfl))) (by rw [List.length_map]; omega) fun m1 hm1 hM1 => ?_
        obtain rfl := need_max hm1 hM1
        rw [← hpn]
        walk_at "al"
        refine ae_dgetR ?_
        walk_at "al"
        refine ⟨kS p.1, _, _, rfl, .lck (n := E0'.length + 1) (app_at (E := E0') 1) (rk2.mono (ea.trans (eb.trans e19))), hvs, ?_⟩
        walk_at "al"
        refine and_ndT rfl ?_
        walk_at "al"
        exact ⟨_, _, rfl, rfl⟩
      · rintro Fa msa Sa ea ⟨c10, c21, rfl, rfl⟩
        exact ⟨E0'.length + 1, app_at (E := E0') 1, _, _, app_set (E := E0') (c := 1), rfl⟩
    rintro F19 _ _ e19 ⟨c10, c21, rfl, rfl⟩
    walk_at "al"
    refine and_dT (by rw [List.length_map]; omega) ?_
    walk_at "al"
    refine ae_revT ?_
    walk_at "al"
    refine ⟨_, rfl, fun F20 e20 => ?_⟩
    walk_at "al"
    refine ar_ADDt (by rw [List.length_reverse, List.length_map]; omega) fun F21 e21 => ?_
    walk_at "al"
    refine ⟨x, wd, ps, ts.reverse ++ ts, by rw [List.map_append, List.map_reverse], hS5 E0', by omega, by rw [List.length_append]; omega, by rw [List.length_append, List.length_reverse]; omega, fun t h => ht t (by simpa using h), hpL, fun F22 J l2 nd2 e22 hnd2 => ?_⟩
    obtain rfl : nd2 = nd := need_uniq hnd2.1 hnd.1 fun p => (hnd2.2 p).trans (by rw [need_rev]; exact (hnd.2 p).symm)
    walk_at "al"
    refine ar_EQdic (m := nd2.map fun p => (kS p.1, p.2)) (n := 0) (n' := J.length + (E0'.length + 1) + 1) (by rw [← cntD_ints]; rfl) (by rw [← cntD_ints]; exact (app_at (E := J) (E0'.length + 1)).trans (app_at (E := E0') 1)) (kS_nd hndn) ?_
    exact q _ _
end

section
variable {P : Program} {w : World} {K : Frg} {mg : Str → Option Value} {base : Heap}
theorem all_ok (T : Txt K mg) : OK_law P w base T :=
  have h_OK__law_random : OK__law_random P w base T := ok__law_random T
  have h_OK__law_below : OK__law_below P w base T := ok__law_below T
  have h_OK__law_shuffled : OK__law_shuffled P w base T := ok__law_shuffled T h_OK__law_below
  have h_OK__law_pairs : OK__law_pairs P w base T := ok__law_pairs T h_OK__law_below h_OK__law_shuffled
  have h_OK_is_int_in : OK_is_int_in P w base T := ok_is_int_in T
  have h_OK_is_pair : OK_is_pair P w base T := ok_is_pair T
  have h_OK_Sign___init__ : OK_Sign___init__ P w base T := ok_Sign___init__ T h_OK_is_int_in h_OK_is_pair
  have h_OK__law_text : OK__law_text P w base T := ok__law_text T h_OK__law_below
  have h_OK__law_texts : OK__law_texts P w base T := ok__law_texts T h_OK__law_below h_OK__law_text
  have h_OK__law_stock : OK__law_stock P w base T := ok__law_stock T h_OK__law_below
  have h_OK_Sign_is_text : OK_Sign_is_text P w base T := ok_Sign_is_text T
  have h_OK_Sign_check_texts : OK_Sign_check_texts P w base T := ok_Sign_check_texts T h_OK_Sign_is_text
  have h_OK_Sign_piece : OK_Sign_piece P w base T := ok_Sign_piece T
  have h_OK_letters_of : OK_letters_of P w base T := ok_letters_of T h_OK_Sign_piece
  have h_OK_needed_letters : OK_needed_letters P w base T := ok_needed_letters T h_OK_Sign_check_texts h_OK_letters_of
  have h_OK_Sign_is_letter : OK_Sign_is_letter P w base T := ok_Sign_is_letter T
  have h_OK_missing_letters : OK_missing_letters P w base T := ok_missing_letters T h_OK_Sign_is_letter h_OK_Sign_piece h_OK_is_int_in h_OK_needed_letters
  ok_law T h_OK__law_random h_OK__law_below h_OK__law_pairs h_OK_Sign___init__ h_OK__law_texts h_OK__law_stock h_OK_needed_letters h_OK_missing_letters h_OK_Sign_piece
end
theorem all_mk {l : PySem.W.OpenLaw} {w : World} {K : PySem.W.Frag} {h : Heap} {mg : Str → Option Value} {fa : Addr}
    {c_Sign : Addr}
    {a0 : Addr} {od0 an0 : Option Addr} {sl0 : Array (Option Value)} {oc0 kV0 dc0 pm0 cd0 ct0 : Value}
    {a1 : Addr} {od1 an1 : Option Addr} {sl1 : Array (Option Value)} {oc1 kV1 dc1 pm1 cd1 ct1 : Value}
    {a2 : Addr} {od2 an2 : Option Addr} {sl2 : Array (Option Value)} {oc2 kV2 dc2 pm2 cd2 ct2 : Value}
    {tT2 tz2 : Addr} {odT2 odz2 : Option Addr} {nT2 nz2 : Nat} {slT2 slz2 : Array (Option Value)}
    {a3 : Addr} {od3 an3 : Option Addr} {sl3 : Array (Option Value)} {oc3 kV3 dc3 pm3 cd3 ct3 : Value}
    {p3 : Addr} {rs3 : List Value}
    {a4 : Addr} {od4 an4 : Option Addr} {sl4 : Array (Option Value)} {oc4 kV4 dc4 pm4 cd4 ct4 : Value}
    {a5 : Addr} {od5 an5 : Option Addr} {sl5 : Array (Option Value)} {oc5 kV5 dc5 pm5 cd5 ct5 : Value}
    {a6 : Addr} {od6 an6 : Option Addr} {sl6 : Array (Option Value)} {oc6 kV6 dc6 pm6 cd6 ct6 : Value}
    {a7 : Addr} {od7 an7 : Option Addr} {sl7 : Array (Option Value)} {oc7 kV7 dc7 pm7 cd7 ct7 : Value}
    {a8 : Addr} {od8 an8 : Option Addr} {sl8 : Array (Option Value)} {oc8 kV8 dc8 pm8 cd8 ct8 : Value}
    {a9 : Addr} {od9 an9 : Option Addr} {sl9 : Array (Option Value)} {oc9 kV9 dc9 pm9 cd9 ct9 : Value}
    {a10 : Addr} {od10 an10 : Option Addr} {sl10 : Array (Option Value)} {oc10 kV10 dc10 pm10 cd10 ct10 : Value}
    {a11 : Addr} {od11 an11 : Option Addr} {sl11 : Array (Option Value)} {oc11 kV11 dc11 pm11 cd11 ct11 : Value}
    {a12 : Addr} {od12 an12 : Option Addr} {sl12 : Array (Option Value)} {oc12 kV12 dc12 pm12 cd12 ct12 : Value}
    {a13 : Addr} {od13 an13 : Option Addr} {sl13 : Array (Option Value)} {oc13 kV13 dc13 pm13 cd13 ct13 : Value}
    {a14 : Addr} {od14 an14 : Option Addr} {sl14 : Array (Option Value)} {oc14 kV14 dc14 pm14 cd14 ct14 : Value}
    {a15 : Addr} {od15 an15 : Option Addr} {sl15 : Array (Option Value)} {oc15 kV15 dc15 pm15 cd15 ct15 : Value}
    {a16 : Addr} {od16 an16 : Option Addr} {sl16 : Array (Option Value)} {oc16 kV16 dc16 pm16 cd16 ct16 : Value}
    {a17 : Addr} {od17 an17 : Option Addr} {sl17 : Array (Option Value)} {oc17 kV17 dc17 pm17 cd17 ct17 : Value}
    {t_BLANK : Tok}
    {t_LETTERS : Tok}
    {t_MAX_PAIRS : Tok}
    {t_MAX_STOCK : Tok}
    {t_MAX_TEXTS : Tok}
    {t_MAX_WIDTH : Tok} (X : K.In h) (G : h.Ns mainGlobals mg) (hfa : mg "law" = some (.ref fa))
    (hc_Sign : PySem.W.nsIn K mainGlobals "Sign" = some (some (.ref c_Sign)))
    (pg_Sign : PySem.W.plainGet K c_Sign Str.empty = true)
    (hd_Sign : PySem.W.hasDictIn K c_Sign = true)
    (po_Sign : PySem.W.plainOver K c_Sign = true)
    (sa_Sign : PySem.W.findIn K (.ref c_Sign) "__setattr__" = some (some (.builtin "object.__setattr__")))
    (mk_Sign : PySem.W.makesIn K c_Sign = true)
    (kc_Sign : PySem.W.keepIn K (.ref c_Sign) = true)
    (n_Sign_width : PySem.W.findIn K (.ref c_Sign) "width" = some none)
    (n_Sign_pairs : PySem.W.findIn K (.ref c_Sign) "pairs" = some none)
    (n_Sign_mates : PySem.W.findIn K (.ref c_Sign) "mates" = some none)
    (h0 : PySem.W.nsIn K mainGlobals "is_int_in" = some (some (.ref a0)))
    (l0 : K.lookup a0 = some ⟨oc0, od0, .func (PySem.W.fnOf "is_int_in" "is_int_in" (defArgs s_is_int_in) (defBody s_is_int_in) (defScope s_is_int_in) .none kV0 dc0 pm0 an0 cd0 ct0), sl0⟩)
    (cd_0 : PySem.W.codeIn K cd0 "is_int_in" = true)
    (k0 : PySem.W.keepIn K (.ref a0) = true)
    (h1 : PySem.W.nsIn K mainGlobals "is_pair" = some (some (.ref a1)))
    (l1 : K.lookup a1 = some ⟨oc1, od1, .func (PySem.W.fnOf "is_pair" "is_pair" (defArgs s_is_pair) (defBody s_is_pair) (defScope s_is_pair) .none kV1 dc1 pm1 an1 cd1 ct1), sl1⟩)
    (cd_1 : PySem.W.codeIn K cd1 "is_pair" = true)
    (k1 : PySem.W.keepIn K (.ref a1) = true)
    (h2 : PySem.W.findIn K (.ref c_Sign) "__init__" = some (some (.ref a2)))
    (i2 : PySem.W.isFn K (.ref a2) = true)
    (l2 : K.lookup a2 = some ⟨oc2, od2, .func (PySem.W.fnOf "__init__" "Sign.__init__" (defArgs s_Sign___init__) (defBody s_Sign___init__) (defScope s_Sign___init__) (.ref tT2) kV2 dc2 pm2 an2 cd2 ct2), sl2⟩)
    (cd_2 : PySem.W.codeIn K cd2 "Sign.__init__" = true)
    (k2 : PySem.W.keepIn K (.ref a2) = true)
    (hT2 : K.lookup tT2 = some ⟨.type "tuple", odT2, .seq #[.ref tz2] nT2, slT2⟩)
    (hz2 : K.lookup tz2 = some ⟨.type "tuple", odz2, .seq #[] nz2, slz2⟩)
    (h3 : PySem.W.findCls K (.ref c_Sign) (.type "type") "is_letter" = some (.get (.builtin "staticmethod.__get__") (.ref p3) .none (.ref c_Sign)))
    (hr3 : PySem.W.recIn K p3 "staticmethod" = some (.ref a3 :: rs3))
    (hrd3 : PySem.W.readsIn K c_Sign (.type "type") = true)
    (hga3 : PySem.W.specialIn K (.ref c_Sign) "__getattribute__" = some (some (.builtin "type.__getattribute__")))
    (hic3 : PySem.W.isClsIn K c_Sign = true)
    (hf3 : PySem.W.findIn K (.ref c_Sign) "is_letter" = some (some (.ref p3)))
    (hty3 : PySem.W.typeIn K (.ref p3) = some (.type "staticmethod"))
    (hg3 : PySem.W.specialIn K (.ref p3) "__get__" = some (some (.builtin "staticmethod.__get__")))
    (ht3 : PySem.W.takesIn K (.ref p3) = some false)
    (l3 : K.lookup a3 = some ⟨oc3, od3, .func (PySem.W.fnOf "is_letter" "Sign.is_letter" (defArgs s_Sign_is_letter) (defBody s_Sign_is_letter) (defScope s_Sign_is_letter) .none kV3 dc3 pm3 an3 cd3 ct3), sl3⟩)
    (cd_3 : PySem.W.codeIn K cd3 "Sign.is_letter" = true)
    (k3 : PySem.W.keepIn K (.ref a3) = true)
    (h4 : PySem.W.findIn K (.ref c_Sign) "piece" = some (some (.ref a4)))
    (i4 : PySem.W.isFn K (.ref a4) = true)
    (l4 : K.lookup a4 = some ⟨oc4, od4, .func (PySem.W.fnOf "piece" "Sign.piece" (defArgs s_Sign_piece) (defBody s_Sign_piece) (defScope s_Sign_piece) .none kV4 dc4 pm4 an4 cd4 ct4), sl4⟩)
    (cd_4 : PySem.W.codeIn K cd4 "Sign.piece" = true)
    (k4 : PySem.W.keepIn K (.ref a4) = true)
    (h5 : PySem.W.findIn K (.ref c_Sign) "is_text" = some (some (.ref a5)))
    (i5 : PySem.W.isFn K (.ref a5) = true)
    (l5 : K.lookup a5 = some ⟨oc5, od5, .func (PySem.W.fnOf "is_text" "Sign.is_text" (defArgs s_Sign_is_text) (defBody s_Sign_is_text) (defScope s_Sign_is_text) .none kV5 dc5 pm5 an5 cd5 ct5), sl5⟩)
    (cd_5 : PySem.W.codeIn K cd5 "Sign.is_text" = true)
    (k5 : PySem.W.keepIn K (.ref a5) = true)
    (h6 : PySem.W.findIn K (.ref c_Sign) "check_texts" = some (some (.ref a6)))
    (i6 : PySem.W.isFn K (.ref a6) = true)
    (l6 : K.lookup a6 = some ⟨oc6, od6, .func (PySem.W.fnOf "check_texts" "Sign.check_texts" (defArgs s_Sign_check_texts) (defBody s_Sign_check_texts) (defScope s_Sign_check_texts) .none kV6 dc6 pm6 an6 cd6 ct6), sl6⟩)
    (cd_6 : PySem.W.codeIn K cd6 "Sign.check_texts" = true)
    (k6 : PySem.W.keepIn K (.ref a6) = true)
    (h7 : PySem.W.nsIn K mainGlobals "letters_of" = some (some (.ref a7)))
    (l7 : K.lookup a7 = some ⟨oc7, od7, .func (PySem.W.fnOf "letters_of" "letters_of" (defArgs s_letters_of) (defBody s_letters_of) (defScope s_letters_of) .none kV7 dc7 pm7 an7 cd7 ct7), sl7⟩)
    (cd_7 : PySem.W.codeIn K cd7 "letters_of" = true)
    (k7 : PySem.W.keepIn K (.ref a7) = true)
    (h8 : PySem.W.nsIn K mainGlobals "needed_letters" = some (some (.ref a8)))
    (l8 : K.lookup a8 = some ⟨oc8, od8, .func (PySem.W.fnOf "needed_letters" "needed_letters" (defArgs s_needed_letters) (defBody s_needed_letters) (defScope s_needed_letters) .none kV8 dc8 pm8 an8 cd8 ct8), sl8⟩)
    (cd_8 : PySem.W.codeIn K cd8 "needed_letters" = true)
    (k8 : PySem.W.keepIn K (.ref a8) = true)
    (h9 : PySem.W.nsIn K mainGlobals "missing_letters" = some (some (.ref a9)))
    (l9 : K.lookup a9 = some ⟨oc9, od9, .func (PySem.W.fnOf "missing_letters" "missing_letters" (defArgs s_missing_letters) (defBody s_missing_letters) (defScope s_missing_letters) .none kV9 dc9 pm9 an9 cd9 ct9), sl9⟩)
    (cd_9 : PySem.W.codeIn K cd9 "missing_letters" = true)
    (k9 : PySem.W.keepIn K (.ref a9) = true)
    (h10 : PySem.W.nsIn K mainGlobals "_law_random" = some (some (.ref a10)))
    (l10 : K.lookup a10 = some ⟨oc10, od10, .func (PySem.W.fnOf "_law_random" "_law_random" (defArgs s__law_random) (defBody s__law_random) (defScope s__law_random) .none kV10 dc10 pm10 an10 cd10 ct10), sl10⟩)
    (cd_10 : PySem.W.codeIn K cd10 "_law_random" = true)
    (k10 : PySem.W.keepIn K (.ref a10) = true)
    (h11 : PySem.W.nsIn K mainGlobals "_law_below" = some (some (.ref a11)))
    (l11 : K.lookup a11 = some ⟨oc11, od11, .func (PySem.W.fnOf "_law_below" "_law_below" (defArgs s__law_below) (defBody s__law_below) (defScope s__law_below) .none kV11 dc11 pm11 an11 cd11 ct11), sl11⟩)
    (cd_11 : PySem.W.codeIn K cd11 "_law_below" = true)
    (k11 : PySem.W.keepIn K (.ref a11) = true)
    (h12 : PySem.W.nsIn K mainGlobals "_law_shuffled" = some (some (.ref a12)))
    (l12 : K.lookup a12 = some ⟨oc12, od12, .func (PySem.W.fnOf "_law_shuffled" "_law_shuffled" (defArgs s__law_shuffled) (defBody s__law_shuffled) (defScope s__law_shuffled) .none kV12 dc12 pm12 an12 cd12 ct12), sl12⟩)
    (cd_12 : PySem.W.codeIn K cd12 "_law_shuffled" = true)
    (k12 : PySem.W.keepIn K (.ref a12) = true)
    (h13 : PySem.W.nsIn K mainGlobals "_law_pairs" = some (some (.ref a13)))
    (l13 : K.lookup a13 = some ⟨oc13, od13, .func (PySem.W.fnOf "_law_pairs" "_law_pairs" (defArgs s__law_pairs) (defBody s__law_pairs) (defScope s__law_pairs) .none kV13 dc13 pm13 an13 cd13 ct13), sl13⟩)
    (cd_13 : PySem.W.codeIn K cd13 "_law_pairs" = true)
    (k13 : PySem.W.keepIn K (.ref a13) = true)
    (h14 : PySem.W.nsIn K mainGlobals "_law_text" = some (some (.ref a14)))
    (l14 : K.lookup a14 = some ⟨oc14, od14, .func (PySem.W.fnOf "_law_text" "_law_text" (defArgs s__law_text) (defBody s__law_text) (defScope s__law_text) .none kV14 dc14 pm14 an14 cd14 ct14), sl14⟩)
    (cd_14 : PySem.W.codeIn K cd14 "_law_text" = true)
    (k14 : PySem.W.keepIn K (.ref a14) = true)
    (h15 : PySem.W.nsIn K mainGlobals "_law_texts" = some (some (.ref a15)))
    (l15 : K.lookup a15 = some ⟨oc15, od15, .func (PySem.W.fnOf "_law_texts" "_law_texts" (defArgs s__law_texts) (defBody s__law_texts) (defScope s__law_texts) .none kV15 dc15 pm15 an15 cd15 ct15), sl15⟩)
    (cd_15 : PySem.W.codeIn K cd15 "_law_texts" = true)
    (k15 : PySem.W.keepIn K (.ref a15) = true)
    (h16 : PySem.W.nsIn K mainGlobals "_law_stock" = some (some (.ref a16)))
    (l16 : K.lookup a16 = some ⟨oc16, od16, .func (PySem.W.fnOf "_law_stock" "_law_stock" (defArgs s__law_stock) (defBody s__law_stock) (defScope s__law_stock) .none kV16 dc16 pm16 an16 cd16 ct16), sl16⟩)
    (cd_16 : PySem.W.codeIn K cd16 "_law_stock" = true)
    (k16 : PySem.W.keepIn K (.ref a16) = true)
    (h17 : PySem.W.nsIn K mainGlobals "law" = some (some (.ref a17)))
    (l17 : K.lookup a17 = some ⟨oc17, od17, .func (PySem.W.fnOf "law" "law" (defArgs s_law) (defBody s_law) (defScope s_law) .none kV17 dc17 pm17 an17 cd17 ct17), sl17⟩)
    (cd_17 : PySem.W.codeIn K cd17 "law" = true)
    (k17 : PySem.W.keepIn K (.ref a17) = true)
    (z_abs : PySem.W.nsIn K mainGlobals "abs" = some none)
    (z_all : PySem.W.nsIn K mainGlobals "all" = some none)
    (z_bool : PySem.W.nsIn K mainGlobals "bool" = some none)
    (z_dict : PySem.W.nsIn K mainGlobals "dict" = some none)
    (z_enumerate : PySem.W.nsIn K mainGlobals "enumerate" = some none)
    (z_int : PySem.W.nsIn K mainGlobals "int" = some none)
    (z_isinstance : PySem.W.nsIn K mainGlobals "isinstance" = some none)
    (z_len : PySem.W.nsIn K mainGlobals "len" = some none)
    (z_list : PySem.W.nsIn K mainGlobals "list" = some none)
    (z_max : PySem.W.nsIn K mainGlobals "max" = some none)
    (z_min : PySem.W.nsIn K mainGlobals "min" = some none)
    (z_range : PySem.W.nsIn K mainGlobals "range" = some none)
    (z_sorted : PySem.W.nsIn K mainGlobals "sorted" = some none)
    (z_str : PySem.W.nsIn K mainGlobals "str" = some none)
    (z_sum : PySem.W.nsIn K mainGlobals "sum" = some none)
    (z_tuple : PySem.W.nsIn K mainGlobals "tuple" = some none)
    (y_BLANK : PySem.W.nsIn K mainGlobals "BLANK" = some (some (.str " " t_BLANK)))
    (y_LETTERS : PySem.W.nsIn K mainGlobals "LETTERS" = some (some (.str "ABCDEFGHIJKLMNOPQRSTUVWXYZ0123456789" t_LETTERS)))
    (y_MAX_PAIRS : PySem.W.nsIn K mainGlobals "MAX_PAIRS" = some (some (.int 10 t_MAX_PAIRS)))
    (y_MAX_STOCK : PySem.W.nsIn K mainGlobals "MAX_STOCK" = some (some (.int 999 t_MAX_STOCK)))
    (y_MAX_TEXTS : PySem.W.nsIn K mainGlobals "MAX_TEXTS" = some (some (.int 12 t_MAX_TEXTS)))
    (y_MAX_WIDTH : PySem.W.nsIn K mainGlobals "MAX_WIDTH" = some (some (.int 24 t_MAX_WIDTH))) :
    ∃ fd : FuncData, (∀ (s : Shared) (v : Value), BindsTo s fd ⟨[v], []⟩ [("_law_script", v)]) ∧ ∀ base : Heap, K.In base → base.Ns mainGlobals mg → FnOk l.prog w K mg base CX0 6 fa fd ["_law_script"] (toSp K spLaw) := by
  have e := hfa.symm.trans (PySem.W.mg_of X G h17)
  cases e
  have F0 := fun_mk (st := s_is_int_in) l0 cd_0 k0
  have b0 := F0.binds (ps := ["value", "low", "high"]) fun _ _ _ _ _ _ us hl => match us, hl with | [_, _, _], _ => rfl
  have F1 := fun_mk (st := s_is_pair) l1 cd_1 k1
  have b1 := F1.binds (ps := ["value"]) fun _ _ _ _ _ _ us hl => match us, hl with | [_], _ => rfl
  have D2 : DflV K (.ref tT2) [V.ref tz2] := .inr ⟨by simp, tT2, _, [.ref tz2], _, rfl, hT2, rfl, .cons rfl .nil⟩
  have F2 : FunD K "__init__" "Sign.__init__" (defArgs s_Sign___init__) (defBody s_Sign___init__) (defScope s_Sign___init__) [V.ref tz2] [] a2 (PySem.W.fnOf "__init__" "Sign.__init__" (defArgs s_Sign___init__) (defBody s_Sign___init__) (defScope s_Sign___init__) (.ref tT2) kV2 dc2 pm2 an2 cd2 ct2) := ⟨⟨_, _, _, _, _, _, _, _, _, _, rfl, l2, cd_2, D2, .inl rfl⟩, k2⟩
  obtain ⟨eb2, rb2, b02⟩ := F2.binds1 (ps := ["self", "width", "pairs"]) 3 1 (by simp) rfl (fun T kV doc pm an cdv ct us its hu hi => match us, its, hu, hi with | [_, _, _], [_], _, _ => ⟨_, rfl, rfl⟩)
  have b2 : Binds K (PySem.W.fnOf "__init__" "Sign.__init__" (defArgs s_Sign___init__) (defBody s_Sign___init__) (defScope s_Sign___init__) (.ref tT2) kV2 dc2 pm2 an2 cd2 ct2) ["self", "width", "pairs"] [] := by cases rb2; exact b02
  obtain ⟨e2, v2, bd2⟩ := F2.binds1 (ps := ["self", "width", "pairs"]) 2 0 (by simp) rfl (fun T kV doc pm an cdv ct us its hu hi => match us, its, hu, hi with | [_, _], [_], _, _ => ⟨_, rfl, rfl⟩)
  have F3 := fun_mk (st := s_Sign_is_letter) l3 cd_3 k3
  have b3 := F3.binds (ps := ["value"]) fun _ _ _ _ _ _ us hl => match us, hl with | [_], _ => rfl
  have F4 := fun_mk (st := s_Sign_piece) l4 cd_4 k4
  have b4 := F4.binds (ps := ["self", "letter"]) fun _ _ _ _ _ _ us hl => match us, hl with | [_, _], _ => rfl
  have F5 := fun_mk (st := s_Sign_is_text) l5 cd_5 k5
  have b5 := F5.binds (ps := ["self", "value"]) fun _ _ _ _ _ _ us hl => match us, hl with | [_, _], _ => rfl
  have F6 := fun_mk (st := s_Sign_check_texts) l6 cd_6 k6
  have b6 := F6.binds (ps := ["self", "texts"]) fun _ _ _ _ _ _ us hl => match us, hl with | [_, _], _ => rfl
  have F7 := fun_mk (st := s_letters_of) l7 cd_7 k7
  have b7 := F7.binds (ps := ["sign", "text"]) fun _ _ _ _ _ _ us hl => match us, hl with | [_, _], _ => rfl
  have F8 := fun_mk (st := s_needed_letters) l8 cd_8 k8
  have b8 := F8.binds (ps := ["sign", "texts"]) fun _ _ _ _ _ _ us hl => match us, hl with | [_, _], _ => rfl
  have F9 := fun_mk (st := s_missing_letters) l9 cd_9 k9
  have b9 := F9.binds (ps := ["sign", "texts", "stock"]) fun _ _ _ _ _ _ us hl => match us, hl with | [_, _, _], _ => rfl
  have F10 := fun_mk (st := s__law_random) l10 cd_10 k10
  have b10 := F10.binds (ps := ["_law_script", "_law_salt"]) fun _ _ _ _ _ _ us hl => match us, hl with | [_, _], _ => rfl
  have F11 := fun_mk (st := s__law_below) l11 cd_11 k11
  have b11 := F11.binds (ps := ["_law_d", "_law_limit"]) fun _ _ _ _ _ _ us hl => match us, hl with | [_, _], _ => rfl
  have F12 := fun_mk (st := s__law_shuffled) l12 cd_12 k12
  have b12 := F12.binds (ps := ["_law_d", "_law_items"]) fun _ _ _ _ _ _ us hl => match us, hl with | [_, _], _ => rfl
  have F13 := fun_mk (st := s__law_pairs) l13 cd_13 k13
  have b13 := F13.binds (ps := ["_law_d", "_law_letters"]) fun _ _ _ _ _ _ us hl => match us, hl with | [_, _], _ => rfl
  have F14 := fun_mk (st := s__law_text) l14 cd_14 k14
  have b14 := F14.binds (ps := ["_law_d", "_law_most", "_law_letters"]) fun _ _ _ _ _ _ us hl => match us, hl with | [_, _, _], _ => rfl
  have F15 := fun_mk (st := s__law_texts) l15 cd_15 k15
  have b15 := F15.binds (ps := ["_law_d", "_law_most", "_law_width", "_law_letters"]) fun _ _ _ _ _ _ us hl => match us, hl with | [_, _, _, _], _ => rfl
  have F16 := fun_mk (st := s__law_stock) l16 cd_16 k16
  have b16 := F16.binds (ps := ["_law_d", "_law_letters"]) fun _ _ _ _ _ _ us hl => match us, hl with | [_, _], _ => rfl
  have F17 := fun_mk (st := s_law) l17 cd_17 k17
  have b17 := F17.binds (ps := ["_law_script"]) fun _ _ _ _ _ _ us hl => match us, hl with | [_], _ => rfl
  let T : Txt K mg := {
    c_Sign := c_Sign,
    m_Sign := PySem.W.mg_of X G hc_Sign,
    k_Sign := ⟨pg_Sign, hd_Sign, po_Sign, sa_Sign⟩,
    n_Sign_width := n_Sign_width,
    n_Sign_pairs := n_Sign_pairs,
    n_Sign_mates := n_Sign_mates,
    F_is_int_in := F0,
    b_is_int_in := b0,
    a_is_int_in := a0,
    d_is_int_in := _,
    m_is_int_in := PySem.W.mg_of X G h0,
    F_is_pair := F1,
    b_is_pair := b1,
    a_is_pair := a1,
    d_is_pair := _,
    m_is_pair := PySem.W.mg_of X G h1,
    z_Sign___init__ := [V.ref tz2],
    F_Sign___init__ := F2,
    zr_Sign___init__ := fun _ => .cons (.tup (.inr ⟨_, #[], _, hz2, rfl, rfl, Nat.zero_le _, .nil⟩) .nil) .nil,
    e_Sign___init__ := e2,
    vd_Sign___init__ := v2,
    bd_Sign___init__ := bd2,
    b_Sign___init__ := b2,
    a_Sign___init__ := a2,
    d_Sign___init__ := _,
    M_Sign := ⟨mk_Sign, h2, i2, kc_Sign⟩,
    F_Sign_is_letter := F3,
    b_Sign_is_letter := b3,
    a_Sign_is_letter := a3,
    d_Sign_is_letter := _,
    p_Sign_is_letter := p3,
    S_Sign_is_letter := ⟨hrd3, hga3, h3, ⟨rs3, hr3⟩⟩,
    SI_Sign_is_letter := ⟨pg_Sign, hic3, hf3, hty3, hg3, ht3, rfl, ⟨rs3, hr3⟩⟩,
    kp_Sign_is_letter := k3,
    F_Sign_piece := F4,
    b_Sign_piece := b4,
    a_Sign_piece := a4,
    d_Sign_piece := _,
    Me_Sign_piece := ⟨h4, i4, k4⟩,
    F_Sign_is_text := F5,
    b_Sign_is_text := b5,
    a_Sign_is_text := a5,
    d_Sign_is_text := _,
    Me_Sign_is_text := ⟨h5, i5, k5⟩,
    F_Sign_check_texts := F6,
    b_Sign_check_texts := b6,
    a_Sign_check_texts := a6,
    d_Sign_check_texts := _,
    Me_Sign_check_texts := ⟨h6, i6, k6⟩,
    F_letters_of := F7,
    b_letters_of := b7,
    a_letters_of := a7,
    d_letters_of := _,
    m_letters_of := PySem.W.mg_of X G h7,
    F_needed_letters := F8,
    b_needed_letters := b8,
    a_needed_letters := a8,
    d_needed_letters := _,
    m_needed_letters := PySem.W.mg_of X G h8,
    F_missing_letters := F9,
    b_missing_letters := b9,
    a_missing_letters := a9,
    d_missing_letters := _,
    m_missing_letters := PySem.W.mg_of X G h9,
    F__law_random := F10,
    b__law_random := b10,
    a__law_random := a10,
    d__law_random := _,
    m__law_random := PySem.W.mg_of X G h10,
    F__law_below := F11,
    b__law_below := b11,
    a__law_below := a11,
    d__law_below := _,
    m__law_below := PySem.W.mg_of X G h11,
    F__law_shuffled := F12,
    b__law_shuffled := b12,
    a__law_shuffled := a12,
    d__law_shuffled := _,
    m__law_shuffled := PySem.W.mg_of X G h12,
    F__law_pairs := F13,
    b__law_pairs := b13,
    a__law_pairs := a13,
    d__law_pairs := _,
    m__law_pairs := PySem.W.mg_of X G h13,
    F__law_text := F14,
    b__law_text := b14,
    a__law_text := a14,
    d__law_text := _,
    m__law_text := PySem.W.mg_of X G h14,
    F__law_texts := F15,
    b__law_texts := b15,
    a__law_texts := a15,
    d__law_texts := _,
    m__law_texts := PySem.W.mg_of X G h15,
    F__law_stock := F16,
    b__law_stock := b16,
    a__law_stock := a16,
    d__law_stock := _,
    m__law_stock := PySem.W.mg_of X G h16,
    F_law := F17,
    b_law := b17,
    a_law := fa,
    d_law := _,
    m_law := PySem.W.mg_of X G h17,
    g_abs := PySem.W.mg_none_of X G z_abs,
    g_all := PySem.W.mg_none_of X G z_all,
    g_bool := PySem.W.mg_none_of X G z_bool,
    g_dict := PySem.W.mg_none_of X G z_dict,
    g_enumerate := PySem.W.mg_none_of X G z_enumerate,
    g_int := PySem.W.mg_none_of X G z_int,
    g_isinstance := PySem.W.mg_none_of X G z_isinstance,
    g_len := PySem.W.mg_none_of X G z_len,
    g_list := PySem.W.mg_none_of X G z_list,
    g_max := PySem.W.mg_none_of X G z_max,
    g_min := PySem.W.mg_none_of X G z_min,
    g_range := PySem.W.mg_none_of X G z_range,
    g_sorted := PySem.W.mg_none_of X G z_sorted,
    g_str := PySem.W.mg_none_of X G z_str,
    g_sum := PySem.W.mg_none_of X G z_sum,
    g_tuple := PySem.W.mg_none_of X G z_tuple,
    u_BLANK := _,
    m_BLANK := PySem.W.mg_of X G y_BLANK,
    r_BLANK := ⟨_, rfl⟩,
    u_LETTERS := _,
    m_LETTERS := PySem.W.mg_of X G y_LETTERS,
    r_LETTERS := ⟨_, rfl⟩,
    u_MAX_PAIRS := _,
    m_MAX_PAIRS := PySem.W.mg_of X G y_MAX_PAIRS,
    r_MAX_PAIRS := ⟨_, rfl⟩,
    u_MAX_STOCK := _,
    m_MAX_STOCK := PySem.W.mg_of X G y_MAX_STOCK,
    r_MAX_STOCK := ⟨_, rfl⟩,
    u_MAX_TEXTS := _,
    m_MAX_TEXTS := PySem.W.mg_of X G y_MAX_TEXTS,
    r_MAX_TEXTS := ⟨_, rfl⟩,
    u_MAX_WIDTH := _,
    m_MAX_WIDTH := PySem.W.mg_of X G y_MAX_WIDTH,
    r_MAX_WIDTH := ⟨_, rfl⟩ }
  exact ⟨T.d_law, fun s v => .of_eq rfl, fun base _ _ => all_ok T⟩
theorem walk {l : PySem.W.OpenLaw} {q : Program} {loose : List Str} {XP : (Str → Option Value) → Heap → Prop} {YP : World → Heap → Prop} {d : DefRec} {K : Params → PySem.W.Frag} (hn : l.most = some 63) (hdf : d.params.defaults = [])
    (hY : ∀ (w : World) (h : Heap), YP w h → (K w.params).In h)
    (F : ∀ (w : World) (mg : Str → Option Value) (fa : Addr) (h : Heap), (K w.params).In h → h.Ns mainGlobals mg → mg d.name = some (.ref fa) →
      ∃ fd : FuncData, (∀ (s : Shared) (u : Value), BindsTo s fd ⟨[u], []⟩ [("_law_script", u)]) ∧ ∀ base : Heap, (K w.params).In base → base.Ns mainGlobals mg → FnOk l.prog w (K w.params) mg base CX0 6 fa fd ["_law_script"] (toSp (K w.params) spLaw)) :
    PySem.W.WalkO q loose XP YP l.row.toRowW d [] (fun f vs => PySem.call f vs) :=
  L2.walk_of (n := 63) (k := 6) (x := "_law_script") (CX := fun _ => CX0) (sp := fun w => toSp (K w.params) spLaw) hn (by decide) hdf ⟨rfl, by decide, by decide⟩ hY F (fun w H a ns hl _ hS => start_law hS fun F ms => ⟨ns, rfl, hl, fun _ _ => rfl⟩) fun _ _ _ _ _ z => z
end K38

open PySem PySem.W PyProof.Rows in
set_option maxRecDepth 100000 in
set_option maxHeartbeats 0 in
theorem PySem.Challenge.cw_marqueeletters_k38_whole_needed_and_miss_holds : PySem.Challenge.rw_marqueeletters_k38_whole_needed_and_miss.Holds := by
  w_on; o_law; k_head; (case hw => w_witness2)
  k_fill
  refine K38.walk (l := PySem.Challenge.rw_marqueeletters_k38_whole_needed_and_miss) rfl rfl (fun w h Y => PySem.W.kIn_of Y) ?F
  case F =>
    intro w mg fa h KX G hmg
    refine' K38.all_mk KX G hmg ?hc_Sign ?pg_Sign ?hd_Sign ?po_Sign ?sa_Sign ?mk_Sign ?kc_Sign ?n_Sign_width ?n_Sign_pairs ?n_Sign_mates ?h0 ?l0 ?cd_0 ?k0 ?h1 ?l1 ?cd_1 ?k1 ?h2 ?i2 ?l2 ?cd_2 ?k2 ?hT2 ?hz2 ?h3 ?hr3 ?hrd3 ?hga3 ?hic3 ?hf3 ?hty3 ?hg3 ?ht3 ?l3 ?cd_3 ?k3 ?h4 ?i4 ?l4 ?cd_4 ?k4 ?h5 ?i5 ?l5 ?cd_5 ?k5 ?h6 ?i6 ?l6 ?cd_6 ?k6 ?h7 ?l7 ?cd_7 ?k7 ?h8 ?l8 ?cd_8 ?k8 ?h9 ?l9 ?cd_9 ?k9 ?h10 ?l10 ?cd_10 ?k10 ?h11 ?l11 ?cd_11 ?k11 ?h12 ?l12 ?cd_12 ?k12 ?h13 ?l13 ?cd_13 ?k13 ?h14 ?l14 ?cd_14 ?k14 ?h15 ?l15 ?cd_15 ?k15 ?h16 ?l16 ?cd_16 ?k16 ?h17 ?l17 ?cd_17 ?k17 ?z_abs ?z_all ?z_bool ?z_dict ?z_enumerate ?z_int ?z_isinstance ?z_len ?z_list ?z_max ?z_min ?z_range ?z_sorted ?z_str ?z_sum ?z_tuple ?y_BLANK ?y_LETTERS ?y_MAX_PAIRS ?y_MAX_STOCK ?y_MAX_TEXTS ?y_MAX_WIDTH
    (case hc_Sign => k_is)
    (case pg_Sign => k_is)
    (case hd_Sign => k_is)
    (case po_Sign => k_is)
    (case sa_Sign => k_is)
    (case mk_Sign => k_is)
    (case kc_Sign => k_is)
    (case n_Sign_width => k_is)
    (case n_Sign_pairs => k_is)
    (case n_Sign_mates => k_is)
    (case h0 => k_is)
    (case l0 => k_is)
    (case cd_0 => k_is)
    (case k0 => k_is)
    (case h1 => k_is)
    (case l1 => k_is)
    (case cd_1 => k_is)
    (case k1 => k_is)
    (case h2 => k_is)
    (case i2 => k_is)
    (case l2 => k_is)
    (case cd_2 => k_is)
    (case k2 => k_is)
    (case hT2 => k_is)
    (case hz2 => k_is)
    (case h3 => k_is)
    (case hr3 => k_is)
    (case hrd3 => k_is)
    (case hga3 => k_is)
    (case hic3 => k_is)
    (case hf3 => k_is)
    (case hty3 => k_is)
    (case hg3 => k_is)
    (case ht3 => k_is)
    (case l3 => k_is)
    (case cd_3 => k_is)
    (case k3 => k_is)
    (case h4 => k_is)
    (case i4 => k_is)
    (case l4 => k_is)
    (case cd_4 => k_is)
    (case k4 => k_is)
    (case h5 => k_is)
    (case i5 => k_is)
    (case l5 => k_is)
    (case cd_5 => k_is)
    (case k5 => k_is)
    (case h6 => k_is)
    (case i6 => k_is)
    (case l6 => k_is)
    (case cd_6 => k_is)
    (case k6 => k_is)
    (case h7 => k_is)
    (case l7 => k_is)
    (case cd_7 => k_is)
    (case k7 => k_is)
    (case h8 => k_is)
    (case l8 => k_is)
    (case cd_8 => k_is)
    (case k8 => k_is)
    (case h9 => k_is)
    (case l9 => k_is)
    (case cd_9 => k_is)
    (case k9 => k_is)
    (case h10 => k_is)
    (case l10 => k_is)
    (case cd_10 => k_is)
    (case k10 => k_is)
    (case h11 => k_is)
    (case l11 => k_is)
    (case cd_11 => k_is)
    (case k11 => k_is)
    (case h12 => k_is)
    (case l12 => k_is)
    (case cd_12 => k_is)
    (case k12 => k_is)
    (case h13 => k_is)
    (case l13 => k_is)
    (case cd_13 => k_is)
    (case k13 => k_is)
    (case h14 => k_is)
    (case l14 => k_is)
    (case cd_14 => k_is)
    (case k14 => k_is)
    (case h15 => k_is)
    (case l15 => k_is)
    (case cd_15 => k_is)
    (case k15 => k_is)
    (case h16 => k_is)
    (case l16 => k_is)
    (case cd_16 => k_is)
    (case k16 => k_is)
    (case h17 => k_is)
    (case l17 => k_is)
    (case cd_17 => k_is)
    (case k17 => k_is)
    (case z_abs => k_is)
    (case z_all => k_is)
    (case z_bool => k_is)
    (case z_dict => k_is)
    (case z_enumerate => k_is)
    (case z_int => k_is)
    (case z_isinstance => k_is)
    (case z_len => k_is)
    (case z_list => k_is)
    (case z_max => k_is)
    (case z_min => k_is)
    (case z_range => k_is)
    (case z_sorted => k_is)
    (case z_str => k_is)
    (case z_sum => k_is)
    (case z_tuple => k_is)
    (case y_BLANK => k_is)
    (case y_LETTERS => k_is)
    (case y_MAX_PAIRS => k_is)
    (case y_MAX_STOCK => k_is)
    (case y_MAX_TEXTS => k_is)
    (case y_MAX_WIDTH => k_is)

