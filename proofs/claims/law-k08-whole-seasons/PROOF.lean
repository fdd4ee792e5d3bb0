import PyProof.Rows.All
import Wide.All
import OpenK.AllK
import Wide.FinOn
import HandS.ForMost
import HandS.Base
import HandS.Call
import HandS.List
import HandS.Comp
import HandS.Ends
import HandS.Dict
import HandS.Iter
import HandS.Text
import HandS.Words
import HandS.Exc
import HandS.Walk
import HandS.Evl
import HandS.Conv
import HandS.TupAny
import HandS.Codes
import HandS.IsInst
import HandS.Property
import HandS.WordsExc
import HandS.StrMore
import PyProof.ListStr
import KE.GoesMore
import HandS.Zip
import HandS.ClsMeth
import HandS.Defaults
import HandS.Replace
import HandS.Star
import KE.KUnpackStar
import HandS.StrSplit
import HandS.DictComp
import HandS.More
import KE.GoesZip
import HandS.Sort
import PyProof.SumAny
import HandS.Strs
import HandS.SetFor
import KE.DataMinMax
import KE.SortData
import HandS.GenBody
import HandS.GenYield
import HandS.GenCall
import HandS.GenList
import PyProof.ZipIter
import HandS.Lambda
import HandS.ExcIs
import HandS.EndTab
import HandS.ExcOwn
import KE.KNestM
import HandS.EndOwn
import HandS.TryOnly
import HandS.ListItems
import HandS.ExcInit
import HandS.ExcField
import KE.KExcIs
import HandS.WordsDict
import KE.KDictKeyed
import KE.KeyNested
import KE.KDictWalk
import HandS.TupMul
import KE.DatumOrd
import KE.KDflt
import OpenK.KCall
import HandS.Finally
import HandS.SuiteRaise
import KE.KAssignIn
import KE.GoesComp
import HandS.Style
import PyProof.Rows.RegMatchSeq
import PyProof.DictCalls
import HandS.HeadHook3
import HandS.ReplaceLit
import KE.DataFind
import KE.DataEq
import PyProof.Rows.TupTab
import KE.KDictDisplayH
import HandS.RaiseFrom
import KE.KExcRaise
import KE.KDictZip
import KE.KTurns
import HandS.TupSets
import PySem.Challenge.RW_marqueeletters_k08_whole_seasons
import KE.OsRunLaw
set_option Elab.async false
set_option linter.all false
set_option maxRecDepth 100000
set_option maxHeartbeats 4000000
/-! A layer of our own over HandS: values as deep data, the heap as a frozen part and owned objects. -/
namespace AL
open PySem L2
noncomputable abbrev Frg := PySem.W.Frag
noncomputable abbrev Ex : Hp → Hp → Prop := Evl.Ex
theorem Ex.refl {H : Hp} : Ex H H := Evl.Ex.refl H
theorem Ex.trans {H H1 H2 : Hp} (a : Ex H H1) (b : Ex H1 H2) : Ex H H2 := Evl.Ex.trans a b

/-- deep data -/
inductive D where
  | non | bl (b : Bool) | int (i : Int) | str (x : Str) | ref (a : Addr) | ty (n : String)
  | tup (ds : List D) | lst (ds : List D) | rdl (ds : List D) | dic (kvs : List (Key × D))

mutual
inductive Rep (K : Frg) (F : Hp) : D → V → Prop
  | non : Rep K F .non .non
  | bl (b : Bool) : Rep K F (.bl b) (.bl b)
  | int (i : Int) : Rep K F (.int i) (.int i)
  | str (x : Str) : Rep K F (.str x) (.str x)
  | ref (a : Addr) : Rep K F (.ref a) (.ref a)
  | ty (n : String) : Rep K F (.ty n) (.ty n)
  | tup {a : Addr} {xs : List V} {ds : List D} : SqT K F a xs → RepL K F ds xs → Rep K F (.tup ds) (.ref a)
  | lst {a : Addr} {xs : List V} {ds : List D} : F a = some (.lst xs) → RepL K F ds xs → Rep K F (.lst ds) (.ref a)
  | rdl {a : Addr} {xs : List V} {ds : List D} : SqL K F a xs → RepL K F ds xs → Rep K F (.rdl ds) (.ref a)
  | dic {a : Addr} {xs : List (Key × V)} {ds : List (Key × D)} : F a = some (.dK xs) → RepK K F ds xs → Rep K F (.dic ds) (.ref a)
inductive RepL (K : Frg) (F : Hp) : List D → List V → Prop
  | nil : RepL K F [] []
  | cons {d : D} {v : V} {ds : List D} {vs : List V} : Rep K F d v → RepL K F ds vs → RepL K F (d :: ds) (v :: vs)
inductive RepK (K : Frg) (F : Hp) : List (Key × D) → List (Key × V) → Prop
  | nil : RepK K F [] []
  | cons {k : Key} {d : D} {v : V} {ds : List (Key × D)} {vs : List (Key × V)} : Rep K F d v → RepK K F ds vs → RepK K F ((k, d) :: ds) ((k, v) :: vs)
end
theorem ex_t {K : Frg} {H H' : Hp} {a : Addr} {xs : List V} (e : Ex H H') (h : SqT K H a xs) : SqT K H' a xs := Evl.ex_t e h
theorem ex_l {K : Frg} {H H' : Hp} {a : Addr} {xs : List V} (e : Ex H H') (h : SqL K H a xs) : SqL K H' a xs := Evl.ex_l e h
section
variable {K : Frg} {F F' : Hp}
mutual
theorem Rep.mono (e : Ex F F') : ∀ {d : D} {v : V}, Rep K F d v → Rep K F' d v
  | _, _, .non => .non
  | _, _, .bl b => .bl b
  | _, _, .int i => .int i
  | _, _, .str x => .str x
  | _, _, .ref a => .ref a
  | _, _, .ty n => .ty n
  | _, _, .tup h r => .tup (ex_t e h) (RepL.mono e r)
  | _, _, .lst h r => .lst (e _ _ h) (RepL.mono e r)
  | _, _, .rdl h r => .rdl (ex_l e h) (RepL.mono e r)
  | _, _, .dic h r => .dic (e _ _ h) (RepK.mono e r)
theorem RepL.mono (e : Ex F F') : ∀ {ds : List D} {vs : List V}, RepL K F ds vs → RepL K F' ds vs
  | _, _, .nil => .nil
  | _, _, .cons h r => .cons (Rep.mono e h) (RepL.mono e r)
theorem RepK.mono (e : Ex F F') : ∀ {ds : List (Key × D)} {vs : List (Key × V)}, RepK K F ds vs → RepK K F' ds vs
  | _, _, .nil => .nil
  | _, _, .cons h r => .cons (Rep.mono e h) (RepK.mono e r)
end
theorem RepL.len : ∀ {ds : List D} {vs : List V}, RepL K F ds vs → ds.length = vs.length
  | _, _, .nil => rfl
  | _, _, .cons _ r => by rw [List.length_cons, List.length_cons, RepL.len r]
theorem RepL.get : ∀ {ds : List D} {vs : List V} {i : Nat} {v : V}, RepL K F ds vs → vs[i]? = some v → ∃ d, ds[i]? = some d ∧ Rep K F d v
  | _, _, _, _, .nil, h => by simp at h
  | _, _, 0, _, .cons h _, e => by simp at e; subst e; exact ⟨_, rfl, h⟩
  | _, _, i + 1, _, .cons _ r, e => by simp at e; obtain ⟨d, h1, h2⟩ := RepL.get r e; exact ⟨d, by simpa using h1, h2⟩
theorem RepL.getD : ∀ {ds : List D} {vs : List V} {i : Nat} {d : D}, RepL K F ds vs → ds[i]? = some d → ∃ v, vs[i]? = some v ∧ Rep K F d v
  | _, _, _, _, .nil, h => by simp at h
  | _, _, 0, _, .cons h _, e => by simp at e; subst e; exact ⟨_, rfl, h⟩
  | _, _, i + 1, _, .cons _ r, e => by simp at e; obtain ⟨d, h1, h2⟩ := RepL.getD r e; exact ⟨d, by simpa using h1, h2⟩
theorem RepL.append : ∀ {ds es : List D} {vs ws : List V}, RepL K F ds vs → RepL K F es ws → RepL K F (ds ++ es) (vs ++ ws)
  | _, _, _, _, .nil, s => s
  | _, _, _, _, .cons h r, s => .cons h (RepL.append r s)
theorem RepL.one {d : D} {v : V} (h : Rep K F d v) : RepL K F [d] [v] := .cons h .nil
theorem RepL.set {d : D} {v : V} (h : Rep K F d v) : ∀ {ds : List D} {vs : List V} (i : Nat), RepL K F ds vs → RepL K F (ds.set i d) (vs.set i v)
  | _, _, _, .nil => .nil
  | _, _, 0, .cons _ r => .cons h r
  | _, _, i + 1, .cons q r => .cons q (RepL.set h i r)
theorem RepL.take : ∀ {ds : List D} {vs : List V} (n : Nat), RepL K F ds vs → RepL K F (ds.take n) (vs.take n)
  | _, _, 0, _ => .nil
  | _, _, _ + 1, .nil => .nil
  | _, _, n + 1, .cons h r => .cons h (RepL.take n r)
theorem RepL.drop : ∀ {ds : List D} {vs : List V} (n : Nat), RepL K F ds vs → RepL K F (ds.drop n) (vs.drop n)
  | _, _, 0, r => r
  | _, _, _ + 1, .nil => .nil
  | _, _, n + 1, .cons _ r => RepL.drop n r
theorem RepL.eraseIdx : ∀ {ds : List D} {vs : List V} (n : Nat), RepL K F ds vs → RepL K F (ds.eraseIdx n) (vs.eraseIdx n)
  | _, _, _, .nil => .nil
  | _, _, 0, .cons _ r => r
  | _, _, n + 1, .cons h r => .cons h (RepL.eraseIdx n r)
theorem RepK.len : ∀ {ds : List (Key × D)} {vs : List (Key × V)}, RepK K F ds vs → ds.length = vs.length
  | _, _, .nil => rfl
  | _, _, .cons _ r => by rw [List.length_cons, List.length_cons, RepK.len r]
theorem RepK.append : ∀ {ds es : List (Key × D)} {vs ws : List (Key × V)}, RepK K F ds vs → RepK K F es ws → RepK K F (ds ++ es) (vs ++ ws)
  | _, _, _, _, .nil, s => s
  | _, _, _, _, .cons h r, s => .cons h (RepK.append r s)
end

/-! ### owned objects -/
inductive MO where
  | lst (ds : List D) | dic (kvs : List (Key × D)) | ins (C : Addr) (fs : List (Str × D)) | raw (o : HO)
inductive RepF (K : Frg) (F : Hp) : List (Str × D) → List (Str × V) → Prop
  | nil : RepF K F [] []
  | cons {k : Str} {d : D} {v : V} {ds : List (Str × D)} {vs : List (Str × V)} : Rep K F d v → RepF K F ds vs → RepF K F ((k, d) :: ds) ((k, v) :: vs)
noncomputable def MRep (K : Frg) (F H : Hp) (a : Addr) : MO → Prop
  | .lst ds => ∃ vs, H a = some (.lst vs) ∧ RepL K F ds vs
  | .dic ds => ∃ vs, H a = some (.dK vs) ∧ RepK K F ds vs
  | .ins C fs => ∃ dx gs, H a = some (.ins C dx gs) ∧ F dx = some (.own a) ∧ RepF K F fs gs
  | .raw o => H a = some o
noncomputable abbrev Ms := List (Addr × MO)
structure Hold (K : Frg) (F : Hp) (ms : Ms) (H : Hp) : Prop where
  ex : Ex F H
  own : ∀ p ∈ ms, F p.1 = none ∧ MRep K F H p.1 p.2
  nd : (ms.map Prod.fst).Nodup
section
variable {K : Frg} {F F' H : Hp} {ms : Ms}
theorem RepF.mono (e : Ex F F') : ∀ {ds : List (Str × D)} {vs : List (Str × V)}, RepF K F ds vs → RepF K F' ds vs
  | _, _, .nil => .nil
  | _, _, .cons h r => .cons (h.mono e) (RepF.mono e r)
theorem RepF.look : ∀ {ds : List (Str × D)} {vs : List (Str × V)} {f : Str} {d : D}, RepF K F ds vs → ds.lookup f = some d → ∃ v, vs.lookup f = some v ∧ Rep K F d v
  | _, _, _, _, .nil, h => by simp at h
  | _, _, f, d, .cons (k := k) h r, e => by
    rw [List.lookup_cons] at e ⊢
    cases q : f == k with
    | true => rw [q] at e; cases e; exact ⟨_, rfl, h⟩
    | false => rw [q] at e; exact RepF.look r e
theorem RepF.lookN : ∀ {ds : List (Str × D)} {vs : List (Str × V)} {f : Str}, RepF K F ds vs → ds.lookup f = none → vs.lookup f = none
  | _, _, _, .nil, h => rfl
  | _, _, f, .cons (k := k) h r, e => by
    rw [List.lookup_cons] at e ⊢
    cases q : f == k with
    | true => rw [q] at e; cases e
    | false => rw [q] at e; exact RepF.lookN r e
theorem RepF.len : ∀ {ds : List (Str × D)} {vs : List (Str × V)}, RepF K F ds vs → ds.length = vs.length
  | _, _, .nil => rfl
  | _, _, .cons _ r => by rw [List.length_cons, List.length_cons, RepF.len r]
noncomputable def putD (f : Str) (d : D) : List (Str × D) → List (Str × D)
  | [] => [(f, d)]
  | (g, e) :: r => if g = f then (f, d) :: r else (g, e) :: putD f d r
theorem RepF.put {f : Str} {d : D} {v : V} (h : Rep K F d v) : ∀ {ds : List (Str × D)} {vs : List (Str × V)}, RepF K F ds vs → RepF K F (putD f d ds) (putF f v vs)
  | _, _, .nil => .cons h .nil
  | _, _, .cons (k := k) q r => by
    unfold putD putF
    split
    · rename_i e; subst e; exact .cons h r
    · exact .cons q (RepF.put h r)
theorem MRep.mono (e : Ex F F') : ∀ {m : MO} {a : Addr}, MRep K F H a m → MRep K F' H a m
  | .lst _, _, ⟨vs, h, r⟩ => ⟨vs, h, r.mono e⟩
  | .dic _, _, ⟨vs, h, r⟩ => ⟨vs, h, r.mono e⟩
  | .ins _ _, _, ⟨dx, gs, h, q, r⟩ => ⟨dx, gs, h, e _ _ q, r.mono e⟩
  | .raw _, _, h => h
theorem MRep.there : ∀ {m : MO} {a : Addr}, MRep K F H a m → ∃ o, H a = some o
  | .lst _, _, ⟨_, h, _⟩ => ⟨_, h⟩
  | .dic _, _, ⟨_, h, _⟩ => ⟨_, h⟩
  | .ins _ _, _, ⟨_, _, h, _⟩ => ⟨_, h⟩
  | .raw _, _, h => ⟨_, h⟩
theorem MRep.at {H' : Hp} : ∀ {m : MO} {a : Addr}, MRep K F H a m → H' a = H a → MRep K F H' a m
  | .lst _, _, ⟨vs, h, r⟩, e => ⟨vs, e.trans h, r⟩
  | .dic _, _, ⟨vs, h, r⟩, e => ⟨vs, e.trans h, r⟩
  | .ins _ _, _, ⟨dx, gs, h, q, r⟩, e => ⟨dx, gs, e.trans h, q, r⟩
  | .raw _, _, h, e => Eq.trans e h
theorem free_of (e : Ex F H) {p : Addr} (h : H p = none) : F p = none := Evl.fresh_back e h
theorem Hold.free (h : Hold K F ms H) {p : Addr} (hp : H p = none) : F p = none := free_of h.ex hp
theorem Hold.ne (h : Hold K F ms H) {p : Addr} (hp : H p = none) : ∀ q ∈ ms, q.1 ≠ p := fun q hq e => by
  obtain ⟨o, ho⟩ := (h.own q hq).2.there
  rw [e, hp] at ho
  cases ho
/-- a new frozen object -/
theorem Hold.laid (h : Hold K F ms H) {p : Addr} (o : HO) (hp : H p = none) : Ex F (upd F p o) ∧ Hold K (upd F p o) ms (upd H p o) := by
  have e : Ex F (upd F p o) := Evl.Ex.new (h.free hp)
  refine ⟨e, fun a u q => ?_, fun q hq => ?_, h.nd⟩
  · by_cases ha : a = p
    · subst ha; rw [upd_same] at q ⊢; exact q
    · rw [upd_ne ha] at q ⊢; exact h.ex _ _ q
  · have ne := h.ne hp q hq
    refine ⟨by rw [upd_ne ne]; exact (h.own q hq).1, ((h.own q hq).2.mono e).at (upd_ne ne)⟩
/-- a new owned object -/
theorem Hold.made (h : Hold K F ms H) {p : Addr} {o : HO} {m : MO} (hp : H p = none) (hm : MRep K F (upd H p o) p m) : Hold K F ((p, m) :: ms) (upd H p o) := by
  refine ⟨h.ex.trans (Evl.Ex.new hp), fun q hq => ?_, ?_⟩
  · rcases List.mem_cons.mp hq with rfl | hq
    · exact ⟨h.free hp, hm⟩
    · exact ⟨(h.own q hq).1, (h.own q hq).2.at (upd_ne (h.ne hp q hq))⟩
  · rw [List.map_cons]
    refine List.nodup_cons.mpr ⟨fun hm' => ?_, h.nd⟩
    obtain ⟨q, hq, e⟩ := List.mem_map.mp hm'
    exact h.ne hp q hq e
theorem Hold.at (h : Hold K F ms H) {i : Nat} {l : Addr} {m : MO} (hi : ms[i]? = some (l, m)) : F l = none ∧ MRep K F H l m := h.own (l, m) (List.mem_of_getElem? hi)
theorem map_fst_set {i : Nat} {l : Addr} {m m' : MO} : ∀ {ms : Ms} {i : Nat}, ms[i]? = some (l, m) → (ms.set i (l, m')).map Prod.fst = ms.map Prod.fst
  | [], _, h => by simp at h
  | _ :: _, 0, h => by simp at h; subst h; rfl
  | _ :: r, i + 1, h => by
    show _ :: (r.set i (l, m')).map Prod.fst = _ :: r.map Prod.fst
    rw [map_fst_set (i := i) (by simpa using h)]
/-- an owned object is changed -/
theorem Hold.set (h : Hold K F ms H) {i : Nat} {l : Addr} {m m' : MO} {o : HO} (hi : ms[i]? = some (l, m)) (hm : MRep K F (upd H l o) l m') : Hold K F (ms.set i (l, m')) (upd H l o) := by
  have hl := h.at hi
  refine ⟨Evl.Ex.mut h.ex hl.1, fun q hq => ?_, by rw [map_fst_set (i := i) hi]; exact h.nd⟩
  obtain ⟨j, hj⟩ := List.getElem?_of_mem hq
  by_cases e : j = i
  · subst e
    have hlt : j < ms.length := (List.getElem?_eq_some_iff.mp hi).1
    rw [List.getElem?_set_self hlt] at hj
    cases hj
    exact ⟨hl.1, hm⟩
  · rw [List.getElem?_set_ne (Ne.symm e)] at hj
    have hq' := h.own q (List.mem_of_getElem? hj)
    refine ⟨hq'.1, hq'.2.at (upd_ne fun z => e ?_)⟩
    have h1 : (ms.map Prod.fst)[j]? = some q.1 := by rw [List.getElem?_map, hj]; rfl
    have h2 : (ms.map Prod.fst)[i]? = some q.1 := by rw [List.getElem?_map, hi, z]; rfl
    exact nodup_ix' h.nd h1 h2
where
  nodup_ix' {N : List Addr} (hN : N.Nodup) {i j : Nat} {x : Addr} (a : N[i]? = some x) (b : N[j]? = some x) : i = j := by
    obtain ⟨h1, e1⟩ := List.getElem?_eq_some_iff.mp a
    obtain ⟨h2, e2⟩ := List.getElem?_eq_some_iff.mp b
    exact (List.getElem_inj hN).mp (e1.trans e2.symm)
theorem Hold.drop (h : Hold K F ms H) (i : Nat) : Hold K F (ms.eraseIdx i) H :=
  ⟨h.ex, fun q hq => h.own q (List.mem_of_mem_eraseIdx hq), by
    have e : (ms.eraseIdx i).map Prod.fst = (ms.map Prod.fst).eraseIdx i := map_erase _ _
    rw [e]
    exact h.nd.sublist (List.eraseIdx_sublist _ _)⟩
where
  map_erase : ∀ (l : Ms) (i : Nat), (l.eraseIdx i).map Prod.fst = (l.map Prod.fst).eraseIdx i
    | [], _ => rfl
    | _ :: _, 0 => rfl
    | p :: r, i + 1 => by
      show p.1 :: (r.eraseIdx i).map Prod.fst = p.1 :: (r.map Prod.fst).eraseIdx i
      rw [map_erase r i]
theorem Hold.tl {p : Addr × MO} (h : Hold K F (p :: ms) H) : Hold K F ms H := h.drop 0
/-- an owned object freezes -/
theorem Hold.freeze (h : Hold K F ms H) {i : Nat} {l : Addr} {m : MO} (hi : ms[i]? = some (l, m)) : ∃ o, H l = some o ∧ Ex F (upd F l o) ∧ Hold K (upd F l o) (ms.eraseIdx i) H := by
  have hl := h.at hi
  obtain ⟨o, ho⟩ := hl.2.there
  have e : Ex F (upd F l o) := Evl.Ex.new hl.1
  have d := h.drop i
  refine ⟨o, ho, e, fun a u q => ?_, fun q hq => ?_, d.nd⟩
  · by_cases ha : a = l
    · subst ha; rw [upd_same] at q; rw [← q]; exact ho
    · rw [upd_ne ha] at q; exact h.ex _ _ q
  · have hq' := d.own q hq
    have ne : q.1 ≠ l := fun z => by
      obtain ⟨j, hj⟩ := List.getElem?_of_mem hq
      rw [List.getElem?_eraseIdx] at hj
      have two : ∀ k, ms[k]? = some q → k = i := fun k hk => by
        have h1 : (ms.map Prod.fst)[k]? = some q.1 := by rw [List.getElem?_map, hk]; rfl
        have h2 : (ms.map Prod.fst)[i]? = some q.1 := by rw [List.getElem?_map, hi, z]; rfl
        exact Hold.set.nodup_ix' h.nd h1 h2
      split at hj
      · have := two _ hj; omega
      · have := two _ hj; omega
    exact ⟨by rw [upd_ne ne]; exact hq'.1, hq'.2.mono e⟩
end

/-! ### the slots -/
noncomputable abbrev Sg := List (Option D)
noncomputable def SRep (K : Frg) (F : Hp) (S : Sg) (σ : St) : Prop := S.length = σ.length ∧ ∀ (i : Nat) (d : D), S[i]? = some (some d) → ∃ v, σ[i]? = some (some v) ∧ Rep K F d v
section
variable {K : Frg} {F F' : Hp} {S : Sg} {σ : St}
theorem SRep.mono (e : Ex F F') (h : SRep K F S σ) : SRep K F' S σ := ⟨h.1, fun i d q => by
  obtain ⟨v, h1, h2⟩ := h.2 i d q
  exact ⟨v, h1, h2.mono e⟩⟩
theorem SRep.set (h : SRep K F S σ) {i : Nat} {d : D} {v : V} (r : Rep K F d v) : SRep K F (S.set i (some d)) (σ.set i (some v)) := by
  refine ⟨by rw [List.length_set, List.length_set]; exact h.1, fun j e q => ?_⟩
  by_cases hj : j = i
  · subst hj
    by_cases hl : j < S.length
    · rw [List.getElem?_set_self hl] at q
      cases q
      exact ⟨v, by rw [List.getElem?_set_self (by rw [← h.1]; exact hl)], r⟩
    · rw [List.getElem?_eq_none (by rw [List.length_set]; omega)] at q
      cases q
  · rw [List.getElem?_set_ne (Ne.symm hj)] at q ⊢
    exact h.2 j e q
theorem SRep.setN (h : SRep K F S σ) {i : Nat} : SRep K F (S.set i none) (σ.set i none) := by
  refine ⟨by rw [List.length_set, List.length_set]; exact h.1, fun j e q => ?_⟩
  by_cases hj : j = i
  · subst hj
    by_cases hl : j < S.length
    · rw [List.getElem?_set_self hl] at q
      cases q
    · rw [List.getElem?_eq_none (by rw [List.length_set]; omega)] at q
      cases q
  · rw [List.getElem?_set_ne (Ne.symm hj)] at q ⊢
    exact h.2 j e q
/-- another datum for the value in a slot -/
theorem SRep.re (h : SRep K F S σ) {i : Nat} {d : D} (r : ∀ v, σ[i]? = some (some v) → Rep K F d v) {d0 : D} (h0 : S[i]? = some (some d0)) : SRep K F (S.set i (some d)) σ := by
  refine ⟨by rw [List.length_set]; exact h.1, fun j e q => ?_⟩
  by_cases hj : j = i
  · subst hj
    have hl : j < S.length := (List.getElem?_eq_some_iff.mp h0).1
    rw [List.getElem?_set_self hl] at q
    cases q
    obtain ⟨v, h1, _⟩ := h.2 j d0 h0
    exact ⟨v, h1, r v h1⟩
  · rw [List.getElem?_set_ne (Ne.symm hj)] at q
    exact h.2 j e q
noncomputable def wipeS (S : Sg) : List Nat → Sg
  | [] => S
  | v :: vs => (wipeS S vs).set v none
theorem SRep.wipe (h : SRep K F S σ) : ∀ vs : List Nat, SRep K F (wipeS S vs) (L2.wipe σ vs)
  | [] => h
  | v :: vs => SRep.setN (SRep.wipe h vs)
end

/-! ### the judgements -/
noncomputable abbrev QE := Hp → Ms → D → Prop
/-- what is wanted of an exception: its class, its attributes -/
noncomputable abbrev XA := Addr → List (Str × D) → Hp → Ms → Prop
/-- where one stands: the written part, what is wanted of an exception (concretely, abstractly) -/
structure Cg where
  K : Frg
  E : XK
  Ea : XA
/-- the attributes of an exception: its own dict -/
noncomputable def XDat (K : Frg) (F H : Hp) (dx : Option Addr) (fs : List (Str × D)) : Prop := (dx = none ∧ fs = []) ∨ ∃ d gs, dx = some d ∧ fs ≠ [] ∧ F d = some (.xd gs) ∧ RepF K F fs gs
noncomputable def XLe (Γ : Cg) (R : Ms) (F : Hp) : Prop := ∀ F' ms' C dx fs H', Ex F F' → Hold Γ.K F' (ms' ++ R) H' → XDat Γ.K F' H' dx fs → Γ.Ea C fs F' ms' → Γ.E (.ref C) dx H'
theorem XLe.ex {Γ : Cg} {R : Ms} {F F' : Hp} (x : XLe Γ R F) (e : Ex F F') : XLe Γ R F' := fun F2 ms' C dx fs H' e2 => x F2 ms' C dx fs H' (e.trans e2)
noncomputable abbrev QS := Hp → Ms → Sg → Prop
noncomputable def AE (Γ : Cg) (te : TE) (F : Hp) (ms : Ms) (S : Sg) (Q : QE) : Prop := ∀ (R : Ms) σ H (Qc : VK), SRep Γ.K F S σ → Hold Γ.K F (ms ++ R) H → XLe Γ R F → (∀ F' ms' d v H', Ex F F' → Hold Γ.K F' (ms' ++ R) H' → Rep Γ.K F' d v → Q F' ms' d → Qc v H') → te σ H Qc
noncomputable def AA (Γ : Cg) (ta : TA) (F : Hp) (ms : Ms) (S : Sg) (Q : Hp → Ms → List D → Prop) : Prop := ∀ (R : Ms) σ H (Qc : List V → Hp → Prop), SRep Γ.K F S σ → Hold Γ.K F (ms ++ R) H → XLe Γ R F → (∀ F' ms' ds vs H', Ex F F' → Hold Γ.K F' (ms' ++ R) H' → RepL Γ.K F' ds vs → Q F' ms' ds → Qc vs H') → ta σ H Qc
noncomputable def AT (Γ : Cg) (tt : TT) (F : Hp) (ms : Ms) (S : Sg) (Q : Hp → Ms → Bool → Prop) : Prop := ∀ (R : Ms) σ H (Qc : Bool → Hp → Prop), SRep Γ.K F S σ → Hold Γ.K F (ms ++ R) H → XLe Γ R F → (∀ F' ms' b H', Ex F F' → Hold Γ.K F' (ms' ++ R) H' → Q F' ms' b → Qc b H') → tt σ H Qc
noncomputable def AR (K : Frg) (r : R2) (x y : D) (F : Hp) (ms : Ms) (Q : QE) : Prop := ∀ (R : Ms) u v H (Qc : VK), Rep K F x u → Rep K F y v → Hold K F (ms ++ R) H → (∀ F' ms' d v H', Ex F F' → Hold K F' (ms' ++ R) H' → Rep K F' d v → Q F' ms' d → Qc v H') → r u v H Qc
noncomputable def AC (K : Frg) (r : List V → Hp → VK → Prop) (ds : List D) (F : Hp) (ms : Ms) (Q : QE) : Prop := ∀ (R : Ms) vs H (Qc : VK), RepL K F ds vs → Hold K F (ms ++ R) H → (∀ F' ms' d v H', Ex F F' → Hold K F' (ms' ++ R) H' → Rep K F' d v → Q F' ms' d → Qc v H') → r vs H Qc
/-- a method of a built-in type: the receiver, the arguments -/
noncomputable def AM (K : Frg) (T : String) (r : V → List V → Hp → VK → Prop) (x : D) (ds : List D) (F : Hp) (ms : Ms) (Q : QE) : Prop := ∀ (R : Ms) u vs H (Qc : VK), Rep K F x u → RepL K F ds vs → Hold K F (ms ++ R) H → (∀ F' ms' d v H', Ex F F' → Hold K F' (ms' ++ R) H' → Rep K F' d v → Q F' ms' d → Qc v H') → r u vs H Qc
structure AEnds where
  nx : QS
  rt : QE
  bk : QS := fun _ _ _ => False
  ct : QS := fun _ _ _ => False
structure Le (Γ : Cg) (R : Ms) (F : Hp) (A : AEnds) (E : Ends) : Prop where
  xe : XLe Γ R F
  nx : ∀ F' ms' S' σ' H', Ex F F' → SRep Γ.K F' S' σ' → Hold Γ.K F' (ms' ++ R) H' → A.nx F' ms' S' → E.nx σ' H'
  rt : ∀ F' ms' d v H', Ex F F' → Hold Γ.K F' (ms' ++ R) H' → Rep Γ.K F' d v → A.rt F' ms' d → E.rt v H'
  bk : ∀ F' ms' S' σ' H', Ex F F' → SRep Γ.K F' S' σ' → Hold Γ.K F' (ms' ++ R) H' → A.bk F' ms' S' → E.bk σ' H'
  ct : ∀ F' ms' S' σ' H', Ex F F' → SRep Γ.K F' S' σ' → Hold Γ.K F' (ms' ++ R) H' → A.ct F' ms' S' → E.ct σ' H'
noncomputable def AS (Γ : Cg) (ts : TS) (F : Hp) (ms : Ms) (S : Sg) (A : AEnds) : Prop := ∀ (R : Ms) (E : Ends) σ H, SRep Γ.K F S σ → Hold Γ.K F (ms ++ R) H → Le Γ R F A E → ts E σ H
theorem Le.ex {Γ : Cg} {R : Ms} {F F' : Hp} {A : AEnds} {E : Ends} (l : Le Γ R F A E) (e : Ex F F') : Le Γ R F' A E :=
  ⟨l.xe.ex e, fun F'' ms' S' σ' H' x => l.nx F'' ms' S' σ' H' (e.trans x), fun F'' ms' d v H' x => l.rt F'' ms' d v H' (e.trans x), fun F'' ms' S' σ' H' x => l.bk F'' ms' S' σ' H' (e.trans x), fun F'' ms' S' σ' H' x => l.ct F'' ms' S' σ' H' (e.trans x)⟩

section
variable {Γ : Cg} {K : Frg} {F : Hp} {ms : Ms} {S : Sg} {Q : QE} {ta tb te tx : TE} {t u : TT} {r : R2}
/-! ### expressions -/
theorem ae_var {i : Nat} {d : D} (h : S[i]? = some (some d)) (q : Q F ms d) : AE Γ (tVar i) F ms S Q := fun R σ H Qc hs hh x k => by
  obtain ⟨v, h1, h2⟩ := hs.2 i d h
  exact ⟨v, h1, k F ms d v H Ex.refl hh h2 q⟩
theorem ae_int {i : Int} (q : Q F ms (.int i)) : AE Γ (tC (.int i)) F ms S Q := fun R σ H Qc hs hh x k => k F ms _ _ H Ex.refl hh (.int i) q
theorem ae_bl {i : Bool} (q : Q F ms (.bl i)) : AE Γ (tC (.bl i)) F ms S Q := fun R σ H Qc hs hh x k => k F ms _ _ H Ex.refl hh (.bl i) q
theorem ae_str {i : Str} (q : Q F ms (.str i)) : AE Γ (tC (.str i)) F ms S Q := fun R σ H Qc hs hh x k => k F ms _ _ H Ex.refl hh (.str i) q
theorem ae_non (q : Q F ms .non) : AE Γ (tC .non) F ms S Q := fun R σ H Qc hs hh x k => k F ms _ _ H Ex.refl hh .non q
theorem ae_ty {n : String} (q : Q F ms (.ty n)) : AE Γ (tC (.ty n)) F ms S Q := fun R σ H Qc hs hh x k => k F ms _ _ H Ex.refl hh (.ty n) q
theorem AE.mono {Q' : QE} (h : AE Γ te F ms S Q) (m : ∀ F' ms' d, Ex F F' → Q F' ms' d → Q' F' ms' d) : AE Γ te F ms S Q' := fun R σ H Qc hs hh x k => h R σ H Qc hs hh x fun F' ms' d v H' e ho hr q => k F' ms' d v H' e ho hr (m F' ms' d e q)
theorem AS.mono {ts : TS} {A A' : AEnds} (h : AS Γ ts F ms S A) (m1 : ∀ F' ms' S', Ex F F' → A.nx F' ms' S' → A'.nx F' ms' S') (m2 : ∀ F' ms' d, Ex F F' → A.rt F' ms' d → A'.rt F' ms' d)
    (m3 : ∀ F' ms' S', Ex F F' → A.bk F' ms' S' → A'.bk F' ms' S') (m4 : ∀ F' ms' S', Ex F F' → A.ct F' ms' S' → A'.ct F' ms' S') : AS Γ ts F ms S A' := fun R E σ H hs hh l =>
  h R E σ H hs hh ⟨l.xe, fun F' ms' S' σ' H' e a b q => l.nx F' ms' S' σ' H' e a b (m1 _ _ _ e q), fun F' ms' d v H' e a b q => l.rt F' ms' d v H' e a b (m2 _ _ _ e q), fun F' ms' S' σ' H' e a b q => l.bk F' ms' S' σ' H' e a b (m3 _ _ _ e q), fun F' ms' S' σ' H' e a b q => l.ct F' ms' S' σ' H' e a b (m4 _ _ _ e q)⟩
theorem ae_op (h : AE Γ ta F ms S fun F1 ms1 x => AE Γ tb F1 ms1 S fun F2 ms2 y => AR Γ.K r x y F2 ms2 Q) : AE Γ (tOp r ta tb) F ms S Q := fun R σ H Qc hs hh x k =>
  h R σ H _ hs hh x fun F1 ms1 x1 v1 H1 e1 h1 r1 q1 => q1 R σ H1 _ (hs.mono e1) h1 (x.ex e1) fun F2 ms2 y v2 H2 e2 h2 r2 q2 => q2 R v1 v2 H2 Qc (r1.mono e2) r2 h2 fun F3 ms3 d v3 H3 e3 h3 r3 q3 => k F3 ms3 d v3 H3 ((e1.trans e2).trans e3) h3 r3 q3
theorem ae_un {r1 : V → Hp → VK → Prop} (h : AE Γ ta F ms S fun F1 ms1 x => ∀ (R : Ms) u H (Qc : VK), Rep Γ.K F1 x u → Hold Γ.K F1 (ms1 ++ R) H → (∀ F' ms' d v H', Ex F1 F' → Hold Γ.K F' (ms' ++ R) H' → Rep Γ.K F' d v → Q F' ms' d → Qc v H') → r1 u H Qc) : AE Γ (tUn r1 ta) F ms S Q := fun R σ H Qc hs hh x k =>
  h R σ H _ hs hh x fun F1 ms1 x1 v1 H1 e1 h1 r1 q1 => q1 R v1 H1 Qc r1 h1 fun F3 ms3 d v3 H3 e3 h3 r3 q3 => k F3 ms3 d v3 H3 (e1.trans e3) h3 r3 q3
theorem ae_neg {f : Int → V} {g : Int → Int} (hf : ∀ i, f i = .int (g i)) (h : AE Γ ta F ms S fun F1 ms1 x => ∃ i, x = .int i ∧ Q F1 ms1 (.int (g i))) : AE Γ (tUn (rU f) ta) F ms S Q := ae_un (AE.mono h fun F1 ms1 x e ⟨i, hx, q⟩ R u H Qc hr hh k => by
  subst hx
  cases hr
  refine ⟨i, rfl, ?_⟩
  rw [hf]
  exact k F1 ms1 _ _ H Ex.refl hh (.int _) q)
theorem aa_nil {Q : Hp → Ms → List D → Prop} (q : Q F ms []) : AA Γ tNil F ms S Q := fun R σ H Qc hs hh x k => k F ms [] [] H Ex.refl hh .nil q
theorem aa_cons {tr : TA} {Q : Hp → Ms → List D → Prop} (h : AE Γ te F ms S fun F1 ms1 x => AA Γ tr F1 ms1 S fun F2 ms2 xs => Q F2 ms2 (x :: xs)) : AA Γ (tCons te tr) F ms S Q := fun R σ H Qc hs hh x k =>
  h R σ H _ hs hh x fun F1 ms1 x1 v1 H1 e1 h1 r1 q1 => q1 R σ H1 _ (hs.mono e1) h1 (x.ex e1) fun F2 ms2 xs vs H2 e2 h2 r2 q2 => k F2 ms2 (x1 :: xs) (v1 :: vs) H2 (e1.trans e2) h2 (.cons (r1.mono e2) r2) q2
theorem ae_tup {ta : TA} (h : AA Γ ta F ms S fun F1 ms1 xs => xs.length ≤ 100000 ∧ ∀ F2, Ex F1 F2 → Q F2 ms1 (.tup xs)) : AE Γ (tTup ta) F ms S Q := fun R σ H Qc hs hh x k =>
  h R σ H _ hs hh x fun F1 ms1 xs vs H1 e1 h1 r1 q1 => ⟨Evl.sz_of (by rw [← r1.len]; exact q1.1), fun p hp => by
    obtain ⟨e2, h2⟩ := h1.laid (.tup vs) hp
    exact k _ ms1 (.tup xs) _ _ (e1.trans e2) h2 (.tup (SqT.of upd_same) (r1.mono e2)) (q1.2 _ e2)⟩
/-- a displayed list, frozen -/
theorem ae_lstF {ta : TA} (h : AA Γ ta F ms S fun F1 ms1 xs => xs.length ≤ 100000 ∧ ∀ F2, Ex F1 F2 → Q F2 ms1 (.lst xs)) : AE Γ (tLst ta) F ms S Q := fun R σ H Qc hs hh x k =>
  h R σ H _ hs hh x fun F1 ms1 xs vs H1 e1 h1 r1 q1 => ⟨Evl.sz_of (by rw [← r1.len]; exact q1.1), fun p hp => by
    obtain ⟨e2, h2⟩ := h1.laid (.lst vs) hp
    exact k _ ms1 (.lst xs) _ _ (e1.trans e2) h2 (.lst upd_same (r1.mono e2)) (q1.2 _ e2)⟩
/-- a displayed list, owned -/
theorem ae_lstO {ta : TA} (h : AA Γ ta F ms S fun F1 ms1 xs => xs.length ≤ 100000 ∧ ∀ l, Q F1 ((l, .lst xs) :: ms1) (.ref l)) : AE Γ (tLst ta) F ms S Q := fun R σ H Qc hs hh x k =>
  h R σ H _ hs hh x fun F1 ms1 xs vs H1 e1 h1 r1 q1 => ⟨Evl.sz_of (by rw [← r1.len]; exact q1.1), fun p hp =>
    k _ _ (.ref p) _ _ e1 (h1.made (m := .lst xs) hp ⟨vs, upd_same, r1⟩) (.ref p) (q1.2 p)⟩
theorem ae_dnewO (h : ∀ l, Q F ((l, .dic []) :: ms) (.ref l)) : AE Γ tDNewK F ms S Q := fun R σ H Qc hs hh x k p hp => k _ _ (.ref p) _ _ Ex.refl (hh.made (m := .dic []) hp ⟨[], upd_same, .nil⟩) (.ref p) (h p)
theorem ae_call1 {rc : List V → Hp → VK → Prop} {ta : TA} (h : AA Γ ta F ms S fun F1 ms1 xs => AC Γ.K rc xs F1 ms1 Q) : AE Γ (tCB rc ta) F ms S Q := fun R σ H Qc hs hh x k =>
  h R σ H _ hs hh x fun F1 ms1 xs vs H1 e1 h1 r1 q1 => q1 R vs H1 Qc r1 h1 fun F2 ms2 d v H2 e2 h2 r2 q2 => k F2 ms2 d v H2 (e1.trans e2) h2 r2 q2
theorem ae_if (h : AT Γ t F ms S fun F1 ms1 b => (b = true → AE Γ ta F1 ms1 S Q) ∧ (b = false → AE Γ tb F1 ms1 S Q)) : AE Γ (tIf t ta tb) F ms S Q := fun R σ H Qc hs hh x k =>
  h R σ H _ hs hh x fun F1 ms1 b H1 e1 h1 q1 => by
    cases b with
    | true => exact q1.1 rfl R σ H1 Qc (hs.mono e1) h1 (x.ex e1) fun F2 ms2 d v H2 e2 h2 r2 q2 => k F2 ms2 d v H2 (e1.trans e2) h2 r2 q2
    | false => exact q1.2 rfl R σ H1 Qc (hs.mono e1) h1 (x.ex e1) fun F2 ms2 d v H2 e2 h2 r2 q2 => k F2 ms2 d v H2 (e1.trans e2) h2 r2 q2
theorem ae_andV (h : AE Γ ta F ms S fun F1 ms1 x => ∃ b, x = .bl b ∧ (b = true → AE Γ tb F1 ms1 S Q) ∧ (b = false → Q F1 ms1 (.bl false))) : AE Γ (tAndV ta tb) F ms S Q := fun R σ H Qc hs hh x k =>
  h R σ H _ hs hh x fun F1 ms1 x1 v1 H1 e1 h1 r1 ⟨b, hx, p1, p2⟩ => by
    subst hx
    cases r1
    refine ⟨b, rfl, ?_⟩
    cases b with
    | true => exact p1 rfl R σ H1 Qc (hs.mono e1) h1 (x.ex e1) fun F2 ms2 d v H2 e2 h2 r2 q2 => k F2 ms2 d v H2 (e1.trans e2) h2 r2 q2
    | false => exact k F1 ms1 _ _ H1 e1 h1 (.bl false) (p2 rfl)
theorem ae_orV (h : AE Γ ta F ms S fun F1 ms1 x => ∃ b, x = .bl b ∧ (b = false → AE Γ tb F1 ms1 S Q) ∧ (b = true → Q F1 ms1 (.bl true))) : AE Γ (tOrV ta tb) F ms S Q := fun R σ H Qc hs hh x k =>
  h R σ H _ hs hh x fun F1 ms1 x1 v1 H1 e1 h1 r1 ⟨b, hx, p1, p2⟩ => by
    subst hx
    cases r1
    refine ⟨b, rfl, ?_⟩
    cases b with
    | false => exact p1 rfl R σ H1 Qc (hs.mono e1) h1 (x.ex e1) fun F2 ms2 d v H2 e2 h2 r2 q2 => k F2 ms2 d v H2 (e1.trans e2) h2 r2 q2
    | true => exact k F1 ms1 _ _ H1 e1 h1 (.bl true) (p2 rfl)
theorem ae_notV (h : AE Γ ta F ms S fun F1 ms1 x => ∃ b, x = .bl b ∧ Q F1 ms1 (.bl (!b))) : AE Γ (tNotV ta) F ms S Q := fun R σ H Qc hs hh x k =>
  h R σ H _ hs hh x fun F1 ms1 x1 v1 H1 e1 h1 r1 ⟨b, hx, p1⟩ => by
    subst hx
    cases r1
    exact ⟨b, rfl, k F1 ms1 _ _ H1 e1 h1 (.bl _) p1⟩
/-! ### tests -/
variable {QT : Hp → Ms → Bool → Prop}
theorem at_test (h : AE Γ ta F ms S fun F1 ms1 x => ∃ b, x = .bl b ∧ QT F1 ms1 b) : AT Γ (tTest ta) F ms S QT := fun R σ H Qc hs hh x k =>
  h R σ H _ hs hh x fun F1 ms1 x1 v1 H1 e1 h1 r1 ⟨b, hx, p1⟩ => by
    subst hx
    cases r1
    exact ⟨b, rfl, k F1 ms1 b H1 e1 h1 p1⟩
theorem at_B (h : AE Γ ta F ms S fun F1 ms1 x => ∃ b, x = .bl b ∧ QT F1 ms1 b) : AT Γ (tB ta) F ms S QT := fun R σ H Qc hs hh x k =>
  h R σ H _ hs hh x fun F1 ms1 x1 v1 H1 e1 h1 r1 ⟨b, hx, p1⟩ => by
    subst hx
    cases r1
    exact ⟨b, rfl, k F1 ms1 b H1 e1 h1 p1⟩
theorem at_and (h : AT Γ t F ms S fun F1 ms1 b => (b = true → AT Γ u F1 ms1 S QT) ∧ (b = false → QT F1 ms1 false)) : AT Γ (tAnd t u) F ms S QT := fun R σ H Qc hs hh x k =>
  h R σ H _ hs hh x fun F1 ms1 b H1 e1 h1 q1 => by
    cases b with
    | true => exact q1.1 rfl R σ H1 Qc (hs.mono e1) h1 (x.ex e1) fun F2 ms2 d H2 e2 h2 q2 => k F2 ms2 d H2 (e1.trans e2) h2 q2
    | false => exact k F1 ms1 _ H1 e1 h1 (q1.2 rfl)
theorem at_or (h : AT Γ t F ms S fun F1 ms1 b => (b = false → AT Γ u F1 ms1 S QT) ∧ (b = true → QT F1 ms1 true)) : AT Γ (tOr t u) F ms S QT := fun R σ H Qc hs hh x k =>
  h R σ H _ hs hh x fun F1 ms1 b H1 e1 h1 q1 => by
    cases b with
    | false => exact q1.1 rfl R σ H1 Qc (hs.mono e1) h1 (x.ex e1) fun F2 ms2 d H2 e2 h2 q2 => k F2 ms2 d H2 (e1.trans e2) h2 q2
    | true => exact k F1 ms1 _ H1 e1 h1 (q1.2 rfl)
theorem at_not (h : AT Γ t F ms S fun F1 ms1 b => QT F1 ms1 (!b)) : AT Γ (tNot t) F ms S QT := fun R σ H Qc hs hh x k =>
  h R σ H _ hs hh x fun F1 ms1 b H1 e1 h1 q1 => k F1 ms1 _ H1 e1 h1 q1
theorem at_yes (q : QT F ms true) : AT Γ tYes F ms S QT := fun R σ H Qc hs hh x k => k F ms true H Ex.refl hh q
theorem AT.mono {Q' : Hp → Ms → Bool → Prop} (h : AT Γ t F ms S QT) (m : ∀ F' ms' d, Ex F F' → QT F' ms' d → Q' F' ms' d) : AT Γ t F ms S Q' := fun R σ H Qc hs hh x k => h R σ H Qc hs hh x fun F' ms' d H' e ho q => k F' ms' d H' e ho (m F' ms' d e q)

/-! ### operators -/
theorem ar_I0 {g : Int → Int → V} {f : Int → Int → D} (hg : ∀ F i j, Rep K F (f i j) (g i j)) {i j : Int} (q : Q F ms (f i j)) : AR K (rI0 g) (.int i) (.int j) F ms Q := fun R u v H Qc hu hv hh k => by
  cases hu; cases hv
  exact ⟨i, j, rfl, rfl, k F ms _ _ H Ex.refl hh (hg F i j) q⟩
theorem ar_I {C : Int → Int → Prop} {g : Int → Int → V} {f : Int → Int → D} (hg : ∀ F i j, Rep K F (f i j) (g i j)) {i j : Int} (c : C i j) (q : Q F ms (f i j)) : AR K (rI C g) (.int i) (.int j) F ms Q := fun R u v H Qc hu hv hh k => by
  cases hu; cases hv
  exact ⟨i, j, rfl, rfl, c, k F ms _ _ H Ex.refl hh (hg F i j) q⟩
theorem ar_addI {i j : Int} (q : Q F ms (.int (i + j))) : AR K (rI0 fun i j => .int (i + j)) (.int i) (.int j) F ms Q := ar_I0 (f := fun i j => .int (i + j)) (fun _ _ _ => .int _) q
theorem ar_subI {i j : Int} (q : Q F ms (.int (i - j))) : AR K (rI0 fun i j => .int (i - j)) (.int i) (.int j) F ms Q := ar_I0 (f := fun i j => .int (i - j)) (fun _ _ _ => .int _) q
theorem ar_mulI {i j : Int} (c : CMul i j) (q : Q F ms (.int (i * j))) : AR K (rI CMul fun i j => .int (i * j)) (.int i) (.int j) F ms Q := ar_I (f := fun i j => .int (i * j)) (fun _ _ _ => .int _) c q
theorem ar_modI {i j : Int} (c : 0 < j) (q : Q F ms (.int (i % j))) : AR K (rI (fun _ j => 0 < j) fun i j => .int (i % j)) (.int i) (.int j) F ms Q := ar_I (f := fun i j => .int (i % j)) (fun _ _ _ => .int _) c q
theorem ar_divI {i j : Int} (c : CDiv i j) (q : Q F ms (.int (i / j))) : AR K (rI CDiv fun i j => .int (i / j)) (.int i) (.int j) F ms Q := ar_I (f := fun i j => .int (i / j)) (fun _ _ _ => .int _) c q
theorem ar_powI {i j : Int} (c : CPow i j) (q : Q F ms (.int (i ^ j.toNat))) : AR K (rI CPow fun i j => .int (i ^ j.toNat)) (.int i) (.int j) F ms Q := ar_I (f := fun i j => .int (i ^ j.toNat)) (fun _ _ _ => .int _) c q
theorem ar_ltI {i j : Int} (q : Q F ms (.bl (decide (i < j)))) : AR K (rI0 fun i j => .bl (decide (i < j))) (.int i) (.int j) F ms Q := ar_I0 (f := fun i j => .bl (decide (i < j))) (fun _ _ _ => .bl _) q
theorem ar_leI {i j : Int} (q : Q F ms (.bl (decide (i ≤ j)))) : AR K (rI0 fun i j => .bl (decide (i ≤ j))) (.int i) (.int j) F ms Q := ar_I0 (f := fun i j => .bl (decide (i ≤ j))) (fun _ _ _ => .bl _) q
theorem ar_gtI {i j : Int} (q : Q F ms (.bl (decide (j < i)))) : AR K (rI0 fun i j => .bl (decide (j < i))) (.int i) (.int j) F ms Q := ar_I0 (f := fun i j => .bl (decide (j < i))) (fun _ _ _ => .bl _) q
theorem ar_geI {i j : Int} (q : Q F ms (.bl (decide (j ≤ i)))) : AR K (rI0 fun i j => .bl (decide (j ≤ i))) (.int i) (.int j) F ms Q := ar_I0 (f := fun i j => .bl (decide (j ≤ i))) (fun _ _ _ => .bl _) q
theorem ar_eqI {i j : Int} (q : Q F ms (.bl (decide (i = j)))) : AR K rEq (.int i) (.int j) F ms Q := fun R u v H Qc hu hv hh k => by
  cases hu; cases hv
  refine ⟨rfl, k F ms (.bl (decide (i = j))) _ H Ex.refl hh ?_ q⟩
  have e : decide (V.int i = V.int j) = decide (i = j) := by rw [dec_int]; by_cases z : i = j <;> simp [z]
  rw [e]
  exact .bl _
theorem ar_eqS {i j : Str} (q : Q F ms (.bl (decide (i = j)))) : AR K rEq (.str i) (.str j) F ms Q := fun R u v H Qc hu hv hh k => by
  cases hu; cases hv
  refine ⟨rfl, k F ms (.bl (decide (i = j))) _ H Ex.refl hh ?_ q⟩
  have e : decide (V.str i = V.str j) = decide (i = j) := by by_cases z : i = j <;> simp [z]
  rw [e]
  exact .bl _
theorem ar_neI {i j : Int} (q : Q F ms (.bl (!decide (i = j)))) : AR K rNe (.int i) (.int j) F ms Q := fun R u v H Qc hu hv hh k => by
  cases hu; cases hv
  refine ⟨rfl, k F ms (.bl (!decide (i = j))) _ H Ex.refl hh ?_ q⟩
  have e : decide (V.int i = V.int j) = decide (i = j) := by rw [dec_int]; by_cases z : i = j <;> simp [z]
  rw [e]
  exact .bl _
theorem ar_neS {i j : Str} (q : Q F ms (.bl (!decide (i = j)))) : AR K rNe (.str i) (.str j) F ms Q := fun R u v H Qc hu hv hh k => by
  cases hu; cases hv
  refine ⟨rfl, k F ms (.bl (!decide (i = j))) _ H Ex.refl hh ?_ q⟩
  have e : decide (V.str i = V.str j) = decide (i = j) := by by_cases z : i = j <;> simp [z]
  rw [e]
  exact .bl _
end
end AL

set_option Elab.async false
set_option linter.all false
set_option maxRecDepth 100000
set_option maxHeartbeats 4000000
namespace AL
open PySem L2
section
variable {K : Frg} {F : Hp} {ms : Ms} {S : Sg} {Q : QE} {ta tb te tx : TE} {t u : TT} {r : R2}
/-! ### operators by the kinds of their data: one rule a sign -/
theorem ar_inl {r r' : R2} {x y : D} (h : AR K r x y F ms Q) : AR K (fun x y H Q => r x y H Q ∨ r' x y H Q) x y F ms Q := fun R u v H Qc hu hv hh k => .inl (h R u v H Qc hu hv hh k)
theorem ar_inr {r r' : R2} {x y : D} (h : AR K r' x y F ms Q) : AR K (fun x y H Q => r x y H Q ∨ r' x y H Q) x y F ms Q := fun R u v H Qc hu hv hh k => .inr (h R u v H Qc hu hv hh k)
noncomputable def rAddS' : R2 := fun x y H Q => ∃ i j, x = .str i ∧ y = .str j ∧ i.length + j.length ≤ sizeLine ∧ Q (.str (i ++ j)) H
/-- + -/
noncomputable def rADD (K : Frg) : R2 := fun x y H Q => (rI0 fun i j => .int (i + j)) x y H Q ∨ (rAddS' x y H Q ∨ (rCat x y H Q ∨ rCatA K x y H Q))
theorem op_ADD {X : Cx} : OpR X (binaryOp .Add) (rADD X.K) := op_add.or (op_add_str.or (op_cat.or op_catA))
theorem ar_ADDi {i j : Int} (q : Q F ms (.int (i + j))) : AR K (rADD K) (.int i) (.int j) F ms Q := ar_inl (ar_addI q)
theorem ar_ADDs {i j : Str} (h : i.length + j.length ≤ 100000) (q : Q F ms (.str (i ++ j))) : AR K (rADD K) (.str i) (.str j) F ms Q := ar_inr (ar_inl fun R u v H Qc hu hv hh k => by
  cases hu; cases hv
  exact ⟨i, j, rfl, rfl, Evl.sz_of h, k F ms _ _ H Ex.refl hh (.str _) q⟩)
/-- two frozen lists: a new frozen one -/
theorem ar_ADDl {xs ys : List D} (h : xs.length + ys.length ≤ 100000) (q : ∀ F', Ex F F' → Q F' ms (.lst (xs ++ ys))) : AR K (rADD K) (.lst xs) (.lst ys) F ms Q := ar_inr (ar_inr (ar_inl fun R u v H Qc hu hv hh k => by
  cases hu with
  | lst h1 r1 =>
    cases hv with
    | lst h2 r2 =>
      refine ⟨_, _, _, _, rfl, rfl, hh.ex _ _ h1, hh.ex _ _ h2, Evl.sz_of (by rw [← r1.len, ← r2.len]; exact h), fun p hp => ?_⟩
      obtain ⟨e, hh'⟩ := hh.laid (.lst _) hp
      exact k _ ms _ _ _ e hh' (.lst upd_same ((r1.append r2).mono e)) (q _ e)))
/-- .. a new owned one -/
theorem ar_ADDlo {xs ys : List D} (h : xs.length + ys.length ≤ 100000) (q : ∀ l, Q F ((l, .lst (xs ++ ys)) :: ms) (.ref l)) : AR K (rADD K) (.lst xs) (.lst ys) F ms Q := ar_inr (ar_inr (ar_inl fun R u v H Qc hu hv hh k => by
  cases hu with
  | lst h1 r1 =>
    cases hv with
    | lst h2 r2 =>
      refine ⟨_, _, _, _, rfl, rfl, hh.ex _ _ h1, hh.ex _ _ h2, Evl.sz_of (by rw [← r1.len, ← r2.len]; exact h), fun p hp => ?_⟩
      exact k F ((p, .lst (xs ++ ys)) :: ms) (.ref p) _ _ Ex.refl (hh.made (m := .lst (xs ++ ys)) hp ⟨_, upd_same, r1.append r2⟩) (.ref p) (q p)))
theorem ar_ADDt {xs ys : List D} (h : xs.length + ys.length ≤ 100000) (q : ∀ F', Ex F F' → Q F' ms (.tup (xs ++ ys))) : AR K (rADD K) (.tup xs) (.tup ys) F ms Q := ar_inr (ar_inr (ar_inr fun R u v H Qc hu hv hh k => by
  cases hu with
  | tup h1 r1 =>
    cases hv with
    | tup h2 r2 =>
      refine ⟨_, _, _, _, rfl, rfl, ex_t hh.ex h1, ex_t hh.ex h2, Evl.sz_of (by rw [← r1.len, ← r2.len]; exact h), fun e => ?_, fun _ e => ?_, fun _ _ p hp => ?_⟩
      · subst e
        cases r1
        exact k F ms (.tup ys) _ H Ex.refl hh (.tup h2 r2) (q F Ex.refl)
      · subst e
        cases r2
        have q' := q F Ex.refl
        rw [List.append_nil] at q'
        exact k F ms (.tup xs) _ H Ex.refl hh (.tup h1 r1) q'
      · obtain ⟨e, hh'⟩ := hh.laid (.tup _) hp
        exact k _ ms _ _ _ e hh' (.tup (SqT.of upd_same) ((r1.append r2).mono e)) (q _ e)))
theorem ar_SUB {i j : Int} (q : Q F ms (.int (i - j))) : AR K (rI0 fun i j => .int (i - j)) (.int i) (.int j) F ms Q := ar_subI q
/-- text * int -/
noncomputable def mulS (z : Str) (n : Int) : Str := ⟨(List.replicate n.toNat z.cps.toList).flatten.toArray⟩
noncomputable def rRepS : R2 := fun x y H Q => ∃ z n, x = .str z ∧ y = .int n ∧ n ≤ 100000 ∧ -100000 ≤ n ∧ z.length * n.toNat ≤ 100000 ∧ Q (.str (mulS z n)) H
theorem foldl_rep (a : Array Nat) : ∀ (n : Nat) (b : Array Nat), (List.replicate n a).foldl (· ++ ·) b = b ++ (List.replicate n a.toList).flatten.toArray
  | 0, b => by simp
  | n + 1, b => by
    rw [List.replicate_succ, List.foldl_cons, foldl_rep a n, List.replicate_succ, List.flatten_cons]
    apply Array.ext'
    simp [Array.append_assoc]
theorem len_flat {α : Type} (l : List α) : ∀ n : Nat, (List.replicate n l).flatten.length = l.length * n
  | 0 => by simp
  | n + 1 => by
    rw [List.replicate_succ, List.flatten_cons, List.length_append, len_flat l n, Nat.mul_succ, Nat.add_comm]
theorem op_repS {X : Cx} : OpR X (binaryOp .Mult) rRepS := by
  intro pins s σ H x y v u Q I rx ry h
  obtain ⟨z, n, rfl, rfl, h1, h2, h3, q⟩ := h
  obtain ⟨t, rfl⟩ := rx
  obtain ⟨t', rfl⟩ := ry
  have hz : z.length * n.toNat ≤ sizeLine := Evl.sz_of h3
  refine PySem.P.mul_str ?_ (fun a b => ?_) (fun a b => ?_) ?_
  · have e1 : decide (n < -(2 ^ 63 : Int)) = false := decide_eq_false (by omega)
    have e2 : decide (n ≥ (2 ^ 63 : Int)) = false := decide_eq_false (by omega)
    rw [e1, e2]; rfl
  · have hn : 0 < n := by omega
    have hb : (z.length : Int) ≤ 100000 := by
      have : z.length * 1 ≤ z.length * n.toNat := Nat.mul_le_mul_left _ (by omega)
      omega
    have : (2 ^ 63 - 1 : Int) / n ≥ (2 ^ 63 - 1) / 100000 := by
      apply (Int.le_ediv_iff_mul_le hn).mpr
      have h5 : (2 ^ 63 - 1 : Int) / 100000 = 92233720368547 := by decide
      rw [h5]
      omega
    have h6 : (2 ^ 63 - 1 : Int) / 100000 = 92233720368547 := by decide
    rw [h6] at this
    omega
  · exact decide_eq_false (by omega)
  · have fin : ∀ (w : Str) (tk : Tok) (s' : Shared), w = mulS z n → Inv X pins σ H s' → EP X pins σ Q (.str w tk) s' := fun w tk s' e I' => ⟨.str w, H, I', ⟨tk, rfl⟩, by rw [e]; exact q⟩
    by_cases hn : n < 1
    · rw [if_pos hn]
      refine ⟨by decide, fin _ _ _ ?_ (I.tok _)⟩
      have e : n.toNat = 0 := by omega
      unfold mulS
      rw [e]; rfl
    · rw [if_neg hn]
      by_cases hc : (n == 1 || z.length == 0) = true
      · rw [if_pos hc]
        refine fin _ _ _ ?_ I
        unfold mulS
        rcases Bool.or_eq_true _ _ ▸ hc with h5 | h5
        · have e : n = 1 := by simpa using h5
          subst e
          show z = ⟨(List.replicate 1 z.cps.toList).flatten.toArray⟩
          simp [List.replicate_succ]
        · have e : z.cps = #[] := by
            have h6 : z.cps.size = 0 := by
              have h7 : z.length = 0 := by simpa using h5
              exact h7
            exact Array.eq_empty_of_size_eq_zero h6
          obtain ⟨c⟩ := z
          have e : c = #[] := e
          subst e
          simp
      · rw [if_neg hc]
        have e : (⟨(List.replicate n.toNat z.cps).foldl (· ++ ·) #[]⟩ : Str) = mulS z n := by
          unfold mulS
          rw [foldl_rep]
          simp
        have hl : (mulS z n).length ≤ sizeLine := by
          show (List.replicate n.toNat z.cps.toList).flatten.toArray.size ≤ sizeLine
          rw [List.size_toArray, len_flat]
          have : z.cps.toList.length = z.length := by simp [Str.length]
          rw [this]
          exact hz
        rw [e]
        exact ⟨hl, fin _ _ _ rfl (I.tok _)⟩
/-- * -/
noncomputable def rMUL (K : Frg) : R2 := fun x y H Q => (rI CMul fun i j => .int (i * j)) x y H Q ∨ (rRepS x y H Q ∨ rRep x y H Q)
theorem op_MUL {X : Cx} : OpR X (binaryOp .Mult) (rMUL X.K) := op_mul.or (op_repS.or op_rep)
theorem ar_MULi {i j : Int} (c : CMul i j) (q : Q F ms (.int (i * j))) : AR K (rMUL K) (.int i) (.int j) F ms Q := ar_inl (ar_mulI c q)
theorem ar_MULs {z : Str} {n : Int} (h1 : n ≤ 100000) (h2 : -100000 ≤ n) (h3 : z.length * n.toNat ≤ 100000) (q : Q F ms (.str (mulS z n))) : AR K (rMUL K) (.str z) (.int n) F ms Q := ar_inr (ar_inl fun R u v H Qc hu hv hh k => by
  cases hu; cases hv
  exact ⟨z, n, rfl, rfl, h1, h2, h3, k F ms _ _ H Ex.refl hh (.str _) q⟩)
/-! ### an item -/
theorem at_rep {ds : List D} {vs : List V} {i : Int} {d : D} (r : RepL K F ds vs) (h : atI ds i = some d) : ∃ v, atI vs i = some v ∧ Rep K F d v := by
  unfold atI at h ⊢
  rw [← r.len]
  cases e : ixN ds.length i with
  | none => rw [e] at h; cases h
  | some j => rw [e] at h; exact r.getD h
theorem ar_ixL {ds : List D} {i : Int} {d : D} (h : atI ds i = some d) (q : Q F ms d) : AR K (rIx K) (.lst ds) (.int i) F ms Q := fun R u v H Qc hu hv hh k => by
  cases hv
  cases hu with
  | lst ha r1 =>
    obtain ⟨w, hw, rw'⟩ := at_rep r1 h
    exact .inl ⟨_, _, i, w, rfl, rfl, SqL.of (hh.ex _ _ ha), hw, k F ms d w H Ex.refl hh rw' q⟩
theorem get_app {i : Nat} {p : Addr × MO} {R : Ms} (h : ms[i]? = some p) : (ms ++ R)[i]? = some p := by
  rw [List.getElem?_append_left (List.getElem?_eq_some_iff.mp h).1]
  exact h
theorem set_app {i : Nat} {p p' : Addr × MO} {R : Ms} (h : ms[i]? = some p) : (ms ++ R).set i p' = ms.set i p' ++ R := List.set_append_left _ _ (List.getElem?_eq_some_iff.mp h).1
theorem ar_ixO {l : Addr} {ds : List D} {i : Int} {d : D} (n : Nat) (hn : ms[n]? = some (l, .lst ds)) (h : atI ds i = some d) (q : Q F ms d) : AR K (rIx K) (.ref l) (.int i) F ms Q := fun R u v H Qc hu hv hh k => by
  cases hv
  cases hu with
  | ref =>
    obtain ⟨_, vs, hl, r1⟩ := hh.at (get_app hn)
    obtain ⟨w, hw, rw'⟩ := at_rep r1 h
    exact .inl ⟨_, _, i, w, rfl, rfl, SqL.of hl, hw, k F ms d w H Ex.refl hh rw' q⟩
theorem ar_ixT {ds : List D} {i : Int} {d : D} (h : atI ds i = some d) (q : Q F ms d) : AR K (rIx K) (.tup ds) (.int i) F ms Q := fun R u v H Qc hu hv hh k => by
  cases hv
  cases hu with
  | tup ha r1 =>
    obtain ⟨w, hw, rw'⟩ := at_rep r1 h
    exact .inr (.inl ⟨_, _, i, w, rfl, rfl, ex_t hh.ex ha, hw, k F ms d w H Ex.refl hh rw' q⟩)
noncomputable def sg (c : Nat) : Str := ⟨#[c]⟩
theorem ar_ixS {z : Str} {i : Int} {c : Nat} (hz : z.length ≤ 100000) (h : atI z.cps.toList i = some c) (q : Q F ms (.str (sg c))) : AR K (rIx K) (.str z) (.int i) F ms Q := fun R u v H Qc hu hv hh k => by
  cases hv
  cases hu with
  | str => exact .inr (.inr ⟨z, i, c, rfl, rfl, Evl.sz_of hz, h, k F ms _ _ H Ex.refl hh (.str _) q⟩)

/-! ### calls of built-ins -/
noncomputable def rLEN (K : Frg) : List V → Hp → VK → Prop := fun xs H Q => ∃ x n, xs = [x] ∧ LenV K x H n ∧ Q (.int n) H
theorem call_LEN {X : Cx} : CallR X (.builtin "len") (rLEN X.K) := call_len
theorem ac1 {rc : List V → Hp → VK → Prop} {d : D} (h : ∀ (R : Ms) v H (Qc : VK), Rep K F d v → Hold K F (ms ++ R) H → (∀ F' ms' d v H', Ex F F' → Hold K F' (ms' ++ R) H' → Rep K F' d v → Q F' ms' d → Qc v H') → rc [v] H Qc) : AC K rc [d] F ms Q := fun R vs H Qc hv hh k => by
  cases hv with
  | cons h1 h2 =>
    cases h2
    exact h R _ H Qc h1 hh k
theorem ac_lenS {z : Str} (hz : z.length ≤ 100000) (q : Q F ms (.int z.length)) : AC K (rLEN K) [.str z] F ms Q := ac1 fun R v H Qc hv hh k => by
  cases hv
  exact ⟨_, z.length, rfl, ⟨Evl.sz_of hz, rfl⟩, k F ms _ _ H Ex.refl hh (.int _) q⟩
theorem ac_lenL {ds : List D} (q : Q F ms (.int ds.length)) : AC K (rLEN K) [.lst ds] F ms Q := ac1 fun R v H Qc hv hh k => by
  cases hv with
  | lst ha r => exact ⟨_, ds.length, rfl, .inl ⟨_, SqL.of (hh.ex _ _ ha), r.len⟩, k F ms _ _ H Ex.refl hh (.int _) q⟩
theorem ac_lenT {ds : List D} (q : Q F ms (.int ds.length)) : AC K (rLEN K) [.tup ds] F ms Q := ac1 fun R v H Qc hv hh k => by
  cases hv with
  | tup ha r => exact ⟨_, ds.length, rfl, .inr ⟨_, ex_t hh.ex ha, r.len⟩, k F ms _ _ H Ex.refl hh (.int _) q⟩
theorem ac_lenO {l : Addr} {ds : List D} (n : Nat) (hn : ms[n]? = some (l, .lst ds)) (q : Q F ms (.int ds.length)) : AC K (rLEN K) [.ref l] F ms Q := ac1 fun R v H Qc hv hh k => by
  cases hv with
  | ref =>
    obtain ⟨_, vs, hl, r⟩ := hh.at (get_app hn)
    exact ⟨_, ds.length, rfl, .inl ⟨_, SqL.of hl, r.len⟩, k F ms _ _ H Ex.refl hh (.int _) q⟩
end
end AL

set_option Elab.async false
set_option linter.all false
set_option maxRecDepth 100000
set_option maxHeartbeats 4000000
namespace AL
open PySem L2
theorem Hold.perm {K : Frg} {F H : Hp} {ms ms' : Ms} (h : Hold K F ms H) (p : ms'.Perm ms) : Hold K F ms' H :=
  ⟨h.ex, fun q hq => h.own q (p.mem_iff.mp hq), (p.map Prod.fst).nodup_iff.mpr h.nd⟩
section
variable {Γ : Cg} {K : Frg} {F : Hp} {ms : Ms} {S : Sg} {Q : QE} {ta tb te tx : TE} {t u : TT} {r : R2} {ts tu tw : TS} {A : AEnds}
/-! ### statements -/
theorem as_seq (h : AS Γ ts F ms S { A with nx := fun F' ms' S' => AS Γ tu F' ms' S' A }) : AS Γ (tSeq ts tu) F ms S A := fun R E σ H hs hh l =>
  h R { E with nx := tu E } σ H hs hh ⟨l.xe, fun F' ms' S' σ' H' e a b q => q R E σ' H' a b (l.ex e), l.rt, l.bk, l.ct⟩
theorem as_next (q : A.nx F ms S) : AS Γ tNext F ms S A := fun R E σ H hs hh l => l.nx F ms S σ H Ex.refl hs hh q
theorem as_drop (h : AE Γ te F ms S fun F' ms' _ => A.nx F' ms' S) : AS Γ (tDrop te) F ms S A := fun R E σ H hs hh l =>
  h R σ H _ hs hh l.xe fun F' ms' d v H' e ho hr q => l.nx F' ms' S σ H' e (hs.mono e) ho q
theorem as_ret (h : AE Γ te F ms S A.rt) : AS Γ (tRet te) F ms S A := fun R E σ H hs hh l => h R σ H _ hs hh l.xe fun F' ms' d v H' e ho hr q => l.rt F' ms' d v H' e ho hr q
theorem as_if (h : AT Γ t F ms S fun F' ms' b => (b = true → AS Γ tu F' ms' S A) ∧ (b = false → AS Γ tw F' ms' S A)) : AS Γ (tIfS t tu tw) F ms S A := fun R E σ H hs hh l =>
  h R σ H _ hs hh l.xe fun F' ms' b H' e ho q => by
    cases b with
    | true => exact q.1 rfl R E σ H' (hs.mono e) ho (l.ex e)
    | false => exact q.2 rfl R E σ H' (hs.mono e) ho (l.ex e)
/-! ### targets -/
noncomputable def AG (Γ : Cg) (g : TG) (d : D) (F : Hp) (ms : Ms) (S : Sg) (N : QS) : Prop := ∀ (R : Ms) v σ H (Nc : St → Hp → Prop), Rep Γ.K F d v → SRep Γ.K F S σ → Hold Γ.K F (ms ++ R) H → XLe Γ R F → (∀ F' ms' S' σ' H', Ex F F' → SRep Γ.K F' S' σ' → Hold Γ.K F' (ms' ++ R) H' → N F' ms' S' → Nc σ' H') → g v σ H Nc
noncomputable def AGs (Γ : Cg) (g : TGs) (ds : List D) (F : Hp) (ms : Ms) (S : Sg) (N : QS) : Prop := ∀ (R : Ms) vs σ H (Nc : St → Hp → Prop), RepL Γ.K F ds vs → SRep Γ.K F S σ → Hold Γ.K F (ms ++ R) H → XLe Γ R F → (∀ F' ms' S' σ' H', Ex F F' → SRep Γ.K F' S' σ' → Hold Γ.K F' (ms' ++ R) H' → N F' ms' S' → Nc σ' H') → g vs σ H Nc
variable {g : TG} {gs : TGs} {N : QS}
theorem ag_name {i : Nat} {d : D} (q : N F ms (S.set i (some d))) : AG Γ (gName i) d F ms S N := fun R v σ H Nc hv hs hh x k => k F ms _ _ H Ex.refl (hs.set hv) hh q
theorem ags_nil (q : N F ms S) : AGs Γ gNil [] F ms S N := fun R vs σ H Nc hv hs hh x k => by
  cases hv
  exact ⟨rfl, k F ms S σ H Ex.refl hs hh q⟩
theorem ags_cons {d : D} {ds : List D} (h : AG Γ g d F ms S fun F' ms' S' => AGs Γ gs ds F' ms' S' N) : AGs Γ (gCons g gs) (d :: ds) F ms S N := fun R vs σ H Nc hv hs hh x k => by
  cases hv with
  | cons h1 h2 =>
    exact ⟨_, _, rfl, h R _ σ H _ h1 hs hh x fun F' ms' S' σ' H' e a b q => q R _ σ' H' Nc (h2.mono e) a b (x.ex e) fun F2 ms2 S2 σ2 H2 e2 a2 b2 q2 => k F2 ms2 S2 σ2 H2 (e.trans e2) a2 b2 q2⟩
theorem ag_tup {n : Nat} {ds : List D} (hn : ds.length = n) (h : AGs Γ gs ds F ms S N) : AG Γ (gTup Γ.K n gs) (.tup ds) F ms S N := fun R v σ H Nc hv hs hh x k => by
  cases hv with
  | tup h1 r1 => exact ⟨_, _, rfl, ex_t hh.ex h1, by rw [← r1.len]; exact hn, h R _ σ H Nc r1 hs hh x k⟩
theorem as_asgG (h : AE Γ te F ms S fun F' ms' d => AG Γ g d F' ms' S A.nx) : AS Γ (tAsg te g) F ms S A := fun R E σ H hs hh l =>
  h R σ H _ hs hh l.xe fun F' ms' d v H' e ho hr q => q R v σ H' _ hr (hs.mono e) ho (l.xe.ex e) fun F2 ms2 S2 σ2 H2 e2 a b q2 => l.nx F2 ms2 S2 σ2 H2 (e.trans e2) a b q2
theorem as_asg {i : Nat} (h : AE Γ te F ms S fun F' ms' d => A.nx F' ms' (S.set i (some d))) : AS Γ (tAsg te (gName i)) F ms S A := as_asgG (h.mono fun _ _ _ _ q => ag_name q)
theorem as_par {i j : Nat} {ta : TA} (h : AA Γ ta F ms S fun F' ms' ds => ∃ x y, ds = [x, y] ∧ A.nx F' ms' ((S.set i (some x)).set j (some y))) : AS Γ (tPar i j ta) F ms S A := fun R E σ H hs hh l =>
  h R σ H _ hs hh l.xe fun F' ms' ds vs H' e ho hr ⟨x, y, hd, q⟩ => by
    subst hd
    cases hr with
    | cons h1 h2 =>
      cases h2 with
      | cons h3 h4 =>
        cases h4
        exact ⟨_, _, rfl, l.nx F' ms' _ _ H' e (((hs.mono e).set h1).set h3) ho q⟩
theorem as_aug {i : Nat} {f : Int → Int → Int} {a : Int} (h0 : S[i]? = some (some (.int a))) (h : AE Γ te F ms S fun F' ms' d => ∃ b, d = .int b ∧ A.nx F' ms' (S.set i (some (.int (f a b))))) : AS Γ (tAug i te (ipI f)) F ms S A := fun R E σ H hs hh l => by
  obtain ⟨v, h1, h2⟩ := hs.2 i _ h0
  cases h2
  refine ⟨_, h1, h R σ H _ hs hh l.xe fun F' ms' d v H' e ho hr ⟨b, hd, q⟩ => ?_⟩
  subst hd
  cases hr
  exact ⟨a, b, rfl, rfl, l.nx F' ms' _ _ H' e ((hs.mono e).set (.int _)) ho q⟩
/-- an owned list's item is set -/
theorem ag_subO {to ti : TE} {d : D} (h : AE Γ to F ms S fun F1 ms1 o => AE Γ ti F1 ms1 S fun F2 ms2 i => ∃ (n : Nat) (l : Addr) (ds : List D) (z : Int) (j : Nat), o = .ref l ∧ i = .int z ∧ ms2[n]? = some (l, .lst ds) ∧ ixN ds.length z = some j ∧ N F2 (ms2.set n (l, .lst (ds.set j d))) S) :
    AG Γ (gSub to ti rSetL) d F ms S N := fun R v σ H Nc hv hs hh x k =>
  h R σ H _ hs hh x fun F1 ms1 o ov H1 e1 h1 r1 q1 => q1 R σ H1 _ (hs.mono e1) h1 (x.ex e1) fun F2 ms2 i iv H2 e2 h2 r2 ⟨n, l, ds, z, j, ho, hi, hn, hj, q⟩ => by
    subst ho hi
    cases r2
    cases r1
    obtain ⟨_, vs, hl, r⟩ := h2.at (get_app hn)
    refine ⟨l, vs, z, j, rfl, rfl, hl, by rw [← r.len]; exact hj, k F2 (ms2.set n (l, .lst (ds.set j d))) S σ _ (e1.trans e2) (hs.mono (e1.trans e2)) ?_ q⟩
    rw [← set_app hn]
    exact h2.set (get_app hn) ⟨_, upd_same, r.set (hv.mono (e1.trans e2)) j⟩
/-! ### owned things are dropped or freeze -/
theorem as_dropm (n : Nat) (h : AS Γ ts F (ms.eraseIdx n) S A) (hn : n < ms.length) : AS Γ ts F ms S A := fun R E σ H hs hh l => h R E σ H hs (by
  have := hh.drop n
  rw [List.eraseIdx_append_of_lt_length hn] at this
  exact this) l
/-- the owned list of slot i freezes -/
theorem as_frz {i : Nat} {l : Addr} {ds : List D} (n : Nat) (hn : ms[n]? = some (l, .lst ds)) (hi : S[i]? = some (some (.ref l))) (h : ∀ F', Ex F F' → AS Γ ts F' (ms.eraseIdx n) (S.set i (some (.lst ds))) A) : AS Γ ts F ms S A := fun R E σ H hs hh k => by
  obtain ⟨_, vs, hl, r⟩ := hh.at (get_app hn)
  obtain ⟨o, ho, e, h2⟩ := hh.freeze (get_app hn)
  rw [hl] at ho
  cases ho
  rw [List.eraseIdx_append_of_lt_length (List.getElem?_eq_some_iff.mp hn).1] at h2
  refine h _ e R E σ H ((hs.mono e).re (fun v hv => ?_) hi) h2 (k.ex e)
  obtain ⟨v', h3, h4⟩ := hs.2 i _ hi
  rw [hv] at h3
  cases h3
  cases h4
  exact .lst upd_same (r.mono e)
/-- at a value: the list that is handed on freezes -/
theorem ae_frz (h : AE Γ te F ms S fun F' ms' d => ∃ (n : Nat) (l : Addr) (ds : List D), d = .ref l ∧ ms'[n]? = some (l, .lst ds) ∧ ∀ F2, Ex F' F2 → Q F2 (ms'.eraseIdx n) (.lst ds)) : AE Γ te F ms S Q := fun R σ H Qc hs hh x k =>
  h R σ H _ hs hh x fun F' ms' d v H' e ho hr ⟨n, l, ds, hd, hn, q⟩ => by
    subst hd
    cases hr
    obtain ⟨_, vs, hl, r⟩ := ho.at (get_app hn)
    obtain ⟨o, ho', e2, h2⟩ := ho.freeze (get_app hn)
    rw [hl] at ho'
    cases ho'
    rw [List.eraseIdx_append_of_lt_length (List.getElem?_eq_some_iff.mp hn).1] at h2
    exact k _ _ (.lst ds) _ H' (e.trans e2) h2 (.lst upd_same (r.mono e2)) (q _ e2)
theorem ae_frzd (h : AE Γ te F ms S fun F' ms' d => ∃ (n : Nat) (l : Addr) (ds : List (Key × D)), d = .ref l ∧ ms'[n]? = some (l, .dic ds) ∧ ∀ F2, Ex F' F2 → Q F2 (ms'.eraseIdx n) (.dic ds)) : AE Γ te F ms S Q := fun R σ H Qc hs hh x k =>
  h R σ H _ hs hh x fun F' ms' d v H' e ho hr ⟨n, l, ds, hd, hn, q⟩ => by
    subst hd
    cases hr
    obtain ⟨_, vs, hl, r⟩ := ho.at (get_app hn)
    obtain ⟨o, ho', e2, h2⟩ := ho.freeze (get_app hn)
    rw [hl] at ho'
    cases ho'
    rw [List.eraseIdx_append_of_lt_length (List.getElem?_eq_some_iff.mp hn).1] at h2
    exact k _ _ (.dic ds) _ H' (e.trans e2) h2 (.dic upd_same (r.mono e2)) (q _ e2)
/-- .. and owned things are dropped behind a value -/
theorem ae_dropm (h : AE Γ te F ms S fun F' ms' d => ∃ n, n < ms'.length ∧ Q F' (ms'.eraseIdx n) d) : AE Γ te F ms S Q := fun R σ H Qc hs hh x k =>
  h R σ H _ hs hh x fun F' ms' d v H' e ho hr ⟨n, hn, q⟩ => k F' (ms'.eraseIdx n) d v H' e (by
    have := ho.drop n
    rw [List.eraseIdx_append_of_lt_length hn] at this
    exact this) hr q
/-! ### frames: what a call does not see -/
/-! ### what is walked -/
structure ItD (K : Frg) (J : It) (F : Hp) (G : Ms → Prop) (ds : List D) : Prop where
  goes : ∀ (R : Ms) i H F' ms', i < ds.length → Ex F F' → Hold K F' (ms' ++ R) H → G ms' → J.go i H
  stops : ∀ (R : Ms) H F' ms', Ex F F' → Hold K F' (ms' ++ R) H → G ms' → J.stop ds.length H
  yields : ∀ (R : Ms) i H x H' F' ms', i < ds.length → Ex F F' → Hold K F' (ms' ++ R) H → G ms' → J.yld i H x H' → ∃ F'' d, Ex F' F'' ∧ Hold K F'' (ms' ++ R) H' ∧ ds[i]? = some d ∧ Rep K F'' d x
noncomputable def AI (Γ : Cg) (wi : TI) (F : Hp) (ms : Ms) (S : Sg) (P : Hp → Ms → List D → (Ms → Prop) → Prop) : Prop := ∀ (R : Ms) σ H (Rc : It → Hp → Prop), SRep Γ.K F S σ → Hold Γ.K F (ms ++ R) H → XLe Γ R F →
  (∀ F' ms' ds G J H', Ex F F' → Hold Γ.K F' (ms' ++ R) H' → ItD Γ.K J F' G ds → P F' ms' ds G → Rc J H') → wi σ H Rc
theorem as_for {wi : TI} (h : AI Γ wi F ms S fun F1 ms1 ds G => ∃ I : Nat → Hp → Ms → Sg → Prop, I 0 F1 ms1 S ∧ (∀ i F' ms' S', Ex F1 F' → I i F' ms' S' → G ms') ∧
    (∀ i d F' ms' S', Ex F1 F' → ds[i]? = some d → I i F' ms' S' → ∀ F'', Ex F' F'' → AG Γ g d F'' ms' S' fun F2 ms2 S2 => AS Γ tu F2 ms2 S2 { A with nx := I (i + 1), ct := I (i + 1), bk := A.nx }) ∧
    (∀ F' ms' S', Ex F1 F' → I ds.length F' ms' S' → A.nx F' ms' S')) : AS Γ (tFor wi g tu) F ms S A := fun R E σ H hs hh l =>
  h R σ H _ hs hh l.xe fun F1 ms1 ds G J H1 e1 h1 it ⟨I, i0, iG, ib, ie⟩ => by
    refine ⟨fun i m σ' H' => m = ds.length - i ∧ i ≤ ds.length ∧ ∃ F' ms' S', Ex F1 F' ∧ SRep Γ.K F' S' σ' ∧ Hold Γ.K F' (ms' ++ R) H' ∧ I i F' ms' S', ⟨_, rfl, Nat.zero_le _, F1, ms1, S, Ex.refl, hs.mono e1, h1, i0⟩, ?_⟩
    rintro i m σ' H' ⟨rfl, hi, F', ms', S', e', hs', hh', p⟩
    have hG := iG i F' ms' S' e' p
    by_cases hlt : i < ds.length
    · refine .inr ⟨it.goes R i H' F' ms' hlt e' hh' hG, fun σ2 H2 => ∃ F2 ms2 S2, Ex F1 F2 ∧ SRep Γ.K F2 S2 σ2 ∧ Hold Γ.K F2 (ms2 ++ R) H2 ∧ I (i + 1) F2 ms2 S2, fun σ2 H2 ⟨F2, ms2, S2, e2, a2, b2, q2⟩ => ⟨ds.length - (i + 1), by omega, rfl, hlt, F2, ms2, S2, e2, a2, b2, q2⟩, fun x H2 y => ?_⟩
      obtain ⟨F2, d, e2, hh2, hd, hr⟩ := it.yields R i H' x H2 F' ms' hlt e' hh' hG y
      refine ib i d F' ms' S' e' hd p F2 e2 R x σ' H2 _ hr (hs'.mono e2) hh2 (l.xe.ex ((e1.trans e').trans e2)) fun F3 ms3 S3 σ3 H3 e3 a3 b3 q3 => ?_
      refine q3 R _ σ3 H3 a3 b3 ⟨l.xe.ex (((e1.trans e').trans e2).trans e3), fun F4 ms4 S4 σ4 H4 e4 a4 b4 q4 => ⟨F4, ms4, S4, ((e'.trans e2).trans e3).trans e4, a4, b4, q4⟩, fun F4 ms4 d4 v4 H4 e4 b4 r4 q4 => l.rt F4 ms4 d4 v4 H4 ((((e1.trans e').trans e2).trans e3).trans e4) b4 r4 q4,
        fun F4 ms4 S4 σ4 H4 e4 a4 b4 q4 => l.nx F4 ms4 S4 σ4 H4 ((((e1.trans e').trans e2).trans e3).trans e4) a4 b4 q4, fun F4 ms4 S4 σ4 H4 e4 a4 b4 q4 => ⟨F4, ms4, S4, ((e'.trans e2).trans e3).trans e4, a4, b4, q4⟩⟩
    · have ei : i = ds.length := by omega
      subst ei
      exact .inl ⟨it.stops R H' F' ms' e' hh' hG, l.nx F' ms' S' σ' H' (e1.trans e') hs' hh' (ie F' ms' S' e' p)⟩
theorem as_while (I : Nat → Hp → Ms → Sg → Prop) (m0 : Nat) (h0 : I m0 F ms S) (hb : ∀ m F' ms' S', Ex F F' → I m F' ms' S' → AT Γ t F' ms' S' fun F2 ms2 b => (b = true → AS Γ tu F2 ms2 S' { A with nx := fun F3 ms3 S3 => ∃ m', m' < m ∧ I m' F3 ms3 S3, ct := fun F3 ms3 S3 => ∃ m', m' < m ∧ I m' F3 ms3 S3, bk := A.nx }) ∧ (b = false → A.nx F2 ms2 S')) :
    AS Γ (tWhile t tu) F ms S A := fun R E σ H hs hh l => by
  refine ⟨fun m σ' H' => ∃ F' ms' S', Ex F F' ∧ SRep Γ.K F' S' σ' ∧ Hold Γ.K F' (ms' ++ R) H' ∧ I m F' ms' S', ⟨m0, F, ms, S, Ex.refl, hs, hh, h0⟩, ?_⟩
  rintro m σ' H' ⟨F', ms', S', e', hs', hh', p⟩
  refine hb m F' ms' S' e' p R σ' H' _ hs' hh' (l.xe.ex e') fun F2 ms2 b H2 e2 hh2 q => ?_
  cases b with
  | true =>
    refine ⟨fun σ3 H3 => ∃ m', m' < m ∧ ∃ F' ms' S', Ex F F' ∧ SRep Γ.K F' S' σ3 ∧ Hold Γ.K F' (ms' ++ R) H3 ∧ I m' F' ms' S', fun σ3 H3 z => z, ?_⟩
    exact q.1 rfl R _ σ' H2 (hs'.mono e2) hh2 ⟨l.xe.ex (e'.trans e2), fun F4 ms4 S4 σ4 H4 e4 a4 b4 ⟨m', lt, q4⟩ => ⟨m', lt, F4, ms4, S4, (e'.trans e2).trans e4, a4, b4, q4⟩, fun F4 ms4 d4 v4 H4 e4 b4 r4 q4 => l.rt F4 ms4 d4 v4 H4 ((e'.trans e2).trans e4) b4 r4 q4,
      fun F4 ms4 S4 σ4 H4 e4 a4 b4 q4 => l.nx F4 ms4 S4 σ4 H4 ((e'.trans e2).trans e4) a4 b4 q4, fun F4 ms4 S4 σ4 H4 e4 a4 b4 ⟨m', lt, q4⟩ => ⟨m', lt, F4, ms4, S4, (e'.trans e2).trans e4, a4, b4, q4⟩⟩
  | false => exact l.nx F2 ms2 S' σ' H2 (e'.trans e2) (hs'.mono e2) hh2 (q.2 rfl)
variable {P : Hp → Ms → List D → (Ms → Prop) → Prop}
/-- over a list: frozen, the script, or an owned one -/
theorem ai_list {tl : TE} (h : AE Γ tl F ms S fun F1 ms1 d => (∃ ds : List D, (d = .lst ds ∨ d = .rdl ds) ∧ P F1 ms1 ds fun _ => True) ∨ ∃ (n : Nat) (l : Addr) (ds : List D), d = .ref l ∧ ms1[n]? = some (l, MO.lst ds) ∧ P F1 ms1 ds fun ms' => ∃ n : Nat, ms'[n]? = some (l, MO.lst ds)) : AI Γ (iList Γ.K tl) F ms S P := fun R σ H Rc hs hh x k =>
  h R σ H _ hs hh x fun F1 ms1 d v H1 e1 h1 r1 q => by
    rcases q with ⟨ds, hd, p⟩ | ⟨n, l, ds, hd, hn, p⟩
    · obtain ⟨a, xs, rfl, hq, rl⟩ : ∃ a xs, v = .ref a ∧ SqL Γ.K F1 a xs ∧ RepL Γ.K F1 ds xs := by
        rcases hd with rfl | rfl
        · cases r1 with
          | lst ha r => exact ⟨_, _, rfl, SqL.of ha, r⟩
        · cases r1 with
          | rdl ha r => exact ⟨_, _, rfl, ha, r⟩
      refine ⟨a, rfl, ⟨xs, ex_l h1.ex hq⟩, k F1 ms1 ds (fun _ => True) _ H1 e1 h1 ⟨fun _ i H' F' ms' hi e' hh' _ => ?_, fun _ H' F' ms' e' hh' _ => ?_, fun _ i H' x H2 F' ms' hi e' hh' _ y => ?_⟩ p⟩
      · exact ⟨xs, xs[i]'(by rw [← rl.len]; exact hi), ex_l hh'.ex (ex_l e' hq), by simp [show i < xs.length by rw [← rl.len]; exact hi]⟩
      · exact ⟨xs, ex_l hh'.ex (ex_l e' hq), by rw [rl.len]; exact Nat.le_refl _⟩
      · obtain ⟨y1, y2⟩ := y
        subst y1
        obtain ⟨d, hd, rd⟩ := rl.get (y2 xs (ex_l hh'.ex (ex_l e' hq)))
        exact ⟨F', d, Ex.refl, hh', hd, rd.mono e'⟩
    · subst hd
      cases r1
      obtain ⟨_, xs, hl, rl⟩ := h1.at (get_app hn)
      refine ⟨l, rfl, ⟨xs, SqL.of hl⟩, k F1 ms1 ds _ _ H1 e1 h1 ⟨fun _ i H' F' ms' hi e' hh' ⟨n', hn'⟩ => ?_, fun _ H' F' ms' e' hh' ⟨n', hn'⟩ => ?_, fun _ i H' x H2 F' ms' hi e' hh' ⟨n', hn'⟩ y => ?_⟩ p⟩
      · obtain ⟨_, xs', hl', rl'⟩ := hh'.at (get_app hn')
        exact ⟨xs', xs'[i]'(by rw [← rl'.len]; exact hi), SqL.of hl', by simp [show i < xs'.length by rw [← rl'.len]; exact hi]⟩
      · obtain ⟨_, xs', hl', rl'⟩ := hh'.at (get_app hn')
        exact ⟨xs', SqL.of hl', by rw [rl'.len]; exact Nat.le_refl _⟩
      · obtain ⟨_, xs', hl', rl'⟩ := hh'.at (get_app hn')
        obtain ⟨y1, y2⟩ := y
        subst y1
        obtain ⟨d, hd, rd⟩ := rl'.get (y2 xs' (SqL.of hl'))
        exact ⟨F', d, Ex.refl, hh', hd, rd⟩
theorem ai_tup {tl : TE} (h : AE Γ tl F ms S fun F1 ms1 d => ∃ ds, d = .tup ds ∧ P F1 ms1 ds fun _ => True) : AI Γ (iTup Γ.K tl) F ms S P := fun R σ H Rc hs hh x k =>
  h R σ H _ hs hh x fun F1 ms1 d v H1 e1 h1 r1 ⟨ds, hd, p⟩ => by
    subst hd
    cases r1 with
    | @tup a xs _ hq rl =>
      refine ⟨a, rfl, ⟨xs, ex_t h1.ex hq⟩, k F1 ms1 ds (fun _ => True) _ H1 e1 h1 ⟨fun _ i H' F' ms' hi e' hh' _ => ?_, fun _ H' F' ms' e' hh' _ => ?_, fun _ i H' x H2 F' ms' hi e' hh' _ y => ?_⟩ p⟩
      · exact ⟨xs, xs[i]'(by rw [← rl.len]; exact hi), ex_t hh'.ex (ex_t e' hq), by simp [show i < xs.length by rw [← rl.len]; exact hi]⟩
      · exact ⟨xs, ex_t hh'.ex (ex_t e' hq), by rw [rl.len]; exact Nat.le_refl _⟩
      · obtain ⟨y1, y2⟩ := y
        subst y1
        obtain ⟨d, hd, rd⟩ := rl.get (y2 xs (ex_t hh'.ex (ex_t e' hq)))
        exact ⟨F', d, Ex.refl, hh', hd, rd.mono e'⟩
noncomputable def rangeD (lo : Int) (n : Nat) : List D := (List.range n).map fun i => .int (lo + (i : Nat))
theorem rangeD_len (lo : Int) (n : Nat) : (rangeD lo n).length = n := by unfold rangeD; rw [List.length_map, List.length_range]
theorem rangeD_get {lo : Int} {n i : Nat} (h : i < n) : (rangeD lo n)[i]? = some (.int (lo + (i : Nat))) := by
  unfold rangeD
  rw [List.getElem?_map, List.getElem?_range h]
  rfl
theorem it_range {lo : Int} {n : Nat} {F1 : Hp} : ItD K (Itr lo n) F1 (fun _ => True) (rangeD lo n) where
  goes := fun _ i H F' ms' hi _ _ _ => by rw [rangeD_len] at hi; exact hi
  stops := fun _ H F' ms' _ _ _ => by rw [rangeD_len]; exact Nat.le_refl _
  yields := fun _ i H x H' F' ms' hi _ hh' _ y => by
    rw [rangeD_len] at hi
    obtain ⟨y1, y2⟩ := y
    subst y1 y2
    exact ⟨F', _, Ex.refl, hh', rangeD_get hi, .int _⟩
theorem ai_rng1 {ta : TA} (h : AA Γ ta F ms S fun F1 ms1 ds => ∃ n : Int, ds = [.int n] ∧ n < 2 ^ 62 ∧ -(2 ^ 62) ≤ n ∧ P F1 ms1 (rangeD 0 n.toNat) fun _ => True) : AI Γ (iRng1 ta) F ms S P := fun R σ H Rc hs hh x k =>
  h R σ H _ hs hh x fun F1 ms1 ds vs H1 e1 h1 r1 ⟨n, hd, n1, n2, p⟩ => by
    subst hd
    cases r1 with
    | cons a b =>
      cases b
      cases a
      exact ⟨n, rfl, n2, n1, k F1 ms1 _ _ _ H1 e1 h1 it_range p⟩
noncomputable def charsD (z : Str) : List D := z.cps.toList.map fun c => .str (sg c)
theorem ai_str {te : TE} (h : AE Γ te F ms S fun F1 ms1 d => ∃ z, d = .str z ∧ P F1 ms1 (charsD z) fun _ => True) : AI Γ (iStr te) F ms S P := fun R σ H Rc hs hh x k =>
  h R σ H _ hs hh x fun F1 ms1 d v H1 e1 h1 r1 ⟨z, hd, p⟩ => by
    subst hd
    cases r1
    have hl : (charsD z).length = z.cps.size := by unfold charsD; rw [List.length_map, Array.length_toList]
    refine ⟨z, rfl, k F1 ms1 (charsD z) (fun _ => True) _ H1 e1 h1 ⟨fun _ i H' F' ms' hi e' hh' _ => by rw [hl] at hi; exact hi, fun _ H' F' ms' e' hh' _ => by rw [hl]; exact Nat.le_refl _, fun _ i H' x H2 F' ms' hi e' hh' _ y => ?_⟩ p⟩
    obtain ⟨y1, c, y2, y3⟩ := y
    subst y1 y3
    refine ⟨F', _, Ex.refl, hh', ?_, .str _⟩
    unfold charsD
    rw [List.getElem?_map, Array.getElem?_toList, y2]
    rfl
end
end AL

set_option Elab.async false
set_option linter.all false
set_option maxRecDepth 100000
set_option maxHeartbeats 4000000
namespace AL
open PySem L2
/-! ### comprehensions -/
theorem wipe_get (σ : St) (j : Nat) : ∀ vs : List Nat, (L2.wipe σ vs)[j]? = if j ∈ vs then σ[j]?.map (fun _ => none) else σ[j]?
  | [] => by simp [L2.wipe]
  | v :: vs => by
    unfold L2.wipe
    by_cases h : v = j
    · subst h
      rw [List.getElem?_set]
      simp only [if_true, List.mem_cons, true_or, wipe_length]
      by_cases hl : v < σ.length
      · rw [if_pos hl, List.getElem?_eq_getElem hl]; rfl
      · rw [if_neg hl, List.getElem?_eq_none (by omega)]; rfl
    · rw [List.getElem?_set_ne h, wipe_get σ j vs]
      have e : (j ∈ v :: vs) ↔ j ∈ vs := by simp [Ne.symm h]
      simp only [e]
theorem wipe_set {σ : St} {i : Nat} {x : Option V} {vs : List Nat} (h : i ∈ vs) : L2.wipe (σ.set i x) vs = L2.wipe σ vs := by
  apply List.ext_getElem?
  intro j
  rw [wipe_get, wipe_get]
  by_cases e : i = j
  · subst e
    rw [if_pos h, if_pos h, List.getElem?_set]
    simp only [if_true]
    by_cases hl : i < σ.length
    · rw [if_pos hl, List.getElem?_eq_getElem hl]; rfl
    · rw [if_neg hl, List.getElem?_eq_none (by omega)]
  · rw [List.getElem?_set_ne e]
theorem wipe_wipe (σ : St) (vs : List Nat) : L2.wipe (L2.wipe σ vs) vs = L2.wipe σ vs := by
  apply List.ext_getElem?
  intro j
  rw [wipe_get, wipe_get]
  split
  · cases σ[j]? <;> rfl
  · rfl
/-- a target that stores in the block's own slots alone -/
noncomputable def GW (g : TG) (vs : List Nat) : Prop := ∀ v σ H N τ, L2.wipe σ vs = τ → g v σ H N → g v σ H fun σ2 H2 => N σ2 H2 ∧ L2.wipe σ2 vs = τ
noncomputable def GWs (g : TGs) (vs : List Nat) : Prop := ∀ xs σ H N τ, L2.wipe σ vs = τ → g xs σ H N → g xs σ H fun σ2 H2 => N σ2 H2 ∧ L2.wipe σ2 vs = τ
theorem gw_name {i : Nat} {vs : List Nat} (h : i ∈ vs) : GW (gName i) vs := fun v σ H N τ e q => ⟨q, by rw [wipe_set h]; exact e⟩
theorem gws_nil {vs : List Nat} : GWs gNil vs := fun xs σ H N τ e q => ⟨q.1, q.2, e⟩
theorem gws_cons {g : TG} {gs : TGs} {vs : List Nat} (gm : ∀ v σ H N N', (∀ σ2 H2, N σ2 H2 → N' σ2 H2) → g v σ H N → g v σ H N') (h : GW g vs) (hs : GWs gs vs) : GWs (gCons g gs) vs := fun xs σ H N τ e ⟨v, r, hx, q⟩ =>
  ⟨v, r, hx, gm v σ H _ _ (fun σ2 H2 ⟨a, b⟩ => hs r σ2 H2 N τ b a) (h v σ H _ τ e q)⟩
theorem gm_name {i : Nat} : ∀ v σ H N N', (∀ σ2 H2, N σ2 H2 → N' σ2 H2) → gName i v σ H N → gName i v σ H N' := fun v σ H N N' m q => m _ _ q
theorem gms_nil : ∀ v σ H N N', (∀ σ2 H2, N σ2 H2 → N' σ2 H2) → gNil v σ H N → gNil v σ H N' := fun v σ H N N' m q => ⟨q.1, m _ _ q.2⟩
theorem gms_cons {g : TG} {gs : TGs} (gm : ∀ v σ H N N', (∀ σ2 H2, N σ2 H2 → N' σ2 H2) → g v σ H N → g v σ H N') (gsm : ∀ v σ H N N', (∀ σ2 H2, N σ2 H2 → N' σ2 H2) → gs v σ H N → gs v σ H N') : ∀ v σ H N N', (∀ σ2 H2, N σ2 H2 → N' σ2 H2) → gCons g gs v σ H N → gCons g gs v σ H N' :=
  fun v σ H N N' m ⟨x, r, hx, q⟩ => ⟨x, r, hx, gm x σ H _ _ (fun σ2 H2 q2 => gsm r σ2 H2 N N' m q2) q⟩
theorem gm_tup {K : Frg} {n : Nat} {gs : TGs} (gsm : ∀ v σ H N N', (∀ σ2 H2, N σ2 H2 → N' σ2 H2) → gs v σ H N → gs v σ H N') : ∀ v σ H N N', (∀ σ2 H2, N σ2 H2 → N' σ2 H2) → gTup K n gs v σ H N → gTup K n gs v σ H N' :=
  fun v σ H N N' m ⟨a, xs, e, h1, h2, q⟩ => ⟨a, xs, e, h1, h2, gsm xs σ H N N' m q⟩
theorem gw_tup {K : Frg} {n : Nat} {gs : TGs} {vs : List Nat} (h : GWs gs vs) : GW (gTup K n gs) vs := fun v σ H N τ e ⟨a, xs, hv, h1, h2, q⟩ => ⟨a, xs, hv, h1, h2, h xs σ H N τ e q⟩
/-- nothing may be raised -/
noncomputable abbrev Cg.nox (Γ : Cg) : Cg := { Γ with E := E0, Ea := fun _ _ _ _ => False }
theorem xle0 {Γ : Cg} {R : Ms} {F : Hp} : XLe Γ.nox R F := fun _ _ _ _ _ _ _ _ _ h => h.elim
section
variable {Γ : Cg} {K : Frg} {F : Hp} {ms : Ms} {S : Sg} {Q : QE} {ta tb te tx : TE} {t u tt : TT} {r : R2} {ts tu tw : TS} {A : AEnds} {g : TG} {wi : TI} {vs : List Nat}
theorem mid_get {ms R : Ms} {p : Addr × MO} : (ms ++ p :: R)[ms.length]? = some p := by rw [List.getElem?_append_right (Nat.le_refl _), Nat.sub_self]; rfl
theorem mid_erase {ms R : Ms} {p : Addr × MO} : (ms ++ p :: R).eraseIdx ms.length = ms ++ R := by rw [List.eraseIdx_append_of_length_le (Nat.le_refl _), Nat.sub_self]; rfl
theorem mid_set {ms R : Ms} {p q : Addr × MO} : (ms ++ p :: R).set ms.length q = ms ++ q :: R := by rw [List.set_append_right _ _ (Nat.le_refl _), Nat.sub_self]; rfl
theorem ae_lc (hg : GW g vs) (gm : ∀ v σ H N N', (∀ σ2 H2, N σ2 H2 → N' σ2 H2) → g v σ H N → g v σ H N') (h : AI Γ wi F ms S fun F1 ms1 ds G => ∃ I : Nat → Hp → Ms → List D → Prop, I 0 F1 ms1 [] ∧ (∀ i F' ms' acc, Ex F1 F' → I i F' ms' acc → G ms') ∧
    (∀ i d F' ms' acc, Ex F1 F' → ds[i]? = some d → I i F' ms' acc → ∀ F'', Ex F' F'' → AG Γ.nox g d F'' ms' (wipeS S vs) fun F2 ms2 S2 => AT Γ.nox tt F2 ms2 S2 fun F3 ms3 b => (b = true → AE Γ.nox te F3 ms3 S2 fun F4 ms4 y => acc.length < 100000 ∧ I (i + 1) F4 ms4 (acc ++ [y])) ∧ (b = false → I (i + 1) F3 ms3 acc)) ∧
    (∀ F' ms' acc, Ex F1 F' → I ds.length F' ms' acc → ∀ F'', Ex F' F'' → Q F'' ms' (.lst acc))) : AE Γ (tLc wi g tt te vs) F ms S Q := fun R σ H Qc hs hh x k =>
  h R σ H _ hs hh x fun F1 ms1 ds G J H1 e1 h1 it ⟨I, i0, iG, ib, ie⟩ => by
    intro D hD
    refine ⟨fun i m H' => m = ds.length - i ∧ i ≤ ds.length ∧ ∃ F' ms' acc, Ex F1 F' ∧ Hold Γ.K F' (ms' ++ (D, .lst acc) :: R) H' ∧ I i F' ms' acc, ⟨_, rfl, Nat.zero_le _, F1, ms1, [], Ex.refl, ?_, i0⟩, ?_⟩
    · exact (h1.made (m := .lst []) hD ⟨[], upd_same, .nil⟩).perm List.perm_middle
    rintro i m H' ⟨rfl, hi, F', ms', acc, e', hh', p⟩
    have hG := iG i F' ms' acc e' p
    by_cases hlt : i < ds.length
    · refine .inr ⟨it.goes _ i H' F' ms' hlt e' hh' hG, fun H2 => ∃ F2 ms2 acc2, Ex F1 F2 ∧ Hold Γ.K F2 (ms2 ++ (D, .lst acc2) :: R) H2 ∧ I (i + 1) F2 ms2 acc2, fun H2 ⟨F2, ms2, acc2, e2, b2, q2⟩ => ⟨ds.length - (i + 1), by omega, rfl, hlt, F2, ms2, acc2, e2, b2, q2⟩, fun x H2 y => ?_⟩
      obtain ⟨F2, d, e2, hh2, hd, hr⟩ := it.yields _ i H' x H2 F' ms' hlt e' hh' hG y
      refine gm x _ H2 _ _ (fun σ2 H3 z => ⟨z.2, z.1⟩) (hg x _ H2 _ _ (wipe_wipe σ vs) ?_)
      refine ib i d F' ms' acc e' hd p F2 e2 _ x (L2.wipe σ vs) H2 _ hr (((hs.mono e1).mono (e'.trans e2)).wipe vs) hh2 xle0 fun F3 ms3 S3 σ3 H3 e3 a3 b3 q3 => ?_
      refine q3 _ σ3 H3 _ a3 b3 xle0 fun F4 ms4 b H4 e4 b4 q4 => ?_
      cases b with
      | true =>
        refine q4.1 rfl _ σ3 H4 _ (a3.mono e4) b4 xle0 fun F5 ms5 d5 v5 H5 e5 b5 r5 q5 => ?_
        obtain ⟨_, vs5, hl, rl⟩ := b5.at mid_get
        refine ⟨vs5, hl, Evl.sz_lt (by rw [← rl.len]; exact q5.1), F5, ms5, acc ++ [d5], (((e'.trans e2).trans e3).trans e4).trans e5, ?_, q5.2⟩
        have := b5.set (m' := .lst (acc ++ [d5])) (o := .lst (vs5 ++ [v5])) mid_get ⟨_, upd_same, rl.append (RepL.one r5)⟩
        rw [mid_set] at this
        exact this
      | false => exact ⟨F4, ms4, acc, ((e'.trans e2).trans e3).trans e4, b4, q4.2 rfl⟩
    · have ei : i = ds.length := by omega
      subst ei
      refine .inl ⟨it.stops _ H' F' ms' e' hh' hG, ?_⟩
      obtain ⟨_, vsD, hl, rl⟩ := hh'.at mid_get
      obtain ⟨o, ho, e2, h2⟩ := hh'.freeze mid_get
      rw [hl] at ho
      cases ho
      rw [mid_erase] at h2
      exact k _ ms' (.lst acc) _ H' ((e1.trans e').trans e2) h2 (.lst upd_same (rl.mono e2)) (ie F' ms' acc e' p _ e2)

/-! ### defs -/
noncomputable abbrev ASp := List D → Hp → Ms → QE → XA → Prop
noncomputable def toSp (K : Frg) (sp : ASp) : Sp := fun vs H Q E => ∃ F ms R ds Qa Ea, Hold K F (ms ++ R) H ∧ RepL K F ds vs ∧ sp ds F ms Qa Ea ∧ (∀ F' ms' d v H', Ex F F' → Hold K F' (ms' ++ R) H' → Rep K F' d v → Qa F' ms' d → Q v H') ∧ XLe ⟨K, E, Ea⟩ R F
theorem ae_call {sp : ASp} {ta : TA} (h : AA Γ ta F ms S fun F1 ms1 ds => sp ds F1 ms1 Q Γ.Ea) : AE Γ (tCall (toSp Γ.K sp) [] Γ.E ta) F ms S Q := fun R σ H Qc hs hh x k =>
  h R σ H _ hs hh x fun F1 ms1 ds vs H1 e1 h1 r1 q1 => by
    show toSp Γ.K sp (vs ++ []) H1 Qc Γ.E
    rw [List.append_nil]
    exact ⟨F1, ms1, R, ds, Q, Γ.Ea, h1, r1, q1, fun F' ms' d v H' e => k F' ms' d v H' (e1.trans e), x.ex e1⟩
/-- an instance: frozen or owned -/
noncomputable def InsF (K : Frg) (F : Hp) (a C : Addr) (fs : List (Str × D)) : Prop := ∃ dx gs, F a = some (.ins C dx gs) ∧ F dx = some (.own a) ∧ RepF K F fs gs
theorem InsF.mono {F' : Hp} {a C : Addr} {fs : List (Str × D)} (e : Ex F F') : InsF K F a C fs → InsF K F' a C fs := fun ⟨dx, gs, h1, h2, h3⟩ => ⟨dx, gs, e _ _ h1, e _ _ h2, h3.mono e⟩
noncomputable def InsA (K : Frg) (F : Hp) (ms : Ms) (a C : Addr) (fs : List (Str × D)) : Prop := InsF K F a C fs ∨ ∃ n : Nat, ms[n]? = some (a, MO.ins C fs)
theorem InsA.to {a C : Addr} {fs : List (Str × D)} {R : Ms} {H : Hp} (i : InsA K F ms a C fs) (hh : Hold K F (ms ++ R) H) : ∃ dx gs, H a = some (.ins C dx gs) ∧ F dx = some (.own a) ∧ RepF K F fs gs := by
  rcases i with ⟨dx, gs, h1, h2, h3⟩ | ⟨n, hn⟩
  · exact ⟨dx, gs, hh.ex _ _ h1, h2, h3⟩
  · exact (hh.at (get_app hn)).2
theorem ae_fld {f : Str} (h : AE Γ ta F ms S fun F1 ms1 x => ∃ a C fs d, x = .ref a ∧ InsA Γ.K F1 ms1 a C fs ∧ Cls Γ.K C ∧ NoAttr Γ.K C f ∧ fs.lookup f = some d ∧ Q F1 ms1 d) : AE Γ (tFld Γ.K ta f) F ms S Q := fun R σ H Qc hs hh x k =>
  h R σ H _ hs hh x fun F1 ms1 d1 v1 H1 e1 h1 r1 ⟨a, C, fs, d, hx, hi, hc, hn, hl, q⟩ => by
    subst hx
    cases r1
    obtain ⟨dx, gs, i1, i2, i3⟩ := hi.to h1
    obtain ⟨v, hv, rv⟩ := i3.look hl
    exact ⟨a, C, dx, gs, v, rfl, i1, hc, hn, hv, k F1 ms1 d v H1 e1 h1 rv q⟩
theorem as_fld {f : Str} {tv : TE} (h : AE Γ tv F ms S fun F1 ms1 y => AE Γ ta F1 ms1 S fun F2 ms2 x => ∃ (n : Nat) (a C : Addr) (fs : List (Str × D)), x = .ref a ∧ ms2[n]? = some (a, .ins C fs) ∧ Cls Γ.K C ∧ NoAttr Γ.K C f ∧ fs.length < 1000 ∧ A.nx F2 (ms2.set n (a, .ins C (putD f y fs))) S) :
    AS Γ (sFld Γ.K ta tv f) F ms S A := fun R E σ H hs hh l =>
  h R σ H _ hs hh l.xe fun F1 ms1 y vy H1 e1 h1 r1 q1 => q1 R σ H1 _ (hs.mono e1) h1 (l.xe.ex e1) fun F2 ms2 x2 v2 H2 e2 h2 r2 ⟨n, a, C, fs, hx, hn, hc, hna, hl, q⟩ => by
    subst hx
    cases r2
    obtain ⟨_, dx, gs, i1, i2, i3⟩ := h2.at (get_app hn)
    refine ⟨a, C, dx, gs, rfl, i1, hc, hna, by rw [← i3.len]; exact hl, l.nx F2 (ms2.set n (a, .ins C (putD f y fs))) S σ _ (e1.trans e2) (hs.mono (e1.trans e2)) ?_ q⟩
    rw [← set_app hn]
    exact h2.set (get_app hn) ⟨dx, _, upd_same, i2, i3.put (r1.mono e2)⟩
theorem ae_meth {C : Addr} {m : Str} {sp : ASp} {ta' : TA} (h : AE Γ ta F ms S fun F1 ms1 x => ∃ a fs, x = .ref a ∧ InsA Γ.K F1 ms1 a C fs ∧ fs.lookup m = none ∧ AA Γ ta' F1 ms1 S fun F2 ms2 ds => sp (.ref a :: ds) F2 ms2 Q Γ.Ea) :
    AE Γ (tMeth C m (toSp Γ.K sp) [] Γ.E ta ta') F ms S Q := fun R σ H Qc hs hh x k =>
  h R σ H _ hs hh x fun F1 ms1 d1 v1 H1 e1 h1 r1 ⟨a, fs, hx, hi, hl, q⟩ => by
    subst hx
    cases r1
    obtain ⟨dx, gs, i1, i2, i3⟩ := hi.to h1
    refine ⟨a, dx, gs, rfl, i1, i3.lookN hl, q R σ H1 _ (hs.mono e1) h1 (x.ex e1) fun F2 ms2 ds vs H2 e2 h2 r2 q2 => ?_⟩
    show toSp Γ.K sp (V.ref a :: (vs ++ [])) H2 Qc Γ.E
    rw [List.append_nil]
    exact ⟨F2, ms2, R, .ref a :: ds, Q, Γ.Ea, h2, .cons (.ref a) r2, q2, fun F' ms' d v H' e => k F' ms' d v H' ((e1.trans e2).trans e), x.ex (e1.trans e2)⟩
theorem ae_prop {C : Addr} {sp : ASp} (h : AE Γ ta F ms S fun F1 ms1 x => ∃ a fs, x = .ref a ∧ InsA Γ.K F1 ms1 a C fs ∧ sp [.ref a] F1 ms1 Q Γ.Ea) : AE Γ (tProp C (toSp Γ.K sp) [] Γ.E ta) F ms S Q := fun R σ H Qc hs hh x k =>
  h R σ H _ hs hh x fun F1 ms1 d1 v1 H1 e1 h1 r1 ⟨a, fs, hx, hi, q⟩ => by
    subst hx
    cases r1
    obtain ⟨dx, gs, i1, i2, i3⟩ := hi.to h1
    exact ⟨a, dx, gs, rfl, i1, F1, ms1, R, [.ref a], Q, Γ.Ea, h1, .cons (.ref a) .nil, q, fun F' ms' d v H' e => k F' ms' d v H' (e1.trans e), x.ex e1⟩
theorem ae_make {C : Addr} {sp : ASp} {ta' : TA} {dvs : List V} {dds : List D} (hd : ∀ F, RepL Γ.K F dds dvs) (h : AA Γ ta' F ms S fun F1 ms1 ds => ∀ x F2, Ex F1 F2 → sp (.ref x :: (ds ++ dds)) F2 ((x, .ins C []) :: ms1) (fun F' ms' d => d = .non ∧ Q F' ms' (.ref x)) Γ.Ea) :
    AE Γ (tMake C (toSp Γ.K sp) dvs Γ.E ta') F ms S Q := fun R σ H Qc hs hh x k =>
  h R σ H _ hs hh x fun F1 ms1 ds vs H1 e1 h1 r1 q1 => by
    intro a dx na ndx ne
    obtain ⟨e2, h2⟩ := h1.laid (.own a) ndx
    have na2 : upd H1 dx (.own a) a = none := by rw [upd_ne ne.symm]; exact na
    have h3 := h2.made (m := .ins C []) (o := .ins C dx []) na2 ⟨dx, [], upd_same, upd_same, .nil⟩
    refine ⟨_, (a, .ins C []) :: ms1, R, .ref a :: (ds ++ dds), _, Γ.Ea, h3, .cons (.ref a) ((r1.mono e2).append (hd _)), q1 a _ e2, fun F' ms' d v H' e ho hr ⟨hdn, q⟩ => ?_, x.ex (e1.trans e2)⟩
    subst hdn
    cases hr
    exact ⟨rfl, k F' ms' (.ref a) _ H' ((e1.trans e2).trans e) ho (.ref a) q⟩
end
noncomputable def startS (N : List Str) (ds : List D) : Sg := ds.map some ++ List.replicate (N.length - ds.length) none
theorem start_rep {K : Frg} {F : Hp} {N : List Str} : ∀ {ds : List D} {vs : List V}, RepL K F ds vs → SRep K F (startS N ds) (L2.start N vs) := fun {ds vs} r => by
  unfold startS L2.start
  refine ⟨by simp [r.len], fun i d h => ?_⟩
  by_cases hi : i < ds.length
  · rw [List.getElem?_append_left (by simpa using hi), List.getElem?_map] at h
    cases e : ds[i]? with
    | none => rw [e] at h; cases h
    | some d' =>
      rw [e] at h
      cases h
      obtain ⟨v, hv, rv⟩ := r.getD e
      refine ⟨v, ?_, rv⟩
      rw [List.getElem?_append_left (by rw [List.length_map, ← r.len]; exact hi), List.getElem?_map, hv]
      rfl
  · rw [List.getElem?_append_right (by simpa using hi), List.getElem?_replicate] at h
    split at h <;> cases h
section
variable {P : Program} {w : World} {K : Frg} {mg : Str → Option Value} {base : Heap}
/-- a def that raises nothing -/
theorem fn_ok {x qual : Str} {st : Stmt} {f : Addr} {fd : FuncData} {N ps : List Str} {k : Nat} {sp : ASp} (F : Fun K x qual st f fd) (Sc : FnScope N ps (defScope st)) (len : ∀ ds F ms Q E, sp ds F ms Q E → ds.length = ps.length)
    (hbody : ∀ (cdv : Value) (A : Around) (outer : List Env) (s : Shared) (H : Hp) (E : XK), Room k (A.deeper (PyProof.Rows.envOfC qual (defScope st) s.heap.objs.size f cdv)) → ∃ t, PSs (cxOf CX0 P w K mg base N qual (defScope st) f cdv A outer s H E).nox (defBody st) t ∧
      ∀ ds F ms Q Ea, sp ds F ms Q Ea → AS ⟨K, E0, fun _ _ _ _ => False⟩ t F ms (startS N ds) { nx := fun F' ms' _ => Q F' ms' .non, rt := Q }) : FnOk P w K mg base CX0 (k + 1) f fd ps (toSp K sp) := by
  refine F.ok Sc (fun vs H Q E h => ?_) (fun cdv A outer s H vs Q E hr h => ?_)
  · obtain ⟨F0, ms, R, ds, Qa, Ea, h1, h2, h3, _⟩ := h
    rw [← h2.len]
    exact len _ _ _ _ _ h3
  · obtain ⟨F0, ms, R, ds, Qa, Ea, h1, h2, h3, h4, h5⟩ := h
    obtain ⟨t, ht, q⟩ := hbody cdv A outer s H E hr
    refine ⟨t, ht, q ds F0 ms Qa Ea h3 R _ _ H (start_rep h2) h1 ⟨fun _ _ _ _ _ _ _ _ _ z => z.elim, fun F' ms' S' σ' H' e a b q' => h4 F' ms' .non .non H' e b .non q', fun F' ms' d v H' e b r q' => h4 F' ms' d v H' e b r q', fun _ _ _ _ _ _ _ _ z => z.elim, fun _ _ _ _ _ _ _ _ z => z.elim⟩⟩
end
end AL

set_option Elab.async false
set_option linter.all false
set_option maxRecDepth 100000
set_option maxHeartbeats 4000000
namespace AL
open PySem L2
/-! ### two more built-ins at the library's level: list(text), min of texts -/
theorem richCmp_lt_str {prog : Program} {w : World} {A : Around} {E Q : Value → Shared → Prop} {s : Shared} {x y : Str} {t u : Tok} (h : Q (.bool (decide (x.cps.toList < y.cps.toList))) s) : wpAny (model prog w) A (richCompare .Lt (.str x t) (.str y u)) Q E s :=
  wpAny_richCompare_same (op := .Lt) (T := "str") (typeIs_str s x t) (typeIs_str s y u) PyProof.Rows.slot_str_lt
    (wpAny_call_entry PyProof.Rows.slot_str_lt (typeIs_str s x t) PyProof.Rows.entry_str_lt (show wpAny _ _ (ret (.bool (x.cps.toList < y.cps.toList))) _ _ s from wpAny_pure ⟨_, rfl, by simp, h⟩) (PyProof.Rows.args_str_lt _ _))
theorem cmp_strs {prog : Program} {w : World} {A : Around} {P : Nat → Value → Prop} (val : Nat → Str) (hval : ∀ i v, P i v → ∃ t, v = .str (val i) t) :
    CmpOf prog w A .Lt P (fun i j => decide ((val i).cps.toList < (val j).cps.toList)) := fun i j vi vj s Q E hi hj h => by
  obtain ⟨t, rfl⟩ := hval i vi hi
  obtain ⟨u, rfl⟩ := hval j vj hj
  exact richCmp_lt_str h
section
variable {X : Cx}
noncomputable def minS (x y : Str) : Str := if y.cps.toList < x.cps.toList then y else x
/-- min(a, b) of texts -/
noncomputable def rMinS : List V → Hp → VK → Prop := fun xs H Q => ∃ x y, xs = [.str x, .str y] ∧ Q (.str (minS x y)) H
theorem call_minS (hc : X.calm = true) : CallR X (.builtin "min") rMinS := by
  intro pins s σ H xs us Q I r h
  obtain ⟨x, y, rfl, q⟩ := h
  obtain ⟨u, w', rfl, ⟨t, rfl⟩, ⟨t', rfl⟩⟩ := vals2 r
  have hT : (s.heap.push { cls := .type "tuple", data := .seq #[Value.str x t, Value.str y t'] }).IsTuple s.heap.objs.size #[Value.str x t, Value.str y t'] := ⟨_, Heap.get?_push_size _ rfl, rfl, 0, rfl⟩
  refine call_min_two (wpAny_pyIter_tuple hT ?_)
  have hsz : (s.heap.push { cls := .type "tuple", data := .seq #[Value.str x t, Value.str y t'] }).objs.size = s.heap.objs.size + 1 := Heap.size_push ..
  refine ⟨_, [_, s.heap.objs.size], [_], _, _, _, _, rfl, Walks.tuple (A := X.A.in1) (I.ok.hd hc) _ s.heap.objs.size (by rw [hsz]; exact Nat.ne_of_lt (Nat.lt_succ_self _)) #[Value.str x t, Value.str y t'],
    ⟨⟨_, Heap.get?_push_size _ rfl, rfl, rfl⟩, hT.push _⟩, fun c hcm => ?_, by simp, cmp_strs (fun i => if i = 0 then x else y) (fun i v hv => ?_), fun v h' tk hP hk => ?_⟩
  · show c < ((s.heap.push _).push _).objs.size
    rw [Heap.size_push, hsz]
    rcases List.mem_cons.mp hcm with rfl | hcm
    · rw [hsz]; exact Nat.lt_succ_self _
    · rcases List.mem_cons.mp hcm with rfl | hcm
      · exact Nat.lt_succ_of_lt (Nat.lt_succ_self _)
      · cases hcm
  · match i, hv with
    | 0, hv => simp at hv; exact ⟨t, by simp [hv]⟩
    | 1, hv => simp at hv; exact ⟨t', by simp [hv]⟩
    | n + 2, hv => simp at hv
  · have hold : ∀ c o, s.heap.get? c = some o → h'.get? c = some o := fun c o e => by
      refine hk c o (fun hm => ?_) (Heap.get?_push_of_some _ (Heap.get?_push_of_some _ e))
      rcases List.mem_cons.mp hm with e1 | hm
      · have := Heap.lt_size e; rw [e1, hsz] at this; exact Nat.lt_irrefl _ (Nat.lt_of_succ_lt this)
      · cases hm
    refine ⟨.str (minS x y), H, I.kept hold, ?_, q⟩
    have hsz2 : (#[Value.str x t, Value.str y t'] : Array Value).size - 1 = 1 := by simp
    rw [hsz2] at hP
    unfold minS
    by_cases hba : y.cps.toList < x.cps.toList
    · have e : argBest (fun i j => decide ((if i = 0 then x else y).cps.toList < (if j = 0 then x else y).cps.toList)) 1 = 1 := by simp [argBest, hba]
      rw [e] at hP
      rw [if_pos hba]
      have : v = .str y t' := by simpa using hP.symm
      exact ⟨t', this⟩
    · have e : argBest (fun i j => decide ((if i = 0 then x else y).cps.toList < (if j = 0 then x else y).cps.toList)) 1 = 0 := by simp [argBest, hba]
      rw [e] at hP
      rw [if_neg hba]
      have : v = .str x t := by simpa using hP.symm
      exact ⟨t, this⟩
/-- min of a text of two signs -/
noncomputable def rMinT : List V → Hp → VK → Prop := fun xs H Q => ∃ a b : Nat, xs = [.str ⟨#[a, b]⟩] ∧ Q (.str (minS (sg a) (sg b))) H
theorem call_minT (hc : X.calm = true) : CallR X (.builtin "min") rMinT := by
  intro pins s σ H xs us Q I r h
  obtain ⟨a, b, rfl, q⟩ := h
  obtain ⟨u, rfl, t, rfl⟩ := vals1 r
  refine call_min_walk (wpAny_pyIter_str fun o St W st => ?_)
  have hsz : (s.heap.push o).objs.size = s.heap.objs.size + 1 := Heap.size_push ..
  refine ⟨_, _, _, _, _, _, _, rfl, W X.A.in1 (I.ok.hd hc), st, fun c hcm => ?_, by simp, cmp_strs (fun i => if i = 0 then sg a else sg b) (fun i v hv => ?_), fun v h' tk hP hk => ?_⟩
  · rcases List.mem_cons.mp hcm with rfl | hcm
    · show s.heap.objs.size < (s.heap.push o).objs.size
      rw [hsz]; exact Nat.lt_succ_self _
    · cases hcm
  · obtain ⟨c, u, h1, h2⟩ := hv
    match i, h1 with
    | 0, h1 => simp at h1; exact ⟨u, by rw [h2, ← h1]; rfl⟩
    | 1, h1 => simp at h1; exact ⟨u, by rw [h2, ← h1]; rfl⟩
    | n + 2, h1 => simp at h1
  · have hold : ∀ c o, s.heap.get? c = some o → h'.get? c = some o := fun c o e => by
      refine hk c o (fun hm => ?_) (Heap.get?_push_of_some _ e)
      rcases List.mem_cons.mp hm with e1 | hm
      · have := Heap.lt_size e; rw [e1] at this; exact Nat.lt_irrefl _ this
      · cases hm
    refine ⟨.str (minS (sg a) (sg b)), H, I.kept hold, ?_, q⟩
    have hsz2 : (⟨#[a, b]⟩ : Str).cps.size - 1 = 1 := by simp
    rw [hsz2] at hP
    unfold minS
    by_cases hba : (sg b).cps.toList < (sg a).cps.toList
    · have e : argBest (fun i j => decide ((if i = 0 then sg a else sg b).cps.toList < (if j = 0 then sg a else sg b).cps.toList)) 1 = 1 := by simp [argBest, hba]
      rw [e] at hP
      rw [if_pos hba]
      obtain ⟨c, u, h1, h2⟩ := hP
      simp at h1
      exact ⟨u, by rw [h2, ← h1]; rfl⟩
    · have e : argBest (fun i j => decide ((if i = 0 then sg a else sg b).cps.toList < (if j = 0 then sg a else sg b).cps.toList)) 1 = 0 := by simp [argBest, hba]
      rw [e] at hP
      rw [if_neg hba]
      obtain ⟨c, u, h1, h2⟩ := hP
      simp at h1
      exact ⟨u, by rw [h2, ← h1]; rfl⟩
noncomputable def rListT : List V → Hp → VK → Prop := fun xs H Q => ∃ z : Str, xs = [.str z] ∧ z.cps.size ≤ sizeLine ∧ ∀ l, H l = none → Q (.ref l) (upd H l (.lst (z.cps.toList.map fun c => V.str (sg c))))
theorem call_list_T (hc : X.calm = true) : CallR X (.type "list") rListT := by
  intro pins s σ H xs us Q I r h
  obtain ⟨z, rfl, hz, q⟩ := h
  obtain ⟨u, rfl, t, rfl⟩ := vals1 r
  refine call_list_str (I.ok.hd hc) z t (fun h' tk acc' c' hk hS hacc => ?_) hz
  refine ⟨.ref s.heap.objs.size, _, I.laid hk (Nat.le_refl _) (show ObjOk X.prog X.w _ h' _ (.lst (z.cps.toList.map fun c => V.str (sg c))) from ⟨?_, acc'.toList, c', ?_, ?_⟩), rfl, q _ (I.hok.fresh (Nat.le_refl _))⟩
  · rw [List.length_map, Array.length_toList]; exact hz
  · have el : acc'.toList.length = acc'.size := by simp
    refine vals_of_at (by rw [List.length_map, Array.length_toList, el, hacc.1]) fun j x w h1 h2 => ?_
    obtain ⟨c, u, h3, h4⟩ := hacc.2 j w (by rw [← Array.getElem?_toList]; exact h2)
    rw [List.getElem?_map, Array.getElem?_toList, h3] at h1
    cases h1
    exact ⟨u, h4⟩
  · rw [Array.toArray_toList]; exact hS
noncomputable def rListS' (K : Frg) : List V → Hp → VK → Prop := fun xs H Q => ∃ p ys, xs = [.ref p] ∧ (SqL K H p ys ∨ SqT K H p ys) ∧ ∀ l, H l = none → Q (.ref l) (upd H l (.lst ys))
noncomputable def rLIST (K : Frg) : List V → Hp → VK → Prop := fun xs H Q => rListS' K xs H Q ∨ rListT xs H Q
theorem cor {f : Value} {r r' : List V → Hp → VK → Prop} (h : CallR X f r) (h' : CallR X f r') : CallR X f fun xs H Q => r xs H Q ∨ r' xs H Q := by
  intro pins s σ H xs us Q I rs q
  rcases q with q | q
  · exact h pins s σ H xs us Q I rs q
  · exact h' pins s σ H xs us Q I rs q
theorem call_LIST (hc : X.calm = true) : CallR X (.type "list") (rLIST X.K) := cor call_list_of (call_list_T hc)
noncomputable def rMinI : List V → Hp → VK → Prop := fun xs H Q => ∃ i j, xs = [.int i, .int j] ∧ Q (.int (if j < i then j else i)) H
noncomputable def rMIN : List V → Hp → VK → Prop := fun xs H Q => rMinI xs H Q ∨ (rMinS xs H Q ∨ rMinT xs H Q)
theorem call_MIN (hc : X.calm = true) : CallR X (.builtin "min") rMIN := cor (call_min2 hc) (cor (call_minS hc) (call_minT hc))
noncomputable def rMaxI : List V → Hp → VK → Prop := fun xs H Q => ∃ i j, xs = [.int i, .int j] ∧ Q (.int (if j > i then j else i)) H
theorem call_MAX2 (hc : X.calm = true) : CallR X (.builtin "max") rMaxI := call_max2 hc
noncomputable def rABS : List V → Hp → VK → Prop := fun xs H Q => ∃ i, xs = [.int i] ∧ Q (.int (if i < 0 then -i else i)) H
theorem call_ABS : CallR X (.builtin "abs") rABS := call_abs
noncomputable def rTUPLE (K : Frg) : List V → Hp → VK → Prop := fun xs H Q => ∃ p ys, xs = [.ref p] ∧ ((SqL K H p ys ∧ ∀ l, H l = none → Q (.ref l) (upd H l (.tup ys))) ∨ (SqT K H p ys ∧ Q (.ref p) H))
theorem call_TUPLE : CallR X (.type "tuple") (rTUPLE X.K) := call_tuple_of
noncomputable def rSTRI : List V → Hp → VK → Prop := fun xs H Q => ∃ i, xs = [.int i] ∧ i.natAbs.log2 < 1920 ∧ Q (.str (toString i)) H
noncomputable def rINT : List V → Hp → VK → Prop := fun xs H Q => ((∃ i, xs = [.int i] ∧ Q (.int i) H) ∨ ∃ k, xs = [.bl k] ∧ Q (.int (if k then 1 else 0)) H) ∨ ∃ a n, xs = [.str a] ∧ PySem.intText? a = some n ∧ a.length ≤ 640 ∧ Q (.int n) H
theorem call_INT : CallR X (.type "int") rINT := cor call_int1 call_int_str
end
section
variable {Γ : Cg} {K : Frg} {F : Hp} {ms : Ms} {S : Sg} {Q : QE} {ta tb te tx : TE} {t u tt : TT} {r : R2} {ts tu tw : TS} {A : AEnds}
theorem rep_l {d : D} {a : Addr} {H : Hp} {ds : List D} (hd : d = .lst ds ∨ d = .rdl ds) {v : V} (r : Rep K F d v) (e : Ex F H) : ∃ p ys, v = .ref p ∧ SqL K H p ys ∧ RepL K F ds ys := by
  rcases hd with rfl | rfl
  · cases r with
    | lst h r => exact ⟨_, _, rfl, SqL.of (e _ _ h), r⟩
  · cases r with
    | rdl h r => exact ⟨_, _, rfl, ex_l e h, r⟩
theorem ac2 {rc : List V → Hp → VK → Prop} {d d2 : D} (h : ∀ (R : Ms) v v2 H (Qc : VK), Rep K F d v → Rep K F d2 v2 → Hold K F (ms ++ R) H → (∀ F' ms' d v H', Ex F F' → Hold K F' (ms' ++ R) H' → Rep K F' d v → Q F' ms' d → Qc v H') → rc [v, v2] H Qc) : AC K rc [d, d2] F ms Q := fun R vs H Qc hv hh k => by
  cases hv with
  | cons h1 h2 =>
    cases h2 with
    | cons h2 h3 =>
      cases h3
      exact h R _ _ H Qc h1 h2 hh k
theorem AC.or1 {rc rc' : List V → Hp → VK → Prop} {ds : List D} (h : AC K rc ds F ms Q) : AC K (fun xs H Q => rc xs H Q ∨ rc' xs H Q) ds F ms Q := fun R vs H Qc hv hh k => .inl (h R vs H Qc hv hh k)
theorem AC.or2 {rc rc' : List V → Hp → VK → Prop} {ds : List D} (h : AC K rc' ds F ms Q) : AC K (fun xs H Q => rc xs H Q ∨ rc' xs H Q) ds F ms Q := fun R vs H Qc hv hh k => .inr (h R vs H Qc hv hh k)
theorem ac_abs {i : Int} (q : Q F ms (.int (if i < 0 then -i else i))) : AC K rABS [.int i] F ms Q := ac1 fun R v H Qc hv hh k => by
  cases hv
  exact ⟨i, rfl, k F ms _ _ H Ex.refl hh (.int _) q⟩
theorem ac_listO {d : D} {ds : List D} (hd : (d = .lst ds ∨ d = .rdl ds) ∨ d = .tup ds) (q : ∀ l, Q F ((l, .lst ds) :: ms) (.ref l)) : AC K (rLIST K) [d] F ms Q := AC.or1 (ac1 fun R v H Qc hv hh k => by
  have : ∃ p ys, v = .ref p ∧ (SqL K H p ys ∨ SqT K H p ys) ∧ RepL K F ds ys := by
    rcases hd with hd | rfl
    · obtain ⟨p, ys, h1, h2, h3⟩ := rep_l (a := 0) hd hv hh.ex
      exact ⟨p, ys, h1, .inl h2, h3⟩
    · cases hv with
      | tup h r => exact ⟨_, _, rfl, .inr (ex_t hh.ex h), r⟩
  obtain ⟨p, ys, rfl, h2, h3⟩ := this
  refine ⟨p, ys, rfl, h2, fun l hl => ?_⟩
  exact k F ((l, .lst ds) :: ms) (.ref l) _ _ Ex.refl (hh.made (m := .lst ds) hl ⟨ys, upd_same, h3⟩) (.ref l) (q l))
theorem repL_chars (z : Str) : RepL K F (charsD z) (z.cps.toList.map fun c => V.str (sg c)) := by
  unfold charsD
  induction z.cps.toList with
  | nil => exact .nil
  | cons c r ih => exact .cons (.str _) ih
theorem ac_listT {z : Str} (hz : z.length ≤ 100000) (q : ∀ F', Ex F F' → Q F' ms (.lst (charsD z))) : AC K (rLIST K) [.str z] F ms Q := AC.or2 (ac1 fun R v H Qc hv hh k => by
  cases hv
  refine ⟨z, rfl, Evl.sz_of hz, fun l hl => ?_⟩
  obtain ⟨e, hh'⟩ := hh.laid (.lst (z.cps.toList.map fun c => V.str (sg c))) hl
  exact k _ ms (.lst (charsD z)) _ _ e hh' (.lst upd_same (repL_chars z)) (q _ e))
theorem ac_tupleL {d : D} {ds : List D} (hd : d = .lst ds ∨ d = .rdl ds) (q : ∀ F', Ex F F' → Q F' ms (.tup ds)) : AC K (rTUPLE K) [d] F ms Q := ac1 fun R v H Qc hv hh k => by
  obtain ⟨p, ys, rfl, h2, h3⟩ := rep_l (a := 0) hd hv hh.ex
  refine ⟨p, ys, rfl, .inl ⟨h2, fun l hl => ?_⟩⟩
  obtain ⟨e, hh'⟩ := hh.laid (.tup ys) hl
  exact k _ ms (.tup ds) _ _ e hh' (.tup (SqT.of upd_same) (h3.mono e)) (q _ e)
theorem ac_minI {i j : Int} (q : Q F ms (.int (if j < i then j else i))) : AC K rMIN [.int i, .int j] F ms Q := AC.or1 (ac2 fun R v v2 H Qc hv hv2 hh k => by
  cases hv; cases hv2
  exact ⟨i, j, rfl, k F ms _ _ H Ex.refl hh (.int _) q⟩)
theorem ac_minS {i j : Str} (q : Q F ms (.str (minS i j))) : AC K rMIN [.str i, .str j] F ms Q := AC.or2 (AC.or1 (ac2 fun R v v2 H Qc hv hv2 hh k => by
  cases hv; cases hv2
  exact ⟨i, j, rfl, k F ms _ _ H Ex.refl hh (.str _) q⟩))
theorem ac_maxI {i j : Int} (q : Q F ms (.int (if j > i then j else i))) : AC K rMaxI [.int i, .int j] F ms Q := ac2 fun R v v2 H Qc hv hv2 hh k => by
  cases hv; cases hv2
  exact ⟨i, j, rfl, k F ms _ _ H Ex.refl hh (.int _) q⟩
theorem ac_intB {b : Bool} (q : Q F ms (.int (if b then 1 else 0))) : AC K rINT [.bl b] F ms Q := AC.or1 (AC.or2 (ac1 fun R v H Qc hv hh k => by
  cases hv
  exact ⟨b, rfl, k F ms _ _ H Ex.refl hh (.int _) q⟩))
/-! ### isinstance -/
noncomputable def kindD : D → String
  | .non => "NoneType" | .bl _ => "bool" | .int _ => "int" | .str _ => "str" | .tup _ => "tuple" | .lst _ => "list" | .rdl _ => "list" | .dic _ => "dict" | .ref _ => "" | .ty _ => ""
theorem ty_of {d : D} {v : V} {H : Hp} (r : Rep K F d v) (e : Ex F H) (hd : kindD d ≠ "") (hr : ∀ ds, d ≠ .rdl ds) : TyX K H v (.type (kindD d)) := by
  cases r with
  | non => exact .base .non
  | bl b => exact .base (.bl b)
  | int i => exact .base (.int i)
  | str x => exact .base (.str x)
  | ref a => exact absurd rfl hd
  | ty n => exact absurd rfl hd
  | tup h r =>
    rcases ex_t e h with (h | ⟨o, h⟩) | ⟨o, _, _, h, hc, _⟩
    · exact .base (.tup h)
    · exact .fTuple h
    · exact .kTuple h hc
  | lst h r => exact .base (.lst (e _ _ h))
  | rdl h r => exact absurd rfl (hr _)
  | dic h r => exact .base (.dK (e _ _ h))
theorem ac_isi {d : D} {n : String} (hd : kindD d ≠ "" := by decide) (hr : ∀ ds, d ≠ .rdl ds := by (intro ds h; cases h)) {b : Bool} (hk : kitB (kindD d) n = some b) (q : Q F ms (.bl b)) : AC K (rIsi K) [d, .ty n] F ms Q := ac2 fun R v v2 H Qc hv hv2 hh k => by
  cases hv2
  exact ⟨v, .ty n, _, _, b, rfl, .ty n, ty_of hv hh.ex hd hr, kit_ty hk, k F ms _ _ H Ex.refl hh (.bl _) q⟩
end
end AL

set_option Elab.async false
set_option linter.all false
set_option maxRecDepth 100000
set_option maxHeartbeats 4000000
namespace AL
open PySem L2
/-! ### plain data, == -/
mutual
noncomputable def toPy : D → PyData
  | .non => .none
  | .bl b => .bool b
  | .int i => .int i
  | .str x => .str x
  | .tup ds => .tuple (toPyL ds)
  | .lst ds => .list (toPyL ds)
  | .rdl ds => .list (toPyL ds)
  | .ref _ => .none
  | .ty _ => .none
  | .dic _ => .none
noncomputable def toPyL : List D → List PyData
  | [] => []
  | d :: ds => toPy d :: toPyL ds
end
mutual
/-- no objects in it, its texts of plain signs -/
noncomputable def okD : D → Bool
  | .non => true
  | .bl _ => true
  | .int _ => true
  | .str x => PyData.strOk x
  | .tup ds => okL ds
  | .lst ds => okL ds
  | .rdl ds => okL ds
  | .ref _ => false
  | .ty _ => false
  | .dic _ => false
noncomputable def okL : List D → Bool
  | [] => true
  | d :: ds => okD d && okL ds
end
mutual
noncomputable def dep : D → Nat
  | .tup ds => depL ds + 1
  | .lst ds => depL ds + 1
  | .rdl ds => depL ds + 1
  | .non => 0
  | .bl _ => 0
  | .int _ => 0
  | .str _ => 0
  | .ref _ => 0
  | .ty _ => 0
  | .dic _ => 0
noncomputable def depL : List D → Nat
  | [] => 0
  | d :: ds => max (dep d) (depL ds)
end
noncomputable def eqvD (d e : D) : Bool := PyData.eqv (toPy d) (toPy e)
mutual
theorem lay_ok : ∀ d : D, okD d = true → (toPy d).canLay0 = true
  | .non, _ => rfl
  | .bl _, _ => rfl
  | .int _, _ => rfl
  | .str x, h => by
    unfold okD at h
    unfold toPy PyData.canLay0
    exact h
  | .tup ds, h => by
    unfold okD at h
    unfold toPy PyData.canLay0
    exact layL_ok ds h
  | .lst ds, h => by
    unfold okD at h
    unfold toPy PyData.canLay0
    exact layL_ok ds h
  | .rdl ds, h => by
    unfold okD at h
    unfold toPy PyData.canLay0
    exact layL_ok ds h
  | .ref _, h => by unfold okD at h; cases h
  | .ty _, h => by unfold okD at h; cases h
  | .dic _, h => by unfold okD at h; cases h
theorem layL_ok : ∀ ds : List D, okL ds = true → PyData.canLayAll0 (toPyL ds) = true
  | [], _ => rfl
  | d :: ds, h => by
    unfold okL at h
    rw [Bool.and_eq_true] at h
    unfold toPyL PyData.canLayAll0
    rw [lay_ok d h.1, layL_ok ds h.2]
    rfl
end
mutual
theorem dep_ok : ∀ d : D, (toPy d).depth = dep d
  | .non => rfl
  | .bl _ => rfl
  | .int _ => rfl
  | .str x => rfl
  | .tup ds => by unfold toPy PyData.depth dep; rw [depL_ok ds]
  | .lst ds => by unfold toPy PyData.depth dep; rw [depL_ok ds]
  | .rdl ds => by unfold toPy PyData.depth dep; rw [depL_ok ds]
  | .ref _ => rfl
  | .ty _ => rfl
  | .dic _ => rfl
theorem depL_ok : ∀ ds : List D, PyData.depthAll (toPyL ds) = depL ds
  | [] => rfl
  | d :: ds => by unfold toPyL PyData.depthAll depL; rw [dep_ok d, depL_ok ds]
end
theorem shaped_ok {d : D} (h : okD d = true) (h2 : dep d ≤ 64) : SeqAt.shaped (toPy d) = true := by
  unfold SeqAt.shaped
  rw [lay_ok d h, dep_ok d, decide_eq_true h2]
  rfl
section
variable {K : Frg} {F H : Hp}
mutual
theorem dp_of (e : Ex F H) : ∀ {d : D} {v : V}, okD d = true → Rep K F d v → Dp K H v (toPy d)
  | _, _, _, .non => by unfold toPy; exact .non
  | _, _, _, .bl b => by unfold toPy; exact .bl b
  | _, _, _, .int i => by unfold toPy; exact .int i
  | _, _, _, .str x => by unfold toPy; exact .str x
  | .ref _, _, h, _ => by unfold okD at h; cases h
  | .ty _, _, h, _ => by unfold okD at h; cases h
  | _, _, h, .tup q r => by unfold okD at h; unfold toPy; exact .tup (ex_t e q) (dpL_of e h r)
  | _, _, h, .lst q r => by unfold okD at h; unfold toPy; exact .lst (SqL.of (e _ _ q)) (dpL_of e h r)
  | _, _, h, .rdl q r => by unfold okD at h; unfold toPy; exact .lst (ex_l e q) (dpL_of e h r)
  | .dic _, _, h, _ => by unfold okD at h; cases h
theorem dpL_of (e : Ex F H) : ∀ {ds : List D} {vs : List V}, okL ds = true → RepL K F ds vs → DpAll K H vs (toPyL ds)
  | _, _, _, .nil => by unfold toPyL; exact .nil
  | _, _, h, .cons q r => by
    unfold okL at h
    rw [Bool.and_eq_true] at h
    unfold toPyL
    exact .cons (dp_of e h.1 q) (dpL_of e h.2 r)
end
end
theorem eqv_self : ∀ d : D, okD d = true → eqvD d d = true := fun d h => by
  unfold eqvD
  exact SeqAt.eqv_refl _ (lay_ok d h)
/-- ==, != -/
noncomputable def rEQ (K : Frg) : R2 := fun x y H Q => rEq x y H Q ∨ rEqD K x y H Q
noncomputable def rNE (K : Frg) : R2 := fun x y H Q => rNe x y H Q ∨ rNeD K x y H Q
theorem op_EQ {X : Cx} (hu : X.A.units + 64 < cLine) : OpR X (compareOp .Eq) (rEQ X.K) := op_eq.or (op_eqD hu)
theorem op_NE {X : Cx} (hu : X.A.units + 64 < cLine) : OpR X (compareOp .NotEq) (rNE X.K) := op_ne.or (op_neD hu)
section
variable {Γ : Cg} {K : Frg} {F : Hp} {ms : Ms} {S : Sg} {Q : QE} {ta tb te tx : TE} {t u tt : TT} {r : R2} {ts tu tw : TS} {A : AEnds}
theorem ar_EQi {i j : Int} (q : Q F ms (.bl (decide (i = j)))) : AR K (rEQ K) (.int i) (.int j) F ms Q := ar_inl (ar_eqI q)
theorem ar_EQs {i j : Str} (q : Q F ms (.bl (decide (i = j)))) : AR K (rEQ K) (.str i) (.str j) F ms Q := ar_inl (ar_eqS q)
theorem ar_NEi {i j : Int} (q : Q F ms (.bl (!decide (i = j)))) : AR K (rNE K) (.int i) (.int j) F ms Q := ar_inl (ar_neI q)
theorem ar_NEs {i j : Str} (q : Q F ms (.bl (!decide (i = j)))) : AR K (rNE K) (.str i) (.str j) F ms Q := ar_inl (ar_neS q)
theorem ar_EQd {d e : D} (h1 : okD d = true) (h2 : okD e = true) (h3 : dep d ≤ 64) (h4 : dep e ≤ 64) (q : Q F ms (.bl (eqvD d e))) : AR K (rEQ K) d e F ms Q := ar_inr fun R u v H Qc hu hv hh k =>
  ⟨toPy d, toPy e, dp_of hh.ex h1 hu, dp_of hh.ex h2 hv, shaped_ok h1 h3, shaped_ok h2 h4, k F ms _ _ H Ex.refl hh (.bl _) q⟩
theorem ar_NEd {d e : D} (h1 : okD d = true) (h2 : okD e = true) (h3 : dep d ≤ 64) (h4 : dep e ≤ 64) (q : Q F ms (.bl (!eqvD d e))) : AR K (rNE K) d e F ms Q := ar_inr fun R u v H Qc hu hv hh k =>
  ⟨toPy d, toPy e, dp_of hh.ex h1 hu, dp_of hh.ex h2 hv, shaped_ok h1 h3, shaped_ok h2 h4, k F ms _ _ H Ex.refl hh (.bl _) q⟩
/-- an owned list of plain data, compared -/
theorem ar_EQo {l : Addr} {ds : List D} {e : D} (n : Nat) (hn : ms[n]? = some (l, .lst ds)) (h1 : okL ds = true) (h2 : okD e = true) (h3 : depL ds < 64) (h4 : dep e ≤ 64) (q : Q F ms (.bl (eqvD (.lst ds) e))) : AR K (rEQ K) (.ref l) e F ms Q := ar_inr fun R u v H Qc hu hv hh k => by
  cases hu
  obtain ⟨_, vs, hl, r⟩ := hh.at (get_app hn)
  have hd : okD (.lst ds) = true := by unfold okD; exact h1
  have hd2 : dep (.lst ds) ≤ 64 := by unfold dep; omega
  exact ⟨toPy (.lst ds), toPy e, by unfold toPy; exact .lst (SqL.of hl) (dpL_of hh.ex h1 r), dp_of hh.ex h2 hv, shaped_ok hd hd2, shaped_ok h2 h4, k F ms _ _ H Ex.refl hh (.bl _) q⟩
theorem ar_NEo {l : Addr} {ds : List D} {e : D} (n : Nat) (hn : ms[n]? = some (l, .lst ds)) (h1 : okL ds = true) (h2 : okD e = true) (h3 : depL ds < 64) (h4 : dep e ≤ 64) (q : Q F ms (.bl (!eqvD (.lst ds) e))) : AR K (rNE K) (.ref l) e F ms Q := ar_inr fun R u v H Qc hu hv hh k => by
  cases hu
  obtain ⟨_, vs, hl, r⟩ := hh.at (get_app hn)
  have hd : okD (.lst ds) = true := by unfold okD; exact h1
  have hd2 : dep (.lst ds) ≤ 64 := by unfold dep; omega
  exact ⟨toPy (.lst ds), toPy e, by unfold toPy; exact .lst (SqL.of hl) (dpL_of hh.ex h1 r), dp_of hh.ex h2 hv, shaped_ok hd hd2, shaped_ok h2 h4, k F ms _ _ H Ex.refl hh (.bl _) q⟩
/-! ### is -/
noncomputable def rISN : R2 := fun x y H Q => y = .non ∧ Q (.bl (decide (x = .non))) H
noncomputable def rNOTN : R2 := fun x y H Q => y = .non ∧ Q (.bl (!decide (x = .non))) H
theorem op_ISN {X : Cx} : OpR X (compareOp .Is) rISN := op_isN
noncomputable def isN : D → Bool
  | .non => true
  | _ => false
theorem isN_v {d : D} {v : V} (r : Rep K F d v) : decide (v = .non) = isN d := by
  cases r <;> first | rfl | exact decide_eq_false (fun h => by cases h)
theorem ar_isN {d : D} (q : Q F ms (.bl (isN d))) : AR K rISN d .non F ms Q := fun R u v H Qc hu hv hh k => by
  cases hv
  refine ⟨rfl, ?_⟩
  rw [isN_v hu]
  exact k F ms _ _ H Ex.refl hh (.bl _) q
/-! ### in -/
noncomputable def rInS1 : R2 := fun x y H Q => ∃ (c : Nat) (z : Str), x = .str ⟨#[c]⟩ ∧ y = .str z ∧ Q (.bl (decide (c ∈ z.cps.toList))) H
noncomputable def rNotInS1 : R2 := fun x y H Q => ∃ (c : Nat) (z : Str), x = .str ⟨#[c]⟩ ∧ y = .str z ∧ Q (.bl (!decide (c ∈ z.cps.toList))) H
noncomputable def rIN (K : Frg) : R2 := fun x y H Q => rInS1 x y H Q ∨ rIn K false x y H Q
noncomputable def rNOTIN (K : Frg) : R2 := fun x y H Q => rNotInS1 x y H Q ∨ rIn K true x y H Q
theorem op_INN {X : Cx} : OpR X (compareOp .In) (rIN X.K) := op_in_sign.or op_in_seq
theorem ar_INs {c : Nat} {z : Str} (q : Q F ms (.bl (decide (c ∈ z.cps.toList)))) : AR K (rIN K) (.str (sg c)) (.str z) F ms Q := ar_inl fun R u v H Qc hu hv hh k => by
  cases hu; cases hv
  exact ⟨c, z, rfl, rfl, k F ms _ _ H Ex.refl hh (.bl _) q⟩
end
end AL

set_option Elab.async false
set_option linter.all false
set_option maxRecDepth 100000
set_option maxHeartbeats 4000000
namespace AL
open PySem L2
noncomputable def keyD : D → Option Key
  | .int i => some (.inl i)
  | .str x => some (.inr x)
  | _ => none
theorem key_rep {K : Frg} {F : Hp} {d : D} {v : V} {k : Key} (r : Rep K F d v) (h : keyD d = some k) : v = kV k := by
  cases r <;> first | (unfold keyD at h; cases h; done) | (unfold keyD at h; cases h; rfl)
noncomputable def valD (kvs : List (Key × D)) (k : Key) : Option D := (kvs.find? fun kv => decide (kv.1 = k)).map (·.2)
noncomputable def putKD (kvs : List (Key × D)) (k : Key) (d : D) : List (Key × D) := if kvs.any (fun kv => decide (kv.1 = k)) then kvs.map (fun kv => if kv.1 = k then (kv.1, d) else kv) else kvs ++ [(k, d)]
section
variable {K : Frg} {F : Hp}
theorem RepK.val : ∀ {ds : List (Key × D)} {vs : List (Key × V)} (k : Key), RepK K F ds vs → (valD ds k = none ∧ valV vs k = none) ∨ ∃ d v, valD ds k = some d ∧ valV vs k = some v ∧ Rep K F d v
  | _, _, k, .nil => .inl ⟨rfl, rfl⟩
  | _, _, k, .cons (k := k') (d := d) (v := v) h r => by
    by_cases e : k' = k
    · refine .inr ⟨d, v, ?_, ?_, h⟩
      · unfold valD; rw [List.find?_cons]; simp [e]
      · exact valV_pos e
    · rcases RepK.val k r with ⟨a, b⟩ | ⟨d', v', a, b, c⟩
      · refine .inl ⟨?_, by rw [valV_neg e]; exact b⟩
        unfold valD at a ⊢; rw [List.find?_cons]; simp only [decide_eq_false e]; exact a
      · refine .inr ⟨d', v', ?_, by rw [valV_neg e]; exact b, c⟩
        unfold valD at a ⊢; rw [List.find?_cons]; simp only [decide_eq_false e]; exact a
theorem RepK.any : ∀ {ds : List (Key × D)} {vs : List (Key × V)} (k : Key), RepK K F ds vs → (ds.any fun kv => decide (kv.1 = k)) = (vs.any fun kv => decide (kv.1 = k))
  | _, _, k, .nil => rfl
  | _, _, k, .cons h r => by rw [List.any_cons, List.any_cons, RepK.any k r]
theorem RepK.repl {d : D} {v : V} (h0 : Rep K F d v) (k : Key) : ∀ {ds : List (Key × D)} {vs : List (Key × V)}, RepK K F ds vs → RepK K F (ds.map fun kv => if kv.1 = k then (kv.1, d) else kv) (vs.map fun kv => if kv.1 = k then (kv.1, v) else kv)
  | _, _, .nil => .nil
  | _, _, .cons (k := k') h r => by
    rw [List.map_cons, List.map_cons]
    by_cases e : k' = k
    · rw [if_pos e, if_pos e]; exact .cons h0 (RepK.repl h0 k r)
    · rw [if_neg e, if_neg e]; exact .cons h (RepK.repl h0 k r)
theorem RepK.put {d : D} {v : V} (h0 : Rep K F d v) (k : Key) {ds : List (Key × D)} {vs : List (Key × V)} (r : RepK K F ds vs) : RepK K F (putKD ds k d) (putK vs k v) := by
  unfold putKD putK
  rw [r.any k]
  split
  · exact r.repl h0 k
  · exact r.append (.cons h0 .nil)
end
noncomputable def cutL {α : Type} (xs : List α) (lo hi : Option Int) : List α := (xs.drop (HT.sIx xs.length 0 lo)).take (HT.sIx xs.length xs.length hi - HT.sIx xs.length 0 lo)
section
variable {Γ : Cg} {K : Frg} {F : Hp} {ms : Ms} {S : Sg} {Q : QE} {ta tb te tx : TE} {t u tt : TT} {r : R2} {ts tu tw : TS} {A : AEnds}
/-- x is a dict of these pairs: frozen or owned -/
noncomputable def DicA (K : Frg) (F : Hp) (ms : Ms) (x : D) (kvs : List (Key × D)) : Prop := x = .dic kvs ∨ ∃ (n : Nat) (l : Addr), x = .ref l ∧ ms[n]? = some (l, MO.dic kvs)
theorem DicA.to {x : D} {kvs : List (Key × D)} {R : Ms} {H : Hp} {v : V} (i : DicA K F ms x kvs) (hh : Hold K F (ms ++ R) H) (r : Rep K F x v) : ∃ a vs, v = .ref a ∧ H a = some (.dK vs) ∧ RepK K F kvs vs := by
  rcases i with rfl | ⟨n, l, rfl, hn⟩
  · cases r with
    | dic h q => exact ⟨_, _, rfl, hh.ex _ _ h, q⟩
  · cases r
    obtain ⟨_, vs, h, q⟩ := hh.at (get_app hn)
    exact ⟨l, vs, rfl, h, q⟩
theorem ae_din {td ty : TE} (h : AE Γ ty F ms S fun F1 ms1 y => AE Γ td F1 ms1 S fun F2 ms2 x => ∃ k kvs, keyD y = some k ∧ DicA Γ.K F2 ms2 x kvs ∧ Q F2 ms2 (.bl (valD kvs k).isSome)) : AE Γ (tDIn ty td) F ms S Q := fun R σ H Qc hs hh x k =>
  h R σ H _ hs hh x fun F1 ms1 y vy H1 e1 h1 r1 q1 => q1 R σ H1 _ (hs.mono e1) h1 (x.ex e1) fun F2 ms2 d1 v1 H2 e2 h2 r2 ⟨key, kvs, hk, hd, q⟩ => by
    obtain ⟨a, vs, rfl, ha, rk⟩ := hd.to h2 r2
    have ey := key_rep (r1.mono e2) hk
    subst ey
    refine ⟨a, _, rfl, DGet.k ha, k F2 ms2 _ _ H2 (e1.trans e2) h2 ?_ q⟩
    rcases rk.val key with ⟨z1, z2⟩ | ⟨d', v', z1, z2, _⟩
    · rw [z1, z2]; exact .bl false
    · rw [z1, z2]; exact .bl true
theorem ae_dget2 {td ty : TE} (h : AE Γ td F ms S fun F1 ms1 x => ∃ kvs, DicA Γ.K F1 ms1 x kvs ∧ AE Γ ty F1 ms1 S fun F2 ms2 y => AE Γ tx F2 ms2 S fun F3 ms3 z => ∃ k, keyD y = some k ∧ DicA Γ.K F3 ms3 x kvs ∧ Q F3 ms3 ((valD kvs k).getD z)) : AE Γ (tDGet2 td ty tx) F ms S Q := fun R σ H Qc hs hh x k =>
  h R σ H _ hs hh x fun F1 ms1 d1 v1 H1 e1 h1 r1 ⟨kvs, hd0, q1⟩ => by
    obtain ⟨a, vs, rfl, ha, rk⟩ := hd0.to h1 r1
    refine ⟨a, rfl, .inl ⟨vs, .inl ha⟩, q1 R σ H1 _ (hs.mono e1) h1 (x.ex e1) fun F2 ms2 y vy H2 e2 h2 r2 q2 => q2 R σ H2 _ (hs.mono (e1.trans e2)) h2 (x.ex (e1.trans e2)) fun F3 ms3 z vz H3 e3 h3 r3 ⟨key, hk, hd, q⟩ => ?_⟩
    obtain ⟨a', vs', ea, ha', rk'⟩ := hd.to h3 (r1.mono (e2.trans e3))
    cases ea
    have ey := key_rep (r2.mono e3) hk
    subst ey
    refine ⟨_, DGet.k ha', k F3 ms3 _ _ H3 ((e1.trans e2).trans e3) h3 ?_ q⟩
    rcases rk'.val key with ⟨z1, z2⟩ | ⟨d', v', z1, z2, z3⟩
    · rw [z1, z2]; exact r3
    · rw [z1, z2]; exact z3
theorem as_dput {td ty tv : TE} (h : AE Γ tv F ms S fun F1 ms1 v => AE Γ td F1 ms1 S fun F2 ms2 x => AE Γ ty F2 ms2 S fun F3 ms3 y => ∃ (n : Nat) (l : Addr) (kvs : List (Key × D)) (k : Key), x = .ref l ∧ ms3[n]? = some (l, .dic kvs) ∧ keyD y = some k ∧ kvs.length < 100000 ∧ A.nx F3 (ms3.set n (l, .dic (putKD kvs k v))) S) :
    AS Γ (sDPut td ty tv) F ms S A := fun R E σ H hs hh l =>
  h R σ H _ hs hh l.xe fun F1 ms1 v vv H1 e1 h1 r1 q1 => q1 R σ H1 _ (hs.mono e1) h1 (l.xe.ex e1) fun F2 ms2 x2 v2 H2 e2 h2 r2 q2 => q2 R σ H2 _ (hs.mono (e1.trans e2)) h2 (l.xe.ex (e1.trans e2)) fun F3 ms3 y vy H3 e3 h3 r3 ⟨n, a, kvs, key, hx, hn, hk, hz, q⟩ => by
    subst hx
    cases r2
    have ey := key_rep r3 hk
    subst ey
    obtain ⟨_, vs, ha, rk⟩ := h3.at (get_app hn)
    refine ⟨a, _, rfl, DPut.k ha (Evl.sz_lt (by rw [← rk.len]; exact hz)), l.nx F3 (ms3.set n (a, .dic (putKD kvs key v))) S σ _ ((e1.trans e2).trans e3) (hs.mono ((e1.trans e2).trans e3)) ?_ q⟩
    rw [← set_app hn]
    exact h3.set (get_app hn) ⟨_, upd_same, rk.put (r1.mono (e2.trans e3)) key⟩
/-! ### methods of built-in types -/
theorem ae_bmS {rm : V → List V → Hp → VK → Prop} {to : TE} {ta : TA} (h : AE Γ to F ms S fun F1 ms1 x => ∃ z, x = .str z ∧ AA Γ ta F1 ms1 S fun F2 ms2 ds => AM Γ.K "str" rm (.str z) ds F2 ms2 Q) : AE Γ (tBM Γ.K "str" rm to ta) F ms S Q := fun R σ H Qc hs hh x k =>
  h R σ H _ hs hh x fun F1 ms1 d1 v1 H1 e1 h1 r1 ⟨z, hz, q1⟩ => by
    subst hz
    cases r1
    exact ⟨rfl, q1 R σ H1 _ (hs.mono e1) h1 (x.ex e1) fun F2 ms2 ds vs H2 e2 h2 r2 q2 => q2 R _ vs H2 Qc (.str z) r2 h2 fun F3 ms3 d v H3 e3 h3 r3 q3 => k F3 ms3 d v H3 ((e1.trans e2).trans e3) h3 r3 q3⟩
/-- a list: frozen or owned, with its items -/
noncomputable def LstA (F : Hp) (ms : Ms) (x : D) (ds : List D) : Prop := (x = .lst ds ∨ x = .rdl ds) ∨ ∃ (n : Nat) (l : Addr), x = .ref l ∧ ms[n]? = some (l, MO.lst ds)
theorem LstA.to {x : D} {ds : List D} {R : Ms} {H : Hp} {v : V} (i : LstA F ms x ds) (hh : Hold K F (ms ++ R) H) (r : Rep K F x v) : ∃ a vs, v = .ref a ∧ SqL K H a vs ∧ RepL K F ds vs := by
  rcases i with hd | ⟨n, l, rfl, hn⟩
  · exact rep_l (a := 0) hd r hh.ex
  · cases r
    obtain ⟨_, vs, h, q⟩ := hh.at (get_app hn)
    exact ⟨l, vs, rfl, SqL.of h, q⟩
theorem ae_bmL {rm : V → List V → Hp → VK → Prop} {to : TE} {ta : TA} (h : AE Γ to F ms S fun F1 ms1 x => ∃ ds0, LstA F1 ms1 x ds0 ∧ AA Γ ta F1 ms1 S fun F2 ms2 ds => AM Γ.K "list" rm x ds F2 ms2 Q) : AE Γ (tBM Γ.K "list" rm to ta) F ms S Q := fun R σ H Qc hs hh x k =>
  h R σ H _ hs hh x fun F1 ms1 d1 v1 H1 e1 h1 r1 ⟨ds0, hl, q1⟩ => by
    obtain ⟨a, vs0, rfl, ha, _⟩ := hl.to h1 r1
    exact ⟨.inl ⟨rfl, _, ha⟩, q1 R σ H1 _ (hs.mono e1) h1 (x.ex e1) fun F2 ms2 ds vs H2 e2 h2 r2 q2 => q2 R _ vs H2 Qc (r1.mono e2) r2 h2 fun F3 ms3 d v H3 e3 h3 r3 q3 => k F3 ms3 d v H3 ((e1.trans e2).trans e3) h3 r3 q3⟩
theorem am_append {l : Addr} {xs : List D} {d : D} (n : Nat) (hn : ms[n]? = some (l, .lst xs)) (hz : xs.length < 100000) (q : Q F (ms.set n (l, .lst (xs ++ [d]))) .non) : AM K "list" rAppend (.ref l) [d] F ms Q := fun R u vs H Qc hu hv hh k => by
  cases hu
  cases hv with
  | cons h1 h2 =>
    cases h2
    obtain ⟨_, ys, hl, r⟩ := hh.at (get_app hn)
    refine ⟨l, ys, _, rfl, rfl, hl, Evl.sz_lt (by rw [← r.len]; exact hz), k F (ms.set n (l, .lst (xs ++ [d]))) .non _ _ Ex.refl ?_ .non q⟩
    rw [← set_app hn]
    exact hh.set (get_app hn) ⟨_, upd_same, r.append (RepL.one h1)⟩
theorem am_popAt {l : Addr} {xs : List D} {z : Int} {j : Nat} {d : D} (n : Nat) (hn : ms[n]? = some (l, .lst xs)) (hz : z = (j : Int)) (hx : xs.length ≤ 100000) (hj : xs[j]? = some d) (q : Q F (ms.set n (l, .lst (xs.eraseIdx j))) d) : AM K "list" rPopAt (.ref l) [.int z] F ms Q := fun R u vs H Qc hu hv hh k => by
  cases hu
  cases hv with
  | cons h1 h2 =>
    cases h2
    cases h1
    obtain ⟨_, ys, hl, r⟩ := hh.at (get_app hn)
    obtain ⟨v, hv, rv⟩ := r.getD hj
    have hlt : j < ys.length := (List.getElem?_eq_some_iff.mp hv).1
    have := r.len
    subst hz
    refine ⟨l, ys, (j : Int), j, v, rfl, rfl, hl, by omega, by omega, ?_, hv, k F (ms.set n (l, .lst (xs.eraseIdx j))) d v _ Ex.refl ?_ rv q⟩
    · unfold seqIndex?
      simp
      omega
    · rw [← set_app hn]
      exact hh.set (get_app hn) ⟨_, upd_same, r.eraseIdx j⟩
noncomputable def rJOIN (K : Frg) : V → List V → Hp → VK → Prop := fun x xs H Q => ∃ a p, ∃ ys : List Str, x = .str a ∧ xs = [.ref p] ∧ (SqL K H p (ys.map V.str) ∨ SqT K H p (ys.map V.str)) ∧ (ys.map (·.length)).sum + ys.length * a.length ≤ 16777216 ∧ Q (.str (Txt.join a ys)) H
theorem mt_JOIN {X : Cx} : MtR X "str.join" (rJOIN X.K) := mt_join
theorem strs_rep : ∀ {ys : List Str} {vs : List V}, RepL K F (ys.map D.str) vs → vs = ys.map V.str
  | [], _, .nil => rfl
  | y :: ys, _, .cons h r => by
    cases h
    rw [strs_rep r]
    rfl
theorem am_join {a : Str} {ys : List Str} {x : D} (hx : (x = .lst (ys.map D.str) ∨ x = .rdl (ys.map D.str)) ∨ x = .tup (ys.map D.str)) (hz : (ys.map (·.length)).sum + ys.length * a.length ≤ 1000000) (q : Q F ms (.str (Txt.join a ys))) : AM K "str" (rJOIN K) (.str a) [x] F ms Q := fun R u vs H Qc hu hv hh k => by
  cases hu
  cases hv with
  | @cons _ v1 _ _ h1 h2 =>
    cases h2
    suffices hs : ∃ p, v1 = V.ref p ∧ (SqL K H p (ys.map V.str) ∨ SqT K H p (ys.map V.str)) by
      obtain ⟨p, e, hp⟩ := hs
      exact ⟨a, p, ys, rfl, by rw [e], hp, by omega, k F ms _ _ H Ex.refl hh (.str _) q⟩
    rcases hx with hx | rfl
    · obtain ⟨p, zs, e, h3, h4⟩ := rep_l (a := 0) hx h1 hh.ex
      rw [strs_rep h4] at h3
      exact ⟨p, e, .inl h3⟩
    · cases h1 with
      | tup h3 h4 =>
        rw [strs_rep h4] at h3
        exact ⟨_, rfl, .inr (ex_t hh.ex h3)⟩
/-! ### slices -/
noncomputable def AO (Γ : Cg) (to : TO) (F : Hp) (ms : Ms) (S : Sg) (Q : Hp → Ms → Option Int → Prop) : Prop := ∀ (R : Ms) σ H (Qc : Option Int → Hp → Prop), SRep Γ.K F S σ → Hold Γ.K F (ms ++ R) H → XLe Γ R F → (∀ F' ms' o H', Ex F F' → Hold Γ.K F' (ms' ++ R) H' → Q F' ms' o → Qc o H') → to σ H Qc
theorem ao_none {Q : Hp → Ms → Option Int → Prop} (q : Q F ms none) : AO Γ tNoPart F ms S Q := fun R σ H Qc hs hh x k => k F ms none H Ex.refl hh q
theorem ao_some {Q : Hp → Ms → Option Int → Prop} (h : AE Γ te F ms S fun F' ms' d => ∃ i, d = .int i ∧ Q F' ms' (some i)) : AO Γ (tPart te) F ms S Q := fun R σ H Qc hs hh x k =>
  h R σ H _ hs hh x fun F1 ms1 d1 v1 H1 e1 h1 r1 ⟨i, hi, q⟩ => by
    subst hi
    cases r1
    exact ⟨i, rfl, k F1 ms1 (some i) H1 e1 h1 q⟩
noncomputable def ASl (K : Frg) (r : V → Option Int → Option Int → Hp → VK → Prop) (x : D) (lo hi : Option Int) (F : Hp) (ms : Ms) (Q : QE) : Prop := ∀ (R : Ms) u H (Qc : VK), Rep K F x u → Hold K F (ms ++ R) H → (∀ F' ms' d v H', Ex F F' → Hold K F' (ms' ++ R) H' → Rep K F' d v → Q F' ms' d → Qc v H') → r u lo hi H Qc
theorem ae_sl {r : V → Option Int → Option Int → Hp → VK → Prop} {tl th : TO} (h : AE Γ te F ms S fun F1 ms1 x => AO Γ tl F1 ms1 S fun F2 ms2 lo => AO Γ th F2 ms2 S fun F3 ms3 hi => ASl Γ.K r x lo hi F3 ms3 Q) : AE Γ (tSl r te tl th) F ms S Q := fun R σ H Qc hs hh x k =>
  h R σ H _ hs hh x fun F1 ms1 d1 v1 H1 e1 h1 r1 q1 => q1 R σ H1 _ (hs.mono e1) h1 (x.ex e1) fun F2 ms2 lo H2 e2 h2 q2 => q2 R σ H2 _ (hs.mono (e1.trans e2)) h2 (x.ex (e1.trans e2)) fun F3 ms3 hi H3 e3 h3 q3 =>
    q3 R v1 H3 Qc (r1.mono (e2.trans e3)) h3 fun F4 ms4 d v H4 e4 h4 r4 q4 => k F4 ms4 d v H4 (((e1.trans e2).trans e3).trans e4) h4 r4 q4
noncomputable def rSLC (K : Frg) : V → Option Int → Option Int → Hp → VK → Prop := fun x lo hi H Q => rSlL K x lo hi H Q ∨ (rSlA K x lo hi H Q ∨ rSlS x lo hi H Q)
theorem sl_SLC {X : Cx} : SlR X (rSLC X.K) := sl_list.or (sl_tupA.or sl_str)
theorem cut_rep {ds : List D} {vs : List V} (r : RepL K F ds vs) (lo hi : Option Int) : RepL K F (cutL ds lo hi) (cutV vs lo hi) := by
  unfold cutL cutV
  rw [r.len]
  exact (r.drop _).take _
theorem sl_L {x : D} {ds : List D} {lo hi : Option Int} (hx : LstA F ms x ds) (q : ∀ F', Ex F F' → Q F' ms (.lst (cutL ds lo hi))) : ASl K (rSLC K) x lo hi F ms Q := fun R u H Qc hu hh k => by
  obtain ⟨a, vs, rfl, ha, r⟩ := hx.to hh hu
  refine .inl ⟨a, vs, rfl, ha, fun p hp => ?_⟩
  obtain ⟨e, hh'⟩ := hh.laid (.lst (cutV vs lo hi)) hp
  exact k _ ms _ _ _ e hh' (.lst upd_same ((cut_rep r lo hi).mono e)) (q _ e)
theorem sl_T {ds : List D} {lo hi : Option Int} (q : ∀ F', Ex F F' → Q F' ms (.tup (cutL ds lo hi))) : ASl K (rSLC K) (.tup ds) lo hi F ms Q := fun R u H Qc hu hh k => by
  cases hu with
  | @tup a xs _ h r =>
    refine .inr (.inl ⟨a, xs, rfl, ex_t hh.ex h, fun hw => ?_, fun _ p hp => ?_⟩)
    · have q' := q F Ex.refl
      have e : cutL ds lo hi = ds := by
        unfold cutL
        rw [r.len, hw.1, hw.2, List.drop_zero, Nat.sub_zero, ← r.len, List.take_length]
      rw [e] at q'
      exact k F ms _ _ H Ex.refl hh (.tup h r) q'
    · obtain ⟨e, hh'⟩ := hh.laid (.tup (cutV xs lo hi)) hp
      exact k _ ms _ _ _ e hh' (.tup (SqT.of upd_same) ((cut_rep r lo hi).mono e)) (q _ e)
theorem sl_S {z : Str} {lo hi : Option Int} (hz : z.length ≤ 100000) (q : Q F ms (.str (cutS z lo hi))) : ASl K (rSLC K) (.str z) lo hi F ms Q := fun R u H Qc hu hh k => by
  cases hu
  exact .inr (.inr ⟨z, rfl, Evl.sz_of hz, k F ms _ _ H Ex.refl hh (.str _) q⟩)
end
end AL

set_option Elab.async false
set_option linter.all false
set_option maxRecDepth 100000
set_option maxHeartbeats 4000000
namespace AL
open PySem PySem.Spec PyProof.Rows L2
open AutoSeq1 (wpAny_loadPart')
/-! ### enumerate of a tuple, of a text -/
noncomputable def IteT (K : Frg) (a : Addr) : It :=
  ⟨fun i H => ∃ (xs : List V) (x : V), SqT K H a xs ∧ xs[i]? = some x, fun i H v H' => ∃ T x, v = .ref T ∧ H T = none ∧ H' = upd H T (.tup [.int (i : Nat), x]) ∧ ∀ xs, SqT K H a xs → xs[i]? = some x, fun i H => ∃ xs : List V, SqT K H a xs ∧ xs.length = i⟩
theorem turn_enumT {P : Program} {w : World} {K : Frg} {elts : List Expr} {kk : Nat} {tpos : Pos} (a e it : Addr) :
    Turn P w K (.Tuple elts kk tpos) (IteT K a) [e, it] e (fun i h => (∃ old, IsEnum h e it ((i : Nat) : Int) old) ∧ h.IsTupleIter it a i ∧ e ≠ it) where
  mem := by simp
  obj := fun i h st b hb => by
    obtain ⟨⟨old, he⟩, ⟨o, ho, hc, hd⟩, _⟩ := st
    have e' : b = e ∨ b = it := by simpa using hb
    rcases e' with z | z
    · rw [z]; exact ⟨_, he, fun v q => nomatch q⟩
    · rw [z]; exact ⟨o, ho, fun v q => by rw [hd] at q; cases q⟩
  keep := fun i h h' st k => let ⟨⟨old, he⟩, hi, hne⟩ := st; ⟨⟨old, k e (by simp) _ he⟩, hi.at fun o q => k it (by simp) o q, hne⟩
  item := by
    intro X hP hw hK hc i pins s σ H E I hf st hg
    subst hP hw hK
    obtain ⟨⟨old, he⟩, hit, hne⟩ := st
    obtain ⟨xs, x, hq, hx⟩ := hg
    obtain ⟨its, rv, p, hz⟩ := I.tuple hq
    obtain ⟨u, hu, ru⟩ := rv.get hx
    have hel : e < s.heap.objs.size := Heap.lt_size he
    have hil : it < s.heap.objs.size := by obtain ⟨_, q, _⟩ := hit; exact Heap.lt_size q
    have ite : ∃ o, s.heap.get? it = some o ∧ o.cls = .type "tuple_iterator" := by obtain ⟨o, q, c, _⟩ := hit; exact ⟨o, q, c⟩
    have hta : a ≠ it := fun z => by
      obtain ⟨o, q, c⟩ := ite
      obtain ⟨o', q', c', _⟩ := id p
      rw [z, q] at q'; cases q'; rw [c] at c'; injection c' with z1; exact absurd z1 (by decide)
    have hea : e ≠ a := fun z => by
      obtain ⟨o', q', c', _⟩ := id p
      have he' := he
      rw [z] at he'
      rw [show s.heap.get? a = _ from he'] at q'
      cases q'
      injection c' with z1
      exact absurd z1 (by decide)
    have hx' : its.toArray[i]? = some u := by simpa using hu
    have hlt : i < its.toArray.size := (Array.getElem?_eq_some_iff.mp hx').1
    refine wpAny_pyNext_enum_itemD (Draws.tuple (A := X.A.in1) (I.ok.hd hc) it a hta its.toArray) he ⟨hit, p⟩ hlt hne (by simp [hne, hea]) fun y h' tk hy ho hit' hT hsz hk => ?_
    have ey : y = u := by
      have hy' : its.toArray[i]? = some y := hy
      rw [hx'] at hy'; cases hy'; rfl
    subst ey
    refine ⟨_, rfl, wpAny_letOwnedTupleGo_enum (s := { s with heap := h', toks := tk + 1 }) ho fun h'' he' sb => ?_⟩
    have hT2 : h''.get? s.heap.objs.size = some { cls := .type "tuple", data := .seq #[.int i tk, y] } := (sb.2 _ (Nat.ne_of_gt hel)).trans hT
    have new : ObjOk X.prog X.w (upd H s.heap.objs.size (.tup [.int (i : Nat), x])) h'' s.heap.objs.size (.tup [.int (i : Nat), x]) :=
      ⟨by show 2 ≤ sizeLine; decide, [.int i tk, y], .cons ⟨_, rfl⟩ (.cons ru .nil), ⟨_, hT2, rfl, _, rfl⟩⟩
    have I1 : Inv X pins σ (upd H s.heap.objs.size (.tup [.int (i : Nat), x])) { s with heap := h'', toks := tk + 1 } :=
      I.turnedNew (ch := [e, it]) (fun b ob hb q => (sb.2 b (fun z => hb (by simp [z]))).trans (hk b ob (fun z => hb (by simp [z])) (fun z => hb (by simp [z])) q)) hf (Nat.le_refl _) new
    refine ⟨.ref s.heap.objs.size, _, I1, rfl, ⟨_, x, rfl, I.hok.fresh (Nat.le_refl _), rfl, fun ys hy => by rw [I.tuple_inj hy hq]; exact hx⟩, ⟨⟨y, ?_⟩, hit'.1.at fun o q => (sb.2 it (Ne.symm hne)).trans q, hne⟩, fun b hb => ?_⟩
    · have e1 : ((i + 1 : Nat) : Int) = (i : Int) + 1 := by omega
      rw [e1]; exact he'
    · have hb' : b < s.heap.objs.size := by
        have e' : b = e ∨ b = it := by simpa using hb
        rcases e' with z | z
        · rw [z]; exact hel
        · rw [z]; exact hil
      rw [upd_ne (Nat.ne_of_lt hb')]
      exact (hf b hb).1
  done := by
    intro X hP hw hK hc i pins s σ H E I hf st hg
    subst hP hw hK
    obtain ⟨⟨old, he⟩, hit, hne⟩ := st
    obtain ⟨xs, hq, hx⟩ := hg
    obtain ⟨its, rv, p, hz⟩ := I.tuple hq
    obtain ⟨f0, f1, f2, f3, f4, f5⟩ := hf it (by simp)
    have hl := rv.length
    have hta : a ≠ it := fun z => by
      obtain ⟨o, q, c, _⟩ := hit
      obtain ⟨o', q', c', _⟩ := id p
      rw [z, q] at q'; cases q'; rw [c] at c'; injection c' with z1; exact absurd z1 (by decide)
    have hn : its.toArray.size = i := by simp; omega
    exact wpAny_pyNext_enum_endD (Draws.tuple (A := X.A.in1) (I.ok.hd hc) it a hta its.toArray) he ⟨by rw [hn]; exact hit, p⟩ fun h' eb => ⟨rfl, I.turned (t' := s.toks) (fun b o hb q => eb b o hb q) f0 f1 f3 f4 f5⟩
  self := fun A i s Q E st h => let ⟨⟨_, he⟩, _⟩ := st; wpAny_pyIter_enum he h
noncomputable def IteS (z : Str) : It :=
  ⟨fun i H => i < z.cps.size, fun i H v H' => ∃ T c, v = .ref T ∧ H T = none ∧ H' = upd H T (.tup [.int (i : Nat), .str ⟨#[c]⟩]) ∧ z.cps[i]? = some c, fun i H => i = z.cps.size⟩
theorem turn_enumS {P : Program} {w : World} {K : Frg} {elts : List Expr} {kk : Nat} {tpos : Pos} (z : Str) (t : Tok) (e it : Addr) :
    Turn P w K (.Tuple elts kk tpos) (IteS z) [e, it] e (fun i h => (∃ old, IsEnum h e it ((i : Nat) : Int) old) ∧ h.IsStrIter it (strIterType z) z t i ∧ e ≠ it) where
  mem := by simp
  obj := fun i h st b hb => by
    obtain ⟨⟨old, he⟩, ⟨o, ho, hc, hd⟩, _⟩ := st
    have e' : b = e ∨ b = it := by simpa using hb
    rcases e' with z | z
    · rw [z]; exact ⟨_, he, fun v q => nomatch q⟩
    · rw [z]; exact ⟨o, ho, fun v q => by rw [hd] at q; cases q⟩
  keep := fun i h h' st k => let ⟨⟨old, he⟩, ⟨o, ho, r⟩, hne⟩ := st; ⟨⟨old, k e (by simp) _ he⟩, ⟨o, k it (by simp) o ho, r⟩, hne⟩
  item := by
    intro X hP hw hK hc i pins s σ H E I hf st hg
    subst hP hw hK
    obtain ⟨⟨old, he⟩, hit, hne⟩ := st
    have hel : e < s.heap.objs.size := Heap.lt_size he
    have hil : it < s.heap.objs.size := by obtain ⟨_, q, _⟩ := hit; exact Heap.lt_size q
    refine wpAny_pyNext_enum_itemD (Draws.text (A := X.A.in1) (I.ok.hd hc) it z t) he hit hg hne (by simp [hne]) fun y h' tk hy ho hit' hT hsz hk => ?_
    obtain ⟨c, u, hcx, ey⟩ := hy
    subst ey
    refine ⟨_, rfl, wpAny_letOwnedTupleGo_enum (s := { s with heap := h', toks := tk + 1 }) ho fun h'' he' sb => ?_⟩
    have hT2 : h''.get? s.heap.objs.size = some { cls := .type "tuple", data := .seq #[.int i tk, .str ⟨#[c]⟩ u] } := (sb.2 _ (Nat.ne_of_gt hel)).trans hT
    have new : ObjOk X.prog X.w (upd H s.heap.objs.size (.tup [.int (i : Nat), .str ⟨#[c]⟩])) h'' s.heap.objs.size (.tup [.int (i : Nat), .str ⟨#[c]⟩]) :=
      ⟨by show 2 ≤ sizeLine; decide, [.int i tk, .str ⟨#[c]⟩ u], .cons ⟨_, rfl⟩ (.cons ⟨_, rfl⟩ .nil), ⟨_, hT2, rfl, _, rfl⟩⟩
    have I1 : Inv X pins σ (upd H s.heap.objs.size (.tup [.int (i : Nat), .str ⟨#[c]⟩])) { s with heap := h'', toks := tk + 1 } :=
      I.turnedNew (ch := [e, it]) (fun b ob hb q => (sb.2 b (fun z => hb (by simp [z]))).trans (hk b ob (fun z => hb (by simp [z])) (fun z => hb (by simp [z])) q)) hf (Nat.le_refl _) new
    refine ⟨.ref s.heap.objs.size, _, I1, rfl, ⟨_, c, rfl, I.hok.fresh (Nat.le_refl _), rfl, hcx⟩, ⟨⟨.str ⟨#[c]⟩ u, ?_⟩, ?_, hne⟩, fun b hb => ?_⟩
    · have e1 : ((i + 1 : Nat) : Int) = (i : Int) + 1 := by omega
      rw [e1]; exact he'
    · obtain ⟨o, ho, r⟩ := hit'
      exact ⟨o, (sb.2 it (Ne.symm hne)).trans ho, r⟩
    · have hb' : b < s.heap.objs.size := by
        have e' : b = e ∨ b = it := by simpa using hb
        rcases e' with z | z
        · rw [z]; exact hel
        · rw [z]; exact hil
      rw [upd_ne (Nat.ne_of_lt hb')]
      exact (hf b hb).1
  done := by
    intro X hP hw hK hc i pins s σ H E I hf st hg
    subst hP hw hK
    obtain ⟨⟨old, he⟩, hit, hne⟩ := st
    have hg' : i = z.cps.size := hg
    subst hg'
    obtain ⟨f0, f1, f2, f3, f4, f5⟩ := hf it (by simp)
    exact wpAny_pyNext_enum_endD (Draws.text (A := X.A.in1) (I.ok.hd hc) it z t) he hit fun h' eb => ⟨rfl, I.turned (t' := s.toks) (fun b o hb q => eb b o hb q) f0 f1 f3 f4 f5⟩
  self := fun A i s Q E st h => let ⟨⟨_, he⟩, _⟩ := st; wpAny_pyIter_enum he h
set_option maxHeartbeats 1000000 in
theorem meets_enumerate_newB1 {v : Value} {o : Obj} {H : Heap → Prop} (B : Begins v o H) :
    Meets (Builtin.«enumerate.__new__» ⟨[.type "enumerate", v], []⟩) (fun _ R s => H s.heap ∧
      R (.ok (.ret (.ref (s.heap.push o).objs.size))) { s with heap := (s.heap.push o).push { cls := .type "enumerate", data := .fields #[.none, .bool false, .ref s.heap.objs.size, rawInt 0, .none, .none] } }) :=
  .of_wp fun prog w A R s h => by
    obtain ⟨hp, g, d, tk, os⟩ := s; obtain ⟨h1, h⟩ := h
    have hsub := sub_enumerate
    have q1 : ∀ {A' : Around} {E : Value → Shared → Prop} {Q : Value → Shared → Prop}, Q (.ref hp.objs.size) ⟨hp.push o, g, d, tk, os⟩ → wpAny (model prog w) A' (pyIter v) Q E ⟨hp, g, d, tk, os⟩ :=
      fun q => B.iter prog w _ _ ⟨hp, g, d, tk, os⟩ _ h1 q
    wp_walk using q1
    refine wpAny_stack_any fun st => wpAny_pure ?_
    split
    · rename_i c _ _ _ _ _
      cases (c == Value.type "enumerate")
      · wp_walk using q1
        exact ⟨_, rfl, h⟩
      · wp_walk using q1
        exact ⟨_, rfl, h⟩
    · wp_walk using q1
      exact ⟨_, rfl, h⟩
noncomputable def iEnumA (K : Frg) (ta : TA) : TI := fun σ H R => ta σ H fun vs H1 => (∃ a xs, vs = [.ref a] ∧ SqL K H1 a xs ∧ R (Ite K a) H1) ∨ (∃ a xs, vs = [.ref a] ∧ SqT K H1 a xs ∧ R (IteT K a) H1) ∨ ∃ z, vs = [.str z] ∧ R (IteS z) H1
theorem pi_enumA {X : Cx} {e : Expr} {ta : TA} {p pos tpos : Pos} {elts : List Expr} {kk : Nat} (hg : Gl X "enumerate") (hm : X.mg "enumerate" = none) (ha : PA X [e] ta) (hs : starEach [e] X.env = [(false, eval e X.env)] := by rfl) :
    PI X (.Tuple elts kk tpos) (.Call (.Name "enumerate" p) [e] [] pos) (iEnumA X.K ta) := by
  refine ⟨fun pins s σ H R I h => ?_⟩
  refine Call_ (ld_blt I hg hm boot_enumerate (PyProof.Rows.callWith_type1 (thn (ha.run pos pins s σ H _ I h) fun us s1 ⟨vs, H1, I1, r1, q1⟩ => ?_) hs rfl))
  have fresh2 : ∀ b ∈ [s1.heap.objs.size + 1, s1.heap.objs.size], FpOk X pins H1 b := fun b hb => by
    have e' : b = s1.heap.objs.size + 1 ∨ b = s1.heap.objs.size := by simpa using hb
    have hle : s1.heap.objs.size ≤ b := by
      rcases e' with z | z
      · rw [z]; exact Nat.le_add_right _ _
      · rw [z]; exact Nat.le_refl _
    exact I1.fpOk hle (I1.hok.fresh hle)
  rcases q1 with ⟨a, xs, ex, hq, q⟩ | ⟨a, xs, ex, hq, q⟩ | ⟨z, ex, q⟩
  · subst ex
    cases r1 with
    | cons r rr =>
      cases rr
      cases r
      obtain ⟨its, rv, p', hz⟩ := I1.list hq
      refine call_enumerate_list p'.isList fun h' he hit hsz hk => wpAny_pyIter_enum he ?_
      have I2 : Inv X pins σ H1 { s1 with heap := h' } := I1.kept (t' := s1.toks) hk
      exact ⟨s1.heap.objs.size + 1, [s1.heap.objs.size + 1, s1.heap.objs.size], _, _, H1, rfl, I2, turn_enum a (s1.heap.objs.size + 1) s1.heap.objs.size, ⟨⟨.none, he⟩, hit, Nat.succ_ne_self _⟩, fresh2, q⟩
  · subst ex
    cases r1 with
    | cons r rr =>
      cases rr
      cases r
      obtain ⟨its, rv, p', hz⟩ := I1.tuple hq
      refine enumT p' fun h' he hit hk => wpAny_pyIter_enum he ?_
      have I2 : Inv X pins σ H1 { s1 with heap := h' } := I1.kept (t' := s1.toks) hk
      exact ⟨s1.heap.objs.size + 1, [s1.heap.objs.size + 1, s1.heap.objs.size], _, _, H1, rfl, I2, turn_enumT a (s1.heap.objs.size + 1) s1.heap.objs.size, ⟨⟨.none, he⟩, hit, Nat.succ_ne_self _⟩, fresh2, q⟩
  · subst ex
    cases r1 with
    | cons r rr =>
      cases rr
      obtain ⟨t, rfl⟩ := r
      refine call_enumerate_str fun h' he hit hsz hk => wpAny_pyIter_enum he ?_
      have I2 : Inv X pins σ H1 { s1 with heap := h' } := I1.kept (t' := s1.toks) hk
      exact ⟨s1.heap.objs.size + 1, [s1.heap.objs.size + 1, s1.heap.objs.size], _, _, H1, rfl, I2, turn_enumS z t (s1.heap.objs.size + 1) s1.heap.objs.size, ⟨⟨.none, he⟩, hit, Nat.succ_ne_self _⟩, fresh2, q⟩
where
  enumT {prog : Program} {w : World} {A : Around} {E : Value → Shared → Prop} {s : Shared} {l : Addr} {items : Array Value} {Q : Value → Shared → Prop} (hL : IsTup s.heap l items)
    (h : ∀ h', IsEnum h' (s.heap.objs.size + 1) s.heap.objs.size 0 .none → h'.IsTupleIter s.heap.objs.size l 0 → (∀ b o, s.heap.get? b = some o → h'.get? b = some o) → Q (.ref (s.heap.objs.size + 1)) { s with heap := h' }) :
    wpAny (model prog w) A (call (.type "enumerate") [.ref l]) Q E s := by
    have B := begins_tuple l items
    refine callType_new F.called_enumerate (by decide) (F.typeCall_enumerate_1 _) (F.newCall_enumerate_1 _) (fun obj => F.args_object_init_2 obj _) F.entry_enumerate_new
      (meets_enumerate_newB1 B) ⟨hL, ?_⟩
    have hz : (s.heap.push { cls := .type "tuple_iterator", data := .fields #[.ref l, .int 0 0] }).objs.size = s.heap.objs.size + 1 := Heap.size_push ..
    show _ ∧ _
    rw [hz]
    have he : IsEnum ((s.heap.push { cls := .type "tuple_iterator", data := .fields #[.ref l, .int 0 0] }).push { cls := .type "enumerate", data := .fields #[.none, .bool false, .ref s.heap.objs.size, rawInt 0, .none, .none] }) (s.heap.objs.size + 1) s.heap.objs.size 0 .none := by
      have := Heap.get?_push_size (s.heap.push { cls := .type "tuple_iterator", data := .fields #[.ref l, .int 0 0] }) (o := { cls := .type "enumerate", data := .fields #[.none, .bool false, .ref s.heap.objs.size, rawInt 0, .none, .none] }) rfl
      rw [hz] at this; exact this
    exact ⟨⟨_, he, rfl⟩, h _ he ⟨_, Heap.get?_push_of_some _ (Heap.get?_push_size _ rfl), rfl, rfl⟩ fun b o x => Heap.get?_push_of_some _ (Heap.get?_push_of_some _ x)⟩
end AL

set_option Elab.async false
set_option linter.all false
set_option maxRecDepth 100000
set_option maxHeartbeats 4000000
namespace AL
open PySem L2
noncomputable def enumD (ds : List D) : List D := ds.zipIdx.map fun p => .tup [.int (p.2 : Nat), p.1]
theorem enumD_len (ds : List D) : (enumD ds).length = ds.length := by unfold enumD; rw [List.length_map, List.length_zipIdx]
theorem enumD_get {ds : List D} {i : Nat} {d : D} (h : ds[i]? = some d) : (enumD ds)[i]? = some (.tup [.int (i : Nat), d]) := by
  unfold enumD
  rw [List.getElem?_map, List.getElem?_zipIdx, h]
  simp
section
variable {Γ : Cg} {K : Frg} {F : Hp} {ms : Ms} {S : Sg} {P : Hp → Ms → List D → (Ms → Prop) → Prop}
theorem pair_rep {R : Ms} {ms' : Ms} {F' H : Hp} {T : Addr} {d e : D} {v w : V} (hh : Hold K F' (ms' ++ R) H) (hT : H T = none) (r1 : Rep K F' d v) (r2 : Rep K F' e w) :
    ∃ F'', Ex F' F'' ∧ Hold K F'' (ms' ++ R) (upd H T (.tup [v, w])) ∧ Rep K F'' (.tup [d, e]) (.ref T) := by
  obtain ⟨e1, h1⟩ := hh.laid (.tup [v, w]) hT
  exact ⟨_, e1, h1, .tup (SqT.of upd_same) (.cons (r1.mono e1) (.cons (r2.mono e1) .nil))⟩
theorem ai_enum {ta : TA} (h : AA Γ ta F ms S fun F1 ms1 xs => (∃ ds : List D, xs = [.lst ds] ∧ P F1 ms1 (enumD ds) fun _ => True) ∨ (∃ ds : List D, xs = [.tup ds] ∧ P F1 ms1 (enumD ds) fun _ => True) ∨ ∃ z, xs = [.str z] ∧ P F1 ms1 (enumD (charsD z)) fun _ => True) : AI Γ (iEnumA Γ.K ta) F ms S P := fun R σ H Rc hs hh x k =>
  h R σ H _ hs hh x fun F1 ms1 xs vs H1 e1 h1 r1 q => by
    rcases q with ⟨ds, hx, p⟩ | ⟨ds, hx, p⟩ | ⟨z, hx, p⟩
    · subst hx
      cases r1 with
      | cons a b =>
        cases b
        cases a with
        | @lst a ys _ ha rl =>
          refine .inl ⟨a, ys, rfl, SqL.of (h1.ex _ _ ha), k F1 ms1 _ (fun _ => True) _ H1 e1 h1 ⟨fun _ i H' F' ms' hi e' hh' _ => ?_, fun _ H' F' ms' e' hh' _ => ?_, fun _ i H' x' H2 F' ms' hi e' hh' _ y => ?_⟩ p⟩
          · rw [enumD_len] at hi
            exact ⟨ys, ys[i]'(by rw [← rl.len]; exact hi), SqL.of (hh'.ex _ _ (e' _ _ ha)), by simp [show i < ys.length by rw [← rl.len]; exact hi]⟩
          · exact ⟨ys, SqL.of (hh'.ex _ _ (e' _ _ ha)), by rw [enumD_len, rl.len]; exact Nat.le_refl _⟩
          · obtain ⟨T, w, y1, y2, y3, y4⟩ := y
            subst y1 y3
            obtain ⟨d, hd, rd⟩ := rl.get (y4 ys (SqL.of (hh'.ex _ _ (e' _ _ ha))))
            obtain ⟨F'', e2, h2, r2⟩ := pair_rep hh' y2 (.int (i : Nat)) (rd.mono e')
            exact ⟨F'', _, e2, h2, enumD_get hd, r2⟩
    · subst hx
      cases r1 with
      | cons a b =>
        cases b
        cases a with
        | @tup a ys _ ha rl =>
          refine .inr (.inl ⟨a, ys, rfl, ex_t h1.ex ha, k F1 ms1 _ (fun _ => True) _ H1 e1 h1 ⟨fun _ i H' F' ms' hi e' hh' _ => ?_, fun _ H' F' ms' e' hh' _ => ?_, fun _ i H' x' H2 F' ms' hi e' hh' _ y => ?_⟩ p⟩)
          · rw [enumD_len] at hi
            exact ⟨ys, ys[i]'(by rw [← rl.len]; exact hi), ex_t hh'.ex (ex_t e' ha), by simp [show i < ys.length by rw [← rl.len]; exact hi]⟩
          · exact ⟨ys, ex_t hh'.ex (ex_t e' ha), by rw [enumD_len, rl.len]⟩
          · obtain ⟨T, w, y1, y2, y3, y4⟩ := y
            subst y1 y3
            obtain ⟨d, hd, rd⟩ := rl.get (y4 ys (ex_t hh'.ex (ex_t e' ha)))
            obtain ⟨F'', e2, h2, r2⟩ := pair_rep hh' y2 (.int (i : Nat)) (rd.mono e')
            exact ⟨F'', _, e2, h2, enumD_get hd, r2⟩
    · subst hx
      cases r1 with
      | cons a b =>
        cases b
        cases a
        have hl : (charsD z).length = z.cps.size := by unfold charsD; rw [List.length_map, Array.length_toList]
        refine .inr (.inr ⟨z, rfl, k F1 ms1 _ (fun _ => True) _ H1 e1 h1 ⟨fun _ i H' F' ms' hi e' hh' _ => ?_, fun _ H' F' ms' e' hh' _ => ?_, fun _ i H' x' H2 F' ms' hi e' hh' _ y => ?_⟩ p⟩)
        · rw [enumD_len, hl] at hi; exact hi
        · show (enumD (charsD z)).length = z.cps.size
          rw [enumD_len, hl]
        · obtain ⟨T, c, y1, y2, y3, y4⟩ := y
          subst y1 y3
          obtain ⟨F'', e2, h2, r2⟩ := pair_rep hh' y2 (.int (i : Nat)) (.str ⟨#[c]⟩)
          refine ⟨F'', _, e2, h2, enumD_get ?_, r2⟩
          unfold charsD
          rw [List.getElem?_map, Array.getElem?_toList, y4]
          rfl
end
/-! ### static methods -/
/-- C.m is a staticmethod: its record at p, its def at g -/
structure SMet (K : Frg) (C : Addr) (mc : Value) (m : Str) (p g : Addr) : Prop where
  rd : PySem.W.readsIn K C mc = true
  ga : PySem.W.specialIn K (.ref C) "__getattribute__" = some (some (.builtin "type.__getattribute__"))
  at_ : PySem.W.findCls K (.ref C) mc m = some (.get (.builtin "staticmethod.__get__") (.ref p) .none (.ref C))
  rc : ∃ rest, PySem.W.recIn K p "staticmethod" = some (.ref g :: rest)
/-- .. reached through an instance of C -/
structure SInst (K : Frg) (C : Addr) (m : Str) (p g : Addr) : Prop where
  pg : PySem.W.plainGet K C Str.empty = true
  ic : PySem.W.isClsIn K C = true
  at_ : PySem.W.findIn K (.ref C) m = some (some (.ref p))
  ty : PySem.W.typeIn K (.ref p) = some (.type "staticmethod")
  get : PySem.W.specialIn K (.ref p) "__get__" = some (some (.builtin "staticmethod.__get__"))
  tk : PySem.W.takesIn K (.ref p) = some false
  cp : PySem.W.copiedNames.contains m = false
  rc : ∃ rest, PySem.W.recIn K p "staticmethod" = some (.ref g :: rest)
/-- e.m(..), e the class at C, m a static method -/
noncomputable def tSMeth (C : Addr) (sp : Sp) (E : XK) (ta : TE) (t : TA) : TE := fun σ H Q => ta σ H fun x H1 => x = .ref C ∧ t σ H1 fun vs H2 => sp vs H2 Q E
/-- o.m(..), o an instance of the class at C -/
noncomputable def tSMethI (C : Addr) (m : Str) (sp : Sp) (E : XK) (ta : TE) (t : TA) : TE := fun σ H Q => ta σ H fun x H1 => ∃ a dx fs, x = .ref a ∧ H1 a = some (.ins C dx fs) ∧ fs.lookup m = none ∧ t σ H1 fun vs H2 => sp vs H2 Q E
section
variable {X : Cx} {CX : CXT} {k : Nat} {f C p g : Addr} {mc : Value} {fd : FuncData} {ps : List Str} {sp : Sp} {E : XK} {m : Str} {pos apos : Pos} {e o : Expr} {es : List Expr} {ta : TE} {t : TA}
end
section
variable {Γ : Cg} {K : Frg} {F : Hp} {ms : Ms} {S : Sg} {Q : QE} {ta : TE} {ta' : TA} {C : Addr} {m : Str} {sp : ASp}
end
end AL

set_option Elab.async false
set_option linter.all false
set_option maxRecDepth 100000
set_option maxHeartbeats 4000000
/-! Rules whose reading names the fragment K outright (so they may stand under binders), and a few more. -/
namespace AL
open PySem L2 PyProof.Rows
section
variable {X : Cx} {K : Frg}
theorem kADD (h : X.K = K) : OpR X (binaryOp .Add) (rADD K) := h ▸ op_ADD
theorem kMUL (h : X.K = K) : OpR X (binaryOp .Mult) (rMUL K) := h ▸ op_MUL
theorem kEQ (h : X.K = K) (hu : X.A.units + 64 < cLine) : OpR X (compareOp .Eq) (rEQ K) := h ▸ op_EQ hu
theorem kNE (h : X.K = K) (hu : X.A.units + 64 < cLine) : OpR X (compareOp .NotEq) (rNE K) := h ▸ op_NE hu
theorem kIN (h : X.K = K) : OpR X (compareOp .In) (rIN K) := h ▸ op_INN
theorem kIX (h : X.K = K) : IxR X (rIx K) := h ▸ ix_seq
theorem kSLC (h : X.K = K) : SlR X (rSLC K) := h ▸ sl_SLC
theorem kLEN (h : X.K = K) : CallR X (.builtin "len") (rLEN K) := h ▸ call_LEN
theorem kLIST (h : X.K = K) (hc : X.calm = true) : CallR X (.type "list") (rLIST K) := h ▸ call_LIST hc
theorem kTUPLE (h : X.K = K) : CallR X (.type "tuple") (rTUPLE K) := h ▸ call_TUPLE
theorem kALL (h : X.K = K) (hc : X.calm = true) : CallR X (.builtin "all") (rAll K) := h ▸ cr_all hc
theorem kISI (h : X.K = K) : CallR X (.builtin "isinstance") (rIsi K) := h ▸ call_isi
theorem kJOIN (h : X.K = K) : MtR X "str.join" (rJOIN K) := h ▸ mt_JOIN
variable {e o : Expr} {es : List Expr} {f name : Str} {pos apos cpos p2 : Pos} {ta te to : TE} {t : TA} {T id : String} {r : V → List V → Hp → VK → Prop} {tg : Expr}
theorem pe_fldk (h : X.K = K) (he : PE X e ta) (hb : attributeBase e f X.env (eval e X.env) = eval e X.env) : PE X (.Attribute e f pos) (tFld K ta f) := h ▸ pe_fld he hb
theorem pe_bmk (h : X.K = K) (pa : PlainAttrs T) (slot : Slot T name id) (hty : typeOf (.builtin id) = pure (.type "method_descriptor")) (hm : MtR X id r) (ho : PE X o to) (ha : PA X (e :: es) t)
    (hbase : attributeBase o name X.env (eval o X.env) = eval o X.env := by rfl)
    (hfew : ((backTo cpos (starEach (e :: es) X.env)).all (fun x => !x.1) && (backToKw cpos (keywordEach [] X.env)).all (fun x => x.1.isSome)
      && decide ((e :: es).length + ([] : List Keyword).length + (if ([] : List Keyword).isEmpty then 0 else 1) < 30)) = true := by rfl)
    (hline : (apos.endLine == cpos.line) = true := by rfl) (hs : starEach (e :: es) X.env = (false, eval e X.env) :: starEach es X.env := by rfl) (hplain : (backTo cpos (starEach es X.env)).any (·.1) = false := by rfl) :
    PE X (.Call (.Attribute o name apos) (e :: es) [] cpos) (tBM K T r to t) := h ▸ pe_bm pa slot hty hm ho ha hbase hfew hline hs hplain
theorem pi_listk (h : X.K = K) (he : PE X e ta) : PI X tg e (iList K ta) := h ▸ pi_list he
theorem pi_tupk (h : X.K = K) (he : PE X e ta) : PI X tg e (iTup K ta) := h ▸ pi_tup he
end
section
variable {Γ : Cg} {K : Frg} {F : Hp} {ms : Ms} {S : Sg} {Q : QE} {ta tb tc : TE} {r r' : R2}
theorem ae_chain (h : AE Γ ta F ms S fun F1 ms1 x => AE Γ tb F1 ms1 S fun F2 ms2 y => AR Γ.K r x y F2 ms2 fun F3 ms3 z => ∃ k, z = .bl k ∧ (k = true → AE Γ tc F3 ms3 S fun F4 ms4 w => AR Γ.K r' y w F4 ms4 Q) ∧ (k = false → Q F3 ms3 (.bl false))) :
    AE Γ (tChain r r' ta tb tc) F ms S Q := fun R σ H Qc hs hh x k =>
  h R σ H _ hs hh x fun F1 ms1 d1 v1 H1 e1 h1 r1 q1 => q1 R σ H1 _ (hs.mono e1) h1 (x.ex e1) fun F2 ms2 d2 v2 H2 e2 h2 r2 q2 =>
    q2 R v1 v2 H2 _ (r1.mono e2) r2 h2 fun F3 ms3 d3 v3 H3 e3 h3 r3 ⟨b, hb, qt, qf⟩ => by
      subst hb
      cases r3
      refine ⟨b, rfl, ?_⟩
      have e13 := (e1.trans e2).trans e3
      cases b with
      | true =>
        rw [if_pos rfl]
        exact qt rfl R σ H3 _ (hs.mono e13) h3 (x.ex e13) fun F4 ms4 d4 v4 H4 e4 h4 r4 q4 => q4 R v2 v4 H4 _ (r2.mono (e3.trans e4)) r4 h4 fun F5 ms5 d v H5 e5 => k F5 ms5 d v H5 ((e13.trans e4).trans e5)
      | false =>
        rw [if_neg (by decide)]
        exact k F3 ms3 _ _ H3 e13 h3 (.bl false) (qf rfl)
theorem ac_all {bs : List Bool} {d : D} (hd : d = .lst (bs.map D.bl)) (q : Q F ms (.bl (bs.all id))) : AC K (rAll K) [d] F ms Q := ac1 fun R v H Qc hv hh k => by
  subst hd
  obtain ⟨a, vs, rfl, hl, rl⟩ : ∃ a vs, v = .ref a ∧ F a = some (.lst vs) ∧ RepL K F (bs.map D.bl) vs := by
    cases hv with
    | lst h r => exact ⟨_, _, rfl, h, r⟩
  have hvs : vs = bs.map V.bl := by
    clear q hl hv hh k
    induction bs generalizing vs with
    | nil => cases rl; rfl
    | cons b bs ih =>
      cases rl with
      | cons h r => cases h; rw [ih _ r]; rfl
  subst hvs
  exact ⟨a, bs, rfl, SqL.of (hh.ex _ _ hl), k F ms _ _ H Ex.refl hh (.bl _) q⟩
end
/-- a def with defaults, that raises nothing -/
theorem fn_okD {P : Program} {w : World} {K : Frg} {mg : Str → Option Value} {base : Heap} {x qual : Str} {st : Stmt} {f : Addr} {fd : FuncData} {N ps : List Str} {dvs : List V} {kws : List (Str × V)} {k : Nat} {sp : ASp} (F : FunD K x qual (defArgs st) (defBody st) (defScope st) dvs kws f fd) (Sc : FnScope N ps (defScope st)) (len : ∀ ds F ms Q E, sp ds F ms Q E → ds.length = ps.length)
    (hbody : ∀ (cdv : Value) (A : Around) (outer : List Env) (s : Shared) (H : Hp) (E : XK), Room k (A.deeper (PyProof.Rows.envOfC qual (defScope st) s.heap.objs.size f cdv)) → ∃ t, PSs (cxOf CX0 P w K mg base N qual (defScope st) f cdv A outer s H E).nox (defBody st) t ∧
      ∀ ds F ms Q Ea, sp ds F ms Q Ea → AS ⟨K, E0, fun _ _ _ _ => False⟩ t F ms (startS N ds) { nx := fun F' ms' _ => Q F' ms' .non, rt := Q }) : FnOk P w K mg base CX0 (k + 1) f fd ps (toSp K sp) := by
  refine F.ok Sc (fun vs H Q E h => ?_) (fun cdv A outer s H vs Q E hr h => ?_)
  · obtain ⟨F0, ms, R, ds, Qa, Ea, h1, h2, h3, _⟩ := h
    rw [← h2.len]
    exact len _ _ _ _ _ h3
  · obtain ⟨F0, ms, R, ds, Qa, Ea, h1, h2, h3, h4, h5⟩ := h
    obtain ⟨t, ht, q⟩ := hbody cdv A outer s H E hr
    refine ⟨t, ht.nox, q ds F0 ms Qa Ea h3 R _ _ H (start_rep h2) h1 ⟨fun _ _ _ _ _ _ _ _ _ z => z.elim, fun F' ms' S' σ' H' e a b q' => h4 F' ms' .non .non H' e b .non q', fun F' ms' d v H' e b r q' => h4 F' ms' d v H' e b r q', fun _ _ _ _ _ _ _ _ z => z.elim, fun _ _ _ _ _ _ _ _ z => z.elim⟩⟩
end AL

set_option Elab.async false
set_option linter.all false
set_option maxRecDepth 100000
set_option maxHeartbeats 4000000
namespace AL
open PySem L2 PyProof.Rows
section
variable {Γ : Cg} {K : Frg} {F : Hp} {ms : Ms} {S : Sg} {Q : QE} {ta tb te tx : TE} {t u tt : TT} {r : R2} {ts tu tw : TS} {A : AEnds} {g : TG} {wi : TI} {vs : List Nat}
theorem isi_int_bool {i : Int} (q : Q F ms (.bl false)) : AC K (rIsi K) [.int i, .ty "bool"] F ms Q := ac_isi (b := false) (by show ("int" : String) ≠ ""; decide) (by intro ds h; cases h) (by show kitB "int" "bool" = some false; decide +kernel) q
theorem isi_int_int {i : Int} (q : Q F ms (.bl true)) : AC K (rIsi K) [.int i, .ty "int"] F ms Q := ac_isi (b := true) (by show ("int" : String) ≠ ""; decide) (by intro ds h; cases h) (by show kitB "int" "int" = some true; decide +kernel) q
theorem isi_str_str {z : Str} (q : Q F ms (.bl true)) : AC K (rIsi K) [.str z, .ty "str"] F ms Q := ac_isi (b := true) (by show ("str" : String) ≠ ""; decide) (by intro ds h; cases h) (by show kitB "str" "str" = some true; decide +kernel) q
theorem isi_tup_tuple {ds : List D} (q : Q F ms (.bl true)) : AC K (rIsi K) [.tup ds, .ty "tuple"] F ms Q := ac_isi (b := true) (by show ("tuple" : String) ≠ ""; decide) (by intro ds h; cases h) (by show kitB "tuple" "tuple" = some true; decide +kernel) q
theorem and_T {A B : Prop} (h : A) : (true = true → A) ∧ (true = false → B) := ⟨fun _ => h, fun z => Bool.noConfusion z⟩
theorem and_F {A B : Prop} (h : B) : (false = true → A) ∧ (false = false → B) := ⟨fun z => Bool.noConfusion z, fun _ => h⟩
theorem and_T' {A B : Prop} (h : A) : (true = false → B) ∧ (true = true → A) := ⟨fun z => Bool.noConfusion z, fun _ => h⟩
theorem and_F' {A B : Prop} (h : B) : (false = false → B) ∧ (false = true → A) := ⟨fun _ => h, fun z => Bool.noConfusion z⟩
end
/-! ### the start of a law -/
theorem start_law {K : Frg} {H : Hp} {a : Addr} {ns : List Int} {sp : ASp} (hS : SqL K H a (ns.map V.int)) (hq : ∀ F ms, sp [.rdl (ns.map D.int)] F ms (fun _ _ d => d = .bl true) fun _ _ _ _ => False) : toSp K sp [.ref a] H (fun v _ => v = .bl true) fun _ _ _ => False := by
  refine ⟨H, [], [], [.rdl (ns.map D.int)], _, _, ⟨Ex.refl, fun p hp => (List.not_mem_nil hp).elim, List.nodup_nil⟩, .cons (.rdl hS ?_) .nil, hq H [], fun F' ms' d v H' _ _ r e => ?_, fun _ _ _ _ _ _ _ _ _ z => z.elim⟩
  · clear hS hq
    induction ns with
    | nil => exact .nil
    | cons i ns ih => exact .cons (.int i) ih
  · subst e
    cases r
    rfl
end AL

set_option Elab.async false
set_option linter.all false
set_option maxRecDepth 100000
set_option maxHeartbeats 4000000
namespace AL
open PySem L2 PyProof.Rows
section
variable {Γ : Cg} {K : Frg} {F : Hp} {ms : Ms} {S : Sg} {Q : QE} {ta tb te tx : TE} {t u tt : TT} {r : R2} {ts tu tw : TS} {A : AEnds} {g : TG} {wi : TI} {vs : List Nat}
theorem as_cut (P : QS) (h1 : AS Γ ts F ms S { A with nx := P }) (h2 : ∀ F' ms' S', Ex F F' → P F' ms' S' → AS Γ tu F' ms' S' A) : AS Γ (tSeq ts tu) F ms S A :=
  as_seq (h1.mono (fun F' ms' S' e q => h2 F' ms' S' e q) (fun _ _ _ _ q => q) (fun _ _ _ _ q => q) (fun _ _ _ _ q => q))
/-- own[i] = value -/
theorem as_subO {to ti : TE} (h : AE Γ te F ms S fun F0 ms0 d => AE Γ to F0 ms0 S fun F1 ms1 o => AE Γ ti F1 ms1 S fun F2 ms2 i => ∃ (n : Nat) (l : Addr) (ds : List D) (z : Int) (j : Nat), o = .ref l ∧ i = .int z ∧ ms2[n]? = some (l, .lst ds) ∧ ixN ds.length z = some j ∧ A.nx F2 (ms2.set n (l, .lst (ds.set j d))) S) :
    AS Γ (tAsg te (gSub to ti rSetL)) F ms S A := as_asgG (h.mono fun F0 ms0 d e q => ag_subO q)
end
theorem ixN_of {n j : Nat} {z : Int} (hz : z = (j : Int)) (h : j < n) : ixN n z = some j := by
  subst hz
  unfold ixN
  rw [if_pos (by omega), if_pos (by omega)]
  simp
theorem atI_of {α : Type} {xs : List α} {j : Nat} {z : Int} {d : α} (hz : z = (j : Int)) (h : xs[j]? = some d) : atI xs z = some d := by
  unfold atI
  rw [ixN_of hz (List.getElem?_eq_some_iff.mp h).1]
  exact h
theorem ixN_neg {n j : Nat} {z : Int} (hz : z + (n : Int) = (j : Int)) (h : j < n) (h0 : z < 0) : ixN n z = some j := by
  unfold ixN
  rw [if_neg (by omega), if_pos (by omega), hz]
  simp
theorem atI_neg {α : Type} {xs : List α} {j : Nat} {z : Int} {d : α} (hz : z + (xs.length : Int) = (j : Int)) (h : xs[j]? = some d) (h0 : z < 0) : atI xs z = some d := by
  unfold atI
  rw [ixN_neg hz (List.getElem?_eq_some_iff.mp h).1 h0]
  exact h
theorem set_get {ms : Ms} {k : Nat} {p : Addr × MO} (h : k < ms.length) : (ms.set k p)[k]? = some p := by rw [List.getElem?_set_self h]
theorem set_set {ms : Ms} {k : Nat} {p q : Addr × MO} : (ms.set k p).set k q = ms.set k q := by simp
theorem set_same {ms : Ms} {k : Nat} {p : Addr × MO} (h : ms[k]? = some p) : ms.set k p = ms := by
  apply List.ext_getElem?
  intro j
  rw [List.getElem?_set]
  by_cases e : k = j
  · subst e; rw [if_pos rfl, h]; rw [if_pos (List.getElem?_eq_some_iff.mp h).1]
  · rw [if_neg e]
end AL

set_option Elab.async false
set_option linter.all false
set_option maxRecDepth 100000
set_option maxHeartbeats 4000000
namespace AL
open PySem L2 PyProof.Rows StX
section
variable {Γ : Cg} {K : Frg} {F : Hp} {ms : Ms} {S : Sg} {Q : QE} {ta tb te tx tv : TE} {t u tt : TT} {r : R2} {ts tu tw : TS} {A : AEnds} {g : TG} {wi : TI} {vs : List Nat}
noncomputable def rSIX : V → List V → Hp → VK → Prop := fun x xs H Q => ∃ a b i rest, x = .str a ∧ xs = [.str b] ∧ Builtin.Str.occurrences a b 0 a.length 1 = i :: rest ∧ Q (.int (i : Nat)) H
theorem rep_ints {ns : List Int} {vs : List V} (h : RepL K F (ns.map D.int) vs) : vs = ns.map V.int := by
  induction ns generalizing vs with
  | nil => cases h; rfl
  | cons n ns ih =>
    cases h with
    | cons a b => cases a; rw [ih b]; rfl
theorem rep_strs {ns : List Str} {vs : List V} (h : RepL K F (ns.map D.str) vs) : vs = ns.map V.str := by
  induction ns generalizing vs with
  | nil => cases h; rfl
  | cons n ns ih =>
    cases h with
    | cons a b => cases a; rw [ih b]; rfl
theorem kSUM {X : Cx} (h : X.K = K) (hc : X.calm = true) : CallR X (.builtin "sum") (rSum K) := h ▸ cr_sum hc
theorem ac_sumL {ns : List Int} (q : Q F ms (.int ns.sum)) : AC K (rSum K) [.lst (ns.map D.int)] F ms Q := ac1 fun R v H Qc hv hh k => by
  cases hv with
  | lst h r =>
    have e := rep_ints r
    subst e
    exact ⟨_, ns, rfl, SqL.of (hh.ex _ _ h), k F ms _ _ H Ex.refl hh (.int _) q⟩
/-- an owned list + a list: a new owned one -/
theorem ar_ADDoo {l : Addr} {xs ys : List D} (n : Nat) (hn : ms[n]? = some (l, .lst xs)) (h : xs.length + ys.length ≤ 100000) (q : ∀ l2, Q F ((l2, .lst (xs ++ ys)) :: ms) (.ref l2)) : AR K (rADD K) (.ref l) (.lst ys) F ms Q := ar_inr (ar_inr (ar_inl fun R u v H Qc hu hv hh k => by
  cases hu
  obtain ⟨_, vs, hl, r⟩ := hh.at (get_app hn)
  cases hv with
  | lst hb rb =>
    refine ⟨_, _, _, _, rfl, rfl, hl, hh.ex _ _ hb, Evl.sz_of (by rw [← r.len, ← rb.len]; exact h), fun p hp => ?_⟩
    exact k F ((p, .lst (xs ++ ys)) :: ms) (.ref p) _ _ Ex.refl (hh.made (m := .lst (xs ++ ys)) hp ⟨_, upd_same, r.append rb⟩) (.ref p) (q p)))
noncomputable def rangeC (lo c : Int) (n : Nat) : List D := (List.range n).map fun i => .int (lo + (i : Nat) * c)
theorem ai_rng3 {ta : TA} (h : AA Γ ta F ms S fun F1 ms1 ds => ∃ (i j c : Int) (n : Nat), ds = [.int i, .int j, .int c] ∧ RgC i j c n ∧ P F1 ms1 (rangeC i c n) fun _ => True) : AI Γ (iRng3 ta) F ms S P := fun R σ H Rc hs hh x k =>
  h R σ H _ hs hh x fun F1 ms1 ds vs H1 e1 h1 r1 ⟨i, j, c, n, hd, n1, p⟩ => by
    subst hd
    cases r1 with
    | cons a b =>
      cases b with
      | cons b d =>
        cases d with
        | cons d e =>
          cases e
          cases a
          cases b
          cases d
          refine ⟨i, j, c, n, rfl, n1, k F1 ms1 _ (fun _ => True) _ H1 e1 h1 ⟨fun _ i H F' ms' hi _ _ _ => ?_, fun _ H F' ms' _ _ _ => ?_, fun _ m H x H' F' ms' hi _ hh' _ y => ?_⟩ p⟩
          · unfold rangeC at hi; rw [List.length_map, List.length_range] at hi; exact hi
          · show n ≤ (rangeC i c n).length; unfold rangeC; rw [List.length_map, List.length_range]; exact Nat.le_refl _
          · unfold rangeC at hi; rw [List.length_map, List.length_range] at hi
            obtain ⟨y1, y2⟩ := y
            subst y1 y2
            refine ⟨F', .int (i + (m : Nat) * c), Ex.refl, hh', ?_, .int _⟩
            unfold rangeC
            rw [List.getElem?_map, List.getElem?_range hi]
            rfl
end
theorem rangeC_at {lo c : Int} {n i : Nat} {d : D} (h : (rangeC lo c n)[i]? = some d) : i < n ∧ d = .int (lo + (i : Nat) * c) := by
  have hi := (List.getElem?_eq_some_iff.mp h).1
  unfold rangeC at hi h
  rw [List.length_map, List.length_range] at hi
  rw [List.getElem?_map, List.getElem?_range hi] at h
  exact ⟨hi, (Option.some.inj h).symm⟩
theorem rangeC_len {lo c : Int} {n : Nat} : (rangeC lo c n).length = n := by unfold rangeC; rw [List.length_map, List.length_range]
end AL

set_option Elab.async false
set_option linter.all false
set_option maxRecDepth 100000
set_option maxHeartbeats 4000000
namespace AL
open PySem L2 PyProof.Rows
/-! ### a, *b = a list -/
noncomputable def gStar (K : Frg) (t : TGs) : TG := fun v σ H Q => ∃ l x xs, v = .ref l ∧ SqL K H l (x :: xs) ∧ xs.length ≤ 10000 ∧ ∀ p, H p = none → t [x, .ref p] σ (upd H p (.lst xs)) Q
section
variable {Γ : Cg} {K : Frg} {F : Hp} {ms : Ms} {S : Sg} {Q : QE} {ta tb te tx tv : TE} {t u tt : TT} {r : R2} {ts tu tw : TS} {A : AEnds} {g : TG} {gs : TGs} {wi : TI} {vs : List Nat}
end
end AL

set_option Elab.async false
set_option linter.all false
set_option maxRecDepth 100000
set_option maxHeartbeats 4000000
namespace AL
open PySem L2 PyProof.Rows
open PySem.Builtin.Str PySem.StrLaws RZ
/-! ### split at one sign, at most twice -/
noncomputable def ostep (s sub : Str) (hi limit : Nat) (st : Array Nat × Nat) (i : Nat) : Array Nat × Nat :=
  if ((st.fst.size < limit ∧ st.snd ≤ i) ∧ i + sub.length ≤ hi) ∧ subAt s sub i = true then (st.fst.push i, i + sub.length) else (st.fst, st.snd)
section
variable {Γ : Cg} {K : Frg} {F : Hp} {ms : Ms} {S : Sg} {Q : QE} {ta tb te tx tv : TE} {A : AEnds} {P : Hp → Ms → List D → (Ms → Prop) → Prop}
noncomputable def rSPL : V → List V → Hp → VK → Prop := fun x xs H Q => ∃ a b, x = .str a ∧ xs = [.str b] ∧ (b.length == 0) = false ∧ a.length + 2 ≤ sizeLine ∧ rNewStrs (Txt.split a b) H Q
noncomputable def rSPM : V → List V → Hp → VK → Prop := fun x xs H Q => ∃ (a b : Str) (k : Int), x = .str a ∧ xs = [.str b, .int k] ∧ (b.length == 0) = false ∧ -(2 ^ 63) ≤ k ∧ k < 2 ^ 63 ∧ a.length + 2 ≤ sizeLine ∧ rNewStrs (Txt.splitMax a b k) H Q
theorem rep_strl (ys : List Str) : RepL K F (ys.map D.str) (ys.map V.str) := by
  induction ys with
  | nil => exact .nil
  | cons y ys ih => exact .cons (.str y) ih
theorem kANY {X : Cx} (h : X.K = K) (hc : X.calm = true) : CallR X (.builtin "any") (rAny K) := h ▸ cr_any hc
theorem ac_any {bs : List Bool} {d : D} (hd : d = .lst (bs.map D.bl)) (q : Q F ms (.bl (bs.any id))) : AC K (rAny K) [d] F ms Q := ac1 fun R v H Qc hv hh k => by
  subst hd
  obtain ⟨a, vs, rfl, hl, rl⟩ : ∃ a vs, v = .ref a ∧ F a = some (.lst vs) ∧ RepL K F (bs.map D.bl) vs := by
    cases hv with
    | lst h r => exact ⟨_, _, rfl, h, r⟩
  have hvs : vs = bs.map V.bl := by
    clear q hl hv hh k
    induction bs generalizing vs with
    | nil => cases rl; rfl
    | cons b bs ih =>
      cases rl with
      | cons h r => cases h; rw [ih _ r]; rfl
  subst hvs
  exact ⟨a, bs, rfl, SqL.of (hh.ex _ _ hl), k F ms _ _ H Ex.refl hh (.bl _) q⟩
/-- zip of two tuples of one length -/
noncomputable def zipD (xs ys : List D) : List D := (xs.zip ys).map fun p => .tup [p.1, p.2]
theorem zipD_len {xs ys : List D} (h : xs.length = ys.length) : (zipD xs ys).length = xs.length := by unfold zipD; rw [List.length_map, List.length_zip, h, Nat.min_self]
theorem zipD_get {xs ys : List D} {i : Nat} {d e : D} (h1 : xs[i]? = some d) (h2 : ys[i]? = some e) : (zipD xs ys)[i]? = some (.tup [d, e]) := by
  unfold zipD
  have e2 : (xs.zip ys)[i]? = some (d, e) := List.getElem?_zip_eq_some.mpr ⟨h1, h2⟩
  rw [List.getElem?_map, e2]
  rfl
theorem zipD_inv {xs ys : List D} {i : Nat} {e : D} (h : (zipD xs ys)[i]? = some e) : ∃ a b, xs[i]? = some a ∧ ys[i]? = some b ∧ e = .tup [a, b] := by
  unfold zipD at h
  rw [List.getElem?_map] at h
  cases q : (xs.zip ys)[i]? with
  | none => rw [q] at h; cases h
  | some p =>
    rw [q] at h
    obtain ⟨h1, h2⟩ := List.getElem?_zip_eq_some.mp q
    exact ⟨_, _, h1, h2, (Option.some.inj h).symm⟩
theorem ai_zipT {ta : TA} (h : AA Γ ta F ms S fun F1 ms1 ds => ∃ xs ys : List D, ds = [.tup xs, .tup ys] ∧ xs.length = ys.length ∧ P F1 ms1 (zipD xs ys) fun _ => True) : AI Γ (iZipA Γ.K ta) F ms S P := fun R σ H Rc hs hh x k =>
  h R σ H _ hs hh x fun F1 ms1 ds vs H1 e1 h1 r1 ⟨xs, ys, hd, hl, p⟩ => by
    subst hd
    cases r1 with
    | cons a b =>
      cases b with
      | cons b c =>
        cases c
        cases a with
        | @tup a us _ ha ra =>
          cases b with
          | @tup b ws _ hb rb =>
            refine ⟨a, b, us, ws, rfl, .inr ⟨ex_t h1.ex ha, ex_t h1.ex hb, k F1 ms1 _ (fun _ => True) _ H1 e1 h1 ⟨fun _ i H' F' ms' hi e' hh' _ => ?_, fun _ H' F' ms' e' hh' _ => ?_, fun _ i H' x' H2 F' ms' hi e' hh' _ y => ?_⟩ p⟩⟩
            · rw [zipD_len hl] at hi
              exact ⟨us, ws, us[i]'(by rw [← ra.len]; exact hi), ws[i]'(by rw [← rb.len, ← hl]; exact hi), ex_t hh'.ex (ex_t e' ha), ex_t hh'.ex (ex_t e' hb), by simp [show i < us.length by rw [← ra.len]; exact hi], by simp [show i < ws.length by rw [← rb.len, ← hl]; exact hi]⟩
            · exact ⟨us, ws, ex_t hh'.ex (ex_t e' ha), ex_t hh'.ex (ex_t e' hb), .inl (by rw [zipD_len hl, ra.len]; exact Nat.le_refl _)⟩
            · obtain ⟨T, u, w, y1, y2, y3, y4, y5⟩ := y
              subst y1 y3
              obtain ⟨d, hd, rd⟩ := ra.get (y4 us (ex_t hh'.ex (ex_t e' ha)))
              obtain ⟨e, he, re⟩ := rb.get (y5 ws (ex_t hh'.ex (ex_t e' hb)))
              obtain ⟨F'', e2, h2, r2⟩ := pair_rep hh' y2 (rd.mono e') (re.mono e')
              exact ⟨F'', _, e2, h2, zipD_get hd he, r2⟩
end
theorem pi_zipk {X : Cx} {K : Frg} {e e2 : Expr} {ta : TA} {p pos tpos : Pos} {elts : List Expr} {kk : Nat} (h : X.K = K) (hg : Gl X "zip") (hm : X.mg "zip" = none) (ha : PA X [e, e2] ta)
    (hs : starEach [e, e2] X.env = (false, eval e X.env) :: starEach [e2] X.env := by rfl) (hpl : (backTo pos (starEach [e2] X.env)).any (·.1) = false := by rfl) :
    PI X (.Tuple elts kk tpos) (.Call (.Name "zip" p) [e, e2] [] pos) (iZipA K ta) := h ▸ pi_zipA hg hm ha hs hpl
theorem pg_tupk {X : Cx} {K : Frg} {es : List Expr} {k : Nat} {t : TGs} {n : Nat} {pos : Pos} (hK : X.K = K) (hc : X.calm = true) (h : PGs X es t)
    (hn : (assignEach es X.env).length = n := by rfl) (hst : (assignEach es X.env).findIdx? (·.1) = none := by rfl) : PG X (.Tuple es k pos) (gTup K n t) := hK ▸ pg_tup hc h hn hst
end AL

set_option Elab.async false
set_option linter.all false
set_option maxRecDepth 100000
set_option maxHeartbeats 4000000
namespace AL
open PySem L2 PyProof.Rows
section
variable {Γ : Cg} {K : Frg} {F : Hp} {ms : Ms} {S : Sg} {Q : QE}
end
end AL

set_option Elab.async false
set_option linter.all false
set_option maxRecDepth 100000
set_option maxHeartbeats 4000000
/-! Dicts walked over (under a lock), sorted, in, min and max, one new dict by a comprehension. -/
namespace AL
open PySem L2 PyProof.Rows
noncomputable def kD : Key → D
  | .inl i => .int i
  | .inr s => .str s
theorem rep_kD {K : Frg} {F : Hp} (k : Key) : Rep K F (kD k) (kV k) := by
  cases k with
  | inl i => exact .int i
  | inr s => exact .str s
theorem RepK.getK {K : Frg} {F : Hp} : ∀ {ds : List (Key × D)} {vs : List (Key × V)} {i : Nat} {k : Key} {v : V}, RepK K F ds vs → vs[i]? = some (k, v) → ∃ d, ds[i]? = some (k, d) ∧ Rep K F d v
  | _, _, i, _, _, .nil, e => by simp at e
  | _, _, 0, _, _, .cons h r, e => by
    cases e
    exact ⟨_, rfl, h⟩
  | _, _, i + 1, _, _, .cons h r, e => RepK.getK (i := i) r (by simpa using e)
theorem RepK.lenK {K : Frg} {F : Hp} : ∀ {ds : List (Key × D)} {vs : List (Key × V)}, RepK K F ds vs → ds.length = vs.length
  | _, _, .nil => rfl
  | _, _, .cons _ r => by rw [List.length_cons, List.length_cons, RepK.lenK r]
section
variable {Γ : Cg} {K : Frg} {F : Hp} {ms : Ms} {S : Sg} {Q : QE} {ta tb te tx tv td : TE} {t u tt : TT} {r : R2} {ts tu tw : TS} {A : AEnds} {g : TG} {wi : TI} {vs : List Nat} {P : Hp → Ms → List D → (Ms → Prop) → Prop}
/-- the owned dict at l is locked: what stands at l while it is -/
noncomputable def Lck (ms : Ms) (l : Addr) (vs : List (Key × V)) : Prop := ∃ (n : Nat) (od : Obj), ms[n]? = some (l, .raw (.frz od (.dK vs)))
/-- the lock goes -/
noncomputable def unl (K : Frg) (l : Addr) (kvs : List (Key × D)) (vs : List (Key × V)) (od : Obj) (ms : Ms) (P : Ms → Prop) : Prop := ∃ m : Nat, ms[m]? = some (l, .raw (.frz od (.dK vs))) ∧ P (ms.set m (l, .dic kvs))
theorem as_lock {l : Addr} {kvs : List (Key × D)} (n : Nat) (hn : ms[n]? = some (l, .dic kvs)) (h : ∀ od vs, RepK Γ.K F kvs vs → AS Γ ts F (ms.set n (l, .raw (.frz od (.dK vs)))) S { nx := fun F' ms' S' => unl Γ.K l kvs vs od ms' fun m => A.nx F' m S', rt := fun F' ms' d => unl Γ.K l kvs vs od ms' fun m => A.rt F' m d, bk := fun F' ms' S' => unl Γ.K l kvs vs od ms' fun m => A.bk F' m S', ct := fun F' ms' S' => unl Γ.K l kvs vs od ms' fun m => A.ct F' m S' }) :
    AS Γ (tLock ts) F ms S A := fun R E σ H hs hh le => by
  obtain ⟨_, vs, hd, rk⟩ := hh.at (get_app hn)
  refine ⟨l, .dK vs, hd, trivial, fun od => h od vs rk R _ σ _ hs ?_ ⟨le.xe, ?_, ?_, ?_, ?_⟩⟩
  · rw [← set_app hn]
    exact hh.set (get_app hn) upd_same
  · rintro F' ms' S' σ' H' e a b ⟨m, hm, q⟩
    refine ⟨(b.at (get_app hm)).2, le.nx F' _ S' σ' _ e a ?_ q⟩
    rw [← set_app hm]
    exact b.set (get_app hm) ⟨vs, upd_same, rk.mono e⟩
  · rintro F' ms' d v H' e b r ⟨m, hm, q⟩
    refine ⟨(b.at (get_app hm)).2, le.rt F' _ d v _ e ?_ r q⟩
    rw [← set_app hm]
    exact b.set (get_app hm) ⟨vs, upd_same, rk.mono e⟩
  · rintro F' ms' S' σ' H' e a b ⟨m, hm, q⟩
    refine ⟨(b.at (get_app hm)).2, le.bk F' _ S' σ' _ e a ?_ q⟩
    rw [← set_app hm]
    exact b.set (get_app hm) ⟨vs, upd_same, rk.mono e⟩
  · rintro F' ms' S' σ' H' e a b ⟨m, hm, q⟩
    refine ⟨(b.at (get_app hm)).2, le.ct F' _ S' σ' _ e a ?_ q⟩
    rw [← set_app hm]
    exact b.set (get_app hm) ⟨vs, upd_same, rk.mono e⟩
theorem ae_lock {l : Addr} {kvs : List (Key × D)} (n : Nat) (hn : ms[n]? = some (l, .dic kvs)) (h : ∀ od vs, RepK Γ.K F kvs vs → AE Γ te F (ms.set n (l, .raw (.frz od (.dK vs)))) S fun F' ms' d => unl Γ.K l kvs vs od ms' fun m => Q F' m d) :
    AE Γ (tLockE te) F ms S Q := fun R σ H Qc hs hh x k => by
  obtain ⟨_, vs, hd, rk⟩ := hh.at (get_app hn)
  refine ⟨l, .dK vs, hd, trivial, fun od => h od vs rk R σ _ _ hs ?_ x ?_⟩
  · rw [← set_app hn]
    exact hh.set (get_app hn) upd_same
  · rintro F' ms' d v H' e b r ⟨m, hm, q⟩
    refine ⟨(b.at (get_app hm)).2, k F' _ d v _ e ?_ r q⟩
    rw [← set_app hm]
    exact b.set (get_app hm) ⟨vs, upd_same, rk.mono e⟩
noncomputable def itemsD (kvs : List (Key × D)) : List D := kvs.map fun p => .tup [kD p.1, p.2]
noncomputable def keysD (kvs : List (Key × D)) : List D := kvs.map fun p => kD p.1
/-- for .. in o.items(), o an owned dict under the lock -/
theorem ai_items (h : AE Γ td F ms S fun F1 ms1 x => ∃ (l : Addr) (od : Obj) (vs : List (Key × V)) (kvs : List (Key × D)) (n : Nat), x = .ref l ∧ ms1[n]? = some (l, .raw (.frz od (.dK vs))) ∧ RepK Γ.K F1 kvs vs ∧ P F1 ms1 (itemsD kvs) fun ms' => ∃ n : Nat, ms'[n]? = some (l, .raw (.frz od (.dK vs)))) :
    AI Γ (iItems td) F ms S P := fun R σ H Rc hs hh x k =>
  h R σ H _ hs hh x fun F1 ms1 d v H1 e1 h1 r1 ⟨l, od, vs, kvs, n, hx, hn, rk, p⟩ => by
    subst hx
    cases r1
    refine ⟨l, od, vs, rfl, (h1.at (get_app hn)).2, k F1 ms1 _ _ _ H1 e1 h1 ⟨fun _ i H' F' ms' hi e' hh' ⟨n', hn'⟩ => ?_, fun _ H' F' ms' e' hh' ⟨n', hn'⟩ => ?_, fun _ i H' x' H2 F' ms' hi e' hh' ⟨n', hn'⟩ y => ?_⟩ p⟩
    · refine ⟨(hh'.at (get_app hn')).2, ?_⟩
      unfold itemsD at hi
      rw [List.length_map, rk.lenK] at hi
      exact hi
    · refine ⟨(hh'.at (get_app hn')).2, ?_⟩
      unfold itemsD
      rw [List.length_map, rk.lenK]
      exact Nat.le_refl _
    · obtain ⟨T, key, v, y1, y2, y3, y4⟩ := y
      subst y2 y4
      obtain ⟨d, hd, rd⟩ := rk.getK y1
      obtain ⟨F'', e2, h2, r2⟩ := pair_rep hh' y3 (rep_kD key) (rd.mono e')
      refine ⟨F'', _, e2, h2, ?_, r2⟩
      unfold itemsD
      rw [List.getElem?_map, hd]
      rfl
/-! ### sorted -/
noncomputable def rSRT (K : Frg) : List V → Hp → VK → Prop := fun xs H Q => rSorted K xs H Q ∨ rSortedS K xs H Q
theorem kSRT {X : Cx} (h : X.K = K) : CallR X (.builtin "sorted") (rSRT K) := h ▸ cor cr_sorted cr_sortedS
theorem lst_of {d : D} {ds : List D} {v : V} {H : Hp} {R : Ms} (hl : LstA F ms d ds) (hh : Hold K F (ms ++ R) H) (r : Rep K F d v) : ∃ a us, v = .ref a ∧ SqL K H a us ∧ RepL K F ds us := by
  obtain ⟨a, us, rfl, ha, rr⟩ := hl.to hh r
  exact ⟨a, us, rfl, ha, rr⟩
theorem ac_sortS {d : D} {xs : List Str} (hl : LstA F ms d (xs.map D.str)) (hz : xs.length < 64) (q : ∀ F' (ys : List Str), Ex F F' → ys.Perm xs → sortedS ys = true → Q F' ms (.lst (ys.map D.str))) : AC K (rSRT K) [d] F ms Q := AC.or2 (ac1 fun R v H Qc hv hh k => by
  obtain ⟨a, us, rfl, ha, rr⟩ := lst_of hl hh hv
  have e := rep_strs rr
  subst e
  refine ⟨a, xs, rfl, ha, hz, fun ys p hp hs hn => ?_⟩
  obtain ⟨e, hh'⟩ := hh.laid (.lst (ys.map V.str)) hn
  exact k _ ms _ _ _ e hh' (.lst upd_same (rep_strl _)) (q _ ys e hp hs))
end
end AL

set_option Elab.async false
set_option linter.all false
set_option maxRecDepth 100000
set_option maxHeartbeats 4000000
namespace AL
open PySem L2 PyProof.Rows
section
variable {Γ : Cg} {K : Frg} {F : Hp} {ms : Ms} {S : Sg} {Q : QE} {ta tb te tx tv tk td : TE} {t u tt tt1 : TT} {r : R2} {ts tu tw : TS} {A : AEnds} {g g1 : TG} {wi wi1 : TI} {vs vs1 : List Nat} {P : Hp → Ms → List D → (Ms → Prop) → Prop}
/-- {k: v for ..}: a new owned dict -/
theorem ae_dc (hg : GW g vs) (gm : ∀ v σ H N N', (∀ σ2 H2, N σ2 H2 → N' σ2 H2) → g v σ H N → g v σ H N') (h : AI Γ wi F ms S fun F1 ms1 ds G => ∃ I : Nat → Hp → Ms → List (Key × D) → Prop, I 0 F1 ms1 [] ∧ (∀ i F' ms' acc, Ex F1 F' → I i F' ms' acc → G ms') ∧
    (∀ i d F' ms' acc, Ex F1 F' → ds[i]? = some d → I i F' ms' acc → ∀ F'', Ex F' F'' → AG Γ.nox g d F'' ms' (wipeS S vs) fun F2 ms2 S2 => AT Γ.nox tt F2 ms2 S2 fun F3 ms3 b => (b = true → AE Γ.nox tk F3 ms3 S2 fun F4 ms4 y => ∃ key, keyD y = some key ∧ AE Γ.nox tv F4 ms4 S2 fun F5 ms5 z => acc.length < 100000 ∧ I (i + 1) F5 ms5 (putKD acc key z)) ∧ (b = false → I (i + 1) F3 ms3 acc)) ∧
    (∀ F' ms' acc, Ex F1 F' → I ds.length F' ms' acc → ∀ l, Q F' ((l, .dic acc) :: ms') (.ref l))) : AE Γ (tDc wi g tt tk tv vs) F ms S Q := fun R σ H Qc hs hh x k =>
  h R σ H _ hs hh x fun F1 ms1 ds G J H1 e1 h1 it ⟨I, i0, iG, ib, ie⟩ => by
    intro D hD
    refine ⟨fun i m H' => m = ds.length - i ∧ i ≤ ds.length ∧ ∃ F' ms' acc, Ex F1 F' ∧ Hold Γ.K F' (ms' ++ (D, .dic acc) :: R) H' ∧ I i F' ms' acc, ⟨_, rfl, Nat.zero_le _, F1, ms1, [], Ex.refl, ?_, i0⟩, ?_⟩
    · exact (h1.made (m := .dic []) hD ⟨[], upd_same, .nil⟩).perm List.perm_middle
    rintro i m H' ⟨rfl, hi, F', ms', acc, e', hh', p⟩
    have hG := iG i F' ms' acc e' p
    by_cases hlt : i < ds.length
    · refine .inr ⟨it.goes _ i H' F' ms' hlt e' hh' hG, fun H2 => ∃ F2 ms2 acc2, Ex F1 F2 ∧ Hold Γ.K F2 (ms2 ++ (D, .dic acc2) :: R) H2 ∧ I (i + 1) F2 ms2 acc2, fun H2 ⟨F2, ms2, acc2, e2, b2, q2⟩ => ⟨ds.length - (i + 1), by omega, rfl, hlt, F2, ms2, acc2, e2, b2, q2⟩, fun x H2 y => ?_⟩
      obtain ⟨F2, d, e2, hh2, hd, hr⟩ := it.yields _ i H' x H2 F' ms' hlt e' hh' hG y
      refine gm x _ H2 _ _ (fun σ2 H3 z => ⟨z.2, z.1⟩) (hg x _ H2 _ _ (wipe_wipe σ vs) ?_)
      refine ib i d F' ms' acc e' hd p F2 e2 _ x (L2.wipe σ vs) H2 _ hr (((hs.mono e1).mono (e'.trans e2)).wipe vs) hh2 xle0 fun F3 ms3 S3 σ3 H3 e3 a3 b3 q3 => ?_
      refine q3 _ σ3 H3 _ a3 b3 xle0 fun F4 ms4 b H4 e4 b4 q4 => ?_
      cases b with
      | true =>
        refine q4.1 rfl _ σ3 H4 _ (a3.mono e4) b4 xle0 fun F5 ms5 d5 v5 H5 e5 b5 r5 ⟨key, hk, q5⟩ => ?_
        have ek := key_rep r5 hk
        subst ek
        refine q5 _ σ3 H5 _ ((a3.mono e4).mono e5) b5 xle0 fun F6 ms6 d6 v6 H6 e6 b6 r6 q6 => ?_
        obtain ⟨_, vs6, hl, rl⟩ := b6.at mid_get
        refine ⟨vs6, key, rfl, hl, Evl.sz_lt (by rw [← rl.lenK]; exact q6.1), F6, ms6, putKD acc key d6, ((((e'.trans e2).trans e3).trans e4).trans e5).trans e6, ?_, q6.2⟩
        have := b6.set (m' := .dic (putKD acc key d6)) (o := .dK (putK vs6 key v6)) mid_get ⟨_, upd_same, rl.put r6 key⟩
        rw [mid_set] at this
        exact this
      | false => exact ⟨F4, ms4, acc, ((e'.trans e2).trans e3).trans e4, b4, q4.2 rfl⟩
    · have ei : i = ds.length := by omega
      subst ei
      refine .inl ⟨it.stops _ H' F' ms' e' hh' hG, ?_⟩
      exact k F' ((D, .dic acc) :: ms') (.ref D) _ H' (e1.trans e') (hh'.perm List.perm_middle.symm) (.ref D) (ie F' ms' acc e' p D)
/-! ### in, of texts -/
theorem in_strs (x : Str) (xs : List Str) : inV (.str x) (xs.map V.str) = decide (x ∈ xs) := by
  unfold inV
  rw [List.any_map]
  by_cases h : x ∈ xs
  · rw [decide_eq_true h]
    exact List.any_eq_true.mpr ⟨x, h, by simp [eqV]⟩
  · rw [decide_eq_false h, List.any_eq_false]
    intro y hy z
    simp [eqV] at z
    exact h (z ▸ hy)
theorem seq_strs {d : D} {xs : List Str} {v : V} {H : Hp} {R : Ms} (hd : LstA F ms d (xs.map D.str) ∨ d = .tup (xs.map D.str)) (hh : Hold K F (ms ++ R) H) (hr : Rep K F d v) : ∃ p, v = .ref p ∧ (SqL K H p (xs.map V.str) ∨ SqT K H p (xs.map V.str)) := by
  rcases hd with hl | rfl
  · obtain ⟨a, us, rfl, ha, rr⟩ := hl.to hh hr
    have e := rep_strs rr
    subst e
    exact ⟨a, rfl, .inl ha⟩
  · cases hr with
    | tup hq rr =>
      have e := rep_strs rr
      subst e
      exact ⟨_, rfl, .inr (ex_t hh.ex hq)⟩
theorem ar_INl {d : D} {x : Str} {xs : List Str} (hd : LstA F ms d (xs.map D.str) ∨ d = .tup (xs.map D.str)) (q : Q F ms (.bl (decide (x ∈ xs)))) : AR K (rIN K) (.str x) d F ms Q := ar_inr fun R u v H Qc hu hv hh k => by
  cases hu
  obtain ⟨p, rfl, hs⟩ := seq_strs hd hh hv
  refine ⟨p, _, rfl, hs, rfl, ?_, ?_⟩
  · rw [List.all_map]
    exact List.all_eq_true.mpr fun y _ => rfl
  · show Qc (.bl (inV (.str x) (xs.map V.str))) H
    rw [in_strs]
    exact k F ms _ _ H Ex.refl hh (.bl _) q
end
end AL

set_option Elab.async false
set_option linter.all false
set_option maxRecDepth 100000
set_option maxHeartbeats 4000000
/-! zip of two texts -/
namespace AL
open PySem PySem.Spec PySem.W PyProof.Rows L2
noncomputable def IteZ (x y : Str) : It :=
  ⟨fun i H => i < x.cps.size ∧ i < y.cps.size, fun i H v H' => ∃ T c d, v = .ref T ∧ H T = none ∧ H' = upd H T (.tup [.str ⟨#[c]⟩, .str ⟨#[d]⟩]) ∧ x.cps[i]? = some c ∧ y.cps[i]? = some d, fun i H => i ≤ x.cps.size ∧ i ≤ y.cps.size ∧ (i = x.cps.size ∨ i = y.cps.size)⟩
theorem turn_zipS {P : Program} {w : World} {K : Frg} {elts : List Expr} {kk : Nat} {tpos : Pos} {x y : Str} {tx ty : Tok} {z TI TO i1 i2 : Addr} (D : ZipSep2 z TI TO i1 i2 [i1] [i2]) :
    Turn P w K (.Tuple elts kk tpos) (IteZ x y) [z, TI, TO, i1, i2] z (fun i h => IsZip h z TI TO .none ∧ IsTupOf2 h TI (.ref i1) (.ref i2) ∧ (∃ a b, IsTupOf2 h TO a b) ∧ h.IsStrIter i1 (strIterType x) x tx i ∧ h.IsStrIter i2 (strIterType y) y ty i) where
  mem := by simp
  obj := fun i h st c hc => by
    obtain ⟨hz, hTI, ⟨a, b, hTO⟩, ⟨o1, e1, _, d1⟩, ⟨o2, e2, _, d2⟩⟩ := st
    have e' : c = z ∨ c = TI ∨ c = TO ∨ c = i1 ∨ c = i2 := by simpa using hc
    rcases e' with q | q | q | q | q
    · rw [q]; exact ⟨_, hz, fun v q => nomatch q⟩
    · rw [q]; exact ⟨_, hTI, fun v q => nomatch q⟩
    · rw [q]; exact ⟨_, hTO, fun v q => nomatch q⟩
    · rw [q]; exact ⟨o1, e1, fun v q => by rw [d1] at q; cases q⟩
    · rw [q]; exact ⟨o2, e2, fun v q => by rw [d2] at q; cases q⟩
  keep := fun i h h' st k => by
    obtain ⟨hz, hTI, ⟨a, b, hTO⟩, ⟨o1, e1, r1⟩, ⟨o2, e2, r2⟩⟩ := st
    exact ⟨k z (by simp) _ hz, k TI (by simp) _ hTI, ⟨a, b, k TO (by simp) _ hTO⟩, ⟨o1, k i1 (by simp) o1 e1, r1⟩, ⟨o2, k i2 (by simp) o2 e2, r2⟩⟩
  item := by
    intro X hP hw hK hc i pins s σ H E I hf st hg
    subst hP hw hK
    obtain ⟨hz, hTI, ⟨a, b, hTO⟩, h1, h2⟩ := st
    obtain ⟨g1, g2⟩ := hg
    have hzl : z < s.heap.objs.size := Heap.lt_size hz
    refine wpAny_pyNext_zipD2_item D (Draws.text (A := X.A.in1) (I.ok.hd hc) i1 x tx) (Draws.text (A := X.A.in1) (I.ok.hd hc) i2 y ty) hz hTI hTO h1 h2 g1 g2 fun x1 x2 h' tk p1 p2 z' TO' h1' h2' hT hsz hk => ?_
    obtain ⟨c, u, hcx, e1⟩ := p1
    obtain ⟨d, u2, hdy, e2⟩ := p2
    subst e1 e2
    refine ⟨_, rfl, wpAny_letOwnedTupleGo_zip (s := { s with heap := h', toks := tk }) z' fun h'' z'' sb => ?_⟩
    have hT2 : h''.get? s.heap.objs.size = some { cls := .type "tuple", data := .seq #[.str ⟨#[c]⟩ u, .str ⟨#[d]⟩ u2] } := (sb.2 _ (Nat.ne_of_gt hzl)).trans hT
    have new : ObjOk X.prog X.w (upd H s.heap.objs.size (.tup [.str ⟨#[c]⟩, .str ⟨#[d]⟩])) h'' s.heap.objs.size (.tup [.str ⟨#[c]⟩, .str ⟨#[d]⟩]) :=
      ⟨by show 2 ≤ sizeLine; decide, [.str ⟨#[c]⟩ u, .str ⟨#[d]⟩ u2], .cons ⟨_, rfl⟩ (.cons ⟨_, rfl⟩ .nil), ⟨_, hT2, rfl, _, rfl⟩⟩
    have I1 : Inv X pins σ (upd H s.heap.objs.size (.tup [.str ⟨#[c]⟩, .str ⟨#[d]⟩])) { s with heap := h'', toks := tk } :=
      I.turnedNew (t' := tk) (ch := [z, TI, TO, i1, i2]) (fun b o hb q => (sb.2 b (fun q' => hb (by simp [q']))).trans (hk b o (fun q' => hb (by simp [q'])) (fun q' => hb (by simp [q'])) (fun q' => hb (by simp [q'])) (fun q' => hb (by simp [q'])) q)) hf (Nat.le_refl _) new
    refine ⟨.ref s.heap.objs.size, _, I1, rfl, ⟨_, c, d, rfl, I.hok.fresh (Nat.le_refl _), rfl, hcx, hdy⟩, ⟨z'', ?_, ⟨.str ⟨#[c]⟩ u, .str ⟨#[d]⟩ u2, ?_⟩, ?_, ?_⟩, fun b hcm => ?_⟩
    · exact (sb.2 _ D.TIz).trans (hk _ _ D.TIz D.TITO D.TIi1 D.TIi2 hTI)
    · exact (sb.2 _ D.TOz).trans TO'
    · obtain ⟨o, ho, r⟩ := h1'
      exact ⟨o, (sb.2 _ (Ne.symm D.zi1)).trans ho, r⟩
    · obtain ⟨o, ho, r⟩ := h2'
      exact ⟨o, (sb.2 _ (Ne.symm D.zi2)).trans ho, r⟩
    · have hlt : b < s.heap.objs.size := by
        have e' : b = z ∨ b = TI ∨ b = TO ∨ b = i1 ∨ b = i2 := by simpa using hcm
        rcases e' with q | q | q | q | q
        · rw [q]; exact hzl
        · rw [q]; exact Heap.lt_size hTI
        · rw [q]; exact Heap.lt_size hTO
        · rw [q]; obtain ⟨_, e1, _⟩ := h1; exact Heap.lt_size e1
        · rw [q]; obtain ⟨_, e2, _⟩ := h2; exact Heap.lt_size e2
      rw [upd_ne (Nat.ne_of_lt hlt)]
      exact (hf b hcm).1
  done := by
    intro X hP hw hK hc i pins s σ H E I hf st hg
    subst hP hw hK
    obtain ⟨hz, hTI, ⟨a, b, hTO⟩, h1, h2⟩ := st
    obtain ⟨g1, g2, g3⟩ := hg
    exact wpAny_pyNext_zipD2_end D (Draws.text (A := X.A.in1) (I.ok.hd hc) i1 x tx) (Draws.text (A := X.A.in1) (I.ok.hd hc) i2 y ty) hz hTI hTO h1 h2 g1 g2 g3 fun h' tk hk => ⟨rfl, I.turnedL (t' := tk) (ch := [z, TI, TO, i1, i2]) (fun c o hb q =>
      hk c o (fun q' => hb (by simp [q'])) (fun q' => hb (by simp [q'])) (fun q' => hb (by simp [q'])) (fun q' => hb (by simp [q'])) q) hf⟩
  self := fun A i s Q E st h => wpAny_pyIter_zip st.1 h
theorem zsep (I : Nat) : ZipSep2 (I + 4) (I + 2) (I + 3) I (I + 1) [I] [I + 1] where
  TIz := (by omega : (I + 2 : Nat) ≠ I + 4)
  TOz := (by omega : (I + 3 : Nat) ≠ I + 4)
  TITO := (by omega : (I + 2 : Nat) ≠ I + 3)
  TIi1 := (by omega : (I + 2 : Nat) ≠ I)
  mem1 := List.mem_singleton.mpr rfl
  zf1 := fun h => (by omega : (I + 4 : Nat) ≠ I) (List.mem_singleton.mp h)
  Tf1 := fun h => (by omega : (I + 3 : Nat) ≠ I) (List.mem_singleton.mp h)
  TIi2 := (by omega : (I + 2 : Nat) ≠ I + 1)
  mem2 := List.mem_singleton.mpr rfl
  zf2 := fun h => (by omega : (I + 4 : Nat) ≠ I + 1) (List.mem_singleton.mp h)
  Tf2 := fun h => (by omega : (I + 3 : Nat) ≠ I + 1) (List.mem_singleton.mp h)
  sep1_2 := fun h => (by omega : (I : Nat) ≠ I + 1) (List.mem_singleton.mp h)
  sep2_1 := fun h => (by omega : (I + 1 : Nat) ≠ I) (List.mem_singleton.mp h)
noncomputable def iZipS (ta : TA) : TI := fun σ H R => ta σ H fun vs H1 => ∃ x y, vs = [.str x, .str y] ∧ R (IteZ x y) H1
theorem pi_zipS {X : Cx} {e e2 : Expr} {ta : TA} {p pos tpos : Pos} {elts : List Expr} {kk : Nat} (hg : Gl X "zip") (hm : X.mg "zip" = none) (ha : PA X [e, e2] ta)
    (hs : starEach [e, e2] X.env = (false, eval e X.env) :: starEach [e2] X.env := by rfl) (hpl : (backTo pos (starEach [e2] X.env)).any (·.1) = false := by rfl) :
    PI X (.Tuple elts kk tpos) (.Call (.Name "zip" p) [e, e2] [] pos) (iZipS ta) := by
  refine ⟨fun pins s σ H R I h => ?_⟩
  refine Call_ (ld_blt I hg hm PyProof.Rows.boot_zip (PyProof.Rows.callWith_type1 (thn (ha.run pos pins s σ H _ I h) fun us s1 ⟨vs, H1, I1, r1, q1⟩ => ?_) hs hpl))
  obtain ⟨x, y, ex, q⟩ := q1
  subst ex
  cases r1 with
  | cons r rr =>
    cases rr with
    | cons r' rr =>
      cases rr
      obtain ⟨tx, rfl⟩ := r
      obtain ⟨ty, rfl⟩ := r'
      have fresh5 : ∀ c, c ∈ [s1.heap.objs.size + 4, s1.heap.objs.size + 2, s1.heap.objs.size + 3, s1.heap.objs.size, s1.heap.objs.size + 1] → FpOk X pins H1 c := fun c hcm => by
        have e' : c = s1.heap.objs.size + 4 ∨ c = s1.heap.objs.size + 2 ∨ c = s1.heap.objs.size + 3 ∨ c = s1.heap.objs.size ∨ c = s1.heap.objs.size + 1 := by simpa using hcm
        have hle : s1.heap.objs.size ≤ c := by
          rcases e' with z | z | z | z | z <;> omega
        exact I1.fpOk hle (I1.hok.fresh hle)
      refine zip_begins2 (begins_text x tx) (begins_text y ty) trivial trivial fun h' hz hTI hTO h1 h2 hsz hk => wpAny_pyIter_zip hz ?_
      have I2 : Inv X pins σ H1 { s1 with heap := h' } := I1.kept (t' := s1.toks) hk
      have D : ZipSep2 (s1.heap.objs.size + 4) (s1.heap.objs.size + 2) (s1.heap.objs.size + 3) s1.heap.objs.size (s1.heap.objs.size + 1) [s1.heap.objs.size] [s1.heap.objs.size + 1] :=
        zsep s1.heap.objs.size
      exact ⟨s1.heap.objs.size + 4, [s1.heap.objs.size + 4, s1.heap.objs.size + 2, s1.heap.objs.size + 3, s1.heap.objs.size, s1.heap.objs.size + 1], _, _, H1, rfl, I2, turn_zipS (tx := tx) (ty := ty) D, ⟨hz, hTI, ⟨_, _, hTO⟩, ⟨_, h1, rfl, rfl⟩, ⟨_, h2, rfl, rfl⟩⟩, fresh5, q⟩
section
variable {Γ : Cg} {K : Frg} {F : Hp} {ms : Ms} {S : Sg} {P : Hp → Ms → List D → (Ms → Prop) → Prop}
theorem ai_zipS {ta : TA} (h : AA Γ ta F ms S fun F1 ms1 ds => ∃ x y : Str, ds = [.str x, .str y] ∧ x.length = y.length ∧ P F1 ms1 (zipD (charsD x) (charsD y)) fun _ => True) : AI Γ (iZipS ta) F ms S P := fun R σ H Rc hs hh x k =>
  h R σ H _ hs hh x fun F1 ms1 ds vs H1 e1 h1 r1 ⟨x, y, hd, hl, p⟩ => by
    subst hd
    have l1 : ∀ z : Str, (charsD z).length = z.cps.size := fun z => by unfold charsD; rw [List.length_map, Array.length_toList]
    have hl' : x.cps.size = y.cps.size := hl
    have hlz : (zipD (charsD x) (charsD y)).length = x.cps.size := by rw [zipD_len (by rw [l1, l1]; exact hl'), l1]
    cases r1 with
    | cons a b =>
      cases b with
      | cons b c =>
        cases c
        cases a
        cases b
        refine ⟨x, y, rfl, k F1 ms1 _ (fun _ => True) _ H1 e1 h1 ⟨fun _ i H' F' ms' hi e' hh' _ => ?_, fun _ H' F' ms' e' hh' _ => ?_, fun _ i H' x' H2 F' ms' hi e' hh' _ yy => ?_⟩ p⟩
        · rw [hlz] at hi
          exact ⟨hi, by omega⟩
        · show _ ∧ _ ∧ _
          rw [hlz]
          exact ⟨Nat.le_refl _, by omega, .inl rfl⟩
        · obtain ⟨T, c, d, y1, y2, y3, y4, y5⟩ := yy
          subst y1 y3
          obtain ⟨F'', e2, h2, r2⟩ := pair_rep hh' y2 (.str ⟨#[c]⟩) (.str ⟨#[d]⟩)
          refine ⟨F'', _, e2, h2, zipD_get ?_ ?_, r2⟩
          · unfold charsD; rw [List.getElem?_map, Array.getElem?_toList, y4]; rfl
          · unfold charsD; rw [List.getElem?_map, Array.getElem?_toList, y5]; rfl
end
end AL

set_option Elab.async false
set_option linter.all false
set_option maxRecDepth 100000
set_option maxHeartbeats 4000000
/-! sum(d.values()) -/
namespace AL
open PySem PySem.Spec PyProof.Rows L2
theorem preSum_take (is : List Int) : ∀ n, n ≤ is.length → preSum (fun i => is.getD i 0) n = (is.take n).sum
  | 0, _ => rfl
  | n + 1, h => by
    show preSum _ n + _ = _
    have hn : n < is.length := h
    rw [preSum_take is n (by omega), List.take_succ, List.getElem?_eq_getElem hn, List.sum_append]
    simp [List.getD_eq_getElem?_getD, List.getElem?_eq_getElem hn]
noncomputable def tSumVals (td : TE) : TE := fun σ H Q => td σ H fun x H1 => ∃ (a : Addr) (kvs : List (Key × V)) (is : List Int), x = V.ref a ∧ H1 a = some (.dK kvs) ∧ kvs.map (·.2) = is.map V.int ∧ Q (.int is.sum) H1
theorem pe_sumVals {X : Cx} {o : Expr} {p pos apos mpos : Pos} {td : TE} (hc : X.calm = true) (hg : Gl X "sum") (hm : X.mg "sum" = none) (hd : PE X o td) (hbase : attributeBase o "values" X.env (eval o X.env) = eval o X.env := by rfl) (hline : (apos.endLine == mpos.line) = true := by rfl)
    (hse : starEach [Expr.Call (.Attribute o "values" apos) [] [] mpos] X.env = [(false, eval (Expr.Call (.Attribute o "values" apos) [] [] mpos) X.env)] := by rfl) :
    PE X (.Call (.Name "sum" p) [.Call (.Attribute o "values" apos) [] [] mpos] [] pos) (tSumVals td) := by
  refine ⟨fun pins s σ H Q I h => ?_⟩
  refine wpAny_Call_Name_kw (ld_blt I hg hm (u := .builtin "sum") (by first | rfl | decide +kernel) ?_ (by first | decide +kernel | decide) (by first | decide +kernel | decide))
  rw [hse]
  refine PySem.callWith_builtin1 (wpAny_Call_method0_late hbase hline (thn (hd.run pins s σ H _ I h) fun v s1 ⟨x, H1, I1, r1, a, kvs, is, ex, ha, hv, q⟩ => ?_))
  subst ex
  obtain rfl : v = Value.ref a := r1
  obtain ⟨_, hsys, vs, rel, dof⟩ := dk_of I1.hok ha
  obtain ⟨ep, dat⟩ := dof.dictAt
  have dat' := dat
  obtain ⟨ob, es, ho, ex, hdat, hko, hpr, hnd⟩ := dat'
  refine ⟨"dict", "dict.values", F.plainAttrs_dict, F.slot_dict_values, F.type_dict_values, ⟨ob, ho, ex.1⟩, fun b e => ?_, Calls.callWith_builtin rfl (PySem.evalArgs_none ?_)⟩
  · cases e
    exact ⟨ob, ho, ex.2.1⟩
  refine call_meetsIn F.slot_dict_values ⟨ob, ho, ex.1⟩ F.entry_dict_values (F.args_dict_values_1 _) (meets_dict_values (mixKind X.prog X.w) a hsys) ⟨⟨vs, dof⟩, ?_⟩
  have k1 : ∀ b u, s1.heap.get? b = some u → (s1.heap.push { cls := .type "dict_values", data := .fields #[.ref a] }).get? b = some u := fun b u e => Heap.get?_push_of_some _ e
  have dat1 : (s1.heap.push { cls := .type "dict_values", data := .fields #[.ref a] }).DictAt (mixKind X.prog X.w) a vs ep := dat.keep k1
  have hlv : vs.length = is.length := by
    have e1 := congrArg List.length hv
    rw [List.length_map, List.length_map] at e1
    rw [← e1]
    exact (KV.length rel).symm
  have hval : ∀ (i : Nat) (v : Value), (∃ k, vs[i]? = some (k, v)) → ∃ t, v = Value.int (is.getD i 0) t := fun i v ⟨k, hk⟩ => by
    obtain ⟨x, h1, h2⟩ := KV.at' rel hk
    have e1 : (kvs.map (·.2))[i]? = some x := by rw [List.getElem?_map, h1] <;> rfl
    rw [hv, List.getElem?_map] at e1
    obtain ⟨j, hj, e2⟩ := Option.map_eq_some_iff.mp e1
    subst e2
    obtain ⟨t, e3⟩ := h2
    refine ⟨t, ?_⟩
    rw [e3, List.getD_eq_getElem?_getD, hj] <;> rfl
  refine call_sum_walkAnyS (wpAny_pyIter_values (v := s1.heap.objs.size) (d := a) ⟨_, Heap.get?_push_size _ rfl, rfl, rfl⟩ dat1 ?_)
  have hlt : a < s1.heap.objs.size := Heap.lt_size ho
  have hsz : (s1.heap.push { cls := .type "dict_values", data := .fields #[.ref a] }).objs.size = s1.heap.objs.size + 1 := Heap.size_push _ _
  refine ⟨_, _, _, _, _, _, _, fun i => is.getD i 0, rfl, (Walks.dictValues (knd := mixKind X.prog X.w) (A := X.A.in1) (I.ok.hd hc) (s1.heap.push { cls := .type "dict_values", data := .fields #[.ref a] }).objs.size a (by rw [hsz]; exact Nat.ne_of_lt (Nat.lt_succ_of_lt hlt)) vs ep).toS,
    ⟨⟨_, Heap.get?_push_size _ rfl, rfl, rfl⟩, dat1.keep fun b u e => Heap.get?_push_of_some _ e⟩, fun b hb => ?_, hval, fun s' t' hm => ?_⟩
  · show b < ((s1.heap.push _).push _).objs.size
    rw [Heap.size_push, Heap.size_push]
    rw [hsz] at hb
    rcases List.mem_cons.mp hb with e | hb
    · rw [e]
      exact Nat.lt_succ_self _
    · have e : b = a := List.mem_singleton.mp hb
      rw [e]
      exact Nat.lt_succ_of_lt (Nat.lt_succ_of_lt hlt)
  · have hk : ∀ b u, s1.heap.get? b = some u → s'.heap.get? b = some u := fun b u e =>
      hm.heap b u (fun hI => by
        have e1 := List.mem_singleton.mp hI
        have e2 := Heap.lt_size e
        rw [hsz] at e1
        rw [e1] at e2
        exact absurd e2 (Nat.not_lt.mpr (Nat.le_succ _))) (Heap.get?_push_of_some _ (k1 b u e))
    have hs : preSum (fun i => is.getD i 0) vs.length = is.sum := by
      rw [hlv, preSum_take is is.length (Nat.le_refl _), List.take_length]
    rw [hs, Moved.eq_with hm]
    exact ⟨.int _, H1, I1.kept (t' := s'.toks) hk, ⟨t', rfl⟩, q⟩
section
variable {Γ : Cg} {F : Hp} {ms : Ms} {S : Sg} {Q : QE} {td : TE}
theorem kv_ints {K : Frg} {F : Hp} : ∀ {kvs : List (Key × D)} {vs : List (Key × V)} {is : List Int}, RepK K F kvs vs → kvs.map (·.2) = is.map D.int → vs.map (·.2) = is.map V.int
  | _, _, [], .nil, _ => rfl
  | _, _, [], .cons _ _, e => by cases e
  | _, _, i :: is, .nil, e => by cases e
  | _, _, i :: is, .cons h r, e => by
    rw [List.map_cons, List.map_cons] at e
    injection e with e1 e2
    have e1' := e1
    subst e1'
    cases h
    rw [List.map_cons, List.map_cons, kv_ints r e2]
theorem ae_sumVals (h : AE Γ td F ms S fun F1 ms1 x => ∃ (kvs : List (Key × D)) (is : List Int), DicA Γ.K F1 ms1 x kvs ∧ kvs.map (·.2) = is.map D.int ∧ Q F1 ms1 (.int is.sum)) : AE Γ (tSumVals td) F ms S Q := fun R σ H Qc hs hh x k =>
  h R σ H _ hs hh x fun F1 ms1 d v H1 e1 h1 r1 ⟨kvs, is, hd, hi, q⟩ => by
    obtain ⟨a, vs, rfl, ha, rk⟩ := hd.to h1 r1
    exact ⟨a, vs, is, rfl, ha, kv_ints rk hi, k F1 ms1 _ _ H1 e1 h1 (.int _) q⟩
end
end AL

set_option Elab.async false
set_option linter.all false
set_option maxRecDepth 100000
set_option maxHeartbeats 4000000
/-! a comprehension of two loops -/
namespace AL
open PySem L2 PyProof.Rows
section
variable {Γ : Cg} {K : Frg} {F : Hp} {ms : Ms} {S : Sg} {Q : QE} {te : TE} {tt tt1 : TT} {g g1 : TG} {wi wi1 : TI} {vs vs1 : List Nat}
theorem ae_lc2 (hg : GW g vs) (gm : ∀ v σ H N N', (∀ σ2 H2, N σ2 H2 → N' σ2 H2) → g v σ H N → g v σ H N') (hg1 : GW g1 vs1) (gm1 : ∀ v σ H N N', (∀ σ2 H2, N σ2 H2 → N' σ2 H2) → g1 v σ H N → g1 v σ H N')
    (h : AI Γ wi F ms S fun F1 ms1 ds G => ∃ I : Nat → Hp → Ms → List D → Prop, I 0 F1 ms1 [] ∧ (∀ i F' ms' acc, Ex F1 F' → I i F' ms' acc → G ms') ∧
    (∀ i d F' ms' acc, Ex F1 F' → ds[i]? = some d → I i F' ms' acc → ∀ F'', Ex F' F'' → AG Γ.nox g d F'' ms' (wipeS S vs) fun F2 ms2 S2 => AT Γ.nox tt F2 ms2 S2 fun F3 ms3 b =>
      (b = true → AI Γ.nox wi1 F3 ms3 S2 fun F4 ms4 ds1 G1 => ∃ I1 : Nat → Hp → Ms → List D → Prop, I1 0 F4 ms4 acc ∧ (∀ j F' ms' acc', Ex F4 F' → I1 j F' ms' acc' → G1 ms') ∧
        (∀ j d1 F' ms' acc', Ex F4 F' → ds1[j]? = some d1 → I1 j F' ms' acc' → ∀ F'', Ex F' F'' → AG Γ.nox g1 d1 F'' ms' (wipeS S2 vs1) fun F5 ms5 S5 => AT Γ.nox tt1 F5 ms5 S5 fun F6 ms6 b => (b = true → AE Γ.nox te F6 ms6 S5 fun F7 ms7 y => acc'.length < 100000 ∧ I1 (j + 1) F7 ms7 (acc' ++ [y])) ∧ (b = false → I1 (j + 1) F6 ms6 acc')) ∧
        (∀ F' ms' acc', Ex F4 F' → I1 ds1.length F' ms' acc' → I (i + 1) F' ms' acc')) ∧ (b = false → I (i + 1) F3 ms3 acc)) ∧
    (∀ F' ms' acc, Ex F1 F' → I ds.length F' ms' acc → ∀ F'', Ex F' F'' → Q F'' ms' (.lst acc))) : AE Γ (tLc2 wi g tt wi1 g1 tt1 te vs vs1) F ms S Q := fun R σ H Qc hs hh x k =>
  h R σ H _ hs hh x fun F1 ms1 ds G J H1 e1 h1 it ⟨I, i0, iG, ib, ie⟩ => by
    intro D hD
    refine ⟨fun i m H' => m = ds.length - i ∧ i ≤ ds.length ∧ ∃ F' ms' acc, Ex F1 F' ∧ Hold Γ.K F' (ms' ++ (D, .lst acc) :: R) H' ∧ I i F' ms' acc, ⟨_, rfl, Nat.zero_le _, F1, ms1, [], Ex.refl, ?_, i0⟩, ?_⟩
    · exact (h1.made (m := .lst []) hD ⟨[], upd_same, .nil⟩).perm List.perm_middle
    rintro i m H' ⟨rfl, hi, F', ms', acc, e', hh', p⟩
    have hG := iG i F' ms' acc e' p
    by_cases hlt : i < ds.length
    · refine .inr ⟨it.goes _ i H' F' ms' hlt e' hh' hG, fun H2 => ∃ F2 ms2 acc2, Ex F1 F2 ∧ Hold Γ.K F2 (ms2 ++ (D, .lst acc2) :: R) H2 ∧ I (i + 1) F2 ms2 acc2, fun H2 ⟨F2, ms2, acc2, e2, b2, q2⟩ => ⟨ds.length - (i + 1), by omega, rfl, hlt, F2, ms2, acc2, e2, b2, q2⟩, fun x H2 y => ?_⟩
      obtain ⟨F2, d, e2, hh2, hd, hr⟩ := it.yields _ i H' x H2 F' ms' hlt e' hh' hG y
      refine gm x _ H2 _ _ (fun σ2 H3 z => ⟨z.2, z.1⟩) (hg x _ H2 _ _ (wipe_wipe σ vs) ?_)
      refine ib i d F' ms' acc e' hd p F2 e2 _ x (L2.wipe σ vs) H2 _ hr (((hs.mono e1).mono (e'.trans e2)).wipe vs) hh2 xle0 fun F3 ms3 S3 σ3 H3 e3 a3 b3 q3 => ?_
      refine q3 _ σ3 H3 _ a3 b3 xle0 fun F4 ms4 b H4 e4 b4 q4 => ?_
      have e14 : Ex F1 F4 := (((e'.trans e2).trans e3).trans e4)
      cases b with
      | false => exact ⟨F4, ms4, acc, e14, b4, q4.2 rfl⟩
      | true =>
        refine q4.1 rfl ((D, .lst acc) :: R) σ3 H4 _ (a3.mono e4) b4 xle0 fun F5 ms5 ds1 G1 J1 H5 e5 b5 it1 ⟨I1, j0, jG, jb, je⟩ => ?_
        refine ⟨fun j m H' => m = ds1.length - j ∧ j ≤ ds1.length ∧ ∃ F' ms' acc', Ex F5 F' ∧ Hold Γ.K F' (ms' ++ (D, .lst acc') :: R) H' ∧ I1 j F' ms' acc', ⟨_, rfl, Nat.zero_le _, F5, ms5, acc, Ex.refl, b5, j0⟩, ?_⟩
        rintro j m Hj ⟨rfl, hj, Fj, msj, accj, ej, hhj, pj⟩
        have hGj := jG j Fj msj accj ej pj
        by_cases hltj : j < ds1.length
        · refine .inr ⟨it1.goes _ j Hj Fj msj hltj ej hhj hGj, fun H2 => ∃ F2 ms2 acc2, Ex F5 F2 ∧ Hold Γ.K F2 (ms2 ++ (D, .lst acc2) :: R) H2 ∧ I1 (j + 1) F2 ms2 acc2, fun H2 ⟨F2, ms2, acc2, e2, b2, q2⟩ => ⟨ds1.length - (j + 1), by omega, rfl, hltj, F2, ms2, acc2, e2, b2, q2⟩, fun x2 H6 y2 => ?_⟩
          obtain ⟨F6, d6, e6, hh6, hd6, hr6⟩ := it1.yields _ j Hj x2 H6 Fj msj hltj ej hhj hGj y2
          refine gm1 x2 _ H6 _ _ (fun σ2 H3 z => ⟨z.2, z.1⟩) (hg1 x2 _ H6 _ _ (wipe_wipe σ3 vs1) ?_)
          refine jb j d6 Fj msj accj ej hd6 pj F6 e6 _ x2 (L2.wipe σ3 vs1) H6 _ hr6 (((a3.mono e4).mono ((e5.trans ej).trans e6)).wipe vs1) hh6 xle0 fun F7 ms7 S7 σ7 H7 e7 a7 b7 q7 => ?_
          refine q7 _ σ7 H7 _ a7 b7 xle0 fun F8 ms8 b H8 e8 b8 q8 => ?_
          cases b with
          | true =>
            refine q8.1 rfl _ σ7 H8 _ (a7.mono e8) b8 xle0 fun F9 ms9 d9 v9 H9 e9 b9 r9 q9 => ?_
            obtain ⟨_, vs9, hl, rl⟩ := b9.at mid_get
            refine ⟨vs9, hl, Evl.sz_lt (by rw [← rl.len]; exact q9.1), F9, ms9, accj ++ [d9], (((ej.trans e6).trans e7).trans e8).trans e9, ?_, q9.2⟩
            have := b9.set (m' := .lst (accj ++ [d9])) (o := .lst (vs9 ++ [v9])) mid_get ⟨_, upd_same, rl.append (RepL.one r9)⟩
            rw [mid_set] at this
            exact this
          | false => exact ⟨F8, ms8, accj, ((ej.trans e6).trans e7).trans e8, b8, q8.2 rfl⟩
        · have ejl : j = ds1.length := by omega
          subst ejl
          exact .inl ⟨it1.stops _ Hj Fj msj ej hhj hGj, Fj, msj, accj, (e14.trans e5).trans ej, hhj, je Fj msj accj ej pj⟩
    · have ei : i = ds.length := by omega
      subst ei
      refine .inl ⟨it.stops _ H' F' ms' e' hh' hG, ?_⟩
      obtain ⟨_, vsD, hl, rl⟩ := hh'.at mid_get
      obtain ⟨o, ho, e2, h2⟩ := hh'.freeze mid_get
      rw [hl] at ho
      cases ho
      rw [mid_erase] at h2
      exact k _ ms' (.lst acc) _ H' ((e1.trans e').trans e2) h2 (.lst upd_same (rl.mono e2)) (ie F' ms' acc e' p _ e2)
end
end AL

set_option Elab.async false
set_option linter.all false
set_option maxRecDepth 100000
set_option maxHeartbeats 4000000
/-! tuples of ints compared, list(range(n)) -/
namespace AL
open PySem L2 PyProof.Rows
section
variable {Γ : Cg} {K : Frg} {F : Hp} {ms : Ms} {S : Sg} {Q : QE} {ta : TE}
theorem kLTT {X : Cx} (h : X.K = K) (hu : X.A.units + 64 < cLine) : OpR X (compareOp .Lt) (rLtT K) := h ▸ op_ltT (by omega)
theorem ar_LTT {ns ks : List Int} (q : Q F ms (.bl (HT.lexLt ns ks))) : AR K (rLtT K) (.tup (ns.map D.int)) (.tup (ks.map D.int)) F ms Q := fun R u v H Qc hu hv hh k => by
  cases hu with
  | tup h1 r1 =>
    cases hv with
    | tup h2 r2 =>
      have e1 := rep_ints r1
      have e2 := rep_ints r2
      subst e1
      subst e2
      exact ⟨_, _, _, _, rfl, rfl, ex_t hh.ex h1, ex_t hh.ex h2, k F ms _ _ H Ex.refl hh (.bl _) q⟩
theorem rg_rep (n : Int) : RepL K F ((List.range n.toNat).map fun (o : Nat) => D.int (o : Int)) (rgV 0 n) := by
  have gen : ∀ l : List Nat, RepL K F (l.map fun (o : Nat) => D.int (o : Int)) (l.map fun (i : Nat) => V.int (0 + (i : Int))) := by
    intro l
    induction l with
    | nil => exact .nil
    | cons i l ih =>
      refine .cons ?_ ih
      show Rep K F (D.int (i : Int)) (V.int (0 + (i : Int)))
      rw [Int.zero_add]
      exact .int _
  have := gen (List.range n.toNat)
  unfold rgV
  rw [show n - 0 = n by omega]
  exact this
theorem ae_listRg1 (h : AE Γ ta F ms S fun F1 ms1 x => ∃ n : Int, x = .int n ∧ -100000 ≤ n ∧ n ≤ 100000 ∧ ∀ F2, Ex F1 F2 → Q F2 ms1 (.lst ((List.range n.toNat).map fun (o : Nat) => D.int (o : Int)))) : AE Γ (tLstRg (tRg1 ta)) F ms S Q := fun R σ H Qc hs hh x k =>
  h R σ H _ hs hh x fun F1 ms1 d v H1 e1 h1 r1 ⟨n, hd, b1, b2, q⟩ => by
    subst hd
    cases r1
    refine ⟨n, rfl, ⟨by decide, by decide, by omega, by omega, by omega⟩, fun p hp => ?_⟩
    obtain ⟨e2, h2⟩ := h1.laid (.lst (rgV 0 n)) hp
    exact k _ ms1 (.lst _) _ _ (e1.trans e2) h2 (.lst upd_same (rg_rep n)) (q _ e2)
end
end AL

set_option Elab.async false
set_option linter.all false
set_option maxRecDepth 100000
set_option maxHeartbeats 4000000
/-! owned lists that freeze at an operator; plain lists compared -/
namespace AL
open PySem L2 PyProof.Rows
section
variable {K : Frg} {F : Hp} {ms : Ms} {Q : QE} {r : R2}
end
theorem as_norm {Γ : Cg} {ts : TS} {F : Hp} {ms : Ms} {S S' : Sg} {A : AEnds} (e : S = S') (h : AS Γ ts F ms S' A) : AS Γ ts F ms S A := e ▸ h
theorem okL_ints : ∀ ns : List Int, okL (ns.map D.int) = true
  | [] => rfl
  | n :: ns => by show (true && okL (ns.map D.int)) = true; rw [okL_ints ns]; rfl
theorem depL_ints : ∀ ns : List Int, depL (ns.map D.int) = 0
  | [] => rfl
  | n :: ns => by show max 0 (depL (ns.map D.int)) = 0; rw [depL_ints ns]; rfl
theorem depL_strs : ∀ ns : List Str, depL (ns.map D.str) = 0
  | [] => rfl
  | n :: ns => by show max 0 (depL (ns.map D.str)) = 0; rw [depL_strs ns]; rfl
theorem okS {x : Str} (h : ∀ c ∈ x.cps.toList, c < 128) : okD (.str x) = true := by
  show x.cps.all (· < 0x110000) = true
  rw [← Array.all_toList, List.all_eq_true]
  intro c hc
  have := h c hc
  simp
  omega
theorem eqvT_strs : ∀ (xs ys : List Str), eqvD (.tup (xs.map D.str)) (.tup (ys.map D.str)) = decide (xs = ys)
  | [], [] => rfl
  | [], y :: ys => by simp [eqvD, toPy, toPyL, PyData.eqv, PyData.eqvAll]
  | x :: xs, [] => by simp [eqvD, toPy, toPyL, PyData.eqv, PyData.eqvAll]
  | x :: xs, y :: ys => by
    have ih := eqvT_strs xs ys
    simp only [eqvD, toPy, toPyL, PyData.eqv, PyData.eqvAll, List.map_cons] at ih ⊢
    rw [ih]
    by_cases h : x = y
    · by_cases h2 : xs = ys
      · simp [h, h2]
      · simp [h, h2]
    · simp [h]
end AL

set_option Elab.async false
set_option linter.all false
set_option maxRecDepth 100000
set_option maxHeartbeats 4000000
/-! sorted(set(a list of texts or of ints)) -/
namespace AL
open PySem PySem.Spec L2 PyProof.Rows
theorem nodup_le {β : Type} [DecidableEq β] : ∀ {l U : List β}, l.Nodup → (∀ x ∈ l, x ∈ U) → l.length ≤ U.length
  | [], U, _, _ => Nat.zero_le _
  | b :: l, U, h, s => by
    have ha := s b List.mem_cons_self
    have hn := List.nodup_cons.mp h
    have ih := nodup_le (l := l) (U := U.erase b) hn.2 fun x hx => (List.mem_erase_of_ne (fun e : x = b => hn.1 (by rw [← e]; exact hx))).mpr (s x (List.mem_cons_of_mem _ hx))
    rw [List.length_erase_of_mem ha] at ih
    have := List.length_pos_of_mem ha
    rw [List.length_cons]
    omega
/-- the keys of a set -/
structure KS (P : Program) (w : World) (α : Type) [DecidableEq α] where
  knd : PySem.KeyKind P w α
  val : α → Tok → Value
  kf : Value → α
  is : ∀ k t, knd.is k (val k t) = true
  sc : ∀ k t, (val k t).scannable = true
  kfm : ∀ k t, kf (val k t) = k
noncomputable def ksI (P : Program) (w : World) : KS P w Int := ⟨intKind P w, Value.int, fun v => match v with | .int k _ => k | _ => 0, fun k t => intKind_is P w k t, fun _ _ => rfl, fun _ _ => rfl⟩
noncomputable def ksS (P : Program) (w : World) : KS P w Str := ⟨PySem.strKind P w, Value.str, fun v => match v with | .str k _ => k | _ => Str.empty, fun k t => strKind_is P w k t, fun _ _ => rfl, fun _ _ => rfl⟩
section
variable {P : Program} {w : World} {α : Type} [DecidableEq α] (c : KS P w α)
noncomputable def KS.Good (e : Int × Value) : Prop := ∃ k t, e.2 = c.val k t ∧ e.1 = c.knd.hash k
noncomputable def KS.key (e : Int × Value) : α := c.kf e.2
/-- a set at a: made of these keys -/
noncomputable def KS.At (h : Heap) (a : Addr) (ks : List α) : Prop :=
  ∃ o es ep t, h.get? a = some o ∧ o.ExactSet ∧ o.data = .set es ep t ∧ (∀ e ∈ es.toList, c.Good e) ∧ (es.toList.map c.key).Nodup ∧ (∀ k, k ∈ ks ↔ k ∈ es.toList.map c.key) ∧
    es.size < scanBound ∧ t.fits es.size = true ∧ es.size ≤ ks.length ∧ Ris t.place.toList ∧ (w.params.followText "set-order" = true ∨ t.led = true)
variable {c}
theorem KS.At.keep {h h' : Heap} {a : Addr} {ks : List α} (x : c.At h a ks) (k : ∀ o, h.get? a = some o → h'.get? a = some o) : c.At h' a ks := by
  obtain ⟨o, es, ep, t, ho, r⟩ := x
  exact ⟨o, es, ep, t, k o ho, r⟩
theorem KS.elems {l : List (Int × Value)} (g : ∀ e ∈ l, c.Good e) : ElemsOf c.knd l := fun e he => by
  obtain ⟨k, t, h1, h2⟩ := g e he
  exact ⟨⟨k, by rw [h1]; exact c.is k t, h2⟩, by rw [h1]; exact c.sc k t⟩
theorem KS.good_is {e : Int × Value} (g : c.Good e) (k : α) : c.knd.is k e.2 = true ↔ c.key e = k := by
  obtain ⟨k0, t, h1, _⟩ := g
  unfold KS.key
  rw [h1, c.kfm]
  exact ⟨fun h => (c.knd.inj _ _ _ h (c.is k0 t)).symm, fun h => h ▸ c.is k0 t⟩
theorem KS.mem {l : List (Int × Value)} (g : ∀ e ∈ l, c.Good e) (k : α) : k ∈ l.map c.key ↔ ∃ e ∈ l, c.knd.is k e.2 = true := by
  rw [List.mem_map]
  exact ⟨fun ⟨e, he, q⟩ => ⟨e, he, (KS.good_is (g e he) k).2 q⟩, fun ⟨e, he, q⟩ => ⟨e, he, (KS.good_is (g e he) k).1 q⟩⟩
section
variable {A : Around} {E : Value → Shared → Prop} {s : Shared} {a : Addr} {ks : List α}
theorem KS.tail {gv : Bool → Sem Unit} (hgv : ∀ (b : Bool) (u : Shared) (Y : Unit → Shared → Prop), Y () u → wpAny (model P w) A (gv b) Y E u)
    {o : Obj} {es : Array (Int × Value)} {ep : Nat} {t : SetTable} (ho : s.heap.get? a = some o) (hex : o.ExactSet) (hd : o.data = .set es ep t)
    {es1 : Array (Int × Value)} {t2 : SetTable} {ks' : List α} (g1 : ∀ e ∈ es1.toList, c.Good e) (nd1 : (es1.toList.map c.key).Nodup) (m1 : ∀ k, k ∈ ks' ↔ k ∈ es1.toList.map c.key)
    (hb1 : es1.size < scanBound) (hf2 : t2.fits es1.size = true) (hz : es1.size ≤ ks'.length) (hr : Ris t2.place.toList) (hl : w.params.followText "set-order" = true ∨ t2.led = true) {wasDummy : Bool} {Y : Option Bool → Shared → Prop}
    (hY : ∀ h', Heap.SameBut a s.heap h' → c.At h' a ks' → Y (some true) { s with heap := h' }) :
    wpAny (model P w) A (do
        storeSet a es1 t2
        if (!wasDummy && t2.tooFull) = true then do
            gv (relayAll t2 es1 (SetTable.grown es1.size)).2.2
            storeSet a (relayAll t2 es1 (SetTable.grown es1.size)).1 (relayAll t2 es1 (SetTable.grown es1.size)).2.1
            pure (some true)
          else pure (some true)) Y E s := by
  refine wpAny_bind (wpAny_storeSet_of ho hd ?_ (fits_of_scanBound hb1))
  have at1 := store_at (es' := es1) (t' := t2) ho hd
  have same1 := Heap.SameBut.update s.heap a (Obj.putSet es1 t2)
  by_cases hfull : (!wasDummy && t2.tooFull) = true
  · rw [if_pos hfull]
    have perm := relayAll_perm t2 es1 (SetTable.grown es1.size)
    have fit3 := relayAll_fits t2 es1 (SetTable.grown es1.size)
    have ris3 := relayAll_ris t2 es1 (SetTable.grown es1.size)
    have led3 := relayAll_led t2 es1 (SetTable.grown es1.size)
    generalize relayAll t2 es1 (SetTable.grown es1.size) = Z at perm fit3 ris3 led3 ⊢
    obtain ⟨es2, t3, gave⟩ := Z
    dsimp only at perm fit3 ris3 led3 ⊢
    have size2 : es2.size = es1.size := by rw [← Array.length_toList, perm.length_eq, Array.length_toList]
    have small2 : es2.size < scanBound := by rw [size2]; exact hb1
    refine wpAny_bind (hgv _ _ _ ?_)
    refine wpAny_bind (wpAny_storeSet_of at1 rfl ?_ (fits_of_scanBound small2))
    have at2 := store_at (es' := es2) (t' := t3) at1 rfl
    exact wpAny_pure (hY _ (same1.trans (Heap.SameBut.update _ a _)) ⟨_, es2, _, t3, at2, hex, rfl, fun e he => g1 e (perm.mem_iff.mp he), (perm.map c.key).nodup_iff.mpr nd1, fun k => (m1 k).trans (perm.map c.key).mem_iff.symm, small2, fit3, by rw [size2]; exact hz, ris3, hl.imp id fun z => by rw [led3]; exact z⟩)
  · rw [if_neg hfull]
    exact wpAny_pure (hY _ same1 ⟨_, es1, _, t2, at1, hex, rfl, g1, nd1, m1, hb1, hf2, hz, hr, hl⟩)
theorem KS.add {k : α} {tk : Tok} {Y : Bool → Shared → Prop} {U : List α} (R : c.At s.heap a ks) (hU : ∀ j ∈ ks, j ∈ U) (room : U.length + 1 < scanBound)
    (hY : ∀ b h', Heap.SameBut a s.heap h' → c.At h' a (ks ++ [k]) → Y b { s with heap := h' }) :
    wpAny (model P w) A (setAddHashed a (c.val k tk) (c.knd.hash k)) Y E s := by
  obtain ⟨o, es, ep, t, ho, hex, hd, g, nd, hm, hb, hf, hn, hr, hl⟩ := R
  have hbU : es.size ≤ U.length := by
    have z := nodup_le nd fun j hj => hU j ((hm j).2 hj)
    rw [List.length_map, Array.length_toList] at z
    exact z
  have here : c.knd.is k (c.val k tk) = true := c.is k tk
  have scan : (c.val k tk).scannable = true := c.sc k tk
  have els : ElemsOf c.knd es.toList := KS.elems g
  unfold setAddHashed setAddHashedIn
  refine wpAny_holding (wpAny_bind (wpAny_setState_of ho hd hf ?_))
  dsimp only
  rw [byScan_of scan hb els]
  simp only [↓reduceIte]
  unfold setAddByScan
  refine wpAny_bind (wpAny_bind (wpAny_rule (wpAny_bind (wpAny_setScan_of here ho hd hf els ?_))))
  have mem' : ∀ i, i ∈ ks ++ [k] ↔ (i ∈ ks ∨ i = k) := fun i => by rw [List.mem_append, List.mem_singleton]
  cases hfi : List.findIdx? (fun e => c.knd.is k e.2) es.toList with
  | some j =>
    dsimp only
    obtain ⟨hj, pj, _⟩ := List.findIdx?_eq_some_iff_getElem.mp hfi
    have hin : k ∈ ks := (hm k).2 ((KS.mem g k).2 ⟨es.toList[j], List.getElem_mem hj, pj⟩)
    refine wpAny_pure (wpAny_pure (hY _ s.heap (Heap.SameBut.refl a s.heap) ⟨o, es, ep, t, ho, hex, hd, g, nd, fun i => ?_, hb, hf, by rw [List.length_append]; omega, hr, hl⟩))
    rw [mem' i, ← hm i]
    exact ⟨fun z => z.elim id (fun e => e ▸ hin), .inl⟩
  | none =>
    dsimp only
    have hnk : k ∉ es.toList.map c.key := fun z => by
      obtain ⟨e, he, q⟩ := (KS.mem g k).1 z
      have := List.findIdx?_eq_none_iff.mp hfi e he
      rw [q] at this
      cases this
    have hgw : ∀ (b : Bool) {u : Shared} {Y' : Unit → Shared → Prop}, Y' () u → wpAny (model P w) A (match b with | true => rule "set.scan.the-table-gave-way" | false => pure ()) Y' E u :=
      fun b u Y' q => by cases b; exact wpAny_pure q; exact wpAny_rule q
    have perm := layNew_perm t es (c.knd.hash k) (c.val k tk)
    have fit1 := layNew_fits t es (c.knd.hash k) (c.val k tk)
    have ris1 := layNew_ris t es (c.knd.hash k) (c.val k tk) hr
    have led1 := layNew_led t es (c.knd.hash k) (c.val k tk)
    generalize layNew t es (c.knd.hash k) (c.val k tk) = Z at perm fit1 ris1 led1 ⊢
    obtain ⟨es1, t1, wasDummy, gave⟩ := Z
    dsimp only at perm fit1 ris1 led1 ⊢
    rw [Array.toList_push] at perm
    have pc : es1.toList.Perm ((c.knd.hash k, c.val k tk) :: es.toList) := perm.trans (List.perm_append_singleton _ _)
    have pk : (es1.toList.map c.key).Perm (k :: es.toList.map c.key) := by
      have := pc.map c.key
      rw [List.map_cons, show c.key (c.knd.hash k, c.val k tk) = k from c.kfm k tk] at this
      exact this
    have g1 : ∀ e ∈ es1.toList, c.Good e := fun e he => by
      rcases List.mem_cons.mp (pc.mem_iff.mp he) with z | z
      · exact ⟨k, tk, by rw [z], by rw [z]⟩
      · exact g e z
    have nd1 : (es1.toList.map c.key).Nodup := pk.nodup_iff.mpr (List.nodup_cons.mpr ⟨hnk, nd⟩)
    have m1 : ∀ i, i ∈ ks ++ [k] ↔ i ∈ es1.toList.map c.key := fun i => by
      rw [mem' i, hm i, pk.mem_iff, List.mem_cons]
      exact Or.comm
    have size1 : es1.size = es.size + 1 := by rw [← Array.length_toList, pc.length_eq, List.length_cons, Array.length_toList]
    have hb1 : es1.size < scanBound := by omega
    have hz1 : es1.size ≤ (ks ++ [k]).length := by rw [List.length_append, size1]; show _ ≤ ks.length + 1; omega
    have hled : w.params.followText "set-order" = true ∨ t1.led = true := hl.imp id fun z => by rw [led1]; exact z
    refine wpAny_bind (hgw _ ?_)
    have fin : ∀ h', Heap.SameBut a s.heap h' → c.At h' a (ks ++ [k]) → Y true { s with heap := h' } := fun h' sb r => hY true h' sb r
    split
    · refine wpAny_bind ?_
      rw [hashByValue_scannable 8 scan]
      refine wpAny_pure ?_
      refine KS.tail ?_ ho hex hd g1 nd1 m1 hb1 ?_ hz1 ?_ ?_ ?_
      · intro b u Y' q
        exact hgw b q
      · first | (split <;> first | exact fit1 | exact SetTable.fits_plain_off fit1) | exact fit1
      · first | (split <;> exact ris1) | exact ris1
      · first | (split <;> exact hled) | exact hled
      · intro h' sb r
        dsimp only
        exact wpAny_pure (fin h' sb r)
    · refine wpAny_bind (wpAny_pure ?_)
      simp only [↓reduceIte]
      refine KS.tail (fun b u Y' q => hgw b q) ho hex hd g1 nd1 m1 hb1 fit1 hz1 ris1 hled ?_
      intro h' sb r
      dsimp only
      exact wpAny_pure (fin h' sb r)
end
end
end AL

set_option Elab.async false
set_option linter.all false
set_option maxRecDepth 100000
set_option maxHeartbeats 4000000
/-! set(a list) -/
namespace AL
open PySem PySem.Spec L2 PyProof.Rows
section
variable {P : Program} {w : World} {α : Type} [DecidableEq α] {c : KS P w α} {A : Around} {E : Value → Shared → Prop} {s : Shared}
noncomputable def setNew (w : World) : Obj := { cls := .type "set", dict := none, data := .set #[] 0 (.fresh 0 0 (!w.params.followText "set-order")) }
theorem KS.new {h : Heap} {a : Addr} (ho : h.get? a = some (setNew w)) : c.At h a [] :=
  ⟨_, #[], 0, _, ho, ⟨rfl, rfl, rfl⟩, rfl, (fun e he => nomatch he), List.nodup_nil, (fun k => ⟨fun z => (nomatch z), fun z => (nomatch z)⟩), (by decide), rfl, Nat.le_refl _, List.Pairwise.nil, by
    show _ ∨ (!w.params.followText "set-order") = true
    cases w.params.followText "set-order"
    · exact .inr rfl
    · exact .inl rfl⟩
theorem KS.loop {I : Addr} {fp wr : List Addr} {G : Array GenState → Array GenState → Prop} {n : Nat} {Pv : Nat → Value → Prop} {St : Nat → Shared → Prop} {Y : Result → Shared → Prop}
    (W : WalksS P w A.in1 I fp wr G n Pv St) (S : Addr) (hSf : S ∉ fp) (ks U : List α) (hU : ∀ j ∈ ks, j ∈ U) (hn : n = ks.length) (hb : U.length + 1 < scanBound) (hval : ∀ i v, Pv i v → ∃ k t, ks[i]? = some k ∧ v = c.val k t) :
    ∀ (d i : Nat) (s : Shared), n - i = d → i ≤ n → St i s → c.At s.heap S (ks.take i) → (∀ s', Moved (S :: wr) G s s' → c.At s'.heap S ks → Y (.ok (.ret .none)) s') →
      codeAny (model P w) A (.builtin "set.update.loop" ⟨[.ref S, .ref I], []⟩) Y s := by
  have hSw : S ∉ wr := fun h => hSf (W.sub _ h)
  have up : ∀ b ∈ wr, b ∈ S :: wr := fun b hb => List.mem_cons_of_mem _ hb
  intro d
  induction d with
  | zero =>
    intro i s hd hi hst hS hY
    have hin : i = n := by omega
    subst hin
    refine codeAny_builtin F.entry_set_update_loop ?_
    rw [Around.under_plainId F.plain_set_update_loop _]
    refine (show wpAny (model P w) A.in1 (pyNext (.ref I) >>= _) _ _ s from ?_)
    refine wpAny_bind (W.done s _ _ hst fun s' hm => (show wpAny (model P w) A.in1 (ret Value.none) _ _ s' from ?_))
    rw [List.take_of_length_le (by omega)] at hS
    exact wpAny_pure (hY s' (hm.mono up) (hS.keep fun o e => hm.heap S o hSw e))
  | succ d ih =>
    intro i s hd hi hst hS hY
    have hlt : i < n := by omega
    refine codeAny_builtin F.entry_set_update_loop ?_
    rw [Around.under_plainId F.plain_set_update_loop _]
    refine (show wpAny (model P w) A.in1 (pyNext (.ref I) >>= _) _ _ s from ?_)
    refine wpAny_bind (W.item i s _ _ hlt hst fun v s' hP hst' hm => ?_)
    obtain ⟨z, t, hz, rfl⟩ := hval i v hP
    have hS' : c.At s'.heap S (ks.take i) := hS.keep fun o e => hm.heap S o hSw e
    refine (show wpAny (model P w) A.in1 (holding [c.val z t] (setAdd S (c.val z t)) >>= _) _ _ s' from ?_)
    refine wpAny_bind (wpAny_holding ?_)
    unfold setAdd
    refine wpAny_holding (wpAny_bind (c.knd.pyHash (k := z) (c.is z t) ?_))
    refine KS.add (s := { s' with toks := s'.toks + 1 }) hS' (fun j hj => hU j (List.mem_of_mem_take hj)) hb fun b h' hsb hS2 => ?_
    have e3 : ks.take i ++ [z] = ks.take (i + 1) := by rw [List.take_add_one, hz]; rfl
    rw [e3] at hS2
    refine wpAny_pure ⟨plainId_quiet F.plain_set_update_loop _, ih (i + 1) _ (by omega) hlt (W.frame _ s' _ _ hst' (Nat.le_succ _) fun b hb o e => ?_) hS2 fun s2 hm2 hS3 => ?_⟩
    · rw [hsb.2 b (fun q : b = S => hSf (by rw [← q]; exact hb))]; exact e
    · refine hY s2 (Moved.trans W.gtrans ((hm.mono up).then_heap (Nat.le_succ _) fun b o hb e => ?_) hm2) hS3
      rw [hsb.2 b (fun q : b = S => hb (by rw [q]; exact List.mem_cons_self))]; exact e

set_option maxRecDepth 100000 in
set_option maxHeartbeats 3200000 in
theorem KS.make {l : Addr} {items : Array Value} (ks U : List α) (hU : ∀ j ∈ ks, j ∈ U) {Y : Value → Shared → Prop} (hh : A.handled = none) (hl : s.heap.IsList l items) (hit : ∀ (i : Nat) v, items[i]? = some v → ∃ k t, ks[i]? = some k ∧ v = c.val k t) (hsz : items.size = ks.length) (hb : U.length + 1 < scanBound)
    (h : ∀ (h' : Heap) (tk : Nat), c.At h' s.heap.objs.size ks → (∀ b o, s.heap.get? b = some o → h'.get? b = some o) → Y (.ref s.heap.objs.size) { s with heap := h', toks := tk }) :
    wpAny (model P w) A (call (.type "set") [.ref l]) Y E s := by
  obtain ⟨c0, tl, hmro⟩ := F.called_set.mro
  have hmade := F.called_set.made
  have hsub := F.called_set.sub
  refine wpAny_call (codeAny_of_tree (show wpAny (model P w) _ (callAny (.type "set") _) _ _ _ from ?_))
  refine wpAny_pure ⟨Code.quiet_builtin _ (by decide +kernel), codeAny_builtin F.entry_type_call ?_⟩
  rw [Around.under_plain (weight_type_call_type "set" [.ref l] []) rfl]
  have h1 := F.called_set.notType
  have h2 := F.called_set.canCreate
  have hct := F.typeCall_set_1 (.ref l)
  repeat (any_goals (first | assumption | wp_step))
  refine codeAny_mono (code_set_led1 (.ref l) (E := E) (Q₁ := fun obj u => obj = .ref s.heap.objs.size ∧ u = { s with heap := s.heap.push (setNew w) }) ⟨rfl, rfl⟩) fun r u hr => ?_
  cases r with
  | error e => exact hr
  | ok fl =>
    cases fl with
    | ret obj =>
      obtain ⟨rfl, rfl⟩ := hr
      have hS : (s.heap.push (setNew w)).get? s.heap.objs.size = some (setNew w) := Heap.get?_push_size _ rfl
      have hT : Shared.TypeIs { s with heap := s.heap.push (setNew w) } (.ref s.heap.objs.size) "set" := ⟨_, hS, rfl⟩
      have hli := F.called_set.init.lookup
      have hbi := F.called_set.init.bind (.ref s.heap.objs.size)
      repeat (any_goals (first | assumption | wp_step))
      refine codeAny_mono (codeAny_call_builtin (R := wants (fun r u => r = .none ∧ ∃ h' tk, u = { s with heap := h', toks := tk } ∧ c.At h' s.heap.objs.size ks ∧
          (∀ b o, s.heap.get? b = some o → h'.get? b = some o)) E) F.called_set.init.plain F.entry_set_init (check_set_init_1 hT ?_)) fun r₂ u₂ hr₂ => ?_
      · obtain ⟨ol, hol, hcl, nl, hdl⟩ := hl
        obtain ⟨ocls, odict, odata, oslots⟩ := ol
        simp only at hcl hdl
        subst hcl; subst hdl
        have hol' : (s.heap.push (setNew w)).get? l = some { cls := .type "list", dict := odict, data := .seq items nl, slots := oslots } := Heap.get?_push_of_some _ hol
        have hsls := F.sub_list_set
        have hslf := F.sub_list_frozenset
        have hne : (Value.type "list" == Value.type "dict") = false := by decide
        have hl1 : (s.heap.push (setNew w)).IsList l items := ⟨_, hol', rfl, nl, rfl⟩
        unfold Builtin.«set.__init__» noKeywords Builtin.Frozenset.updateFrom
        generalize hPI : pyIter = PI
        wp_walk
        subst hPI
        refine wpAny_pyIter_list hl1 (wpAny_bind (wpAny_runValue ?_))
        have hlS : l < s.heap.objs.size := Heap.lt_size hol
        have hh3 : A.in1.in1.in1.handled = none := by simp [hh]
        have hneI : l ≠ (s.heap.push (setNew w)).objs.size := by
          rw [Heap.size_push]; exact Nat.ne_of_lt (Nat.lt_succ_of_lt hlS)
        have hSf : s.heap.objs.size ∉ [(s.heap.push (setNew w)).objs.size, l] := by
          rw [Heap.size_push]; simp only [List.mem_cons, List.mem_singleton, List.not_mem_nil, or_false, not_or]
          exact ⟨Nat.ne_of_lt (Nat.lt_succ_self _), Nat.ne_of_gt hlS⟩
        refine KS.loop ((Walks.list hh3 _ l hneI items).toS) s.heap.objs.size hSf ks U hU hsz hb hit (items.size - 0) 0 _ (by omega) (Nat.zero_le _)
          ⟨⟨_, Heap.get?_push_size _ rfl, rfl, rfl⟩, (hl1.push _)⟩ ?hS0 ?hR
        case hS0 => exact KS.new (Heap.get?_push_of_some _ hS)
        case hR =>
          intro s' hm hS'
          obtain ⟨h', g2, d', tk', os'⟩ := s'
          have eg : g2 = s.gens := hm.gens
          have ed : d' = s.drawn := hm.drawn
          have eo : os' = s.os := hm.os
          subst eg; subst ed; subst eo
          refine (show wpAny (model P w) _ _ _ _ _ from wpAny_pure (show wpAny (model P w) _ (ret Value.none) _ _ _ from ?_))
          refine wpAny_pure ⟨rfl, h', tk', rfl, hS', fun b o e => ?_⟩
          have lt0 : b < s.heap.objs.size := Heap.lt_size e
          have ne1 : b ≠ s.heap.objs.size := Nat.ne_of_lt lt0
          have ne2 : b ≠ (s.heap.push (setNew w)).objs.size := by
            rw [Heap.size_push]; exact Nat.ne_of_lt (Nat.lt_succ_of_lt lt0)
          exact hm.heap b o (by simp only [List.mem_cons, List.mem_singleton, List.not_mem_nil, or_false, not_or]; exact ⟨ne1, ne2⟩) (Heap.get?_push_of_some _ (Heap.get?_push_of_some _ e))
      · cases r₂ with
        | error e => exact hr₂
        | ok fl₂ =>
          cases fl₂ with
          | ret r =>
            obtain ⟨rfl, h', tk, rfl, hS', hk'⟩ := hr₂
            repeat (any_goals (first | assumption | wp_step))
            exact h _ _ hS' hk'
          | _ => exact hr₂.elim
    | _ => exact hr.elim
theorem strs_ats : ∀ {us : List Value} {ns : List Str}, StrsAre us ns → ∀ {i : Nat} {v : Value}, us[i]? = some v → ∃ k t, ns[i]? = some k ∧ v = Value.str k t
  | _, _, .nil, i, v, h => by simp at h
  | _, _, .cons k t r, 0, v, h => ⟨k, t, rfl, (Option.some.inj h).symm⟩
  | _, _, .cons k t r, i + 1, v, h => strs_ats r (i := i) h
theorem ints_ats : ∀ {us : List Value} {ns : List Int}, IntsAre us ns → ∀ {i : Nat} {v : Value}, us[i]? = some v → ∃ k t, ns[i]? = some k ∧ v = Value.int k t
  | _, _, .nil, i, v, h => by simp at h
  | _, _, .cons k t r, 0, v, h => ⟨k, t, rfl, (Option.some.inj h).symm⟩
  | _, _, .cons k t r, i + 1, v, h => ints_ats r (i := i) h
/-- sorted(a set of texts) -/
theorem strs_of : ∀ (l : List Value), (∀ v ∈ l, ∃ k tk, v = Value.str k tk) → StrsAre l (l.map (ksS P w).kf)
  | [], _ => .nil
  | v :: l, h => by
    obtain ⟨k, tk, rfl⟩ := h v List.mem_cons_self
    exact .cons k tk (strs_of l fun u hu => h u (List.mem_cons_of_mem _ hu))
theorem sorted_setS {ks : List Str} {a : Addr} {Y : Value → Shared → Prop} (R : (ksS P w).At s.heap a ks) (hh : A.handled = none) (h64 : ks.length < 64)
    (hY : ∀ s' p (out : Array Value) (n : Nat) (ys : List Str), (∀ b o, s.heap.get? b = some o → s'.heap.get? b = some o) → s'.gens = s.gens → s'.os = s.os → s.heap.objs.size ≤ p →
      s'.heap.get? p = some (seqObj "list" out n) → StrsAre out.toList ys → sortedS ys = true → ys.Nodup → (∀ k, k ∈ ys ↔ k ∈ ks) → ys.length ≤ ks.length → Y (.ref p) s') :
    wpAny (model P w) A (call (.builtin "sorted") [.ref a]) Y E s := by
  obtain ⟨o, es, ep, t, ho, hex, hd, g, nd, hm, hb, hf, hn, hr, hl⟩ := R
  refine Calls.call_function_entry kind_sorted plain_sorted entry_sorted (args_sorted1 _) ?_
  unfold Builtin.«sorted»
  refine wpAny_bind (m := checkCount "sorted" 1 1 _) (wpAny_pure (wpAny_bind (collect_set (A := A.in1) hh ⟨o, ho, hex.1, hd⟩ hf hb hr hl fun s1 vs k1 hz g1 o1 pm => ?_)))
  have vlen : vs.length = es.size := by rw [pm.length_eq, List.length_map, Array.length_toList]
  have hS : StrsAre vs (vs.map (ksS P w).kf) := strs_of vs fun v hv => by
    obtain ⟨e, he, q⟩ := List.mem_map.mp (pm.mem_iff.mp hv)
    obtain ⟨k, tk, h1, _⟩ := g e he
    exact ⟨k, tk, by rw [← q]; exact h1⟩
  have pk : (vs.map (ksS P w).kf).Perm (es.toList.map (ksS P w).key) := by
    have q := pm.map (ksS P w).kf
    rw [List.map_map] at q
    exact q
  refine wpAny_bind (wpAny_newList ?_ (by rw [vlen, sizeLine_eq]; omega))
  have atL : (s1.heap.push (seqObj "list" vs.toArray 0)).get? s1.heap.objs.size = some (seqObj "list" vs.toArray 0) := Heap.get?_push_size _ rfl
  refine wpAny_bind (wpAny_holding (wpAny_call_entry slot_list_sort ⟨_, atL, rfl⟩ entry_list_sort
    (list_sort_treeK strKind_oneLt atL hS.keysOf (fun v₁ v₂ rest e => keyKind_strs (by rw [← e]; exact hS)) (by omega) fun st' a1 a2 => ⟨_, rfl, ?_⟩) (args_list_sort _)))
  obtain ⟨ys, b1, b2, b3⟩ := sorted_out_str hS a1 a2
  obtain ⟨n, hc⟩ := sortedHeap_at (vs := vs) (out := (arrOf st').map (·.2)) atL
  have pn : ys.Perm (es.toList.map (ksS P w).key) := b2.trans pk
  refine wpAny_pure ⟨_, rfl, hY _ s1.heap.objs.size _ n ys (fun b u e => ?_) g1 o1 hz hc b1 b3 (pn.nodup_iff.mpr nd) (fun k => by rw [pn.mem_iff, ← hm k]) ?_⟩
  · have q := k1 b u e
    have lt := Heap.lt_size q
    refine (show (sortedHeap (s1.heap.push (seqObj "list" vs.toArray 0)) s1.heap.objs.size vs _).get? b = some u from ?_)
    rw [sortedHeap_old (Nat.ne_of_lt lt) (by rw [size_push']; exact Nat.lt_succ_of_lt lt)]
    exact Heap.get?_push_of_some _ q
  · rw [pn.length_eq, List.length_map, Array.length_toList]; exact hn
theorem KS.toR {ks : List Int} {h : Heap} {a : Addr} (R : (ksI P w).At h a ks) : ∃ n, n ≤ ks.length ∧ (∀ U : List Int, (∀ j ∈ ks, j ∈ U) → n ≤ U.length) ∧ SetR w h a (fun k => decide (k ∈ ks)) n := by
  obtain ⟨o, es, ep, t, ho, hex, hd, g, nd, hm, hb, hf, hn, hr, hl⟩ := R
  refine ⟨es.size, hn, fun U hU => ?_, o, es, ep, t, ho, hex, hd, fun e he => ?_, ?_, fun k => ?_, hb, hf, rfl, hr, hl⟩
  · have z := nodup_le nd fun j hj => hU j ((hm j).2 hj)
    rw [List.length_map, Array.length_toList] at z
    exact z
  · obtain ⟨k, tk, h1, h2⟩ := g e he
    exact ⟨k, tk, h1, h2⟩
  · exact nd
  · rw [decide_eq_true_iff]
    exact hm k
end
section
variable {X : Cx}
/-- sorted(set(xs)), fewer than 64 texts or ints -/
noncomputable def tSortSet (K : Frg) (ta : TE) : TE := fun σ H Q => ta σ H fun x H1 =>
  (∃ (l : Addr) (xs : List Str), x = .ref l ∧ SqL K H1 l (xs.map V.str) ∧ xs.length < 64 ∧ ∀ (ys : List Str) (p : Addr), sortedS ys = true → ys.Nodup → (∀ y, y ∈ ys ↔ y ∈ xs) → ys.length ≤ xs.length → H1 p = none → Q (.ref p) (upd H1 p (.lst (ys.map V.str)))) ∨
  (∃ (l : Addr) (xs U : List Int), x = .ref l ∧ SqL K H1 l (xs.map V.int) ∧ (∀ j ∈ xs, j ∈ U) ∧ U.length < 64 ∧ ∀ (ys : List Int) (p : Addr), ys.Pairwise (· < ·) → (∀ y, y ∈ ys ↔ y ∈ xs) → ys.length ≤ U.length → H1 p = none → Q (.ref p) (upd H1 p (.lst (ys.map V.int))))
theorem pe_sortSet {a : Expr} {ta : TE} {p p2 q pos : Pos} (hc : X.calm = true) (hg : Gl X "sorted") (hm : X.mg "sorted" = none) (hg2 : Gl X "set") (hm2 : X.mg "set" = none) (ha : PE X a ta)
    (na : starEach [a] X.env = (false, eval a X.env) :: starEach [] X.env := by rfl) : PE X (.Call (.Name "sorted" p) [.Call (.Name "set" p2) [a] [] q] [] pos) (tSortSet X.K ta) := by
  refine ⟨fun pins s σ H Q I h => Call_ (ld_blt I hg hm boot_sorted (PyProof.Rows.callWith_builtin1 (PyProof.Rows.args_cons ?_ rfl) rfl rfl))⟩
  refine Call_ (ld_blt I hg2 hm2 boot_set (PyProof.Rows.callWith_type1 (PyProof.Rows.args_cons (thn (ha.run pins s σ H _ I h) fun v s1 ⟨x, H1, I1, r1, q1⟩ => PyProof.Rows.args_nil ?_) na) na rfl))
  have fin : ∀ (h' : Heap) (tk : Nat), (∀ b o, s1.heap.get? b = some o → h'.get? b = some o) → Inv X pins σ H1 { s1 with heap := h', toks := tk } := fun h' tk hk => I1.kept fun b o e => hk b o e
  have hend : ∀ (u : Shared) (J0 : Inv X pins σ H1 u) (s' : Shared) (pp : Addr) (out : Array Value) (n : Nat) (vs : List V), (∀ b o, u.heap.get? b = some o → s'.heap.get? b = some o) → s'.gens = u.gens → s'.os = u.os → u.heap.objs.size ≤ pp →
      s'.heap.get? pp = some (seqObj "list" out n) → Vals vs out.toList → vs.length < 64 → (H1 pp = none → Q (.ref pp) (upd H1 pp (.lst vs))) → EP X pins σ Q (.ref pp) s' := by
    intro u J0 s' pp out n vs k g o hp hat hv h64 hq
    have hlen : vs.length ≤ sizeLine := by rw [sizeLine_eq]; omega
    have hn : H1 pp = none := J0.hok.fresh hp
    have J : Inv X pins σ (upd H1 pp (.lst vs)) { u with heap := s'.heap, gens := s'.gens, drawn := s'.drawn, toks := s'.toks } :=
      J0.call (ch := []) (Un.laid k hp hn) (J0.hok.laid k hp ⟨hlen, out.toList, n, hv, hat⟩) (by rw [g]; exact J0.bare) (fun _ z => nomatch z)
    have e : s' = { u with heap := s'.heap, gens := s'.gens, drawn := s'.drawn, toks := s'.toks } := by
      cases s'
      cases u
      cases o
      rfl
    rw [e]
    exact ⟨.ref pp, _, J, rfl, hq hn⟩
  rcases q1 with ⟨l, xs, rfl, hq, h64, q1⟩ | ⟨l, xs, U, rfl, hq, hU, h64, q1⟩
  · cases r1
    obtain ⟨its, rv, pl, hz⟩ := I1.list hq
    have hS := rv.strs
    have hlen := rv.length
    rw [List.length_map] at hlen
    refine KS.make (c := ksS X.prog X.w) xs xs (fun _ h => h) (I1.ok.hd hc) pl.isList (fun i v hv => ?_) (by rw [List.size_toArray]; exact hlen.symm) (by unfold scanBound; omega) fun h' tk hR hk => ?_
    · exact strs_ats hS (by simpa using hv)
    · refine PyProof.Rows.args_nil ?_
      refine sorted_setS (P := X.prog) (w := X.w) (s := { s1 with heap := h', toks := tk }) hR (I1.ok.hd hc) h64 fun s' pp out n ys k g o hp hat hs h1 h2 h3 h4 => ?_
      exact hend _ (fin h' tk hk) s' pp out n _ k g o hp hat (vals_of_strs hs) (by rw [List.length_map]; omega) fun hn => q1 ys pp h1 h2 h3 h4 hn
  · cases r1
    obtain ⟨its, rv, pl, hz⟩ := I1.list hq
    have hS := ints_of_vals rv
    have hlen := rv.length
    rw [List.length_map] at hlen
    refine KS.make (c := ksI X.prog X.w) xs U hU (I1.ok.hd hc) pl.isList (fun i v hv => ?_) (by rw [List.size_toArray]; exact hlen.symm) (by unfold scanBound; omega) fun h' tk hR hk => ?_
    · exact ints_ats hS (by simpa using hv)
    · refine PyProof.Rows.args_nil ?_
      obtain ⟨m, hm, hmU, hR⟩ := KS.toR hR
      have hmU := hmU U hU
      refine sorted_set (s := { s1 with heap := h', toks := tk }) hR (I1.ok.hd hc) (by omega) fun s' pp out n ys k g o hp hat hi hs hmm hl => ?_
      exact hend _ (fin h' tk hk) s' pp out n _ k g o hp hat (vals_of_ints hi) (by rw [List.length_map]; omega) fun hn => q1 ys pp hs (fun y => by rw [hmm y, decide_eq_true_iff]) (by omega) hn
end
end AL

set_option Elab.async false
set_option linter.all false
set_option maxRecDepth 100000
set_option maxHeartbeats 4000000
/-! sorted(set(..)), min of a list, dict of a list of pairs: the abstract rules -/
namespace AL
open PySem L2 PyProof.Rows
section
variable {Γ : Cg} {K : Frg} {F : Hp} {ms : Ms} {S : Sg} {Q : QE} {ta : TE}
noncomputable def rDICT (K : Frg) : List V → Hp → VK → Prop := fun xs H Q => ∃ (a : Addr) (ps : List Addr) (kvs : List (Key × V)), xs = [.ref a] ∧ SqL K H a (ps.map V.ref) ∧ Paired (fun p kv => SqT K H p [kV kv.1, kv.2]) ps kvs ∧ ∀ p, H p = none → Q (.ref p) (upd H p (.dK (mergeK [] kvs)))
noncomputable def mergeKD (kvs more : List (Key × D)) : List (Key × D) := more.foldl (fun acc kv => putKD acc kv.1 kv.2) kvs
end
end AL

set_option Elab.async false
set_option linter.all false
set_option maxRecDepth 100000
set_option maxHeartbeats 4000000
/-! comprehensions whose test and value change nothing -/
namespace AL
open PySem L2 PyProof.Rows
section
variable {Γ : Cg} {F : Hp} {ms : Ms} {S : Sg} {Q : QE} {wi : TI} {tt : TT} {te tx : TE} {ta : TA} {v : Nat} {vs : List Nat}
theorem AI.mono {P P' : Hp → Ms → List D → (Ms → Prop) → Prop} (h : AI Γ wi F ms S P) (m : ∀ F1 ms1 ds G, Ex F F1 → P F1 ms1 ds G → P' F1 ms1 ds G) : AI Γ wi F ms S P' := fun R σ H Rc hs hh x k =>
  h R σ H Rc hs hh x fun F1 ms1 ds G J H1 e a b q => k F1 ms1 ds G J H1 e a b (m _ _ _ _ e q)
theorem AA.mono {P P' : Hp → Ms → List D → Prop} (h : AA Γ ta F ms S P) (m : ∀ F' ms' ds, Ex F F' → P F' ms' ds → P' F' ms' ds) : AA Γ ta F ms S P' := fun R σ H Qc hs hh x k =>
  h R σ H Qc hs hh x fun F' ms' ds vs H' e ho hr q => k F' ms' ds vs H' e ho hr (m F' ms' ds e q)
/-- a test and a value that change nothing -/
noncomputable def Pure (Γ : Cg) (tt : TT) (te : TE) (F : Hp) (ms : Ms) (S : Sg) (b : Bool) (y : D) : Prop := AT Γ.nox tt F ms S fun F3 ms3 b' => ms3 = ms ∧ b' = b ∧ (b = true → AE Γ.nox te F3 ms3 S fun F4 ms4 y' => ms4 = ms ∧ y' = y)
end
end AL

set_option Elab.async false
set_option linter.all false
set_option maxRecDepth 100000
set_option maxHeartbeats 4000000
/-! min of a list of pairs of ints -/
namespace AL
open PySem PySem.Spec PyProof.Rows L2
noncomputable abbrev I2 := Int × Int
noncomputable def lt2 (a b : I2) : Bool := if a.1 = b.1 then decide (a.2 < b.2) else decide (a.1 < b.1)
noncomputable def py2 (c : I2) : PyData := .tuple [.int c.1, .int c.2]
noncomputable def d2 (c : I2) : D := .tup [.int c.1, .int c.2]
theorem lt2_iff (a b : I2) : lt2 a b = true ↔ a.1 < b.1 ∨ (a.1 = b.1 ∧ a.2 < b.2) := by
  unfold lt2
  split
  · rw [decide_eq_true_iff]; omega
  · rw [decide_eq_true_iff]; omega
theorem lt2_data (a b : I2) : PySem.W.dataLt (py2 a) (py2 b) = lt2 a b := by
  rw [Bool.eq_iff_iff, lt2_iff]
  unfold py2
  rw [PySem.W.dataLt_ii, decide_eq_true_iff]
theorem min2 : ∀ (cs : List I2) (c : I2), ∃ m, PySem.W.minD (py2 c) (cs.map py2) = py2 m ∧ m ∈ c :: cs ∧ ∀ y ∈ c :: cs, lt2 y m = false
  | [], c => ⟨c, rfl, List.mem_cons_self .., fun y hy => by
    rw [List.mem_singleton.mp hy]
    cases e : lt2 c c with
    | false => rfl
    | true => have := (lt2_iff c c).mp e; omega⟩
  | b :: cs, c => by
    have tr : ∀ {x y z : I2}, lt2 x y = false → lt2 y z = false → lt2 x z = false := fun {x y z} h1 h2 => by
      cases e : lt2 x z with
      | false => rfl
      | true =>
        have e := (lt2_iff x z).mp e
        have h1 : ¬ (lt2 x y = true) := by rw [h1]; decide
        have h2 : ¬ (lt2 y z = true) := by rw [h2]; decide
        rw [lt2_iff] at h1 h2
        omega
    have e : PySem.W.minD (py2 c) ((b :: cs).map py2) = PySem.W.minD (py2 (if lt2 b c = true then b else c)) (cs.map py2) := by
      unfold PySem.W.minD
      rw [List.map_cons, List.foldl_cons, lt2_data]
      cases lt2 b c <;> rfl
    obtain ⟨m, h1, h2, h3⟩ := min2 cs (if lt2 b c = true then b else c)
    refine ⟨m, e.trans h1, ?_, ?_⟩
    · rcases List.mem_cons.mp h2 with h | h
      · rw [h]
        split
        · exact List.mem_cons_of_mem _ (List.mem_cons_self ..)
        · exact List.mem_cons_self ..
      · exact List.mem_cons_of_mem _ (List.mem_cons_of_mem _ h)
    · have h0 := h3 _ (List.mem_cons_self ..)
      intro y hy
      cases q : lt2 b c with
      | true =>
        rw [q, if_pos rfl] at h0
        rcases List.mem_cons.mp hy with rfl | hy
        · refine tr ?_ h0
          cases z : lt2 y b with
          | false => rfl
          | true =>
            have a1 := (lt2_iff _ _).mp z
            have a2 := (lt2_iff _ _).mp q
            omega
        · rcases List.mem_cons.mp hy with rfl | hy
          · exact h0
          · exact h3 y (List.mem_cons_of_mem _ hy)
      | false =>
        rw [q, if_neg (by decide)] at h0
        rcases List.mem_cons.mp hy with rfl | hy
        · exact h0
        · rcases List.mem_cons.mp hy with rfl | hy
          · exact tr q h0
          · exact h3 y (List.mem_cons_of_mem _ hy)
/-- min of a list of pairs of ints -/
noncomputable def rMin2 (K : Frg) : List V → Hp → VK → Prop := fun vs H Q => ∃ (a : Addr) (xs : List V) (cs : List I2), vs = [.ref a] ∧ SqL K H a xs ∧ DpAll K H xs (cs.map py2) ∧ cs ≠ [] ∧ cs.length ≤ 100000 ∧
  ∀ (i : Nat) v m, xs[i]? = some v → cs[i]? = some m → (∀ y ∈ cs, lt2 y m = false) → Q v H
section
variable {X : Cx} {K : Frg}
end
end AL

set_option Elab.async false
set_option linter.all false
set_option maxRecDepth 100000
set_option maxHeartbeats 4000000
/-! comprehensions within comprehensions -/
namespace AL
open PySem PySem.Spec PyProof.Rows L2
noncomputable def blkB (N : List Str) (sc scope : Scope) (own : List (Str × Nat)) : Bool :=
  decide (scope.kind = .function) && decide (∀ y ∈ scope.names, scope.names.lookup y.1 = some y.2) && decide (∀ p ∈ own, N[p.2]? = some p.1) &&
  decide (∀ y ∈ scope.names, y.2 = .free → sc.names.lookup y.1 = some .cell ∨ sc.names.lookup y.1 = some .free) && decide (∀ y ∈ scope.names, y.2 = .local ∨ y.2 = .cell → y.1 ∈ own.map (·.1) ∨ y.1 ∉ N)
end AL

set_option Elab.async false
set_option linter.all false
set_option maxRecDepth 100000
set_option maxHeartbeats 4000000
/-! for loops in the body of a generator -/
namespace PySem
section
variable {M : Model} {A : Around} {R : GenEnd} {Y : Protocol} {n : Nat} {s₀ : Shared} {c : Code} {fs : List Frame} {s : Shared} {env : Env}
  {K : Flow → Sem Fin} {H : Value → Sem Fin} {gd : Bool → Bool} {lv : List Value → List Value}
theorem seg_For {target iter : Expr} {body orelse : List Stmt} {pos : Pos} (hs : ∀ x, foldedSetIterable iter env x = pure x)
    (h : wpAny M (A.over c fs) (eval iter env) (fun x s1 => wpAny M (A.over c fs) (pyIter x) (fun itv s2 => ∀ p, Seg M A R Y n s₀ (.forLoop target itv body orelse env) (M.den (.forLoop target itv body orelse env))
      (.ret (fun r => ((match r with | .ok f => (.pure f : Sem Flow) | .error e => .raise e).onRaise fun (x : Value) => do
        if (← field x 1) == Value.none then unsupported "frame.own-activation:exception-without-traceback"
        setFlight x env.frame).wrap K H gd lv) none (gd false) (lv []) c p [] :: fs) s2) (fun x s' => Seg M A R Y n s₀ c (H x) fs s') s1) (fun x s' => Seg M A R Y n s₀ c (H x) fs s') s) :
    Seg M A R Y n s₀ c ((exec (.For target iter body orelse pos) env).wrap K H gd lv) fs s := by
  rw [exec_For]
  refine seg_at ?_
  show Seg M A R Y n s₀ c ((eval iter env >>= fun v => foldedSetIterable iter env v >>= fun x => standAt iter.pos >>= fun _ => holding [x] (pyIter x) >>= fun it => runOwn (.forLoop target it body orelse env) env).wrap K H gd lv) fs s
  rw [Sem.bind_eq_wrap', Sem.wrap_wrap]
  refine seg_wrap (wpAny_mono h (fun v s1 h1 => ?_) fun _ _ z => z)
  show Seg M A R Y n s₀ c ((foldedSetIterable iter env v >>= fun x => standAt iter.pos >>= fun _ => holding [x] (pyIter x) >>= fun it => runOwn (.forLoop target it body orelse env) env).wrap K H gd lv) fs s1
  rw [hs v]
  show Seg M A R Y n s₀ c (.at iter.pos fun _ => (holding [v] (pyIter v) >>= fun it => runOwn (.forLoop target it body orelse env) env).wrap K H gd lv) fs s1
  refine seg_at ?_
  rw [Sem.bind_eq_wrap', Sem.wrap_wrap]
  refine seg_wrap (wpAny_holding (wpAny_mono h1 (fun it s2 h2 => ?_) fun _ _ z => z))
  exact seg_call h2
end
section
variable {prog : Program} {w : World} {A : Around} {R : GenEnd} {Y : Protocol} {n : Nat} {s₀ : Shared} {fs : List Frame} {s : Shared} {env : Env}
noncomputable abbrev segBack (env : Env) (x : Value) : Sem Fin := (do noteFrame x env; theTreesLotGoes x : Sem Unit).wrap (fun _ => .raise x) .raise id id
theorem seg_forLoop {target : Expr} {it : Value} {body orelse : List Stmt}
    (h : wpAny (model prog w) (A.over (.forLoop target it body orelse env) fs) (pyNext it) (fun r s1 => match r with
        | none => Seg (model prog w) A R Y n s₀ (.forLoop target it body orelse env) (.pure (.again (.block orelse env))) fs s1
        | some v => wpAny (model prog w) (A.over (.forLoop target it body orelse env) fs) (letOwnedTupleGo target it v) (fun _ s2 =>
            wpAny (model prog w) (A.over (.forLoop target it body orelse env) fs) (assign target env v) (fun _ s3 =>
              Seg (model prog w) A R Y n s₀ (.forLoop target it body orelse env) ((execs body env).wrap (fun f => match f with
                | .next | .cont => .pure (.again (.forLoop target it body orelse env))
                | .brk => .pure (.done .next)
                | .ret v => .pure (.done (.ret v))) (segBack env) id id) fs s3)
              (fun x s' => Seg (model prog w) A R Y n s₀ (.forLoop target it body orelse env) (segBack env x) fs s') s2)
            (fun x s' => Seg (model prog w) A R Y n s₀ (.forLoop target it body orelse env) (segBack env x) fs s') s1)
      (fun x s' => Seg (model prog w) A R Y n s₀ (.forLoop target it body orelse env) (segBack env x) fs s') s) :
    Seg (model prog w) A R Y n s₀ (.forLoop target it body orelse env) ((model prog w).den (.forLoop target it body orelse env)) fs s := by
  have back : ∀ (x : Value), (((do noteFrame x env; theTreesLotGoes x : Sem Unit) >>= fun _ => (.raise x : Sem Fin))) = segBack env x := fun x => Sem.bind_eq_wrap _ _
  show Seg _ A R Y n s₀ _ ((forTurn target it body orelse env).onRaise (fun x => do noteFrame x env; theTreesLotGoes x)) fs s
  unfold forTurn
  rw [Sem.onRaise_eq_wrap]
  refine seg_at ?_
  show Seg _ A R Y n s₀ _ (((pyNext it).onRaise (fun _ => standAt { target.pos with line := 0 }) >>= _).wrap _ _ _ _) fs s
  rw [Sem.bind_eq_wrap', Sem.wrap_wrap]
  refine seg_wrap (wpAny_onRaise (wpAny_mono h (fun r s1 h1 => ?_) fun x s' hx => wpAny_standAt ?_))
  · cases r with
    | none => exact h1
    | some v =>
      show Seg _ A R Y n s₀ _ ((letOwnedTupleGo target it v >>= fun _ => assign target env v >>= fun _ => execs body env >>= _).wrap _ _ _ _) fs s1
      rw [Sem.bind_eq_wrap', Sem.wrap_wrap]
      refine seg_wrap (wpAny_mono h1 (fun _ s2 h2 => ?_) fun x s' hx => ?_)
      · show Seg _ A R Y n s₀ _ ((assign target env v >>= fun _ => execs body env >>= _).wrap _ _ _ _) fs s2
        rw [Sem.bind_eq_wrap', Sem.wrap_wrap]
        refine seg_wrap (wpAny_mono h2 (fun _ s3 h3 => ?_) fun x s' hx => ?_)
        · show Seg _ A R Y n s₀ _ ((execs body env >>= _).wrap _ _ _ _) fs s3
          rw [Sem.bind_eq_wrap', Sem.wrap_wrap]
          rw [Sem.wrap_congr (execs body env) _ _ (K' := fun f => match f with
            | .next | .cont => .pure (.again (.forLoop target it body orelse env))
            | .brk => .pure (.done .next)
            | .ret v => .pure (.done (.ret v))) (H' := segBack env)
            (fun f => by cases f <;> rfl) (fun e => by exact back e)]
          exact h3
        · rw [← back x] at hx
          exact hx
      · rw [← back x] at hx
        exact hx
  · rw [← back x] at hx
    exact hx
end
end PySem

set_option Elab.async false
set_option linter.all false
set_option maxRecDepth 100000
set_option maxHeartbeats 4000000
/-! for loops in the body of a generator: the invariant's level -/
namespace L2
open PySem PySem.Spec PyProof.Rows GenW
section
variable {X : Cx}
noncomputable def tGFor (wi : TI) (g : TG) (tb : TGn) : TGn := fun D ys σ H => wi σ H fun J H1 => ∃ W : Nat → Nat → List V → St → Hp → Prop, (∃ m, W 0 m ys σ H1) ∧ ∀ i m ys σ H, W i m ys σ H →
  (J.stop i H ∧ D.nx ys σ H) ∨ (J.go i H ∧ ∃ N : List V → St → Hp → Prop, (∀ ys' σ' H', N ys' σ' H' → ∃ m', m' < m ∧ W (i + 1) m' ys' σ' H') ∧ ∀ x H', J.yld i H x H' → g x σ H' fun σ2 H2 => tb { D with nx := N, ct := N, bk := D.nx } ys σ2 H2)
theorem gs_for {tg iter : Expr} {body : List Stmt} {wi : TI} {g : TG} {tb : TGn} {pos : Pos} (hp : PassesOwn (model X.prog X.w) X.A X.env X.xe) (hc : X.calm = true) (hi : PI X tg iter wi) (hg : PG X tg g) (hb : GSs X body tb)
    (hs : ∀ x, foldedSetIterable iter X.env x = pure x := by intro _; rfl) : GS X (.For tg iter body [] pos) (tGFor wi g tb) := by
  refine ⟨fun A S ip R n ys s₀ c fs K J gd lv s σ H D G hn k hI ht => ?_⟩
  obtain ⟨acc, cc, r, I⟩ := hI
  refine seg_For hs ?_
  rw [G.over]
  refine wpAny_mono (hi.run _ s σ H _ I ht) (fun v s1 h1 => wpAny_mono h1 (fun itv s2 h2 p => ?_) fun x s' hx => k.exc n s₀ x s' hx) fun x s' hx => k.exc n s₀ x s' hx
  obtain ⟨it, fp, tn, Jt, H2, e, I2, T, st2, f2, W, ⟨m0, w0⟩, turn⟩ := h2
  subst e
  have gl := fun (kk : Result → Sem PySem.Fin) => gc_loop (k := kk) (c' := .forLoop tg (.ref it) body [] X.env) (l := lv []) (kp := []) (p := p) G rfl rfl
  have stat : ∀ {H' : Hp}, (∀ b ∈ fp, H' b = none) → ∀ b ∈ fp, ∀ (acc' : Array Value) (c' : Nat), FpOk X ((S, lstObj acc' c') :: ip) H' b := fun hn b hb acc' c' => by
    obtain ⟨_, q1, q2, q3, q4, q5⟩ := f2 b hb
    refine ⟨hn b hb, q1, q2, q3, q4, fun p hp => ?_⟩
    rcases List.mem_append.mp hp with hp | hp
    · exact q5 p (List.mem_append_left _ hp)
    · rcases List.mem_cons.mp hp with hp | hp
      · rw [hp]; exact q5 (S, lstObj acc cc) (List.mem_append_right _ List.mem_cons_self)
      · exact q5 p (List.mem_append_right _ (List.mem_cons_of_mem _ hp))
  have fpS : ∀ b ∈ fp, b ≠ S := fun b hb z => (f2 b hb).2.2.2.2.2 (S, lstObj acc cc) (List.mem_append_right _ List.mem_cons_self) z.symm
  have loop : ∀ (m i n : Nat) (ys : List V) (s₀ s : Shared) (σ : St) (H : Hp), n + ys.length = sizeLine → W i m ys σ H → GI X S ip ys σ H s → tn i s.heap → (∀ b ∈ fp, H b = none) →
      Seg (model X.prog X.w) A R (GY X S) n s₀ (.forLoop tg (.ref it) body [] X.env) ((model X.prog X.w).den (.forLoop tg (.ref it) body [] X.env))
        (.ret (fun r => ((match r with | .ok f => (.pure f : Sem Flow) | .error e => .raise e).onRaise (cameBack X.env)).wrap K J gd lv) none (gd false) (lv []) c p [] :: fs) s := by
    intro m
    induction m using Nat.strongRecOn with
    | ind m ih =>
      intro i n ys s₀ s3 σ3 H3 hn w3 hI st3 fr3
      have ee : ∀ (n : Nat) (s₀ : Shared) (x : Value) (s' : Shared), X.xe x s' → Seg (model X.prog X.w) A R (GY X S) n s₀ (.forLoop tg (.ref it) body [] X.env)
          (segBack X.env x)
          (.ret (fun r => ((match r with | .ok f => (.pure f : Sem Flow) | .error e => .raise e).onRaise (cameBack X.env)).wrap K J gd lv) none (gd false) (lv []) c p [] :: fs) s' := fun n s₀ x s' hx => by
        refine seg_wrap ?_
        rw [(gl _).over]
        refine wpAny_bind (wpAny_mono (hp x s' hx) (fun _ s'' hcb => wpAny_theTreesLotGoes ?_) fun y s'' hcb => ?_)
        · exact seg_leaf (.error x) (seg_cameBack G k hcb)
        · exact seg_leaf (.error y) (seg_cameBack G k hcb)
      obtain ⟨acc3, cc3, r3, I3⟩ := hI
      refine seg_forLoop ?_
      rw [(gl _).over]
      rcases turn i m ys σ3 H3 w3 with ⟨stop, qn⟩ | ⟨go, N, hN, step⟩
      · refine wpAny_mono (T.done X rfl rfl rfl hc i _ s3 σ3 H3 X.xe I3 (fun b hb => stat fr3 b hb acc3 cc3) st3 stop) (fun r s4 ⟨hr, I4⟩ => ?_) fun x s' hx => ee n s₀ x s' hx
        subst hr
        refine seg_again rfl ?_
        show Seg _ _ _ _ _ _ _ ((execs [] X.env >>= fun f => (.pure (.done f) : Sem PySem.Fin))) _ _
        rw [Sem.bind_eq_wrap']
        exact seg_execs_nil (seg_leaf (.ok .next) (k.ok n ys s₀ s4 .next hn ⟨σ3, H3, ⟨acc3, cc3, r3, I4⟩, qn⟩))
      · refine wpAny_mono (T.item X rfl rfl rfl hc i _ s3 σ3 H3 X.xe I3 (fun b hb => stat fr3 b hb acc3 cc3) st3 go) (fun r s4 ⟨u, hr, h4⟩ => ?_) fun x s' hx => ee n s₀ x s' hx
        subst hr
        refine wpAny_mono h4 (fun _ s5 ⟨x, H5, I5, r5, y5, st5, fr5⟩ => ?_) fun x s' hx => ee n s₀ x s' hx
        have I5' := I5.pinned (fun b hb => stat fr5 b hb acc3 cc3) (T.obj _ _ st5)
        refine wpAny_mono (hg.run _ s5 σ3 H5 x u _ I5' r5 (step x H5 y5)) (fun _ s6 ⟨σ6, H6, I6, q6⟩ => ?_) fun x s' hx => ee n s₀ x s' hx
        have gl2 : ∀ kk : Result → Sem PySem.Fin, GC X S (ip ++ pinsAt fp s5.heap) A (.forLoop tg (.ref it) body [] X.env) (.ret kk none (gd false) (lv []) c p [] :: fs) id := fun kk =>
          ⟨(gl kk).pn, fun q hq => (List.mem_append.mp hq).elim (fun hq => G.ip q hq) fun hq => fpS q.1 (of_pinsAt hq).1, (gl kk).apart, (gl kk).over, (gl kk).split, (gl kk).guard, (gl kk).gd⟩
        have drop : ∀ {ys' : List V} {σ' : L2.St} {H' : Hp} {s' : Shared}, GI X S (ip ++ pinsAt fp s5.heap) ys' σ' H' s' → GI X S ip ys' σ' H' s' := fun {ys' σ' H' s'} ⟨acc', cc', r', I'⟩ =>
          ⟨acc', cc', r', Inv.unpinned (pl := pinsAt fp s5.heap) (pins := (S, lstObj acc' cc') :: ip) I'⟩
        have again : ∀ {n' : Nat} {s₀' : Shared} {ys' : List V} {σ' : L2.St} {H' : Hp} {s' : Shared}, n' + ys'.length = sizeLine → GI X S (ip ++ pinsAt fp s5.heap) ys' σ' H' s' → N ys' σ' H' →
            Seg (model X.prog X.w) A R (GY X S) n' s₀' (.forLoop tg (.ref it) body [] X.env) ((model X.prog X.w).den (.forLoop tg (.ref it) body [] X.env))
              (.ret (fun r => ((match r with | .ok f => (.pure f : Sem Flow) | .error e => .raise e).onRaise (cameBack X.env)).wrap K J gd lv) none (gd false) (lv []) c p [] :: fs) s' := fun {n' s₀' ys' σ' H' s'} hn' hG n7 => by
          obtain ⟨m', hm, w7⟩ := hN ys' σ' H' n7
          have I7 := hG
          obtain ⟨acc7, cc7, r7, I7⟩ := I7
          have pn7 : ∀ b ∈ fp, ∀ o, s5.heap.get? b = some o → s'.heap.get? b = some o ∧ H' b = none := fun b hb o e =>
            have h := I7.pin (b, o) (List.mem_append_right _ (List.mem_cons_of_mem _ (List.mem_append_right _ (mem_pinsAt hb e))))
            ⟨h.1, h.2.1⟩
          refine ih m' hm (i + 1) n' ys' s₀' s' σ' H' hn' w7 (drop hG) (T.keep _ _ _ st5 fun b hb o e => (pn7 b hb o e).1) fun b hb => ?_
          obtain ⟨o, e, d⟩ := T.obj _ _ st5 b hb
          exact (pn7 b hb o e).2
        refine hb.run A S (ip ++ pinsAt fp s5.heap) R n ys s₀ _ _ _ _ id id s6 σ6 H6 { D with nx := N, ct := N, bk := D.nx } (gl2 _) hn ⟨fun n' ys' s₀' s7 f hn' hs => ?_, fun n' s₀' x s7 hx => ee n' s₀' x s7 hx⟩ ⟨acc3, cc3, r3, I6⟩ q6
        cases f with
        | next =>
          obtain ⟨σ7, H7, G7, n7⟩ := hs
          exact seg_again rfl (again hn' G7 n7)
        | cont =>
          obtain ⟨σ7, H7, G7, n7⟩ := hs
          exact seg_again rfl (again hn' G7 n7)
        | brk =>
          obtain ⟨σ7, H7, G7, q7⟩ := hs
          exact seg_leaf (.ok .next) (k.ok n' ys' s₀' s7 .next hn' ⟨σ7, H7, drop G7, q7⟩)
        | ret v =>
          obtain ⟨x7, σ7, H7, G7, rr, q7⟩ := hs
          exact seg_leaf (.ok (.ret v)) (k.ok n' ys' s₀' s7 (.ret v) hn' ⟨x7, σ7, H7, drop G7, rr, q7⟩)
  exact loop m0 0 n ys s₀ s2 σ H2 hn w0 ⟨acc, cc, r, I2⟩ st2 fun b hb => (f2 b hb).1
end
end L2

set_option Elab.async false
set_option linter.all false
set_option maxRecDepth 100000
set_option maxHeartbeats 4000000
/-! generator defs in terms of data -/
namespace L2
open PySem PySem.Spec PyProof.Rows GenW
section
variable {X : Cx}
theorem GI.wish {S : Addr} {ip : List (Addr × Obj)} {ys : List V} {σ : St} {H : Hp} {s : Shared} (E : Value → Shared → Prop) (h : GI X S ip ys σ H s) : GI (X.wish E) S ip ys σ H s := by
  obtain ⟨acc, c, r, I⟩ := h
  exact ⟨acc, c, r, I.wish E⟩
theorem GI.unwish {S : Addr} {ip : List (Addr × Obj)} {ys : List V} {σ : St} {H : Hp} {s : Shared} {E : Value → Shared → Prop} (h : GI (X.wish E) S ip ys σ H s) : GI X S ip ys σ H s := by
  obtain ⟨acc, c, r, I⟩ := h
  exact ⟨acc, c, r, I.unwish⟩
theorem GSP.unwish {S : Addr} {ip : List (Addr × Obj)} {D : GEnds} {ys : List V} {f : Flow} {s : Shared} {E : Value → Shared → Prop} (h : GSP (X.wish E) S ip D ys f s) : GSP X S ip D ys f s := by
  cases f with
  | next => obtain ⟨σ, H, I, q⟩ := h; exact ⟨σ, H, I.unwish, q⟩
  | brk => obtain ⟨σ, H, I, q⟩ := h; exact ⟨σ, H, I.unwish, q⟩
  | cont => obtain ⟨σ, H, I, q⟩ := h; exact ⟨σ, H, I.unwish, q⟩
  | ret u => obtain ⟨v, σ, H, I, q⟩ := h; exact ⟨v, σ, H, I.unwish, q⟩
theorem GSs.nox {st : List Stmt} {t : TGn} (h : GSs X.nox st t) : GSs X st t := by
  refine ⟨fun A S ip R n ys s₀ c fs K J gd lv s σ H D g hn k hI ht => ?_⟩
  have g' : GC X.nox S ip A c fs gd := ⟨g.pn, g.ip, g.apart, g.over, g.split, g.guard, g.gd⟩
  have to : ∀ (n : Nat) {s₀ : Shared} {c : Code} {t : Sem PySem.Fin} {fs : List Frame} {s : Shared}, Seg (model X.prog X.w) A R (GY X S) n s₀ c t fs s → Seg (model X.prog X.w) A R (GY X.nox S) n s₀ c t fs s := fun n {s₀ c t fs s} q =>
    seg_imp (fun _ _ _ _ z => z) (fun n s₀ v s kap kap' hk ⟨ys, x, ip, σ, H, h1, h2, h3, h4⟩ => ⟨ys, x, ip, σ, H, h1, h2, h3.wish _, fun s' z => hk _ _ (h4 s' z)⟩) n q
  have back : ∀ (n : Nat) {s₀ : Shared} {c : Code} {t : Sem PySem.Fin} {fs : List Frame} {s : Shared}, Seg (model X.prog X.w) A R (GY X.nox S) n s₀ c t fs s → Seg (model X.prog X.w) A R (GY X S) n s₀ c t fs s := fun n {s₀ c t fs s} q =>
    seg_imp (fun _ _ _ _ z => z) (fun n s₀ v s kap kap' hk ⟨ys, x, ip, σ, H, h1, h2, h3, h4⟩ => ⟨ys, x, ip, σ, H, h1, h2, GI.unwish h3, fun s' z => hk _ _ (h4 s' z)⟩) n q
  exact back n (h.run A S ip R n ys s₀ c fs K J gd lv s σ H D g' hn ⟨fun n ys s₀ s f hn hs => to n (k.ok n ys s₀ s f hn (GSP.unwish hs)), fun _ _ _ _ z => False.elim z⟩ (hI.wish _) ht)
/-! if -/
noncomputable def tGIf (c : TT) (t u : TGn) : TGn := fun D ys σ H => c σ H fun b H1 => if b = true then t D ys σ H1 else u D ys σ H1
end
end L2
namespace AL
open PySem L2
structure AGEnds where
  nx : Hp → Ms → List D → Sg → Prop
  rt : Hp → Ms → List D → Prop := fun _ _ _ => False
  bk : Hp → Ms → List D → Sg → Prop := fun _ _ _ _ => False
  ct : Hp → Ms → List D → Sg → Prop := fun _ _ _ _ => False
structure GLe (Γ : Cg) (R : Ms) (F : Hp) (A : AGEnds) (E : GEnds) : Prop where
  xe : XLe Γ R F
  nx : ∀ F' ms' ys' S' vs' σ' H', Ex F F' → SRep Γ.K F' S' σ' → Hold Γ.K F' (ms' ++ R) H' → RepL Γ.K F' ys' vs' → A.nx F' ms' ys' S' → E.nx vs' σ' H'
  rt : ∀ F' ms' ys' vs' H', Ex F F' → Hold Γ.K F' (ms' ++ R) H' → RepL Γ.K F' ys' vs' → A.rt F' ms' ys' → E.rt vs' .non H'
  bk : ∀ F' ms' ys' S' vs' σ' H', Ex F F' → SRep Γ.K F' S' σ' → Hold Γ.K F' (ms' ++ R) H' → RepL Γ.K F' ys' vs' → A.bk F' ms' ys' S' → E.bk vs' σ' H'
  ct : ∀ F' ms' ys' S' vs' σ' H', Ex F F' → SRep Γ.K F' S' σ' → Hold Γ.K F' (ms' ++ R) H' → RepL Γ.K F' ys' vs' → A.ct F' ms' ys' S' → E.ct vs' σ' H'
noncomputable def AY (Γ : Cg) (tg : TGn) (F : Hp) (ms : Ms) (ys : List D) (S : Sg) (A : AGEnds) : Prop := ∀ (R : Ms) (E : GEnds) σ H vs, SRep Γ.K F S σ → Hold Γ.K F (ms ++ R) H → RepL Γ.K F ys vs → GLe Γ R F A E → tg E vs σ H
theorem GLe.ex {Γ : Cg} {R : Ms} {F F' : Hp} {A : AGEnds} {E : GEnds} (l : GLe Γ R F A E) (e : Ex F F') : GLe Γ R F' A E :=
  ⟨l.xe.ex e, fun F'' ms' ys' S' vs' σ' H' x => l.nx F'' ms' ys' S' vs' σ' H' (e.trans x), fun F'' ms' ys' vs' H' x => l.rt F'' ms' ys' vs' H' (e.trans x), fun F'' ms' ys' S' vs' σ' H' x => l.bk F'' ms' ys' S' vs' σ' H' (e.trans x), fun F'' ms' ys' S' vs' σ' H' x => l.ct F'' ms' ys' S' vs' σ' H' (e.trans x)⟩
section
variable {Γ : Cg} {K : Frg} {F : Hp} {ms : Ms} {S : Sg} {ts : TS} {ta : TA} {te : TE} {tt : TT} {t u : TGn} {ys : List D} {A : AGEnds} {wi : TI} {g : TG}
theorem ay_plain (h : AS Γ ts F ms S { nx := fun F' ms' S' => A.nx F' ms' ys S', rt := fun F' ms' d => d = .non ∧ A.rt F' ms' ys, bk := fun F' ms' S' => A.bk F' ms' ys S', ct := fun F' ms' S' => A.ct F' ms' ys S' }) : AY Γ (tPlain ts) F ms ys S A := fun R E σ H vs hs hh hy l =>
  h R (E.at vs) σ H hs hh ⟨l.xe, fun F' ms' S' σ' H' e a b q => l.nx F' ms' ys S' vs σ' H' e a b (hy.mono e) q, fun F' ms' d v H' e b r ⟨q1, q2⟩ => by
    subst q1
    cases r
    exact l.rt F' ms' ys vs H' e b (hy.mono e) q2, fun F' ms' S' σ' H' e a b q => l.bk F' ms' ys S' vs σ' H' e a b (hy.mono e) q, fun F' ms' S' σ' H' e a b q => l.ct F' ms' ys S' vs σ' H' e a b (hy.mono e) q⟩
theorem ay_nil (q : A.nx F ms ys S) : AY Γ tG0 F ms ys S A := fun R E σ H vs hs hh hy l => l.nx F ms ys S vs σ H Ex.refl hs hh hy q
theorem ay_then (h : AY Γ t F ms ys S { A with nx := fun F' ms' ys' S' => AY Γ u F' ms' ys' S' A }) : AY Γ (tGThen t u) F ms ys S A := fun R E σ H vs hs hh hy l =>
  h R _ σ H vs hs hh hy ⟨l.xe, fun F' ms' ys' S' vs' σ' H' e a b r q => q R E σ' H' vs' a b r (l.ex e), l.rt, l.bk, l.ct⟩
theorem ay_yield (hl : ys.length < 100000) (h : AE Γ te F ms S fun F' ms' d => A.nx F' ms' (ys ++ [d]) S) : AY Γ (tGYield te) F ms ys S A := fun R E σ H vs hs hh hy l =>
  ⟨Evl.sz_lt (by rw [← hy.len]; exact hl), h R σ H _ hs hh l.xe fun F' ms' d v H' e a r q => l.nx F' ms' _ S _ σ H' e (hs.mono e) a ((hy.mono e).append (RepL.one r)) q⟩
theorem ay_for (h : AI Γ wi F ms S fun F1 ms1 ds G => ∃ I : Nat → Hp → Ms → List D → Sg → Prop, I 0 F1 ms1 ys S ∧ (∀ i F' ms' ys' S', Ex F1 F' → I i F' ms' ys' S' → G ms') ∧
    (∀ i d F' ms' ys' S', Ex F1 F' → ds[i]? = some d → I i F' ms' ys' S' → ∀ F'', Ex F' F'' → AG Γ g d F'' ms' S' fun F2 ms2 S2 => AY Γ t F2 ms2 ys' S2 { A with nx := I (i + 1), ct := I (i + 1), bk := A.nx }) ∧
    (∀ F' ms' ys' S', Ex F1 F' → I ds.length F' ms' ys' S' → A.nx F' ms' ys' S')) : AY Γ (tGFor wi g t) F ms ys S A := fun R E σ H vs hs hh hy l =>
  h R σ H _ hs hh l.xe fun F1 ms1 ds G J H1 e1 h1 it ⟨I, i0, iG, ib, ie⟩ => by
    refine ⟨fun i m vs' σ' H' => m = ds.length - i ∧ i ≤ ds.length ∧ ∃ F' ms' ys' S', Ex F1 F' ∧ SRep Γ.K F' S' σ' ∧ Hold Γ.K F' (ms' ++ R) H' ∧ RepL Γ.K F' ys' vs' ∧ I i F' ms' ys' S', ⟨_, rfl, Nat.zero_le _, F1, ms1, ys, S, Ex.refl, hs.mono e1, h1, hy.mono e1, i0⟩, ?_⟩
    rintro i m vs' σ' H' ⟨rfl, hi, F', ms', ys', S', e', hs', hh', hy', p⟩
    have hG := iG i F' ms' ys' S' e' p
    by_cases hlt : i < ds.length
    · refine .inr ⟨it.goes R i H' F' ms' hlt e' hh' hG, fun vs2 σ2 H2 => ∃ F2 ms2 ys2 S2, Ex F1 F2 ∧ SRep Γ.K F2 S2 σ2 ∧ Hold Γ.K F2 (ms2 ++ R) H2 ∧ RepL Γ.K F2 ys2 vs2 ∧ I (i + 1) F2 ms2 ys2 S2, fun vs2 σ2 H2 ⟨F2, ms2, ys2, S2, e2, a2, b2, r2, q2⟩ => ⟨ds.length - (i + 1), by omega, rfl, hlt, F2, ms2, ys2, S2, e2, a2, b2, r2, q2⟩, fun x H2 y => ?_⟩
      obtain ⟨F2, d, e2, hh2, hd, hr⟩ := it.yields R i H' x H2 F' ms' hlt e' hh' hG y
      refine ib i d F' ms' ys' S' e' hd p F2 e2 R x σ' H2 _ hr (hs'.mono e2) hh2 (l.xe.ex ((e1.trans e').trans e2)) fun F3 ms3 S3 σ3 H3 e3 a3 b3 q3 => ?_
      refine q3 R _ σ3 H3 vs' a3 b3 (hy'.mono (e2.trans e3)) ⟨l.xe.ex (((e1.trans e').trans e2).trans e3), fun F4 ms4 ys4 S4 vs4 σ4 H4 e4 a4 b4 r4 q4 => ⟨F4, ms4, ys4, S4, ((e'.trans e2).trans e3).trans e4, a4, b4, r4, q4⟩, fun F4 ms4 ys4 vs4 H4 e4 b4 r4 q4 => l.rt F4 ms4 ys4 vs4 H4 ((((e1.trans e').trans e2).trans e3).trans e4) b4 r4 q4,
        fun F4 ms4 ys4 S4 vs4 σ4 H4 e4 a4 b4 r4 q4 => l.nx F4 ms4 ys4 S4 vs4 σ4 H4 ((((e1.trans e').trans e2).trans e3).trans e4) a4 b4 r4 q4, fun F4 ms4 ys4 S4 vs4 σ4 H4 e4 a4 b4 r4 q4 => ⟨F4, ms4, ys4, S4, ((e'.trans e2).trans e3).trans e4, a4, b4, r4, q4⟩⟩
    · have ei : i = ds.length := by omega
      subst ei
      exact .inl ⟨it.stops R H' F' ms' e' hh' hG, l.nx F' ms' ys' S' vs' σ' H' (e1.trans e') hs' hh' hy' (ie F' ms' ys' S' e' p)⟩
end
/-! ### promises -/
noncomputable abbrev AGp := List D → Hp → Ms → (Hp → Ms → List D → Prop) → Prop
noncomputable def toSpG (K : Frg) (sp : AGp) : SpG := fun vs H Q E => ∃ F ms R ds Qa, Hold K F (ms ++ R) H ∧ RepL K F ds vs ∧ sp ds F ms Qa ∧ (∀ F' ms' ys vs' H', Ex F F' → Hold K F' (ms' ++ R) H' → RepL K F' ys vs' → Qa F' ms' ys → Q vs' H')
section
variable {Γ : Cg} {K : Frg} {F : Hp} {ms : Ms} {S : Sg} {ta : TA} {Q : QE}
/-- list(f(..)) of a generator def, the list frozen -/
theorem ae_listGF {sp : AGp} {E : XK} (h : AA Γ ta F ms S fun F1 ms1 ds => sp ds F1 ms1 fun F' ms' ys => ∀ F2, Ex F' F2 → Q F2 ms' (.lst ys)) : AE Γ (tListG (tCallG (toSpG Γ.K sp) [] E ta)) F ms S Q := fun R σ H Qc hs hh x k =>
  h R σ H _ hs hh x fun F1 ms1 ds vs H1 e1 h1 r1 q1 => by
    show toSpG Γ.K sp (vs ++ []) H1 _ E
    rw [List.append_nil]
    exact ⟨F1, ms1, R, ds, _, h1, r1, q1, fun F' ms' ys vs' H' e ho hr q p hp => by
      obtain ⟨e2, h2⟩ := ho.laid (.lst vs') hp
      exact k _ ms' (.lst ys) _ _ ((e1.trans e).trans e2) h2 (.lst upd_same (hr.mono e2)) (q _ e2)⟩
end
theorem passG {P : Program} {w : World} {X : Cx} : Passes (L2.CX P w) X E0 := fun pins σ H s e s' I h => by
  obtain ⟨a, B, H', cls, d, _, _, _, _, _, _, _, z⟩ := h
  exact z.elim
theorem noStop0 {K : Frg} : NoStop K E0 := fun _ _ _ z => z.elim
section
variable {P : Program} {w : World} {K : Frg} {mg : Str → Option Value} {base : Heap}
/-- a generator def that raises nothing -/
theorem gfn_ok {x qual : Str} {st : Stmt} {f : Addr} {fd : FuncData} {N ps : List Str} {k : Nat} {sp : AGp} (Fn : Fun K x qual st f fd) (Sc : GScope N ps (defScope st)) (len : ∀ ds F ms Q, sp ds F ms Q → ds.length = ps.length)
    (hbody : ∀ (cdv : Value) (A : Around) (outer : List Env) (s : Shared) (H : Hp) (E : XK) (pn : List (Addr × Obj)), Room k (A.deeper (PyProof.Rows.envOfC qual (defScope st) s.heap.objs.size f cdv)) → ∃ t, GSs (gcxOf P w K mg base N qual (defScope st) f cdv A outer s H E pn).nox (defBody st) t ∧
      ∀ ds F ms Q, sp ds F ms Q → AY ⟨K, E0, fun _ _ _ _ => False⟩ t F ms [] (startS N ds) { nx := fun F' ms' ys _ => Q F' ms' ys, rt := fun F' ms' ys => Q F' ms' ys }) : GFn P w K mg base (k + 1) f fd ps (toSpG K sp) := by
  obtain ⟨oc, od, kV, doc, pm, an, cdv, ct, osl, rfl, lk, hcd⟩ := Fn.ex
  refine gfn_of lk hcd Sc (fun vs H Q E h => ?_) (fun A outer s H vs Q E pn hr h => ?_)
  · obtain ⟨F0, ms, R, ds, Qa, h1, h2, h3, _⟩ := h
    rw [← h2.len]
    exact len _ _ _ _ h3
  · obtain ⟨F0, ms, R, ds, Qa, h1, h2, h3, h4⟩ := h
    obtain ⟨t, ht, q⟩ := hbody cdv A outer s H E pn hr
    refine ⟨t, ht.nox, q ds F0 ms Qa h3 R _ _ H [] (start_rep h2) h1 .nil ⟨fun _ _ _ _ _ _ _ _ _ z => z.elim, fun F' ms' ys' S' vs' σ' H' e a b r q' => h4 F' ms' ys' vs' H' e b r q', fun F' ms' ys' vs' H' e b r q' => ⟨rfl, h4 F' ms' ys' vs' H' e b r q'⟩, fun _ _ _ _ _ _ _ _ _ _ _ z => z.elim, fun _ _ _ _ _ _ _ _ _ _ _ z => z.elim⟩⟩
end
end AL

set_option Elab.async false
set_option linter.all false
set_option maxRecDepth 100000
set_option maxHeartbeats 4000000
/-! zip of a tuple and a list: two sources -/
namespace ZTL
open PySem PySem.Spec PyProof.Rows
open PySem.Sem (wp)
/-- what a zip draws from: its iterator at i, over l -/
structure Src (prog : Program) (w : World) (i l : Addr) (xs : Array Value) (St : Nat → Heap → Prop) : Prop where
  ext : ∀ k h h' c, St k h → Heap.ExtBut c h h' → i ≠ c → l ≠ c → St k h'
  at' : ∀ k h h', St k h → (∀ o, h.get? i = some o → h'.get? i = some o) → (∀ o, h.get? l = some o → h'.get? l = some o) → St k h'
  lt : ∀ k h, St k h → ∃ o, h.get? i = some o ∧ ∀ v, o.data ≠ .cell v
  item : ∀ (A : Around) (E : Value → Shared → Prop) (s : Shared) (k : Nat) (x : Value) (Q : Value → Shared → Prop), St k s.heap → xs[k]? = some x → (∀ h', St (k + 1) h' → Heap.SameBut i s.heap h' → Q x { s with heap := h' }) → wpAny (model prog w) A (Builtin.SmallTypes.nextOf (.ref i)) Q E s
  fin : ∀ (A : Around) (E : Value → Shared → Prop) (s : Shared) (k : Nat) (Q : Value → Shared → Prop), A.handled = none → St k s.heap → xs[k]? = none → (∀ h' e, Heap.ExtBut i s.heap h' → (∃ o, h'.get? e = some o ∧ o.cls = .type "StopIteration") → E (.ref e) { s with heap := h' }) → wpAny (model prog w) A (Builtin.SmallTypes.nextOf (.ref i)) Q E s
variable {prog : Program} {w : World} {A : Around} {E : Value → Shared → Prop} {s : Shared}
noncomputable abbrev TupSt (i l : Addr) (xs : Array Value) : Nat → Heap → Prop := fun k h => h.IsTupleIter i l k ∧ h.IsTuple l xs
noncomputable abbrev LstSt (i l : Addr) (xs : Array Value) : Nat → Heap → Prop := fun k h => h.IsListIter i l k ∧ h.IsList l xs
theorem src_tup {i l : Addr} {xs : Array Value} (hne : l ≠ i) : Src prog w i l xs (TupSt i l xs) where
  ext := fun k h h' c st e n1 n2 => ⟨st.1.extBut e n1, st.2.extBut e n2⟩
  at' := fun k h h' st e1 e2 => ⟨st.1.at e1, by obtain ⟨o, ho, r⟩ := st.2; exact ⟨o, e2 o ho, r⟩⟩
  lt := fun k h st => by obtain ⟨⟨o, ho, _, hd⟩, _⟩ := st; exact ⟨o, ho, fun v q => by rw [hd] at q; cases q⟩
  item := fun A E s k x Q st hx hQ => RZ.nextOf_tuple_item st.1 st.2 hx fun h' a b => hQ h' ⟨a, st.2.extBut b.extBut hne⟩ b
  fin := fun A E s k Q hh st hx hE => RZ.nextOf_tuple_end hh st.1 st.2 hx hE
theorem src_lst {i l : Addr} {xs : Array Value} (hne : l ≠ i) : Src prog w i l xs (LstSt i l xs) where
  ext := fun k h h' c st e n1 n2 => ⟨st.1.extBut e n1, st.2.extBut e n2⟩
  at' := fun k h h' st e1 e2 => ⟨st.1.at e1, by obtain ⟨o, ho, r⟩ := st.2; exact ⟨o, e2 o ho, r⟩⟩
  lt := fun k h st => by obtain ⟨⟨o, ho, _, hd⟩, _⟩ := st; exact ⟨o, ho, fun v q => by rw [hd] at q; cases q⟩
  item := fun A E s k x Q st hx hQ => wpAny_nextOf_list_item st.1 st.2 hx fun h' a b => hQ h' ⟨a, st.2.extBut b.extBut hne⟩ b
  fin := fun A E s k Q hh st hx hE => wpAny_nextOf_list_end hh st.1 st.2 hx hE
section
variable {z TI TO i1 i2 l1 l2 : Addr} {xs ys : Array Value} {P1 P2 : Nat → Heap → Prop}
/-- the two draws and the hand-out -/
theorem draw {k : Nat} {x y a b : Value} {Q : Value → Shared → Prop} (D : ZipApart z TI TO i1 i2 l1 l2) (S1 : Src prog w i1 l1 xs P1) (S2 : Src prog w i2 l2 ys P2)
    (hz : IsZip s.heap z TI TO .none) (hTI : IsPair s.heap TI (.ref i1) (.ref i2)) (hTO : IsPair s.heap TO a b) (h1 : P1 k s.heap) (h2 : P2 k s.heap) (hx : xs[k]? = some x) (hy : ys[k]? = some y)
    (hQ : ∀ h', IsZip h' z TI TO (rawInt s.heap.objs.size) → IsPair h' TO x y → P1 (k + 1) h' → P2 (k + 1) h' → IsPair h' s.heap.objs.size x y →
      (∀ c o, c ≠ z → c ≠ TO → c ≠ i1 → c ≠ i2 → s.heap.get? c = some o → h'.get? c = some o) → Q (.ref s.heap.objs.size) { s with heap := h' }) :
    wpAny (model prog w) A (Builtin.«zip.__next__» ⟨[.ref z], []⟩) (fun fin s' => ∃ v, fin = .done (.ret v) ∧ Q v s') E s := by
  show wpAny _ _ (field (.ref z) 2 >>= _) _ _ _
  refine wpAny_bind (wpAny_field hz rfl (x := .bool false) rfl ?_)
  show wpAny _ _ (field (.ref z) 3 >>= _) _ _ _
  refine wpAny_bind (wpAny_field hz rfl (x := .ref TI) rfl ?_)
  refine wpAny_bind (wpAny_seqItems hTI rfl ?_)
  show wpAny _ _ (Builtin.SmallTypes.ownedTupleIsFree (.ref z) >>= _) _ _ _
  unfold Builtin.SmallTypes.ownedTupleIsFree
  refine wpAny_bind (wpAny_bind (wpAny_field hz rfl (x := .none) rfl (wpAny_pure ?_)))
  simp only [if_true]
  refine wpAny_bind (wpAny_rule ?_)
  refine wpAny_bind (wpAny_field hz rfl (x := .ref TO) rfl ?_)
  refine wpAny_bind (wpAny_setField_rec hz (by simp) fun g1 zz1 q1 => ?_)
  have zz1 : IsZip g1 z TI TO .ellipsis := zz1
  refine wpAny_bind ?_
  simp only [List.zipIdx_cons, List.zipIdx_nil, List.forIn_cons, List.forIn_nil]
  refine wpAny_bind (wpAny_bind (wpAny_onRaise ?_))
  show wpAny _ _ (Builtin.SmallTypes.nextOf (.ref i1) >>= _) _ _ _
  refine wpAny_bind (S1.item _ _ _ k x _ (S1.ext _ _ _ _ h1 q1.extBut D.i1z D.l1z) hx fun g2 p2 q2 => wpAny_pure ?_)
  have to2 : IsPair g2 TO a b := q2.extBut _ _ D.TOi1 (q1.extBut _ _ D.TOz hTO)
  refine wpAny_bind (wpAny_seqItems to2 rfl ?_)
  refine wpAny_bind (wpAny_updateSeq_pair to2 fun g3 to3 q3 => ?_)
  have to3 : IsPair g3 TO x b := to3
  refine wpAny_bind (wpAny_letGo (wpAny_pure ?_))
  refine wpAny_bind (wpAny_bind (wpAny_onRaise ?_))
  show wpAny _ _ (Builtin.SmallTypes.nextOf (.ref i2) >>= _) _ _ _
  have b3 : P2 k g3 := S2.ext _ _ _ _ (S2.ext _ _ _ _ (S2.ext _ _ _ _ h2 q1.extBut D.i2z D.l2z) q2.extBut D.i12.symm D.l2i1) q3.extBut D.TOi2.symm D.l2TO
  refine wpAny_bind (S2.item _ _ _ k y _ b3 hy fun g4 p4 q4 => wpAny_pure ?_)
  have to4 : IsPair g4 TO x b := q4.extBut _ _ D.TOi2 to3
  refine wpAny_bind (wpAny_seqItems to4 rfl ?_)
  refine wpAny_bind (wpAny_updateSeq_pair to4 fun g5 to5 q5 => ?_)
  have to5 : IsPair g5 TO x y := to5
  refine wpAny_bind (wpAny_letGo (wpAny_pure (wpAny_pure ?_)))
  refine wpAny_bind (wpAny_seqItems to5 rfl ?_)
  refine wpAny_bind (wpAny_newTuple ?_)
  have size5 : g5.objs.size = s.heap.objs.size := by rw [q5.1, q4.1, q3.1, q2.1, q1.1]
  have zz5 : IsZip g5 z TI TO .ellipsis := q5.extBut _ _ D.TOz.symm (q4.extBut _ _ D.i2z.symm (q3.extBut _ _ D.TOz.symm (q2.extBut _ _ D.i1z.symm zz1)))
  have keep5 : ∀ c o, c ≠ z → c ≠ TO → c ≠ i1 → c ≠ i2 → s.heap.get? c = some o → g5.get? c = some o := fun c o n1 n2 n3 n4 e =>
    q5.extBut _ _ n2 (q4.extBut _ _ n4 (q3.extBut _ _ n2 (q2.extBut _ _ n3 (q1.extBut _ _ n1 e))))
  have p1 : P1 (k + 1) g5 := S1.ext _ _ _ _ (S1.ext _ _ _ _ (S1.ext _ _ _ _ p2 q3.extBut D.TOi1.symm D.l1TO) q4.extBut D.i12 D.l1i2) q5.extBut D.TOi1.symm D.l1TO
  have p2' : P2 (k + 1) g5 := S2.ext _ _ _ _ p4 q5.extBut D.TOi2.symm D.l2TO
  have zlt : z < g5.objs.size := Heap.lt_size zz5
  show wpAny _ _ (Builtin.SmallTypes.ownedTupleHandOut (.ref z) (.ref g5.objs.size) >>= _) _ _ _
  unfold Builtin.SmallTypes.ownedTupleHandOut
  have zz6 : IsZip (g5.push { cls := .type "tuple", data := .seq #[x, y] }) z TI TO .ellipsis := Heap.get?_push_of_some _ zz5
  refine wpAny_bind (wpAny_bind (wpAny_setField_rec zz6 (by simp) fun g7 zz7 q7 => ?_))
  have zz7 : IsZip g7 z TI TO (rawInt g5.objs.size) := zz7
  refine wpAny_setField_rec zz7 (by simp) fun g8 zz8 q8 => ?_
  have zz8 : IsZip g8 z TI TO (rawInt g5.objs.size) := zz8
  have up : ∀ c o, c ≠ z → g5.get? c = some o → g8.get? c = some o := fun c o n1 e => q8.extBut _ _ n1 (q7.extBut _ _ n1 (Heap.get?_push_of_some _ e))
  have new8 : IsPair g8 g5.objs.size x y := q8.extBut _ _ (Nat.ne_of_gt zlt) (q7.extBut _ _ (Nat.ne_of_gt zlt) (Heap.get?_push_size _ rfl))
  rw [size5] at zz8 new8
  refine wpAny_pure ⟨_, rfl, ?_⟩
  show Q (.ref g5.objs.size) _
  rw [size5]
  exact hQ g8 zz8 (up _ _ D.TOz to5) (S1.at' _ _ _ p1 (fun o e => up _ o D.i1z e) fun o e => up _ o D.l1z e) (S2.at' _ _ _ p2' (fun o e => up _ o D.i2z e) fun o e => up _ o D.l2z e) new8 fun c o n1 n2 n3 n4 e => up c o n1 (keep5 c o n1 n2 n3 n4 e)
theorem draw_end {k : Nat} {a b : Value} {Q : Fin → Shared → Prop} (hh : A.handled = none) (D : ZipApart z TI TO i1 i2 l1 l2) (S1 : Src prog w i1 l1 xs P1) (S2 : Src prog w i2 l2 ys P2)
    (hz : IsZip s.heap z TI TO .none) (hTI : IsPair s.heap TI (.ref i1) (.ref i2)) (hTO : IsPair s.heap TO a b) (h1 : P1 k s.heap) (h2 : P2 k s.heap) (hend : xs[k]? = none ∨ ys[k]? = none)
    (hE : ∀ h' e, (∀ c o, c ≠ z → c ≠ TO → c ≠ i1 → c ≠ i2 → s.heap.get? c = some o → h'.get? c = some o) → (∃ o, h'.get? e = some o ∧ o.cls = .type "StopIteration") → E (.ref e) { s with heap := h' }) :
    wpAny (model prog w) A (Builtin.«zip.__next__» ⟨[.ref z], []⟩) Q E s := by
  show wpAny _ _ (field (.ref z) 2 >>= _) _ _ _
  refine wpAny_bind (wpAny_field hz rfl (x := .bool false) rfl ?_)
  show wpAny _ _ (field (.ref z) 3 >>= _) _ _ _
  refine wpAny_bind (wpAny_field hz rfl (x := .ref TI) rfl ?_)
  refine wpAny_bind (wpAny_seqItems hTI rfl ?_)
  show wpAny _ _ (Builtin.SmallTypes.ownedTupleIsFree (.ref z) >>= _) _ _ _
  unfold Builtin.SmallTypes.ownedTupleIsFree
  refine wpAny_bind (wpAny_bind (wpAny_field hz rfl (x := .none) rfl (wpAny_pure ?_)))
  simp only [if_true]
  refine wpAny_bind (wpAny_rule ?_)
  refine wpAny_bind (wpAny_field hz rfl (x := .ref TO) rfl ?_)
  refine wpAny_bind (wpAny_setField_rec hz (by simp) fun g1 zz1 q1 => ?_)
  have zz1 : IsZip g1 z TI TO .ellipsis := zz1
  refine wpAny_bind ?_
  simp only [List.zipIdx_cons, List.zipIdx_nil, List.forIn_cons, List.forIn_nil]
  refine wpAny_bind (wpAny_bind (wpAny_onRaise ?_))
  show wpAny _ _ (Builtin.SmallTypes.nextOf (.ref i1) >>= _) _ _ _
  have a1 : P1 k g1 := S1.ext _ _ _ _ h1 q1.extBut D.i1z D.l1z
  cases hx : xs[k]? with
  | none =>
    refine wpAny_bind (S1.fin _ _ _ k _ hh a1 hx fun g2 e q2 he => ?_)
    obtain ⟨oe, hoe, hce⟩ := he
    have zz2 : IsZip g2 z TI TO .ellipsis := q2 _ _ D.i1z.symm zz1
    have ez : e ≠ z := fun q => by subst q; rw [zz2] at hoe; cases hoe; simp at hce
    refine wpAny_setField_rec zz2 (by simp) fun g3 _ q3 => hE g3 e (fun c o n1 _ n3 _ q => q3.extBut _ _ n1 (q2 _ _ n3 (q1.extBut _ _ n1 q))) ⟨oe, q3.extBut _ _ ez hoe, hce⟩
  | some x =>
    have hy : ys[k]? = none := by rcases hend with q | q; rw [hx] at q; cases q; exact q
    refine wpAny_bind (S1.item _ _ _ k x _ a1 hx fun g2 p2 q2 => wpAny_pure ?_)
    have to2 : IsPair g2 TO a b := q2.extBut _ _ D.TOi1 (q1.extBut _ _ D.TOz hTO)
    refine wpAny_bind (wpAny_seqItems to2 rfl ?_)
    refine wpAny_bind (wpAny_updateSeq_pair to2 fun g3 to3 q3 => ?_)
    refine wpAny_bind (wpAny_letGo (wpAny_pure ?_))
    refine wpAny_bind (wpAny_bind (wpAny_onRaise ?_))
    show wpAny _ _ (Builtin.SmallTypes.nextOf (.ref i2) >>= _) _ _ _
    have b3 : P2 k g3 := S2.ext _ _ _ _ (S2.ext _ _ _ _ (S2.ext _ _ _ _ h2 q1.extBut D.i2z D.l2z) q2.extBut D.i12.symm D.l2i1) q3.extBut D.TOi2.symm D.l2TO
    refine wpAny_bind (S2.fin _ _ _ k _ hh b3 hy fun g4 e q4 he => ?_)
    obtain ⟨oe, hoe, hce⟩ := he
    have zz4 : IsZip g4 z TI TO .ellipsis := q4 _ _ D.i2z.symm (q3.extBut _ _ D.TOz.symm (q2.extBut _ _ D.i1z.symm zz1))
    have ez : e ≠ z := fun q => by subst q; rw [zz4] at hoe; cases hoe; simp at hce
    refine wpAny_setField_rec zz4 (by simp) fun g5 _ q5 => hE g5 e (fun c o n1 n2 n3 n4 q => q5.extBut _ _ n1 (q4 _ _ n4 (q3.extBut _ _ n2 (q2.extBut _ _ n3 (q1.extBut _ _ n1 q))))) ⟨oe, q5.extBut _ _ ez hoe, hce⟩
theorem next_item {k : Nat} {x y a b : Value} {Q : Option Value → Shared → Prop} (D : ZipApart z TI TO i1 i2 l1 l2) (S1 : Src prog w i1 l1 xs P1) (S2 : Src prog w i2 l2 ys P2)
    (hz : IsZip s.heap z TI TO .none) (hTI : IsPair s.heap TI (.ref i1) (.ref i2)) (hTO : IsPair s.heap TO a b) (h1 : P1 k s.heap) (h2 : P2 k s.heap) (hx : xs[k]? = some x) (hy : ys[k]? = some y)
    (hQ : ∀ h', IsZip h' z TI TO (rawInt s.heap.objs.size) → IsPair h' TO x y → P1 (k + 1) h' → P2 (k + 1) h' → IsPair h' s.heap.objs.size x y →
      (∀ c o, c ≠ z → c ≠ TO → c ≠ i1 → c ≠ i2 → s.heap.get? c = some o → h'.get? c = some o) → Q (some (.ref s.heap.objs.size)) { s with heap := h' }) :
    wpAny (model prog w) A (pyNext (.ref z)) Q E s := by
  have ty : s.TypeIs (.ref z) "zip" := ⟨_, hz, rfl⟩
  unfold pyNext
  exact wpAny_bind (wpAny_attempt (wpAny_callSpecial?_slot (name := Str.ofString "__next__") ty F.slot_zip_next
    (wpAny_call_entry F.slot_zip_next ty F.entry_zip_next (draw D S1 S2 hz hTI hTO h1 h2 hx hy fun h' p1 p2 p3 p4 p5 p6 => wpAny_pure (hQ h' p1 p2 p3 p4 p5 p6)) (F.args_zip_next_1 _))))
theorem next_end {k : Nat} {a b : Value} {Q : Option Value → Shared → Prop} (hh : A.handled = none) (D : ZipApart z TI TO i1 i2 l1 l2) (S1 : Src prog w i1 l1 xs P1) (S2 : Src prog w i2 l2 ys P2)
    (hz : IsZip s.heap z TI TO .none) (hTI : IsPair s.heap TI (.ref i1) (.ref i2)) (hTO : IsPair s.heap TO a b) (h1 : P1 k s.heap) (h2 : P2 k s.heap) (hend : xs[k]? = none ∨ ys[k]? = none)
    (hQ : ∀ h', (∀ c o, c ≠ z → c ≠ TO → c ≠ i1 → c ≠ i2 → s.heap.get? c = some o → h'.get? c = some o) → Q none { s with heap := h' }) : wpAny (model prog w) A (pyNext (.ref z)) Q E s := by
  have ty : s.TypeIs (.ref z) "zip" := ⟨_, hz, rfl⟩
  unfold pyNext
  refine wpAny_bind (wpAny_attempt (wpAny_callSpecial?_slot (name := Str.ofString "__next__") ty F.slot_zip_next
    (wpAny_call_entry F.slot_zip_next ty F.entry_zip_next (draw_end hh D S1 S2 hz hTI hTO h1 h2 hend fun h' e hk he => ?_) (F.args_zip_next_1 _))))
  obtain ⟨o, ho, hc⟩ := he
  exact wpAny_bind (wpAny_isInstance (T := "StopIteration") (b := true) ⟨o, ho, hc⟩ isSubtype_stop (wpAny_pure (hQ _ hk)))
end
/-! the call zip(tuple, list) -/
noncomputable def it1 (h : Heap) (l1 : Addr) : Heap := h.push { cls := .type "tuple_iterator", data := .fields #[.ref l1, .int 0 0] }
noncomputable def it2 (h : Heap) (l1 l2 : Addr) : Heap := (it1 h l1).push { cls := .type "list_iterator", data := .fields #[.ref l2, .int 0 0] }
noncomputable def it3 (h : Heap) (l1 l2 : Addr) : Heap := (it2 h l1 l2).push { cls := .type "tuple", data := .seq #[.ref h.objs.size, .ref (it1 h l1).objs.size] }
noncomputable def it4 (h : Heap) (l1 l2 : Addr) : Heap := (it3 h l1 l2).push { cls := .type "tuple", data := .seq #[.none, .none] }
noncomputable def it5 (h : Heap) (l1 l2 : Addr) : Heap := (it4 h l1 l2).push { cls := .type "zip", data := .fields #[.none, .bool false, .bool false, .ref (it2 h l1 l2).objs.size, .ref (it3 h l1 l2).objs.size] }
theorem made (l1 l2 : Addr) (xs ys : Array Value) :
    Meets (Builtin.«zip.__new__» ⟨[.type "zip", .ref l1, .ref l2], []⟩) (fun _ R s => s.heap.IsTuple l1 xs ∧ s.heap.IsList l2 ys ∧
      R (.ok (.ret (.ref (it4 s.heap l1 l2).objs.size))) { s with heap := it5 s.heap l1 l2 }) :=
  .of_wp fun prog w A R s h => by
    obtain ⟨hp, g, d, tk, os⟩ := s
    obtain ⟨q1, q2, h⟩ := h
    have hsub := sub_zip
    have t1 : Heap.IsTuple (Shared.heap ⟨hp, g, d, tk, os⟩) l1 xs := q1
    have t2 : Heap.IsList (Shared.heap ⟨hp.push { cls := .type "tuple_iterator", data := .fields #[.ref l1, .int 0 0] }, g, d, tk, os⟩) l2 ys := q2.push _
    wp_walk using wpAny_pyIter_tuple t1, wpAny_pyIter_list t2
    exact ⟨_, rfl, h⟩
theorem call_TL {l1 l2 : Addr} {xs ys : Array Value} {Q : Value → Shared → Prop} (q1 : s.heap.IsTuple l1 xs) (q2 : s.heap.IsList l2 ys)
    (h : ∀ h', IsZip h' (s.heap.objs.size + 4) (s.heap.objs.size + 2) (s.heap.objs.size + 3) .none → IsPair h' (s.heap.objs.size + 2) (.ref s.heap.objs.size) (.ref (s.heap.objs.size + 1)) →
      IsPair h' (s.heap.objs.size + 3) .none .none → h'.IsTupleIter s.heap.objs.size l1 0 → h'.IsListIter (s.heap.objs.size + 1) l2 0 →
      (∀ c o, s.heap.get? c = some o → h'.get? c = some o) → Q (.ref (s.heap.objs.size + 4)) { s with heap := h' }) :
    wpAny (model prog w) A (call (.type "zip") [.ref l1, .ref l2]) Q E s := by
  refine callType_new F.called_zip (by decide) (F.typeCall_zip_2 _ _) (F.newCall_zip_2 _ _) (fun obj => F.args_object_init_3 obj _ _) F.entry_zip_new (made l1 l2 xs ys) ⟨q1, q2, ?_⟩
  have n1 : (it1 s.heap l1).objs.size = s.heap.objs.size + 1 := Heap.size_push ..
  have n2 : (it2 s.heap l1 l2).objs.size = s.heap.objs.size + 2 := (Heap.size_push ..).trans (by rw [n1])
  have n3 : (it3 s.heap l1 l2).objs.size = s.heap.objs.size + 3 := (Heap.size_push ..).trans (by rw [n2])
  have n4 : (it4 s.heap l1 l2).objs.size = s.heap.objs.size + 4 := (Heap.size_push ..).trans (by rw [n3])
  have up4 : ∀ {c o}, (it4 s.heap l1 l2).get? c = some o → (it5 s.heap l1 l2).get? c = some o := fun e => Heap.get?_push_of_some _ e
  have up3 : ∀ {c o}, (it3 s.heap l1 l2).get? c = some o → (it5 s.heap l1 l2).get? c = some o := fun e => up4 (Heap.get?_push_of_some _ e)
  have up2 : ∀ {c o}, (it2 s.heap l1 l2).get? c = some o → (it5 s.heap l1 l2).get? c = some o := fun e => up3 (Heap.get?_push_of_some _ e)
  have up1 : ∀ {c o}, (it1 s.heap l1).get? c = some o → (it5 s.heap l1 l2).get? c = some o := fun e => up2 (Heap.get?_push_of_some _ e)
  have g5 : (it5 s.heap l1 l2).get? (it4 s.heap l1 l2).objs.size = some _ := Heap.get?_push_size _ rfl
  have g4 : (it5 s.heap l1 l2).get? (it3 s.heap l1 l2).objs.size = some _ := up4 (Heap.get?_push_size _ rfl)
  have g3 : (it5 s.heap l1 l2).get? (it2 s.heap l1 l2).objs.size = some _ := up3 (Heap.get?_push_size _ rfl)
  have g2 : (it5 s.heap l1 l2).get? (it1 s.heap l1).objs.size = some _ := up2 (Heap.get?_push_size _ rfl)
  have g1 : (it5 s.heap l1 l2).get? s.heap.objs.size = some _ := up1 (Heap.get?_push_size _ rfl)
  show _ ∧ _
  rw [n2, n3, n4] at g5
  rw [n1, n2] at g3
  rw [n3] at g4
  rw [n1] at g2
  rw [n4]
  exact ⟨⟨_, g5, rfl⟩, h _ g5 g3 g4 ⟨_, g1, rfl, rfl⟩ ⟨_, g2, rfl, rfl⟩ fun c o e => up1 (Heap.get?_push_of_some _ e)⟩
end ZTL
namespace RZ
open PySem PySem.Spec PyProof.Rows L2
/-- a tuple at a, a list at b -/
noncomputable def ItzM (K : PySem.W.Frag) (a b : Addr) : It :=
  ⟨fun i H => ∃ (xs ys : List V) (x y : V), SqT K H a xs ∧ SqL K H b ys ∧ xs[i]? = some x ∧ ys[i]? = some y,
    fun i H v H' => ∃ T x y, v = .ref T ∧ H T = none ∧ H' = upd H T (.tup [x, y]) ∧ (∀ xs, SqT K H a xs → xs[i]? = some x) ∧ ∀ ys, SqL K H b ys → ys[i]? = some y,
    fun i H => ∃ xs ys : List V, SqT K H a xs ∧ SqL K H b ys ∧ (xs.length ≤ i ∨ ys.length ≤ i)⟩
theorem turn_zipM {P : Program} {w : World} {K : PySem.W.Frag} {elts : List Expr} {kk : Nat} {tpos : Pos} {a b z TI TO i1 i2 : Addr} (D : ZipApart z TI TO i1 i2 a b) :
    Turn P w K (.Tuple elts kk tpos) (ItzM K a b) [z, TI, TO, i1, i2] z (fun i h => IsZip h z TI TO .none ∧ IsPair h TI (.ref i1) (.ref i2) ∧ (∃ x y, IsPair h TO x y) ∧ h.IsTupleIter i1 a i ∧ h.IsListIter i2 b i) where
  mem := by simp
  obj := fun i h st c hc => by
    obtain ⟨hz, hTI, ⟨x, y, hTO⟩, ⟨o1, e1, _, d1⟩, ⟨o2, e2, _, d2⟩⟩ := st
    have hc : c = z ∨ c = TI ∨ c = TO ∨ c = i1 ∨ c = i2 := by simpa using hc
    rcases hc with rfl | rfl | rfl | rfl | rfl
    · exact ⟨_, hz, fun v q => nomatch q⟩
    · exact ⟨_, hTI, fun v q => nomatch q⟩
    · exact ⟨_, hTO, fun v q => nomatch q⟩
    · exact ⟨o1, e1, fun v q => by rw [d1] at q; cases q⟩
    · exact ⟨o2, e2, fun v q => by rw [d2] at q; cases q⟩
  keep := fun i h h' st k => by
    obtain ⟨hz, hTI, ⟨x, y, hTO⟩, h1, h2⟩ := st
    exact ⟨k z (by simp) _ hz, k TI (by simp) _ hTI, ⟨x, y, k TO (by simp) _ hTO⟩, h1.at fun o q => k i1 (by simp) o q, h2.at fun o q => k i2 (by simp) o q⟩
  item := by
    intro X hP hw hK hc i pins s σ H E I hf st hg
    subst hP hw hK
    obtain ⟨hz, hTI, ⟨x0, y0, hTO⟩, h1, h2⟩ := st
    obtain ⟨xs, ys, x, y, hqx, hqy, hx, hy⟩ := hg
    obtain ⟨its, rv, p, _⟩ := I.tuple hqx
    obtain ⟨its2, rv2, p2, _⟩ := I.list hqy
    obtain ⟨u, hu, ru⟩ := rv.get hx
    obtain ⟨u2, hu2, ru2⟩ := rv2.get hy
    have zl : z < s.heap.objs.size := Heap.lt_size hz
    have p : s.heap.IsTuple a its.toArray := p
    have p2 : s.heap.IsList b its2.toArray := p2.isList
    refine ZTL.next_item D (ZTL.src_tup (xs := its.toArray) D.l1i1) (ZTL.src_lst (xs := its2.toArray) D.l2i2) hz hTI hTO ⟨h1, p⟩ ⟨h2, p2⟩ (x := u) (y := u2) (by simpa using hu) (by simpa using hu2) fun h' z' TO' h1' h2' hT hk => ?_
    refine ⟨_, rfl, wpAny_letOwnedTupleGo_zip (s := { s with heap := h' }) z' fun h'' z'' sb => ?_⟩
    have new2 : h''.get? s.heap.objs.size = some { cls := .type "tuple", data := .seq #[u, u2] } := (sb.2 _ (Nat.ne_of_gt zl)).trans hT
    have new : ObjOk X.prog X.w (upd H s.heap.objs.size (.tup [x, y])) h'' s.heap.objs.size (.tup [x, y]) :=
      ⟨by show 2 ≤ sizeLine; decide, [u, u2], .cons ru (.cons ru2 .nil), ⟨_, new2, rfl, _, rfl⟩⟩
    have I1 : Inv X pins σ (upd H s.heap.objs.size (.tup [x, y])) { s with heap := h'' } :=
      I.turnedNew (t' := s.toks) (ch := [z, TI, TO, i1, i2]) (fun c o hb q => by
        simp only [List.mem_cons, List.not_mem_nil, or_false, not_or] at hb
        exact (sb.2 c hb.1).trans (hk c o hb.1 hb.2.2.1 hb.2.2.2.1 hb.2.2.2.2 q)) hf (Nat.le_refl _) new
    refine ⟨.ref s.heap.objs.size, _, I1, rfl, ⟨_, x, y, rfl, I.hok.fresh (Nat.le_refl _), rfl, fun l hl => by rw [I.tuple_inj hl hqx]; exact hx, fun l hl => by rw [I.list_inj hl hqy]; exact hy⟩, ⟨z'', (sb.2 _ D.TIz).trans (hk _ _ D.TIz D.TITO D.TIi1 D.TIi2 hTI), ⟨u, u2, (sb.2 _ D.TOz).trans TO'⟩, h1'.1.at fun o q => (sb.2 _ D.i1z).trans q, h2'.1.at fun o q => (sb.2 _ D.i2z).trans q⟩, fun c hcm => ?_⟩
    have hlt : c < s.heap.objs.size := by
      have hc : c = z ∨ c = TI ∨ c = TO ∨ c = i1 ∨ c = i2 := by simpa using hcm
      rcases hc with rfl | rfl | rfl | rfl | rfl
      · exact zl
      · exact Heap.lt_size hTI
      · exact Heap.lt_size hTO
      · obtain ⟨_, e1, _⟩ := h1; exact Heap.lt_size e1
      · obtain ⟨_, e2, _⟩ := h2; exact Heap.lt_size e2
    rw [upd_ne (Nat.ne_of_lt hlt)]
    exact (hf c hcm).1
  done := by
    intro X hP hw hK hc i pins s σ H E I hf st hg
    subst hP hw hK
    obtain ⟨hz, hTI, ⟨x0, y0, hTO⟩, h1, h2⟩ := st
    obtain ⟨xs, ys, hqx, hqy, hend⟩ := hg
    obtain ⟨its, rv, p, _⟩ := I.tuple hqx
    obtain ⟨its2, rv2, p2, _⟩ := I.list hqy
    have l1 := rv.length
    have l2 := rv2.length
    have p : s.heap.IsTuple a its.toArray := p
    have p2 : s.heap.IsList b its2.toArray := p2.isList
    refine ZTL.next_end (I.ok.hd hc) D (ZTL.src_tup (xs := its.toArray) D.l1i1) (ZTL.src_lst (xs := its2.toArray) D.l2i2) hz hTI hTO ⟨h1, p⟩ ⟨h2, p2⟩ (by
      rcases hend with q | q
      · exact .inl (by simp; omega)
      · exact .inr (by simp; omega)) fun h' hk => ⟨rfl, I.turnedL (t' := s.toks) (ch := [z, TI, TO, i1, i2]) (fun c o hb q => by
        simp only [List.mem_cons, List.not_mem_nil, or_false, not_or] at hb
        exact hk c o hb.1 hb.2.2.1 hb.2.2.2.1 hb.2.2.2.2 q) hf⟩
  self := fun A i s Q E st h => wpAny_pyIter_zip st.1 h
noncomputable def iZipM (K : PySem.W.Frag) (ta : TA) : TI := fun σ H R => ta σ H fun vs H1 => ∃ a b xs ys, vs = [.ref a, .ref b] ∧ SqT K H1 a xs ∧ SqL K H1 b ys ∧ R (ItzM K a b) H1
theorem pi_zipM {X : Cx} {K : PySem.W.Frag} {e e2 : Expr} {ta : TA} {p pos tpos : Pos} {elts : List Expr} {kk : Nat} (hK : X.K = K) (hg : Gl X "zip") (hm : X.mg "zip" = none) (ha : PA X [e, e2] ta)
    (hs : starEach [e, e2] X.env = (false, eval e X.env) :: starEach [e2] X.env := by rfl) (hpl : (backTo pos (starEach [e2] X.env)).any (·.1) = false := by rfl) :
    PI X (.Tuple elts kk tpos) (.Call (.Name "zip" p) [e, e2] [] pos) (iZipM K ta) := by
  subst hK
  refine ⟨fun pins s σ H R I h => ?_⟩
  refine Call_ (ld_blt I hg hm PyProof.Rows.boot_zip (PyProof.Rows.callWith_type1 (thn (ha.run pos pins s σ H _ I h) fun us s1 ⟨vs, H1, I1, r1, q1⟩ => ?_) hs hpl))
  obtain ⟨a, b, xs, ys, ex, hqx, hqy, q⟩ := q1
  subst ex
  cases r1 with
  | cons r rr =>
    cases rr with
    | cons r' rr =>
      cases rr
      cases r
      cases r'
      obtain ⟨its, rv, p1, _⟩ := I1.tuple hqx
      obtain ⟨its2, rv2, p2, _⟩ := I1.list hqy
      obtain ⟨o1, ho1, _⟩ := id p1
      refine ZTL.call_TL (show s1.heap.IsTuple a its.toArray from p1) p2.isList fun h' hz hTI hTO h1 h2 hk => wpAny_pyIter_zip hz ?_
      have I2 : Inv X pins σ H1 { s1 with heap := h' } := I1.kept (t' := s1.toks) hk
      refine ⟨s1.heap.objs.size + 4, [s1.heap.objs.size + 4, s1.heap.objs.size + 2, s1.heap.objs.size + 3, s1.heap.objs.size, s1.heap.objs.size + 1], _, _, H1, rfl, I2, turn_zipM (PySem.W.ktu_apart s1.heap.objs.size a b (Heap.lt_size ho1) p2.lt), ⟨hz, hTI, ⟨_, _, hTO⟩, h1, h2⟩, fun c hc => ?_, q⟩
      have hle : s1.heap.objs.size ≤ c := by
        have hc : c = s1.heap.objs.size + 4 ∨ c = s1.heap.objs.size + 2 ∨ c = s1.heap.objs.size + 3 ∨ c = s1.heap.objs.size ∨ c = s1.heap.objs.size + 1 := by simpa using hc
        rcases hc with rfl | rfl | rfl | rfl | rfl
        · exact Nat.le_add_right _ _
        · exact Nat.le_add_right _ _
        · exact Nat.le_add_right _ _
        · exact Nat.le_refl _
        · exact Nat.le_add_right _ _
      exact I1.fpOk hle (I1.hok.fresh hle)
end RZ
namespace AL
open PySem L2 RZ
section
variable {Γ : Cg} {F : Hp} {ms : Ms} {S : Sg} {P : Hp → Ms → List D → (Ms → Prop) → Prop}
/-- zip of a tuple and a frozen list of one length -/
theorem ai_zipM {ta : TA} (h : AA Γ ta F ms S fun F1 ms1 ds => ∃ xs ys : List D, ds = [.tup xs, .lst ys] ∧ xs.length = ys.length ∧ P F1 ms1 (zipD xs ys) fun _ => True) : AI Γ (iZipM Γ.K ta) F ms S P := fun R σ H Rc hs hh x k =>
  h R σ H _ hs hh x fun F1 ms1 ds vs H1 e1 h1 r1 ⟨xs, ys, hd, hl, p⟩ => by
    subst hd
    cases r1 with
    | cons a b =>
      cases b with
      | cons b c =>
        cases c
        cases a with
        | @tup a us _ ha ra =>
          cases b with
          | @lst b' ws _ hb0 rb =>
            have hb : SqL Γ.K F1 b' ws := SqL.of hb0
            refine ⟨a, b', us, ws, rfl, ex_t h1.ex ha, ex_l h1.ex hb, k F1 ms1 _ (fun _ => True) _ H1 e1 h1 ⟨fun _ i H' F' ms' hi e' hh' _ => ?_, fun _ H' F' ms' e' hh' _ => ?_, fun _ i H' x' H2 F' ms' hi e' hh' _ y => ?_⟩ p⟩
            · rw [zipD_len hl] at hi
              exact ⟨us, ws, us[i]'(by rw [← ra.len]; exact hi), ws[i]'(by rw [← rb.len, ← hl]; exact hi), ex_t hh'.ex (ex_t e' ha), ex_l hh'.ex (ex_l e' hb), by simp [show i < us.length by rw [← ra.len]; exact hi], by simp [show i < ws.length by rw [← rb.len, ← hl]; exact hi]⟩
            · exact ⟨us, ws, ex_t hh'.ex (ex_t e' ha), ex_l hh'.ex (ex_l e' hb), .inl (by rw [zipD_len hl, ra.len]; exact Nat.le_refl _)⟩
            · obtain ⟨T, u, w, y1, y2, y3, y4, y5⟩ := y
              subst y1 y3
              obtain ⟨d, hd, rd⟩ := ra.get (y4 us (ex_t hh'.ex (ex_t e' ha)))
              obtain ⟨e, he, re⟩ := rb.get (y5 ws (ex_l hh'.ex (ex_l e' hb)))
              obtain ⟨F'', e2, h2, r2⟩ := pair_rep hh' y2 (rd.mono e') (re.mono e')
              exact ⟨F'', _, e2, h2, zipD_get hd he, r2⟩
end
end AL

set_option Elab.async false
set_option linter.all false
set_option maxRecDepth 100000
set_option maxHeartbeats 4000000
/-! list.count and list.index over flat items; raise of an own class; a lambda told precisely -/
namespace L2
open PySem PySem.Spec PyProof.Rows
section
variable {X : Cx}
noncomputable def rCntF (K : PySem.W.Frag) : V → List V → Hp → VK → Prop := fun x xs H Q => ∃ (a : Addr) (ys : List V) (y : V), x = .ref a ∧ xs = [y] ∧ SqL K H a ys ∧ flatV y = true ∧ ys.all flatV = true ∧ Q (.int (ys.countP (fun z => eqV z y) : Nat)) H
end
end L2
namespace AL
open PySem L2
section
variable {Γ : Cg} {K : Frg} {F : Hp} {ms : Ms} {S : Sg} {Q : QE}
end
end AL

set_option Elab.async false
set_option linter.all false
set_option maxRecDepth 100000
set_option maxHeartbeats 4000000
/-! a lambda handed to a def: what becomes of the heap, told precisely; the exception that its body raises -/
namespace LamY
open PySem PySem.Spec PyProof.Rows L2 LamX
/-- the table at P knows code objects of the name q alone -/
noncomputable def TabK (H : Hp) (ps : Array Value) (q : Str) : Prop := TriplesOk ps.toList ∧ ∀ (pos : Pos) (cv : Value), codeAmong pos ps.toList = some cv → ∃ c, cv = .ref c ∧ H c = some (CodeO c q)
/-- the making of a lambda: nothing, or a new code object at c' and a row of the table -/
noncomputable def Grown (P : Addr) (q : Str) (ps : Array Value) (H H1 : Hp) : Prop := H1 = H ∨ ∃ (pos : Pos) (c' : Addr), H c' = none ∧ H1 = upd (upd H P (.tbl (ps ++ #[rawInt pos.line, rawInt pos.col, .ref c']))) c' (CodeO c' q)
section
variable {X : Cx} {pins : List (Addr × Obj)} {σ : L2.St} {H : Hp} {s : Shared}
end
section
variable {X : Cx} {pins : List (Addr × Obj)} {σ : L2.St} {H : Hp} {s : Shared}
end
/-- the def that calls what it got -/
noncomputable def Gives3 (X : Cx) (Ng : List Str) (x : Str) (sg : Scope) (g : Addr) (cdg : Value) (bg : List Stmt) (a : Str) (q : Str) (TT : (XK → Hp → VK → Prop) → Hp → VK → Prop) (k : Nat) : Prop :=
  ∀ (f c' : Addr) (s : Shared) (H : Hp) (Q : VK) (tl : XK → Hp → VK → Prop), Room (k + 1) (X.A.deeper (envOfC x sg s.heap.objs.size g cdg)) →
    (∀ (W : WX) (pn : List (Addr × Obj)) (xe : Value → Shared → Prop) (p1 p2 : Pos), Takes ((cxOf L2.CX0 X.prog X.w X.K X.mg X.base Ng x sg g cdg X.A X.stack s H L2.E0).nox.tr pn xe) W →
      PE ((cxOf L2.CX0 X.prog X.w X.K X.mg X.base Ng x sg g cdg X.A X.stack s H L2.E0).nox.tr pn xe) (.Call (.Name a p1) [] [] p2) (fun σZ HZ Q => σZ[0]? = some (some (.ref f)) ∧ HZ c' = some (CodeO c' q) ∧ tl (WE W σZ) HZ Q)) →
    H c' = some (CodeO c' q) → TT tl H Q →
    ∃ t, PSs (cxOf L2.CX0 X.prog X.w X.K X.mg X.base Ng x sg g cdg X.A X.stack s H L2.E0).nox bg t ∧ t { nx := fun _ H' => Q .non H', rt := Q } (L2.start Ng [.ref f]) H
noncomputable def tLam3 (P : Addr) (q : Str) (TT : (XK → Hp → VK → Prop) → Hp → VK → Prop) (t : XK → TE) : TE := fun σ H Q => ∃ ps, H P = some (.tbl ps) ∧ TabK H ps q ∧ ∀ H1, Grown P q ps H H1 → TT (fun E H' Q' => t E σ H' Q') H1 Q
section
variable {X : Cx}
end
end LamY
namespace AL
open PySem L2 LamX LamY
/-- the table at P: owned, and what it knows -/
noncomputable def TabA (F : Hp) (ms : Ms) (n : Nat) (P : Addr) (q : Str) : Prop := ∃ ps, ms[n]? = some (P, .raw (.tbl ps)) ∧ TabK F ps q
theorem TabA.ex {F F' : Hp} {ms : Ms} {n : Nat} {P : Addr} {q : Str} (e : Ex F F') : TabA F ms n P q → TabA F' ms n P q := fun ⟨ps, h, t, a⟩ => ⟨ps, h, t, fun pos cv hc => by obtain ⟨c, h1, h2⟩ := a pos cv hc; exact ⟨c, h1, e _ _ h2⟩⟩
theorem TabA.at {F : Hp} {ms ms' : Ms} {n n' : Nat} {P : Addr} {q : Str} (e : ∀ m, ms[n]? = some (P, m) → ms'[n']? = some (P, m)) : TabA F ms n P q → TabA F ms' n' P q := fun ⟨ps, h, t⟩ => ⟨ps, e _ h, t⟩
/-- what a def makes of a call that raises D: res, told in data -/
noncomputable def TTerr (K : Frg) (C : Addr) (res : AL.D) : (XK → Hp → VK → Prop) → Hp → VK → Prop := fun tl H Q => ∃ (F : Hp) (ms : Ms), Hold K F ms H ∧
  ∀ (E : XK) (Q' : VK), (∀ H' F' ms', Ex F F' → Hold K F' ms' H' → (∀ F2 v H2, Ex F' F2 → Hold K F2 ms' H2 → Rep K F2 res v → Q v H2) → E (.ref C) none H') → tl E H Q'
section
variable {Γ : Cg} {F : Hp} {ms : Ms} {S : Sg} {Q : QE}
end
end AL

set_option Elab.async false
set_option linter.all false
set_option maxRecDepth 100000
set_option maxHeartbeats 4000000
/-! the def that calls what it got and tells the error; the start of a law that makes lambdas -/
namespace L2
open PySem PySem.Spec PyProof.Rows
end L2
namespace LamY
open PySem PySem.Spec PyProof.Rows L2 LamX
section
variable {X : Cx}
end
end LamY
namespace AL
open PySem L2 LamX LamY
section
variable {K : Frg} {F : Hp} {ms : Ms} {Q : QE}
end
/-! ### the start -/
section
variable {P : Program} {w : World} {K : Frg} {mg : Str → Option Value} {base : Heap}
/-- a def's place, its code object told -/
structure FunC (K : Frg) (x qual : Str) (st : Stmt) (f : Addr) (fd : FuncData) (c : Addr) : Prop where
  ex : ∃ (oc : Value) (od : Option Addr) (kV doc pm : Value) (an : Option Addr) (ct : Value) (osl : Array (Option Value)),
    fd = PySem.W.fnOf x qual (defArgs st) (defBody st) (defScope st) .none kV doc pm an (.ref c) ct ∧ K.lookup f = some ⟨oc, od, .func fd, osl⟩ ∧ PySem.W.codeIn K (.ref c) qual = true
end
end AL
namespace AL
open PySem
end AL

set_option Elab.async false
set_option linter.all false
set_option maxRecDepth 100000
set_option maxHeartbeats 4000000
/-! calls of what raises nothing, where something may be raised -/
namespace AL
open PySem L2
section
variable {Γ : Cg} {F : Hp} {ms : Ms} {S : Sg} {Q : QE} {ta : TE}
end
end AL

set_option Elab.async false
set_option linter.all false
set_option maxRecDepth 100000
set_option maxHeartbeats 4000000
/-! in, of whole numbers -/
namespace AL
open PySem L2 PyProof.Rows
section
variable {K : Frg} {F : Hp} {ms : Ms} {Q : QE}
end
/-! owned objects behind a prefix -/
theorem app_at {E R : Ms} (c : Nat) : (E ++ R)[E.length + c]? = R[c]? := by
  rw [List.getElem?_append_right (Nat.le_add_right _ _), Nat.add_sub_cancel_left]
theorem app_set {E R : Ms} {c : Nat} {v : Addr × MO} : (E ++ R).set (E.length + c) v = E ++ R.set c v := by
  rw [List.set_append_right _ _ (Nat.le_add_right _ _), Nat.add_sub_cancel_left]
end AL

set_option Elab.async false
set_option linter.all false
set_option maxRecDepth 100000
set_option maxHeartbeats 4000000
/-! defs with a star parameter; a try that raises nothing; owned lists compared -/
namespace AL
open PySem PySem.Spec L2 PyProof.Rows
/-- called with some more arguments: they are a tuple -/
noncomputable def spV (sp : ASp) : ASp := fun ds F ms Q Ea => ∃ d0 rest, ds = d0 :: rest ∧ rest.length ≤ 5 ∧ ∀ F', Ex F F' → sp [d0, .tup rest] F' ms Q Ea
section
variable {P : Program} {w : World} {K : Frg} {mg : Str → Option Value} {base : Heap}
end
section
variable {Γ : Cg} {F : Hp} {ms : Ms} {S : Sg} {Q : QE} {ta : TE}
end
section
variable {X : Cx}
end
section
variable {K : Frg} {F : Hp} {ms : Ms} {Q : QE}
end
end AL

set_option Elab.async false
set_option linter.all false
set_option maxRecDepth 100000
set_option maxHeartbeats 4000000
/-! dicts: read under a lock, an unnamed one walked, sorted, copied, listed, compared, displayed; count of texts; max -/
namespace L2
open PySem PySem.Spec PyProof.Rows
/-- the value is locked from here on -/
noncomputable def tLockV (t : TE) : TE := fun σ H Q => t σ H fun x H1 => ∃ d u, x = .ref d ∧ H1 d = some u ∧ Mut (some u) ∧ ∀ od, Q x (upd H1 d (.frz od u))
theorem pe_lockV {X : Cx} {e : Expr} {t : TE} (h : PE X e t) : PE X e (tLockV t) := by
  refine ⟨fun pins s σ H Q I hw => ?_⟩
  refine thn (h.run pins s σ H _ I hw) fun v s1 ⟨x, H1, I1, r, d, u, ex, hd, mu, q⟩ => ?_
  obtain ⟨od, I2⟩ := I1.lock hd mu
  exact ⟨x, _, I2, r, q od⟩
end L2
namespace AL
open PySem PySem.Spec L2 PyProof.Rows
section
variable {Γ : Cg} {K : Frg} {F : Hp} {ms : Ms} {S : Sg} {Q : QE} {ta tb te tx tv td ty : TE} {A : AEnds}
/-- x can be read as a dict: frozen, owned, or locked -/
noncomputable def DicR (K : Frg) (F : Hp) (ms : Ms) (x : D) (kvs : List (Key × D)) : Prop := DicA K F ms x kvs ∨ ∃ (n : Nat) (l : Addr) (od : Obj) (vs : List (Key × V)), x = .ref l ∧ ms[n]? = some (l, MO.raw (.frz od (.dK vs))) ∧ RepK K F kvs vs
theorem DicR.to {x : D} {kvs : List (Key × D)} {R : Ms} {H : Hp} {v : V} (i : DicR K F ms x kvs) (hh : Hold K F (ms ++ R) H) (r : Rep K F x v) : ∃ a vs, v = .ref a ∧ Rd H a (.dK vs) ∧ RepK K F kvs vs := by
  rcases i with i | ⟨n, l, od, vs, rfl, hn, q⟩
  · obtain ⟨a, vs, e, h, q⟩ := i.to hh r
    exact ⟨a, vs, e, .inl h, q⟩
  · cases r
    exact ⟨l, vs, rfl, .inr ⟨od, (hh.at (get_app hn)).2⟩, q⟩
theorem DicR.own {n : Nat} {l : Addr} {kvs : List (Key × D)} (h : ms[n]? = some (l, MO.dic kvs)) : DicR K F ms (.ref l) kvs := .inl (.inr ⟨n, l, rfl, h⟩)
theorem ae_dgetR (h : AE Γ td F ms S fun F1 ms1 x => AE Γ ty F1 ms1 S fun F2 ms2 y => ∃ k kvs d, keyD y = some k ∧ DicR Γ.K F2 ms2 x kvs ∧ valD kvs k = some d ∧ Q F2 ms2 d) : AE Γ (tDGet td ty) F ms S Q := fun R σ H Qc hs hh x k =>
  h R σ H _ hs hh x fun F1 ms1 d1 v1 H1 e1 h1 r1 q1 => q1 R σ H1 _ (hs.mono e1) h1 (x.ex e1) fun F2 ms2 y vy H2 e2 h2 r2 ⟨key, kvs, d, hk, hd, hv, q⟩ => by
    obtain ⟨a, vs, rfl, ha, rk⟩ := hd.to h2 (r1.mono e2)
    have ey := key_rep r2 hk
    subst ey
    rcases rk.val key with ⟨z, _⟩ | ⟨d', v', z1, z2, z3⟩
    · rw [hv] at z; cases z
    · rw [hv] at z1
      cases z1
      exact ⟨a, v', rfl, .inl ⟨vs, key, ha, rfl, z2.symm⟩, k F2 ms2 d v' H2 (e1.trans e2) h2 z3 q⟩
theorem ae_dget2R (h : AE Γ td F ms S fun F1 ms1 x => ∃ kvs, DicR Γ.K F1 ms1 x kvs ∧ AE Γ ty F1 ms1 S fun F2 ms2 y => AE Γ tx F2 ms2 S fun F3 ms3 z => ∃ k, keyD y = some k ∧ DicR Γ.K F3 ms3 x kvs ∧ Q F3 ms3 ((valD kvs k).getD z)) : AE Γ (tDGet2 td ty tx) F ms S Q := fun R σ H Qc hs hh x k =>
  h R σ H _ hs hh x fun F1 ms1 d1 v1 H1 e1 h1 r1 ⟨kvs, hd0, q1⟩ => by
    obtain ⟨a, vs, rfl, ha, rk⟩ := hd0.to h1 r1
    refine ⟨a, rfl, .inl ⟨vs, ha⟩, q1 R σ H1 _ (hs.mono e1) h1 (x.ex e1) fun F2 ms2 y vy H2 e2 h2 r2 q2 => q2 R σ H2 _ (hs.mono (e1.trans e2)) h2 (x.ex (e1.trans e2)) fun F3 ms3 z vz H3 e3 h3 r3 ⟨key, hk, hd, q⟩ => ?_⟩
    obtain ⟨a', vs', ea, ha', rk'⟩ := hd.to h3 (r1.mono (e2.trans e3))
    cases ea
    have ey := key_rep (r2.mono e3) hk
    subst ey
    refine ⟨_, .inl ⟨vs', key, ha', rfl, rfl⟩, k F3 ms3 _ _ H3 ((e1.trans e2).trans e3) h3 ?_ q⟩
    rcases rk'.val key with ⟨z1, z2⟩ | ⟨d', v', z1, z2, z3⟩
    · rw [z1, z2]; exact r3
    · rw [z1, z2]; exact z3
/-- an unnamed dict, locked -/
theorem ae_lockV (h : AE Γ te F ms S fun F1 ms1 x => ∃ (n : Nat) (l : Addr) (kvs : List (Key × D)), x = .ref l ∧ ms1[n]? = some (l, .dic kvs) ∧ ∀ od vs, RepK Γ.K F1 kvs vs → Q F1 (ms1.set n (l, .raw (.frz od (.dK vs)))) (.ref l)) : AE Γ (tLockV te) F ms S Q := fun R σ H Qc hs hh x k =>
  h R σ H _ hs hh x fun F1 ms1 d1 v1 H1 e1 h1 r1 ⟨n, l, kvs, hx, hn, q⟩ => by
    subst hx
    cases r1
    obtain ⟨_, vs, ha, rk⟩ := h1.at (get_app hn)
    refine ⟨l, .dK vs, rfl, ha, True.intro, fun od => ?_⟩
    have h2 := h1.set (m' := .raw (.frz od (.dK vs))) (o := .frz od (.dK vs)) (get_app hn) upd_same
    rw [set_app hn] at h2
    exact k F1 _ (.ref l) _ _ e1 h2 (.ref l) (q od vs rk)
noncomputable def rSRTD (K : Frg) : List V → Hp → VK → Prop := fun xs H Q => ∃ (a : Addr) (kvs : List (Key × V)) (ks : List Str), xs = [.ref a] ∧ Rd H a (.dK kvs) ∧ kvs.map (·.1) = ks.map Sum.inr ∧ ks.length < 64 ∧ ∀ ys p, ys.Perm ks → sortedS ys = true → H p = none → Q (.ref p) (upd H p (.lst (ys.map V.str)))
theorem kSRTD {X : Cx} (h : X.K = K) (hc : X.calm = true) : CallR X (.builtin "sorted") (rSRTD K) := call_sortedD hc
theorem keys_rep : ∀ {kvs : List (Key × D)} {vs : List (Key × V)}, RepK K F kvs vs → vs.map (·.1) = kvs.map (·.1)
  | _, _, .nil => rfl
  | _, _, .cons _ r => by rw [List.map_cons, List.map_cons, keys_rep r]
theorem ac_sortD {x : D} {kvs : List (Key × D)} {ks : List Str} (hx : DicR K F ms x kvs) (hk : kvs.map (·.1) = ks.map Sum.inr) (hz : ks.length < 64) (q : ∀ F' (ys : List Str), Ex F F' → ys.Perm ks → sortedS ys = true → Q F' ms (.lst (ys.map D.str))) : AC K (rSRTD K) [x] F ms Q := ac1 fun R v H Qc hv hh k => by
  obtain ⟨a, vs, rfl, ha, rk⟩ := hx.to hh hv
  refine ⟨a, vs, ks, rfl, ha, (keys_rep rk).trans hk, hz, fun ys p y1 y2 hp => ?_⟩
  obtain ⟨e2, h2⟩ := hh.laid (.lst (ys.map V.str)) hp
  exact k _ ms (.lst _) _ _ e2 h2 (.lst upd_same (rep_strl ys)) (q _ ys e2 y1 y2)
noncomputable def rDICTD (K : Frg) : List V → Hp → VK → Prop := fun xs H Q => ∃ (a : Addr) (kvs : List (Key × V)), xs = [.ref a] ∧ Rd H a (.dK kvs) ∧ ∀ p, H p = none → Q (.ref p) (upd H p (.dK kvs))
noncomputable def rMAXL (K : Frg) : List V → Hp → VK → Prop := rMax K
end
end AL

set_option Elab.async false
set_option linter.all false
set_option maxRecDepth 100000
set_option maxHeartbeats 4000000
/-! list(d.items()); a dict displayed; two dicts compared -/
namespace AL
open PySem PySem.Spec L2 PyProof.Rows LiI
section
variable {K : Frg} {F H H' : Hp} {ms : Ms}
/-- more was laid at new places -/
theorem Hold.grow (h : Hold K F ms H) (keep : ∀ b o, H b = some o → H' b = some o) : ∃ F2, Ex F F2 ∧ Hold K F2 ms H' ∧ ∀ b, H b = none → F2 b = H' b := by
  refine ⟨fun b => if (H b).isNone = true then H' b else F b, fun b o e => ?_, ⟨fun b o e => ?_, fun q hq => ?_, h.nd⟩, fun b hb => ?_⟩
  · have e2 := h.ex _ _ e
    show (if (H b).isNone = true then H' b else F b) = some o
    rw [e2, if_neg (by simp)]
    exact e
  · have e : (if (H b).isNone = true then H' b else F b) = some o := e
    by_cases hb : (H b).isNone = true
    · rw [if_pos hb] at e
      exact e
    · rw [if_neg hb] at e
      exact keep _ _ (h.ex _ _ e)
  · obtain ⟨o, ho⟩ := (h.own q hq).2.there
    have hF : ∀ b u, F b = some u → (if (H b).isNone = true then H' b else F b) = some u := fun b u e => by
      rw [h.ex _ _ e, if_neg (by simp)]
      exact e
    refine ⟨?_, ((h.own q hq).2.mono (F' := fun b => if (H b).isNone = true then H' b else F b) hF).at ((keep _ _ ho).trans ho.symm)⟩
    show (if (H q.1).isNone = true then H' q.1 else F q.1) = none
    rw [ho, if_neg (by simp)]
    exact (h.own q hq).1
  · show (if (H b).isNone = true then H' b else F b) = H' b
    rw [hb]
    rfl
end
section
variable {Γ : Cg} {K : Frg} {F : Hp} {ms : Ms} {S : Sg} {Q : QE} {ta tb te tx tv td ty tk : TE} {A : AEnds}
noncomputable def rNED (K : Frg) : R2 := fun x y H Q => rNeDA x y H Q
end
end AL

set_option Elab.async false
set_option linter.all false
set_option maxRecDepth 100000
set_option maxHeartbeats 4000000
/-! errors with attributes: made by their own __init__, raised -/
namespace L2
open PySem PySem.Spec PyProof.Rows
/-- B.__init__(self, ..), B an own class over ValueError that has none of its own -/
structure SInit (K : PySem.W.Frag) (B : Addr) : Prop where
  rd : PySem.W.readsIn K B (.type "type") = true
  ga : PySem.W.specialIn K (.ref B) "__getattribute__" = some (some (.builtin "type.__getattribute__"))
  at_ : PySem.W.findCls K (.ref B) (.type "type") "__init__" = some (.val (.builtin "ValueError.__init__"))
/-- an own error class whose __init__ is walked -/
structure XCls (K : PySem.W.Frag) (C fI : Addr) : Prop where
  ox : OexC K C
  iC : PySem.W.findIn K (.ref C) "__init__" = some (some (.ref fI))
  tI : PySem.W.typeIn K (.ref fI) = some (.type "function")
section
variable {X : Cx} {o e : Expr} {es : List Expr} {to te : TE} {ta : TA} {f : Str} {p p' p1 p2 pos : Pos} {B : Addr}
end
/-- what the __init__ of an error with one attribute does -/
noncomputable def spI1 (C : Addr) (f : Str) : Sp := fun vs H Q _ => ∃ a v, vs = [.ref a, v] ∧ H a = some (exo a C none) ∧ ∀ d, H d = none → d ≠ a → Q .non (upd (upd H d (exd d [(f, v)])) a (exo a C (some d)))
/-- .. with two -/
noncomputable def spI2 (C : Addr) (f g : Str) : Sp := fun vs H Q _ => ∃ a v u, vs = [.ref a, v, u] ∧ H a = some (exo a C none) ∧ ∀ d, H d = none → d ≠ a → Q .non (upd (upd (upd H d (exd d [(f, v)])) a (exo a C (some d))) d (exd d [(g, u), (f, v)]))
section
variable {P : Program} {w : World} {K : PySem.W.Frag} {mg : Str → Option Value} {base : Heap}
end
end L2
namespace AL
open PySem PySem.Spec L2 PyProof.Rows
section
variable {Γ : Cg} {F : Hp} {ms : Ms} {S : Sg} {A : AEnds} {ta : TA}
theorem Hold.xd {K : Frg} {F H : Hp} {ms : Ms} (h : Hold K F ms H) {d : Addr} (o : HO) (hd : H d = none) : Ex F (upd F d o) ∧ Hold K (upd F d o) ms (upd H d o) := h.laid o hd
end
/-! ### the reading of the __init__s -/
section
end
end AL

set_option Elab.async false
set_option linter.all false
set_option maxRecDepth 100000
set_option maxHeartbeats 4000000
/-! the caught error and its attributes; what a def makes of a call that may raise, told of all errors -/
namespace L2
open PySem PySem.Spec PyProof.Rows
/-- isinstance(e, c), e the caught exception with a dict at dd -/
noncomputable def rIsEX (K : PySem.W.Frag) (D a dd : Addr) : List V → Hp → VK → Prop := fun xs H Q => ∃ (c : V) (cv : Value) (b : Bool) (fs : List (Str × V)), xs = [.ref a, c] ∧ (∀ u, RelV c u → u = cv) ∧ PySem.W.kitOne K (.ref D) cv = some b ∧ H dd = some (.xd fs) ∧ Q (.bl b) H
end L2
namespace AL
open PySem PySem.Spec L2 LamX LamY PyProof.Rows
section
variable {K : Frg} {F : Hp} {ms : Ms} {Q : QE}
end
section
variable {Γ : Cg} {F : Hp} {ms : Ms} {S : Sg} {Q : QE} {te : TE}
end
/-- what a def makes of a call: None, or what R tells of the error that it raises -/
noncomputable def TTX (K : Frg) (R : Addr → List (Str × AL.D) → AL.D → Prop) : (XK → Hp → VK → Prop) → Hp → VK → Prop := fun tl H Q => ∃ (F : Hp) (ms : Ms), Hold K F ms H ∧
  ∀ (E : XK) (Q' : VK), (∀ H' F' ms' C dx fs res, Ex F F' → Hold K F' ms' H' → XDat K F' H' dx fs → R C fs res → (∀ F2 v H2, Ex F' F2 → Hold K F2 ms' H2 → Rep K F2 res v → Q v H2) → E (.ref C) dx H') →
    (∀ H' F' ms' v, Ex F F' → Hold K F' ms' H' → (∀ F2 v H2, Ex F' F2 → Hold K F2 ms' H2 → Rep K F2 .non v → Q v H2) → Q' v H') → tl E H Q'
section
variable {Γ : Cg} {F : Hp} {ms : Ms} {S : Sg} {Q : QE}
end
end AL

set_option Elab.async false
set_option linter.all false
set_option maxRecDepth 100000
set_option maxHeartbeats 4000000
/-! len of a dict; pop(); a method without arguments -/
namespace AL
open PySem PySem.Spec L2 PyProof.Rows
section
variable {Γ : Cg} {K : Frg} {F : Hp} {ms : Ms} {S : Sg} {Q : QE}
noncomputable def rLEND (K : Frg) : List V → Hp → VK → Prop := fun xs H Q => ∃ (a : Addr) (kvs : List (Key × V)), xs = [V.ref a] ∧ H a = some (.dK kvs) ∧ Q (.int kvs.length) H
end
end AL
namespace AL
open PySem PySem.Spec L2 PyProof.Rows
section
variable {K : Frg} {F : Hp} {ms : Ms} {Q : QE}
end
end AL
namespace L2
open PySem PySem.Spec PyProof.Rows
section
variable {X : Cx}
end
end L2

set_option Elab.async false
set_option linter.all false
set_option maxRecDepth 100000
set_option maxHeartbeats 4000000
/-! dicts whose keys are tuples, nested: an own object of the heap (HO.ext) -/
namespace ND
open PySem PySem.Spec PyProof.Rows L2
noncomputable abbrev NK := PySem.NestedKey
noncomputable abbrev Ent := NK × Addr × Value
noncomputable def Raw (P : Program) (w : World) (a : Addr) (xs : List Ent) : Heap → Prop := fun h => ((a == sysModules) = false ∧ xs.length ≤ sizeLine) ∧ ∃ o es ep, h.get? a = some o ∧ o.ExactDict ∧ o.data = .dict es ep ∧ es.toList = xs.map (entryOfKey (nestedKind P w)) ∧ (xs.map (·.1)).Nodup
noncomputable def NDO (P : Program) (w : World) (a : Addr) (xs : List Ent) : HO := .ext (Raw P w a xs)
mutual
inductive VKey (K : PySem.W.Frag) (H : Hp) : NK → V → Prop
  | non : VKey K H .none .non
  | int (i : Int) : VKey K H (.num i) (.int i)
  | text (x : Str) : VKey K H (.text x) (.str x)
  | tup {a : Addr} {us : List V} {ks : List NK} : SqT K H a us → VKeys K H ks us → VKey K H (.tup ks) (.ref a)
inductive VKeys (K : PySem.W.Frag) (H : Hp) : List NK → List V → Prop
  | nil : VKeys K H [] []
  | cons {k : NK} {v : V} {ks : List NK} {vs : List V} : VKey K H k v → VKeys K H ks vs → VKeys K H (k :: ks) (v :: vs)
end
section
variable {X : Cx} {pins : List (Addr × Obj)} {σ : L2.St} {H H' : Hp} {s : Shared}
theorem sqt_obj (I : Inv X pins σ H s) {a : Addr} {us : List V} (h : SqT X.K H a us) : ∃ o its n, s.heap.get? a = some o ∧ o.cls = .type "tuple" ∧ o.data = .seq its n ∧ Vals us its.toList := by
  rcases h with h | ⟨o, its, n, h1, h2, h3, _, h5⟩
  · obtain ⟨_, its, r, o, h1, h2, n, h3⟩ := (show ObjOk X.prog X.w H s.heap a (.tup us) from h.ok I.hok)
    exact ⟨o, its.toArray, n, h1, h2, h3, r⟩
  · exact ⟨o, its, n, I.kIn _ _ h1, h2, h3, h5⟩
mutual
theorem VKey.is (I : Inv X pins σ H s) : ∀ (k : NK) (v : V) (u : Value), VKey X.K H k v → RelV v u → NestedIs s.heap k u
  | .none, _, _, h, r => by
    cases h
    cases r
    exact .none
  | .num i, _, _, h, r => by
    cases h
    obtain ⟨t, rfl⟩ := r
    exact .int i t
  | .text x, _, _, h, r => by
    cases h
    obtain ⟨t, rfl⟩ := r
    exact .text x t
  | .tup ks, _, _, h, r => by
    cases h with
    | tup hq hk =>
      cases r
      obtain ⟨o, its, n, h1, h2, h3, h4⟩ := sqt_obj I hq
      exact .tup h1 h2 h3 (VKeys.is I ks _ _ hk h4)
theorem VKeys.is (I : Inv X pins σ H s) : ∀ (ks : List NK) (vs : List V) (us : List Value), VKeys X.K H ks vs → Vals vs us → NestedAll s.heap ks us
  | [], _, _, h, r => by
    cases h
    cases r
    exact .nil
  | k :: ks, _, _, h, r => by
    cases h with
    | cons h1 h2 =>
      cases r with
      | cons r1 r2 => exact .cons (VKey.is I k _ _ h1 r1) (VKeys.is I ks _ _ h2 r2)
end
mutual
theorem VKey.mono {K : PySem.W.Frag} (e : ∀ a us, SqT K H a us → SqT K H' a us) : ∀ (k : NK) (v : V), VKey K H k v → VKey K H' k v
  | .none, _, h => by cases h; exact .non
  | .num i, _, h => by cases h; exact .int i
  | .text x, _, h => by cases h; exact .text x
  | .tup ks, _, h => by
    cases h with
    | tup hq hk => exact .tup (e _ _ hq) (VKeys.mono e ks _ hk)
theorem VKeys.mono {K : PySem.W.Frag} (e : ∀ a us, SqT K H a us → SqT K H' a us) : ∀ (ks : List NK) (vs : List V), VKeys K H ks vs → VKeys K H' ks vs
  | [], _, h => by cases h; exact .nil
  | k :: ks, _, h => by
    cases h with
    | cons h1 h2 => exact .cons (VKey.mono e k _ h1) (VKeys.mono e ks _ h2)
end
end
/-- the dict's table: keys, values -/
noncomputable abbrev KN (K : PySem.W.Frag) (H : Hp) : List (NK × V) → List Ent → Prop := Paired fun p q => p.1 = q.1 ∧ (VKey K H q.1 (.ref q.2.1) ∧ q.1.depth ≤ 8) ∧ RelV p.2 q.2.2
section
variable {K : PySem.W.Frag} {H H' : Hp}
theorem KN.val {kvs : List (NK × V)} {xs : List Ent} (r : KN K H kvs xs) (k : NK) : RelO (valV kvs k) ((atKey xs k).map (·.2)) := by
  induction r with
  | nil => exact True.intro
  | @cons p q ps qs h t ih =>
    obtain ⟨h1, _, h2⟩ := h
    by_cases e : p.1 = k
    · have e' : q.1 = k := h1.symm.trans e
      have b : atKey (q :: qs) k = some q.2 := by simp [atKey, List.find?_cons, e']
      rw [valV_pos e, b]; exact h2
    · have e' : ¬ q.1 = k := fun z => e (h1.trans z)
      have b : atKey (q :: qs) k = atKey qs k := by simp [atKey, List.find?_cons, e']
      rw [valV_neg e, b]; exact ih
theorem KN.repl {kvs : List (NK × V)} {xs : List Ent} (r : KN K H kvs xs) (k : NK) {y : V} {u : Value} (ry : RelV y u) :
    KN K H (kvs.map fun kv => if kv.1 = k then (kv.1, y) else kv) (xs.map (putAt k u)) := by
  induction r with
  | nil => exact .nil
  | @cons p q ps qs h t ih =>
    rw [List.map_cons, List.map_cons]
    refine .cons ?_ ih
    obtain ⟨h1, h2, h3⟩ := h
    unfold putAt
    by_cases e : p.1 = k
    · rw [if_pos e, if_pos (h1.symm.trans e)]; exact ⟨h1, h2, ry⟩
    · rw [if_neg e, if_neg (fun z => e (h1.trans z))]; exact ⟨h1, h2, h3⟩
theorem KN.put {kvs : List (NK × V)} {xs : List Ent} (r : KN K H kvs xs) (k : NK) {b : Addr} {y : V} {u : Value} (hb : VKey K H k (.ref b)) (hd : k.depth ≤ 8) (ry : RelV y u) :
    KN K H (putK kvs k y) (storedH xs k b u) := by
  have e : (kvs.any fun kv => decide (kv.1 = k)) = (atKey xs k).isSome := by
    rw [valV_any, (r.val k).isSome_eq, Option.isSome_map]
  unfold putK storedH
  rw [e]
  by_cases q : (atKey xs k).isSome = true
  · rw [if_pos q, if_pos q]; exact r.repl k ry
  · rw [if_neg q, if_neg q]; exact Paired.snoc r ⟨rfl, ⟨hb, hd⟩, ry⟩
theorem KN.mono {kvs : List (NK × V)} {xs : List Ent} (r : KN K H kvs xs) (e : ∀ a us, SqT K H a us → SqT K H' a us) : KN K H' kvs xs :=
  Paired.mapP r fun _ _ z => ⟨z.1, ⟨VKey.mono e _ _ z.2.1.1, z.2.1.2⟩, z.2.2⟩
end
section
variable {X : Cx} {pins : List (Addr × Obj)} {σ : L2.St} {H : Hp} {s : Shared} {a b : Addr} {xs : List Ent} {kvs : List (NK × V)} {k : NK} {v : V} {r : Value} {A : Around} {E : Value → Shared → Prop}
theorem KN.dict (I : Inv X pins σ H s) (rw_ : Raw X.prog X.w a xs s.heap) (kn : KN X.K H kvs xs) : s.heap.DictOfH (nestedKind X.prog X.w) a xs := by
  obtain ⟨_, o, es, ep, h1, h2, h3, h4, h5⟩ := rw_
  refine ⟨o, es, ep, h1, h2, h3, h4, fun x hx => ?_, h5⟩
  have all : ∀ {l : List (NK × V)} {m : List Ent}, KN X.K H l m → ∀ x ∈ m, (nestedKind X.prog X.w).is s.heap x.1 x.2.1 := by
    intro l m q
    induction q with
    | nil => intro x hx; exact nomatch hx
    | @cons p q ps qs hq t ih =>
      intro x hx
      rcases List.mem_cons.mp hx with e | hx
      · subst e
        exact ⟨VKey.is I _ _ _ hq.2.1.1 rfl, hq.2.1.2⟩
      · exact ih x hx
  exact all kn x hx
theorem room {A : Around} (hu : A.units + 16 < cLine) : (nestedKind X.prog X.w).room A.in1 := by
  show A.in1.units + 8 < cLine
  have : A.in1.units ≤ A.units + 1 := Nat.le_of_eq rfl
  omega
end
end ND

set_option Elab.async false
set_option linter.all false
set_option maxRecDepth 100000
set_option maxHeartbeats 4000000
/-! dicts of nested tuple keys: the statements' rules -/
namespace ND
open PySem PySem.Spec PyProof.Rows L2
section
variable {P : Program} {w : World} {K : PySem.W.Frag}
noncomputable def tNGet (P : Program) (w : World) (K : PySem.W.Frag) (td ty : TE) : TE := fun σ H Q => td σ H fun x H1 => ty σ H1 fun y H2 => ∃ (a b : Addr) (xs : List Ent) (kvs : List (NK × V)) (k : NK) (v : V), x = .ref a ∧ y = .ref b ∧ Rd H2 a (NDO P w a xs) ∧ KN K H2 kvs xs ∧ VKey K H2 k (.ref b) ∧ k.depth ≤ 8 ∧ valV kvs k = some v ∧ Q v H2
noncomputable def tNGet2 (P : Program) (w : World) (K : PySem.W.Frag) (td ty tx : TE) : TE := fun σ H Q => td σ H fun x H1 => ∃ (a : Addr) (xs : List Ent), x = .ref a ∧ Rd H1 a (NDO P w a xs) ∧ ty σ H1 fun y H2 => tx σ H2 fun z H3 => ∃ (b : Addr) (xs : List Ent) (kvs : List (NK × V)) (k : NK), y = .ref b ∧ Rd H3 a (NDO P w a xs) ∧ KN K H3 kvs xs ∧ VKey K H3 k (.ref b) ∧ k.depth ≤ 8 ∧ Q ((valV kvs k).getD z) H3
noncomputable def sNPut (P : Program) (w : World) (K : PySem.W.Frag) (td ty tv : TE) : TS := fun D σ H => tv σ H fun v H1 => td σ H1 fun x H2 => ty σ H2 fun y H3 => ∃ (a b : Addr) (xs : List Ent) (kvs : List (NK × V)) (k : NK), x = .ref a ∧ y = .ref b ∧ H3 a = some (NDO P w a xs) ∧ KN K H3 kvs xs ∧ VKey K H3 k (.ref b) ∧ k.depth ≤ 8 ∧ kvs.length < sizeLine ∧
  ∀ u, RelV v u → D.nx σ (upd H3 a (NDO P w a (storedH xs k b u)))
noncomputable def tNNew (P : Program) (w : World) : TE := fun _ H Q => ∀ p, H p = none → Q (.ref p) (upd H p (NDO P w p []))
end
section
variable {X : Cx} {K : PySem.W.Frag} {o i e f value : Expr} {pos pos' apos cpos : Pos} {td ty tv tx : TE}
end
/-! ### for .. in d.items() -/
section
variable {X : Cx} {pins : List (Addr × Obj)} {σ : L2.St} {H : Hp} {s : Shared} {d : Addr} {o : Obj} {xs : List Ent}
end
/-- the pairs, each a new tuple: the key's own tuple, the value -/
noncomputable def Itn (P : Program) (w : World) (d : Addr) (o : Obj) (xs : List Ent) (vs : List V) : It :=
  ⟨fun i H => H d = some (.frz o (NDO P w d xs)) ∧ i < xs.length, fun i H x H' => ∃ T y v, xs[i]? = some y ∧ vs[i]? = some v ∧ x = .ref T ∧ H T = none ∧ H' = upd H T (.tup [.ref y.2.1, v]), fun i H => H d = some (.frz o (NDO P w d xs)) ∧ xs.length ≤ i⟩
noncomputable abbrev VsOf : List V → List Ent → Prop := Paired fun v q => RelV v q.2.2
noncomputable def iNItems (P : Program) (w : World) (td : TE) : TI := fun σ H R => td σ H fun x H1 => ∃ (d : Addr) (o : Obj) (xs : List Ent) (vs : List V), x = .ref d ∧ H1 d = some (.frz o (NDO P w d xs)) ∧ VsOf vs xs ∧ R (Itn P w d o xs vs) H1
section
variable {X : Cx} {e : Expr} {td : TE} {apos cpos : Pos}
end
end ND

set_option Elab.async false
set_option linter.all false
set_option maxRecDepth 100000
set_option maxHeartbeats 4000000
/-! comprehensions that make a dict of nested tuple keys: one loop, two loops -/
namespace ND
open PySem PySem.Spec PyProof.Rows L2
/-- what storing k: v into the new dict at D asks, and what it leaves -/
noncomputable def Sto (P : Program) (w : World) (K : PySem.W.Frag) (D : Addr) (y z : V) (H : Hp) (Nx : Hp → Prop) : Prop := ∃ (b : Addr) (xs : List Ent) (kvs : List (NK × V)) (k : NK), y = .ref b ∧ H D = some (NDO P w D xs) ∧ KN K H kvs xs ∧ VKey K H k (.ref b) ∧ k.depth ≤ 8 ∧ kvs.length < sizeLine ∧
  ∀ u, RelV z u → Nx (upd H D (NDO P w D (storedH xs k b u)))
section
variable {prog : Program} {w : World} {A : Around} {R : Result → Shared → Prop} {s : Shared} {kx vx t0 i0 t1 i1 : Expr} {ifs0 ifs1 : List Expr} {scope : Scope} {pos : Pos} {it : Value} {D : Addr} {env : Env}
end
end ND

set_option Elab.async false
set_option linter.all false
set_option maxRecDepth 100000
set_option maxHeartbeats 4000000
/-! comprehensions that make a dict of nested tuple keys (printed by gen47.py) -/
namespace ND
open PySem PySem.Spec PyProof.Rows L2
noncomputable def tDcN (P : Program) (w : World) (K : PySem.W.Frag) (wi : TI) (g : TG) (tt : TT) (tk tv : TE) (vs : List Nat) : TE := fun σ H Q => wi σ H fun J H1 => ∀ D, H1 D = none → ∃ W : Nat → Nat → Hp → Prop, (∃ m, W 0 m (upd H1 D (NDO P w D []))) ∧ ∀ i m H, W i m H →
  (J.stop i H ∧ Q (.ref D) H) ∨ (J.go i H ∧ ∃ Nx : Hp → Prop, (∀ H', Nx H' → ∃ m', m' < m ∧ W (i + 1) m' H') ∧ ∀ x H', J.yld i H x H' → g x (wipe σ vs) H' fun σ2 H2 => wipe σ2 vs = wipe σ vs ∧ tt σ2 H2 fun b H3 =>
    if b = true then tk σ2 H3 fun y H4 => tv σ2 H4 fun z H5 => Sto P w K D y z H5 Nx else Nx H3)
noncomputable def tDcN2 (P : Program) (w : World) (K : PySem.W.Frag) (wi : TI) (g : TG) (tt : TT) (wi1 : TI) (g1 : TG) (tt1 : TT) (tk tv : TE) (vs vs1 : List Nat) : TE := fun σ H Q => wi σ H fun J H1 => ∀ D, H1 D = none → ∃ W : Nat → Nat → Hp → Prop, (∃ m, W 0 m (upd H1 D (NDO P w D []))) ∧ ∀ i m H, W i m H →
  (J.stop i H ∧ Q (.ref D) H) ∨ (J.go i H ∧ ∃ Nx : Hp → Prop, (∀ H', Nx H' → ∃ m', m' < m ∧ W (i + 1) m' H') ∧ ∀ x H', J.yld i H x H' → g x (wipe σ vs) H' fun σ2 H2 => wipe σ2 vs = wipe σ vs ∧ tt σ2 H2 fun b H3 =>
    if b = true then wi1 σ2 H3 fun J1 H4 => ∃ W1 : Nat → Nat → Hp → Prop, (∃ m, W1 0 m H4) ∧ ∀ j k H, W1 j k H →
      (J1.stop j H ∧ Nx H) ∨ (J1.go j H ∧ ∃ Nx1 : Hp → Prop, (∀ H', Nx1 H' → ∃ k', k' < k ∧ W1 (j + 1) k' H') ∧ ∀ x H', J1.yld j H x H' → g1 x (wipe σ2 vs1) H' fun σ3 H5 => wipe σ3 vs1 = wipe σ2 vs1 ∧ tt1 σ3 H5 fun b H6 =>
        if b = true then tk σ3 H6 fun y H7 => tv σ3 H7 fun z H8 => Sto P w K D y z H8 Nx1 else Nx1 H6)
    else Nx H3)
section
variable {X : Cx}
end
end ND

set_option Elab.async false
set_option linter.all false
set_option maxRecDepth 100000
set_option maxHeartbeats 4000000
/-! min of two data, min of the values of a dict of nested keys, sorted of a tuple of ints -/
namespace ND
open PySem PySem.Spec PyProof.Rows L2 PySem.W
section
variable {prog : Program} {w : World} {A : Around} {E : Value → Shared → Prop} {s : Shared}
end
end ND

set_option Elab.async false
set_option linter.all false
set_option maxRecDepth 100000
set_option maxHeartbeats 4000000
namespace ND
open PySem PySem.Spec PyProof.Rows L2 PySem.W
section
variable {X : Cx}
noncomputable def rSRTT (K : PySem.W.Frag) : List V → Hp → VK → Prop := fun vs H Q => ∃ (a : Addr) (ns : List Int), vs = [V.ref a] ∧ SqT K H a (ns.map V.int) ∧ ns.length < 64 ∧
  ∀ (ns' : List Int) (p : Addr), ns'.Perm ns → ns'.Pairwise (· ≤ ·) → H p = none → Q (.ref p) (upd H p (.lst (ns'.map V.int)))
/-- min(x, y) of alike data -/
noncomputable def rMinD (K : PySem.W.Frag) : List V → Hp → VK → Prop := fun vs H Q => ∃ (x y : V) (a b : PyData), vs = [x, y] ∧ Dp K H x a ∧ Dp K H y b ∧ AlikeAll [a, b] ∧ PyData.depthAll [a, b] ≤ 8 ∧ Q (if dataLt b a = true then y else x) H
/-- min(d.values()), d a dict of nested keys, alike data -/
noncomputable def tMinNV (P : Program) (w : World) (K : PySem.W.Frag) (td : TE) : TE := fun σ H Q => td σ H fun x H1 => ∃ (a : Addr) (xs : List Ent) (vs : List V) (d : PyData) (ds : List PyData), x = V.ref a ∧ H1 a = some (NDO P w a xs) ∧ VsOf vs xs ∧ DpAll K H1 vs (d :: ds) ∧ AlikeAll (d :: ds) ∧ PyData.depthAll (d :: ds) ≤ 8 ∧
  ∀ (i : Nat) (v : V), vs[i]? = some v → (d :: ds).getD i .none = minD d ds → Q v H1
variable {o : Expr} {p pos apos mpos : Pos} {td : TE} {K : PySem.W.Frag}
end
end ND

set_option Elab.async false
set_option linter.all false
set_option maxRecDepth 100000
set_option maxHeartbeats 4000000
/-! dicts of nested tuple keys, told in data -/
namespace AL
open PySem L2 PyProof.Rows ND
mutual
noncomputable def nkD : NK → D
  | .none => .non
  | .num i => .int i
  | .text x => .str x
  | .tup ks => .tup (nkDs ks)
noncomputable def nkDs : List NK → List D
  | [] => []
  | k :: ks => nkD k :: nkDs ks
end
noncomputable def valN (kvs : List (NK × D)) (k : NK) : Option D := (kvs.find? fun kv => decide (kv.1 = k)).map (·.2)
noncomputable def putN (kvs : List (NK × D)) (k : NK) (d : D) : List (NK × D) := if kvs.any (fun kv => decide (kv.1 = k)) then kvs.map (fun kv => if kv.1 = k then (kv.1, d) else kv) else kvs ++ [(k, d)]
noncomputable def itemsN (kvs : List (NK × D)) : List D := kvs.map fun p => .tup [nkD p.1, p.2]
section
variable {K : Frg} {F F' : Hp}
mutual
theorem vkey_rep : ∀ (k : NK) (v : V), Rep K F (nkD k) v → VKey K F k v
  | .none, _, h => by unfold nkD at h; cases h; exact .non
  | .num i, _, h => by unfold nkD at h; cases h; exact .int i
  | .text x, _, h => by unfold nkD at h; cases h; exact .text x
  | .tup ks, _, h => by
    unfold nkD at h
    cases h with
    | tup hq hr => exact .tup hq (vkeys_rep ks _ hr)
theorem vkeys_rep : ∀ (ks : List NK) (vs : List V), RepL K F (nkDs ks) vs → VKeys K F ks vs
  | [], _, h => by unfold nkDs at h; cases h; exact .nil
  | k :: ks, _, h => by
    unfold nkDs at h
    cases h with
    | cons h1 h2 => exact .cons (vkey_rep k _ h1) (vkeys_rep ks _ h2)
end
mutual
theorem rep_vkey : ∀ (k : NK) (v : V), VKey K F k v → Rep K F (nkD k) v
  | .none, _, h => by cases h; exact .non
  | .num i, _, h => by cases h; exact .int i
  | .text x, _, h => by cases h; exact .str x
  | .tup ks, _, h => by
    cases h with
    | tup hq hr => exact .tup hq (rep_vkeys ks _ hr)
theorem rep_vkeys : ∀ (ks : List NK) (vs : List V), VKeys K F ks vs → RepL K F (nkDs ks) vs
  | [], _, h => by cases h; exact .nil
  | k :: ks, _, h => by
    cases h with
    | cons h1 h2 => exact .cons (rep_vkey k _ h1) (rep_vkeys ks _ h2)
end
noncomputable abbrev RepN (K : Frg) (F : Hp) : List (NK × D) → List (NK × V) → Prop := Paired fun p q => p.1 = q.1 ∧ Rep K F p.2 q.2
theorem RepN.val {kvs : List (NK × D)} {vs : List (NK × V)} (r : RepN K F kvs vs) (k : NK) : (valN kvs k = none ∧ valV vs k = none) ∨ ∃ d v, valN kvs k = some d ∧ valV vs k = some v ∧ Rep K F d v := by
  induction r with
  | nil => exact .inl ⟨rfl, rfl⟩
  | @cons p q ps qs h t ih =>
    obtain ⟨h1, h2⟩ := h
    by_cases e : p.1 = k
    · refine .inr ⟨p.2, q.2, ?_, valV_pos (h1.symm.trans e), h2⟩
      unfold valN
      rw [List.find?_cons]
      simp [e]
    · rw [valV_neg (fun z => e (h1.trans z))]
      have : valN (p :: ps) k = valN ps k := by
        unfold valN
        rw [List.find?_cons]
        simp [e]
      rw [this]
      exact ih
theorem RepN.any {kvs : List (NK × D)} {vs : List (NK × V)} (r : RepN K F kvs vs) (k : NK) : (kvs.any fun kv => decide (kv.1 = k)) = vs.any fun kv => decide (kv.1 = k) := by
  induction r with
  | nil => rfl
  | cons h t ih => rw [List.any_cons, List.any_cons, ih, h.1]
theorem RepN.repl {kvs : List (NK × D)} {vs : List (NK × V)} (r : RepN K F kvs vs) (k : NK) {d : D} {v : V} (h0 : Rep K F d v) : RepN K F (kvs.map fun kv => if kv.1 = k then (kv.1, d) else kv) (vs.map fun kv => if kv.1 = k then (kv.1, v) else kv) := by
  induction r with
  | nil => exact .nil
  | @cons p q ps qs h t ih =>
    rw [List.map_cons, List.map_cons]
    refine .cons ?_ ih
    obtain ⟨h1, h2⟩ := h
    by_cases e : p.1 = k
    · rw [if_pos e, if_pos (h1.symm.trans e)]; exact ⟨h1, h0⟩
    · rw [if_neg e, if_neg (fun z => e (h1.trans z))]; exact ⟨h1, h2⟩
theorem RepN.put {kvs : List (NK × D)} {vs : List (NK × V)} (r : RepN K F kvs vs) (k : NK) {d : D} {v : V} (h0 : Rep K F d v) : RepN K F (putN kvs k d) (putK vs k v) := by
  unfold putN putK
  rw [r.any k]
  split
  · exact r.repl k h0
  · exact Paired.snoc r ⟨rfl, h0⟩
/-- the table of an own dict of nested keys -/
noncomputable def TabN (K : Frg) (F : Hp) (kvs : List (NK × D)) (xs : List Ent) : Prop := ∃ vs, RepN K F kvs vs ∧ KN K F vs xs
theorem TabN.ex {kvs : List (NK × D)} {xs : List Ent} (e : Ex F F') (t : TabN K F kvs xs) : TabN K F' kvs xs :=
  let ⟨vs, r, kn⟩ := t
  ⟨vs, Paired.mapP r fun _ _ z => ⟨z.1, z.2.mono e⟩, kn.mono fun _ _ => ex_t e⟩
theorem TabN.nil : TabN K F [] [] := ⟨[], .nil, .nil⟩
theorem TabN.len {kvs : List (NK × D)} {xs : List Ent} (t : TabN K F kvs xs) : kvs.length = xs.length := let ⟨_, r, kn⟩ := t; (Paired.length r).trans (Paired.length kn)
theorem TabN.put {kvs : List (NK × D)} {xs : List Ent} (t : TabN K F kvs xs) {k : NK} {b : Addr} {d : D} {v : V} {u : Value} (hk : VKey K F k (.ref b)) (hd : k.depth ≤ 8) (rd : Rep K F d v) (rv : RelV v u) : TabN K F (putN kvs k d) (storedH xs k b u) :=
  let ⟨vs, r, kn⟩ := t
  ⟨putK vs k v, r.put k rd, kn.put k hk hd rv⟩
end
noncomputable def OwnN (P : Program) (w : World) (ms : Ms) (x : D) (xs : List Ent) : Prop := ∃ (n : Nat) (l : Addr), x = .ref l ∧ (ms[n]? = some (l, .raw (NDO P w l xs)) ∨ ∃ o, ms[n]? = some (l, .raw (.frz o (NDO P w l xs))))
theorem OwnN.to {P : Program} {w : World} {K : Frg} {F H : Hp} {ms R : Ms} {x : D} {xs : List Ent} {v : V} (i : OwnN P w ms x xs) (hh : Hold K F (ms ++ R) H) (r : Rep K F x v) : ∃ a, v = .ref a ∧ Rd H a (NDO P w a xs) := by
  obtain ⟨n, l, rfl, hn | ⟨o, hn⟩⟩ := i
  · cases r
    exact ⟨l, rfl, .inl (hh.at (get_app hn)).2⟩
  · cases r
    exact ⟨l, rfl, .inr ⟨o, (hh.at (get_app hn)).2⟩⟩
section
variable {P : Program} {w : World} {Γ : Cg} {K : Frg} {F : Hp} {ms : Ms} {S : Sg} {Q : QE} {td ty tv tx te tk : TE} {ts : TS} {A : AEnds}
/-- the lock goes -/
noncomputable def unlN (P : Program) (w : World) (l : Addr) (xs : List Ent) (od : Obj) (ms : Ms) (G : Ms → Prop) : Prop := ∃ m : Nat, ms[m]? = some (l, .raw (.frz od (NDO P w l xs))) ∧ G (ms.set m (l, .raw (NDO P w l xs)))
end
end AL

set_option Elab.async false
set_option linter.all false
set_option maxRecDepth 100000
set_option maxHeartbeats 4000000
/-! comprehensions, min, sorted: nested dicts in data -/
namespace AL
open PySem L2 PyProof.Rows ND
section
variable {P : Program} {w : World} {Γ : Cg} {K : Frg} {F : Hp} {ms : Ms} {S : Sg} {Q : QE} {td ty tv tx te tk : TE} {tt tt1 : TT} {g g1 : TG} {wi wi1 : TI} {vs vs1 : List Nat}
end
end AL

set_option Elab.async false
set_option linter.all false
set_option maxRecDepth 100000
set_option maxHeartbeats 4000000
/-! alike data compared, tuple * int -/
namespace AL
open PySem L2 PyProof.Rows
noncomputable def rLtD (K : Frg) : R2 := fun x y H Q => ∃ a b : PyData, Dp K H x a ∧ Dp K H y b ∧ PySem.W.alike a b = true ∧ a ≠ .none ∧ a.depth ≤ 8 ∧ Q (.bl (PySem.W.dataLt a b)) H
noncomputable def rLeD (K : Frg) : R2 := fun x y H Q => ∃ a b : PyData, Dp K H x a ∧ Dp K H y b ∧ PySem.W.alike a b = true ∧ a ≠ .none ∧ a.depth ≤ 8 ∧ Q (.bl (!PySem.W.dataLt b a)) H
section
variable {X : Cx}
end
section
variable {K : Frg} {F : Hp} {ms : Ms} {Q : QE}
end
end AL

set_option Elab.async false
set_option linter.all false
set_option maxRecDepth 100000
set_option maxHeartbeats 4000000
/-! min of a list of alike data -/
namespace ND
open PySem PySem.Spec PyProof.Rows L2 PySem.W
section
variable {X : Cx}
noncomputable def rMinLD (K : PySem.W.Frag) : List V → Hp → VK → Prop := fun vs H Q => ∃ (a : Addr) (xs : List V) (d : PyData) (ds : List PyData), vs = [V.ref a] ∧ SqL K H a xs ∧ DpAll K H xs (d :: ds) ∧ AlikeAll (d :: ds) ∧ PyData.depthAll (d :: ds) ≤ 8 ∧
  ∀ (i : Nat) (v : V), xs[i]? = some v → (d :: ds).getD i .none = minD d ds → Q v H
end
end ND
namespace AL
open PySem L2 PyProof.Rows ND
end AL

set_option Elab.async false
set_option linter.all false
set_option maxRecDepth 100000
set_option maxHeartbeats 4000000
/-! lambdas kept in lists, called by defs that got the list: the maker's captured cells are told by a base that is the heap of the call's start -/
namespace LamZ
open PySem PySem.Spec PySem.W PyProof.Rows L2 LamX LamY
/-! ### the heap at a call's start, without what is tracked and without the frames -/
noncomputable def hid (H : Hp) (fs : List Addr) (n : Nat) : List Addr := fs ++ (List.range n).filter fun b => (H b).isSome
noncomputable def snap (s : Shared) (H : Hp) (fs : List Addr) : Heap := hideAll s.heap (hid H fs s.heap.objs.size)
section
variable {s : Shared} {H : Hp} {fs : List Addr} {b : Addr} {o : Obj}
end
section
variable {X : Cx} {pins : List (Addr × Obj)} {σ : L2.St} {H : Hp} {s : Shared}
/-- names of a lambda: captured ones, globals, parameters that are no names of the maker -/
structure LamN (sc : Scope) (N : List Str) (scope : Scope) : Prop where
  kind : scope.kind = .function
  co : scope.isCoroutine = false
  gen : scope.isGenerator = false
  own : ∀ y ∈ scope.names, y.2 ≠ .cell ∧ (y.2 = .local → y.1 ∉ N)
  free : ∀ y ∈ scope.names, y.2 = .free → sc.names.lookup y.1 = some .cell ∨ sc.names.lookup y.1 = some .free
noncomputable def lamNB (sc : Scope) (N : List Str) (scope : Scope) : Bool :=
  decide (scope.kind = .function) && (!scope.isCoroutine && (!scope.isGenerator && scope.names.all fun y => (!decide (y.2 = .cell) && (!decide (y.2 = .local) || !decide (y.1 ∈ N))) && ((!decide (y.2 = .free) || decide (sc.names.lookup y.1 = some .cell)) || decide (sc.names.lookup y.1 = some .free))))
theorem LamN.caught {scope : Scope} (L : LamN X.env.scope X.N scope) (ok : X.Ok) : ∀ y ∈ scope.names, y.2 = .free → ∃ c, X.env.cells.lookup y.1 = some c := fun y hy e => ok.has _ (L.free y hy e)
end
section
variable {X : Cx} {pins : List (Addr × Obj)} {σ : L2.St} {H HZ : Hp} {s s1 : Shared}
end
/-! ### the function object, and what is known of it -/
noncomputable def lamObj (X : Cx) (params : Arguments) (body : Expr) (scope : Scope) (dV doc pm : Value) (c' : Addr) (ctv : Value) : Obj := kdv_obj "<lambda>" (X.env.qual ++ "<lambda>") params (.expr body) scope (cloFrom X.env.cells scope.names []) dV doc pm c' ctv
noncomputable def LamO (f : Addr) (o : Obj) : HO := .ext fun h => h.get? f = some o
/-- a lambda whose body is read: tb is its reading -/
structure LamOk (X : Cx) (k : Nat) (params : Arguments) (body : Expr) (scope : Scope) (dflt : Bool) (tb : XK → TE) : Prop where
  names : LamN X.env.scope X.N scope
  bind0 : dflt = false → ∀ (q : Str) (cl : List (Str × Addr)) (doc pm cv ctv : Value), bindArgs (kdv_fn "<lambda>" q params (.expr body) scope cl .none doc pm cv ctv) ⟨[], []⟩ = pure []
  bind1 : dflt = true → ∃ a : Str, scope.names.lookup a = some .local ∧ ∀ (q : Str) (cl : List (Str × Addr)) (dt : Addr) (doc pm cv ctv v : Value), ∃ kk, bindArgs (kdv_fn "<lambda>" q params (.expr body) scope cl (.ref dt) doc pm cv ctv) ⟨[], []⟩ = seqItems? (.ref dt) >>= kk ∧ kk (some #[v]) = pure [(a, v)]
  run : ∀ (A : Around) (outer : List Env) (s : Shared) (H : Hp) (E : XK) (f c' : Addr), Room k (A.deeper (lamEnv X scope s.heap.objs.size f c')) → PE (lamCx X A outer s H E scope f c') body (tb E)
/-- f is such a lambda -/
noncomputable def LamH (X : Cx) (k : Nat) (tb : XK → TE) (H : Hp) (f : Addr) : Prop := ∃ (params : Arguments) (body : Expr) (scope : Scope) (dflt : Bool) (c' : Addr) (dV doc pm ctv : Value), LamOk X k params body scope dflt tb ∧
  H f = some (LamO f (lamObj X params body scope dV doc pm c' ctv)) ∧ H c' = some (CodeO c' (X.env.qual ++ "<lambda>")) ∧ (dflt = false → dV = .none) ∧ (dflt = true → ∃ dt, dV = .ref dt ∧ H dt = some (.tup [V.int 0]))
theorem LamH.ex {X : Cx} {k : Nat} {tb : XK → TE} {H H' : Hp} {f : Addr} (e : ∀ b o, H b = some o → H' b = some o) : LamH X k tb H f → LamH X k tb H' f := fun ⟨a, b, c, d, e', f', g, h, i, p1, p2, p3, p4, p5⟩ =>
  ⟨a, b, c, d, e', f', g, h, i, p1, e _ _ p2, e _ _ p3, p4, fun z => let ⟨dt, q1, q2⟩ := p5 z; ⟨dt, q1, e _ _ q2⟩⟩
section
variable {X : Cx} {pins : List (Addr × Obj)} {σ : L2.St} {H : Hp} {s : Shared}
end
/-! ### the making -/
noncomputable def dflH (H : Hp) : Option Addr → Hp
  | none => H
  | some dt => upd H dt (.tup [V.int 0])
noncomputable def codH (P : Addr) (q : Str) (ps : Array Value) (H : Hp) : Option (Pos × Addr) → Hp
  | none => H
  | some g => upd (upd H P (.tbl (ps ++ #[rawInt g.1.line, rawInt g.1.col, .ref g.2]))) g.2 (CodeO g.2 q)
noncomputable def tLamE (X : Cx) (k : Nat) (P : Addr) (tb : XK → TE) : TE := fun _ H Q => ∃ ps, H P = some (.tbl ps) ∧ TabK H ps (X.env.qual ++ "<lambda>") ∧
  ∀ (d : Option Addr) (g : Option (Pos × Addr)) (f : Addr) (u : HO), (∀ dt, d = some dt → H dt = none) → (∀ g', g = some g' → dflH H d g'.2 = none) → codH P (X.env.qual ++ "<lambda>") ps (dflH H d) g f = none →
    (∀ F1 : Hp, F1 f = some u → (∀ dt, d = some dt → F1 dt = some (.tup [V.int 0])) → (∀ pos c0, codeAmong pos ps.toList = some (.ref c0) → F1 c0 = some (CodeO c0 (X.env.qual ++ "<lambda>"))) → (∀ g', g = some g' → F1 g'.2 = some (CodeO g'.2 (X.env.qual ++ "<lambda>"))) → LamH X k tb F1 f) →
    Q (.ref f) (upd (codH P (X.env.qual ++ "<lambda>") ps (dflH H d) g) f u)
section
variable {X : Cx}
/-! ### a call of a def that runs over the snapshot -/
noncomputable def tCallR (sp : L2.St → Sp) (E : XK) (ta : TA) : TE := fun σ H Q => ta σ H fun vs H1 => sp σ vs H1 Q E
variable {CX : CXT} {x : Str} {k : Nat} {g : Addr} {fd : FuncData} {ps : List Str} {sp : L2.St → Sp} {E : XK} {e : Expr} {es : List Expr} {t : TA} {p pos : Pos}
end
end LamZ

set_option Elab.async false
set_option linter.all false
set_option maxRecDepth 100000
set_option maxHeartbeats 4000000
/-! lambdas in lists, told in data -/
namespace LamZ
open PySem PySem.Spec PySem.W PyProof.Rows L2 LamX LamY
/-- a context with another base, other rooms, other frames -/
noncomputable def xcx (X : Cx) (base : Heap) (A : Around) (stack : List Env) : Cx := { X with base := base, A := A, stack := stack }
end LamZ
namespace AL
open PySem PySem.Spec PyProof.Rows L2 LamX LamY LamZ
section
variable {Γ : Cg} {F : Hp} {ms : Ms} {S : Sg} {Q : QE} {ta : TA}
end
/-- a def that calls what it got and tells the error: its promise for lambdas kept in a list -/
noncomputable def spErr (K : Frg) (X : Cx) (k : Nat) (RR : Addr → List (Str × D) → D → Prop) (σ : L2.St) : ASp := fun ds F ms Q _ => ∃ (f : Addr) (tb : XK → TE) (S : Sg), ds = [.ref f] ∧ LamH X k tb F f ∧ SRep K F S σ ∧
  ∀ E : XK, AE ⟨K, E, fun C' fs F' ms' => ∃ res, RR C' fs res ∧ ∀ F2, Ex F' F2 → Q F2 ms' res⟩ (tb E) F ms S fun F' ms' _ => ∀ F2, Ex F' F2 → Q F2 ms' .non
/-- all of them raise the expected error -/
noncomputable def spAll (K : Frg) (X : Cx) (k : Nat) (RR : Addr → List (Str × D) → D → Prop) (σ : L2.St) : ASp := fun ds F ms Q _ => ∃ (d ex : D) (fs : List Addr) (J : Hp → Ms → Prop), ds = [d, ex] ∧ fs.length ≤ 100 ∧ okD ex = true ∧ dep ex ≤ 8 ∧ (∀ F' ms', Ex F F' → J F' ms' → LstA F' ms' d (fs.map D.ref)) ∧
  J F ms ∧ (∀ F' F2 ms', Ex F F' → Ex F' F2 → J F' ms' → J F2 ms') ∧ (∀ f ∈ fs, ∀ F' ms', Ex F F' → J F' ms' → spErr K X k RR σ [.ref f] F' ms' (fun F2 ms2 d2 => d2 = ex ∧ J F2 ms2) fun _ _ _ _ => False) ∧ ∀ F' ms', Ex F F' → J F' ms' → Q F' ms' (.bl true)
section
variable {X : Cx} {pins : List (Addr × Obj)} {σ : L2.St} {H : Hp} {s : Shared} {K : Frg}
end
end AL

set_option Elab.async false
set_option linter.all false
set_option maxRecDepth 100000
set_option maxHeartbeats 4000000
/-! the rest of a def is never reached; generator defs that raise -/
namespace L2
open PySem PySem.Spec PyProof.Rows GenW
/-- what a list() of a generator may let go out: no StopIteration -/
noncomputable def nsE (K : PySem.W.Frag) (E : XK) : XK := fun cls d H => PySem.W.subIn K cls (.type "StopIteration") = some false ∧ E cls d H
end L2
namespace AL
open PySem L2
noncomputable abbrev AGpX := List D → Hp → Ms → (Hp → Ms → List D → Prop) → XA → Prop
noncomputable def toSpGX (K : Frg) (sp : AGpX) : SpG := fun vs H Q E => ∃ F ms R ds Qa Ea, Hold K F (ms ++ R) H ∧ RepL K F ds vs ∧ sp ds F ms Qa Ea ∧ (∀ F' ms' ys vs' H', Ex F F' → Hold K F' (ms' ++ R) H' → RepL K F' ys vs' → Qa F' ms' ys → Q vs' H') ∧ XLe ⟨K, E, Ea⟩ R F
section
variable {Γ : Cg} {K : Frg} {F : Hp} {ms : Ms} {S : Sg} {ta : TA} {Q : QE}
end
section
variable {P : Program} {w : World} {K : Frg} {mg : Str → Option Value} {base : Heap}
end
end AL

set_option Elab.async false
set_option linter.all false
set_option maxRecDepth 100000
set_option maxHeartbeats 4000000
/-! an except suite that ends by a bare raise; unpacking while an exception is handled -/
namespace HotX
open PySem PySem.Spec PyProof.Rows
section
variable {prog : Program} {w : World} {A : Around} {E : Value → Shared → Prop} {s : Shared}
end
end HotX
namespace L2
open PySem PySem.Spec PyProof.Rows HotX
section
variable {X : Cx}
/-- o.f = .. as a part of a target -/
noncomputable def gFld (K : PySem.W.Frag) (ta : TE) (f : Str) : TG := fun y σ H Q => ta σ H fun x H2 => ∃ a C dx fs, x = .ref a ∧ H2 a = some (.ins C dx fs) ∧ Cls K C ∧ NoAttr K C f ∧ fs.length < 1000 ∧ Q σ (upd H2 a (.ins C dx (putF f y fs)))
end
/-! ### exceptions without a context are exceptions -/
/-! ### method calls, the wish by the slots -/
noncomputable def tMethE (C : Addr) (m : Str) (sp : Sp) (E : L2.St → XK) (ta : TE) (t : TA) : TE := fun σ H Q => ta σ H fun x H1 => ∃ a dx fs, x = .ref a ∧ H1 a = some (.ins C dx fs) ∧ fs.lookup m = none ∧ t σ H1 fun vs H2 => sp (.ref a :: vs) H2 Q (E σ)
section
variable {X : Cx} {CX : CXT} {k : Nat} {C f : Addr} {m : Str} {sp : Sp} {fd : FuncData} {ps : List Str} {E : L2.St → XK} {o e : Expr} {es : List Expr} {ta : TE} {t : TA} {apos pos : Pos}
end
/-! ### try: body / except X: suite, which may end by a bare raise -/
/-- the context of the suite -/
noncomputable abbrev suiteR (X : Cx) (a : Addr) (pn : List (Addr × Obj)) : Cx := { X with A := X.A.mark (some (.ref a)), calm := false, pn := pn }
section
variable {X : Cx} {x : Str} {c : Value} {body suite : List Stmt} {b₀ : Stmt} {np pos pos' : Pos} {tb : WX → TS} {ts : Addr → Value → Option Addr → TS} {Wout : WX}
end
end L2

set_option Elab.async false
set_option linter.all false
set_option maxRecDepth 100000
set_option maxHeartbeats 4000000
/-! try / except with a bare raise, told in data -/
namespace AL
open PySem PySem.Spec PyProof.Rows L2
noncomputable abbrev XW := Addr → List (Str × D) → Hp → Ms → Sg → Prop
/-- what a try's body wishes of an exception, by the slots -/
noncomputable def WLe (K : Frg) (R : Ms) (F : Hp) (W : WX) (Ew : XW) : Prop := ∀ F' ms' S' σ' C dx fs H', Ex F F' → SRep K F' S' σ' → Hold K F' (ms' ++ R) H' → XDat K F' H' dx fs → Ew C fs F' ms' S' → W (.ref C) dx σ' H'
theorem WLe.ex {K : Frg} {R : Ms} {F F' : Hp} {W : WX} {Ew : XW} (x : WLe K R F W Ew) (e : Ex F F') : WLe K R F' W Ew := fun F2 ms' S' σ' C dx fs H' e2 => x F2 ms' S' σ' C dx fs H' (e.trans e2)
noncomputable def ASW (Γ : Cg) (tb : WX → TS) (Ew : XW) (F : Hp) (ms : Ms) (S : Sg) (A : AEnds) : Prop := ∀ W (R : Ms) (E : Ends) σ H, SRep Γ.K F S σ → Hold Γ.K F (ms ++ R) H → Le Γ R F A E → WLe Γ.K R F W Ew → tb W E σ H
noncomputable def AEW (Γ : Cg) (te : WX → TE) (Ew : XW) (F : Hp) (ms : Ms) (S : Sg) (Q : QE) : Prop := ∀ W (R : Ms) σ H (Qc : VK), SRep Γ.K F S σ → Hold Γ.K F (ms ++ R) H → XLe Γ R F → WLe Γ.K R F W Ew → (∀ F' ms' d v H', Ex F F' → Hold Γ.K F' (ms' ++ R) H' → Rep Γ.K F' d v → Q F' ms' d → Qc v H') → te W σ H Qc
section
variable {Γ : Cg} {F : Hp} {ms : Ms} {S : Sg} {Q : QE} {ta : TE} {A : AEnds} {Ew : XW} {tb tb2 : WX → TS} {te : WX → TE} {g : TG} {wi : TI}
/-- the try -/
noncomputable def tTryRe (K : Frg) (E : XK) (c : Value) (ts : Addr → Value → Option Addr → TS) (tb : WX → TS) : TS := fun D σ H => tb (wOnly K c ts (fun cls d _ H => E cls d H) D) D σ H
end
section
variable {P : Program} {w : World} {K : Frg} {mg : Str → Option Value} {base : Heap}
end
end AL
namespace L2
open PySem PySem.Spec PyProof.Rows
section
variable {X : Cx} {K : AL.Frg} {E : XK} {x : Str} {c : Value} {body suite : List Stmt} {b₀ : Stmt} {np pos pos' : Pos} {tb : WX → TS} {ts : Addr → Value → Option Addr → TS}
end
end L2

set_option Elab.async false
set_option linter.all false
set_option maxRecDepth 100000
set_option maxHeartbeats 4000000
/-! defs with a star parameter that may raise -/
namespace L2
open PySem PySem.Spec PyProof.Rows
end L2
namespace AL
open PySem PySem.Spec L2 PyProof.Rows
section
variable {P : Program} {w : World} {K : Frg} {mg : Str → Option Value} {base : Heap}
end
end AL

set_option Elab.async false
set_option linter.all false
set_option maxRecDepth 100000
set_option maxHeartbeats 4000000
/-! exceptions that leave a list comprehension; errors with attributes whose context is None -/
namespace L2N
open PySem PySem.Spec PyProof.Rows L2
section
variable {X : Cx}
end
end L2N
namespace L2
open PySem PySem.Spec PyProof.Rows
/-- an exception in flight out of a callee -/
noncomputable def XEF (X : Cx) (Wx : XK) (u : Value) (s' : Shared) : Prop :=
  ∃ (a : Addr) (B : Heap) (sI : Shared) (pins : List (Addr × Obj)) (σ : L2.St) (H : Hp) (cls : Value) (d : Option Addr),
    u = .ref a ∧ Inv X pins σ H sI ∧ (∀ b o, sI.heap.get? b = some o → b ∉ frs X.stack → B.get? b = some o) ∧ sI.heap.UpToSlots s'.heap ∧
      HandSPX.FlyingZ B X.stack a (L2N.Zn cls d) s'.heap ∧ H a = none ∧ s'.os = sI.os ∧ AllBare s'.gens ∧ Wx cls d H
/-- a comprehension's block whose element may raise -/
noncomputable abbrev Cx.blkN (X : Cx) (s : Shared) (H : Hp) (scope : Scope) (cenv : Env) (fp : List Addr) (Wx : XK) : Cx := { X with s_0 := s, H_0 := H, env := cenv, outer := X.stack, ex := fp, fn := fun x => scope.names.lookup x == some .cell, pn := [], xe := XEF (X.blk s H scope cenv fp) Wx }
section
variable {X : Cx} {pins : List (Addr × Obj)} {σ : L2.St} {H : Hp} {s : Shared}
end
end L2

set_option Elab.async false
set_option linter.all false
set_option maxRecDepth 100000
set_option maxHeartbeats 4000000
/-! comprehensions whose element may raise, told in data -/
namespace L2
open PySem PySem.Spec PyProof.Rows
section
variable {X : Cx}
/-- .. in a try's body -/
noncomputable def tLcW (wi : TI) (g : TG) (tt : TT) (te : XK → TE) (vs : List Nat) (W : WX) : TE := fun σ H Q => tLc wi g tt (te fun cls d H' => W cls d σ H') vs σ H Q
end
end L2
namespace AL
open PySem PySem.Spec PyProof.Rows L2
section
variable {Γ : Cg} {K : Frg} {F : Hp} {ms : Ms} {S : Sg} {Q : QE} {ta te : TE} {tt : TT} {g : TG} {wi : TI} {vs : List Nat} {Ew : XW}
end
end AL

set_option Elab.async false
set_option linter.all false
set_option maxRecDepth 100000
set_option maxHeartbeats 4000000
/-! three names stored at once -/
namespace AL
open PySem PySem.Spec PyProof.Rows L2
variable {Γ : Cg} {F : Hp} {ms : Ms} {S : Sg} {A : AEnds}
end AL

set_option Elab.async false
set_option linter.all false
set_option maxRecDepth 100000
set_option maxHeartbeats 4000000
/-! match over tuples whose parts are words and names -/
namespace L2
open PySem PySem.Spec PyProof.Rows
/-- a part of a pattern: a word, a name, or one of some words under a name -/
inductive IP where
  | val (z : Str)
  | cap (i : Nat)
  | alt (z1 z2 : Str) (i : Nat)
noncomputable abbrev Bs := List (Nat × V)
noncomputable def IP.wp : IP → V → (Option Bs → Prop) → Prop
  | .val z, v, k => scal v (.str z) = true ∧ k (if v = .str z then some [] else none)
  | .cap i, v, k => k (some [(i, v)])
  | .alt z1 z2 i, v, k => scal v (.str z1) = true ∧ scal v (.str z2) = true ∧ k (if v = .str z1 ∨ v = .str z2 then some [(i, v)] else none)
noncomputable def wps : List IP → List V → (Option Bs → Prop) → Prop
  | [], _, k => k (some [])
  | p :: ps, v :: vs, k => p.wp v fun r => match r with
    | none => k none
    | some bs => wps ps vs fun r' => match r' with
      | none => k none
      | some more => k (some (bs ++ more))
  | _ :: _, [], _ => False
noncomputable def putB (σ : St) : Bs → St
  | [] => σ
  | p :: bs => putB (σ.set p.1 (some p.2)) bs
noncomputable def tCases : List (List IP × TS) → List V → TS
  | [], _ => fun D σ H => D.nx σ H
  | (ips, t) :: r, vs => fun D σ H => if vs.length = ips.length then wps ips vs fun o => match o with
      | none => tCases r vs D σ H
      | some bs => t D (putB σ bs) H
    else tCases r vs D σ H
noncomputable def tMatch (K : PySem.W.Frag) (te : TE) (ts : List (List IP × TS)) : TS := fun D σ H => te σ H fun v H1 => ∃ a xs, v = .ref a ∧ SqT K H1 a xs ∧ tCases ts xs D σ H1
inductive BR (X : Cx) : Bs → List (Str × Value) → Prop
  | nil : BR X [] []
  | cons {i : Nat} {v : V} {x : Str} {u : Value} {bs : Bs} {cs : List (Str × Value)} : X.N[i]? = some x → Loc X.env.scope x → (X.fn x = true ∨ X.env.scope.names.lookup x = some .local) → RelV v u → BR X bs cs → BR X ((i, v) :: bs) ((x, u) :: cs)
inductive BRo (X : Cx) : Option Bs → Option (List (Str × Value)) → Prop
  | no : BRo X none none
  | yes {b : Bs} {c : List (Str × Value)} : BR X b c → BRo X (some b) (some c)
theorem BRo.get {X : Cx} {b : Bs} {c : List (Str × Value)} (h : BRo X (some b) (some c)) : BR X b c := by
  cases h with
  | yes h => exact h
structure PMi (X : Cx) (p : Pattern) (ip : IP) : Prop where
  star : p.isStar = false
  run : ∀ (pins : List (Addr × Obj)) (s : Shared) (σ : St) (H : Hp) (v : V) (u : Value) (k : Option Bs → Prop) (Q : Option (List (Str × Value)) → Shared → Prop), Inv X pins σ H s → RelV v u → ip.wp v k →
    (∀ r r' s', Inv X pins σ H s' → BRo X r r' → k r → Q r' s') → wpAny (model X.prog X.w) X.A (matchPattern p X.env u) Q X.xe s
section
variable {X : Cx}
inductive PMs (X : Cx) : List Pattern → List IP → Prop
  | nil : PMs X [] []
  | cons {p : Pattern} {ip : IP} {ps : List Pattern} {ips : List IP} : PMi X p ip → PMs X ps ips → PMs X (p :: ps) (ip :: ips)
theorem PMs.length {ps : List Pattern} {ips : List IP} (h : PMs X ps ips) : ps.length = ips.length := by
  induction h with
  | nil => rfl
  | cons _ _ ih => rw [List.length_cons, List.length_cons, ih]
inductive MCs (X : Cx) : List MatchCase → List (List IP × TS) → Prop
  | nil : MCs X [] []
  | cons {ps : List Pattern} {ips : List IP} {pos : Pos} {body : List Stmt} {t : TS} {rest : List MatchCase} {ts : List (List IP × TS)} : PMs X ps ips → ps.findIdx? (·.isStar) = none → (ps.all fun p => p.isWildcard || (p.isStar && p.names.isEmpty)) = false → PSs X body t → MCs X rest ts →
    MCs X (⟨.MatchSequence ps pos, none, body⟩ :: rest) ((ips, t) :: ts)
end
end L2

set_option Elab.async false
set_option linter.all false
set_option maxRecDepth 100000
set_option maxHeartbeats 4000000
/-! match, told in data -/
namespace AL
open PySem PySem.Spec PyProof.Rows L2
noncomputable abbrev DB := List (Nat × D)
noncomputable def dp1 : IP → D → (Option DB → Prop) → Prop
  | .val z, d, k => (∃ y, d = .str y ∧ k (if y = z then some [] else none)) ∨ ((d = .non ∨ (∃ b, d = .bl b) ∨ ∃ i, d = .int i) ∧ k none)
  | .cap i, d, k => k (some [(i, d)])
  | .alt z1 z2 i, d, k => (∃ y, d = .str y ∧ k (if y = z1 ∨ y = z2 then some [(i, d)] else none)) ∨ ((d = .non ∨ (∃ b, d = .bl b) ∨ ∃ i, d = .int i) ∧ k none)
noncomputable def dps : List IP → List D → (Option DB → Prop) → Prop
  | [], _, k => k (some [])
  | p :: ps, d :: ds, k => dp1 p d fun r => match r with
    | none => k none
    | some bs => dps ps ds fun r' => match r' with
      | none => k none
      | some more => k (some (bs ++ more))
  | _ :: _, [], _ => False
noncomputable def putM (S : Sg) : DB → Sg
  | [] => S
  | p :: bs => putM (S.set p.1 (some p.2)) bs
/-- the cases of a match on the tuple of ds -/
noncomputable def AMs (Γ : Cg) : List (List IP × TS) → List D → Hp → Ms → Sg → AEnds → Prop
  | [], _, F, ms, S, A => A.nx F ms S
  | (ips, t) :: r, ds, F, ms, S, A => if ds.length = ips.length then dps ips ds fun o => match o with
      | none => AMs Γ r ds F ms S A
      | some bs => AS Γ t F ms (putM S bs) A
    else AMs Γ r ds F ms S A
inductive RB (K : Frg) (F : Hp) : DB → Bs → Prop
  | nil : RB K F [] []
  | cons {i : Nat} {d : D} {v : V} {a : DB} {b : Bs} : Rep K F d v → RB K F a b → RB K F ((i, d) :: a) ((i, v) :: b)
inductive RBo (K : Frg) (F : Hp) : Option DB → Option Bs → Prop
  | no : RBo K F none none
  | yes {a : DB} {b : Bs} : RB K F a b → RBo K F (some a) (some b)
theorem RB.put {K : Frg} {F : Hp} {a : DB} {b : Bs} (h : RB K F a b) : ∀ {S : Sg} {σ : L2.St}, SRep K F S σ → SRep K F (putM S a) (putB σ b) := by
  induction h with
  | nil => intro S σ hs; exact hs
  | cons r _ ih => intro S σ hs; exact ih (hs.set r)
variable {Γ : Cg} {F : Hp} {ms : Ms} {S : Sg} {A : AEnds}
end AL

set_option Elab.async false
set_option linter.all false
set_option maxRecDepth 100000
set_option maxHeartbeats 4000000
/-! get of a written dict of the module -/
namespace L2
open PySem PySem.Spec PyProof.Rows
noncomputable def IsK (K : PySem.W.Frag) (w : World) (a : Addr) : Prop := ∃ es n, K.lookup a = some ⟨.type "dict", none, .dict es n, #[]⟩ ∧ PySem.W.KeysLit w.params es.toList ∧ (a == sysModules) = false
/-- what stands at a key, or that nothing does -/
noncomputable def KAt (K : PySem.W.Frag) (a : Addr) (z : Str) : Option V → Prop
  | none => PySem.W.nsIn K a z = some none
  | some v => ∃ u, PySem.W.nsIn K a z = some (some u) ∧ RelV v u
noncomputable def tKGet2 (K : PySem.W.Frag) (w : World) (td ty tx : TE) : TE := fun σ H Q => td σ H fun x H1 => ∃ a, x = .ref a ∧ IsK K w a ∧ ty σ H1 fun y H2 => tx σ H2 fun z H3 => ∃ (k : Str) (o : Option V), y = .str k ∧ KAt K a k o ∧ Q (o.getD z) H3
section
variable {X : Cx} {o e f : Expr} {apos cpos : Pos} {td ty tx : TE}
end
end L2

set_option Elab.async false
set_option linter.all false
set_option maxRecDepth 100000
set_option maxHeartbeats 4000000
/-! dict displays, told in data -/
namespace AL
open PySem PySem.Spec PyProof.Rows L2
inductive RepP (K : Frg) (F : Hp) : List (D × D) → List (V × V) → Prop
  | nil : RepP K F [] []
  | cons {x y : D} {u v : V} {ds : List (D × D)} {vs : List (V × V)} : Rep K F x u → Rep K F y v → RepP K F ds vs → RepP K F ((x, y) :: ds) ((u, v) :: vs)
theorem rep_key {K : Frg} {F : Hp} {k : Key} {v : V} (h : Rep K F (kD k) v) : v = kV k := by
  cases k <;> cases h <;> rfl
theorem RepP.to {K : Frg} {F : Hp} : ∀ {kvs : List (Key × D)} {vs : List (V × V)}, RepP K F (kvs.map fun kv => (kD kv.1, kv.2)) vs → ∃ ws : List (Key × V), vs = ws.map (fun kv => (kV kv.1, kv.2)) ∧ RepK K F kvs ws
  | [], _, .nil => ⟨[], rfl, .nil⟩
  | (k, d) :: r, _, .cons h1 h2 h3 => by
    obtain ⟨ws, rfl, rk⟩ := RepP.to h3
    obtain rfl := rep_key h1
    exact ⟨(k, _) :: ws, rfl, .cons h2 rk⟩
/-- the pairs of a display -/
noncomputable def AP (Γ : Cg) (trs : List (TE × TE)) (F : Hp) (ms : Ms) (S : Sg) (Q : Hp → Ms → List (D × D) → Prop) : Prop := ∀ (R : Ms) σ H (Qc : List (V × V) → Hp → Prop), SRep Γ.K F S σ → Hold Γ.K F (ms ++ R) H → XLe Γ R F →
  (∀ F' ms' ps vs H', Ex F F' → Hold Γ.K F' (ms' ++ R) H' → RepP Γ.K F' ps vs → Q F' ms' ps → Qc vs H') → tPairs trs σ H Qc
variable {Γ : Cg} {F : Hp} {ms : Ms} {S : Sg}
theorem RepP.mono {K : Frg} {F F' : Hp} (e : Ex F F') {ds : List (D × D)} {vs : List (V × V)} (h : RepP K F ds vs) : RepP K F' ds vs := by
  induction h with
  | nil => exact .nil
  | cons h1 h2 _ ih => exact .cons (h1.mono e) (h2.mono e) ih
end AL

set_option Elab.async false
set_option linter.all false
set_option maxRecDepth 100000
set_option maxHeartbeats 4000000
/-! get of a module's dict of ints, told in data -/
namespace AL
open PySem PySem.Spec PyProof.Rows L2
variable {Γ : Cg} {F : Hp} {ms : Ms} {S : Sg} {Q : QE}
end AL

set_option Elab.async false
set_option linter.all false
set_option maxRecDepth 100000
set_option maxHeartbeats 4000000
/-! a comprehension whose element may raise, in a try's body -/
namespace L2
open PySem PySem.Spec PyProof.Rows
end L2

set_option Elab.async false
set_option linter.all false
set_option maxRecDepth 100000
set_option maxHeartbeats 4000000
/-! owned objects reordered or forgotten -/
namespace AL
open PySem PySem.Spec PyProof.Rows L2
theorem Hold.sub {K : Frg} {F H : Hp} {ms ms2 G : Ms} (h : Hold K F ms H) (p : ms.Perm (ms2 ++ G)) : Hold K F ms2 H := by
  have h := h.perm p.symm
  refine ⟨h.ex, fun q hq => h.own q (List.mem_append_left _ hq), ?_⟩
  have hn := h.nd
  rw [List.map_append, List.nodup_append] at hn
  exact hn.1
/-- up to order and forgotten objects -/
noncomputable def UpQ (Q : QE) : QE := fun F ms d => ∃ ms2 G, ms.Perm (ms2 ++ G) ∧ Q F ms2 d
noncomputable def UpX (Ea : XA) : XA := fun C fs F ms => ∃ ms2 G, ms.Perm (ms2 ++ G) ∧ Ea C fs F ms2
section
variable {K : Frg} {F : Hp} {ms ms2 G R : Ms} {S : Sg} {Q : QE} {E : XK} {Ea : XA} {t : TS} {te : TE} {A : AEnds} {Γ : Cg}
end
end AL

set_option Elab.async false
set_option linter.all false
set_option maxRecDepth 100000
set_option maxHeartbeats 4000000
/-! list() : of a text, owned; of an owned list, frozen -/
namespace AL
open PySem PySem.Spec PyProof.Rows L2
section
variable {K : Frg} {F : Hp} {ms : Ms} {Q : QE}
end
end AL

set_option Elab.async false
set_option linter.all false
set_option maxRecDepth 100000
set_option maxHeartbeats 4000000
/-! b is c for bools; d == e for dicts; a board's or another object's place told in the middle -/
namespace AL
open PySem PySem.Spec PyProof.Rows L2
noncomputable def rISB : R2 := fun x y H Q => ∃ b c, x = .bl b ∧ y = .bl c ∧ Q (.bl (decide (b = c))) H
noncomputable def rNOTB : R2 := fun x y H Q => ∃ b c, x = .bl b ∧ y = .bl c ∧ Q (.bl (!decide (b = c))) H
section
variable {K : Frg} {F : Hp} {ms : Ms} {Q : QE}
noncomputable def rEQD (K : Frg) : R2 := fun x y H Q => rEqDA x y H Q
end
end AL

set_option Elab.async false
set_option linter.all false
set_option maxRecDepth 100000
set_option maxHeartbeats 4000000
/-! x(..) of a name that holds a class; class methods; a try with a named handler that is never reached -/
namespace L2
open PySem PySem.Spec PyProof.Rows
section
variable {X : Cx} {CX : CXT} {k : Nat} {f C : Addr} {fd : FuncData} {ps : List Str} {sp : Sp} {E : XK} {x : Str} {p pos : Pos} {e : Expr} {es : List Expr} {t : TA} {dvs : List V} {ds : List Value}
/-- x(..), x a local name -/
noncomputable def tMakeV (i : Nat) (C : Addr) (sp : Sp) (dvs : List V) (E : XK) (t : TA) : TE := fun σ H Q => tVar i σ H fun v H' => v = .ref C ∧ tMake C sp dvs E t σ H' Q
theorem FnOk.met {P : Program} {w : World} {K : PySem.W.Frag} {mg : Str → Option Value} {base : Heap} (F : FnOk P w K mg base CX k f fd ps sp) (hb : Binds K fd ps []) : FnR P w K mg base CX k f sp :=
  (F.raw hb .nil).imp fun vs H Q E h => by rw [List.append_nil]; exact h
end
end L2
namespace AL
open PySem PySem.Spec PyProof.Rows L2
section
variable {Γ : Cg} {F : Hp} {ms : Ms} {S : Sg} {Q : QE} {ta : TE} {ta' : TA} {C : Addr} {sp : ASp}
/-- isinstance(x, C) of an own class -/
noncomputable def rISC (C : Addr) : List V → Hp → VK → Prop := fun xs H Q => ∃ a dx fs, xs = [.ref a, .ref C] ∧ H a = some (.ins C dx fs) ∧ Q (.bl true) H
end
end AL

set_option Elab.async false
set_option linter.all false
set_option maxRecDepth 100000
set_option maxHeartbeats 4000000
/-! a name whose cell holds a text with a token; str.replace with such a name -/
namespace L2
open PySem PySem.Spec PyProof.Rows
/-- an iterable, evaluated where a fact about the state is kept -/
noncomputable def PIF (X : Cx) (Fact : Shared → Prop) (tg iter : Expr) (wi : TI) : Prop := ∀ (pins : List (Addr × Obj)) (s : Shared) (σ : St) (H : Hp) (R : It → Hp → Prop), Fact s → Inv X pins σ H s → wi σ H R →
  wpAny (model X.prog X.w) X.A (eval iter X.env) (fun v s1 => wpAny (model X.prog X.w) X.A (pyIter v) (fun itv s2 => Fact s2 ∧ PIE X pins σ tg R itv s2) X.xe s1) X.xe s
/-- what gives out tokens alone -/
noncomputable def PEn (n : Nat) (X : Cx) (e : Expr) (t : TE) : Prop := ∀ (pins : List (Addr × Obj)) (s : Shared) (σ : St) (H : Hp) (Q : VK), n ≤ s.toks → Inv X pins σ H s → t σ H Q → wpAny (model X.prog X.w) X.A (eval e X.env) (EP X pins σ Q) X.xe s
/-! ### a cell whose text has a token -/
noncomputable def CT (X : Cx) (x : Str) (s : Shared) : Prop := ∃ (c : Addr) (z : Str) (t : Nat), X.env.cells.lookup x = some c ∧ s.heap.IsCell c (some (.str z t)) ∧ t ≠ 0 ∧ t < s.toks
section
variable {X : Cx} {x : Str} {s s' : Shared} {pins : List (Addr × Obj)} {σ : St} {H H' : Hp}
theorem CT.keep (h : CT X x s) (k : s.toks ≤ s'.toks) (g : ∀ b o, s.heap.get? b = some o → s'.heap.get? b = some o) : CT X x s' := by
  obtain ⟨c, z, t, h1, h2, h3, h4⟩ := h
  exact ⟨c, z, t, h1, h2.keeps g, h3, Nat.lt_of_lt_of_le h4 k⟩
theorem CT.tok (h : CT X x s) {k : Nat} (hk : s.toks ≤ k) : CT X x { s with toks := k } := h.keep hk fun _ _ e => e
theorem CT.un {fs ex : List Addr} (h : CT X x s) (I : Inv X pins σ H s) (k : s.toks ≤ s'.toks) (u : Un fs ex H H' s.heap s'.heap) (hx : ∀ c, X.env.cells.lookup x = some c → c ∉ ex) : CT X x s' := by
  obtain ⟨c, z, t, h1, ⟨o, ho, hd⟩, h3, h4⟩ := h
  obtain ⟨sl, e⟩ := u.any ho (I.freeC x c h1) (hx c h1)
  exact ⟨c, z, t, h1, ⟨_, e, hd⟩, h3, Nat.lt_of_lt_of_le h4 k⟩
end
noncomputable def PEk (X : Cx) (x : Str) (e : Expr) (t : TE) : Prop := ∀ (pins : List (Addr × Obj)) (s : Shared) (σ : St) (H : Hp) (Q : VK), CT X x s → Inv X pins σ H s → t σ H Q → wpAny (model X.prog X.w) X.A (eval e X.env) (fun v s' => CT X x s' ∧ EP X pins σ Q v s') X.xe s
noncomputable def PTk (X : Cx) (x : Str) (e : Expr) (t : TT) : Prop := ∀ (pins : List (Addr × Obj)) (s : Shared) (σ : St) (H : Hp) (Q : Bool → Hp → Prop), CT X x s → Inv X pins σ H s → t σ H Q → wpAny (model X.prog X.w) X.A (isTrue e X.env (eval e X.env)) (fun b s' => CT X x s' ∧ TP X pins σ Q b s') X.xe s
noncomputable def PAk (X : Cx) (x : Str) (es : List Expr) (t : TA) : Prop := ∀ (pos : Pos) (pins : List (Addr × Obj)) (s : Shared) (σ : St) (H : Hp) (Q : List V → Hp → Prop), CT X x s → Inv X pins σ H s → t σ H Q → wpAny (model X.prog X.w) X.A (spliced (backTo pos (starEach es X.env))) (fun us s' => CT X x s' ∧ AP X pins σ Q us s') X.xe s
/-- a statement behind which the cell still has its token -/
noncomputable def KS (X : Cx) (x : Str) (st : Stmt) (t : TS) : Prop := ∀ (pins : List (Addr × Obj)) (s : Shared) (σ : St) (H : Hp) (D : Ends), CT X x s → Inv X pins σ H s → t D σ H → wpAny (model X.prog X.w) X.A (exec st X.env) (fun f s' => SP X pins D f s' ∧ (f = .next → CT X x s')) X.xe s
/-- a statement before which the cell has its token -/
noncomputable def KS1 (X : Cx) (x : Str) (st : Stmt) (t : TS) : Prop := ∀ (pins : List (Addr × Obj)) (s : Shared) (σ : St) (H : Hp) (D : Ends), CT X x s → Inv X pins σ H s → t D σ H → wpAny (model X.prog X.w) X.A (exec st X.env) (SP X pins D) X.xe s
noncomputable def KSs (X : Cx) (x : Str) (sts : List Stmt) (t : TS) : Prop := ∀ (pins : List (Addr × Obj)) (s : Shared) (σ : St) (H : Hp) (D : Ends), CT X x s → Inv X pins σ H s → t D σ H → wpAny (model X.prog X.w) X.A (execs sts X.env) (SP X pins D) X.xe s
noncomputable def rIxTo (K : PySem.W.Frag) : R2 := rIxT K
/-- two texts -/
noncomputable def rEqSS : R2 := fun x y H Q => ∃ i j, x = .str i ∧ y = .str j ∧ Q (.bl (decide (i = j))) H
section
variable {X : Cx} {x y : Str} {a b e : Expr} {es : List Expr} {ta tb te : TE} {tr : TA} {tc : TT} {t u : TS} {st : Stmt} {sts rest : List Stmt} {pos p : Pos}
end
section
variable {X : Cx} {x : Str} {pins : List (Addr × Obj)} {σ : St} {H : Hp} {s : Shared}
end
section
variable {X : Cx} {x : Str} {a b e : Expr} {ta tb : TE} {t u : TS} {rest : List Stmt} {pos pos' ps : Pos}
/-- behind it a token is out -/
noncomputable def PEo (X : Cx) (e : Expr) (t : TE) : Prop := ∀ (pins : List (Addr × Obj)) (s : Shared) (σ : St) (H : Hp) (Q : VK), Inv X pins σ H s → t σ H Q → wpAny (model X.prog X.w) X.A (eval e X.env) (fun v s' => 1 ≤ s'.toks ∧ EP X pins σ Q v s') X.xe s
theorem peo_ix {r : R2} {i : Int} {j : Nat} {pc : Pos} (hr : IxR X r) (ha : PE X a ta) (hs : PlainIx (.Constant (.int i) j pc) := by intro _ _; rfl) : PEo X (.Subscript a (.Constant (.int i) j pc) pos) (tOp r ta (tC (.int i))) := by
  intro pins s σ H Q I h
  refine Subscript_ (thn (ha.run pins s σ H _ I h) fun v s1 ⟨x, H1, I1, rx, q⟩ => ?_)
  refine wpAny_Constant_int ?_
  have I2 : Inv X pins σ H1 { s1 with toks := s1.toks + 1 } := I1.tok _
  exact wpAny_mono (PySem.wpAny_toks_of (n := 1) (by show 1 ≤ s1.toks + 1; omega) (hr a (.Constant (.int i) j pc) pins _ σ H1 x (.int i) v (.int i s1.toks) Q I2 rx ⟨_, rfl⟩ q (hs _ _))) (fun _ _ z => z) fun _ _ z => z.2
end
/-- name.replace(cell's name, written text) -/
noncomputable def tReplV (i k : Nat) (z : Str) : TE := fun σ H Q => ∃ a b, σ[i]? = some (some (.str a)) ∧ σ[k]? = some (some (.str b)) ∧ (b == z) = false ∧ a.length + (a.length + 1) * z.length ≤ 16777216 ∧ Q (.str (Txt.replace a b z)) H
section
variable {X : Cx} {x : Str} {pins : List (Addr × Obj)} {σ : St} {H : Hp} {s : Shared} {scope : Scope} {own : List (Str × Nat)} {C : Addr} {cl : List (Str × Addr)} {fp : List Addr}
end
section
variable {X : Cx} {x : Str}
end
end L2

set_option Elab.async false
set_option linter.all false
set_option maxRecDepth 100000
set_option maxHeartbeats 4000000
/-! the readings of AL74 in data -/
namespace AL
open PySem PySem.Spec L2 PyProof.Rows
section
variable {K : Frg} {F : Hp} {ms : Ms} {Q : QE} {Γ : Cg} {S : Sg}
end
end AL

set_option Elab.async false
set_option linter.all false
set_option maxRecDepth 100000
set_option maxHeartbeats 4000000
/-! a, b, .. = a list of that length -/
namespace AL
open PySem PySem.Spec L2 PyProof.Rows
section
variable {Γ : Cg} {F : Hp} {ms : Ms} {S : Sg} {gs : TGs} {N : QS}
end
end AL

set_option Elab.async false
set_option linter.all false
set_option maxRecDepth 100000
set_option maxHeartbeats 4000000
/-! plain data in lists: x in xs, xs.remove(x) -/
namespace L2
open PySem PySem.Spec PyProof.Rows
section
variable {X : Cx}
noncomputable def rInD (K : PySem.W.Frag) : R2 := fun x y H Q => ∃ (d : PyData) (es : List PyData), Dp K H x d ∧ Dp K H y (.list es) ∧ PyData.plainAll es = true ∧ d.plain = true ∧ PyData.depthAll es ≤ 60 ∧ Q (.bl (es.any fun z => PyData.eqv z d)) H
noncomputable def rRemD (K : PySem.W.Frag) : V → List V → Hp → VK → Prop := fun x xs H Q => ∃ (l : Addr) (vs : List V) (v : V) (es : List PyData) (d : PyData) (j : Nat), x = .ref l ∧ xs = [v] ∧ H l = some (.lst vs) ∧ DpAll K H vs es ∧ Dp K H v d ∧ PyData.plainAll es = true ∧ d.plain = true ∧ PyData.depthAll es ≤ 60 ∧ SeqAt.dataPlace es d = some j ∧ Q .non (upd H l (.lst (vs.eraseIdx j)))
end
end L2
namespace AL
open PySem PySem.Spec L2 PyProof.Rows
section
variable {K : Frg} {F : Hp} {ms : Ms} {Q : QE}
end
end AL

set_option Elab.async false
set_option linter.all false
set_option maxRecDepth 100000
set_option maxHeartbeats 4000000
/-! if in the body of a generator -/
namespace L2
open PySem PySem.Spec PyProof.Rows GenW
section
variable {X : Cx}
end
end L2

set_option Elab.async false
set_option linter.all false
set_option maxRecDepth 100000
set_option maxHeartbeats 4000000
/-! dicts of nested tuple keys: k in d, k not in d, {k: v} -/
namespace ND
open PySem PySem.Spec PyProof.Rows L2
section
variable {prog : Program} {w : World} {K : Type} [DecidableEq K] {knd : HeapKind prog w K} {A : Around} {E : Value → Shared → Prop} {s : Shared} {env : Env}
end
section
variable {X : Cx}
noncomputable def rNIn (neg : Bool) (P : Program) (w : World) (K : PySem.W.Frag) : R2 := fun x y H Q => ∃ (a b : Addr) (xs : List Ent) (kvs : List (NK × V)) (k : NK), y = .ref a ∧ x = .ref b ∧ Rd H a (NDO P w a xs) ∧ KN K H kvs xs ∧ VKey K H k (.ref b) ∧ k.depth ≤ 8 ∧ Q (.bl (neg ^^ kvs.any fun kv => decide (kv.1 = k))) H
noncomputable def tNDisp (P : Program) (w : World) (K : PySem.W.Frag) (tk tv : TE) : TE := fun σ H Q => ∀ p, H p = none → tk σ (upd H p (NDO P w p [])) fun y H1 => tv σ H1 fun v H2 => H2 p = some (NDO P w p []) ∧ ∃ (b : Addr) (k : NK), y = .ref b ∧ VKey K H2 k (.ref b) ∧ k.depth ≤ 8 ∧ ∀ u, RelV v u → Q (.ref p) (upd H2 p (NDO P w p [(k, b, u)]))
end
end ND
namespace AL
open PySem L2 ND
section
variable {P : Program} {w : World} {Γ : Cg} {K : Frg} {F : Hp} {ms : Ms} {S : Sg} {Q : QE} {tk tv : TE}
end
end AL

set_option Elab.async false
set_option linter.all false
set_option maxRecDepth 100000
set_option maxHeartbeats 4000000
/-! try / except X as n: raise C(..) from n -/
namespace L2
open PySem PySem.Spec PyProof.Rows HotX L2H
/-! ### an own error with an own __init__, made while another one is handled -/
theorem RoomH.make {k : Nat} {A : Around} (r : RoomH (k + 1) A) (C : Addr) (us : List Value) (kw : List (Str × Value)) : RoomH k (A.under (.builtin "type.__call__" ⟨.ref C :: us, kw⟩)) :=
  ⟨by have := r.dp; rw [make_depth]; omega, by have := r.un; rw [make_units]; omega⟩
/-! ### raise X(..) from n -/
noncomputable def causeFrom (h : Heap) (a x : Addr) : Heap := (h.update a (Obj.mapFields (·.setIfInBounds 3 (.ref x)))).update a (Obj.mapFields (·.setIfInBounds 4 (.bool true)))
/-! ### the exception goes on out of the suite -/
section
variable {X : Cx} {pins : List (Addr × Obj)} {σ : L2.St} {H : Hp} {s : Shared} {B : Heap} {sI : Shared}
end
/-! ### the try -/
/-- what the body wishes of an exception -/
noncomputable def wCause (K : PySem.W.Frag) (c : Value) (i : Nat) (t : L2.St → Hp → XK → Prop) (Wout : WX) : WX := fun cls d σ H =>
  ∃ b, PySem.W.exmOne K cls c = some b ∧ (b = true → (PySem.W.subIn K cls (.type "BaseException") = some true ∧ PySem.W.typeIn K cls = some (.type "type")) ∧ ∀ a, H a = none → t (σ.set i (some (.ref a))) H fun cls' d' H' => Wout cls' d' (σ.set i none) H') ∧ (b = false → Wout cls d σ H)
section
variable {X : Cx} {x n : Str} {c : Value} {i : Nat} {body : List Stmt} {e : Expr} {np cp rp pos pos' : Pos} {tb : WX → TS} {t : L2.St → Hp → XK → Prop} {Wout : WX}
end
end L2
namespace L2
open PySem PySem.Spec PyProof.Rows HotX L2H
section
variable {P : Program} {w : World} {K : PySem.W.Frag} {mg : Str → Option Value} {base : Heap}
end
end L2
namespace AL
open PySem PySem.Spec PyProof.Rows L2
noncomputable def tTryCause (K : Frg) (E : XK) (c : Value) (i : Nat) (t : L2.St → Hp → XK → Prop) (tb : WX → TS) : TS := fun D σ H => tb (wCause K c i t (fun cls d _ H => E cls d H)) D σ H
section
variable {Γ : Cg} {F : Hp} {ms : Ms} {S : Sg} {A : AEnds} {Ew : XW} {tb : WX → TS}
end
end AL
namespace L2
open PySem PySem.Spec PyProof.Rows
section
variable {X : Cx} {K : AL.Frg} {E : XK} {x n : Str} {c : Value} {i : Nat} {body : List Stmt} {e : Expr} {np cp rp pos pos' : Pos} {tb : WX → TS} {t : L2.St → Hp → XK → Prop}
end
end L2

set_option Elab.async false
set_option linter.all false
set_option maxRecDepth 100000
set_option maxHeartbeats 4000000
/-! tuple * int, once or more -/
namespace L2
open PySem PySem.Spec PyProof.Rows
noncomputable def rRepT1 (K : PySem.W.Frag) : R2 := fun x y H Q => ∃ l xs, x = .ref l ∧ y = .int 1 ∧ SqT K H l xs ∧ Q (.ref l) H
noncomputable def rRepTA (K : PySem.W.Frag) : R2 := fun x y H Q => rRepT1 K x y H Q ∨ rRepT K x y H Q
section
variable {X : Cx}
end
end L2
namespace AL
open PySem L2 PyProof.Rows
section
variable {K : Frg} {F : Hp} {ms : Ms} {Q : QE}
end
end AL

set_option Elab.async false
set_option linter.all false
set_option maxRecDepth 100000
set_option maxHeartbeats 4000000
/-! list(d.items()), the list owned -/
namespace AL
open PySem PySem.Spec L2 PyProof.Rows LiI
section
variable {Γ : Cg} {K : Frg} {F : Hp} {ms : Ms} {S : Sg} {Q : QE} {te : TE}
end
end AL

set_option Elab.async false
set_option linter.all false
set_option maxRecDepth 100000
set_option maxHeartbeats 4000000
/-! expressions that give out a token; str.replace of written texts in a test -/
namespace L2
open PySem PySem.Spec PyProof.Rows
theorem tk9 {α : Type} {t : Sem α} {Q : α → Shared → Prop} {M : Model} {A : Around} {E : Value → Shared → Prop} {s : Shared} {n : Nat} (hn : n ≤ s.toks) (h : wpAny M A t Q E s) : wpAny M A t (fun a s' => n ≤ s'.toks ∧ Q a s') E s :=
  wpAny_mono (PySem.wpAny_toks_of hn h) (fun _ _ z => z) fun _ _ z => z.2
noncomputable def PEq (X : Cx) (e : Expr) (t : TE) : Prop :=
  ∀ (pins : List (Addr × Obj)) (s : Shared) (σ : St) (H : Hp) (Q : VK), Inv X pins σ H s → t σ H Q → wpAny (model X.prog X.w) X.A (eval e X.env) (fun v s' => 1 ≤ s'.toks ∧ EP X pins σ Q v s') X.xe s
noncomputable def PAq (X : Cx) (es : List Expr) (t : TA) : Prop :=
  ∀ (pos : Pos) (pins : List (Addr × Obj)) (s : Shared) (σ : St) (H : Hp) (Q : List V → Hp → Prop), Inv X pins σ H s → t σ H Q → wpAny (model X.prog X.w) X.A (spliced (backTo pos (starEach es X.env))) (fun us s' => 1 ≤ s'.toks ∧ AP X pins σ Q us s') X.xe s
noncomputable def PTq (X : Cx) (e : Expr) (t : TT) : Prop :=
  ∀ (pins : List (Addr × Obj)) (s : Shared) (σ : St) (H : Hp) (Q : Bool → Hp → Prop), 1 ≤ s.toks → Inv X pins σ H s → t σ H Q → wpAny (model X.prog X.w) X.A (isTrue e X.env (eval e X.env)) (TP X pins σ Q) X.xe s
noncomputable def PWq (X : Cx) (e : Expr) (t : TT) : Prop :=
  ∀ (whole : Sem Value) (pins : List (Addr × Obj)) (s : Shared) (σ : St) (H : Hp) (Q : Bool → Hp → Prop), 1 ≤ s.toks → Inv X pins σ H s → t σ H Q → wpAny (model X.prog X.w) X.A (isTrue e X.env whole) (TP X pins σ Q) X.xe s
section
variable {X : Cx} {e a b c : Expr} {es rest : List Expr} {te ta tb : TE} {t : TA} {tA tB' tc : TT} {pos p : Pos} {x : Str} {r : R2}
theorem pk_str {j : Nat} : PEq X (.Constant (.str x) j pos) (tC (.str x)) := fun _ s _ H _ I h => Calls.Constant_str ⟨by show 1 ≤ s.toks + 1; omega, .str x, H, I.tok _, ⟨_, rfl⟩, h⟩
theorem pak_here (ha : PEq X e te) (hr : PA X es t) (hs : starEach (e :: es) X.env = (false, eval e X.env) :: starEach es X.env := by rfl) : PAq X (e :: es) (tCons te t) := by
  intro pos pins s σ H Q I h
  rw [hs]
  show wpAny _ _ (spliced ((false, eval e X.env) :: backTo pos (starEach es X.env))) _ _ s
  refine Calls.spliced_cons (thn (ha pins s σ H _ I h) fun u s1 ⟨hk, x, H1, I1, r1, q1⟩ => ?_)
  exact thn (tk9 hk (hr.run pos pins s1 σ H1 _ I1 q1)) fun us s2 ⟨hk2, xs, H2, I2, r2, q2⟩ => ⟨hk2, x :: xs, H2, I2, .cons r1 r2, q2⟩
theorem pak_next (ha : PE X e te) (hr : PAq X es t) (hs : starEach (e :: es) X.env = (false, eval e X.env) :: starEach es X.env := by rfl) : PAq X (e :: es) (tCons te t) := by
  intro pos pins s σ H Q I h
  rw [hs]
  show wpAny _ _ (spliced ((false, eval e X.env) :: backTo pos (starEach es X.env))) _ _ s
  refine Calls.spliced_cons (thn (ha.run pins s σ H _ I h) fun u s1 ⟨x, H1, I1, r1, q1⟩ => ?_)
  exact thn (hr pos pins s1 σ H1 _ I1 q1) fun us s2 ⟨hk2, xs, H2, I2, r2, q2⟩ => ⟨hk2, x :: xs, H2, I2, .cons r1 r2, q2⟩
theorem pk_tup {x1 : Nat} (h : PAq X es t) : PEq X (.Tuple es x1 pos) (tTup t) := by
  intro pins s σ H Q I hq
  refine wpAny_Tuple_spliced (thn (h pos pins s σ H _ I hq) fun us s1 ⟨hk, xs, H1, I1, r, z, q⟩ => ⟨by rw [← r.length]; exact z, hk, ?_⟩)
  have hf : H1 s1.heap.objs.size = none := I1.hok.fresh (Nat.le_refl _)
  refine ⟨.ref s1.heap.objs.size, upd H1 s1.heap.objs.size (.tup xs), I1.laid (t' := s1.toks) (fun b u e => Heap.get?_push_of_some _ e) (Nat.le_refl _) ?_, rfl, q _ hf⟩
  exact ⟨z, us, r, ⟨_, Heap.get?_push_size _ rfl, rfl, _, rfl⟩⟩
theorem pk_lst (h : PAq X es t) : PEq X (.List es pos) (tLst t) := by
  intro pins s σ H Q I hq
  refine wpAny_List_spliced (thn (h pos pins s σ H _ I hq) fun us s1 ⟨hk, xs, H1, I1, r, z, q⟩ => ⟨by rw [← r.length]; exact z, hk, ?_⟩)
  have hf : H1 s1.heap.objs.size = none := I1.hok.fresh (Nat.le_refl _)
  refine ⟨.ref s1.heap.objs.size, upd H1 s1.heap.objs.size (.lst xs), I1.laid (t' := s1.toks) (fun b u e => Heap.get?_push_of_some _ e) (Nat.le_refl _) ?_, rfl, q _ hf⟩
  exact ⟨z, us, 0, r, Heap.get?_push_size _ rfl⟩
theorem pk_ix (hr : IxR X r) (ha : PEq X a ta) (hb : PE X b tb) (hs : PlainIx b) : PEq X (.Subscript a b pos) (tOp r ta tb) := by
  intro pins s σ H Q I h
  refine Subscript_ (thn (ha pins s σ H _ I h) fun v s1 ⟨hk, x, H1, I1, r1, q1⟩ => ?_)
  exact thn (tk9 hk (hb.run pins s1 σ H1 _ I1 q1)) fun u s2 ⟨hk2, y, H2, I2, r2, q2⟩ => tk9 hk2 (hr a b pins s2 σ H2 x y v u Q I2 r1 r2 q2 (hs _ _))
/-- targets = e where e gives out a token: one is out behind it -/
theorem pss_asgk {tg : Expr} {g : TG} {sts : List Stmt} {u : TS} (he : PEq X e te) (hg : PG X tg g) (h2 : PSsT X sts u) (hs : swapsWithSole [tg] e pos.line X.env = pure false := by rfl) (hw : swappedStores [tg] e X.env = pure none := by rfl)
    (h1 : (assignEach [tg] X.env).map (·.2) = [assign tg X.env] := by rfl) : PSs X (.Assign [tg] e pos :: sts) (tSeq (tAsg te g) u) := by
  refine ⟨fun pins s σ H D I h => ?_⟩
  have key : wpAny (model X.prog X.w) X.A (exec (.Assign [tg] e pos) X.env) (fun f s' => 1 ≤ s'.toks ∧ SP X pins { D with nx := u D } f s') X.xe s := by
    refine wpAny_Assign_stores (thn (he pins s σ H _ I h) fun v s1 ⟨hk, x, H1, I1, r1, q1⟩ => ?_) hs hw
    rw [h1]
    exact thn (tk9 hk (hg.run pins s1 σ H1 x v _ I1 r1 q1)) fun _ s2 q => q
  refine wpAny_execs_cons (thn key fun f s1 ⟨hk, q⟩ => ?_)
  cases f with
  | next =>
    obtain ⟨σ', H', I', q⟩ := q
    exact h2 pins s1 σ' H' D hk I' q
  | ret v => exact q
  | brk => exact q
  | cont => exact q
theorem psst_of1 {st : Stmt} {sts : List Stmt} {t1 u : TS} (h1 : PS X st t1) (h2 : PSsT X sts u) : PSsT X (st :: sts) (tSeq t1 u) := psst_cons (PST.of h1) h2
theorem pet_tup {x1 : Nat} (h : PAT X es t) : PET X (.Tuple es x1 pos) (tTup t) := by
  intro pins s σ H Q h0 I hq
  refine wpAny_Tuple_spliced (thn (h pos pins s σ H _ h0 I hq) fun us s1 ⟨xs, H1, I1, r, z, q⟩ => ⟨by rw [← r.length]; exact z, ?_⟩)
  have hf : H1 s1.heap.objs.size = none := I1.hok.fresh (Nat.le_refl _)
  refine ⟨.ref s1.heap.objs.size, upd H1 s1.heap.objs.size (.tup xs), I1.laid (t' := s1.toks) (fun b u e => Heap.get?_push_of_some _ e) (Nat.le_refl _) ?_, rfl, q _ hf⟩
  exact ⟨z, us, r, ⟨_, Heap.get?_push_size _ rfl, rfl, _, rfl⟩⟩
theorem pet_callB {rc : List V → Hp → VK → Prop} {id : String} (hc : CallR X (.builtin id) rc) (hg : Gl X x) (hm : X.mg x = none) (hv : bootBuiltins x = some (.builtin id)) (ha : PAT X (e :: es) t) (hn : x ≠ "__name__" := by decide) (hdb : (x == ("__debug__" : Str)) = false := by decide)
    (he : starEach (e :: es) X.env = (false, eval e X.env) :: starEach es X.env := by rfl) (hpl : (backTo pos (starEach es X.env)).any (·.1) = false := by rfl) : PET X (.Call (.Name x p) (e :: es) [] pos) (tCB rc t) := by
  intro pins s σ H Q h0 I h
  refine wpAny_Call_Name_kw (ld_blt I hg hm hv ?_ hn hdb)
  exact PyProof.Rows.callWith_builtin1 (thn (ha pos pins s σ H _ h0 I h) fun us s1 ⟨vs, H1, I1, r1, q1⟩ => hc pins s1 σ H1 vs us Q I1 r1 q1) he hpl
theorem ptk_cmpR {op : CmpOp} (ho : OpR X (compareOp op) r) (ha : PET X a ta) (hb : PET X b tb) (hm : behindInMarks op b = false) : PTq X (.Compare a [op] [b] pos) (tTest (tOp r ta tb)) := by
  intro pins s σ H Q h0 I h
  refine wpAny_isTrue_Compare1 (thn (tk9 h0 (ha pins s σ H _ h0 I h)) fun v s1 ⟨hk, x, H1, I1, r1, q1⟩ => thn (hb pins s1 σ H1 _ hk I1 q1) fun u s2 ⟨y, H2, I2, r2, q2⟩ =>
    thn (ho pins s2 σ H2 x y v u _ I2 r1 r2 q2) fun c s3 ⟨z, H3, I3, r3, k, e, q3⟩ => ?_) hm
  subst e
  cases r3
  exact wpAny_truthy_bool ⟨H3, I3, q3⟩
theorem ptk_of (h : PT X e tA) : PTq X e tA := fun pins s σ H Q _ I q => h.run pins s σ H Q I q
theorem pwk_or1 (ha : PTq X a tA) : PWq X (.BoolOp .Or [a] pos) tA := by
  intro wh pins s σ H Q h0 I h
  refine isTrue_or (thn (ha pins s σ H Q h0 I h) fun c s1 e => ?_)
  cases c with
  | false => exact isTrue_or_nil e
  | true => exact e
theorem pwk_or (ha : PTq X a tA) (hb : PWq X (.BoolOp .Or (b :: rest) pos) tB') : PWq X (.BoolOp .Or (a :: b :: rest) pos) (tOr tA tB') := by
  intro wh pins s σ H Q h0 I h
  refine isTrue_or (thn (tk9 h0 (ha pins s σ H _ h0 I h)) fun c s1 ⟨hk, H1, I1, q1⟩ => ?_)
  cases c with
  | true => exact ⟨H1, I1, q1⟩
  | false => exact hb wh pins s1 σ H1 Q hk I1 q1
theorem PWq.ptk (h : PWq X e tA) : PTq X e tA := h _
theorem pst_ifk {sa sb : List Stmt} {t1 u : TS} (hc : PTq X c tc) (ha : PSs X sa t1) (hb : PSs X sb u) : PST X (.If c sa sb pos) (tIfS tc t1 u) := by
  intro pins s σ H D h0 I h
  refine wpAny_If (thn (hc pins s σ H _ h0 I h) fun d s1 ⟨H1, I1, q1⟩ => ?_)
  cases d with
  | true => exact ha.run pins s1 σ H1 D I1 q1
  | false => exact hb.run pins s1 σ H1 D I1 q1
end
end L2
namespace AL
open PySem PySem.Spec PyProof.Rows L2
variable {Γ : Cg} {F : Hp} {ms : Ms} {S : Sg}
/-- e.replace(y, z) -/
theorem ae_replC {te : TE} {y z : Str} {Q : QE} (h : AE Γ te F ms S fun F1 ms1 d => ∃ x : Str, d = .str x ∧ x.length + (x.length + 1) * z.length ≤ 16777216 ∧ Q F1 ms1 (.str (PySem.Txt.replace x y z))) : AE Γ (CwR.tReplC te y z) F ms S Q := fun R σ H Qc hs hh x kk =>
  h R σ H _ hs hh x fun F1 ms1 d v H1 e1 h1 r1 ⟨x, hd, hb, q⟩ => by
    subst hd
    cases r1
    exact ⟨x, rfl, hb, kk F1 ms1 (.str _) _ H1 e1 h1 (.str _) q⟩
end AL

set_option Elab.async false
set_option linter.all false
set_option maxRecDepth 100000
set_option maxHeartbeats 4000000
/-! dict(zip(a list, a list)) -/
namespace AL
open PySem PySem.Spec L2 PyProof.Rows
noncomputable def tDictZip (K : Frg) (ta : TA) : TE := fun σ H Q => ta σ H fun vs H1 => ∃ (a b : Addr) (kvs : List (Key × V)), vs = [.ref a, .ref b] ∧ SqL K H1 a (kvs.map fun p => kV p.1) ∧ SqL K H1 b (kvs.map (·.2)) ∧ kvs.length ≤ 1000 ∧ ∀ p, H1 p = none → Q (.ref p) (upd H1 p (.dK (mergeK [] kvs)))
section
variable {Γ : Cg} {F : Hp} {ms : Ms} {S : Sg} {ta : TA} {Q : QE}
end
end AL

set_option Elab.async false
set_option linter.all false
set_option maxRecDepth 100000
set_option maxHeartbeats 4000000
/-! sorted(d.items()), texts to ints -/
namespace AL
open PySem PySem.Spec L2 PyProof.Rows PySem.W
noncomputable def encI (p : Str × Int) : PyData := .tuple [.str p.1, .int p.2]
noncomputable def rfI (h : Heap) (as : List Addr) (ns : List (Str × Int)) (v : Value) (n : Str × Int) : Prop := ∃ (j : Nat) (t : Addr) (tk tk2 : Tok), v = .ref t ∧ as[j]? = some t ∧ ns[j]? = some n ∧ h.get? t = some { cls := .type "tuple", data := .seq #[.str n.1 tk, .int n.2 tk2] }
section
variable {P : Program} {w : World} {A : Around} {E : Value → Shared → Prop} {s : Shared}
end
/-- sorted(e.items()) -/
noncomputable def tSortItems (te : TE) : TE := fun σ H Q => te σ H fun x H1 => ∃ (d : Addr) (ns : List (Str × Int)), x = .ref d ∧ H1 d = some (.dK (ns.map fun n => (.inr n.1, .int n.2))) ∧ 0 < ns.length ∧ ns.length ≤ 1000 ∧ ns.Nodup ∧
  ∀ (H' : Hp) (p : Addr) (ts : List Addr), (∀ b o, H1 b = some o → H' b = some o) → H1 p = none → (∀ t ∈ ts, H1 t = none) → p ∉ ts → H' p = some (.lst (ts.map V.ref)) → Paired (fun (t : Addr) (q : Str × Int) => H' t = some (.tup [.str q.1, .int q.2])) ts (ns.mergeSort (dataLe false encI)) → Q (.ref p) H'
noncomputable def kvI (n : Str × Int) : Key × V := (.inr n.1, .int n.2)
section
variable {X : Cx}
end
noncomputable def sortI (ns : List (Str × Int)) : List (Str × Int) := ns.mergeSort (dataLe false encI)
noncomputable def itD (n : Str × Int) : D := .tup [.str n.1, .int n.2]
section
variable {Γ : Cg} {K : Frg} {F : Hp} {ms : Ms} {S : Sg} {Q : QE} {te : TE}
end
end AL

set_option Elab.async false
set_option linter.all false
set_option maxRecDepth 100000
set_option maxHeartbeats 4000000
/-! sets of up to 300 different tuples of ints: the tables -/
namespace AL
open PySem PySem.Spec L2 PyProof.Rows
/-! ### the masks -/
/-- each slot is met from each start -/
noncomputable def Full (m : Nat) : Prop := ∀ i j, i ≤ m → j ≤ m → ∃ k, k ≤ m ∧ lcgI m i k = j
noncomputable def MaskW (m : Nat) : Prop := MaskOk m ∨ m = 511
noncomputable def orb (m : Nat) : Nat → Nat → List Nat
  | 0, _ => []
  | n + 1, i => i :: orb m n ((i * 5 + 1) % (m + 1))
theorem lcgI_one (m i : Nat) : ∀ k, lcgI m ((i * 5 + 1) % (m + 1)) k = lcgI m i (k + 1)
  | 0 => rfl
  | k + 1 => by
    show (lcgI m ((i * 5 + 1) % (m + 1)) k * 5 + 1) % (m + 1) = (lcgI m i (k + 1) * 5 + 1) % (m + 1)
    rw [lcgI_one m i k]
theorem orb_mem (m : Nat) : ∀ (n i j : Nat), j ∈ orb m n i → ∃ k, k < n ∧ lcgI m i k = j
  | 0, _, _, h => nomatch h
  | n + 1, i, j, h => by
    rcases List.mem_cons.mp h with e | h
    · exact ⟨0, Nat.succ_pos _, e.symm⟩
    · obtain ⟨k, hk, e⟩ := orb_mem m n _ j h
      exact ⟨k + 1, Nat.succ_lt_succ hk, by rw [← lcgI_one]; exact e⟩
theorem orb511 : ((List.range 512).all fun j => (orb 511 512 0).contains j) = true := by decide +kernel
theorem lcgI_zero (m : Nat) : ∀ k, lcgI m 0 k = lcgN m k
  | 0 => rfl
  | k + 1 => by
    show (lcgI m 0 k * 5 + 1) % (m + 1) = (lcgN m k * 5 + 1) % (m + 1)
    rw [lcgI_zero m k]
theorem met511 {j : Nat} (hj : j ≤ 511) : ∃ k, k < 512 ∧ lcgN 511 k = j := by
  have h := List.all_eq_true.mp orb511 j (List.mem_range.mpr (Nat.lt_succ_of_le hj))
  obtain ⟨k, hk, e⟩ := orb_mem 511 512 0 j (List.contains_iff_mem.mp h)
  exact ⟨k, hk, by rw [← lcgI_zero]; exact e⟩
theorem last511 : lcgN 511 512 = 0 := by decide +kernel
theorem per511 : ∀ k, lcgN 511 (512 + k) = lcgN 511 k
  | 0 => last511
  | k + 1 => by
    show (lcgN 511 (512 + k) * 5 + 1) % 512 = (lcgN 511 k * 5 + 1) % 512
    rw [per511 k]
theorem full511 : Full 511 := fun i j hi hj => by
  obtain ⟨a, ha, ea⟩ := met511 hi
  obtain ⟨b, hb, eb⟩ := met511 hj
  subst ea eb
  by_cases c : a ≤ b
  · exact ⟨b - a, by omega, by rw [lcgN_add]; congr 1; omega⟩
  · refine ⟨b + 512 - a, by omega, ?_⟩
    rw [lcgN_add, show a + (b + 512 - a) = 512 + b by omega, per511]
theorem MaskW.full {m : Nat} (h : MaskW m) : Full m := by
  rcases h with h | rfl
  · exact fun i j hi hj => lcgI_all h hi hj
  · exact full511
theorem MaskW.odd {m : Nat} (h : MaskW m) : m % 2 = 1 := by
  rcases h with h | rfl
  · exact mask_odd h
  · rfl
theorem MaskW.le {m : Nat} (h : MaskW m) : m ≤ 511 := by
  rcases h with (rfl | rfl | rfl) | rfl <;> decide
/-! ### the ways -/
theorem Full.runs {m : Nat} (hm : Full m) (h : Int) {j : Nat} (hj : j ≤ m) : ∃ n, n ≤ m + 12 ∧ runI m (SetTable.bits h) n = j := by
  obtain ⟨k, hk, e⟩ := hm _ _ (runI_le m (SetTable.bits h) 12) hj
  exact ⟨12 + k, by omega, (runI_tail (bits_lt h) k).trans e⟩
theorem Full.meets {m : Nat} (hm : Full m) (h : Int) {j : Nat} (hj : j ≤ m) : ∃ k, k < 10 * SetTable.turns m ∧ way m h k = j := by
  obtain ⟨n, hn, e⟩ := hm.runs h hj
  obtain ⟨k, hk, e2⟩ := run_nth m (SetTable.bits h) n
  exact ⟨k, by unfold SetTable.turns; omega, (congrArg SetTable.Probe.j e2).trans e⟩
theorem way_in (m : Nat) (h : Int) (k : Nat) : way m h k ≤ m := by
  have hi : SetTable.bits h % (m + 1) ≤ m := Nat.le_of_lt_succ (Nat.mod_lt _ (Nat.succ_pos _))
  obtain ⟨r1, r2, _⟩ := runEnd_bd hi
  exact Nat.le_trans (Nat.le_add_right _ _) (nth_in (m := m) k (runAt m (SetTable.bits h % (m + 1)) (SetTable.bits h)) (by
    show SetTable.bits h % (m + 1) + (SetTable.runEnd m (SetTable.bits h % (m + 1)) - SetTable.bits h % (m + 1)) ≤ m
    omega))
/-! ### a table of n entries -/
structure TabW (t : SetTable) (n : Nat) : Prop where
  ris : Ris t.place.toList
  dm : t.dummies = #[]
  sz : t.place.size = n
  msk : MaskW t.mask
  bd : ∀ x ∈ t.place.toList, x ≤ t.mask
theorem TabW.free {t : SetTable} {n : Nat} (T : TabW t n) (hn : n ≤ t.mask) (h : Int) : ∃ K, K < 10 * SetTable.turns t.mask ∧ way t.mask h K ∉ t.place.toList ∧ ∀ k, k < K → way t.mask h k ∈ t.place.toList := by
  obtain ⟨j, hj, hf⟩ := st_missing t.place.toList (t.mask + 1) (by rw [Array.length_toList, T.sz]; omega)
  obtain ⟨k, hk, e⟩ := T.msk.full.meets h (Nat.le_of_lt_succ hj)
  obtain ⟨K, h1, h2, h3⟩ := st_least (p := fun k => way t.mask h k ∉ t.place.toList) k (by rw [e]; exact hf)
  exact ⟨K, by omega, h2, fun k' hk' => Classical.byContradiction fun z => h3 k' hk' z⟩
theorem TabW.put {t : SetTable} {n : Nat} (T : TabW t n) {j : Nat} (hj : j ≤ t.mask) (hf : j ∉ t.place.toList) : SetTable.below t.place j ≤ n ∧ TabW (t.put j).1 (n + 1) ∧ (t.put j).1.fill = n + 1 := by
  obtain ⟨c1, _, _⟩ := below_cut T.ris j
  have hp : SetTable.below t.place j ≤ t.place.toList.length := by rw [Array.length_toList]; exact c1
  have hl := put_place t j
  have hs : (t.put j).1.place.size = n + 1 := by
    rw [← Array.length_toList, hl, len_ins _ hp, Array.length_toList, T.sz]
  have hd := put_dm T.dm j
  refine ⟨by rw [← T.sz]; exact c1, ⟨ris_insert T.ris fun e => hf (List.mem_of_getElem? (by rw [Array.getElem?_toList]; exact e)), hd, hs, T.msk, fun x hx => ?_⟩, ?_⟩
  · rw [hl] at hx
    rcases mem_ins.1 hx with rfl | z
    · exact hj
    · exact T.bd x z
  · show (t.put j).1.place.size + (t.put j).1.dummies.size = n + 1
    rw [hs, hd]
    rfl
/-! ### laid anew -/
theorem Full.gap {m : Nat} (hm : Full m) (owner : Array (Option Nat)) (h : Int) {j : Nat} (hj : j ≤ m) (hf : oAt owner j = none) :
    ∃ p, p ≤ m ∧ oAt owner p = none ∧ SetTable.layClean.free m owner (SetTable.turns m) (SetTable.bits h % (m + 1)) (SetTable.bits h) = some p := by
  obtain ⟨n, hn, e⟩ := hm.runs h hj
  have hw : way m h (off m (SetTable.bits h % (m + 1)) (SetTable.bits h) n) = j := by
    show (nth m (runAt m (SetTable.bits h % (m + 1)) (SetTable.bits h)) (off m (SetTable.bits h % (m + 1)) (SetTable.bits h) n)).j = j
    rw [nth_off, itL_run]
    exact e
  obtain ⟨K, k1, k2, k3⟩ := st_least (p := fun k => oAt owner (way m h k) = none) _ (by rw [hw]; exact hf)
  refine ⟨way m h K, way_in m h K, k2, free_spec m owner (SetTable.turns m) n _ _ K (by unfold SetTable.turns; omega) k1 (fun k hk => ?_) ?_⟩
  · have q := k3 k hk
    show (oAt owner (way m h k)).isNone = false
    cases z : oAt owner (way m h k) with
    | none => exact absurd z q
    | some _ => rfl
  · show (oAt owner (way m h K)).isNone = true
    rw [k2]
    rfl
/-- n are laid -/
structure Lain (m n : Nat) (owner : Array (Option Nat)) : Prop where
  sz : owner.size = m + 1
  all : ∀ k, k < n → ∃ j, j ≤ m ∧ oAt owner j = some k
  ps : ∃ ps : List Nat, ps.length = n ∧ ∀ j, j ≤ m → oAt owner j ≠ none → j ∈ ps
theorem Lain.zero (m : Nat) : Lain m 0 (Array.replicate (m + 1) none) :=
  ⟨by simp, fun _ h => absurd h (Nat.not_lt_zero _), [], rfl, fun j hj e => absurd (oAt_init hj) e⟩
theorem Lain.next {m n p : Nat} {owner : Array (Option Nat)} (W : Lain m n owner) (hp : p ≤ m) (hf : oAt owner p = none) : Lain m (n + 1) (owner.setIfInBounds p (some n)) := by
  have hps : p < owner.size := by rw [W.sz]; exact Nat.lt_succ_of_le hp
  obtain ⟨ps, h1, h2⟩ := W.ps
  refine ⟨by rw [Array.size_setIfInBounds]; exact W.sz, fun k hk => ?_, p :: ps, by rw [List.length_cons, h1], fun j hj e => ?_⟩
  · by_cases c : k = n
    · exact ⟨p, hp, by rw [c]; exact oAt_set_self _ hps⟩
    · obtain ⟨j, j1, j2⟩ := W.all k (by omega)
      exact ⟨j, j1, by rw [oAt_set_ne _ (fun z => by rw [z, hf] at j2; cases j2)]; exact j2⟩
  · by_cases c : j = p
    · rw [c]; exact List.mem_cons_self ..
    · rw [oAt_set_ne _ c] at e
      exact List.mem_cons_of_mem _ (h2 j hj e)
theorem lain_all {m : Nat} (hm : Full m) : ∀ (hs : List Int) (n : Nat) (owner : Array (Option Nat)), Lain m n owner → n + hs.length ≤ m → ∃ owner', hs.foldl (stepF m) (some (owner, n)) = some (owner', n + hs.length) ∧ Lain m (n + hs.length) owner'
  | [], _, owner, W, _ => ⟨owner, rfl, W⟩
  | h :: hs, n, owner, W, hl => by
    rw [List.length_cons] at hl
    obtain ⟨ps, h1, h2⟩ := W.ps
    obtain ⟨j, hj, hn⟩ := st_missing ps (m + 1) (by omega)
    have hj0 : oAt owner j = none := Classical.byContradiction fun z => hn (h2 j (Nat.le_of_lt_succ hj) z)
    obtain ⟨p, p1, p2, p3⟩ := hm.gap owner h (Nat.le_of_lt_succ hj) hj0
    obtain ⟨owner', q1, q2⟩ := lain_all hm hs (n + 1) _ (W.next p1 p2) (by omega)
    rw [List.foldl_cons, stepF_some p3, List.length_cons, show n + (hs.length + 1) = n + 1 + hs.length by omega]
    exact ⟨owner', q1, q2⟩
theorem relaid_w (t : SetTable) {hs : Array Int} {wanted M : Nat} (hw : SetTable.sizeAbove wanted - 1 = M) (hM : MaskW M) (hn : hs.size ≤ M) :
    ∃ t' order, t.relaid hs wanted = some (t', order) ∧ order.toList.Perm (List.range hs.size) ∧ TabW t' hs.size ∧ t'.mask = M ∧ t'.led = t.led ∧ t'.plain = t.plain := by
  obtain ⟨owner, e, W⟩ := lain_all hM.full hs.toList 0 _ (Lain.zero M) (by rw [Array.length_toList]; omega)
  rw [Nat.zero_add, Array.length_toList] at e W
  have hr : t.relaid hs wanted = some (tabOf t M owner, ((liveOf M owner).map (·.2)).toArray) := by
    rw [relaid_eq, hw, layClean_eq, e]
    rfl
  obtain ⟨r1, r2⟩ : Ris ((liveOf M owner).map (·.1)) ∧ ∀ x ∈ (liveOf M owner).map (·.1), x ∈ List.range (M + 1) := ris_live (fun j => owner.getD j none) (List.range (M + 1)) (by
    unfold Ris
    first | exact List.pairwise_lt_range | exact List.pairwise_lt_range _)
  have inK : ∀ k, k < hs.size → k ∈ (liveOf M owner).map (·.2) := fun k hk => by
    obtain ⟨j, j1, j2⟩ := W.all k hk
    exact List.mem_map.mpr ⟨(j, k), (mem_live W.sz).2 ⟨j1, j2⟩, rfl⟩
  have hlen : (liveOf M owner).length = hs.size := by
    obtain ⟨ps, p1, p2⟩ := W.ps
    have a := nat_nodup_len _ ps (r1.imp fun h => Nat.ne_of_lt h) fun x hx => by
      obtain ⟨⟨y, k⟩, hq, rfl⟩ := List.mem_map.mp hx
      obtain ⟨b1, b2⟩ := (mem_live W.sz).1 hq
      exact p2 y b1 (by rw [b2]; exact fun z => nomatch z)
    have b := nat_nodup_len (List.range hs.size) _ List.nodup_range fun k hk => inK k (List.mem_range.mp hk)
    rw [List.length_map, p1] at a
    rw [List.length_map, List.length_range] at b
    omega
  refine ⟨_, _, hr, perm_range hs.size _ (by rw [List.length_map]; exact hlen) inK, ⟨r1, rfl, ?_, hM, fun x hx => Nat.le_of_lt_succ (List.mem_range.mp (r2 x hx))⟩, rfl, rfl, rfl⟩
  show ((liveOf M owner).map (·.1)).toArray.size = hs.size
  rw [List.size_toArray, List.length_map]
  exact hlen
theorem size_308 : SetTable.sizeAbove (SetTable.grown 77) = 512 := by decide +kernel
end AL

set_option Elab.async false
set_option linter.all false
set_option maxRecDepth 100000
set_option maxHeartbeats 4000000
/-! sets of up to 300 different tuples of ints: one more is put in -/
namespace AL
open PySem PySem.Spec L2 PyProof.Rows
section
variable {P : Program} {w : World} {A : Around} {E : Value → Shared → Prop} {s : Shared}
structure SetW (P : Program) (w : World) (h : Heap) (a : Addr) (L : List (Addr × List Int)) (es : Array (Int × Value)) (ep : Nat) (t : SetTable) : Prop where
  ob : ∃ o, h.get? a = some o ∧ o.ExactSet ∧ o.data = .set es ep t
  rows : es.toList = rowsOf P w L
  tab : TabW t L.length
  nd : (L.map (·.2)).Nodup
  tup : ∀ p ∈ L, IsT P w h p.2 p.1
  plain : t.plain = true
  led : w.params.followText "set-order" = true ∨ t.led = true
  room : L.length * 5 < t.mask * 3
  few : L.length ≤ 300
variable {a : Addr} {L : List (Addr × List Int)} {es : Array (Int × Value)} {ep : Nat} {t : SetTable}
theorem rows_size (h : es.toList = rowsOf P w L) : es.size = L.length := by
  have e := congrArg List.length h
  rwa [Array.length_toList, show (rowsOf P w L).length = L.length from List.length_map ..] at e
theorem TabW.fit {n : Nat} (T : TabW t n) (hn : n ≤ t.mask) : t.fits n = true := by
  unfold SetTable.fits SetTable.fill
  rw [T.dm, T.sz, Bool.and_eq_true, beq_iff_eq, decide_eq_true_eq]
  exact ⟨rfl, hn⟩
theorem SetW.fit (R : SetW P w s.heap a L es ep t) : t.fits es.size = true := by
  rw [rows_size R.rows]
  exact R.tab.fit (by have := R.room; omega)
theorem rows_at (h : es.toList = rowsOf P w L) {i : Nat} {p : Addr × List Int} (hp : L[i]? = some p) : es[i]? = some (thash P w p.2, Value.ref p.1) := by
  rw [← Array.getElem?_toList, h]
  show (L.map _)[i]? = _
  rw [List.getElem?_map, hp]
  rfl
theorem nth_dm (m : Nat) : ∀ (n : Nat) (p : SetTable.Probe), p.dummy = none → (nth m p n).dummy = none
  | 0, _, h => h
  | n + 1, p, h => nth_dm m n (adv m p) (by unfold adv; split <;> exact h)
/-- the start of a way -/
noncomputable abbrev wayP (m : Nat) (h : Int) : SetTable.Probe := runAt m (SetTable.bits h % (m + 1)) (SetTable.bits h)
/-- a search for what isn't in: it ends at the first free slot -/
theorem seek (R : SetW P w s.heap a L es ep t) {x : Addr} {k : List Int} (hx : IsT P w s.heap k x) (hu : A.units < cLine) (new : k ∉ L.map (·.2)) {K : Nat} (hKf : K < 10 * SetTable.turns t.mask)
    (hK : way t.mask (thash P w k) K ∉ t.place.toList) (hKb : ∀ c, c < K → way t.mask (thash P w k) c ∈ t.place.toList) {Q : SetFound → Shared → Prop} (q : Q (.free (way t.mask (thash P w k) K) false) s) :
    ∀ (f c : Nat) (stand : Option SetTable.Probe), stand.getD (t.probeStart (thash P w k)) = nth t.mask (wayP t.mask (thash P w k)) c → c ≤ K → K - c < f → wpAny (model P w) A (setSearchFrom a (.ref x) (thash P w k) true f stand) Q E s
  | 0, _, _, _, _, hf => absurd hf (Nat.not_lt_zero _)
  | f + 1, c, stand, hst, hc, hf => by
    obtain ⟨o, ho, _, hd⟩ := R.ob
    rw [setSearchFrom_succ]
    refine wpAny_bind (wpAny_setState_of ho hd R.fit ?_)
    dsimp only
    refine wp_if_neg (by unfold SetTable.gaveWay; rw [R.tab.msk.odd]; decide) ?_
    try refine wpAny_bind (wpAny_pure ?_)
    have sh : ∀ n, nth t.mask (nth t.mask (wayP t.mask (thash P w k)) c) n = nth t.mask (wayP t.mask (thash P w k)) (c + n) := fun n => (nth_add t.mask c _ n).symm
    have shj : ∀ n, (nth t.mask (nth t.mask (wayP t.mask (thash P w k)) c) n).j = way t.mask (thash P w k) (c + n) := fun n => congrArg SetTable.Probe.j (sh n)
    have spec := go_spec t R.tab.ris R.tab.dm (fun i => (es[i]?.map (·.1)).getD 0) (thash P w k) (10 * SetTable.turns t.mask) (K - c) (nth t.mask (wayP t.mask (thash P w k)) c) (nth_dm _ _ _ rfl) (by omega)
      (fun n hn => by rw [shj]; exact hKb _ (by omega)) (by rw [shj, show c + (K - c) = K by omega]; exact hK)
    rcases spec with ⟨n, i, hn, hi, _, _, hp⟩ | ⟨_, hp⟩
    · have hp' : t.probe (fun i => (es[i]?.map (·.1)).getD 0) (thash P w k) (stand.getD (t.probeStart (thash P w k))) = some (.candidate (way t.mask (thash P w k) (c + n)) i (nth t.mask (wayP t.mask (thash P w k)) (c + (n + 1)))) := by
        rw [hst, ← shj, ← sh]
        exact hp
      rw [hp']
      dsimp only
      rw [shj] at hi
      have hil : i < L.length := by
        have := (List.getElem?_eq_some_iff.mp hi).1
        rwa [Array.length_toList, R.tab.sz] at this
      obtain ⟨p, hpi⟩ : ∃ p, L[i]? = some p := ⟨_, List.getElem?_eq_getElem hil⟩
      have hpm := List.mem_of_getElem? hpi
      have hpk : ¬ p.2 = k := fun e => new (List.mem_map.mpr ⟨p, hpm, e⟩)
      have rest : wpAny (model P w) A (searchRest a (.ref x) (thash P w k) true f es t (way t.mask (thash P w k) (c + n)) i (nth t.mask (wayP t.mask (thash P w k)) (c + (n + 1)))) Q E s := by
        unfold searchRest
        rw [rows_at R.rows hpi]
        dsimp only
        refine wpAny_bind (wpAny_holding (wpAny_eqBool_tuple hu (R.tup p hpm) hx ?_))
        refine wpAny_bind (wpAny_setState_of ho hd R.fit ?_)
        dsimp only
        refine wp_if_neg (by simp [hpk]) ?_
        try refine wpAny_bind (wpAny_pure ?_)
        rw [sameMem]
        dsimp only
        have hsl : t.slot (way t.mask (thash P w k) (c + n)) = .live i := slot_live R.tab.ris hi
        simp only [if_true, hsl, rows_at R.rows hpi]
        refine wpAny_bind (wpAny_isSame_ref_self (wpAny_bind (wpAny_pure ?_)))
        simp only [if_true]
        refine wp_if_neg (by simp [hpk]) ?_
        exact seek R hx hu new hKf hK hKb q f (c + (n + 1)) _ rfl (by omega) (by omega)
      by_cases hl : t.led = true
      · refine wp_if_neg (by simp [hl]) ?_
        try refine wpAny_bind (wpAny_pure ?_)
        exact rest
      · refine wp_if_pos (by simp [hl]) ?_
        refine wpAny_bind (seen_tup hx (fun y hy => ?_) ?_)
        · obtain ⟨e, he, rfl⟩ := List.mem_map.mp hy
          have he2 : e ∈ es.toList := by
            have : e ∈ es ∧ e.1 = thash P w k := by simpa using he
            simpa using this.1
          rw [R.rows] at he2
          obtain ⟨r, hr, rfl⟩ := List.mem_map.mp he2
          exact ⟨r.2, r.1, rfl, R.tup r hr⟩
        · refine wp_if_neg (by decide) ?_
          try refine wpAny_bind (wpAny_pure ?_)
          exact rest
    · have hp' : t.probe (fun i => (es[i]?.map (·.1)).getD 0) (thash P w k) (stand.getD (t.probeStart (thash P w k))) = some (.empty (way t.mask (thash P w k) K) none) := by
        rw [hst, show way t.mask (thash P w k) K = (nth t.mask (nth t.mask (wayP t.mask (thash P w k)) c) (K - c)).j by rw [shj, show c + (K - c) = K by omega]]
        exact hp
      rw [hp']
      exact wpAny_pure q
/-- the entries in the new order -/
theorem rows_order (order : Array Nat) (hr : es.toList = rowsOf P w L) (hp : order.toList.Perm (List.range L.length)) : ∃ L2, (order.filterMap (es[·]?)).toList = rowsOf P w L2 ∧ L2.Perm L :=
  let ⟨L2, h1, h2, _⟩ := order_rows L es order hr hp
  ⟨L2, h1, h2⟩
/-- laid anew, larger -/
theorem relay_w {o : Obj} (ho : s.heap.get? a = some o) (hex : o.ExactSet) (hd : o.data = .set es ep t) (hr : es.toList = rowsOf P w L) (T : TabW t L.length) (hm : L.length ≤ t.mask) (nd : (L.map (·.2)).Nodup) (tup : ∀ p ∈ L, IsT P w s.heap p.2 p.1)
    (pl : t.plain = true) (ld : w.params.followText "set-order" = true ∨ t.led = true) (few : L.length ≤ 300) {wanted M : Nat} (hw : SetTable.sizeAbove wanted - 1 = M) (hw2 : SetTable.sizeAbove wanted ≤ 512) (hM : MaskW M) (hn : L.length * 5 < M * 3) {Q : Unit → Shared → Prop}
    (hQ : ∀ h' L' es' ep' t', Heap.SameBut a s.heap h' → SetW P w h' a L' es' ep' t' → L'.Perm L → Q () { s with heap := h' }) : wpAny (model P w) A (setRelay a wanted) Q E s := by
  have hsl := rows_size hr
  obtain ⟨t', order, e, hp, T', em, el, epl⟩ := relaid_w t (hs := es.map (·.1)) hw hM (by rw [Array.size_map, hsl]; omega)
  rw [Array.size_map, hsl] at hp T'
  obtain ⟨L2, r1, r2⟩ := rows_order order hr hp
  have hs2 : (order.filterMap (es[·]?)).size = es.size := by rw [rows_size r1, r2.length_eq, hsl]
  rw [setRelay_eq]
  refine wpAny_bind (wpAny_setState_of ho hd (by rw [hsl]; exact T.fit hm) ?_)
  dsimp only
  refine wp_if_neg (by rw [sizeLine_eq]; omega) ?_
  try refine wpAny_bind (wpAny_pure ?_)
  rw [e]
  dsimp only
  refine wpAny_bind ?_
  refine wp_if_neg (by rw [hs2]; simp) ?_
  try refine wpAny_bind (wpAny_pure ?_)
  refine wpAny_pure ?_
  dsimp only
  refine wpAny_storeSet_of ho hd ?_ (by rw [hs2, hsl, sizeLine_eq]; omega)
  have sb : Heap.SameBut a s.heap (s.heap.update a (Obj.putSet (order.filterMap (es[·]?)) t')) := Heap.SameBut.update ..
  refine hQ _ L2 _ (ep + 1) t' sb ⟨⟨_, store_at ho hd, ⟨hex.1, hex.2.1, hex.2.2⟩, rfl⟩, r1, by rw [r2.length_eq]; exact T', (r2.map (·.2)).nodup_iff.mpr nd, fun p hpm => isT_same (tup p (r2.mem_iff.mp hpm)) ho hd sb, by rw [epl]; exact pl, by rw [el]; exact ld, ?_, by rw [r2.length_eq]; exact few⟩ r2
  rw [r2.length_eq, em]
  exact hn
theorem size_of_grown {n m : Nat} (hm : MaskW m) (h1 : n * 5 < m * 3) (h2 : m * 3 ≤ (n + 1) * 5) (h3 : n + 1 ≤ 300) :
    n + 1 ≤ m ∧ ∃ M, SetTable.sizeAbove (SetTable.grown (n + 1)) - 1 = M ∧ SetTable.sizeAbove (SetTable.grown (n + 1)) ≤ 512 ∧ MaskW M ∧ (n + 1) * 5 < M * 3 := by
  rcases hm with (rfl | rfl | rfl) | rfl
  · obtain rfl : n = 4 := by omega
    exact ⟨by omega, 31, by rw [size_20], by rw [size_20]; decide, .inl (.inr (.inl rfl)), by decide⟩
  · obtain rfl : n = 18 := by omega
    exact ⟨by omega, 127, by rw [size_76], by rw [size_76]; decide, .inl (.inr (.inr rfl)), by decide⟩
  · obtain rfl : n = 76 := by omega
    exact ⟨by omega, 511, by rw [size_308], by rw [size_308]; decide, .inr rfl, by decide⟩
  · exfalso
    omega
/-- a new one is put in -/
theorem add_w (R : SetW P w s.heap a L es ep t) {x : Addr} {k : List Int} (hx : IsT P w s.heap k x) (hu : A.units < cLine) (new : k ∉ L.map (·.2)) (hfew : L.length + 1 ≤ 300) {Q : Bool → Shared → Prop}
    (hQ : ∀ h' L' es' ep' t', Heap.SameBut a s.heap h' → SetW P w h' a L' es' ep' t' → L'.Perm ((x, k) :: L) → Q true { s with heap := h' }) : wpAny (model P w) A (setAddHashed a (.ref x) (thash P w k)) Q E s := by
  obtain ⟨o, ho, hex, hd⟩ := R.ob
  have hsl := rows_size R.rows
  have hroom := R.room
  have hml := R.tab.msk.le
  obtain ⟨K, hKf, hK, hKb⟩ := R.tab.free (by omega) (thash P w k)
  unfold setAddHashed
  refine wpAny_holding ?_
  rw [show (100000 : Nat) = 99999 + 1 from rfl, setAddHashedIn_succ]
  refine wpAny_bind (wpAny_setState_of ho hd R.fit ?_)
  dsimp only
  refine wp_if_neg (by simp [byScan, Value.scannable]) ?_
  try refine wpAny_bind (wpAny_pure ?_)
  unfold setSearch
  refine wpAny_bind (seek R hx hu new hKf hK hKb ?_ 100000 0 none rfl (Nat.zero_le _) (by unfold SetTable.turns at hKf; omega))
  dsimp only
  refine wpAny_bind (wpAny_setState_of ho hd R.fit ?_)
  dsimp only
  obtain ⟨q1, q2, q3⟩ := R.tab.put (way_in _ _ _) hK
  have hp1 : (t.put (way t.mask (thash P w k) K)).1.plain = true := R.plain
  have hp2 : (t.put (way t.mask (thash P w k) K)).2 = SetTable.below t.place (way t.mask (thash P w k) K) := rfl
  have hp3 : (t.put (way t.mask (thash P w k) K)).1.mask = t.mask := rfl
  have hp4 : (t.put (way t.mask (thash P w k) K)).1.led = t.led := rfl
  generalize t.put (way t.mask (thash P w k) K) = pt at q2 q3 hp1 hp2 hp3 hp4 ⊢
  obtain ⟨t1, p⟩ := pt
  dsimp only at q2 q3 hp1 hp2 hp3 hp4 ⊢
  rw [← hp2] at q1
  clear hp2
  first
    | (refine wpAny_bind ?_; refine wp_if_pos hp1 ?_; refine hashBy_tup hx ?_)
    | refine wp_if_pos hp1 (wpAny_bind (hashBy_tup hx ?_))
  simp only [if_true]
  have hin : (SetTable.insertAt es p (thash P w k, Value.ref x)).toList = rowsOf P w (L.take p ++ (x, k) :: L.drop p) := by
    rw [SetTable.toList_insertAt, rows_put, R.rows]
  have pm := put_perm L p (x, k)
  generalize SetTable.insertAt es p (thash P w k, Value.ref x) = es1 at hin ⊢
  generalize L.take p ++ (x, k) :: L.drop p = L1 at pm hin
  have hlen : L1.length = L.length + 1 := pm.length_eq
  have hes := rows_size hin
  have nd1 : (L1.map (·.2)).Nodup := (pm.map (·.2)).nodup_iff.mpr (by rw [List.map_cons]; exact List.nodup_cons.mpr ⟨new, R.nd⟩)
  refine wpAny_bind (wpAny_storeSet_of ho hd ?_ (by rw [hes, sizeLine_eq]; omega))
  have sb : Heap.SameBut a s.heap (s.heap.update a (Obj.putSet es1 t1)) := Heap.SameBut.update ..
  have ho1 := store_at (es' := es1) (t' := t1) ho hd
  generalize s.heap.update a (Obj.putSet es1 t1) = h1 at sb ho1 ⊢
  have tup1 : ∀ q ∈ L1, IsT P w h1 q.2 q.1 := fun q hq => by
    rcases List.mem_cons.mp (pm.mem_iff.mp hq) with e | hq
    · rw [e]; exact isT_same hx ho hd sb
    · exact isT_same (R.tup q hq) ho hd sb
  have ld1 : w.params.followText "set-order" = true ∨ t1.led = true := by rw [hp4]; exact R.led
  rw [← hlen] at q2 q3
  by_cases hf : t1.tooFull = true
  · first
      | (refine wpAny_bind ?_; refine wp_if_pos (by simp [hf]) ?_)
      | (refine wp_if_pos (by simp [hf]) ?_; refine wpAny_bind ?_)
    have hfull : t.mask * 3 ≤ (L.length + 1) * 5 := by
      have h := hf
      unfold SetTable.tooFull at h
      rw [decide_eq_true_eq, q3, hp3, hlen] at h
      exact h
    obtain ⟨z0, M, z1, z2, z3, z4⟩ := size_of_grown R.tab.msk hroom hfull hfew
    rw [hsl]
    refine relay_w (s := { s with heap := h1 }) ho1 ⟨hex.1, hex.2.1, hex.2.2⟩ rfl hin q2 (by rw [hlen, hp3]; exact z0) nd1 tup1 hp1 ld1 (by omega) z1 z2 z3 (by rw [hlen]; exact z4) ?_
    intro h2 L2 es2 ep2 t2 sb2 R2 pm2
    exact wpAny_pure (hQ h2 L2 es2 ep2 t2 (sb.trans sb2) R2 (pm2.trans pm))
  · first
      | refine wp_if_neg (by simp [hf]) ?_
      | (refine wpAny_bind ?_; refine wp_if_neg (by simp [hf]) ?_; refine wpAny_pure ?_)
    refine wpAny_pure (hQ h1 L1 es1 (ep + 1) t1 sb ⟨⟨_, ho1, ⟨hex.1, hex.2.1, hex.2.2⟩, rfl⟩, hin, q2, nd1, tup1, hp1, ld1, ?_, by omega⟩ pm)
    have h := hf
    unfold SetTable.tooFull at h
    rw [decide_eq_true_eq, q3] at h
    omega
end
end AL

set_option Elab.async false
set_option linter.all false
set_option maxRecDepth 100000
set_option maxHeartbeats 4000000
/-! set(xs), sorted(set) of up to 300 different tuples of ints -/
namespace AL
open PySem PySem.Spec L2 PyProof.Rows PySem.W
section
variable {P : Program} {w : World} {A : Around} {E : Value → Shared → Prop} {s : Shared}
theorem SetW.stay {h h' : Heap} {a : Addr} {L : List (Addr × List Int)} {es : Array (Int × Value)} {ep : Nat} {t : SetTable} (R : SetW P w h a L es ep t) (ha : ∀ o, h.get? a = some o → h'.get? a = some o) (ht : ∀ p ∈ L, IsT P w h' p.2 p.1) : SetW P w h' a L es ep t := by
  obtain ⟨o, ho, r⟩ := R.ob
  exact ⟨⟨o, ha o ho, r⟩, R.rows, R.tab, R.nd, ht, R.plain, R.led, R.room, R.few⟩
theorem SetW.new {h : Heap} {a : Addr} (ho : h.get? a = some { cls := .type "set", dict := none, data := .set #[] 0 (.fresh 0 0 (!w.params.followText "set-order")) }) : SetW P w h a [] #[] 0 (.fresh 0 0 (!w.params.followText "set-order")) :=
  ⟨⟨_, ho, ⟨rfl, rfl, rfl⟩, rfl⟩, rfl, ⟨List.Pairwise.nil, rfl, rfl, .inl (.inl rfl), (fun x hx => by cases hx)⟩, List.nodup_nil, (fun p hp => by cases hp), rfl, by
    show _ ∨ (!w.params.followText "set-order") = true
    cases w.params.followText "set-order"
    · exact .inr rfl
    · exact .inl rfl, by show 0 * 5 < 7 * 3; decide, Nat.zero_le _⟩
/-- the turns of set.update: each item is new -/
theorem set_turns {I : Addr} {fp wr : List Addr} {G : Array GenState → Array GenState → Prop} {n : Nat} {Pv : Nat → Value → Prop} {St : Nat → Shared → Prop} {R : Result → Shared → Prop} (W : WalksS P w A.in1 I fp wr G n Pv St) (S : Addr) (hSf : S ∉ fp) (ks : List (Addr × List Int)) (hn : n = ks.length)
    (hfew : ks.length ≤ 300) (nd : (ks.map (·.2)).Nodup) (hval : ∀ i v, Pv i v → ∃ p, ks[i]? = some p ∧ v = .ref p.1) (h0 : Heap) (hk : ∀ p ∈ ks, IsT P w h0 p.2 p.1) (hS0 : h0.get? S = none) (hw0 : ∀ b ∈ wr, h0.get? b = none) (hu : A.in1.units < cLine) :
    ∀ (k i : Nat) (s : Shared), i + k = n → St i s → (∀ b o, h0.get? b = some o → s.heap.get? b = some o) → (∃ L es ep t, SetW P w s.heap S L es ep t ∧ L.Perm (ks.take i)) →
      (∀ s' L es ep t, Moved (S :: wr) G s s' → SetW P w s'.heap S L es ep t → L.Perm ks → (∀ b o, h0.get? b = some o → s'.heap.get? b = some o) → R (.ok (.ret .none)) s') → codeAny (model P w) A (.builtin "set.update.loop" ⟨[.ref S, .ref I], []⟩) R s := by
  have hSw : S ∉ wr := fun h => hSf (W.sub _ h)
  have stays : ∀ {s s' : Shared}, Moved wr G s s' → (∀ b o, h0.get? b = some o → s.heap.get? b = some o) → ∀ b o, h0.get? b = some o → s'.heap.get? b = some o := fun hm hkp b o e =>
    hm.heap b o (fun hb => by rw [hw0 b hb] at e; cases e) (hkp b o e)
  intro k
  induction k with
  | zero =>
    intro i s hi hst hkp ⟨L, es, ep, t, hS, pm⟩ hR
    obtain rfl : i = n := hi
    refine codeAny_builtin F.entry_set_update_loop ?_
    rw [Around.under_plainId F.plain_set_update_loop _]
    show wpAny _ A.in1 (pyNext (.ref I) >>= _) _ _ s
    refine wpAny_bind (W.done s _ _ hst fun s' hm => ?_)
    have hkp' := stays hm hkp
    rw [hn, List.take_length] at pm
    exact wpAny_pure (hR s' L es ep t (hm.mono fun b hb => List.mem_cons_of_mem _ hb) (hS.stay (fun o e => hm.heap S o hSw e) fun p hp => isT_keep (hk p (pm.mem_iff.mp hp)) hkp') pm hkp')
  | succ k ih =>
    intro i s hi hst hkp ⟨L, es, ep, t, hS, pm⟩ hR
    refine codeAny_builtin F.entry_set_update_loop ?_
    rw [Around.under_plainId F.plain_set_update_loop _]
    show wpAny _ A.in1 (pyNext (.ref I) >>= _) _ _ s
    refine wpAny_bind (W.item i s _ _ (by omega) hst fun v s' hP hst' hm => ?_)
    obtain ⟨p, hp, rfl⟩ := hval i v hP
    have hkp' := stays hm hkp
    have inK : ∀ q ∈ L, q ∈ ks := fun q hq => List.mem_of_mem_take (pm.mem_iff.mp hq)
    have hS' : SetW P w s'.heap S L es ep t := hS.stay (fun o e => hm.heap S o hSw e) fun q hq => isT_keep (hk q (inK q hq)) hkp'
    have hx : IsT P w s'.heap p.2 p.1 := isT_keep (hk p (List.mem_of_getElem? hp)) hkp'
    have tk : ks.take (i + 1) = ks.take i ++ [p] := take_next hp
    have hnew : p.2 ∉ L.map (·.2) := fun hm2 => by
      have z : p.2 ∈ (ks.take i).map (·.2) := (pm.map (·.2)).mem_iff.mp hm2
      have n2 : ((ks.take (i + 1)).map (·.2)).Nodup := nd.sublist ((List.take_sublist _ _).map _)
      rw [tk, List.map_append, List.nodup_append] at n2
      exact n2.2.2 p.2 z p.2 (List.mem_singleton.mpr rfl) rfl
    have hil := (List.getElem?_eq_some_iff.mp hp).1
    have hLl : L.length = i := by rw [pm.length_eq, List.length_take]; omega
    show wpAny _ A.in1 (holding [Value.ref p.1] (setAdd S (.ref p.1)) >>= _) _ _ s'
    refine wpAny_bind (wpAny_holding ?_)
    unfold setAdd
    refine wpAny_holding ?_
    refine wpAny_bind (wpAny_pyHash_tuple hu hx ?_)
    refine add_w (s := { s' with toks := s'.toks + (p.2.length + 1) }) hS' hx hu hnew (by omega) fun h' L' es' ep' t' hsb hS2 pm2 => ?_
    refine wpAny_pure ⟨plainId_quiet F.plain_set_update_loop _, ih (i + 1) _ (by omega) (W.frame _ s' _ _ hst' (Nat.le_add_right _ _) fun b hb o e => ?_) (fun b o e => (hsb.2 b (fun z => by rw [z, hS0] at e; cases e)).trans (hkp' b o e)) ⟨L', es', ep', t', hS2, ?_⟩ fun s'' L2 es2 ep2 t2 hm'' hS'' pm'' hkp'' => ?_⟩
    · rw [hsb.2 b (fun h => hSf (h ▸ hb))]
      exact e
    · rw [tk]
      exact pm2.trans ((pm.cons p).trans (List.perm_append_singleton p _).symm)
    · refine hR s'' L2 es2 ep2 t2 (Moved.trans W.gtrans ((hm.mono fun b hb => List.mem_cons_of_mem _ hb).then_heap (Nat.le_add_right _ _) fun b o hb e => ?_) hm'') hS'' pm'' hkp''
      rw [hsb.2 b (fun h => hb (h ▸ List.mem_cons_self ..))]
      exact e
/-- the data of a tuple of ints -/
noncomputable def encT (k : List Int) : PyData := .tuple (k.map PyData.int)
theorem reads_ints {h : Heap} : ∀ {k : List Int} {vs : List Value}, ItemsAre (intKind P w) k vs → ReadsAll h vs (k.map PyData.int) []
  | _, _, .nil => .nil
  | _, _, .cons h1 r => by
    obtain ⟨t, rfl⟩ := Value.isInt_shape h1
    exact .cons (as := []) (bs := []) (.int _ _) (reads_ints r)
theorem reads_tup {h : Heap} {k : List Int} {b : Addr} (x : IsT P w h k b) : Reads h (.ref b) (encT k) [] := by
  obtain ⟨o, items, n, ho, hc, hd, hi⟩ := x
  exact .tuple ho hc hd (reads_ints hi)
theorem alike_ints : ∀ a b : List Int, alikeAll (a.map PyData.int) (b.map PyData.int) = true
  | [], _ => by rw [List.map_nil, alikeAll]
  | _ :: _, [] => by rw [List.map_nil, List.map_cons, alikeAll]
  | x :: a, y :: b => by
    rw [List.map_cons, List.map_cons, alikeAll, alike_ints a b]
    rfl
theorem alikeT (a b : List Int) : alike (encT a) (encT b) = true := by
  show alike (.tuple _) (.tuple _) = true
  rw [alike]
  exact alike_ints a b
theorem strict_or {α : Type} {R : α → α → Prop} : ∀ {l : List α}, l.Pairwise R → ∀ {x y : α}, x ∈ l → y ∈ l → x = y ∨ R x y ∨ R y x
  | [], _, _, _, h, _ => nomatch h
  | a :: l, hp, x, y, hx, hy => by
    rw [List.pairwise_cons] at hp
    rcases List.mem_cons.mp hx with ex | hx' <;> rcases List.mem_cons.mp hy with ey | hy'
    · exact .inl (ex.trans ey.symm)
    · rw [ex]; exact .inr (.inl (hp.1 _ hy'))
    · rw [ey]; exact .inr (.inr (hp.1 _ hx'))
    · exact strict_or hp.2 hx' hy'
theorem sort_fix {β : Type} {enc : β → PyData} {l ks : List β} (hp : l.Perm ks) (hs : ks.Pairwise fun p q => PySem.W.dataLt (enc p) (enc q) = true) : l.mergeSort (dataLe false enc) = ks := by
  have tl : TotalLe (dataLe false enc) := sortLe_total _ false _
  have ele : ∀ p q : β, dataLe false enc p q = !PySem.W.dataLt (enc q) (enc p) := fun _ _ => rfl
  have pm : (l.mergeSort (dataLe false enc)).Perm ks := (List.mergeSort_perm l _).trans hp
  refine List.Perm.eq_of_pairwise (le := fun a b => dataLe false enc a b = true) (fun x y hx hy h1 h2 => ?_) (sort_pairwise tl l) (hs.imp fun {p q} h => ?_) pm
  · rw [ele] at h1 h2
    rcases strict_or hs (pm.mem_iff.mp hx) hy with e | e | e
    · exact e
    · rw [e] at h2; cases h2
    · rw [e] at h1; cases h1
  · have t := tl.total p q
    rcases t with t | t
    · exact t
    · rw [ele, h] at t
      cases t
end
end AL

set_option Elab.async false
set_option linter.all false
set_option maxRecDepth 100000
set_option maxHeartbeats 4000000
/-! set(xs), sorted(set) of up to 300 different tuples of ints: the calls -/
namespace AL
open PySem PySem.Spec L2 PyProof.Rows PySem.W
section
variable {P : Program} {w : World} {A : Around} {E : Value → Shared → Prop} {s : Shared}
/-- a new set as it is made -/
noncomputable abbrev newSet (w : World) : Obj := { cls := .type "set", dict := none, data := .set #[] 0 (.fresh 0 0 (!w.params.followText "set-order")) }
theorem set_made {l : Addr} {items : Array Value} (ks : List (Addr × List Int)) {Q : Value → Shared → Prop} (hh : A.handled = none) (hl : s.heap.IsList l items) (hit : items.toList = ks.map fun p => Value.ref p.1)
    (hk : ∀ p ∈ ks, IsT P w s.heap p.2 p.1) (hfew : ks.length ≤ 300) (nd : (ks.map (·.2)).Nodup) (hu : A.units + 3 < cLine)
    (h : ∀ (h' : Heap) (tk : Nat) L es ep t, SetW P w h' s.heap.objs.size L es ep t → L.Perm ks → (∀ b o, s.heap.get? b = some o → h'.get? b = some o) → Q (.ref s.heap.objs.size) { s with heap := h', toks := tk }) :
    wpAny (model P w) A (call (.type "set") [.ref l]) Q E s := by
  have hisz : items.size = ks.length := by
    rw [← Array.length_toList, hit, List.length_map]
  obtain ⟨c, tl, hmro⟩ := F.called_set.mro
  have hmade := F.called_set.made
  have hsub := F.called_set.sub
  refine wpAny_call (codeAny_of_tree ?_)
  show wpAny _ _ (callAny (.type "set") _) _ _ _
  refine wpAny_pure ⟨Code.quiet_builtin _ (by decide +kernel), codeAny_builtin F.entry_type_call ?_⟩
  rw [Around.under_plain (weight_type_call_type "set" [.ref l] []) rfl]
  have h1 := F.called_set.notType
  have h2 := F.called_set.canCreate
  have hct := F.typeCall_set_1 (.ref l)
  repeat (any_goals (first | assumption | wp_step))
  refine codeAny_mono (code_set_led1 (.ref l) (E := E) (Q₁ := fun obj s₁ => obj = .ref s.heap.objs.size ∧ s₁ = { s with heap := s.heap.push (newSet w) }) ⟨rfl, rfl⟩) fun r s₁ hr => ?_
  cases r with
  | error e => exact hr
  | ok fl =>
    cases fl with
    | ret obj =>
      obtain ⟨rfl, rfl⟩ := hr
      have hS : (s.heap.push (newSet w)).get? s.heap.objs.size = some (newSet w) := Heap.get?_push_size _ rfl
      have hT : Shared.TypeIs { s with heap := s.heap.push (newSet w) } (.ref s.heap.objs.size) "set" := ⟨_, hS, rfl⟩
      have hli := F.called_set.init.lookup
      have hbi := F.called_set.init.bind (.ref s.heap.objs.size)
      repeat (any_goals (first | assumption | wp_step))
      refine codeAny_mono (codeAny_call_builtin (R := wants (fun r s₂ => r = .none ∧ ∃ h' tk L es ep t, s₂ = { s with heap := h', toks := tk } ∧ SetW P w h' s.heap.objs.size L es ep t ∧ L.Perm ks ∧ (∀ b o, s.heap.get? b = some o → h'.get? b = some o)) E)
        F.called_set.init.plain F.entry_set_init (check_set_init_1 hT ?_)) fun r₂ s₂ hr₂ => ?_
      · have hlS : l < s.heap.objs.size := let ⟨_, z, _⟩ := hl; Heap.lt_size z
        have hl1 : (s.heap.push (newSet w)).IsList l items := hl.push _
        obtain ⟨ol, hol, hcl, nl, hdl⟩ := id hl1
        obtain ⟨ocls, odict, odata, oslots⟩ := ol
        simp only at hcl hdl
        subst hcl; subst hdl
        have hsls := F.sub_list_set
        have hslf := F.sub_list_frozenset
        have hne : (Value.type "list" == Value.type "dict") = false := by decide
        unfold Builtin.«set.__init__» noKeywords Builtin.Frozenset.updateFrom
        generalize hPI : pyIter = PI
        wp_walk
        subst hPI
        refine wpAny_pyIter_list hl1 ?_
        refine wpAny_bind (wpAny_runValue ?_)
        have hh3 : A.in1.in1.in1.handled = none := by simp [hh]
        have hsz : (s.heap.push (newSet w)).objs.size = s.heap.objs.size + 1 := Heap.size_push ..
        have hneI : l ≠ (s.heap.push (newSet w)).objs.size := by rw [hsz]; exact Nat.ne_of_lt (Nat.lt_succ_of_lt hlS)
        have hSf : s.heap.objs.size ∉ [(s.heap.push (newSet w)).objs.size, l] := by
          rw [hsz]
          intro z
          rcases List.mem_cons.mp z with z | z
          · exact absurd z (Nat.ne_of_lt (Nat.lt_succ_self _))
          · exact absurd (List.mem_singleton.mp z) (Nat.ne_of_gt hlS)
        have hval : ∀ (i : Nat) (v : Value), items[i]? = some v → ∃ p, ks[i]? = some p ∧ v = .ref p.1 := fun i v hv => by
          rw [← Array.getElem?_toList, hit, List.getElem?_map] at hv
          cases hq : ks[i]? with
          | none => rw [hq] at hv; cases hv
          | some p => rw [hq] at hv; exact ⟨p, rfl, (Option.some.inj hv).symm⟩
        have none_of : ∀ b, s.heap.objs.size ≤ b → s.heap.get? b = none := fun b hb => by
          cases q : s.heap.get? b with
          | none => rfl
          | some o => exact absurd (Nat.lt_of_lt_of_le (Heap.lt_size q) hb) (Nat.lt_irrefl _)
        refine set_turns ((Walks.list hh3 _ l hneI items).toS) s.heap.objs.size hSf ks hisz hfew nd hval s.heap hk (none_of _ (Nat.le_refl _)) (fun b hb => none_of b (by rw [List.mem_singleton.mp hb, hsz]; exact Nat.le_succ _)) hu items.size 0 _ (Nat.zero_add _)
          ⟨⟨_, Heap.get?_push_size _ rfl, rfl, rfl⟩, hl1.push _⟩ (fun b o e => Heap.get?_push_of_some _ (Heap.get?_push_of_some _ e)) ⟨[], #[], 0, _, SetW.new (Heap.get?_push_of_some _ hS), List.Perm.refl _⟩ ?_
        intro s' L es ep t hm hS' pm hkp
        obtain ⟨h', g2, d', tk', os'⟩ := s'
        have eg : g2 = s.gens := hm.gens
        have ed : d' = s.drawn := hm.drawn
        have eo : os' = s.os := hm.os
        subst eg ed eo
        show wpAny _ _ _ _ _ _
        refine wpAny_pure ?_
        show wpAny _ _ (ret Value.none) _ _ _
        exact wpAny_pure ⟨rfl, h', tk', L, es, ep, t, rfl, hS', pm, hkp⟩
      · cases r₂ with
        | error e => exact hr₂
        | ok fl₂ =>
          cases fl₂ with
          | ret r =>
            obtain ⟨rfl, h', tk, L, es, ep, t, rfl, hS', pm, hk'⟩ := hr₂
            repeat (any_goals (first | assumption | wp_step))
            exact h _ _ _ _ _ _ hS' pm hk'
          | _ => exact hr₂.elim
    | _ => exact hr.elim
/-- the rows behind refs -/
theorem refs_rows {L : List (Addr × List Int)} : ∀ {vs : List Value}, (∀ v ∈ vs, ∃ q ∈ L, v = Value.ref q.1) → ∃ L1 : List (Addr × List Int), vs = L1.map (fun q => Value.ref q.1) ∧ ∀ q ∈ L1, q ∈ L
  | [], _ => ⟨[], rfl, fun _ h => nomatch h⟩
  | v :: vs, h => by
    obtain ⟨q, hq, rfl⟩ := h v (List.mem_cons_self ..)
    obtain ⟨L1, rfl, hs⟩ := refs_rows fun u hu => h u (List.mem_cons_of_mem _ hu)
    refine ⟨q :: L1, rfl, fun r hr => ?_⟩
    rcases List.mem_cons.mp hr with rfl | z
    · exact hq
    · exact hs r z
theorem refs_perm {L L1 : List (Addr × List Int)} (inj : ∀ q ∈ L, ∀ r ∈ L, q.1 = r.1 → q = r) (hs : ∀ q ∈ L1, q ∈ L) (nL : L.Nodup) (pm : (L1.map fun q => Value.ref q.1).Perm (L.map fun q => Value.ref q.1)) : L1.Perm L := by
  have nref : (L.map fun q => Value.ref q.1).Nodup := List.pairwise_map.mpr (List.Pairwise.imp_of_mem (fun {q r} hq hr hne e => hne (inj q hq r hr (by injection e))) nL)
  refine (List.perm_ext_iff_of_nodup (nodup_of_map (pm.nodup_iff.mpr nref)) nL).mpr fun q => ⟨hs q, fun hq => ?_⟩
  obtain ⟨r, hr, e⟩ := List.mem_map.mp (pm.mem_iff.mpr (List.mem_map.mpr ⟨q, hq, rfl⟩))
  rw [← inj r (hs r hr) q hq (by injection e)]
  exact hr
theorem each_rows {L1 : List (Addr × List Int)} {R : Value → (Addr × List Int) → Prop} (h : ∀ q ∈ L1, R (.ref q.1) q) : EachIs R (L1.map fun q => Value.ref q.1) L1 := by
  induction L1 with
  | nil => exact .nil
  | cons q L1 ih => exact .cons (h q (List.mem_cons_self ..)) (ih fun r hr => h r (List.mem_cons_of_mem _ hr))
theorem rows_each : ∀ {vs : List Value} {L1 : List (Addr × List Int)}, EachIs (fun v q => v = Value.ref q.1) vs L1 → vs = L1.map fun q => Value.ref q.1
  | _, _, .nil => rfl
  | _, _, .cons h r => by rw [h, rows_each r]; rfl
theorem sorted_w {a : Addr} {L ks : List (Addr × List Int)} {es : Array (Int × Value)} {ep : Nat} {t : SetTable} {Q : Value → Shared → Prop} (R : SetW P w s.heap a L es ep t) (pm : L.Perm ks) (hh : A.handled = none) (hu : A.units + 10 < cLine)
    (hne : ∀ p ∈ ks, p.2 ≠ []) (hs : ks.Pairwise fun p q => dataLt (encT p.2) (encT q.2) = true)
    (hQ : ∀ s' p (out : Array Value) (c : Nat), (∀ b o, s.heap.get? b = some o → s'.heap.get? b = some o) → s'.gens = s.gens → s'.os = s.os → s.heap.objs.size ≤ p → s'.heap.get? p = some (seqObj "list" out c) → out.toList = ks.map (fun q => Value.ref q.1) → Q (.ref p) s') :
    wpAny (model P w) A (call (.builtin "sorted") [.ref a]) Q E s := by
  obtain ⟨o, ho, hex, hd⟩ := R.ob
  have hsz := rows_size R.rows
  have hfew := R.few
  refine Calls.call_function_entry kind_sorted plain_sorted entry_sorted (args_sorted1 _) ?_
  unfold Builtin.«sorted»
  refine wpAny_bind (m := checkCount "sorted" 1 1 _) (wpAny_pure ?_)
  refine wpAny_bind (collect_set (A := A.in1) hh ⟨o, ho, hex.1, hd⟩ R.fit (by unfold scanBound; omega) R.tab.ris R.led fun s1 vs k1 hz g1 o1 pv => ?_)
  rw [R.rows, show (L2.rowsOf P w L).map (·.2) = L.map fun q => Value.ref q.1 by unfold L2.rowsOf; rw [List.map_map]; rfl] at pv
  obtain ⟨L1, rfl, hL1⟩ := refs_rows fun v hv => by
    obtain ⟨q, hq, e⟩ := List.mem_map.mp (pv.mem_iff.mp hv)
    exact ⟨q, hq, e.symm⟩
  have p1 : L1.Perm L := refs_perm (fun q hq r hr e => by
    have a1 := R.tup q hq
    rw [e] at a1
    exact Prod.ext e (a1.inj (R.tup r hr))) hL1 (nodup_of_map R.nd) pv
  have len1 : L1.length = L.length := p1.length_eq
  refine wpAny_bind (wpAny_newList ?_ (by rw [List.length_map, sizeLine_eq]; omega))
  have hoL : (s1.heap.push (seqObj "list" (L1.map fun q => Value.ref q.1).toArray 0)).get? s1.heap.objs.size = some (seqObj "list" (L1.map fun q => Value.ref q.1).toArray 0) := Heap.get?_push_size _ rfl
  have rd : ∀ q ∈ L1, Reads (s1.heap.push (seqObj "list" (L1.map fun q => Value.ref q.1).toArray 0)) (.ref q.1) (encT q.2) [] := fun q hq => reads_tup (P := P) (w := w) (isT_keep (R.tup q (hL1 q hq)) fun b u e => Heap.get?_push_of_some _ (k1 b u e))
  have hal : AllAlike (L1.map fun q => encT q.2) := fun x hx y hy => by
    obtain ⟨p, _, rfl⟩ := List.mem_map.mp hx
    obtain ⟨q, _, rfl⟩ := List.mem_map.mp hy
    exact alikeT p.2 q.2
  have hso : Sortable (L1.map fun q => encT q.2) := .inl fun x hx => by
    obtain ⟨p, hp, rfl⟩ := List.mem_map.mp hx
    cases hk : p.2 with
    | nil => exact absurd hk (hne p (pm.mem_iff.mp (hL1 p hp)))
    | cons i r => exact ⟨_, _, rfl⟩
  have dep : ∀ k : List Int, (encT k).depth ≤ 2 := fun k => by
    have g : ∀ k : List Int, PyData.depthAll (k.map PyData.int) ≤ 1 := fun k => by
      induction k with
      | nil => simp [PyData.depthAll]
      | cons i k ih =>
        simp only [List.map_cons, PyData.depthAll, PyData.depth]
        omega
    have := g k
    unfold encT
    simp only [PyData.depth]
    omega
  refine wpAny_bind (wpAny_holding (list_sort_data (s := { s1 with heap := s1.heap.push (seqObj "list" (L1.map fun q => Value.ref q.1).toArray 0) }) (R := fun v q => v = Value.ref q.1) (enc := fun q => encT q.2) hoL (each_rows fun _ _ => rfl) (each_rows fun q hq => ⟨[], rd q hq, fun z => nomatch z⟩) hal hso (by rw [sizeLine_eq]; omega) (fun b _ => ?_) fun out ho2 hout => ?_))
  · have := dep b.2
    show A.units + 1 + 1 + (encT b.2).depth < cLine
    omega
  · rw [sort_fix (enc := fun q => encT q.2) (p1.trans pm) hs] at hout
    have e := rows_each hout
    obtain ⟨c, hc⟩ := sortedHeap_at (vs := L1.map fun q => Value.ref q.1) (out := out.toArray) hoL
    refine wpAny_pure ⟨_, rfl, hQ _ s1.heap.objs.size out.toArray c (fun b u e => ?_) g1 o1 hz hc (by simpa using e)⟩
    have q := k1 b u e
    have hlt := Heap.lt_size q
    show (sortedHeap (s1.heap.push (seqObj "list" _ 0)) s1.heap.objs.size _ out.toArray).get? b = some u
    rw [sortedHeap_old (Nat.ne_of_lt hlt) (by rw [size_push']; exact Nat.lt_succ_of_lt hlt)]
    exact Heap.get?_push_of_some _ q
end
end AL

set_option Elab.async false
set_option linter.all false
set_option maxRecDepth 100000
set_option maxHeartbeats 4000000
/-! set(xs), sorted(set) of up to 300 different tuples of ints, in data -/
namespace AL
open PySem PySem.Spec L2 PyProof.Rows
/-- a set of the tuples ks stands at a -/
noncomputable def SetWP (P : Program) (w : World) (a : Addr) (ks : List (Addr × List Int)) (h : Heap) : Prop := ∃ (L : List (Addr × List Int)) (es : Array (Int × Value)) (ep : Nat) (t : SetTable), L.Perm ks ∧ (∃ o, h.get? a = some o ∧ o.ExactSet ∧ o.data = .set es ep t) ∧ es.toList = L2.rowsOf P w L ∧ TabW t L.length ∧
  (L.map (·.2)).Nodup ∧ t.plain = true ∧ (w.params.followText "set-order" = true ∨ t.led = true) ∧ L.length * 5 < t.mask * 3 ∧ L.length ≤ 300
noncomputable def SetWO (P : Program) (w : World) (a : Addr) (ks : List (Addr × List Int)) : HO := .ext (SetWP P w a ks)
theorem setWO_ok {P : Program} {w : World} {H : Hp} {h : Heap} {a : Addr} {ks : List (Addr × List Int)} (R : SetWP P w a ks h) : ObjOk P w H h a (SetWO P w a ks) := by
  refine ⟨R, ?_, fun h1 h2 p k => ?_⟩
  · obtain ⟨_, _, _, _, _, ⟨o, ho, _⟩, _⟩ := R
    exact ⟨o, ho⟩
  · obtain ⟨L, es, ep, t, pm, ⟨o, ho, r⟩, q⟩ := p
    exact ⟨L, es, ep, t, pm, ⟨o, k o ho, r⟩, q⟩
noncomputable def rSetW (K : Frg) (P : Program) (w : World) : List V → Hp → VK → Prop := fun xs H Q => ∃ (l : Addr) (ks : List (Addr × List Int)), xs = [V.ref l] ∧ SqL K H l (ks.map fun p => V.ref p.1) ∧ (∀ p ∈ ks, SqT K H p.1 (p.2.map V.int)) ∧ ks.length ≤ 300 ∧ (ks.map (·.2)).Nodup ∧
  ∀ a, H a = none → Q (.ref a) (upd H a (SetWO P w a ks))
noncomputable def rSortW (K : Frg) (P : Program) (w : World) : List V → Hp → VK → Prop := fun xs H Q => ∃ (a : Addr) (ks : List (Addr × List Int)), xs = [V.ref a] ∧ H a = some (SetWO P w a ks) ∧ (∀ p ∈ ks, SqT K H p.1 (p.2.map V.int)) ∧ (∀ p ∈ ks, p.2 ≠ []) ∧ ks.Pairwise (fun p q => PySem.W.dataLt (encT p.2) (encT q.2) = true) ∧
  ∀ p, H p = none → Q (.ref p) (upd H p (.lst (ks.map fun q => V.ref q.1)))
section
variable {X : Cx}
theorem cr_setW (hc : X.calm = true) (hu : X.A.units + 64 < cLine) : CallR X (.type "set") (rSetW X.K X.prog X.w) := by
  intro pins s σ H xs us Q I r h
  obtain ⟨l, ks, rfl, hl, hk, hf, nd, q⟩ := h
  rw [Vals.ref1 r]
  obtain ⟨its, rv, pl, hz⟩ := I.list hl
  have hn : H s.heap.objs.size = none := I.hok.fresh (Nat.le_refl _)
  refine set_made (P := X.prog) (w := X.w) ks (I.ok.hd hc) pl.isList (by simpa using refs_of_vals rv) (fun p hp => I.isT (hk p hp)) hf nd (by omega) fun h' tk L es ep t R pm k => ?_
  exact ⟨.ref s.heap.objs.size, _, I.laid (t' := tk) k (Nat.le_refl _) (setWO_ok (ks := ks) ⟨L, es, ep, t, pm, R.ob, R.rows, R.tab, R.nd, R.plain, R.led, R.room, R.few⟩), rfl, q _ hn⟩
theorem cr_sortW (hc : X.calm = true) (hu : X.A.units + 64 < cLine) : CallR X (.builtin "sorted") (rSortW X.K X.prog X.w) := by
  intro pins s σ H vs us Q I r h
  obtain ⟨a, ks, rfl, ha, hk, hne, hs, q⟩ := h
  obtain ⟨L, es, ep, t, pm, ob, z1, z2, z3, z4, z5, z6, z7⟩ : SetWP X.prog X.w a ks s.heap := (I.hok a _ ha).1
  have R : SetW X.prog X.w s.heap a L es ep t := ⟨ob, z1, z2, z3, fun p hp => I.isT (hk p (pm.mem_iff.mp hp)), z4, z5, z6, z7⟩
  rw [Vals.ref1 r]
  refine sorted_w R pm (I.ok.hd hc) (by omega) hne hs fun s' p out c k g o hp hg hout => ?_
  have hlen : (ks.map fun q => V.ref q.1).length ≤ sizeLine := by rw [List.length_map, sizeLine_eq, ← pm.length_eq]; omega
  have hn : H p = none := I.hok.fresh hp
  have hv : Vals (ks.map fun q => V.ref q.1) out.toList := by rw [hout]; exact vals_of_refs ks
  have J : Inv X pins σ (upd H p (.lst (ks.map fun q => V.ref q.1))) { s with heap := s'.heap, gens := s'.gens, drawn := s'.drawn, toks := s'.toks } :=
    I.call (ch := []) (Un.laid k hp hn) (I.hok.laid k hp ⟨hlen, out.toList, c, hv, hg⟩) (by rw [g]; exact I.bare) (fun _ z => nomatch z)
  have e : s' = { s with heap := s'.heap, gens := s'.gens, drawn := s'.drawn, toks := s'.toks } := by
    cases s'
    cases s
    cases o
    rfl
  rw [e]
  exact ⟨.ref p, _, J, rfl, q p hn⟩
end
theorem kSETW {X : Cx} {K : Frg} {P : Program} {w : World} (h : X.K = K) (hP : X.prog = P) (hw : X.w = w) (hc : X.calm = true) (hu : X.A.units + 64 < cLine) : CallR X (.type "set") (rSetW K P w) := h ▸ hP ▸ hw ▸ cr_setW hc hu
theorem kSRTW {X : Cx} {K : Frg} {P : Program} {w : World} (h : X.K = K) (hP : X.prog = P) (hw : X.w = w) (hc : X.calm = true) (hu : X.A.units + 64 < cLine) : CallR X (.builtin "sorted") (rSortW K P w) := h ▸ hP ▸ hw ▸ cr_sortW hc hu
section
variable {K : Frg} {F : Hp} {ms : Ms} {Q : QE} {P : Program} {w : World}
theorem rep_intsW : ∀ {k : List Int} {vs : List V}, RepL K F (k.map D.int) vs → vs = k.map V.int
  | [], _, .nil => rfl
  | i :: k, _, .cons h r => by
    cases h
    rw [rep_intsW r]
    rfl
/-- the addresses of a list of tuples of ints -/
theorem rep_tups : ∀ {os : List (List Int)} {vs : List V}, RepL K F (os.map fun o => D.tup (o.map D.int)) vs → ∃ ks : List (Addr × List Int), ks.map (·.2) = os ∧ vs = ks.map (fun p => V.ref p.1) ∧ ∀ p ∈ ks, SqT K F p.1 (p.2.map V.int)
  | [], _, .nil => ⟨[], rfl, rfl, fun _ h => nomatch h⟩
  | o :: os, _, .cons h r => by
    obtain ⟨ks, rfl, rfl, hk⟩ := rep_tups r
    cases h with
    | tup hs hr =>
      rename_i a us
      have := rep_intsW hr
      subst this
      refine ⟨(a, o) :: ks, rfl, rfl, fun p hp => ?_⟩
      rcases List.mem_cons.mp hp with rfl | hp
      · exact hs
      · exact hk p hp
theorem tups_rep : ∀ {ks : List (Addr × List Int)}, (∀ p ∈ ks, SqT K F p.1 (p.2.map V.int)) → RepL K F (ks.map fun p => D.tup (p.2.map D.int)) (ks.map fun p => V.ref p.1)
  | [], _ => .nil
  | p :: ks, h => by
    have ri : ∀ k : List Int, RepL K F (k.map D.int) (k.map V.int) := fun k => by
      induction k with
      | nil => exact .nil
      | cons i k ih => exact .cons (.int _) ih
    exact .cons (.tup (h p (List.mem_cons_self ..)) (ri p.2)) (tups_rep fun q hq => h q (List.mem_cons_of_mem _ hq))
/-- set(xs), xs a list of different tuples of ints -/
theorem ac_setW {d : D} {os : List (List Int)} (hl : LstA F ms d (os.map fun o => D.tup (o.map D.int))) (hz : os.length ≤ 300) (nd : os.Nodup)
    (q : ∀ a ks, ks.map (·.2) = os → (∀ p ∈ ks, SqT K F p.1 (p.2.map V.int)) → Q F ((a, .raw (SetWO P w a ks)) :: ms) (.ref a)) : AC K (rSetW K P w) [d] F ms Q := ac1 fun R v H Qc hv hh k => by
  obtain ⟨l, us, rfl, ha, rr⟩ := hl.to hh hv
  obtain ⟨ks, rfl, rfl, hk⟩ := rep_tups rr
  refine ⟨l, ks, rfl, ha, fun p hp => ex_t hh.ex (hk p hp), by rw [List.length_map] at hz; exact hz, nd, fun a hn => ?_⟩
  exact k F ((a, .raw (SetWO P w a ks)) :: ms) (.ref a) _ _ Ex.refl (hh.made (m := .raw (SetWO P w a ks)) hn upd_same) (.ref a) (q a ks rfl hk)
/-- sorted(set) of them, when the list was sorted -/
theorem ac_sortW {a : Addr} {ks : List (Addr × List Int)} (n : Nat) (hn : ms[n]? = some (a, .raw (SetWO P w a ks))) (hk : ∀ p ∈ ks, SqT K F p.1 (p.2.map V.int)) (hne : ∀ p ∈ ks, p.2 ≠ []) (hs : ks.Pairwise fun p q => PySem.W.dataLt (encT p.2) (encT q.2) = true)
    (q : ∀ F', Ex F F' → Q F' ms (.lst ((ks.map (·.2)).map fun o => D.tup (o.map D.int)))) : AC K (rSortW K P w) [.ref a] F ms Q := ac1 fun R v H Qc hv hh k => by
  cases hv
  have ha := (hh.at (get_app hn)).2
  refine ⟨a, ks, rfl, ha, fun p hp => ex_t hh.ex (hk p hp), hne, hs, fun p hp => ?_⟩
  obtain ⟨F', e, h2, hF⟩ := hh.grow (H' := upd H p (.lst (ks.map fun q => V.ref q.1))) (fun b u z => by rw [upd_ne (fun y => by rw [y, hp] at z; cases z)]; exact z)
  refine k F' ms _ (.ref p) _ e h2 (.lst ((hF p hp).trans upd_same) ?_) (q F' e)
  rw [List.map_map]
  exact tups_rep fun r hr => ex_t e (hk r hr)
end
/-! ### the order of tuples of ints -/
theorem enc_lt (a b : List Int) : PySem.W.dataLt (encT a) (encT b) = PySem.W.listLt a b := by
  show PySem.W.dataLt (.tuple _) (.tuple _) = _
  rw [PySem.W.dataLt_tuple]
  exact PySem.W.lexAll_map a b
end AL

set_option Elab.async false
set_option linter.all false
set_option maxRecDepth 100000
set_option maxHeartbeats 4000000
/-! for v in d.values(), under the lock -/
namespace AL
open PySem PySem.Spec L2 PyProof.Rows
section
variable {Γ : Cg} {F : Hp} {ms : Ms} {S : Sg} {td : TE} {P : Hp → Ms → List D → (Ms → Prop) → Prop}
noncomputable def valsD (kvs : List (Key × D)) : List D := kvs.map fun p => p.2
theorem ai_vals (h : AE Γ td F ms S fun F1 ms1 x => ∃ (l : Addr) (od : Obj) (vs : List (Key × V)) (kvs : List (Key × D)) (n : Nat), x = .ref l ∧ ms1[n]? = some (l, .raw (.frz od (.dK vs))) ∧ RepK Γ.K F1 kvs vs ∧ P F1 ms1 (valsD kvs) fun ms' => ∃ n : Nat, ms'[n]? = some (l, .raw (.frz od (.dK vs)))) :
    AI Γ (iVals td) F ms S P := fun R σ H Rc hs hh x k =>
  h R σ H _ hs hh x fun F1 ms1 d v H1 e1 h1 r1 ⟨l, od, vs, kvs, n, hx, hn, rk, p⟩ => by
    subst hx
    cases r1
    refine ⟨l, od, vs, rfl, (h1.at (get_app hn)).2, k F1 ms1 _ _ _ H1 e1 h1 ⟨fun _ i H' F' ms' hi e' hh' ⟨n', hn'⟩ => ?_, fun _ H' F' ms' e' hh' ⟨n', hn'⟩ => ?_, fun _ i H' x' H2 F' ms' hi e' hh' ⟨n', hn'⟩ y => ?_⟩ p⟩
    · refine ⟨(hh'.at (get_app hn')).2, ?_⟩
      unfold valsD at hi
      rw [List.length_map, rk.lenK] at hi
      exact hi
    · refine ⟨(hh'.at (get_app hn')).2, ?_⟩
      unfold valsD
      rw [List.length_map, rk.lenK]
      exact Nat.le_refl _
    · obtain ⟨y0, key, y1⟩ := y
      subst y0
      obtain ⟨d, hd, rd⟩ := rk.getK y1
      refine ⟨F', _, Ex.refl, hh', ?_, rd.mono e'⟩
      unfold valsD
      rw [List.getElem?_map, hd]
      rfl
end
end AL

set_option Elab.async false
set_option linter.all false
set_option maxRecDepth 100000
set_option maxHeartbeats 4000000
namespace K08
open PySem L2 PyProof.Rows AL
open ND (NK)
noncomputable def top (i : Nat) : Stmt := PySem.Challenge.pw_marqueeletters_k08_whole_seasons.main.body.getD i (.Pass ⟨0, 0, 0, 0⟩)
noncomputable abbrev s_is_int_in : Stmt := top 13
noncomputable abbrev s_is_pair : Stmt := top 14
noncomputable abbrev s_Sign___init__ : Stmt := inClass (top 15) 0
noncomputable abbrev s_Sign_blank : Stmt := inClass (top 15) 2
noncomputable abbrev s_Sign_piece : Stmt := inClass (top 15) 3
noncomputable abbrev s_Sign_row_of : Stmt := inClass (top 15) 5
noncomputable abbrev s_Sign_is_text : Stmt := inClass (top 15) 7
noncomputable abbrev s_Sign_check_texts : Stmt := inClass (top 15) 8
noncomputable abbrev s_links : Stmt := top 17
noncomputable abbrev s_surplus : Stmt := top 18
noncomputable abbrev s_groups : Stmt := top 19
noncomputable abbrev s_shares : Stmt := top 20
noncomputable abbrev s_is_closed : Stmt := top 21
noncomputable abbrev s_cost : Stmt := top 22
noncomputable abbrev s_offsets_of : Stmt := top 24
noncomputable abbrev s_add : Stmt := top 26
noncomputable abbrev s_check_offsets : Stmt := top 25
noncomputable abbrev s_fixed_cost : Stmt := top 27
noncomputable abbrev s_costs_from : Stmt := top 28
noncomputable abbrev s_best_of : Stmt := top 29
noncomputable abbrev s_season_cost : Stmt := top 30
noncomputable abbrev s_count_best : Stmt := top 31
noncomputable abbrev s_best_offsets : Stmt := top 32
noncomputable abbrev s__law_random : Stmt := top 36
noncomputable abbrev s__law_below : Stmt := top 37
noncomputable abbrev s__law_shuffled : Stmt := top 38
noncomputable abbrev s__law_pairs : Stmt := top 39
noncomputable abbrev s__law_text : Stmt := top 40
noncomputable abbrev s__law_texts : Stmt := top 41
noncomputable abbrev s_letters_of : Stmt := top 33
noncomputable abbrev s_needed_letters : Stmt := top 34
noncomputable abbrev s_law : Stmt := top 42
noncomputable abbrev N_is_int_in : List Str := ["value", "low", "high"]
theorem sc_is_int_in : FnScope N_is_int_in ["value", "low", "high"] (defScope s_is_int_in) := ⟨rfl, rfl, rfl, by decide +kernel, rfl, by decide +kernel, by decide +kernel⟩
noncomputable abbrev N_is_pair : List Str := ["value"]
theorem sc_is_pair : FnScope N_is_pair ["value"] (defScope s_is_pair) := ⟨rfl, rfl, rfl, by decide +kernel, rfl, by decide +kernel, by decide +kernel⟩
noncomputable abbrev N_Sign___init__ : List Str := ["self", "width", "pairs", "index", "pair"]
theorem sc_Sign___init__ : FnScope N_Sign___init__ ["self", "width", "pairs"] (defScope s_Sign___init__) := ⟨rfl, rfl, rfl, by decide +kernel, rfl, by decide +kernel, by decide +kernel⟩
noncomputable abbrev N_Sign_blank : List Str := ["self"]
theorem sc_Sign_blank : FnScope N_Sign_blank ["self"] (defScope s_Sign_blank) := ⟨rfl, rfl, rfl, by decide +kernel, rfl, by decide +kernel, by decide +kernel⟩
noncomputable abbrev N_Sign_piece : List Str := ["self", "letter"]
theorem sc_Sign_piece : FnScope N_Sign_piece ["self", "letter"] (defScope s_Sign_piece) := ⟨rfl, rfl, rfl, by decide +kernel, rfl, by decide +kernel, by decide +kernel⟩
noncomputable abbrev N_Sign_row_of : List Str := ["self", "text", "offset"]
theorem sc_Sign_row_of : FnScope N_Sign_row_of ["self", "text", "offset"] (defScope s_Sign_row_of) := ⟨rfl, rfl, rfl, by decide +kernel, rfl, by decide +kernel, by decide +kernel⟩
noncomputable abbrev N_Sign_is_text : List Str := ["self", "value", "letter"]
theorem sc_Sign_is_text : FnScope N_Sign_is_text ["self", "value"] (defScope s_Sign_is_text) := ⟨rfl, rfl, rfl, by decide +kernel, rfl, by decide +kernel, by decide +kernel⟩
noncomputable abbrev N_Sign_check_texts : List Str := ["self", "texts", "index", "text"]
theorem sc_Sign_check_texts : FnScope N_Sign_check_texts ["self", "texts"] (defScope s_Sign_check_texts) := ⟨rfl, rfl, rfl, by decide +kernel, rfl, by decide +kernel, by decide +kernel⟩
noncomputable abbrev N_links : List Str := ["sign", "before", "after", "found", "place", "old", "new"]
theorem sc_links : FnScope N_links ["sign", "before", "after"] (defScope s_links) := ⟨rfl, rfl, rfl, by decide +kernel, rfl, by decide +kernel, by decide +kernel⟩
noncomputable abbrev N_surplus : List Str := ["changed", "counts", "place", "old", "new", "piece", "count"]
theorem sc_surplus : FnScope N_surplus ["changed"] (defScope s_surplus) := ⟨rfl, rfl, rfl, by decide +kernel, rfl, by decide +kernel, by decide +kernel⟩
noncomputable abbrev N_groups : List Str := ["changed", "found", "link", "together", "others", "group"]
theorem sc_groups : FnScope N_groups ["changed"] (defScope s_groups) := ⟨rfl, rfl, rfl, by decide +kernel, rfl, by decide +kernel, by decide +kernel⟩
noncomputable abbrev N_shares : List Str := ["group", "link", "pieces", "place", "old", "new", "piece"]
theorem sc_shares : FnScope N_shares ["group", "link"] (defScope s_shares) := ⟨rfl, rfl, rfl, by decide +kernel, rfl, by decide +kernel, by decide +kernel⟩
noncomputable abbrev N_is_closed : List Str := ["group", "place", "old", "new"]
theorem sc_is_closed : FnScope N_is_closed ["group"] (defScope s_is_closed) := ⟨rfl, rfl, rfl, by decide +kernel, rfl, by decide +kernel, by decide +kernel⟩
noncomputable abbrev N_cost : List Str := ["sign", "before", "after", "changed", "filled", "place", "old", "new", "closed", "group", "turned"]
theorem sc_cost : FnScope N_cost ["sign", "before", "after"] (defScope s_cost) := ⟨rfl, rfl, rfl, by decide +kernel, rfl, by decide +kernel, by decide +kernel⟩
noncomputable abbrev N_offsets_of : List Str := ["sign", "text"]
theorem sc_offsets_of : FnScope N_offsets_of ["sign", "text"] (defScope s_offsets_of) := ⟨rfl, rfl, rfl, by decide +kernel, rfl, by decide +kernel, by decide +kernel⟩
noncomputable abbrev N_add : List Str := ["one", "other"]
theorem sc_add : FnScope N_add ["one", "other"] (defScope s_add) := ⟨rfl, rfl, rfl, by decide +kernel, rfl, by decide +kernel, by decide +kernel⟩
noncomputable abbrev N_check_offsets : List Str := ["sign", "texts", "offsets", "index", "offset"]
theorem sc_check_offsets : FnScope N_check_offsets ["sign", "texts", "offsets"] (defScope s_check_offsets) := ⟨rfl, rfl, rfl, by decide +kernel, rfl, by decide +kernel, by decide +kernel⟩
noncomputable abbrev N_fixed_cost : List Str := ["sign", "texts", "offsets", "total", "row", "text", "offset", "shown"]
theorem sc_fixed_cost : FnScope N_fixed_cost ["sign", "texts", "offsets"] (defScope s_fixed_cost) := ⟨rfl, rfl, rfl, by decide +kernel, rfl, by decide +kernel, by decide +kernel⟩
noncomputable abbrev N_costs_from : List Str := ["sign", "texts", "layers", "offset", "index", "layer"]
theorem sc_costs_from : FnScope N_costs_from ["sign", "texts"] (defScope s_costs_from) := ⟨rfl, rfl, rfl, by decide +kernel, rfl, by decide +kernel, by decide +kernel⟩
noncomputable abbrev N_best_of : List Str := ["sign", "row", "text", "layer", "best", "ways", "offset", "later", "count", "total"]
theorem sc_best_of : FnScope N_best_of ["sign", "row", "text", "layer"] (defScope s_best_of) := ⟨rfl, rfl, rfl, by decide +kernel, rfl, by decide +kernel, by decide +kernel⟩
noncomputable abbrev N_season_cost : List Str := ["sign", "texts"]
theorem sc_season_cost : FnScope N_season_cost ["sign", "texts"] (defScope s_season_cost) := ⟨rfl, rfl, rfl, by decide +kernel, rfl, by decide +kernel, by decide +kernel⟩
noncomputable abbrev N_count_best : List Str := ["sign", "texts"]
theorem sc_count_best : FnScope N_count_best ["sign", "texts"] (defScope s_count_best) := ⟨rfl, rfl, rfl, by decide +kernel, rfl, by decide +kernel, by decide +kernel⟩
noncomputable abbrev N_best_offsets : List Str := ["sign", "texts", "layers", "total", "chosen", "text", "layer", "longer", "offsets", "row", "rest", "offset", "later", "count", "shown"]
theorem sc_best_offsets : GScope N_best_offsets ["sign", "texts"] (defScope s_best_offsets) := ⟨rfl, rfl, rfl, by decide +kernel, rfl, by decide +kernel, by decide +kernel⟩
noncomputable abbrev N__law_random : List Str := ["_law_script", "_law_salt", "_law_seed", "_law_cell"]
theorem sc__law_random : FnScope N__law_random ["_law_script", "_law_salt"] (defScope s__law_random) := ⟨rfl, rfl, rfl, by decide +kernel, rfl, by decide +kernel, by decide +kernel⟩
noncomputable abbrev N__law_below : List Str := ["_law_d", "_law_limit", "_law_result"]
theorem sc__law_below : FnScope N__law_below ["_law_d", "_law_limit"] (defScope s__law_below) := ⟨rfl, rfl, rfl, by decide +kernel, rfl, by decide +kernel, by decide +kernel⟩
noncomputable abbrev N__law_shuffled : List Str := ["_law_d", "_law_items", "_law_pool", "_law_result"]
theorem sc__law_shuffled : FnScope N__law_shuffled ["_law_d", "_law_items"] (defScope s__law_shuffled) := ⟨rfl, rfl, rfl, by decide +kernel, rfl, by decide +kernel, by decide +kernel⟩
noncomputable abbrev N__law_pairs : List Str := ["_law_d", "_law_letters", "_law_shuffled_here", "_law_many", "_law_k"]
theorem sc__law_pairs : FnScope N__law_pairs ["_law_d", "_law_letters"] (defScope s__law_pairs) := ⟨rfl, rfl, rfl, by decide +kernel, rfl, by decide +kernel, by decide +kernel⟩
noncomputable abbrev N__law_text : List Str := ["_law_d", "_law_most", "_law_letters", "_law_length", "_law_signs", "_law_inner", "_law_k", "_law_first", "_law_last"]
theorem sc__law_text : FnScope N__law_text ["_law_d", "_law_most", "_law_letters"] (defScope s__law_text) := ⟨rfl, rfl, rfl, by decide +kernel, rfl, by decide +kernel, by decide +kernel⟩
noncomputable abbrev N__law_texts : List Str := ["_law_d", "_law_most", "_law_width", "_law_letters", "_law_k"]
theorem sc__law_texts : FnScope N__law_texts ["_law_d", "_law_most", "_law_width", "_law_letters"] (defScope s__law_texts) := ⟨rfl, rfl, rfl, by decide +kernel, rfl, by decide +kernel, by decide +kernel⟩
noncomputable abbrev N_letters_of : List Str := ["sign", "text", "counts", "letter"]
theorem sc_letters_of : FnScope N_letters_of ["sign", "text"] (defScope s_letters_of) := ⟨rfl, rfl, rfl, by decide +kernel, rfl, by decide +kernel, by decide +kernel⟩
noncomputable abbrev N_needed_letters : List Str := ["sign", "texts", "most", "text", "piece", "count"]
theorem sc_needed_letters : FnScope N_needed_letters ["sign", "texts"] (defScope s_needed_letters) := ⟨rfl, rfl, rfl, by decide +kernel, rfl, by decide +kernel, by decide +kernel⟩
noncomputable abbrev N_law : List Str := ["_law_script", "_law_d", "_law_width", "_law_letters", "_law_sign", "_law_texts_here", "_law_least", "_law_turn", "_law_offsets", "_law_text_here", "_law_many", "_law_every", "_law_longer", "_law_count"]
theorem sc_law : FnScope N_law ["_law_script"] (defScope s_law) := ⟨rfl, rfl, rfl, by decide +kernel, rfl, by decide +kernel, by decide +kernel⟩
set_option genInjectivity false in
set_option genSizeOf false in
structure Txt (K : Frg) (mg : Str → Option Value) where
  c_Sign : Addr
  m_Sign : mg "Sign" = some (.ref c_Sign)
  k_Sign : Cls K c_Sign
  n_Sign_width : NoAttr K c_Sign "width"
  n_Sign_pairs : NoAttr K c_Sign "pairs"
  n_Sign_mates : NoAttr K c_Sign "mates"
  c_SignError : Addr
  m_SignError : mg "SignError" = some (.ref c_SignError)
  a_is_int_in : Addr
  d_is_int_in : FuncData
  F_is_int_in : Fun K "is_int_in" "is_int_in" s_is_int_in a_is_int_in d_is_int_in
  b_is_int_in : Binds K d_is_int_in ["value", "low", "high"] []
  m_is_int_in : mg "is_int_in" = some (.ref a_is_int_in)
  a_is_pair : Addr
  d_is_pair : FuncData
  F_is_pair : Fun K "is_pair" "is_pair" s_is_pair a_is_pair d_is_pair
  b_is_pair : Binds K d_is_pair ["value"] []
  m_is_pair : mg "is_pair" = some (.ref a_is_pair)
  a_Sign___init__ : Addr
  d_Sign___init__ : FuncData
  z_Sign___init__ : List V
  F_Sign___init__ : FunD K "__init__" "Sign.__init__" (defArgs s_Sign___init__) (defBody s_Sign___init__) (defScope s_Sign___init__) z_Sign___init__ [] a_Sign___init__ d_Sign___init__
  zr_Sign___init__ : ∀ F : Hp, RepL K F [.tup []] z_Sign___init__
  e_Sign___init__ : List Value
  vd_Sign___init__ : Vals z_Sign___init__ e_Sign___init__
  bd_Sign___init__ : Binds K d_Sign___init__ ["self", "width", "pairs"] e_Sign___init__
  b_Sign___init__ : Binds K d_Sign___init__ ["self", "width", "pairs"] []
  M_Sign : Mk K c_Sign a_Sign___init__
  a_Sign_blank : Addr
  d_Sign_blank : FuncData
  F_Sign_blank : Fun K "blank" "Sign.blank" s_Sign_blank a_Sign_blank d_Sign_blank
  b_Sign_blank : Binds K d_Sign_blank ["self"] []
  p_Sign_blank : Addr
  P_Sign_blank : PropOf K c_Sign "blank" p_Sign_blank a_Sign_blank
  a_Sign_piece : Addr
  d_Sign_piece : FuncData
  F_Sign_piece : Fun K "piece" "Sign.piece" s_Sign_piece a_Sign_piece d_Sign_piece
  b_Sign_piece : Binds K d_Sign_piece ["self", "letter"] []
  Me_Sign_piece : Meth K c_Sign "piece" a_Sign_piece
  a_Sign_row_of : Addr
  d_Sign_row_of : FuncData
  F_Sign_row_of : Fun K "row_of" "Sign.row_of" s_Sign_row_of a_Sign_row_of d_Sign_row_of
  b_Sign_row_of : Binds K d_Sign_row_of ["self", "text", "offset"] []
  Me_Sign_row_of : Meth K c_Sign "row_of" a_Sign_row_of
  a_Sign_is_text : Addr
  d_Sign_is_text : FuncData
  F_Sign_is_text : Fun K "is_text" "Sign.is_text" s_Sign_is_text a_Sign_is_text d_Sign_is_text
  b_Sign_is_text : Binds K d_Sign_is_text ["self", "value"] []
  Me_Sign_is_text : Meth K c_Sign "is_text" a_Sign_is_text
  a_Sign_check_texts : Addr
  d_Sign_check_texts : FuncData
  F_Sign_check_texts : Fun K "check_texts" "Sign.check_texts" s_Sign_check_texts a_Sign_check_texts d_Sign_check_texts
  b_Sign_check_texts : Binds K d_Sign_check_texts ["self", "texts"] []
  Me_Sign_check_texts : Meth K c_Sign "check_texts" a_Sign_check_texts
  a_links : Addr
  d_links : FuncData
  F_links : Fun K "links" "links" s_links a_links d_links
  b_links : Binds K d_links ["sign", "before", "after"] []
  m_links : mg "links" = some (.ref a_links)
  a_surplus : Addr
  d_surplus : FuncData
  F_surplus : Fun K "surplus" "surplus" s_surplus a_surplus d_surplus
  b_surplus : Binds K d_surplus ["changed"] []
  m_surplus : mg "surplus" = some (.ref a_surplus)
  a_groups : Addr
  d_groups : FuncData
  F_groups : Fun K "groups" "groups" s_groups a_groups d_groups
  b_groups : Binds K d_groups ["changed"] []
  m_groups : mg "groups" = some (.ref a_groups)
  a_shares : Addr
  d_shares : FuncData
  F_shares : Fun K "shares" "shares" s_shares a_shares d_shares
  b_shares : Binds K d_shares ["group", "link"] []
  m_shares : mg "shares" = some (.ref a_shares)
  a_is_closed : Addr
  d_is_closed : FuncData
  F_is_closed : Fun K "is_closed" "is_closed" s_is_closed a_is_closed d_is_closed
  b_is_closed : Binds K d_is_closed ["group"] []
  m_is_closed : mg "is_closed" = some (.ref a_is_closed)
  a_cost : Addr
  d_cost : FuncData
  F_cost : Fun K "cost" "cost" s_cost a_cost d_cost
  b_cost : Binds K d_cost ["sign", "before", "after"] []
  m_cost : mg "cost" = some (.ref a_cost)
  a_offsets_of : Addr
  d_offsets_of : FuncData
  F_offsets_of : Fun K "offsets_of" "offsets_of" s_offsets_of a_offsets_of d_offsets_of
  b_offsets_of : Binds K d_offsets_of ["sign", "text"] []
  m_offsets_of : mg "offsets_of" = some (.ref a_offsets_of)
  a_add : Addr
  d_add : FuncData
  F_add : Fun K "add" "add" s_add a_add d_add
  b_add : Binds K d_add ["one", "other"] []
  m_add : mg "add" = some (.ref a_add)
  a_check_offsets : Addr
  d_check_offsets : FuncData
  F_check_offsets : Fun K "check_offsets" "check_offsets" s_check_offsets a_check_offsets d_check_offsets
  b_check_offsets : Binds K d_check_offsets ["sign", "texts", "offsets"] []
  m_check_offsets : mg "check_offsets" = some (.ref a_check_offsets)
  a_fixed_cost : Addr
  d_fixed_cost : FuncData
  F_fixed_cost : Fun K "fixed_cost" "fixed_cost" s_fixed_cost a_fixed_cost d_fixed_cost
  b_fixed_cost : Binds K d_fixed_cost ["sign", "texts", "offsets"] []
  m_fixed_cost : mg "fixed_cost" = some (.ref a_fixed_cost)
  a_costs_from : Addr
  d_costs_from : FuncData
  F_costs_from : Fun K "costs_from" "costs_from" s_costs_from a_costs_from d_costs_from
  b_costs_from : Binds K d_costs_from ["sign", "texts"] []
  m_costs_from : mg "costs_from" = some (.ref a_costs_from)
  a_best_of : Addr
  d_best_of : FuncData
  F_best_of : Fun K "best_of" "best_of" s_best_of a_best_of d_best_of
  b_best_of : Binds K d_best_of ["sign", "row", "text", "layer"] []
  m_best_of : mg "best_of" = some (.ref a_best_of)
  a_season_cost : Addr
  d_season_cost : FuncData
  F_season_cost : Fun K "season_cost" "season_cost" s_season_cost a_season_cost d_season_cost
  b_season_cost : Binds K d_season_cost ["sign", "texts"] []
  m_season_cost : mg "season_cost" = some (.ref a_season_cost)
  a_count_best : Addr
  d_count_best : FuncData
  F_count_best : Fun K "count_best" "count_best" s_count_best a_count_best d_count_best
  b_count_best : Binds K d_count_best ["sign", "texts"] []
  m_count_best : mg "count_best" = some (.ref a_count_best)
  a_best_offsets : Addr
  d_best_offsets : FuncData
  F_best_offsets : Fun K "best_offsets" "best_offsets" s_best_offsets a_best_offsets d_best_offsets
  b_best_offsets : Binds K d_best_offsets ["sign", "texts"] []
  m_best_offsets : mg "best_offsets" = some (.ref a_best_offsets)
  a__law_random : Addr
  d__law_random : FuncData
  F__law_random : Fun K "_law_random" "_law_random" s__law_random a__law_random d__law_random
  b__law_random : Binds K d__law_random ["_law_script", "_law_salt"] []
  m__law_random : mg "_law_random" = some (.ref a__law_random)
  a__law_below : Addr
  d__law_below : FuncData
  F__law_below : Fun K "_law_below" "_law_below" s__law_below a__law_below d__law_below
  b__law_below : Binds K d__law_below ["_law_d", "_law_limit"] []
  m__law_below : mg "_law_below" = some (.ref a__law_below)
  a__law_shuffled : Addr
  d__law_shuffled : FuncData
  F__law_shuffled : Fun K "_law_shuffled" "_law_shuffled" s__law_shuffled a__law_shuffled d__law_shuffled
  b__law_shuffled : Binds K d__law_shuffled ["_law_d", "_law_items"] []
  m__law_shuffled : mg "_law_shuffled" = some (.ref a__law_shuffled)
  a__law_pairs : Addr
  d__law_pairs : FuncData
  F__law_pairs : Fun K "_law_pairs" "_law_pairs" s__law_pairs a__law_pairs d__law_pairs
  b__law_pairs : Binds K d__law_pairs ["_law_d", "_law_letters"] []
  m__law_pairs : mg "_law_pairs" = some (.ref a__law_pairs)
  a__law_text : Addr
  d__law_text : FuncData
  F__law_text : Fun K "_law_text" "_law_text" s__law_text a__law_text d__law_text
  b__law_text : Binds K d__law_text ["_law_d", "_law_most", "_law_letters"] []
  m__law_text : mg "_law_text" = some (.ref a__law_text)
  a__law_texts : Addr
  d__law_texts : FuncData
  F__law_texts : Fun K "_law_texts" "_law_texts" s__law_texts a__law_texts d__law_texts
  b__law_texts : Binds K d__law_texts ["_law_d", "_law_most", "_law_width", "_law_letters"] []
  m__law_texts : mg "_law_texts" = some (.ref a__law_texts)
  a_letters_of : Addr
  d_letters_of : FuncData
  F_letters_of : Fun K "letters_of" "letters_of" s_letters_of a_letters_of d_letters_of
  b_letters_of : Binds K d_letters_of ["sign", "text"] []
  m_letters_of : mg "letters_of" = some (.ref a_letters_of)
  a_needed_letters : Addr
  d_needed_letters : FuncData
  F_needed_letters : Fun K "needed_letters" "needed_letters" s_needed_letters a_needed_letters d_needed_letters
  b_needed_letters : Binds K d_needed_letters ["sign", "texts"] []
  m_needed_letters : mg "needed_letters" = some (.ref a_needed_letters)
  a_law : Addr
  d_law : FuncData
  F_law : Fun K "law" "law" s_law a_law d_law
  b_law : Binds K d_law ["_law_script"] []
  m_law : mg "law" = some (.ref a_law)
  g_abs : mg "abs" = none
  g_all : mg "all" = none
  g_any : mg "any" = none
  g_bool : mg "bool" = none
  g_enumerate : mg "enumerate" = none
  g_int : mg "int" = none
  g_isinstance : mg "isinstance" = none
  g_len : mg "len" = none
  g_list : mg "list" = none
  g_max : mg "max" = none
  g_min : mg "min" = none
  g_range : mg "range" = none
  g_set : mg "set" = none
  g_sorted : mg "sorted" = none
  g_str : mg "str" = none
  g_sum : mg "sum" = none
  g_tuple : mg "tuple" = none
  g_zip : mg "zip" = none
  u_BLANK : Value
  m_BLANK : mg "BLANK" = some u_BLANK
  r_BLANK : RelV (.str " ") u_BLANK
  u_LETTERS : Value
  m_LETTERS : mg "LETTERS" = some u_LETTERS
  r_LETTERS : RelV (.str "ABCDEFGHIJKLMNOPQRSTUVWXYZ0123456789") u_LETTERS
  u_MAX_PAIRS : Value
  m_MAX_PAIRS : mg "MAX_PAIRS" = some u_MAX_PAIRS
  r_MAX_PAIRS : RelV (.int 10) u_MAX_PAIRS
  u_MAX_TEXTS : Value
  m_MAX_TEXTS : mg "MAX_TEXTS" = some u_MAX_TEXTS
  r_MAX_TEXTS : RelV (.int 12) u_MAX_TEXTS
  u_MAX_WIDTH : Value
  m_MAX_WIDTH : mg "MAX_WIDTH" = some u_MAX_WIDTH
  r_MAX_WIDTH : RelV (.int 24) u_MAX_WIDTH
theorem ex_bl {b : Bool} {P : Bool → Prop} (h : P b) : ∃ b', D.bl b = .bl b' ∧ P b' := ⟨_, rfl, h⟩
theorem ex_int {b : Int} {P : Int → Prop} (h : P b) : ∃ b', D.int b = .int b' ∧ P b' := ⟨_, rfl, h⟩
theorem ex_str {b : Str} {P : Str → Prop} (h : P b) : ∃ b', D.str b = .str b' ∧ P b' := ⟨_, rfl, h⟩
theorem ex_par {a b : D} {P : D → D → Prop} (h : P a b) : ∃ x y, [a, b] = [x, y] ∧ P x y := ⟨_, _, rfl, h⟩
theorem and_nT {A B : Prop} (h : B) : ((!true) = true → A) ∧ ((!true) = false → B) := ⟨fun z => Bool.noConfusion z, fun _ => h⟩
theorem and_nF {A B : Prop} (h : A) : ((!false) = true → A) ∧ ((!false) = false → B) := ⟨fun _ => h, fun z => Bool.noConfusion z⟩
theorem and_nT' {A B : Prop} (h : B) : ((!true) = false → B) ∧ ((!true) = true → A) := ⟨fun _ => h, fun z => Bool.noConfusion z⟩
theorem and_dT {p A B : Prop} [Decidable p] (hp : p) (h : A) : (decide p = true → A) ∧ (decide p = false → B) := ⟨fun _ => h, fun z => absurd hp (of_decide_eq_false z)⟩
theorem and_dF {p A B : Prop} [Decidable p] (hp : ¬ p) (h : B) : (decide p = true → A) ∧ (decide p = false → B) := ⟨fun z => absurd (of_decide_eq_true z) hp, fun _ => h⟩
theorem and_dT' {p A B : Prop} [Decidable p] (hp : p) (h : A) : (decide p = false → B) ∧ (decide p = true → A) := ⟨fun z => absurd hp (of_decide_eq_false z), fun _ => h⟩
theorem and_dF' {p A B : Prop} [Decidable p] (hp : ¬ p) (h : B) : (decide p = false → B) ∧ (decide p = true → A) := ⟨fun _ => h, fun z => absurd (of_decide_eq_true z) hp⟩
theorem and_ndT {p A B : Prop} [Decidable p] (hp : p) (h : B) : ((!decide p) = true → A) ∧ ((!decide p) = false → B) := by rw [decide_eq_true hp]; exact and_nT h
theorem and_ndF {p A B : Prop} [Decidable p] (hp : ¬ p) (h : A) : ((!decide p) = true → A) ∧ ((!decide p) = false → B) := by rw [decide_eq_false hp]; exact and_nF h
theorem and_ndT' {p A B : Prop} [Decidable p] (hp : p) (h : B) : ((!decide p) = false → B) ∧ ((!decide p) = true → A) := by rw [decide_eq_true hp]; exact and_nT' h
section
variable {K : Frg} {F : Hp} {ms : Ms} {Q : QE}
theorem isN_tup {ds : List D} (q : Q F ms (.bl false)) : AR K rISN (.tup ds) .non F ms Q := ar_isN q
theorem isN_non (q : Q F ms (.bl true)) : AR K rISN .non .non F ms Q := ar_isN q
end
/-! ### data -/
noncomputable def LET : Str := "ABCDEFGHIJKLMNOPQRSTUVWXYZ0123456789"
noncomputable def inL (c : Nat) : Prop := c ∈ LET.cps.toList
noncomputable abbrev Pr := Nat × Nat
noncomputable def pS (p : Pr) : Str := ⟨#[p.1, p.2]⟩
noncomputable def pD (p : Pr) : D := .str (pS p)
noncomputable def kS (c : Nat) : Key := .inr (sg c)
noncomputable def kvsOf : List Pr → List (Key × D)
  | [] => []
  | p :: ps => (kS p.1, .str (sg p.2)) :: (kS p.2, .str (sg p.1)) :: kvsOf ps
noncomputable def flat (ps : List Pr) : List Nat := ps.flatMap fun p => [p.1, p.2]
noncomputable def pieceS (ps : List Pr) (c : Nat) : Str := match ps.find? (fun p => c = p.1 ∨ c = p.2) with
  | some p => minS (sg p.1) (sg p.2)
  | none => sg c
noncomputable def St (st : List D) : Prop := ∃ (s c : Int) (rest : List Int), st = .int s :: .int c :: rest.map D.int ∧ 0 ≤ s ∧ s < 2147483647 ∧ 0 ≤ c ∧ (∀ x ∈ rest, 10 ^ 18 ≤ x) ∧ rest.length ≤ 64
noncomputable def fldS (m : Addr) (w : Int) (ps : List Pr) : List (Str × D) := [("mates", .ref m), ("width", .int w), ("pairs", .tup (ps.map pD))]
/-- a sign stands at x -/
noncomputable def Sgn (C : Addr) (ms : Ms) (x : Addr) (w : Int) (ps : List Pr) : Prop := ∃ (i j : Nat) (m : Addr), ms[i]? = some (x, .ins C (fldS m w ps)) ∧ ms[j]? = some (m, .dic (kvsOf ps))
noncomputable def sp1 : Str := " "
noncomputable def shown (w : Int) (t : Str) (o : Int) : Str := mulS sp1 o ++ t ++ mulS sp1 (w - o - t.length)
theorem str_len_add (a b : Str) : (a ++ b).length = a.length + b.length := Array.size_append ..
theorem mulS_len1 (n : Int) : (mulS sp1 n).length = n.toNat := by
  show (List.replicate n.toNat [32]).flatten.toArray.size = n.toNat
  rw [List.size_toArray, List.length_flatten]
  simp
theorem fld_no {f : Str} {m : Addr} {w : Int} {ps : List Pr} (h1 : (f == "mates") = false) (h2 : (f == "width") = false) (h3 : (f == "pairs") = false) : (fldS m w ps).lookup f = none := by
  unfold fldS
  rw [List.lookup_cons, h1, List.lookup_cons, h2, List.lookup_cons, h3]
  rfl
noncomputable def textOk (w : Int) (t : Str) : Prop := 1 ≤ (t.length : Int) ∧ (t.length : Int) ≤ w ∧ (∀ c ∈ t.cps.toList, c = 32 ∨ inL c) ∧ (∃ a, t.cps.toList[0]? = some a ∧ inL a) ∧ ∃ b, t.cps.toList[t.length - 1]? = some b ∧ inL b
noncomputable def okSeason (w : Int) (ps : List Pr) (ts : List Str) : Prop := 1 ≤ w ∧ w ≤ 24 ∧ ps.length ≤ 10 ∧ (∀ c ∈ flat ps, inL c) ∧ (flat ps).Nodup ∧ 1 ≤ ts.length ∧ ts.length ≤ 12 ∧ ∀ t ∈ ts, textOk w t
/-! ### the cost of a change -/
noncomputable abbrev Lk := Nat × Nat × Nat
noncomputable def lD (k : Lk) : D := .tup [.int (k.1 : Int), .str (sg k.2.1), .str (sg k.2.2)]
/-- the piece of a sign -/
noncomputable def pc (ps : List Pr) (c : Nat) : Nat := match ps.find? (fun p => c = p.1 ∨ c = p.2) with
  | some p => min p.1 p.2
  | none => c
noncomputable def lkAt (ps : List Pr) (b a : List Nat) (i : Nat) : Option Lk := if pc ps (b.getD i 0) = pc ps (a.getD i 0) then none else some (i, pc ps (b.getD i 0), pc ps (a.getD i 0))
noncomputable def linksF (ps : List Pr) (b a : List Nat) (n : Nat) : List Lk := (List.range n).filterMap (lkAt ps b a)
noncomputable def letsF (gs : List Lk) : List Nat := gs.flatMap fun k => [k.2.1, k.2.2].filter fun c => decide (c ≠ 32)
noncomputable def sharesF (gs : List Lk) (k : Lk) : Bool := decide (k.2.1 ∈ letsF gs) || decide (k.2.2 ∈ letsF gs)
noncomputable def togF (k : Lk) (found : List (List Lk)) : List Lk := (found.filter fun g => sharesF g k).foldl (fun t g => g ++ t) [k]
noncomputable def stepG (found : List (List Lk)) (k : Lk) : List (List Lk) := (found.filter fun g => !sharesF g k) ++ [togF k found]
noncomputable def groupsF (ks : List Lk) : List (List Lk) := ks.foldl stepG []
noncomputable def gD (g : List Lk) : D := .lst (g.map lD)
noncomputable def closedF (gs : List Lk) : Bool := gs.all (fun k => decide (k.2.1 ≠ 32) && decide (k.2.2 ≠ 32)) && decide ((gs.map (·.2.1)).Perm (gs.map (·.2.2)))
noncomputable abbrev Cn := List (Nat × Int)
noncomputable def valC (m : Cn) (c : Nat) : Int := ((m.find? fun p => decide (p.1 = c)).map (·.2)).getD 0
noncomputable def setC (m : Cn) (c : Nat) (z : Int) : Cn := if m.any (fun p => decide (p.1 = c)) then m.map (fun p => if p.1 = c then (p.1, z) else p) else m ++ [(c, z)]
noncomputable def stepC (m : Cn) (k : Lk) : Cn := setC (setC m k.2.1 (valC m k.2.1 + 1)) k.2.2 (valC (setC m k.2.1 (valC m k.2.1 + 1)) k.2.2 - 1)
noncomputable def cntF (ks : List Lk) : Cn := ks.foldl stepC []
noncomputable def cntD (m : Cn) : List (Key × D) := m.map fun p => (kS p.1, D.int p.2)
noncomputable def surF (ks : List Lk) : Cn := (cntF ks).filter fun p => decide (p.2 > 0) && !decide (p.1 = 32)
noncomputable def carriedF (ks : List Lk) : Int := ((ks.filter fun k => !decide (k.2.2 = 32)).length : Int) + ((surF ks).map (·.2)).sum + (((groupsF ks).filter closedF).length : Int)
noncomputable def turnedF (ps : List Pr) (b a : List Nat) (n : Nat) : Int := (((List.range n).filter fun i => decide (b.getD i 0 ≠ a.getD i 0) && decide (pc ps (b.getD i 0) = pc ps (a.getD i 0))).length : Int)
noncomputable def costD (ps : List Pr) (b a : Str) (w : Int) : D := .tup [.int (carriedF (linksF ps b.cps.toList a.cps.toList w.toNat)), .int (turnedF ps b.cps.toList a.cps.toList w.toNat)]
noncomputable def okRow (w : Int) (z : Str) : Prop := (z.length : Int) = w ∧ ∀ c ∈ z.cps.toList, c = 32 ∨ inL c
/-! ### seasons -/
noncomputable abbrev Cst := Int × Int
noncomputable def cD (c : Cst) : D := .tup [.int c.1, .int c.2]
noncomputable def costP (ps : List Pr) (b a : Str) (w : Int) : Cst := (carriedF (linksF ps b.cps.toList a.cps.toList w.toNat), turnedF ps b.cps.toList a.cps.toList w.toNat)
noncomputable def addC (a b : Cst) : Cst := (a.1 + b.1, a.2 + b.2)
noncomputable def ltC (a b : Cst) : Bool := if a.1 = b.1 then decide (a.2 < b.2) else decide (a.1 < b.1)
noncomputable abbrev FS := Cst × Str
noncomputable def stepF (ps : List Pr) (w : Int) (s : FS) (p : Str × Int) : FS := (addC s.1 (costP ps s.2 (shown w p.1 p.2) w), shown w p.1 p.2)
noncomputable def fixF (ps : List Pr) (w : Int) (ts : List Str) (os : List Int) : Cst := ((ts.zip os).foldl (stepF ps w) ((0, 0), mulS sp1 w)).1
noncomputable abbrev Lay := List (Cst × Int)
noncomputable def vD (v : Cst × Int) : D := .tup [cD v.1, .int v.2]
noncomputable def layK (n : Nat) : Lay → List (Key × D)
  | [] => []
  | v :: r => (.inl (n : Int), vD v) :: layK (n + 1) r
noncomputable abbrev BS := Option Cst × Int
noncomputable def stepB (b : BS) (v : Cst × Int) : BS := match b.1 with
  | none => (some v.1, v.2)
  | some best => if ltC v.1 best = true then (some v.1, v.2) else if v.1 = best then (b.1, b.2 + v.2) else b
noncomputable def tots (ps : List Pr) (w : Int) (row t : Str) (L : Lay) : Lay := L.zipIdx.map fun p => (addC (costP ps row (shown w t (p.2 : Int)) w) p.1.1, p.1.2)
noncomputable def bestF (ps : List Pr) (w : Int) (row t : Str) (L : Lay) : BS := (tots ps w row t L).foldl stepB (none, 0)
noncomputable def bestP (ps : List Pr) (w : Int) (row t : Str) (L : Lay) : Cst × Int := ((bestF ps w row t L).1.getD (0, 0), (bestF ps w row t L).2)
noncomputable def bsD (b : Option Cst) : D := match b with | none => .non | some c => cD c
noncomputable def offN (w : Int) (t : Str) : Nat := (w - t.length + 1).toNat
noncomputable def layersF (ps : List Pr) (w : Int) : List Str → List Lay
  | [] => []
  | t :: r => match r with
    | [] => [List.replicate (offN w t) ((0, 0), 1)]
    | t' :: _ => ((List.range (offN w t)).map fun (o : Nat) => bestP ps w (shown w t (o : Int)) t' ((layersF ps w r).headD [])) :: layersF ps w r
noncomputable def seasonF (ps : List Pr) (w : Int) (ts : List Str) : Cst := (bestP ps w (mulS sp1 w) (ts.headD Str.empty) ((layersF ps w ts).headD [])).1
noncomputable def okOff (w : Int) (ts : List Str) (os : List Int) : Prop := os.length = ts.length ∧ ∀ (i : Nat) (t : Str) (o : Int), ts[i]? = some t → os[i]? = some o → 0 ≤ o ∧ o + (t.length : Int) ≤ w
noncomputable def allF (w : Int) : List Str → List (List Int)
  | [] => [[]]
  | t :: r => (allF w r).flatMap fun s => (List.range (offN w t)).map fun (o : Nat) => s ++ [(o : Int)]
noncomputable def offsD (L : List (List Int)) : D := .lst (L.map fun s => .tup (s.map D.int))
noncomputable def countF (ps : List Pr) (w : Int) (ts : List Str) : Int := (bestP ps w (mulS sp1 w) (ts.headD Str.empty) ((layersF ps w ts).headD [])).2
/-- the owned layers -/
noncomputable def layO : List Addr → List Lay → Ms
  | a :: as, L :: Ls => (a, .dic (layK 0 L)) :: layO as Ls
  | _, _ => []
/-- a chosen start: offsets, row, rest -/
noncomputable abbrev Ch := List Int × Str × Cst
noncomputable def chD (c : Ch) : D := .tup [.tup (c.1.map D.int), .str c.2.1, cD c.2.2]
noncomputable def extF (ps : List Pr) (w : Int) (t : Str) (L : Lay) (c : Ch) : List Ch := L.zipIdx.filterMap fun p => if addC (costP ps c.2.1 (shown w t (p.2 : Int)) w) p.1.1 = c.2.2 then some (c.1 ++ [(p.2 : Int)], shown w t (p.2 : Int), p.1.1) else none
noncomputable def stepCh (ps : List Pr) (w : Int) (chs : List Ch) (p : Str × Lay) : List Ch := chs.flatMap (extF ps w p.1 p.2)
noncomputable def ch0 (ps : List Pr) (w : Int) (ts : List Str) : List Ch := [([], mulS sp1 w, seasonF ps w ts)]
noncomputable def chF (ps : List Pr) (w : Int) (ts : List Str) (i : Nat) : List Ch := ((ts.zip (layersF ps w ts)).take i).foldl (stepCh ps w) (ch0 ps w ts)
/-! ### orders -/
/-- a node: the number of a text, an offset -/
noncomputable abbrev Nd := Nat × Nat
noncomputable def ndK (n : Nd) : NK := .tup [.num (n.1 : Int), .num (n.2 : Int)]
noncomputable def nD (n : Nd) : D := .tup [.int (n.1 : Int), .int (n.2 : Int)]
noncomputable def numK (S : List Nat) : NK := .tup (S.map fun (k : Nat) => .num (k : Int))
noncomputable def numD (S : List Nat) : D := .tup (S.map fun (k : Nat) => D.int (k : Int))
noncomputable abbrev Va := Cst × List Nat
noncomputable def vaD (v : Va) : D := .tup [cD v.1, numD v.2]
noncomputable abbrev Ste := (List Nat × Nd) × Va
noncomputable def keyS (s : List Nat × Nd) : NK := .tup [numK s.1, ndK s.2]
noncomputable def steN (M : List Ste) : List (NK × D) := M.map fun s => (keyS s.1, vaD s.2)
noncomputable def ltT (a b : Va) : Bool := PySem.W.dataLt (toPy (vaD a)) (toPy (vaD b))
noncomputable def minT (a b : Va) : Va := if ltT b a = true then b else a
noncomputable def valS (M : List Ste) (k : List Nat × Nd) : Option Va := (M.find? fun s => decide (s.1 = k)).map (·.2)
noncomputable def putS (M : List Ste) (k : List Nat × Nd) (v : Va) : List Ste := if M.any (fun s => decide (s.1 = k)) then M.map (fun s => if s.1 = k then (s.1, v) else s) else M ++ [(k, v)]
/-- a number put into its place -/
noncomputable def insN (k : Nat) : List Nat → List Nat
  | [] => [k]
  | x :: r => if k ≤ x then k :: x :: r else x :: insN k r
noncomputable def stepL (stp : Nd → Nd → Cst) (s : Ste) (found : List Ste) (g : Nd) : List Ste :=
  if g.1 ∈ s.1.1 then found else
    let v : Va := (addC s.2.1 (stp s.1.2 g), s.2.2 ++ [g.1])
    let k := (insN g.1 s.1.1, g)
    putS found k (minT v ((valS found k).getD v))
noncomputable def longerF (nodes : List Nd) (stp : Nd → Nd → Cst) (M : List Ste) : List Ste := M.foldl (fun found s => nodes.foldl (stepL stp s) found) []
noncomputable def nodesF (w : Int) (ts : List Str) : List Nd := ts.zipIdx.flatMap fun p => (List.range (offN w p.1)).map fun o => (p.2, o)
noncomputable def rowN (w : Int) (ts : List Str) (n : Nd) : Str := shown w (ts.getD n.1 Str.empty) (n.2 : Int)
noncomputable def stpF (ps : List Pr) (w : Int) (ts : List Str) (a b : Nd) : Cst := costP ps (rowN w ts a) (rowN w ts b) w
noncomputable def stepsN (nodes : List Nd) (stp : Nd → Nd → Cst) : List (NK × D) := nodes.flatMap fun a => (nodes.filter fun b => decide (a.1 ≠ b.1)).map fun b => (.tup [ndK a, ndK b], cD (stp a b))
noncomputable def firstF (ps : List Pr) (w : Int) (ts : List Str) : List Ste := (nodesF w ts).map fun n => (([n.1], n), (costP ps (mulS sp1 w) (rowN w ts n) w, [n.1]))
noncomputable def statesF (ps : List Pr) (w : Int) (ts : List Str) : Nat → List Ste
  | 0 => firstF ps w ts
  | k + 1 => longerF (nodesF w ts) (stpF ps w ts) (statesF ps w ts k)
/-- the states of a step are good: their numbers ascend, their orders are of the step's length -/
noncomputable def okSte (nodes : List Nd) (N k : Nat) (s : Ste) : Prop := s.1.1.Pairwise (· < ·) ∧ (∀ x ∈ s.1.1, x < N) ∧ s.1.2 ∈ nodes ∧ s.1.2.1 ∈ s.1.1 ∧ s.1.1.length = k ∧ s.2.2.length = k
noncomputable def bestO (M : List Ste) (v : Va) : Prop := (∃ s ∈ M, s.2 = v) ∧ ∀ s ∈ M, ltT s.2 v = false
/-! ### letters needed -/
noncomputable def cntP (ps : List Pr) (t : Str) (c : Nat) : Int := ((t.cps.toList.countP fun a => decide (a ≠ 32) && decide (pc ps a = c) : Nat) : Int)
noncomputable def needC (ps : List Pr) (ts : List Str) (c : Nat) : Int := ts.foldl (fun m t => max m (cntP ps t c)) 0
/-- what is needed: each piece with its number, in ascending order -/
noncomputable def NeedOk (ps : List Pr) (ts : List Str) (nd : Cn) : Prop := (nd.map (·.1)).Pairwise (· < ·) ∧ ∀ p, p ∈ nd ↔ p.2 = needC ps ts p.1 ∧ 0 < p.2
noncomputable def haveC (ps : List Pr) (st : Cn) (c : Nat) : Int := ((st.filter fun p => decide (pc ps p.1 = c)).map (·.2)).sum
noncomputable def missF (ps : List Pr) (nd st : Cn) : Cn := (nd.filter fun p => decide (p.2 > haveC ps st p.1)).map fun p => (p.1, p.2 - haveC ps st p.1)
noncomputable def letF (ps : List Pr) (t : List Nat) : Cn := (t.filter fun a => decide (a ≠ 32)).foldl (fun m a => setC m (pc ps a) (valC m (pc ps a) + 1)) []
noncomputable def okStock (st : Cn) : Prop := st.length ≤ 40 ∧ (st.map (·.1)).Nodup ∧ ∀ p ∈ st, inL p.1 ∧ 0 ≤ p.2 ∧ p.2 ≤ 999
/-- an entry that no stock has -/
noncomputable def badE (k : Key) (v : D) : Prop := (∃ z : Str, k = .inr z ∧ 1 < z.length ∧ z.length ≤ 1000) ∨ (∃ c, k = kS c ∧ c < 128 ∧ ¬ inL c) ∨ (∃ i, k = .inl i) ∨ ∃ c, k = kS c ∧ inL c ∧ (v = .non ∨ (∃ b, v = .bl b) ∨ ∃ i, v = .int i ∧ ¬ (0 ≤ i ∧ i ≤ 999))
noncomputable def isLet : D → Bool
  | .str z => decide (z.length = 1) && decide (z.cps.toList.all fun c => decide (c ∈ LET.cps.toList))
  | _ => false
noncomputable def textZ (z r : Str) : Prop := ∀ c ∈ r.cps.toList, c = 32 ∨ c ∈ z.cps.toList

/-! ### promises -/
section
variable {K : Frg} {mg : Str → Option Value}
noncomputable def sp_is_int_in (T : Txt K mg) : ASp := fun ds F ms Q _ => ∃ v lo hi : Int, ds = [.int v, .int lo, .int hi] ∧ Q F ms (.bl (decide (lo ≤ v) && decide (v ≤ hi)))
noncomputable def sp_is_pair (T : Txt K mg) : ASp := fun ds F ms Q _ => ∃ p : Pr, ds = [pD p] ∧ p.1 ≠ p.2 ∧ inL p.1 ∧ inL p.2 ∧ Q F ms (.bl true)
noncomputable def sp_Sign___init__ (T : Txt K mg) : ASp := fun ds F ms Q _ => ∃ (x : Addr) (w : Int) (ps : List Pr) (R : Ms), ds = [.ref x, .int w, .tup (ps.map pD)] ∧ 1 ≤ w ∧ w ≤ 24 ∧ ps.length ≤ 10 ∧ (∀ c ∈ flat ps, inL c) ∧ (flat ps).Nodup ∧ ms = (x, .ins T.c_Sign []) :: R ∧
  ∀ m F', Ex F F' → Q F' ((m, .dic (kvsOf ps)) :: (x, .ins T.c_Sign (fldS m w ps)) :: R) .non
noncomputable def sp__law_random (T : Txt K mg) : ASp := fun ds F ms Q _ => ∃ ns : List Int, ds = [.rdl (ns.map D.int), .int 8] ∧ ns.length ≤ 63 ∧ ∀ F' l st, Ex F F' → St st → Q F' ((l, .lst st) :: ms) (.ref l)
noncomputable def sp__law_below (T : Txt K mg) : ASp := fun ds F ms Q _ => ∃ (k : Nat) (l : Addr) (st : List D) (n : Int), ds = [.ref l, .int n] ∧ ms[k]? = some (l, .lst st) ∧ St st ∧ 0 < n ∧ n < 1000000 ∧ ∀ st' r, St st' → 0 ≤ r → r < n → Q F (ms.set k (l, .lst st')) (.int r)
noncomputable def sp__law_shuffled (T : Txt K mg) : ASp := fun ds F ms Q _ => ∃ (k : Nat) (l : Addr) (st xs : List D), ds = [.ref l, .lst xs] ∧ ms[k]? = some (l, .lst st) ∧ St st ∧ xs.length ≤ 100 ∧ (∀ x ∈ xs, ∃ c, x = .str (sg c) ∧ c < 128) ∧
  ∀ st' F' ys, Ex F F' → St st' → ys.Perm xs → Q F' (ms.set k (l, .lst st')) (.lst ys)
noncomputable def sp__law_pairs (T : Txt K mg) : ASp := fun ds F ms Q _ => ∃ (k : Nat) (l : Addr) (st : List D) (z : Str), ds = [.ref l, .str z] ∧ ms[k]? = some (l, .lst st) ∧ St st ∧ z.length ≤ 100 ∧ z.cps.toList.Nodup ∧ (∀ c ∈ z.cps.toList, inL c) ∧
  ∀ st' F' ps, Ex F F' → St st' → ps.length ≤ 3 → (∀ c ∈ flat ps, c ∈ z.cps.toList) → (flat ps).Nodup → Q F' (ms.set k (l, .lst st')) (.tup (ps.map pD))
/-- plain data: no more than n deep -/
noncomputable def plainN : Nat → D → Prop
  | 0, d => d = .non ∨ (∃ b, d = .bl b) ∨ (∃ i, d = .int i) ∨ ∃ z, d = .str z
  | n + 1, d => (d = .non ∨ (∃ b, d = .bl b) ∨ (∃ i, d = .int i) ∨ ∃ z, d = .str z) ∨ ∃ ds, (d = .lst ds ∨ d = .tup ds) ∧ ds.length ≤ 10000 ∧ ∀ x ∈ ds, plainN n x
/-- an actual value that equals the expected one: the same data, an owned list, or a list of such -/
noncomputable def ActN (ms : Ms) : Nat → D → D → Prop
  | 0, a, d => a = d ∧ plainN 0 d
  | n + 1, a, d => (a = d ∧ plainN (n + 1) d) ∨ (∃ (m : Nat) (l : Addr) (ds : List D), a = .ref l ∧ d = .lst ds ∧ ms[m]? = some (l, .lst ds) ∧ plainN (n + 1) d) ∨ ∃ as ds : List D, a = .lst as ∧ d = .lst ds ∧ as.length = ds.length ∧ ds.length ≤ 10000 ∧ ∀ (i : Nat) (x y : D), as[i]? = some x → ds[i]? = some y → ActN ms n x y
noncomputable def spEqual (n : Nat) : ASp := fun ds F ms Q _ => ∃ a d, ds = [a, d] ∧ ActN ms n a d ∧ ∀ F', Ex F F' → Q F' ms (.bl true)
noncomputable def sp__law_equal (T : Txt K mg) : ASp := spEqual 3
noncomputable def sp__law_text (T : Txt K mg) : ASp := fun ds F ms Q _ => ∃ (k : Nat) (l : Addr) (st : List D) (w : Int) (z : Str), ds = [.ref l, .int w, .str z] ∧ ms[k]? = some (l, .lst st) ∧ St st ∧ 0 < w ∧ w ≤ 24 ∧ 0 < z.length ∧ z.length ≤ 100 ∧ (∀ c ∈ z.cps.toList, inL c) ∧
  ∀ st' F' (r : Str), Ex F F' → St st' → textOk w r → Q F' (ms.set k (l, .lst st')) (.str r)
noncomputable def sp__law_texts (T : Txt K mg) : ASp := fun ds F ms Q _ => ∃ (k : Nat) (l : Addr) (st : List D) (w : Int) (z : Str), ds = [.ref l, .int 5, .int w, .str z] ∧ ms[k]? = some (l, .lst st) ∧ St st ∧ 0 < w ∧ w ≤ 24 ∧ 0 < z.length ∧ z.length ≤ 100 ∧ (∀ c ∈ z.cps.toList, inL c) ∧
  ∀ st' F' (ts : List Str), Ex F F' → St st' → 1 ≤ ts.length → ts.length ≤ 5 → (∀ t ∈ ts, textOk w t) → Q F' (ms.set k (l, .lst st')) (.tup (ts.map D.str))
noncomputable def sp_Sign_is_text (T : Txt K mg) : ASp := fun ds F ms Q _ => ∃ x w ps t, ds = [.ref x, .str t] ∧ Sgn T.c_Sign ms x w ps ∧ w ≤ 24 ∧ textOk w t ∧ ∀ F', Ex F F' → Q F' ms (.bl true)
noncomputable def sp_Sign_check_texts (T : Txt K mg) : ASp := fun ds F ms Q _ => ∃ x w ps ts, ds = [.ref x, .tup (List.map D.str ts)] ∧ Sgn T.c_Sign ms x w ps ∧ w ≤ 24 ∧ 1 ≤ ts.length ∧ ts.length ≤ 12 ∧ (∀ t ∈ ts, textOk w t) ∧ ∀ F', Ex F F' → Q F' ms .non
noncomputable def sp_Sign_blank (T : Txt K mg) : ASp := fun ds F ms Q _ => ∃ x w ps, ds = [.ref x] ∧ Sgn T.c_Sign ms x w ps ∧ 0 ≤ w ∧ w ≤ 24 ∧ Q F ms (.str (mulS sp1 w))
noncomputable def sp_Sign_row_of (T : Txt K mg) : ASp := fun ds F ms Q _ => ∃ x w ps t o, ds = [.ref x, .str t, .int o] ∧ Sgn T.c_Sign ms x w ps ∧ w ≤ 24 ∧ 0 ≤ o ∧ o + (t.length : Int) ≤ w ∧ Q F ms (.str (shown w t o))
noncomputable def sp__law_shown (T : Txt K mg) : ASp := fun ds F ms Q _ => ∃ w t o, ds = [.int w, .str t, .int o] ∧ w ≤ 24 ∧ 0 ≤ o ∧ o + (t.length : Int) ≤ w ∧ Q F ms (.str (shown w t o))
noncomputable def sp__law_piece (T : Txt K mg) : ASp := fun ds F ms Q _ => ∃ ps c, ds = [.tup (List.map pD ps), .str (sg c)] ∧ ∀ F', Ex F F' → Q F' ms (.str (pieceS ps c))
noncomputable def sp_Sign_piece (T : Txt K mg) : ASp := fun ds F ms Q _ => ∃ x w ps c, ds = [.ref x, .str (sg c)] ∧ Sgn T.c_Sign ms x w ps ∧ Q F ms (.str (pieceS ps c))
noncomputable def sp_links (T : Txt K mg) : ASp := fun ds F ms Q _ => ∃ x w ps b a, ds = [.ref x, .str b, .str a] ∧ Sgn T.c_Sign ms x w ps ∧ 0 ≤ w ∧ w ≤ 24 ∧ (b.length : Int) = w ∧ (a.length : Int) = w ∧ ∀ F', Ex F F' → Q F' ms (.lst ((linksF ps b.cps.toList a.cps.toList w.toNat).map lD))
noncomputable def sp_shares (T : Txt K mg) : ASp := fun ds F ms Q _ => ∃ gs k, ds = [.lst (List.map lD gs), lD k] ∧ gs.length ≤ 24 ∧ ∀ F', Ex F F' → Q F' ms (.bl (sharesF gs k))
noncomputable def sp_is_closed (T : Txt K mg) : ASp := fun ds F ms Q _ => ∃ gs, ds = [.lst (List.map lD gs)] ∧ gs.length ≤ 24 ∧ (∀ k ∈ gs, k.2.1 < 128 ∧ k.2.2 < 128) ∧ ∀ F', Ex F F' → Q F' ms (.bl (closedF gs))
noncomputable def sp_groups (T : Txt K mg) : ASp := fun ds F ms Q _ => ∃ ks, ds = [.lst (List.map lD ks)] ∧ ks.length ≤ 24 ∧ ∀ F', Ex F F' → Q F' ms (.lst ((groupsF ks).map gD))
noncomputable def sp_cost (T : Txt K mg) : ASp := fun ds F ms Q _ => ∃ x w ps b a, ds = [.ref x, .str b, .str a] ∧ Sgn T.c_Sign ms x w ps ∧ 0 ≤ w ∧ w ≤ 24 ∧ (∀ c ∈ flat ps, inL c) ∧ okRow w b ∧ okRow w a ∧ ∀ F', Ex F F' → Q F' ms (costD ps b a w)
noncomputable def strsD (o : List Nat) : D := .lst (o.map fun c => D.str (sg c))
noncomputable def tchF (o v : List Nat) (k j : Nat) : Bool := decide (o.getD k 0 ≠ 32 ∧ (o.getD k 0 = o.getD j 0 ∨ o.getD k 0 = v.getD j 0)) || decide (v.getD k 0 ≠ 32 ∧ (v.getD k 0 = o.getD j 0 ∨ v.getD k 0 = v.getD j 0))
noncomputable def sp__law_touch (T : Txt K mg) : ASp := fun ds F ms Q _ => ∃ (o v : List Nat) (k j : Nat), ds = [strsD o, strsD v, .int (k : Int), .int (j : Int)] ∧ k < o.length ∧ j < o.length ∧ v.length = o.length ∧ (∀ c ∈ o, c < 128) ∧ (∀ c ∈ v, c < 128) ∧ ∀ F', Ex F F' → Q F' ms (.bl (tchF o v k j))
noncomputable def sp__law_cost (T : Txt K mg) : ASp := fun ds F ms Q _ => ∃ (w : Int) (ps : List Pr) (b a : Str), ds = [.tup (List.map pD ps), .str b, .str a] ∧ 0 ≤ w ∧ w ≤ 24 ∧ (∀ c ∈ flat ps, inL c) ∧ okRow w b ∧ okRow w a ∧ ∀ F', Ex F F' → Q F' ms (costD ps b a w)
noncomputable def okPs (ps : List Pr) : Prop := ∀ c ∈ flat ps, inL c
noncomputable def sp_offsets_of (T : Txt K mg) : ASp := fun ds F ms Q _ => ∃ x w ps t, ds = [.ref x, .str t] ∧ Sgn T.c_Sign ms x w ps ∧ w ≤ 24 ∧ textOk w t ∧ ∀ F', Ex F F' → Q F' ms (.lst ((List.range (offN w t)).map fun (o : Nat) => D.int (o : Int)))
noncomputable def sp_add (T : Txt K mg) : ASp := fun ds F ms Q _ => ∃ a b, ds = [cD a, cD b] ∧ ∀ F', Ex F F' → Q F' ms (cD (addC a b))
noncomputable def sp_best_of (T : Txt K mg) : ASp := fun ds F ms Q _ => ∃ (n : Nat) (l : Addr) (x : Addr) (w : Int) (ps : List Pr) (row t : Str) (L : Lay), ds = [.ref x, .str row, .str t, .ref l] ∧ ms[n]? = some (l, .dic (layK 0 L)) ∧ Sgn T.c_Sign ms x w ps ∧ 0 ≤ w ∧ w ≤ 24 ∧ okPs ps ∧ okRow w row ∧ textOk w t ∧ L.length = offN w t ∧ ∀ F', Ex F F' → Q F' ms (vD (bestP ps w row t L))
noncomputable def sp_season_cost (T : Txt K mg) : ASp := fun ds F ms Q _ => ∃ x w ps ts, ds = [.ref x, .tup (List.map D.str ts)] ∧ Sgn T.c_Sign ms x w ps ∧ okSeason w ps ts ∧ ∀ F', Ex F F' → Q F' ms (cD (seasonF ps w ts))
noncomputable def sp_check_offsets (T : Txt K mg) : ASp := fun ds F ms Q _ => ∃ x w ps ts os, ds = [.ref x, .tup (List.map D.str ts), .tup (List.map D.int os)] ∧ Sgn T.c_Sign ms x w ps ∧ w ≤ 24 ∧ ts.length ≤ 12 ∧ (∀ t ∈ ts, textOk w t) ∧ okOff w ts os ∧ ∀ F', Ex F F' → Q F' ms .non
noncomputable def sp_fixed_cost (T : Txt K mg) : ASp := fun ds F ms Q _ => ∃ x w ps ts os, ds = [.ref x, .tup (List.map D.str ts), .tup (List.map D.int os)] ∧ Sgn T.c_Sign ms x w ps ∧ okSeason w ps ts ∧ okOff w ts os ∧ ∀ F', Ex F F' → Q F' ms (cD (fixF ps w ts os))
noncomputable def sp__law_season (T : Txt K mg) : ASp := fun ds F ms Q _ => ∃ w ps ts os, ds = [.tup (List.map pD ps), .int w, .tup (List.map D.str ts), .tup (List.map D.int os)] ∧ 1 ≤ w ∧ w ≤ 24 ∧ okPs ps ∧ ts.length ≤ 12 ∧ (∀ t ∈ ts, textOk w t) ∧ okOff w ts os ∧ ∀ F', Ex F F' → Q F' ms (cD (fixF ps w ts os))
noncomputable def sp_costs_from (T : Txt K mg) : ASp := fun ds F ms Q _ => ∃ x w ps ts, ds = [.ref x, .tup (List.map D.str ts)] ∧ Sgn T.c_Sign ms x w ps ∧ okSeason w ps ts ∧ ∀ F' ls, Ex F F' → ls.length = ts.length → Q F' (layO ls (layersF ps w ts) ++ ms) (.lst (ls.map D.ref))
noncomputable def sp_count_best (T : Txt K mg) : ASp := fun ds F ms Q _ => ∃ x w ps ts, ds = [.ref x, .tup (List.map D.str ts)] ∧ Sgn T.c_Sign ms x w ps ∧ okSeason w ps ts ∧ ∀ F', Ex F F' → Q F' ms (.int (countF ps w ts))
noncomputable def sp_best_offsets (T : Txt K mg) : AGp := fun ds F ms Q => ∃ x w ps ts, ds = [.ref x, .tup (List.map D.str ts)] ∧ Sgn T.c_Sign ms x w ps ∧ okSeason w ps ts ∧ (∀ i, (chF ps w ts i).length ≤ 10000) ∧ ∀ F', Ex F F' → Q F' ms ((chF ps w ts ts.length).map fun c => .tup (c.1.map D.int))
noncomputable def sp_surplus (T : Txt K mg) : ASp := fun ds F ms Q _ => ∃ ks, ds = [.lst (List.map lD ks)] ∧ ks.length ≤ 24 ∧ ∀ F' l, Ex F F' → Q F' ((l, .dic (cntD (surF ks))) :: ms) (.ref l)
noncomputable def sp_letters_of (T : Txt K mg) : ASp := fun ds F ms Q _ => ∃ x w ps t, ds = [.ref x, .str t] ∧ Sgn T.c_Sign ms x w ps ∧ (t.length : Int) ≤ 24 ∧ ∀ F' l, Ex F F' → Q F' ((l, .dic (cntD (letF ps t.cps.toList))) :: ms) (.ref l)
noncomputable def sp_needed_letters (T : Txt K mg) : ASp := fun ds F ms Q _ => ∃ x w ps ts, ds = [.ref x, .tup (ts.map D.str)] ∧ Sgn T.c_Sign ms x w ps ∧ w ≤ 24 ∧ 1 ≤ ts.length ∧ ts.length ≤ 12 ∧ (∀ t ∈ ts, textOk w t) ∧ okPs ps ∧
  ∀ F' J l nd, Ex F F' → NeedOk ps ts nd → Q F' ((l, .dic (cntD nd)) :: (J ++ ms)) (.ref l)

end
noncomputable def spLaw : ASp := fun ds _ _ Q _ => ∃ ns : List Int, ds = [.rdl (ns.map D.int)] ∧ ns.length ≤ 63 ∧ ∀ F ms, Q F ms (.bl true)
noncomputable def sp_law {K : Frg} {mg : Str → Option Value} (T : Txt K mg) : ASp := spLaw
noncomputable abbrev OK_is_int_in (P : Program) (w : World) (base : Heap) {K : Frg} {mg : Str → Option Value} (T : Txt K mg) : Prop := FnOk P w K mg base CX0 1 T.a_is_int_in T.d_is_int_in ["value", "low", "high"] (toSp K (sp_is_int_in T))
noncomputable abbrev OK_is_pair (P : Program) (w : World) (base : Heap) {K : Frg} {mg : Str → Option Value} (T : Txt K mg) : Prop := FnOk P w K mg base CX0 1 T.a_is_pair T.d_is_pair ["value"] (toSp K (sp_is_pair T))
noncomputable abbrev OK_Sign___init__ (P : Program) (w : World) (base : Heap) {K : Frg} {mg : Str → Option Value} (T : Txt K mg) : Prop := FnOk P w K mg base CX0 2 T.a_Sign___init__ T.d_Sign___init__ ["self", "width", "pairs"] (toSp K (sp_Sign___init__ T))
noncomputable abbrev OK_Sign_blank (P : Program) (w : World) (base : Heap) {K : Frg} {mg : Str → Option Value} (T : Txt K mg) : Prop := FnOk P w K mg base CX0 1 T.a_Sign_blank T.d_Sign_blank ["self"] (toSp K (sp_Sign_blank T))
noncomputable abbrev OK_Sign_piece (P : Program) (w : World) (base : Heap) {K : Frg} {mg : Str → Option Value} (T : Txt K mg) : Prop := FnOk P w K mg base CX0 1 T.a_Sign_piece T.d_Sign_piece ["self", "letter"] (toSp K (sp_Sign_piece T))
noncomputable abbrev OK_Sign_row_of (P : Program) (w : World) (base : Heap) {K : Frg} {mg : Str → Option Value} (T : Txt K mg) : Prop := FnOk P w K mg base CX0 1 T.a_Sign_row_of T.d_Sign_row_of ["self", "text", "offset"] (toSp K (sp_Sign_row_of T))
noncomputable abbrev OK_Sign_is_text (P : Program) (w : World) (base : Heap) {K : Frg} {mg : Str → Option Value} (T : Txt K mg) : Prop := FnOk P w K mg base CX0 1 T.a_Sign_is_text T.d_Sign_is_text ["self", "value"] (toSp K (sp_Sign_is_text T))
noncomputable abbrev OK_Sign_check_texts (P : Program) (w : World) (base : Heap) {K : Frg} {mg : Str → Option Value} (T : Txt K mg) : Prop := FnOk P w K mg base CX0 2 T.a_Sign_check_texts T.d_Sign_check_texts ["self", "texts"] (toSp K (sp_Sign_check_texts T))
noncomputable abbrev OK_links (P : Program) (w : World) (base : Heap) {K : Frg} {mg : Str → Option Value} (T : Txt K mg) : Prop := FnOk P w K mg base CX0 2 T.a_links T.d_links ["sign", "before", "after"] (toSp K (sp_links T))
noncomputable abbrev OK_surplus (P : Program) (w : World) (base : Heap) {K : Frg} {mg : Str → Option Value} (T : Txt K mg) : Prop := FnOk P w K mg base CX0 1 T.a_surplus T.d_surplus ["changed"] (toSp K (sp_surplus T))
noncomputable abbrev OK_groups (P : Program) (w : World) (base : Heap) {K : Frg} {mg : Str → Option Value} (T : Txt K mg) : Prop := FnOk P w K mg base CX0 2 T.a_groups T.d_groups ["changed"] (toSp K (sp_groups T))
noncomputable abbrev OK_shares (P : Program) (w : World) (base : Heap) {K : Frg} {mg : Str → Option Value} (T : Txt K mg) : Prop := FnOk P w K mg base CX0 1 T.a_shares T.d_shares ["group", "link"] (toSp K (sp_shares T))
noncomputable abbrev OK_is_closed (P : Program) (w : World) (base : Heap) {K : Frg} {mg : Str → Option Value} (T : Txt K mg) : Prop := FnOk P w K mg base CX0 1 T.a_is_closed T.d_is_closed ["group"] (toSp K (sp_is_closed T))
noncomputable abbrev OK_cost (P : Program) (w : World) (base : Heap) {K : Frg} {mg : Str → Option Value} (T : Txt K mg) : Prop := FnOk P w K mg base CX0 3 T.a_cost T.d_cost ["sign", "before", "after"] (toSp K (sp_cost T))
noncomputable abbrev OK_offsets_of (P : Program) (w : World) (base : Heap) {K : Frg} {mg : Str → Option Value} (T : Txt K mg) : Prop := FnOk P w K mg base CX0 1 T.a_offsets_of T.d_offsets_of ["sign", "text"] (toSp K (sp_offsets_of T))
noncomputable abbrev OK_add (P : Program) (w : World) (base : Heap) {K : Frg} {mg : Str → Option Value} (T : Txt K mg) : Prop := FnOk P w K mg base CX0 1 T.a_add T.d_add ["one", "other"] (toSp K (sp_add T))
noncomputable abbrev OK_check_offsets (P : Program) (w : World) (base : Heap) {K : Frg} {mg : Str → Option Value} (T : Txt K mg) : Prop := FnOk P w K mg base CX0 2 T.a_check_offsets T.d_check_offsets ["sign", "texts", "offsets"] (toSp K (sp_check_offsets T))
noncomputable abbrev OK_fixed_cost (P : Program) (w : World) (base : Heap) {K : Frg} {mg : Str → Option Value} (T : Txt K mg) : Prop := FnOk P w K mg base CX0 4 T.a_fixed_cost T.d_fixed_cost ["sign", "texts", "offsets"] (toSp K (sp_fixed_cost T))
noncomputable abbrev OK_costs_from (P : Program) (w : World) (base : Heap) {K : Frg} {mg : Str → Option Value} (T : Txt K mg) : Prop := FnOk P w K mg base CX0 5 T.a_costs_from T.d_costs_from ["sign", "texts"] (toSp K (sp_costs_from T))
noncomputable abbrev OK_best_of (P : Program) (w : World) (base : Heap) {K : Frg} {mg : Str → Option Value} (T : Txt K mg) : Prop := FnOk P w K mg base CX0 4 T.a_best_of T.d_best_of ["sign", "row", "text", "layer"] (toSp K (sp_best_of T))
noncomputable abbrev OK_season_cost (P : Program) (w : World) (base : Heap) {K : Frg} {mg : Str → Option Value} (T : Txt K mg) : Prop := FnOk P w K mg base CX0 6 T.a_season_cost T.d_season_cost ["sign", "texts"] (toSp K (sp_season_cost T))
noncomputable abbrev OK_count_best (P : Program) (w : World) (base : Heap) {K : Frg} {mg : Str → Option Value} (T : Txt K mg) : Prop := FnOk P w K mg base CX0 6 T.a_count_best T.d_count_best ["sign", "texts"] (toSp K (sp_count_best T))
noncomputable abbrev OK_best_offsets (P : Program) (w : World) (base : Heap) {K : Frg} {mg : Str → Option Value} (T : Txt K mg) : Prop := GFn P w K mg base 6 T.a_best_offsets T.d_best_offsets ["sign", "texts"] (toSpG K (sp_best_offsets T))
noncomputable abbrev OK__law_random (P : Program) (w : World) (base : Heap) {K : Frg} {mg : Str → Option Value} (T : Txt K mg) : Prop := FnOk P w K mg base CX0 1 T.a__law_random T.d__law_random ["_law_script", "_law_salt"] (toSp K (sp__law_random T))
noncomputable abbrev OK__law_below (P : Program) (w : World) (base : Heap) {K : Frg} {mg : Str → Option Value} (T : Txt K mg) : Prop := FnOk P w K mg base CX0 1 T.a__law_below T.d__law_below ["_law_d", "_law_limit"] (toSp K (sp__law_below T))
noncomputable abbrev OK__law_shuffled (P : Program) (w : World) (base : Heap) {K : Frg} {mg : Str → Option Value} (T : Txt K mg) : Prop := FnOk P w K mg base CX0 2 T.a__law_shuffled T.d__law_shuffled ["_law_d", "_law_items"] (toSp K (sp__law_shuffled T))
noncomputable abbrev OK__law_pairs (P : Program) (w : World) (base : Heap) {K : Frg} {mg : Str → Option Value} (T : Txt K mg) : Prop := FnOk P w K mg base CX0 3 T.a__law_pairs T.d__law_pairs ["_law_d", "_law_letters"] (toSp K (sp__law_pairs T))
noncomputable abbrev OK__law_text (P : Program) (w : World) (base : Heap) {K : Frg} {mg : Str → Option Value} (T : Txt K mg) : Prop := FnOk P w K mg base CX0 2 T.a__law_text T.d__law_text ["_law_d", "_law_most", "_law_letters"] (toSp K (sp__law_text T))
noncomputable abbrev OK__law_texts (P : Program) (w : World) (base : Heap) {K : Frg} {mg : Str → Option Value} (T : Txt K mg) : Prop := FnOk P w K mg base CX0 3 T.a__law_texts T.d__law_texts ["_law_d", "_law_most", "_law_width", "_law_letters"] (toSp K (sp__law_texts T))
noncomputable abbrev OK_letters_of (P : Program) (w : World) (base : Heap) {K : Frg} {mg : Str → Option Value} (T : Txt K mg) : Prop := FnOk P w K mg base CX0 2 T.a_letters_of T.d_letters_of ["sign", "text"] (toSp K (sp_letters_of T))
noncomputable abbrev OK_needed_letters (P : Program) (w : World) (base : Heap) {K : Frg} {mg : Str → Option Value} (T : Txt K mg) : Prop := FnOk P w K mg base CX0 3 T.a_needed_letters T.d_needed_letters ["sign", "texts"] (toSp K (sp_needed_letters T))
noncomputable abbrev OK_law (P : Program) (w : World) (base : Heap) {K : Frg} {mg : Str → Option Value} (T : Txt K mg) : Prop := FnOk P w K mg base CX0 10 T.a_law T.d_law ["_law_script"] (toSp K (sp_law T))
end K08


namespace K08
open PySem PySem.Spec L2 PyProof.Rows AL
local macro_rules | `(tactic| walk_at "isi") => `(tactic| with_reducible refine isi_dic_dict ?_)
local macro_rules | `(tactic| walk_at "isi") => `(tactic| with_reducible refine isi_dic_list ?_)
local macro_rules | `(tactic| walk_at "isi") => `(tactic| with_reducible refine isi_dic_tuple ?_)
local macro_rules | `(tactic| walk_at "isi") => `(tactic| with_reducible refine isi_dic_str ?_)
local macro_rules | `(tactic| walk_at "isi") => `(tactic| with_reducible refine isi_dic_int ?_)
local macro_rules | `(tactic| walk_at "isi") => `(tactic| with_reducible refine isi_dic_bool ?_)
local macro_rules | `(tactic| walk_at "isi") => `(tactic| with_reducible refine isi_lst_dict ?_)
local macro_rules | `(tactic| walk_at "isi") => `(tactic| with_reducible refine isi_lst_list ?_)
local macro_rules | `(tactic| walk_at "isi") => `(tactic| with_reducible refine isi_lst_tuple ?_)
local macro_rules | `(tactic| walk_at "isi") => `(tactic| with_reducible refine isi_lst_str ?_)
local macro_rules | `(tactic| walk_at "isi") => `(tactic| with_reducible refine isi_lst_int ?_)
local macro_rules | `(tactic| walk_at "isi") => `(tactic| with_reducible refine isi_lst_bool ?_)
local macro_rules | `(tactic| walk_at "isi") => `(tactic| with_reducible refine isi_tup_dict ?_)
local macro_rules | `(tactic| walk_at "isi") => `(tactic| with_reducible refine isi_tup_list ?_)
local macro_rules | `(tactic| walk_at "isi") => `(tactic| with_reducible refine isi_tup_tuple ?_)
local macro_rules | `(tactic| walk_at "isi") => `(tactic| with_reducible refine isi_tup_str ?_)
local macro_rules | `(tactic| walk_at "isi") => `(tactic| with_reducible refine isi_tup_int ?_)
local macro_rules | `(tactic| walk_at "isi") => `(tactic| with_reducible refine isi_tup_bool ?_)
local macro_rules | `(tactic| walk_at "isi") => `(tactic| with_reducible refine isi_str_dict ?_)
local macro_rules | `(tactic| walk_at "isi") => `(tactic| with_reducible refine isi_str_list ?_)
local macro_rules | `(tactic| walk_at "isi") => `(tactic| with_reducible refine isi_str_tuple ?_)
local macro_rules | `(tactic| walk_at "isi") => `(tactic| with_reducible refine isi_str_str ?_)
local macro_rules | `(tactic| walk_at "isi") => `(tactic| with_reducible refine isi_str_int ?_)
local macro_rules | `(tactic| walk_at "isi") => `(tactic| with_reducible refine isi_str_bool ?_)
local macro_rules | `(tactic| walk_at "isi") => `(tactic| with_reducible refine isi_int_dict ?_)
local macro_rules | `(tactic| walk_at "isi") => `(tactic| with_reducible refine isi_int_list ?_)
local macro_rules | `(tactic| walk_at "isi") => `(tactic| with_reducible refine isi_int_tuple ?_)
local macro_rules | `(tactic| walk_at "isi") => `(tactic| with_reducible refine isi_int_str ?_)
local macro_rules | `(tactic| walk_at "isi") => `(tactic| with_reducible refine isi_int_int ?_)
local macro_rules | `(tactic| walk_at "isi") => `(tactic| with_reducible refine isi_int_bool ?_)
local macro_rules | `(tactic| walk_at "isi") => `(tactic| with_reducible refine isi_bl_dict ?_)
local macro_rules | `(tactic| walk_at "isi") => `(tactic| with_reducible refine isi_bl_list ?_)
local macro_rules | `(tactic| walk_at "isi") => `(tactic| with_reducible refine isi_bl_tuple ?_)
local macro_rules | `(tactic| walk_at "isi") => `(tactic| with_reducible refine isi_bl_str ?_)
local macro_rules | `(tactic| walk_at "isi") => `(tactic| with_reducible refine isi_bl_int ?_)
local macro_rules | `(tactic| walk_at "isi") => `(tactic| with_reducible refine isi_bl_bool ?_)
local macro_rules | `(tactic| walk_at "isi") => `(tactic| with_reducible refine isi_non_dict ?_)
local macro_rules | `(tactic| walk_at "isi") => `(tactic| with_reducible refine isi_non_list ?_)
local macro_rules | `(tactic| walk_at "isi") => `(tactic| with_reducible refine isi_non_tuple ?_)
local macro_rules | `(tactic| walk_at "isi") => `(tactic| with_reducible refine isi_non_str ?_)
local macro_rules | `(tactic| walk_at "isi") => `(tactic| with_reducible refine isi_non_int ?_)
local macro_rules | `(tactic| walk_at "isi") => `(tactic| with_reducible refine isi_non_bool ?_)
local macro_rules | `(tactic| walk_at "al1") => `(tactic| walk_at "isi")
local macro_rules | `(tactic| walk_at "al1") => `(tactic| with_reducible refine ac_minS ?_)
local macro_rules | `(tactic| walk_at "al1") => `(tactic| with_reducible refine ac_maxI ?_)
local macro_rules | `(tactic| walk_at "al1") => `(tactic| with_reducible refine ac_minI ?_)
local macro_rules | `(tactic| walk_at "al1") => `(tactic| with_reducible refine ac_lenR ?_)
local macro_rules | `(tactic| walk_at "al1") => `(tactic| with_reducible refine ac_lenT ?_)
local macro_rules | `(tactic| walk_at "al1") => `(tactic| with_reducible refine ac_lenL ?_)
local macro_rules | `(tactic| walk_at "al1") => `(tactic| with_reducible refine ac_abs ?_)
local macro_rules | `(tactic| walk_at "al1") => `(tactic| with_reducible refine ar_NOTINs ?_)
local macro_rules | `(tactic| walk_at "al1") => `(tactic| with_reducible refine ar_INs ?_)
local macro_rules | `(tactic| walk_at "al1") => `(tactic| with_reducible refine notN_ref ?_)
local macro_rules | `(tactic| walk_at "al1") => `(tactic| with_reducible refine notN_lst ?_)
local macro_rules | `(tactic| walk_at "al1") => `(tactic| with_reducible refine notN_tup ?_)
local macro_rules | `(tactic| walk_at "al1") => `(tactic| with_reducible refine notN_str ?_)
local macro_rules | `(tactic| walk_at "al1") => `(tactic| with_reducible refine notN_int ?_)
local macro_rules | `(tactic| walk_at "al1") => `(tactic| with_reducible refine notN_bl ?_)
local macro_rules | `(tactic| walk_at "al1") => `(tactic| with_reducible refine notN_non ?_)
local macro_rules | `(tactic| walk_at "al1") => `(tactic| with_reducible refine isN_ref ?_)
local macro_rules | `(tactic| walk_at "al1") => `(tactic| with_reducible refine isN_lst ?_)
local macro_rules | `(tactic| walk_at "al1") => `(tactic| with_reducible refine isN_tup ?_)
local macro_rules | `(tactic| walk_at "al1") => `(tactic| with_reducible refine isN_str ?_)
local macro_rules | `(tactic| walk_at "al1") => `(tactic| with_reducible refine isN_int ?_)
local macro_rules | `(tactic| walk_at "al1") => `(tactic| with_reducible refine isN_bl ?_)
local macro_rules | `(tactic| walk_at "al1") => `(tactic| with_reducible refine isN_non ?_)
local macro_rules | `(tactic| walk_at "al1") => `(tactic| with_reducible refine ar_NEb ?_)
local macro_rules | `(tactic| walk_at "al1") => `(tactic| with_reducible refine ar_NEs ?_)
local macro_rules | `(tactic| walk_at "al1") => `(tactic| with_reducible refine ar_NEi ?_)
local macro_rules | `(tactic| walk_at "al1") => `(tactic| with_reducible refine ar_EQb ?_)
local macro_rules | `(tactic| walk_at "al1") => `(tactic| with_reducible refine ar_EQs ?_)
local macro_rules | `(tactic| walk_at "al1") => `(tactic| with_reducible refine ar_EQi ?_)
local macro_rules | `(tactic| walk_at "al1") => `(tactic| with_reducible refine ar_geI ?_)
local macro_rules | `(tactic| walk_at "al1") => `(tactic| with_reducible refine ar_gtI ?_)
local macro_rules | `(tactic| walk_at "al1") => `(tactic| with_reducible refine ar_leI ?_)
local macro_rules | `(tactic| walk_at "al1") => `(tactic| with_reducible refine ar_ltI ?_)
local macro_rules | `(tactic| walk_at "al1") => `(tactic| with_reducible refine ar_SUB ?_)
local macro_rules | `(tactic| walk_at "al1") => `(tactic| with_reducible refine ar_ADDi ?_)
local macro_rules | `(tactic| walk_at "al1") => `(tactic| with_reducible refine and_nF' ?_)
local macro_rules | `(tactic| walk_at "al1") => `(tactic| with_reducible refine and_nT' ?_)
local macro_rules | `(tactic| walk_at "al1") => `(tactic| with_reducible refine and_nF ?_)
local macro_rules | `(tactic| walk_at "al1") => `(tactic| with_reducible refine and_nT ?_)
local macro_rules | `(tactic| walk_at "al1") => `(tactic| with_reducible refine and_F' ?_)
local macro_rules | `(tactic| walk_at "al1") => `(tactic| with_reducible refine and_T' ?_)
local macro_rules | `(tactic| walk_at "al1") => `(tactic| with_reducible refine and_F ?_)
local macro_rules | `(tactic| walk_at "al1") => `(tactic| with_reducible refine and_T ?_)
local macro_rules | `(tactic| walk_at "al1") => `(tactic| with_reducible refine ex_par ?_)
local macro_rules | `(tactic| walk_at "al1") => `(tactic| with_reducible refine ex_str ?_)
local macro_rules | `(tactic| walk_at "al1") => `(tactic| with_reducible refine ex_int ?_)
local macro_rules | `(tactic| walk_at "al1") => `(tactic| with_reducible refine ex_bl ?_)
local macro_rules | `(tactic| walk_at "al1") => `(tactic| with_reducible refine at_yes ?_)
local macro_rules | `(tactic| walk_at "al1") => `(tactic| with_reducible refine at_not ?_)
local macro_rules | `(tactic| walk_at "al1") => `(tactic| with_reducible refine at_or ?_)
local macro_rules | `(tactic| walk_at "al1") => `(tactic| with_reducible refine at_and ?_)
local macro_rules | `(tactic| walk_at "al1") => `(tactic| with_reducible refine at_B ?_)
local macro_rules | `(tactic| walk_at "al1") => `(tactic| with_reducible refine at_test ?_)
local macro_rules | `(tactic| walk_at "al1") => `(tactic| with_reducible refine aa_nil ?_)
local macro_rules | `(tactic| walk_at "al1") => `(tactic| with_reducible refine aa_cons ?_)
local macro_rules | `(tactic| walk_at "al1") => `(tactic| with_reducible refine ae_if ?_)
local macro_rules | `(tactic| walk_at "al1") => `(tactic| with_reducible refine ae_chain ?_)
local macro_rules | `(tactic| walk_at "al1") => `(tactic| with_reducible refine ae_orV ?_)
local macro_rules | `(tactic| walk_at "al1") => `(tactic| with_reducible refine ae_andV ?_)
local macro_rules | `(tactic| walk_at "al1") => `(tactic| with_reducible refine ae_notV ?_)
local macro_rules | `(tactic| walk_at "al1") => `(tactic| with_reducible refine ae_call ?_)
local macro_rules | `(tactic| walk_at "al1") => `(tactic| with_reducible refine ae_call1 ?_)
local macro_rules | `(tactic| walk_at "al1") => `(tactic| with_reducible refine ae_op ?_)
local macro_rules | `(tactic| walk_at "al1") => `(tactic| with_reducible refine ae_ref ?_)
local macro_rules | `(tactic| walk_at "al1") => `(tactic| with_reducible refine ae_ty ?_)
local macro_rules | `(tactic| walk_at "al1") => `(tactic| with_reducible refine ae_non ?_)
local macro_rules | `(tactic| walk_at "al1") => `(tactic| with_reducible refine ae_str ?_)
local macro_rules | `(tactic| walk_at "al1") => `(tactic| with_reducible refine ae_bl ?_)
local macro_rules | `(tactic| walk_at "al1") => `(tactic| with_reducible refine ae_int ?_)
local macro_rules | `(tactic| walk_at "al1") => `(tactic| ((with_reducible refine' ae_var ?_ ?_); rotate_left; exact rfl))
local macro_rules | `(tactic| walk_at "al1") => `(tactic| with_reducible refine as_par ?_)
local macro_rules | `(tactic| walk_at "al1") => `(tactic| with_reducible refine as_cont ?_)
local macro_rules | `(tactic| walk_at "al1") => `(tactic| with_reducible refine as_break ?_)
local macro_rules | `(tactic| walk_at "al1") => `(tactic| with_reducible refine as_next ?_)
local macro_rules | `(tactic| walk_at "al1") => `(tactic| with_reducible refine as_asg ?_)
local macro_rules | `(tactic| walk_at "al1") => `(tactic| with_reducible refine as_drop ?_)
local macro_rules | `(tactic| walk_at "al1") => `(tactic| with_reducible refine as_if ?_)
local macro_rules | `(tactic| walk_at "al1") => `(tactic| with_reducible refine as_retN ?_)
local macro_rules | `(tactic| walk_at "al1") => `(tactic| with_reducible refine as_ret ?_)
local macro_rules | `(tactic| walk_at "al1") => `(tactic| with_reducible refine as_seq ?_)
local macro_rules | `(tactic| walk_at "al") => `(tactic| repeat walk_at "al1")

theorem valD_cons (k' k : Key) (d : D) (l : List (Key × D)) : valD ((k', d) :: l) k = if k' = k then some d else valD l k := by
  unfold valD
  rw [List.find?_cons]
  by_cases h : k' = k
  · simp [h]
  · simp [h]
theorem kS_inj {a b : Nat} : kS a = kS b ↔ b = a := ⟨fun z => by simpa [kS, sg] using z.symm, fun z => by rw [z]⟩
theorem val_kvs (ps : List Pr) (c : Nat) : valD (kvsOf ps) (kS c) = (ps.find? fun p => c = p.1 ∨ c = p.2).map fun p => .str (sg (if c = p.1 then p.2 else p.1)) := by
  induction ps with
  | nil => rfl
  | cons p ps ih =>
    rw [kvsOf, valD_cons, valD_cons, ih, List.find?_cons]
    by_cases h1 : c = p.1
    · rw [if_pos (kS_inj.mpr h1)]
      simp [h1]
    · rw [if_neg (fun z => h1 (kS_inj.mp z))]
      by_cases h2 : c = p.2
      · rw [if_pos (kS_inj.mpr h2)]
        have h3 : ¬ p.2 = p.1 := fun z => h1 (h2.trans z)
        simp [h2, h3]
      · rw [if_neg (fun z => h2 (kS_inj.mp z))]
        simp [h1, h2]
theorem chars_at {z : Str} {i : Nat} {d : D} (h : (charsD z)[i]? = some d) : ∃ c, z.cps.toList[i]? = some c ∧ d = .str (sg c) := by
  unfold charsD at h
  rw [List.getElem?_map] at h
  cases e : z.cps.toList[i]? with
  | none => rw [e] at h; cases h
  | some c => rw [e] at h; exact ⟨c, rfl, (Option.some.inj h).symm⟩
theorem chars_len (z : Str) : (charsD z).length = z.length := by unfold charsD; rw [List.length_map]; rfl
theorem enum_at {ds : List D} {i : Nat} {d : D} (h : (enumD ds)[i]? = some d) : ∃ e, ds[i]? = some e ∧ d = .tup [.int (i : Nat), e] := by
  unfold enumD at h
  rw [List.getElem?_map, List.getElem?_zipIdx] at h
  cases e : ds[i]? with
  | none => rw [e] at h; cases h
  | some c => rw [e] at h; exact ⟨c, rfl, by simpa using (Option.some.inj h).symm⟩
theorem enum_len (ds : List D) : (enumD ds).length = ds.length := by unfold enumD; rw [List.length_map, List.length_zipIdx]
theorem pairs_at {ps : List Pr} {n : Nat} {d : D} (h : (ps.map pD)[n]? = some d) : ∃ p, ps[n]? = some p ∧ d = pD p := by
  rw [List.getElem?_map] at h
  cases e : ps[n]? with
  | none => rw [e] at h; cases h
  | some p => rw [e] at h; exact ⟨p, rfl, (Option.some.inj h).symm⟩
theorem and_oF {α : Type} {o : Option α} {A B : Prop} (hp : o = none) (h : B) : (o.isSome = true → A) ∧ (o.isSome = false → B) := by subst hp; exact and_F h
theorem and_oF' {α : Type} {o : Option α} {A B : Prop} (hp : o = none) (h : B) : (o.isSome = false → B) ∧ (o.isSome = true → A) := by subst hp; exact and_F' h
theorem putKD_new {kvs : List (Key × D)} {k : Key} {d : D} (h : valD kvs k = none) : putKD kvs k d = kvs ++ [(k, d)] := by
  unfold putKD
  rw [if_neg]
  unfold valD at h
  rw [Option.map_eq_none_iff, List.find?_eq_none] at h
  intro z
  rw [List.any_eq_true] at z
  obtain ⟨x, hx, e⟩ := z
  exact h x hx e
theorem val_none {ps : List Pr} {c : Nat} (h : c ∉ flat ps) : valD (kvsOf ps) (kS c) = none := by
  rw [val_kvs, Option.map_eq_none_iff, List.find?_eq_none]
  intro p hp z
  simp only [decide_eq_true_eq] at z
  refine h (List.mem_flatMap.mpr ⟨p, hp, ?_⟩)
  rcases z with z | z <;> simp [z]
theorem valD_app {a b : List (Key × D)} {k : Key} (h : valD a k = none) : valD (a ++ b) k = valD b k := by
  unfold valD at *
  rw [Option.map_eq_none_iff] at h
  rw [List.find?_append, h]
  rfl
theorem kvs_app (a : List Pr) (p : Pr) : kvsOf (a ++ [p]) = kvsOf a ++ [(kS p.1, .str (sg p.2)), (kS p.2, .str (sg p.1))] := by
  induction a with
  | nil => rfl
  | cons q a ih => rw [List.cons_append, kvsOf, ih, kvsOf]; rfl
theorem flat_split {ps : List Pr} {i : Nat} {p : Pr} (h : ps[i]? = some p) : flat ps = flat (ps.take i) ++ (p.1 :: p.2 :: flat (ps.drop (i + 1))) := by
  have hi := (List.getElem?_eq_some_iff.mp h)
  obtain ⟨hi, e⟩ := hi
  have : ps = ps.take i ++ p :: ps.drop (i + 1) := by
    rw [← e, List.getElem_cons_drop, List.take_append_drop]
  conv => lhs; rw [this]
  unfold flat
  rw [List.flatMap_append, List.flatMap_cons]
  rfl
theorem flat_new {ps : List Pr} {i : Nat} {p : Pr} (h : ps[i]? = some p) (nd : (flat ps).Nodup) : p.1 ∉ flat (ps.take i) ∧ p.2 ∉ flat (ps.take i) ∧ p.1 ≠ p.2 := by
  rw [flat_split h] at nd
  have h1 := List.nodup_append.mp nd
  refine ⟨fun z => h1.2.2 _ z _ (by simp) rfl, fun z => h1.2.2 _ z _ (by simp) rfl, fun z => ?_⟩
  have := h1.2.1
  rw [z] at this
  simp at this
theorem flat_mem {ps : List Pr} {i : Nat} {p : Pr} (h : ps[i]? = some p) : p.1 ∈ flat ps ∧ p.2 ∈ flat ps := by
  rw [flat_split h]
  simp
theorem putD_len (f : Str) (d : D) : ∀ fs : List (Str × D), (putD f d fs).length ≤ fs.length + 1
  | [] => Nat.le_refl _
  | (g, e) :: fs => by
    unfold putD
    split
    · simp
    · simp [putD_len f d fs]
theorem kvs_len (ps : List Pr) : (kvsOf ps).length = 2 * ps.length := by
  induction ps with
  | nil => rfl
  | cons p ps ih => rw [kvsOf, List.length_cons, List.length_cons, ih, List.length_cons]; omega
theorem eqv_nil (ds : List D) : eqvD (.lst ds) (.lst []) = ds.isEmpty := by
  cases ds with
  | nil => rfl
  | cons d ds => simp [eqvD, toPy, toPyL, PyData.eqv, PyData.eqvAll]
theorem chr_ok {xs : List D} (h : ∀ x ∈ xs, ∃ c, x = .str (sg c) ∧ c < 128) : okL xs = true ∧ depL xs = 0 := by
  induction xs with
  | nil => exact ⟨rfl, rfl⟩
  | cons x xs ih =>
    obtain ⟨c, rfl, hc⟩ := h x (List.mem_cons_self ..)
    obtain ⟨i1, i2⟩ := ih fun y hy => h y (List.mem_cons_of_mem _ hy)
    have e : okD (.str (sg c)) = true := by
      unfold okD PyData.strOk sg
      simp
      omega
    refine ⟨?_, ?_⟩
    · unfold okL; rw [e, i1]; rfl
    · unfold depL; rw [i2]; rfl
theorem inL_lt {c : Nat} (h : inL c) : c < 128 := by
  have : (LET.cps.toList.all fun c => decide (c < 128)) = true := by decide +kernel
  exact of_decide_eq_true (List.all_eq_true.mp this c h)
theorem perm_chars {ys : List D} {z : Str} (h : ys.Perm (charsD z)) : ∃ cs : List Nat, ys = cs.map (fun c => .str (sg c)) ∧ cs.Perm z.cps.toList := by
  have hall : ∀ y ∈ ys, ∃ c, y = D.str (sg c) := fun y hy => by
    obtain ⟨c, _, hc⟩ := List.mem_map.mp (h.mem_iff.mp hy)
    exact ⟨c, hc.symm⟩
  obtain ⟨cs, rfl⟩ : ∃ cs : List Nat, ys = cs.map (fun c => .str (sg c)) := by
    clear h
    induction ys with
    | nil => exact ⟨[], rfl⟩
    | cons y ys ih =>
      obtain ⟨c, rfl⟩ := hall y (List.mem_cons_self ..)
      obtain ⟨cs, rfl⟩ := ih fun z hz => hall z (List.mem_cons_of_mem _ hz)
      exact ⟨c :: cs, rfl⟩
  refine ⟨cs, rfl, ?_⟩
  have h2 := h.map (fun d => match d with
    | .str s => s.cps.toList.headD 0
    | _ => 0)
  unfold charsD at h2
  rw [List.map_map, List.map_map] at h2
  have hid : ((fun d => match d with
    | .str s => s.cps.toList.headD 0
    | _ => 0) ∘ fun c => D.str (sg c)) = (id : Nat → Nat) := rfl
  rw [hid, List.map_id, List.map_id] at h2
  exact h2
theorem range_at {lo : Int} {n i : Nat} {d : D} (h : (rangeD lo n)[i]? = some d) : i < n ∧ d = .int (lo + (i : Nat)) := by
  unfold rangeD at h
  rw [List.getElem?_map] at h
  cases e : (List.range n)[i]? with
  | none => rw [e] at h; cases h
  | some j =>
    rw [e] at h
    have h1 := List.getElem?_eq_some_iff.mp e
    obtain ⟨h1, h2⟩ := h1
    rw [List.length_range] at h1
    rw [List.getElem_range] at h2
    subst h2
    exact ⟨h1, (Option.some.inj h).symm⟩
theorem range_len {lo : Int} {n : Nat} : (rangeD lo n).length = n := by unfold rangeD; rw [List.length_map, List.length_range]
theorem cut_len {z : Str} (h : 2 ≤ z.length) : (cutS z (some 1) (some (-1))).length + 2 = z.length := by
  have e1 : HT.sIx z.length 0 (some 1) = 1 := by
    show (if (1 : Int) < 0 then ((1 : Int) + (z.length : Int)).toNat else min (1 : Int).toNat z.length) = 1
    rw [if_neg (by decide)]
    show min 1 z.length = 1
    omega
  have e2 : HT.sIx z.length z.length (some (-1)) = z.length - 1 := by
    show (if (-1 : Int) < 0 then (-1 + (z.length : Int)).toNat else min (-1 : Int).toNat z.length) = _
    rw [if_pos (by decide)]
    omega
  unfold cutS
  rw [e1, e2]
  have e4 : ∀ l : List Nat, (⟨l.toArray⟩ : Str).length = l.length := fun l => List.size_toArray ..
  have e3 : z.cps.toList.length = z.length := rfl
  rw [e4, List.length_take, List.length_drop, e3]
  omega
theorem sign_mem {z : Str} {n : Int} {c : Nat} (h : c ∈ (z ++ mulS sp1 n).cps.toList) : c = 32 ∨ c ∈ z.cps.toList := by
  have e : (z ++ mulS sp1 n).cps.toList = z.cps.toList ++ (mulS sp1 n).cps.toList := Array.toList_append
  rw [e] at h
  rcases List.mem_append.mp h with h | h
  · exact .inr h
  · left
    have : (mulS sp1 n).cps.toList = (List.replicate n.toNat [32]).flatten := rfl
    rw [this] at h
    obtain ⟨l, hl, hc⟩ := List.mem_flatten.mp h
    rw [List.eq_of_mem_replicate hl] at hc
    exact List.mem_singleton.mp hc
theorem sum_ones : ∀ r : List Nat, (r.map ((fun s : Str => s.length) ∘ sg)).sum = r.length
  | [] => rfl
  | c :: r => by rw [List.map_cons, List.sum_cons, sum_ones r, List.length_cons]; show 1 + r.length = _; omega
theorem join_sg0 : ∀ r : List Nat, (Str.join (Str.ofString "") (r.map sg)).cps.toList = r
  | [] => rfl
  | [c] => rfl
  | c :: d :: r => by
    have e : Str.join (Str.ofString "") ((c :: d :: r).map sg) = sg c ++ Str.ofString "" ++ Str.join (Str.ofString "") ((d :: r).map sg) := rfl
    have e2 : ∀ a b : Str, (a ++ b).cps.toList = a.cps.toList ++ b.cps.toList := fun a b => Array.toList_append
    rw [e, e2, e2, join_sg0 (d :: r)]
    rfl
theorem join_sg (r : List Nat) : Txt.join (Str.ofString "") (r.map sg) = ⟨r.toArray⟩ := by
  have e := join_sg0 r
  show Builtin.Str.glued (PySem.Str.ofString "") (r.map sg) = _
  rw [StrLaws.glued_eq_join]
  cases h : Str.join (Str.ofString "") (r.map sg) with
  | mk a =>
    rw [h] at e
    rw [← e]
theorem erase_perm {α : Type} : ∀ {l : List α} {j : Nat} (hj : j < l.length), ([l[j]] ++ l.eraseIdx j).Perm l
  | a :: l, 0, _ => List.Perm.refl _
  | a :: l, j + 1, hj => by
    have ih := erase_perm (l := l) (j := j) (by simpa using hj)
    have hj' : j < l.length := by simpa using hj
    show (l[j]'hj' :: a :: l.eraseIdx j).Perm (a :: l)
    exact (List.Perm.swap a _ _).trans (List.Perm.cons a ih)
theorem rep_map (n : Nat) : List.replicate n (D.bl true) = (List.replicate n true).map D.bl := by rw [List.map_replicate]
theorem all_rep (n : Nat) : (List.replicate n true).all id = true := by
  rw [List.all_eq_true]
  intro x hx
  exact List.eq_of_mem_replicate hx
theorem Sgn.cons {C : Addr} {ms : Ms} {x : Addr} {w : Int} {ps : List Pr} {p : Addr × MO} : Sgn C ms x w ps → Sgn C (p :: ms) x w ps := fun ⟨i, j, m, h1, h2⟩ => ⟨i + 1, j + 1, m, h1, h2⟩
noncomputable def okZ (z : Str) : Prop := z.cps.toList.Nodup ∧ (∀ c ∈ z.cps.toList, inL c) ∧ 0 < z.length ∧ z.length ≤ 100
noncomputable def ZS : List D := [.str "ABCDMW", .str "ABCDEFGHIJ6789", .str "0Z9A"]
section
variable {P : Program} {w : World} {K : Frg} {mg : Str → Option Value} {base : Heap}
theorem ok_is_int_in (T : Txt K mg) : OK_is_int_in P w base T := by
  refine fn_ok T.F_is_int_in sc_is_int_in (by rintro _ _ _ _ _ ⟨v, lo, hi, rfl, _⟩; rfl) (fun cdv A outer s H E hr => ?_)
  have hu64 := hr.units
  refine ⟨_, (pss_one (ps_ret (pe_and (pe_callB (kISI (K := K) rfl) (by rfl) T.g_isinstance boot_isinstance (pa_cons (pv 0) (pa_cons (pe_bltn (v := .ty "int") (by rfl) T.g_int boot_int rfl) pa_nil))) (pe_and (pe_not (pe_callB (kISI (K := K) rfl) (by rfl) T.g_isinstance boot_isinstance (pa_cons (pv 0) (pa_cons (pe_bltn (v := .ty "bool") (by rfl) T.g_bool boot_bool rfl) pa_nil)))) (pe_one (pe_chain op_le op_le (pv 1) (pv 0) (pv 2))))))), ?_⟩
  rintro _ F ms Q Ea ⟨v, lo, hi, rfl, q⟩
  walk_at "al"
  by_cases h : lo ≤ v
  · refine ⟨fun _ => ?_, fun z => by simp [h] at z⟩
    walk_at "al"
    simpa [h] using q
  · refine ⟨fun z => by simp [h] at z, fun _ => ?_⟩
    walk_at "al"
    simpa [h] using q
theorem ok_is_pair (T : Txt K mg) : OK_is_pair P w base T := by
  refine fn_ok T.F_is_pair sc_is_pair (by rintro _ _ _ _ _ ⟨v, rfl, _⟩; rfl) (fun cdv A outer s H E hr => ?_)
  have hu64 := hr.units
  refine ⟨_, (pss_cons (ps_if ((pw_or (pt_not (pt_val (pe_callB (kISI (K := K) rfl) (by rfl) T.g_isinstance boot_isinstance (pa_cons (pv 0) (pa_cons (pe_bltn (v := .ty "str") (by rfl) T.g_str boot_str rfl) pa_nil))))) (pw_or (pt_cmpR (kNE (K := K) rfl hu64) (pe_callB (kLEN (K := K) rfl) (by rfl) T.g_len boot_len (pa_cons (pv 0) pa_nil)) pe_int (nomark _)) (pw_or1 (pt_cmpR (kEQ (K := K) rfl hu64) (pe_ix (kIX (K := K) rfl) (pv 0) pe_int (fun _ _ => rfl)) (pe_ix (kIX (K := K) rfl) (pv 0) pe_int (fun _ _ => rfl)) (nomark _)))))).pt (pss_one (ps_ret pe_bl)) pss_nil)
      (pss_one (ps_ret (pe_and (pe_cmpR (kIN (K := K) rfl) (pe_ix (kIX (K := K) rfl) (pv 0) pe_int (fun _ _ => rfl)) (pe_glob (by rfl) T.m_LETTERS T.r_LETTERS) (by with_unfolding_all rfl)) (pe_one (pe_cmpR (kIN (K := K) rfl) (pe_ix (kIX (K := K) rfl) (pv 0) pe_int (fun _ _ => rfl)) (pe_glob (by rfl) T.m_LETTERS T.r_LETTERS) (by with_unfolding_all rfl))))))), ?_⟩
  rintro _ F ms Q Ea ⟨p, rfl, h1, h2, h3, q⟩
  have e1 : decide (((pS p).length : Int) = 2) = true := decide_eq_true rfl
  have e2 : decide (sg p.1 = sg p.2) = false := decide_eq_false fun z => h1 (by simpa [sg] using z)
  show AS _ _ _ _ [some (.str (pS p))] _
  walk_at "al"
  refine ac_lenS (z := pS p) (by show 2 ≤ 100000; decide) ?_
  walk_at "al"
  rw [e1]
  walk_at "al"
  refine ar_ixS (z := pS p) (c := p.1) (by show 2 ≤ 100000; decide) rfl ?_
  walk_at "al"
  refine ar_ixS (z := pS p) (c := p.2) (by show 2 ≤ 100000; decide) rfl ?_
  walk_at "al"
  rw [e2]
  walk_at "al"
  refine ar_ixS (z := pS p) (c := p.1) (by show 2 ≤ 100000; decide) rfl ?_
  walk_at "al"
  refine and_dT h2 ?_
  walk_at "al"
  refine ar_ixS (z := pS p) (c := p.2) (by show 2 ≤ 100000; decide) rfl ?_
  walk_at "al"
  have e3 : decide (p.2 ∈ LET.cps.toList) = true := decide_eq_true h3
  show Q F ms (.bl (decide (p.2 ∈ LET.cps.toList)))
  rw [e3]
  exact q
theorem ok__law_below (T : Txt K mg) : OK__law_below P w base T := by
  refine fn_ok T.F__law_below sc__law_below (by rintro _ _ _ _ _ ⟨k, l, st, n, rfl, _⟩; rfl) (fun cdv A outer s H E hr => ?_)
  have hu64 := hr.units
  refine ⟨_, (pss_cons (ps_if ((pw_and (pt_cmpR (kEQ (K := K) rfl hu64) (pe_ix (kIX (K := K) rfl) (pv 0) pe_int (fun _ _ => rfl)) pe_int (nomark _)) (pw_and1 (pt_cmpR op_gt (pe_callB (kLEN (K := K) rfl) (by rfl) T.g_len boot_len (pa_cons (pv 0) pa_nil)) pe_int (nomark _))))).pt (pss_one (ps_asg (pe_bmk (K := K) rfl PySem.F.plainAttrs_list PySem.F.slot_list_pop PySem.F.type_list_pop mt_popAt (pv 0) (pa_cons pe_int pa_nil)) (pg_sub (pv 0) pe_int set_list))) pss_nil)
      (pss_cons (ps_if (pt_cmpR op_gt (pe_ix (kIX (K := K) rfl) (pv 0) pe_int (fun _ _ => rfl)) pe_int (nomark _)) (pss_cons (ps_set (i := 2) sc__law_below.nd rfl (by first | exact Or.inl rfl | exact Or.inr rfl) (pe_op op_mod (pe_ix (kIX (K := K) rfl) (pv 0) pe_int (fun _ _ => rfl)) (pv 1)))
      (pss_cons (ps_asg (pe_op op_fdiv (pe_ix (kIX (K := K) rfl) (pv 0) pe_int (fun _ _ => rfl)) (pv 1)) (pg_sub (pv 0) pe_int set_list))
      (pss_one (ps_ret (pv 2))))) pss_nil)
      (pss_cons (ps_asg (pe_op op_mod (pe_op (kADD (K := K) rfl) (pe_op (kMUL (K := K) rfl) (pe_ix (kIX (K := K) rfl) (pv 0) pe_int (fun _ _ => rfl)) pe_int) pe_int) pe_int) (pg_sub (pv 0) pe_int set_list))
      (pss_one (ps_ret (pe_op op_mod (pe_op op_fdiv (pe_ix (kIX (K := K) rfl) (pv 0) pe_int (fun _ _ => rfl)) pe_int) (pv 1))))))), ?_⟩
  rintro _ F ms Q Ea ⟨k, l, _, n, rfl, hk, ⟨s0, c0, rest, rfl, hs0, hs1, hc0, hrest, hlen⟩, n0, n1, q⟩
  have hkl : k < ms.length := (List.getElem?_eq_some_iff.mp hk).1
  refine as_cut (fun F' ms' S' => F' = F ∧ S' = startS N__law_below [.ref l, .int n] ∧ ∃ (c : Int) (R' : List Int), ms' = ms.set k (l, .lst (.int s0 :: .int c :: R'.map D.int)) ∧ 0 ≤ c ∧ (∀ x ∈ R', 10 ^ 18 ≤ x) ∧ R'.length ≤ 64) ?_ ?_
  · walk_at "al"
    refine ar_ixO k hk (atI_of (j := 1) rfl rfl) ?_
    walk_at "al"
    by_cases hc : c0 = 0
    · refine and_dT hc ?_
      walk_at "al"
      refine ac_lenO k hk ?_
      walk_at "al"
      cases rest with
      | nil =>
        refine and_dF (by simp) ?_
        walk_at "al"
        exact ⟨rfl, rfl, c0, [], (set_same hk).symm, hc0, hrest, hlen⟩
      | cons r0 rest =>
        refine and_dT (by simp; omega) ?_
        refine as_subO ?_
        refine ae_bmL ?_
        walk_at "al"
        refine ⟨_, .inr ⟨k, l, rfl, hk⟩, ?_⟩
        walk_at "al"
        refine am_popAt k (j := 2) (d := .int r0) hk rfl (by simp; simp at hlen; omega) rfl ?_
        walk_at "al"
        refine ⟨k, l, _, 1, 1, rfl, rfl, set_get hkl, ixN_of rfl (by simp), ?_⟩
        refine ⟨rfl, rfl, r0, rest, ?_, ?_, fun x hx => hrest x (List.mem_cons_of_mem _ hx), ?_⟩
        · rw [set_set]; rfl
        · have := hrest r0 (List.mem_cons_self ..); omega
        · simp at hlen; omega
    · refine and_dF hc ?_
      walk_at "al"
      exact ⟨rfl, rfl, c0, rest, (set_same hk).symm, hc0, hrest, hlen⟩
  · rintro F' ms' S' eF ⟨rfl, rfl, c, R', rfl, hc0', hrest', hlen'⟩
    have hk' : (ms.set k (l, MO.lst (.int s0 :: .int c :: R'.map D.int)))[k]? = some (l, .lst (.int s0 :: .int c :: R'.map D.int)) := set_get hkl
    walk_at "al"
    refine ar_ixO k hk' (atI_of (j := 1) rfl rfl) ?_
    walk_at "al"
    by_cases hc : 0 < c
    · refine and_dT hc ?_
      walk_at "al"
      refine ar_ixO k hk' (atI_of (j := 1) rfl rfl) ?_
      walk_at "al"
      refine ar_modI n0 ?_
      walk_at "al"
      refine as_subO ?_
      walk_at "al"
      refine ar_ixO k hk' (atI_of (j := 1) rfl rfl) ?_
      walk_at "al"
      refine ar_divI ⟨n0, by omega⟩ ?_
      walk_at "al"
      refine ⟨k, l, _, 1, 1, rfl, rfl, hk', ixN_of rfl (by simp), ?_⟩
      walk_at "al"
      rw [set_set]
      exact q _ _ ⟨s0, c / n, R', rfl, hs0, hs1, Int.ediv_nonneg hc0' (by omega), hrest', hlen'⟩ (Int.emod_nonneg _ (by omega)) (Int.emod_lt_of_pos _ n0)
    · refine and_dF hc ?_
      walk_at "al"
      refine as_subO ?_
      walk_at "al"
      refine ar_ixO k hk' (atI_of (j := 0) rfl rfl) ?_
      walk_at "al"
      refine ar_MULi (.inr ⟨by decide, by decide⟩) ?_
      walk_at "al"
      refine ar_modI (by decide) ?_
      walk_at "al"
      refine ⟨k, l, _, 0, 0, rfl, rfl, hk', ixN_of rfl (by simp), ?_⟩
      walk_at "al"
      rw [set_set]
      refine ar_ixO k (set_get hkl) (atI_of (j := 0) rfl rfl) ?_
      walk_at "al"
      refine ar_divI ⟨by decide, by decide⟩ ?_
      walk_at "al"
      refine ar_modI n0 ?_
      exact q _ _ ⟨(s0 * 48271 + 11) % 2147483647, c, R', rfl, Int.emod_nonneg _ (by decide), Int.emod_lt_of_pos _ (by decide), hc0', hrest', hlen'⟩ (Int.emod_nonneg _ (by omega)) (Int.emod_lt_of_pos _ n0)
theorem ok__law_random (T : Txt K mg) : OK__law_random P w base T := by
  refine fn_ok T.F__law_random sc__law_random (by rintro _ _ _ _ _ ⟨ns, rfl, _⟩; rfl) (fun cdv A outer s H E hr => ?_)
  have hu64 := hr.units
  refine ⟨_, (pss_cons (ps_set (i := 2) sc__law_random.nd rfl (by first | exact Or.inl rfl | exact Or.inr rfl) (pv 1))
      (pss_cons (ps_for PassesOwn.never rfl (pi_listk (K := K) rfl (pv 0)) (pg_name (i := 3) sc__law_random.nd rfl (by first | exact Or.inl rfl | exact Or.inr rfl)) (pss_one (ps_set (i := 2) sc__law_random.nd rfl (by first | exact Or.inl rfl | exact Or.inr rfl) (pe_op op_mod (pe_op (kADD (K := K) rfl) (pe_op (kMUL (K := K) rfl) (pv 2) pe_int) (pe_callB call_ABS (by rfl) T.g_abs boot_abs (pa_cons (pv 3) pa_nil))) pe_int))))
      (pss_one (ps_ret (pe_op (kADD (K := K) rfl) (pe_lst (pa_cons (pv 2) (pa_cons pe_int pa_nil))) (pe_lc rfl sc__law_random.nd (pi_listk (K := K) rfl (pv 0)) (own := [("_law_cell", 3)]) (@BlkOk.mk N__law_random (defScope s__law_random) _ _ rfl (by decide +kernel) (by decide +kernel) (by decide +kernel) (by decide +kernel)) (fun _ _ _ _ _ => (pg_name (i := 3) sc__law_random.nd rfl (by first | exact Or.inl rfl | exact Or.inr rfl))) (fun _ _ _ _ _ => (pts_one (pt_cmpR op_ge (pv 3) (pe_op op_pow pe_int pe_int) (nomark _)))) (fun _ _ _ _ _ => (pv 3)))))))), ?_⟩
  rintro _ F ms Q Ea ⟨ns, rfl, hn, q⟩
  refine as_seq ?_
  walk_at "al"
  refine as_for ?_
  refine ai_list ?_
  walk_at "al"
  refine .inl ⟨_, .inr rfl, fun i F' ms' S' => ms' = ms ∧ ∃ (z : Int) (e : Option D), 0 ≤ z ∧ z < 2147483647 ∧ S' = [some (.rdl (ns.map D.int)), some (.int 8), some (.int z), e], ⟨rfl, 8, none, by decide, by decide, rfl⟩, fun _ _ _ _ _ _ => trivial, ?_, ?_⟩
  · rintro i d F' ms' S' e hd ⟨rfl, z, e', hz0, hz1, rfl⟩ F'' e''
    obtain ⟨x, rfl⟩ : ∃ x, d = .int x := by
      rw [List.getElem?_map] at hd
      cases h : ns[i]? with
      | none => rw [h] at hd; cases hd
      | some x => rw [h] at hd; exact ⟨x, (Option.some.inj hd).symm⟩
    refine ag_name ?_
    walk_at "al"
    refine ar_MULi (.inr ⟨by decide, by decide⟩) ?_
    walk_at "al"
    refine ar_modI (by decide) ?_
    walk_at "al"
    exact ⟨rfl, _, _, Int.emod_nonneg _ (by decide), Int.emod_lt_of_pos _ (by decide), rfl⟩
  · rintro F' ms' S' e ⟨rfl, z, e', hz0, hz1, rfl⟩
    walk_at "al"
    refine ae_lstF ?_
    walk_at "al"
    refine ⟨by simp, fun F2 e2 => ?_⟩
    refine ae_lc (gw_name (by simp)) gm_name ?_
    refine ai_list ?_
    walk_at "al"
    refine .inl ⟨_, .inr rfl, fun i F' ms1 acc => ms1 = ms' ∧ ∃ R' : List Int, acc = R'.map D.int ∧ (∀ x ∈ R', 10 ^ 18 ≤ x) ∧ R'.length ≤ i, ⟨rfl, [], rfl, fun _ h => (List.not_mem_nil h).elim, Nat.le_refl _⟩, fun _ _ _ _ _ _ => trivial, ?_, ?_⟩
    · rintro i d F3 ms3 acc e3 hd ⟨rfl, R', rfl, hR, hl⟩ F4 e4
      have hi : i < ns.length := by
        have := (List.getElem?_eq_some_iff.mp hd).1
        simpa using this
      obtain ⟨x, rfl⟩ : ∃ x, d = .int x := by
        rw [List.getElem?_map] at hd
        cases h : ns[i]? with
        | none => rw [h] at hd; cases hd
        | some x => rw [h] at hd; exact ⟨x, (Option.some.inj hd).symm⟩
      refine ag_name ?_
      walk_at "al"
      refine ar_powI ⟨by decide, by decide, by decide⟩ ?_
      walk_at "al"
      refine ⟨fun h => ?_, fun h => ?_⟩
      · walk_at "al"
        refine ⟨by rw [List.length_map]; omega, rfl, R' ++ [x], by rw [List.map_append]; rfl, ?_, by rw [List.length_append]; simp; omega⟩
        intro y hy
        rcases List.mem_append.mp hy with hy | hy
        · exact hR y hy
        · rw [List.mem_singleton.mp hy]
          exact of_decide_eq_true h
      · exact ⟨rfl, R', rfl, hR, by omega⟩
    · rintro F3 ms3 acc e3 ⟨rfl, R', rfl, hR, hl⟩ F4 e4
      rw [List.length_map] at hl
      refine ar_ADDlo (by rw [List.length_map]; simp; omega) fun l => ?_
      exact q F4 l _ ((((e.trans e2).trans e3).trans e4)) ⟨z, 0, R', rfl, hz0, hz1, by decide, hR, by omega⟩
theorem ok_Sign___init__ (T : Txt K mg) (G_is_int_in : OK_is_int_in P w base T) (G_is_pair : OK_is_pair P w base T) : OK_Sign___init__ P w base T := by
  refine fn_okD T.F_Sign___init__ sc_Sign___init__ (by rintro _ _ _ _ _ ⟨x, w, ps, R, rfl, _⟩; rfl) (fun cdv A outer s H E hr => ?_)
  have hu64 := hr.units
  refine ⟨_, (pss_cons (ps_if (pt_not (pt_val (pe_call G_is_int_in (hr.mono (by first | decide | omega)) (by rfl) T.m_is_int_in T.F_is_int_in.kp T.b_is_int_in .nil pass0 (pa_cons (pv 1) (pa_cons pe_int (pa_cons (pe_glob (by rfl) T.m_MAX_WIDTH T.r_MAX_WIDTH) pa_nil)))))) (pss_one ps_never) pss_nil)
      (pss_cons (ps_if (pt_not (pt_val (pe_callB (kISI (K := K) rfl) (by rfl) T.g_isinstance boot_isinstance (pa_cons (pv 2) (pa_cons (pe_bltn (v := .ty "tuple") (by rfl) T.g_tuple boot_tuple rfl) pa_nil))))) (pss_one ps_never) pss_nil)
      (pss_cons (ps_fld (pv 0) pe_dnewK (by rfl))
      (pss_cons (ps_for PassesOwn.never rfl (pi_enumA (by rfl) T.g_enumerate (pa_cons (pv 2) pa_nil)) (pg_tup rfl (pgs_cons (pg_name (i := 3) sc_Sign___init__.nd rfl (by first | exact Or.inl rfl | exact Or.inr rfl)) (pgs_cons (pg_name (i := 4) sc_Sign___init__.nd rfl (by first | exact Or.inl rfl | exact Or.inr rfl)) pgs_nil))) (pss_cons (ps_if ((pw_or (pt_cmpR (kEQ (K := K) rfl hu64) (pv 3) (pe_glob (by rfl) T.m_MAX_PAIRS T.r_MAX_PAIRS) (nomark _)) (pw_or (pt_not (pt_val (pe_call G_is_pair (hr.mono (by first | decide | omega)) (by rfl) T.m_is_pair T.F_is_pair.kp T.b_is_pair .nil pass0 (pa_cons (pv 4) pa_nil)))) (pw_or (pt_cmp (pc_din (hu_of hr) (pe_ix (kIX (K := K) rfl) (pv 4) pe_int (fun _ _ => rfl)) (pe_fldk (K := K) rfl (pv 0) (by rfl)))) (pw_or1 (pt_cmp (pc_din (hu_of hr) (pe_ix (kIX (K := K) rfl) (pv 4) pe_int (fun _ _ => rfl)) (pe_fldk (K := K) rfl (pv 0) (by rfl))))))))).pt (pss_one ps_never) pss_nil)
      (pss_cons (ps_dput (hu_of hr) (pe_fldk (K := K) rfl (pv 0) (by rfl)) (pe_ix (kIX (K := K) rfl) (pv 4) pe_int (fun _ _ => rfl)) (pe_ix (kIX (K := K) rfl) (pv 4) pe_int (fun _ _ => rfl)) (by rfl))
      (pss_one (ps_dput (hu_of hr) (pe_fldk (K := K) rfl (pv 0) (by rfl)) (pe_ix (kIX (K := K) rfl) (pv 4) pe_int (fun _ _ => rfl)) (pe_ix (kIX (K := K) rfl) (pv 4) pe_int (fun _ _ => rfl)) (by rfl))))))
      (pss_cons (ps_fld (pv 0) (pv 1) (by rfl))
      (pss_one (ps_fld (pv 0) (pv 2) (by rfl)))))))), ?_⟩
  rintro _ F _ Q Ea ⟨x, w, ps, R, rfl, w1, w2, hl, hL, hnd, rfl, q⟩
  walk_at "al"
  refine ⟨w, 1, 24, rfl, ?_⟩
  rw [decide_eq_true w1, decide_eq_true w2]
  walk_at "al"
  refine and_nT ?_
  walk_at "al"
  refine as_fld ?_
  refine ae_dnewO fun m => ?_
  walk_at "al"
  refine ⟨1, x, T.c_Sign, [], rfl, rfl, T.k_Sign, T.n_Sign_mates, by decide, ?_⟩
  walk_at "al"
  refine as_for ?_
  refine ai_enum ?_
  walk_at "al"
  refine .inr (.inl ⟨_, rfl, fun i F' ms' S' => ms' = (m, .dic (kvsOf (ps.take i))) :: (x, .ins T.c_Sign [("mates", .ref m)]) :: R ∧ ∃ a b, S' = [some (.ref x), some (.int w), some (.tup (ps.map pD)), a, b], ⟨rfl, none, none, rfl⟩, fun _ _ _ _ _ _ => trivial, ?_, ?_⟩)
  · rintro n d F' ms' S' e hd ⟨rfl, a, b, rfl⟩ F'' e''
    obtain ⟨_, h1, rfl⟩ := enum_at hd
    obtain ⟨p, hp, rfl⟩ := pairs_at h1
    obtain ⟨f1, f2, f3⟩ := flat_new hp hnd
    obtain ⟨g1, g2⟩ := flat_mem hp
    have hn : n < ps.length := (List.getElem?_eq_some_iff.mp hp).1
    refine ag_tup rfl ?_
    refine ags_cons (ag_name ?_)
    refine ags_cons (ag_name ?_)
    refine ags_nil ?_
    walk_at "al"
    refine and_dF' (by omega) ?_
    walk_at "al"
    refine ⟨p, rfl, f3, hL _ g1, hL _ g2, ?_⟩
    walk_at "al"
    refine ae_din ?_
    walk_at "al"
    refine ar_ixS (z := pS p) (c := p.1) (by show 2 ≤ 100000; decide) rfl ?_
    refine ae_fld ?_
    walk_at "al"
    refine ⟨x, T.c_Sign, [("mates", .ref m)], .ref m, rfl, .inr ⟨1, rfl⟩, T.k_Sign, T.n_Sign_mates, rfl, ?_⟩
    refine ⟨kS p.1, _, rfl, .inr ⟨0, m, rfl, rfl⟩, ?_⟩
    walk_at "al"
    refine and_oF' (val_none f1) ?_
    walk_at "al"
    refine ae_din ?_
    walk_at "al"
    refine ar_ixS (z := pS p) (c := p.2) (by show 2 ≤ 100000; decide) rfl ?_
    refine ae_fld ?_
    walk_at "al"
    refine ⟨x, T.c_Sign, [("mates", .ref m)], .ref m, rfl, .inr ⟨1, rfl⟩, T.k_Sign, T.n_Sign_mates, rfl, ?_⟩
    refine ⟨kS p.2, _, rfl, .inr ⟨0, m, rfl, rfl⟩, ?_⟩
    walk_at "al"
    refine and_oF (val_none f2) ?_
    walk_at "al"
    refine as_dput ?_
    walk_at "al"
    refine ar_ixS (z := pS p) (c := p.2) (by show 2 ≤ 100000; decide) rfl ?_
    refine ae_fld ?_
    walk_at "al"
    refine ⟨x, T.c_Sign, [("mates", .ref m)], .ref m, rfl, .inr ⟨1, rfl⟩, T.k_Sign, T.n_Sign_mates, rfl, ?_⟩
    walk_at "al"
    refine ar_ixS (z := pS p) (c := p.1) (by show 2 ≤ 100000; decide) rfl ?_
    have l1 := kvs_len (ps.take n)
    have l2 : (ps.take n).length ≤ 10 := by rw [List.length_take]; omega
    refine ⟨0, m, _, kS p.1, rfl, rfl, rfl, by omega, ?_⟩
    walk_at "al"
    refine as_dput ?_
    walk_at "al"
    refine ar_ixS (z := pS p) (c := p.1) (by show 2 ≤ 100000; decide) rfl ?_
    refine ae_fld ?_
    walk_at "al"
    refine ⟨x, T.c_Sign, [("mates", .ref m)], .ref m, rfl, .inr ⟨1, rfl⟩, T.k_Sign, T.n_Sign_mates, rfl, ?_⟩
    walk_at "al"
    refine ar_ixS (z := pS p) (c := p.2) (by show 2 ≤ 100000; decide) rfl ?_
    have l3 : (putKD (kvsOf (ps.take n)) (kS p.1) (.str (sg p.2))).length = (kvsOf (ps.take n)).length + 1 := by rw [putKD_new (val_none f1), List.length_append]; rfl
    refine ⟨0, m, _, kS p.2, rfl, rfl, rfl, by omega, ?_⟩
    refine ⟨?_, _, _, rfl⟩
    show (m, MO.dic (putKD (putKD (kvsOf (ps.take n)) (kS p.1) (.str (sg p.2))) (kS p.2) (.str (sg p.1)))) :: _ = _
    rw [putKD_new (val_none f1), putKD_new (by
      rw [valD_app (val_none f2), valD_cons, if_neg (fun z => f3 (kS_inj.mp z).symm)]
      rfl), List.take_succ, hp]
    show _ = (m, MO.dic (kvsOf (ps.take n ++ [p]))) :: _
    rw [kvs_app, List.append_assoc]
    rfl
  · rintro F' ms' S' e ⟨rfl, a, b, rfl⟩
    rw [enum_len, List.length_map, List.take_length]
    walk_at "al"
    refine as_fld ?_
    walk_at "al"
    refine ⟨1, x, T.c_Sign, _, rfl, rfl, T.k_Sign, T.n_Sign_width, by show 1 < 1000; decide, ?_⟩
    walk_at "al"
    refine as_fld ?_
    walk_at "al"
    refine ⟨1, x, T.c_Sign, _, rfl, rfl, T.k_Sign, T.n_Sign_pairs, Nat.lt_of_le_of_lt (putD_len _ _ _) (by show 2 < 1000; decide), ?_⟩
    exact q m F' e
theorem ok__law_shuffled (T : Txt K mg) (G__law_below : OK__law_below P w base T) : OK__law_shuffled P w base T := by
  refine fn_ok T.F__law_shuffled sc__law_shuffled (by rintro _ _ _ _ _ ⟨k, l, st, xs, rfl, _⟩; rfl) (fun cdv A outer s H E hr => ?_)
  have hu64 := hr.units
  refine ⟨_, (pss_cons (ps_set (i := 2) sc__law_shuffled.nd rfl (by first | exact Or.inl rfl | exact Or.inr rfl) (pe_callTy (kLIST (K := K) rfl rfl) (by rfl) T.g_list boot_list (pa_cons (pv 1) pa_nil)))
      (pss_cons (ps_set (i := 3) sc__law_shuffled.nd rfl (by first | exact Or.inl rfl | exact Or.inr rfl) (pe_lst pa_nil))
      (pss_cons (ps_while PassesOwn.never (pt_cmpR (kNE (K := K) rfl hu64) (pv 2) (pe_lst pa_nil) (nomark _)) (pss_one (ps_expr (pe_bmk (K := K) rfl PySem.F.plainAttrs_list PySem.F.slot_list_append PySem.F.type_list_append mt_append (pv 3) (pa_cons (pe_bmk (K := K) rfl PySem.F.plainAttrs_list PySem.F.slot_list_pop PySem.F.type_list_pop mt_popAt (pv 2) (pa_cons (pe_call G__law_below (hr.mono (by first | decide | omega)) (by rfl) T.m__law_below T.F__law_below.kp T.b__law_below .nil pass0 (pa_cons (pv 0) (pa_cons (pe_callB (kLEN (K := K) rfl) (by rfl) T.g_len boot_len (pa_cons (pv 2) pa_nil)) pa_nil))) pa_nil)) pa_nil)))))
      (pss_one (ps_ret (pv 3)))))), ?_⟩
  rintro _ F ms Q Ea ⟨k, l, st, xs, rfl, hk, hst, hx, hc, q⟩
  have hkl : k < ms.length := (List.getElem?_eq_some_iff.mp hk).1
  walk_at "al"
  refine ac_listO (.inl (.inl rfl)) fun l1 => ?_
  walk_at "al"
  refine ae_lstO ?_
  walk_at "al"
  refine ⟨by simp, fun l2 => ?_⟩
  walk_at "al"
  refine as_while (fun m F' ms' S' => ∃ (r p st' : List D), ms' = (l2, .lst r) :: (l1, .lst p) :: ms.set k (l, .lst st') ∧ St st' ∧ (r ++ p).Perm xs ∧ p.length = m ∧ S' = [some (.ref l), some (.lst xs), some (.ref l1), some (.ref l2)]) xs.length ⟨[], xs, st, by rw [set_same hk], hst, List.Perm.refl _, rfl, rfl⟩ ?_
  rintro m F' ms' S' e ⟨r, p, st', rfl, hst', hp, rfl, rfl⟩
  have hps : ∀ y ∈ r ++ p, ∃ c, y = .str (sg c) ∧ c < 128 := fun y hy => hc y (hp.mem_iff.mp hy)
  obtain ⟨o1, o2⟩ := chr_ok fun y hy => hps y (List.mem_append_right _ hy)
  have hlen := hp.length_eq
  rw [List.length_append] at hlen
  walk_at "al"
  refine ae_lstF ?_
  walk_at "al"
  refine ⟨by simp, fun F2 e2 => ?_⟩
  refine ar_NEo 1 (ds := p) rfl o1 rfl (by rw [o2]; decide) (by decide) ?_
  walk_at "al"
  rw [eqv_nil]
  cases p with
  | nil =>
    refine and_nT ?_
    refine as_ret (ae_dropm (ae_frz ?_))
    walk_at "al"
    refine ⟨0, l2, r, rfl, rfl, fun F3 e3 => ⟨0, Nat.zero_lt_succ _, ?_⟩⟩
    exact q st' F3 r ((e.trans e2).trans e3) hst' (by simpa using hp)
  | cons d0 p0 =>
    refine and_nF ?_
    walk_at "al"
    refine ae_bmL ?_
    walk_at "al"
    refine ⟨r, .inr ⟨0, l2, rfl, rfl⟩, ?_⟩
    walk_at "al"
    refine ae_bmL ?_
    walk_at "al"
    refine ⟨d0 :: p0, .inr ⟨1, l1, rfl, rfl⟩, ?_⟩
    walk_at "al"
    refine ac_lenO 1 (ds := d0 :: p0) rfl ?_
    walk_at "al"
    rw [List.length_cons] at hlen
    refine ⟨k + 2, l, st', _, rfl, set_get hkl, hst', by rw [List.length_cons]; omega, by rw [List.length_cons]; omega, fun st2 z hst2 z0 z1 => ?_⟩
    walk_at "al"
    obtain ⟨j, rfl⟩ : ∃ j : Nat, z = j := ⟨z.toNat, by omega⟩
    have hj : j < (d0 :: p0).length := by omega
    refine am_popAt 1 (l := l1) (xs := d0 :: p0) rfl rfl (by rw [List.length_cons]; omega) (List.getElem?_eq_getElem hj) ?_
    walk_at "al"
    refine am_append 0 (l := l2) (xs := r) rfl (by omega) ?_
    have he : (List.eraseIdx (d0 :: p0) j).length = p0.length := by rw [List.length_eraseIdx_of_lt hj]; rfl
    refine ⟨p0.length, by simp, r ++ [(d0 :: p0)[j]], List.eraseIdx (d0 :: p0) j, st2, ?_, hst2, ?_, he, rfl⟩
    · show (l2, MO.lst _) :: (l1, MO.lst _) :: (ms.set k (l, MO.lst st')).set k (l, MO.lst st2) = _
      rw [set_set]
    · rw [List.append_assoc]
      refine List.Perm.trans (List.Perm.append_left r ?_) hp
      exact erase_perm hj
theorem ok__law_pairs (T : Txt K mg) (G__law_below : OK__law_below P w base T) (G__law_shuffled : OK__law_shuffled P w base T) : OK__law_pairs P w base T := by
  refine fn_ok T.F__law_pairs sc__law_pairs (by rintro _ _ _ _ _ ⟨k, l, st, z, rfl, _⟩; rfl) (fun cdv A outer s H E hr => ?_)
  have hu64 := hr.units
  refine ⟨_, (pss_cons (ps_set (i := 2) sc__law_pairs.nd rfl (by first | exact Or.inl rfl | exact Or.inr rfl) (pe_call G__law_shuffled (hr.mono (by first | decide | omega)) (by rfl) T.m__law_shuffled T.F__law_shuffled.kp T.b__law_shuffled .nil pass0 (pa_cons (pv 0) (pa_cons (pe_callTy (kLIST (K := K) rfl rfl) (by rfl) T.g_list boot_list (pa_cons (pv 1) pa_nil)) pa_nil))))
      (pss_cons (ps_set (i := 3) sc__law_pairs.nd rfl (by first | exact Or.inl rfl | exact Or.inr rfl) (pe_call G__law_below (hr.mono (by first | decide | omega)) (by rfl) T.m__law_below T.F__law_below.kp T.b__law_below .nil pass0 (pa_cons (pv 0) (pa_cons (pe_op (kADD (K := K) rfl) pe_int (pe_callB (call_MIN rfl) (by rfl) T.g_min boot_min (pa_cons pe_int (pa_cons (pe_op op_fdiv (pe_callB (kLEN (K := K) rfl) (by rfl) T.g_len boot_len (pa_cons (pv 2) pa_nil)) pe_int) pa_nil)))) pa_nil))))
      (pss_one (ps_ret (pe_callTy (kTUPLE (K := K) rfl) (by rfl) T.g_tuple boot_tuple (pa_cons (pe_lc rfl sc__law_pairs.nd (pi_range1 (by rfl) T.g_range (pa_cons (pv 3) pa_nil)) (own := [("_law_k", 4)]) (@BlkOk.mk N__law_pairs (defScope s__law_pairs) _ _ rfl (by decide +kernel) (by decide +kernel) (by decide +kernel) (by decide +kernel)) (fun _ _ _ _ _ => (pg_name (i := 4) sc__law_pairs.nd rfl (by first | exact Or.inl rfl | exact Or.inr rfl))) (fun _ _ _ _ _ => pts_nil) (fun _ _ _ _ _ => (pe_op (kADD (K := K) rfl) (pe_ix (kIX (K := K) rfl) (pv 2) (pe_op (kMUL (K := K) rfl) pe_int (pv 4)) (fun _ _ => rfl)) (pe_ix (kIX (K := K) rfl) (pv 2) (pe_op (kADD (K := K) rfl) (pe_op (kMUL (K := K) rfl) pe_int (pv 4)) pe_int) (fun _ _ => rfl))))) pa_nil)))))), ?_⟩
  rintro _ F ms Q Ea ⟨k, l, st, z, rfl, hk, hst, hz, hnd, hL, q⟩
  have hkl : k < ms.length := (List.getElem?_eq_some_iff.mp hk).1
  walk_at "al"
  refine ac_listT (z := z) (by omega) fun F1 e1 => ?_
  walk_at "al"
  refine ⟨k, l, st, charsD z, rfl, hk, hst, by rw [chars_len]; exact hz, ?_, fun st1 F2 ys e2 hst1 hy => ?_⟩
  · intro x hx
    obtain ⟨i, hi⟩ := List.mem_iff_getElem?.mp hx
    obtain ⟨c, hc, rfl⟩ := chars_at hi
    exact ⟨c, rfl, inL_lt (hL c (List.mem_of_getElem? hc))⟩
  walk_at "al"
  refine ar_divI ⟨by decide, by decide⟩ ?_
  walk_at "al"
  obtain ⟨cs, rfl, hcs⟩ := perm_chars hy
  have hlc : cs.length ≤ 100 := by rw [hcs.length_eq]; exact hz
  refine ⟨k, l, st1, _, rfl, set_get hkl, hst1, by rw [List.length_map]; split <;> omega, by split <;> omega, fun st2 n hst2 n0 n1 => ?_⟩
  walk_at "al"
  refine ae_lc (gw_name (by simp)) gm_name ?_
  refine ai_rng1 ?_
  walk_at "al"
  rw [List.length_map] at n1
  have n2 : n ≤ 3 ∧ 2 * n ≤ cs.length := by
    split at n1 <;> omega
  rw [set_set]
  refine ⟨n, rfl, by omega, by omega, fun i F' ms' acc => ms' = ms.set k (l, .lst st2) ∧ ∃ ps : List Pr, acc = ps.map pD ∧ ps.length = i ∧ flat ps = cs.take (2 * i), ⟨rfl, [], rfl, rfl, rfl⟩, fun _ _ _ _ _ _ => trivial, ?_, ?_⟩
  · rintro i d F' ms' acc e hd ⟨rfl, ps, rfl, hl, hf⟩ F'' e''
    obtain ⟨hi, rfl⟩ := range_at hd
    have hi2 : i < n.toNat := hi
    refine ag_name ?_
    walk_at "al"
    refine ar_MULi (.inl ⟨by decide, by decide⟩) ?_
    have a1 : 2 * i < cs.length := by omega
    have a2 : 2 * i + 1 < cs.length := by omega
    refine ar_ixL (atI_of (j := 2 * i) (d := .str (sg cs[2 * i])) (by omega) (by rw [List.getElem?_map, List.getElem?_eq_getElem a1]; rfl)) ?_
    walk_at "al"
    refine ar_MULi (.inl ⟨by decide, by decide⟩) ?_
    walk_at "al"
    refine ar_ixL (atI_of (j := 2 * i + 1) (d := .str (sg cs[2 * i + 1])) (by omega) (by rw [List.getElem?_map, List.getElem?_eq_getElem a2]; rfl)) ?_
    refine ar_ADDs (by show 1 + 1 ≤ 100000; decide) ?_
    refine ⟨by rw [List.length_map]; omega, rfl, ps ++ [(cs[2 * i], cs[2 * i + 1])], by rw [List.map_append]; rfl, by rw [List.length_append, hl]; rfl, ?_⟩
    unfold flat at *
    rw [List.flatMap_append, hf, show 2 * (i + 1) = 2 * i + 1 + 1 by omega, List.take_succ, List.take_succ, List.getElem?_eq_getElem a1, List.getElem?_eq_getElem a2, List.append_assoc]
    rfl
  · rintro F' ms' acc e ⟨rfl, ps, rfl, hl, hf⟩ F'' e''
    rw [range_len] at hl hf
    walk_at "al"
    refine ac_tupleL (.inl rfl) fun F3 e3 => ?_
    have sub : ∀ c ∈ flat ps, c ∈ cs := fun c hc => List.mem_of_mem_take (hf ▸ hc)
    refine q st2 F3 ps ((((e1.trans e2).trans e).trans e'').trans e3) hst2 (by omega) (fun c hc => hcs.mem_iff.mp (sub c hc)) ?_
    rw [hf]
    exact (hcs.nodup_iff.mpr hnd).sublist (List.take_sublist _ _)
end

theorem inL_ne {c : Nat} (h : inL c) : c ≠ 32 := by
  rintro rfl
  have : decide (32 ∈ LET.cps.toList) = false := by decide +kernel
  exact of_decide_eq_false this h
theorem sg_ne {c : Nat} (h : c ≠ 32) : ¬ sg c = Str.ofString " " := fun q => by
  have e : [c] = [32] := congrArg (fun s : Str => s.cps.toList) q
  exact h (by simpa using e)
theorem cut_mem {r : List Nat} {c : Nat} {lo hi : Option Int} (h : c ∈ (cutS ⟨r.toArray⟩ lo hi).cps.toList) : c ∈ r := by
  unfold cutS at h
  exact List.mem_of_mem_drop (List.mem_of_mem_take h)
theorem app_l (a b : Str) : (a ++ b).cps.toList = a.cps.toList ++ b.cps.toList := Array.toList_append
theorem ok_ends {a b : Nat} {m : Str} {w : Int} (ha : inL a) (hb : inL b) (hm : ∀ c ∈ m.cps.toList, c = 32 ∨ inL c) (hw : (m.length : Int) + 2 ≤ w) : textOk w (sg a ++ m ++ sg b) := by
  have e : (sg a ++ m ++ sg b).cps.toList = a :: (m.cps.toList ++ [b]) := by rw [app_l, app_l]; rfl
  have l : (sg a ++ m ++ sg b).length = m.length + 2 := by
    rw [str_len_add, str_len_add]
    show 1 + m.length + 1 = _
    omega
  refine ⟨by rw [l]; omega, by rw [l]; omega, ?_, ⟨a, by rw [e]; rfl, ha⟩, ⟨b, ?_, hb⟩⟩
  · intro c hc
    rw [e] at hc
    simp only [List.mem_cons, List.mem_append, List.not_mem_nil, or_false] at hc
    rcases hc with rfl | hc | rfl
    · exact .inr ha
    · exact hm c hc
    · exact .inr hb
  · rw [e, l]
    show (a :: (m.cps.toList ++ [b]))[m.length + 1]? = some b
    have h : m.cps.toList.length = m.length := rfl
    rw [List.getElem?_cons_succ, ← h, List.getElem?_append_right (Nat.le_refl _), Nat.sub_self]
    rfl
theorem ok_one {a : Nat} {w : Int} (ha : inL a) (hw : 1 ≤ w) : textOk w (sg a) := ⟨by show (1 : Int) ≤ 1; omega, hw, fun c hc => .inr (List.mem_singleton.mp (show c ∈ [a] from hc) ▸ ha), ⟨a, rfl, ha⟩, ⟨a, rfl, ha⟩⟩
theorem strs_at {ts : List Str} {n : Nat} {d : D} (h : (ts.map D.str)[n]? = some d) : ∃ t, ts[n]? = some t ∧ d = .str t := by
  rw [List.getElem?_map] at h
  cases e : ts[n]? with
  | none => rw [e] at h; cases h
  | some p => rw [e] at h; exact ⟨p, rfl, (Option.some.inj h).symm⟩
theorem strs_ok {ts : List Str} {w : Int} (h : ∀ t ∈ ts, textOk w t) : okL (ts.map D.str) = true ∧ depL (ts.map D.str) = 0 ∧ (1 ≤ ts.length → eqvD (.tup (ts.map D.str)) (.tup []) = false) := by
  refine ⟨?_, ?_, ?_⟩
  · induction ts with
    | nil => rfl
    | cons t ts ih =>
      have h1 := (h t (List.mem_cons_self ..)).2.2.1
      have e : okD (.str t) = true := by
        show t.cps.all (· < 0x110000) = true
        rw [← Array.all_toList, List.all_eq_true]
        intro c hc
        rcases h1 c hc with rfl | h
        · decide
        · have := inL_lt h
          simp
          omega
      show (okD (.str t) && okL (ts.map D.str)) = true
      rw [e, ih fun y hy => h y (List.mem_cons_of_mem _ hy)]
      rfl
  · clear h
    induction ts with
    | nil => rfl
    | cons t ts ih => show max 0 (depL (ts.map D.str)) = 0; rw [ih]; rfl
  · intro hl
    cases ts with
    | nil => simp at hl
    | cons t ts => simp [eqvD, toPy, toPyL, PyData.eqv, PyData.eqvAll]
section
variable {P : Program} {w : World} {K : Frg} {mg : Str → Option Value} {base : Heap}
theorem ok_Sign_is_text (T : Txt K mg) : OK_Sign_is_text P w base T := by
  refine fn_ok T.F_Sign_is_text sc_Sign_is_text (by rintro _ _ _ _ _ ⟨x, w, ps, t, rfl, _⟩; rfl) (fun cdv A outer s H E hr => ?_)
  have hu64 := hr.units
  refine ⟨_, (pss_cons (ps_if ((pw_or (pt_not (pt_val (pe_callB (kISI (K := K) rfl) (by rfl) T.g_isinstance boot_isinstance (pa_cons (pv 1) (pa_cons (pe_bltn (v := .ty "str") (by rfl) T.g_str boot_str rfl) pa_nil))))) (pw_or1 (pt_not (pt_chain op_le op_le pe_int (pe_callB (kLEN (K := K) rfl) (by rfl) T.g_len boot_len (pa_cons (pv 1) pa_nil)) (pe_fldk (K := K) rfl (pv 0) (by rfl))))))).pt (pss_one (ps_ret pe_bl)) pss_nil)
      (pss_cons (ps_if ((pw_or (pt_cmpR (kEQ (K := K) rfl hu64) (pe_ix (kIX (K := K) rfl) (pv 1) pe_int (fun _ _ => rfl)) (pe_glob (by rfl) T.m_BLANK T.r_BLANK) (nomark _)) (pw_or1 (pt_cmpR (kEQ (K := K) rfl hu64) (pe_ix (kIX (K := K) rfl) (pv 1) (pe_un un_neg pe_int) (fun _ _ => rfl)) (pe_glob (by rfl) T.m_BLANK T.r_BLANK) (nomark _))))).pt (pss_one (ps_ret pe_bl)) pss_nil)
      (pss_one (ps_ret (pe_callB (kALL (K := K) rfl rfl) (by rfl) T.g_all boot_all (pa_cons (pe_lc rfl sc_Sign_is_text.nd (pi_str (pv 1)) (own := [("letter", 2)]) (@BlkOk.mk N_Sign_is_text (defScope s_Sign_is_text) _ _ rfl (by decide +kernel) (by decide +kernel) (by decide +kernel) (by decide +kernel)) (fun _ _ _ _ _ => (pg_name (i := 2) sc_Sign_is_text.nd rfl (by first | exact Or.inl rfl | exact Or.inr rfl))) (fun _ _ _ _ _ => pts_nil) (fun _ _ _ _ _ => (pe_or (pe_cmpR (kEQ (K := K) rfl hu64) (pv 2) (pe_glob (by rfl) T.m_BLANK T.r_BLANK) (nomark _)) (pe_one (pe_cmpR (kIN (K := K) rfl) (pv 2) (pe_glob (by rfl) T.m_LETTERS T.r_LETTERS) (by with_unfolding_all rfl)))))) pa_nil)))))), ?_⟩
  rintro _ F ms Q Ea ⟨x, w, ps, t, rfl, ⟨i, j, m, hi, hj⟩, hw, ⟨t1, t2, t3, ⟨a, ha, haL⟩, ⟨b, hb, hbL⟩⟩, q⟩
  walk_at "al"
  refine ac_lenS (z := t) (by omega) ?_
  walk_at "al"
  refine and_dT t1 ?_
  walk_at "al"
  refine ae_fld ?_
  walk_at "al"
  refine ⟨x, T.c_Sign, fldS m w ps, .int w, rfl, .inr ⟨i, hi⟩, T.k_Sign, T.n_Sign_width, rfl, ?_⟩
  walk_at "al"
  rw [decide_eq_true t2]
  walk_at "al"
  refine ar_ixS (z := t) (c := a) (by omega) (atI_of (j := 0) rfl ha) ?_
  walk_at "al"
  refine and_dF' (sg_ne (inL_ne haL)) ?_
  walk_at "al"
  refine ae_neg (g := fun i => -i) (fun _ => rfl) ?_
  walk_at "al"
  have tl : t.cps.toList.length = t.length := rfl
  refine ar_ixS (z := t) (c := b) (by omega) (atI_neg (j := t.length - 1) (by omega) hb (by omega)) ?_
  walk_at "al"
  refine and_dF (sg_ne (inL_ne hbL)) ?_
  walk_at "al"
  refine ae_lc (gw_name (by simp)) gm_name ?_
  refine ai_str ?_
  walk_at "al"
  refine ⟨fun i F' ms' acc => ms' = ms ∧ acc = List.replicate i (.bl true), ⟨rfl, rfl⟩, fun _ _ _ _ _ _ => trivial, ?_, ?_⟩
  · rintro n d F' ms' acc e1 hd ⟨rfl, rfl⟩ F'' e2
    obtain ⟨c, hc, rfl⟩ := chars_at hd
    have hn : n < t.cps.toList.length := (List.getElem?_eq_some_iff.mp hc).1
    refine ag_name ?_
    walk_at "al"
    have fin : (List.replicate n (D.bl true)).length < 100000 ∧ (fun i (F' : Hp) ms'_1 acc => ms'_1 = ms' ∧ acc = List.replicate i (D.bl true)) (n + 1) F'' ms' (List.replicate n (D.bl true) ++ [D.bl true]) := ⟨by rw [List.length_replicate]; omega, rfl, by rw [List.replicate_succ']⟩
    by_cases h32 : c = 32
    · subst h32
      refine and_dT' rfl ?_
      exact fin
    · refine and_dF' (sg_ne h32) ?_
      walk_at "al"
      rw [decide_eq_true (show c ∈ (Str.ofString "ABCDEFGHIJKLMNOPQRSTUVWXYZ0123456789").cps.toList from (t3 c (List.mem_of_getElem? hc)).resolve_left h32)]
      exact fin
  · rintro F' ms' acc e1 ⟨rfl, rfl⟩ F'' e2
    rw [chars_len]
    walk_at "al"
    refine ac_all (bs := List.replicate t.length true) (by rw [← rep_map]) ?_
    rw [all_rep]
    exact q _ (e1.trans e2)
theorem ok_Sign_check_texts (T : Txt K mg) (G_Sign_is_text : OK_Sign_is_text P w base T) : OK_Sign_check_texts P w base T := by
  refine fn_ok T.F_Sign_check_texts sc_Sign_check_texts (by rintro _ _ _ _ _ ⟨x, w, ps, t, rfl, _⟩; rfl) (fun cdv A outer s H E hr => ?_)
  have hu64 := hr.units
  refine ⟨_, (pss_cons (ps_if ((pw_or (pt_not (pt_val (pe_callB (kISI (K := K) rfl) (by rfl) T.g_isinstance boot_isinstance (pa_cons (pv 1) (pa_cons (pe_bltn (v := .ty "tuple") (by rfl) T.g_tuple boot_tuple rfl) pa_nil))))) (pw_or1 (pt_cmpR (kEQ (K := K) rfl hu64) (pv 1) (pe_tup pa_nil) (nomark _))))).pt (pss_one ps_never) pss_nil)
      (pss_one (ps_for PassesOwn.never rfl (pi_enumA (by rfl) T.g_enumerate (pa_cons (pv 1) pa_nil)) (pg_tup rfl (pgs_cons (pg_name (i := 2) sc_Sign_check_texts.nd rfl (by first | exact Or.inl rfl | exact Or.inr rfl)) (pgs_cons (pg_name (i := 3) sc_Sign_check_texts.nd rfl (by first | exact Or.inl rfl | exact Or.inr rfl)) pgs_nil))) (pss_one (ps_if ((pw_or (pt_cmpR (kEQ (K := K) rfl hu64) (pv 2) (pe_glob (by rfl) T.m_MAX_TEXTS T.r_MAX_TEXTS) (nomark _)) (pw_or1 (pt_not (pt_val (pe_meth (pv 0) T.k_Sign T.Me_Sign_is_text G_Sign_is_text (hr.mono (by first | decide | omega)) T.b_Sign_is_text .nil pass0 (pa_cons (pv 3) pa_nil))))))).pt (pss_one ps_never) pss_nil))))), ?_⟩
  rintro _ F ms Q Ea ⟨x, w, ps, ts, rfl, hS, hw, t1, t2, ht, q⟩
  obtain ⟨i, j, m, hi, hj⟩ := id hS
  walk_at "al"
  refine ae_tup ?_
  walk_at "al"
  refine ⟨by simp, fun F1 e1 => ?_⟩
  obtain ⟨o1, o2, o3⟩ := strs_ok ht
  refine ar_EQd (d := .tup (ts.map D.str)) (e := .tup []) o1 rfl (by show depL (ts.map D.str) + 1 ≤ 64; omega) (by decide) ?_
  rw [o3 (by omega)]
  walk_at "al"
  refine as_for ?_
  refine ai_enum ?_
  walk_at "al"
  refine .inr (.inl ⟨_, rfl, fun i F' ms' S' => ms' = ms ∧ ∃ a b, S' = [some (.ref x), some (.tup (ts.map D.str)), a, b], ⟨rfl, none, none, rfl⟩, fun _ _ _ _ _ _ => trivial, ?_, ?_⟩)
  · rintro n d F' ms' S' e hd ⟨rfl, a, b, rfl⟩ F'' e''
    obtain ⟨_, h1, rfl⟩ := enum_at hd
    obtain ⟨t, hp, rfl⟩ := strs_at h1
    have hn : n < ts.length := (List.getElem?_eq_some_iff.mp hp).1
    refine ag_tup rfl ?_
    refine ags_cons (ag_name ?_)
    refine ags_cons (ag_name ?_)
    refine ags_nil ?_
    walk_at "al"
    refine and_dF' (by omega) ?_
    walk_at "al"
    refine ae_meth ?_
    walk_at "al"
    refine ⟨x, fldS m w ps, rfl, .inr ⟨i, hi⟩, fld_no (by decide +kernel) (by decide +kernel) (by decide +kernel), ?_⟩
    walk_at "al"
    refine ⟨x, w, ps, t, rfl, hS, hw, ht t (List.mem_of_getElem? hp), fun F3 e3 => ?_⟩
    walk_at "al"
    exact ⟨rfl, _, _, rfl⟩
  · rintro F' ms' S' e ⟨rfl, a, b, rfl⟩
    exact q _ (e1.trans e)
theorem ok__law_text (T : Txt K mg) (G__law_below : OK__law_below P w base T) : OK__law_text P w base T := by
  refine fn_ok T.F__law_text sc__law_text (by rintro _ _ _ _ _ ⟨k, l, st, w, z, rfl, _⟩; rfl) (fun cdv A outer s H E hr => ?_)
  have hu64 := hr.units
  refine ⟨_, (pss_cons (ps_set (i := 3) sc__law_text.nd rfl (by first | exact Or.inl rfl | exact Or.inr rfl) (pe_op (kADD (K := K) rfl) pe_int (pe_call G__law_below (hr.mono (by first | decide | omega)) (by rfl) T.m__law_below T.F__law_below.kp T.b__law_below .nil pass0 (pa_cons (pv 0) (pa_cons (pv 1) pa_nil)))))
      (pss_cons (ps_set (i := 4) sc__law_text.nd rfl (by first | exact Or.inl rfl | exact Or.inr rfl) (pe_op (kADD (K := K) rfl) (pv 2) (pe_op (kMUL (K := K) rfl) pe_str (pe_call G__law_below (hr.mono (by first | decide | omega)) (by rfl) T.m__law_below T.F__law_below.kp T.b__law_below .nil pass0 (pa_cons (pv 0) (pa_cons pe_int pa_nil))))))
      (pss_cons (ps_set (i := 5) sc__law_text.nd rfl (by first | exact Or.inl rfl | exact Or.inr rfl) (pe_bmk (K := K) rfl PySem.F.plainAttrs_str PySem.F.slot_str_join PySem.F.type_str_join (kJOIN (K := K) rfl) pe_str (pa_cons (pe_lc rfl sc__law_text.nd (pi_range1 (by rfl) T.g_range (pa_cons (pv 3) pa_nil)) (own := [("_law_k", 6)]) (@BlkOk.mk N__law_text (defScope s__law_text) _ _ rfl (by decide +kernel) (by decide +kernel) (by decide +kernel) (by decide +kernel)) (fun _ _ _ _ _ => (pg_name (i := 6) sc__law_text.nd rfl (by first | exact Or.inl rfl | exact Or.inr rfl))) (fun _ _ _ _ _ => pts_nil) (fun _ _ _ _ _ => (pe_ix (kIX (K := K) rfl) (pv 4) (pe_call G__law_below (hr.mono (by first | decide | omega)) (by rfl) T.m__law_below T.F__law_below.kp T.b__law_below .nil pass0 (pa_cons (pv 0) (pa_cons (pe_callB (kLEN (K := K) rfl) (by rfl) T.g_len boot_len (pa_cons (pv 4) pa_nil)) pa_nil))) (fun _ _ => rfl)))) pa_nil)))
      (pss_cons (ps_par (i := 7) (j := 8) rfl sc__law_text.nd rfl rfl (by decide) rfl rfl (pa_cons (pe_ix (kIX (K := K) rfl) (pv 2) (pe_call G__law_below (hr.mono (by first | decide | omega)) (by rfl) T.m__law_below T.F__law_below.kp T.b__law_below .nil pass0 (pa_cons (pv 0) (pa_cons (pe_callB (kLEN (K := K) rfl) (by rfl) T.g_len boot_len (pa_cons (pv 2) pa_nil)) pa_nil))) (fun _ _ => rfl)) (pa_cons (pe_ix (kIX (K := K) rfl) (pv 2) (pe_call G__law_below (hr.mono (by first | decide | omega)) (by rfl) T.m__law_below T.F__law_below.kp T.b__law_below .nil pass0 (pa_cons (pv 0) (pa_cons (pe_callB (kLEN (K := K) rfl) (by rfl) T.g_len boot_len (pa_cons (pv 2) pa_nil)) pa_nil))) (fun _ _ => rfl)) pa_nil)) (by rfl))
      (pss_one (ps_ret (pe_ifExp (pt_cmpR (kEQ (K := K) rfl hu64) (pv 3) pe_int (nomark _)) (pv 7) (pe_op (kADD (K := K) rfl) (pe_op (kADD (K := K) rfl) (pv 7) (pe_slice (kSLC (K := K) rfl) (pv 5) (po_some pe_int) (po_some (pe_un un_neg pe_int)))) (pv 8))))))))), ?_⟩
  rintro _ F ms Q Ea ⟨k, l, st, w, z, rfl, hk, hst, w0, w1, hz0, hz1, hzL, q⟩
  have hkl : k < ms.length := (List.getElem?_eq_some_iff.mp hk).1
  walk_at "al"
  refine ⟨k, l, st, w, rfl, hk, hst, by omega, by omega, fun st0 m hst0 m0 m1 => ?_⟩
  walk_at "al"
  refine ⟨k, l, st0, 3, rfl, set_get hkl, hst0, by decide, by decide, fun st1 n hst1 n0 n1 => ?_⟩
  refine ar_MULs (z := sp1) (by omega) (by omega) (by show 1 * n.toNat ≤ 100000; omega) ?_
  have l1 := mulS_len1 n
  refine ar_ADDs (i := z) (j := mulS sp1 n) (by omega) ?_
  have l2 : (z ++ mulS sp1 n).length = z.length + n.toNat := by rw [str_len_add, l1]
  walk_at "al"
  refine ae_bmS ?_
  walk_at "al"
  refine ae_lc (gw_name (by simp)) gm_name ?_
  refine ai_rng1 ?_
  walk_at "al"
  rw [set_set]
  refine ⟨1 + m, rfl, by omega, by omega, fun i F' ms' acc => ∃ (st2 : List D) (r : List Nat), ms' = ms.set k (l, .lst st2) ∧ St st2 ∧ acc = r.map (fun c => .str (sg c)) ∧ r.length = i ∧ ∀ c ∈ r, c = 32 ∨ c ∈ z.cps.toList, ⟨st1, [], rfl, hst1, rfl, rfl, fun _ h => (List.not_mem_nil h).elim⟩, fun _ _ _ _ _ _ => trivial, ?_, ?_⟩
  · rintro i d F' ms' acc e hd ⟨st2, r, rfl, hst2, rfl, hl, hrm⟩ F'' e''
    obtain ⟨hi, rfl⟩ := range_at hd
    refine ag_name ?_
    walk_at "al"
    refine ac_lenS (z := z ++ mulS sp1 n) (by omega) ?_
    walk_at "al"
    refine ⟨k, l, st2, _, rfl, set_get hkl, hst2, by omega, by omega, fun st3 j hst3 j0 j1 => ?_⟩
    obtain ⟨j, rfl⟩ : ∃ j' : Nat, j = j' := ⟨j.toNat, by omega⟩
    have hj : j < (z ++ mulS sp1 n).cps.toList.length := by
      have : (z ++ mulS sp1 n).cps.toList.length = (z ++ mulS sp1 n).length := rfl
      omega
    refine ar_ixS (z := z ++ mulS sp1 n) (c := (z ++ mulS sp1 n).cps.toList[j]) (by omega) (atI_of rfl (List.getElem?_eq_getElem hj)) ?_
    exact ⟨by rw [List.length_map]; omega, st3, r ++ [(z ++ mulS sp1 n).cps.toList[j]], set_set, hst3, by rw [List.map_append]; rfl, by rw [List.length_append, hl]; rfl, fun c hc => by
      rcases List.mem_append.mp hc with hc | hc
      · exact hrm c hc
      · rw [List.mem_singleton.mp hc]
        exact sign_mem (List.getElem_mem hj)⟩
  · rintro F' ms' acc e ⟨st2, r, rfl, hst2, rfl, hl, hrm⟩ F'' e''
    rw [range_len] at hl
    walk_at "al"
    refine am_join (ys := r.map sg) (.inl (.inl (by rw [List.map_map]; rfl))) ?_ ?_
    · have : ((r.map sg).map (·.length)).sum = r.length := by
        rw [List.map_map]
        exact sum_ones r
      have e0 : (Str.ofString "").length = 0 := rfl
      rw [this, List.length_map, e0]
      omega
    rw [join_sg]
    walk_at "al"
    have pick : ∀ {st3 : List D} {Q : QE} {F3 : Hp}, St st3 → (∀ st4 c, St st4 → Q F3 (ms.set k (l, .lst st4)) (.str (sg c))) → True := fun _ _ => trivial
    refine ac_lenS (z := z) (by omega) ?_
    walk_at "al"
    refine ⟨k, l, st2, _, rfl, set_get hkl, hst2, by omega, by omega, fun st3 j hst3 j0 j1 => ?_⟩
    obtain ⟨j, rfl⟩ : ∃ j' : Nat, j = j' := ⟨j.toNat, by omega⟩
    have hj : j < z.cps.toList.length := by
      have : z.cps.toList.length = z.length := rfl
      omega
    refine ar_ixS (z := z) (c := z.cps.toList[j]) (by omega) (atI_of rfl (List.getElem?_eq_getElem hj)) ?_
    walk_at "al"
    refine ac_lenS (z := z) (by omega) ?_
    walk_at "al"
    rw [set_set]
    refine ⟨k, l, st3, _, rfl, set_get hkl, hst3, by omega, by omega, fun st4 i hst4 i0 i1 => ?_⟩
    obtain ⟨i, rfl⟩ : ∃ i' : Nat, i = i' := ⟨i.toNat, by omega⟩
    have hi : i < z.cps.toList.length := by
      have : z.cps.toList.length = z.length := rfl
      omega
    refine ar_ixS (z := z) (c := z.cps.toList[i]) (by omega) (atI_of rfl (List.getElem?_eq_getElem hi)) ?_
    walk_at "al"
    rw [set_set]
    have lr : (⟨r.toArray⟩ : Str).length = r.length := List.size_toArray ..
    by_cases hm : 1 + m = 1
    · refine and_dT hm ?_
      walk_at "al"
      exact q st4 F'' _ (e.trans e'') hst4 (ok_one (hzL _ (List.getElem_mem hj)) (by omega))
    · refine and_dF hm ?_
      walk_at "al"
      refine ae_sl ?_
      walk_at "al"
      refine ao_some ?_
      walk_at "al"
      refine ao_some ?_
      refine ae_neg (g := fun i => -i) (fun _ => rfl) ?_
      walk_at "al"
      refine sl_S (by omega) ?_
      have hcut := cut_len (z := ⟨r.toArray⟩) (by omega)
      refine ar_ADDs (i := sg _) (by show 1 + _ ≤ 100000; omega) ?_
      walk_at "al"
      have h3 : ∀ a : Nat, (sg a ++ cutS ⟨r.toArray⟩ (some 1) (some (-1))).length = 1 + (cutS ⟨r.toArray⟩ (some 1) (some (-1))).length := fun a => str_len_add _ _
      refine ar_ADDs (j := sg _) (by rw [h3]; show _ + 1 ≤ 100000; omega) ?_
      exact q st4 F'' _ (e.trans e'') hst4 (ok_ends (hzL _ (List.getElem_mem hj)) (hzL _ (List.getElem_mem hi)) (fun c hc => (hrm c (cut_mem hc)).imp id fun h => hzL c h) (by omega))
theorem ok__law_texts (T : Txt K mg) (G__law_below : OK__law_below P w base T) (G__law_text : OK__law_text P w base T) : OK__law_texts P w base T := by
  refine fn_ok T.F__law_texts sc__law_texts (by rintro _ _ _ _ _ ⟨k, l, st, w, z, rfl, _⟩; rfl) (fun cdv A outer s H E hr => ?_)
  have hu64 := hr.units
  refine ⟨_, (pss_one (ps_ret (pe_callTy (kTUPLE (K := K) rfl) (by rfl) T.g_tuple boot_tuple (pa_cons (pe_lc rfl sc__law_texts.nd (pi_range1 (by rfl) T.g_range (pa_cons (pe_op (kADD (K := K) rfl) pe_int (pe_call G__law_below (hr.mono (by first | decide | omega)) (by rfl) T.m__law_below T.F__law_below.kp T.b__law_below .nil pass0 (pa_cons (pv 0) (pa_cons (pv 1) pa_nil)))) pa_nil)) (own := [("_law_k", 4)]) (@BlkOk.mk N__law_texts (defScope s__law_texts) _ _ rfl (by decide +kernel) (by decide +kernel) (by decide +kernel) (by decide +kernel)) (fun _ _ _ _ _ => (pg_name (i := 4) sc__law_texts.nd rfl (by first | exact Or.inl rfl | exact Or.inr rfl))) (fun _ _ _ _ _ => pts_nil) (fun _ _ _ _ _ => (pe_call G__law_text (hr.mono (by first | decide | omega)) (by rfl) T.m__law_text T.F__law_text.kp T.b__law_text .nil pass0 (pa_cons (pv 0) (pa_cons (pv 2) (pa_cons (pv 3) pa_nil)))))) pa_nil)))), ?_⟩
  rintro _ F ms Q Ea ⟨k, l, st, w, z, rfl, hk, hst, w0, w1, hz0, hz1, hzL, q⟩
  have hkl : k < ms.length := (List.getElem?_eq_some_iff.mp hk).1
  walk_at "al"
  refine ae_lc (gw_name (by simp)) gm_name ?_
  refine ai_rng1 ?_
  walk_at "al"
  refine ⟨k, l, st, 5, rfl, hk, hst, by decide, by decide, fun st1 n hst1 n0 n1 => ?_⟩
  walk_at "al"
  refine ⟨1 + n, rfl, by omega, by omega, fun i F' ms' acc => ∃ (st2 : List D) (ts : List Str), ms' = ms.set k (l, .lst st2) ∧ St st2 ∧ acc = ts.map D.str ∧ ts.length = i ∧ ∀ t ∈ ts, textOk w t, ⟨st1, [], rfl, hst1, rfl, rfl, fun _ h => (List.not_mem_nil h).elim⟩, fun _ _ _ _ _ _ => trivial, ?_, ?_⟩
  · rintro i d F' ms' acc e hd ⟨st2, ts, rfl, hst2, rfl, hl, ht⟩ F'' e''
    obtain ⟨hi, rfl⟩ := range_at hd
    refine ag_name ?_
    walk_at "al"
    refine ⟨k, l, st2, w, z, rfl, set_get hkl, hst2, w0, w1, hz0, hz1, hzL, fun st3 F3 r e3 hst3 hr => ?_⟩
    rw [set_set]
    exact ⟨by rw [List.length_map]; omega, st3, ts ++ [r], rfl, hst3, by rw [List.map_append]; rfl, by rw [List.length_append, hl]; rfl, fun t h => by
      rcases List.mem_append.mp h with h | h
      · exact ht t h
      · rw [List.mem_singleton.mp h]; exact hr⟩
  · rintro F' ms' acc e ⟨st2, ts, rfl, hst2, rfl, hl, ht⟩ F'' e''
    rw [range_len] at hl
    walk_at "al"
    refine ac_tupleL (.inl rfl) fun F3 e3 => ?_
    exact q st2 F3 ts ((e.trans e'').trans e3) hst2 (by omega) (by omega) ht
end

theorem lt1 {a b : Nat} : (sg a).cps.toList < (sg b).cps.toList ↔ a < b := by
  show ([a] : List Nat) < [b] ↔ a < b
  rw [List.cons_lt_cons_iff]
  simp
theorem minS_comm (a b : Nat) : minS (sg a) (sg b) = minS (sg b) (sg a) := by
  unfold minS
  rcases Nat.lt_trichotomy a b with h | h | h
  · rw [if_neg (fun z => by have := lt1.mp z; omega), if_pos (lt1.mpr h)]
  · subst h; rfl
  · rw [if_pos (lt1.mpr h), if_neg (fun z => by have := lt1.mp z; omega)]
theorem minS_self (a : Nat) : minS (sg a) (sg a) = sg a := by unfold minS; split <;> rfl
theorem minS_min (a b : Nat) : minS (sg a) (sg b) = sg (min a b) := by
  unfold minS
  by_cases h : b < a
  · rw [if_pos (lt1.mpr h), Nat.min_eq_right (Nat.le_of_lt h)]
  · rw [if_neg (fun z => h (lt1.mp z)), Nat.min_eq_left (Nat.le_of_not_lt h)]
theorem pieceS_pc (ps : List Pr) (c : Nat) : pieceS ps c = sg (pc ps c) := by
  unfold pieceS pc
  cases ps.find? fun p => c = p.1 ∨ c = p.2 with
  | none => rfl
  | some p => exact minS_min _ _
theorem sg_inj {a b : Nat} : sg a = sg b ↔ a = b := ⟨fun q => by
  have e : [a] = [b] := congrArg (fun s : Str => s.cps.toList) q
  simpa using e, fun e => by rw [e]⟩
theorem links_at {gs : List Lk} {n : Nat} {d : D} (h : (gs.map lD)[n]? = some d) : ∃ k, gs[n]? = some k ∧ d = lD k := by
  rw [List.getElem?_map] at h
  cases e : gs[n]? with
  | none => rw [e] at h; cases h
  | some p => rw [e] at h; exact ⟨p, rfl, (Option.some.inj h).symm⟩
theorem links_succ (ps : List Pr) (b a : List Nat) (n : Nat) : linksF ps b a (n + 1) = linksF ps b a n ++ (lkAt ps b a n).toList := by
  unfold linksF
  rw [List.range_succ, List.filterMap_append]
  congr 1
theorem links_len (ps : List Pr) (b a : List Nat) (n : Nat) : (linksF ps b a n).length ≤ n := by
  unfold linksF
  exact Nat.le_trans (List.length_filterMap_le ..) (by rw [List.length_range]; exact Nat.le_refl _)
theorem lets_take {gs : List Lk} {n : Nat} {k : Lk} (h : gs[n]? = some k) : letsF (gs.take (n + 1)) = letsF (gs.take n) ++ [k.2.1, k.2.2].filter fun c => decide (c ≠ 32) := by
  unfold letsF
  rw [List.take_succ, h, List.flatMap_append]
  simp
theorem lets_len (gs : List Lk) : (letsF gs).length ≤ 2 * gs.length := by
  induction gs with
  | nil => exact Nat.le_refl _
  | cons k gs ih =>
    show ([k.2.1, k.2.2].filter _ ++ letsF gs).length ≤ _
    rw [List.length_append, List.length_cons]
    have := List.length_filter_le (fun c => decide (c ≠ 32)) [k.2.1, k.2.2]
    have e : ([k.2.1, k.2.2] : List Nat).length = 2 := rfl
    omega
theorem mem_sg {xs : List Nat} {c : Nat} : decide (sg c ∈ xs.map sg) = decide (c ∈ xs) := by
  by_cases h : c ∈ xs
  · rw [decide_eq_true h, decide_eq_true (List.mem_map.mpr ⟨c, h, rfl⟩)]
  · rw [decide_eq_false h, decide_eq_false]
    intro z
    obtain ⟨b, hb, e⟩ := List.mem_map.mp z
    exact h (sg_inj.mp e ▸ hb)
section
variable {P : Program} {w : World} {K : Frg} {mg : Str → Option Value} {base : Heap}
theorem ok_Sign_piece (T : Txt K mg) : OK_Sign_piece P w base T := by
  refine fn_ok T.F_Sign_piece sc_Sign_piece (by rintro _ _ _ _ _ ⟨x, w, ps, c, rfl, _⟩; rfl) (fun cdv A outer s H E hr => ?_)
  have hu64 := hr.units
  refine ⟨_, (pss_one (ps_ret (pe_callB (call_MIN rfl) (by rfl) T.g_min boot_min (pa_cons (pv 1) (pa_cons (pe_dget2 (hu_of hr) (pe_fldk (K := K) rfl (pv 0) (by rfl)) (pv 1) (pv 1) ⟨rfl, rfl, rfl, rfl⟩) pa_nil))))), ?_⟩
  rintro _ F ms Q Ea ⟨x, w, ps, c, rfl, ⟨i, j, m, hi, hj⟩, q⟩
  walk_at "al"
  refine ae_dget2 ?_
  refine ae_fld ?_
  walk_at "al"
  refine ⟨x, T.c_Sign, fldS m w ps, .ref m, rfl, .inr ⟨i, hi⟩, T.k_Sign, T.n_Sign_mates, rfl, ?_⟩
  refine ⟨kvsOf ps, .inr ⟨j, m, rfl, hj⟩, ?_⟩
  walk_at "al"
  refine ⟨kS c, rfl, .inr ⟨j, m, rfl, hj⟩, ?_⟩
  rw [val_kvs]
  unfold pieceS at q
  cases hf : ps.find? fun p => c = p.1 ∨ c = p.2 with
  | none =>
    rw [hf] at q
    show AA _ tNil _ _ _ _
    walk_at "al"
    refine ac_minS (j := sg c) ?_
    rw [minS_self]
    exact q
  | some p =>
    rw [hf] at q
    show AA _ tNil _ _ _ _
    walk_at "al"
    refine ac_minS (j := sg (if c = p.1 then p.2 else p.1)) ?_
    have hp := List.find?_some hf
    simp only [decide_eq_true_eq] at hp
    have e : minS (sg c) (sg (if c = p.1 then p.2 else p.1)) = minS (sg p.1) (sg p.2) := by
      rcases hp with h | h
      · subst h; rw [if_pos rfl]
      · by_cases h1 : c = p.1
        · rw [if_pos h1, ← h1]
        · rw [if_neg h1, h, minS_comm]
    rw [e]
    exact q
theorem ok_links (T : Txt K mg) (G_Sign_piece : OK_Sign_piece P w base T) : OK_links P w base T := by
  refine fn_ok T.F_links sc_links (by rintro _ _ _ _ _ ⟨x, w, ps, b, a, rfl, _⟩; rfl) (fun cdv A outer s H E hr => ?_)
  have hu64 := hr.units
  refine ⟨_, (pss_cons (ps_set (i := 3) sc_links.nd rfl (by first | exact Or.inl rfl | exact Or.inr rfl) (pe_lst pa_nil))
      (pss_cons (ps_for PassesOwn.never rfl (pi_range1 (by rfl) T.g_range (pa_cons (pe_fldk (K := K) rfl (pv 0) (by rfl)) pa_nil)) (pg_name (i := 4) sc_links.nd rfl (by first | exact Or.inl rfl | exact Or.inr rfl)) (pss_cons (ps_par (i := 5) (j := 6) rfl sc_links.nd rfl rfl (by decide) rfl rfl (pa_cons (pe_meth (pv 0) T.k_Sign T.Me_Sign_piece G_Sign_piece (hr.mono (by first | decide | omega)) T.b_Sign_piece .nil pass0 (pa_cons (pe_ix (kIX (K := K) rfl) (pv 1) (pv 4) (fun _ _ => rfl)) pa_nil)) (pa_cons (pe_meth (pv 0) T.k_Sign T.Me_Sign_piece G_Sign_piece (hr.mono (by first | decide | omega)) T.b_Sign_piece .nil pass0 (pa_cons (pe_ix (kIX (K := K) rfl) (pv 2) (pv 4) (fun _ _ => rfl)) pa_nil)) pa_nil)) (by rfl))
      (pss_one (ps_if (pt_cmpR (kNE (K := K) rfl hu64) (pv 5) (pv 6) (nomark _)) (pss_one (ps_expr (pe_bmk (K := K) rfl PySem.F.plainAttrs_list PySem.F.slot_list_append PySem.F.type_list_append mt_append (pv 3) (pa_cons (pe_tup (pa_cons (pv 4) (pa_cons (pv 5) (pa_cons (pv 6) pa_nil)))) pa_nil)))) pss_nil))))
      (pss_one (ps_ret (pv 3))))), ?_⟩
  rintro _ F ms Q Ea ⟨x, w, ps, b, a, rfl, hS, w0, w1, hb, ha, q⟩
  obtain ⟨i, j, m, hi, hj⟩ := id hS
  walk_at "al"
  refine ae_lstO ?_
  walk_at "al"
  refine ⟨by simp, fun l => ?_⟩
  walk_at "al"
  refine as_for ?_
  refine ai_rng1 ?_
  refine aa_cons ?_
  refine ae_fld ?_
  walk_at "al"
  refine ⟨x, T.c_Sign, fldS m w ps, .int w, rfl, .inr ⟨i + 1, hi⟩, T.k_Sign, T.n_Sign_width, rfl, ?_⟩
  walk_at "al"
  refine ⟨w, rfl, by omega, by omega, fun n F' ms' S' => ms' = (l, .lst ((linksF ps b.cps.toList a.cps.toList n).map lD)) :: ms ∧ ∃ e1 e2 e3, S' = [some (.ref x), some (.str b), some (.str a), some (.ref l), e1, e2, e3], ⟨rfl, none, none, none, rfl⟩, fun _ _ _ _ _ _ => trivial, ?_, ?_⟩
  · rintro n d F1 ms1 S1 e1 hd ⟨rfl, a4, a5, a6, rfl⟩ F2 e2
    obtain ⟨hn, rfl⟩ := range_at hd
    have hnb : n < b.cps.toList.length := by have : b.cps.toList.length = b.length := rfl; omega
    have hna : n < a.cps.toList.length := by have : a.cps.toList.length = a.length := rfl; omega
    have hS1 : Sgn T.c_Sign ((l, MO.lst ((linksF ps b.cps.toList a.cps.toList n).map lD)) :: ms) x w ps := ⟨i + 1, j + 1, m, hi, hj⟩
    have ll := links_len ps b.cps.toList a.cps.toList n
    refine ag_name ?_
    walk_at "al"
    refine ae_meth ?_
    walk_at "al"
    refine ⟨x, fldS m w ps, rfl, .inr ⟨i + 1, hi⟩, fld_no (by decide +kernel) (by decide +kernel) (by decide +kernel), ?_⟩
    walk_at "al"
    refine ar_ixS (z := b) (c := b.cps.toList[n]) (by omega) (atI_of (j := n) (by omega) (List.getElem?_eq_getElem hnb)) ?_
    walk_at "al"
    refine ⟨x, w, ps, _, rfl, hS1, ?_⟩
    rw [pieceS_pc]
    walk_at "al"
    refine ae_meth ?_
    walk_at "al"
    refine ⟨x, fldS m w ps, rfl, .inr ⟨i + 1, hi⟩, fld_no (by decide +kernel) (by decide +kernel) (by decide +kernel), ?_⟩
    walk_at "al"
    refine ar_ixS (z := a) (c := a.cps.toList[n]) (by omega) (atI_of (j := n) (by omega) (List.getElem?_eq_getElem hna)) ?_
    walk_at "al"
    refine ⟨x, w, ps, _, rfl, hS1, ?_⟩
    rw [pieceS_pc]
    walk_at "al"
    have gb : b.cps.toList.getD n 0 = b.cps.toList[n] := by rw [List.getD_eq_getElem?_getD, List.getElem?_eq_getElem hnb]; rfl
    have ga : a.cps.toList.getD n 0 = a.cps.toList[n] := by rw [List.getD_eq_getElem?_getD, List.getElem?_eq_getElem hna]; rfl
    by_cases hc : pc ps b.cps.toList[n] = pc ps a.cps.toList[n]
    · refine and_ndT (sg_inj.mpr hc) ?_
      walk_at "al"
      refine ⟨?_, _, _, _, rfl⟩
      rw [links_succ, show lkAt ps b.cps.toList a.cps.toList n = none by unfold lkAt; rw [gb, ga, if_pos hc]]
      simp
    · refine and_ndF (fun z => hc (sg_inj.mp z)) ?_
      walk_at "al"
      refine ae_bmL ?_
      walk_at "al"
      refine ⟨_, .inr ⟨0, l, rfl, rfl⟩, ?_⟩
      walk_at "al"
      refine ae_tup ?_
      walk_at "al"
      refine ⟨by simp, fun F3 e3 => ?_⟩
      walk_at "al"
      refine am_append 0 (l := l) rfl (by rw [List.length_map]; omega) ?_
      refine ⟨?_, _, _, _, rfl⟩
      rw [links_succ, show lkAt ps b.cps.toList a.cps.toList n = some (n, pc ps b.cps.toList[n], pc ps a.cps.toList[n]) by unfold lkAt; rw [gb, ga, if_neg hc]]
      show (l, MO.lst _) :: ms = _
      rw [List.map_append]
      simp [lD]
  · rintro F1 ms1 S1 e1 ⟨rfl, a4, a5, a6, rfl⟩
    rw [range_len]
    refine as_ret (ae_frz ?_)
    walk_at "al"
    exact ⟨0, l, _, rfl, rfl, fun F2 e2 => q F2 (e1.trans e2)⟩
theorem ok_shares (T : Txt K mg) : OK_shares P w base T := by
  refine fn_ok T.F_shares sc_shares (by rintro _ _ _ _ _ ⟨gs, k, rfl, _⟩; rfl) (fun cdv A outer s H E hr => ?_)
  have hu64 := hr.units
  refine ⟨_, (pss_cons (ps_setLc2 (i := 2) rfl sc_shares.nd rfl rfl (by rfl) (pi_listk (K := K) rfl (pv 0)) (own := [("place", 3), ("old", 4), ("new", 5), ("piece", 6)]) (vs1 := [6]) (@BlkOk.mk N_shares (defScope s_shares) _ _ rfl (by decide +kernel) (by decide +kernel) (by decide +kernel) (by decide +kernel)) (by decide) (fun _ _ _ _ _ => (pg_tupk (K := K) (n := 3) rfl rfl (pgs_cons (pg_name (i := 3) sc_shares.nd rfl (by first | exact Or.inl rfl | exact Or.inr rfl)) (pgs_cons (pg_name (i := 4) sc_shares.nd rfl (by first | exact Or.inl rfl | exact Or.inr rfl)) (pgs_cons (pg_name (i := 5) sc_shares.nd rfl (by first | exact Or.inl rfl | exact Or.inr rfl)) pgs_nil))))) (fun _ _ _ _ _ => pts_nil) (fun _ _ _ _ _ => (pi_tupk (K := K) rfl (pe_tup (pa_cons (pv 4) (pa_cons (pv 5) pa_nil))))) (fun _ _ _ _ _ => (pg_name (i := 6) sc_shares.nd rfl (by first | exact Or.inl rfl | exact Or.inr rfl))) (fun _ _ _ _ _ => (pts_one (pt_cmpR (kNE (K := K) rfl hu64) (pv 6) (pe_glob (by rfl) T.m_BLANK T.r_BLANK) (nomark _)))) (fun _ _ _ _ _ => (pv 6)))
      (pss_one (ps_ret (pe_or (pe_cmpR (kIN (K := K) rfl) (pe_ix (kIX (K := K) rfl) (pv 1) pe_int (fun _ _ => rfl)) (pv 2) (by with_unfolding_all rfl)) (pe_one (pe_cmpR (kIN (K := K) rfl) (pe_ix (kIX (K := K) rfl) (pv 1) pe_int (fun _ _ => rfl)) (pv 2) (by with_unfolding_all rfl))))))), ?_⟩
  rintro _ F ms Q Ea ⟨gs, k, rfl, hg, q⟩
  walk_at "al"
  refine ae_lc2 (gw_tup (gws_cons gm_name (gw_name (by simp)) (gws_cons gm_name (gw_name (by simp)) (gws_cons gm_name (gw_name (by simp)) gws_nil)))) (gm_tup (gms_cons gm_name (gms_cons gm_name (gms_cons gm_name gms_nil)))) (gw_name (by simp)) gm_name ?_
  refine ai_list ?_
  walk_at "al"
  refine .inl ⟨_, .inl rfl, fun n F' ms' acc => ms' = ms ∧ acc = ((letsF (gs.take n)).map sg).map D.str, ⟨rfl, rfl⟩, fun _ _ _ _ _ _ => trivial, ?_, ?_⟩
  · rintro n d F1 ms1 acc e1 hd ⟨rfl, rfl⟩ F2 e2
    obtain ⟨k1, hk, rfl⟩ := links_at hd
    have hn : n < gs.length := (List.getElem?_eq_some_iff.mp hk).1
    have hll := lets_len (gs.take n)
    have hlt : (gs.take n).length ≤ 24 := by rw [List.length_take]; omega
    refine ag_tup rfl ?_
    refine ags_cons (ag_name ?_)
    refine ags_cons (ag_name ?_)
    refine ags_cons (ag_name ?_)
    refine ags_nil ?_
    walk_at "al"
    refine ai_tup ?_
    refine ae_tup ?_
    walk_at "al"
    refine ⟨by simp, fun F3 e3 => ?_⟩
    refine ⟨_, rfl, fun n2 F' ms' acc => ms' = ms1 ∧ acc = ((letsF (gs.take n) ++ (([k1.2.1, k1.2.2].take n2).filter fun c => decide (c ≠ 32))).map sg).map D.str, ⟨rfl, by simp⟩, fun _ _ _ _ _ _ => trivial, ?_, ?_⟩
    · rintro n2 d F4 ms4 acc e4 hd ⟨rfl, rfl⟩ F5 e5
      obtain ⟨c, hc, rfl⟩ : ∃ c, [k1.2.1, k1.2.2][n2]? = some c ∧ d = .str (sg c) := by
        match n2, hd with
        | 0, hd => cases hd; exact ⟨_, rfl, rfl⟩
        | 1, hd => cases hd; exact ⟨_, rfl, rfl⟩
      refine ag_name ?_
      walk_at "al"
      have hfl := List.length_filter_le (fun c => decide (c ≠ 32)) ([k1.2.1, k1.2.2].take n2)
      have hf2 : ([k1.2.1, k1.2.2].take n2).length ≤ 2 := by rw [List.length_take]; exact Nat.min_le_right _ _
      refine ⟨fun hb => ?_, fun hb => ?_⟩
      · have h32 : c ≠ 32 := fun z => by
          subst z
          simp [show sg 32 = Str.ofString " " from rfl] at hb
        walk_at "al"
        refine ⟨by rw [List.length_map, List.length_map, List.length_append]; omega, rfl, ?_⟩
        rw [List.take_succ, hc, List.filter_append, ← List.append_assoc, List.map_append, List.map_append]
        simp [h32]
      · have h32 : c = 32 := by
          simp at hb
          exact sg_inj.mp hb
        refine ⟨rfl, ?_⟩
        rw [List.take_succ, hc, List.filter_append]
        simp [h32]
    · rintro F4 ms4 acc e4 ⟨rfl, rfl⟩
      refine ⟨rfl, ?_⟩
      rw [lets_take hk]
      rfl
  · rintro F1 ms1 acc e1 ⟨rfl, rfl⟩ F2 e2
    rw [List.length_map, List.take_length]
    walk_at "al"
    refine ar_ixT (d := .str (sg k.2.1)) (atI_of (j := 1) rfl rfl) ?_
    walk_at "al"
    refine ar_INl (xs := (letsF gs).map sg) (.inl (.inl (.inl rfl))) ?_
    rw [mem_sg]
    walk_at "al"
    have hq := q F2 (e1.trans e2)
    unfold sharesF at hq
    refine ⟨fun h1 => ?_, fun h1 => ?_⟩
    · walk_at "al"
      refine ar_ixT (d := .str (sg k.2.2)) (atI_of (j := 2) rfl rfl) ?_
      walk_at "al"
      refine ar_INl (xs := (letsF gs).map sg) (.inl (.inl (.inl rfl))) ?_
      rw [mem_sg]
      rw [h1, Bool.false_or] at hq
      exact hq
    · rw [h1, Bool.true_or] at hq
      exact hq
end
theorem sorted_uniq : ∀ {xs ys : List Nat}, xs.Pairwise (· ≤ ·) → ys.Pairwise (· ≤ ·) → xs.Perm ys → xs = ys
  | [], ys, _, _, p => p.nil_eq
  | x :: xs, [], _, _, p => by have := p.length_eq; simp at this
  | x :: xs, y :: ys, h1, h2, p => by
    have hx := List.pairwise_cons.mp h1
    have hy := List.pairwise_cons.mp h2
    have m1 : x ∈ y :: ys := p.mem_iff.mp (List.mem_cons_self ..)
    have m2 : y ∈ x :: xs := p.mem_iff.mpr (List.mem_cons_self ..)
    have e : x = y := by
      rcases List.mem_cons.mp m1 with e | e
      · exact e
      · rcases List.mem_cons.mp m2 with e2 | e2
        · exact e2.symm
        · exact Nat.le_antisymm (hx.1 _ e2) (hy.1 _ e)
    subst e
    rw [sorted_uniq hx.2 hy.2 (List.Perm.cons_inv p)]
theorem sorted_sg : ∀ {cs : List Nat}, sortedS (cs.map sg) = true → cs.Pairwise (· ≤ ·)
  | [], _ => List.Pairwise.nil
  | [c], _ => List.pairwise_singleton ..
  | a :: b :: r, h => by
    have h2 : (!ltCps (sg b).cps.toList (sg a).cps.toList && sortedS ((b :: r).map sg)) = true := h
    rw [Bool.and_eq_true] at h2
    have ih := sorted_sg (cs := b :: r) h2.2
    have hab : a ≤ b := by
      have := h2.1
      by_cases z : b < a
      · exfalso
        have e : ltCps (sg b).cps.toList (sg a).cps.toList = true := by
          show ltCps [b] [a] = true
          simp [ltCps, z]
        rw [e] at this
        cases this
      · omega
    refine List.pairwise_cons.mpr ⟨fun c hc => ?_, ih⟩
    rcases List.mem_cons.mp hc with rfl | hc
    · exact hab
    · exact Nat.le_trans hab ((List.pairwise_cons.mp ih).1 c hc)
theorem perm_sg {ys : List Str} {xs : List Nat} (h : ys.Perm (xs.map sg)) : ∃ cs : List Nat, ys = cs.map sg ∧ cs.Perm xs := by
  have hall : ∀ y ∈ ys, ∃ c, y = sg c := fun y hy => by
    obtain ⟨c, _, hc⟩ := List.mem_map.mp (h.mem_iff.mp hy)
    exact ⟨c, hc.symm⟩
  obtain ⟨cs, rfl⟩ : ∃ cs : List Nat, ys = cs.map sg := by
    clear h
    induction ys with
    | nil => exact ⟨[], rfl⟩
    | cons y ys ih =>
      obtain ⟨c, rfl⟩ := hall y (List.mem_cons_self ..)
      obtain ⟨cs, rfl⟩ := ih fun z hz => hall z (List.mem_cons_of_mem _ hz)
      exact ⟨c :: cs, rfl⟩
  refine ⟨cs, rfl, ?_⟩
  have h2 := h.map (fun s : Str => s.cps.toList.headD 0)
  rw [List.map_map, List.map_map] at h2
  have hid : ((fun s : Str => s.cps.toList.headD 0) ∘ sg) = (id : Nat → Nat) := rfl
  rw [hid, List.map_id, List.map_id] at h2
  exact h2
theorem eqv_strs : ∀ (xs ys : List Str), eqvD (.lst (xs.map D.str)) (.lst (ys.map D.str)) = decide (xs = ys)
  | [], [] => rfl
  | [], y :: ys => by simp [eqvD, toPy, toPyL, PyData.eqv, PyData.eqvAll]
  | x :: xs, [] => by simp [eqvD, toPy, toPyL, PyData.eqv, PyData.eqvAll]
  | x :: xs, y :: ys => by
    have ih := eqv_strs xs ys
    simp only [eqvD, toPy, toPyL, PyData.eqv, PyData.eqvAll, List.map_cons] at ih ⊢
    rw [ih]
    by_cases h : x = y
    · by_cases h2 : xs = ys
      · simp [h, h2]
      · simp [h, h2]
    · simp [h]
theorem any_closed (gs : List Lk) : (gs.map fun k => decide (32 ∈ [k.2.1, k.2.2])).any id = !gs.all (fun k => decide (k.2.1 ≠ 32) && decide (k.2.2 ≠ 32)) := by
  rw [List.any_map]
  induction gs with
  | nil => rfl
  | cons k gs ih =>
    rw [List.any_cons, List.all_cons, ih, Bool.not_and]
    congr 1
    by_cases a : k.2.1 = 32 <;> by_cases b : k.2.2 = 32 <;> simp [a, b, eq_comm]
section
variable {P : Program} {w : World} {K : Frg} {mg : Str → Option Value} {base : Heap}
theorem ok_is_closed (T : Txt K mg) : OK_is_closed P w base T := by
  refine fn_ok T.F_is_closed sc_is_closed (by rintro _ _ _ _ _ ⟨gs, rfl, _⟩; rfl) (fun cdv A outer s H E hr => ?_)
  have hu64 := hr.units
  refine ⟨_, (pss_cons (ps_if (pt_val (pe_callB (kANY (K := K) rfl rfl) (by rfl) T.g_any boot_any (pa_cons (pe_lc rfl sc_is_closed.nd (pi_listk (K := K) rfl (pv 0)) (own := [("place", 1), ("old", 2), ("new", 3)]) (@BlkOk.mk N_is_closed (defScope s_is_closed) _ _ rfl (by decide +kernel) (by decide +kernel) (by decide +kernel) (by decide +kernel)) (fun _ _ _ _ _ => (pg_tupk (K := K) (n := 3) rfl rfl (pgs_cons (pg_name (i := 1) sc_is_closed.nd rfl (by first | exact Or.inl rfl | exact Or.inr rfl)) (pgs_cons (pg_name (i := 2) sc_is_closed.nd rfl (by first | exact Or.inl rfl | exact Or.inr rfl)) (pgs_cons (pg_name (i := 3) sc_is_closed.nd rfl (by first | exact Or.inl rfl | exact Or.inr rfl)) pgs_nil))))) (fun _ _ _ _ _ => pts_nil) (fun _ _ _ _ _ => (pe_cmpR (kIN (K := K) rfl) (pe_glob (by rfl) T.m_BLANK T.r_BLANK) (pe_tup (pa_cons (pv 2) (pa_cons (pv 3) pa_nil))) (by with_unfolding_all rfl)))) pa_nil))) (pss_one (ps_ret pe_bl)) pss_nil)
      (pss_one (ps_ret (pe_cmpR (kEQ (K := K) rfl hu64) (pe_callB (kSRT (K := K) rfl) (by rfl) T.g_sorted boot_sorted (pa_cons (pe_lc rfl sc_is_closed.nd (pi_listk (K := K) rfl (pv 0)) (own := [("place", 1), ("old", 2), ("new", 3)]) (@BlkOk.mk N_is_closed (defScope s_is_closed) _ _ rfl (by decide +kernel) (by decide +kernel) (by decide +kernel) (by decide +kernel)) (fun _ _ _ _ _ => (pg_tupk (K := K) (n := 3) rfl rfl (pgs_cons (pg_name (i := 1) sc_is_closed.nd rfl (by first | exact Or.inl rfl | exact Or.inr rfl)) (pgs_cons (pg_name (i := 2) sc_is_closed.nd rfl (by first | exact Or.inl rfl | exact Or.inr rfl)) (pgs_cons (pg_name (i := 3) sc_is_closed.nd rfl (by first | exact Or.inl rfl | exact Or.inr rfl)) pgs_nil))))) (fun _ _ _ _ _ => pts_nil) (fun _ _ _ _ _ => (pv 2))) pa_nil)) (pe_callB (kSRT (K := K) rfl) (by rfl) T.g_sorted boot_sorted (pa_cons (pe_lc rfl sc_is_closed.nd (pi_listk (K := K) rfl (pv 0)) (own := [("place", 1), ("old", 2), ("new", 3)]) (@BlkOk.mk N_is_closed (defScope s_is_closed) _ _ rfl (by decide +kernel) (by decide +kernel) (by decide +kernel) (by decide +kernel)) (fun _ _ _ _ _ => (pg_tupk (K := K) (n := 3) rfl rfl (pgs_cons (pg_name (i := 1) sc_is_closed.nd rfl (by first | exact Or.inl rfl | exact Or.inr rfl)) (pgs_cons (pg_name (i := 2) sc_is_closed.nd rfl (by first | exact Or.inl rfl | exact Or.inr rfl)) (pgs_cons (pg_name (i := 3) sc_is_closed.nd rfl (by first | exact Or.inl rfl | exact Or.inr rfl)) pgs_nil))))) (fun _ _ _ _ _ => pts_nil) (fun _ _ _ _ _ => (pv 3))) pa_nil)) (nomark _))))), ?_⟩
  rintro _ F ms Q Ea ⟨gs, rfl, hg, hlt, q⟩
  walk_at "al"
  refine ae_lc (gw_tup (gws_cons gm_name (gw_name (by simp)) (gws_cons gm_name (gw_name (by simp)) (gws_cons gm_name (gw_name (by simp)) gws_nil)))) (gm_tup (gms_cons gm_name (gms_cons gm_name (gms_cons gm_name gms_nil)))) ?_
  refine ai_list ?_
  walk_at "al"
  refine .inl ⟨_, .inl rfl, fun n F' ms' acc => ms' = ms ∧ acc = ((gs.take n).map fun k => decide (32 ∈ [k.2.1, k.2.2])).map D.bl, ⟨rfl, rfl⟩, fun _ _ _ _ _ _ => trivial, ?_, ?_⟩
  · rintro n d F1 ms1 acc e1 hd ⟨rfl, rfl⟩ F2 e2
    obtain ⟨k1, hk, rfl⟩ := links_at hd
    have hn : n < gs.length := (List.getElem?_eq_some_iff.mp hk).1
    refine ag_tup rfl ?_
    refine ags_cons (ag_name ?_)
    refine ags_cons (ag_name ?_)
    refine ags_cons (ag_name ?_)
    refine ags_nil ?_
    walk_at "al"
    refine ae_tup ?_
    walk_at "al"
    refine ⟨by simp, fun F3 e3 => ?_⟩
    refine ar_INl (x := sg 32) (xs := [k1.2.1, k1.2.2].map sg) (.inr rfl) ?_
    rw [mem_sg]
    refine ⟨by rw [List.length_map, List.length_map, List.length_take]; omega, rfl, ?_⟩
    rw [List.take_succ, hk, List.map_append, List.map_append]
    rfl
  · rintro F1 ms1 acc e1 ⟨rfl, rfl⟩ F2 e2
    rw [List.length_map, List.take_length]
    walk_at "al"
    refine ac_any (bs := gs.map fun k => decide (32 ∈ [k.2.1, k.2.2])) rfl ?_
    walk_at "al"
    rw [any_closed]
    have hq := q F2 (e1.trans e2)
    unfold closedF at hq
    cases hall : gs.all (fun k => decide (k.2.1 ≠ 32) && decide (k.2.2 ≠ 32)) with
    | false =>
      rw [hall, Bool.false_and] at hq
      refine and_nF ?_
      walk_at "al"
      exact hq
    | true =>
      rw [hall, Bool.true_and] at hq
      refine and_nT ?_
      walk_at "al"
      refine ae_lc (gw_tup (gws_cons gm_name (gw_name (by simp)) (gws_cons gm_name (gw_name (by simp)) (gws_cons gm_name (gw_name (by simp)) gws_nil)))) (gm_tup (gms_cons gm_name (gms_cons gm_name (gms_cons gm_name gms_nil)))) ?_
      refine ai_list ?_
      walk_at "al"
      refine .inl ⟨_, .inl rfl, fun n F' ms' acc => ms' = ms1 ∧ acc = (((gs.take n).map (·.2.1)).map sg).map D.str, ⟨rfl, rfl⟩, fun _ _ _ _ _ _ => trivial, ?_, ?_⟩
      · rintro n d F3 ms3 acc e3 hd ⟨rfl, rfl⟩ F4 e4
        obtain ⟨k1, hk, rfl⟩ := links_at hd
        have hn : n < gs.length := (List.getElem?_eq_some_iff.mp hk).1
        refine ag_tup rfl ?_
        refine ags_cons (ag_name ?_)
        refine ags_cons (ag_name ?_)
        refine ags_cons (ag_name ?_)
        refine ags_nil ?_
        walk_at "al"
        refine ⟨by rw [List.length_map, List.length_map, List.length_map, List.length_take]; omega, rfl, ?_⟩
        rw [List.take_succ, hk, List.map_append, List.map_append, List.map_append]
        rfl
      · rintro F3 ms3 acc e3 ⟨rfl, rfl⟩ F4 e4
        rw [List.length_map, List.take_length]
        walk_at "al"
        refine ac_sortS (xs := (gs.map (·.2.1)).map sg) (.inl (.inl rfl)) (by rw [List.length_map, List.length_map]; omega) fun F5 ys1 e5 hp1 hs1 => ?_
        walk_at "al"
        refine ae_lc (gw_tup (gws_cons gm_name (gw_name (by simp)) (gws_cons gm_name (gw_name (by simp)) (gws_cons gm_name (gw_name (by simp)) gws_nil)))) (gm_tup (gms_cons gm_name (gms_cons gm_name (gms_cons gm_name gms_nil)))) ?_
        refine ai_list ?_
        walk_at "al"
        refine .inl ⟨_, .inl rfl, fun n F' ms' acc => ms' = ms3 ∧ acc = (((gs.take n).map (·.2.2)).map sg).map D.str, ⟨rfl, rfl⟩, fun _ _ _ _ _ _ => trivial, ?_, ?_⟩
        · rintro n d F6 ms6 acc e6 hd ⟨rfl, rfl⟩ F7 e7
          obtain ⟨k1, hk, rfl⟩ := links_at hd
          have hn : n < gs.length := (List.getElem?_eq_some_iff.mp hk).1
          refine ag_tup rfl ?_
          refine ags_cons (ag_name ?_)
          refine ags_cons (ag_name ?_)
          refine ags_cons (ag_name ?_)
          refine ags_nil ?_
          walk_at "al"
          refine ⟨by rw [List.length_map, List.length_map, List.length_map, List.length_take]; omega, rfl, ?_⟩
          rw [List.take_succ, hk, List.map_append, List.map_append, List.map_append]
          rfl
        · rintro F6 ms6 acc e6 ⟨rfl, rfl⟩ F7 e7
          rw [List.length_map, List.take_length]
          walk_at "al"
          refine ac_sortS (xs := (gs.map (·.2.2)).map sg) (.inl (.inl rfl)) (by rw [List.length_map, List.length_map]; omega) fun F8 ys2 e8 hp2 hs2 => ?_
          obtain ⟨c1, rfl, q1⟩ := perm_sg hp1
          obtain ⟨c2, rfl, q2⟩ := perm_sg hp2
          have ok1 : ∀ {cs : List Nat}, (∀ c ∈ cs, c < 128) → okL ((cs.map sg).map D.str) = true ∧ depL ((cs.map sg).map D.str) = 0 := fun {cs} h => chr_ok fun x hx => by
            obtain ⟨s, hs, rfl⟩ := List.mem_map.mp hx
            obtain ⟨c, hc, rfl⟩ := List.mem_map.mp hs
            exact ⟨c, rfl, h c hc⟩
          obtain ⟨o1, o2⟩ := ok1 (cs := c1) fun c hc => by
            obtain ⟨k, hk, rfl⟩ := List.mem_map.mp (q1.mem_iff.mp hc)
            exact (hlt k hk).1
          obtain ⟨o3, o4⟩ := ok1 (cs := c2) fun c hc => by
            obtain ⟨k, hk, rfl⟩ := List.mem_map.mp (q2.mem_iff.mp hc)
            exact (hlt k hk).2
          refine ar_EQd (d := .lst ((c1.map sg).map D.str)) (e := .lst ((c2.map sg).map D.str)) o1 o3 (by show depL ((c1.map sg).map D.str) + 1 ≤ 64; omega) (by show depL ((c2.map sg).map D.str) + 1 ≤ 64; omega) ?_
          rw [eqv_strs]
          have hfin := q F8 ((((((e1.trans e2).trans e3).trans e4).trans e5).trans e6).trans (e7.trans e8))
          unfold closedF at hfin
          rw [hall, Bool.true_and] at hfin
          have e9 : decide (c1.map sg = c2.map sg) = decide ((gs.map (·.2.1)).Perm (gs.map (·.2.2))) := by
            by_cases hp : (gs.map (·.2.1)).Perm (gs.map (·.2.2))
            · rw [decide_eq_true hp]
              refine decide_eq_true ?_
              rw [sorted_uniq (sorted_sg hs1) (sorted_sg hs2) ((q1.trans hp).trans q2.symm)]
            · rw [decide_eq_false hp]
              refine decide_eq_false fun z => hp ?_
              have e := congrArg (List.map fun s : Str => s.cps.toList.headD 0) z
              rw [List.map_map, List.map_map] at e
              have hid : ((fun s : Str => s.cps.toList.headD 0) ∘ sg) = (id : Nat → Nat) := rfl
              rw [hid, List.map_id, List.map_id] at e
              subst e
              exact q1.symm.trans q2
          rw [e9]
          exact hfin
end

theorem tog_len (k : Lk) (found : List (List Lk)) : (togF k found).length ≤ found.flatten.length + 1 := by
  have gen : ∀ (l : List (List Lk)) (t : List Lk), (l.foldl (fun t g => g ++ t) t).length = l.flatten.length + t.length := by
    intro l
    induction l with
    | nil => intro t; simp
    | cons g l ih => intro t; rw [List.foldl_cons, ih, List.length_append, List.flatten_cons, List.length_append]; omega
  have fl : ∀ l : List (List Lk), (l.filter fun g => sharesF g k).flatten.length ≤ l.flatten.length := by
    intro l
    induction l with
    | nil => exact Nat.le_refl _
    | cons g l ih =>
      rw [List.filter_cons]
      split
      · rw [List.flatten_cons, List.flatten_cons, List.length_append, List.length_append]; omega
      · rw [List.flatten_cons, List.length_append]; omega
  unfold togF
  rw [gen]
  have := fl found
  simp only [List.length_singleton]
  omega
theorem step_len (found : List (List Lk)) (k : Lk) : (stepG found k).flatten.length = found.flatten.length + 1 ∧ (stepG found k).length ≤ found.length + 1 := by
  have gen : ∀ (l : List (List Lk)) (t : List Lk), (l.foldl (fun t g => g ++ t) t).length = l.flatten.length + t.length := by
    intro l
    induction l with
    | nil => intro t; simp
    | cons g l ih => intro t; rw [List.foldl_cons, ih, List.length_append, List.flatten_cons, List.length_append]; omega
  have sp : ∀ l : List (List Lk), (l.filter fun g => sharesF g k).flatten.length + (l.filter fun g => !sharesF g k).flatten.length = l.flatten.length := by
    intro l
    induction l with
    | nil => rfl
    | cons g l ih =>
      rw [List.filter_cons, List.filter_cons, List.flatten_cons, List.length_append]
      cases sharesF g k with
      | true => simp only [if_true, Bool.not_true, Bool.false_eq_true, if_false, List.flatten_cons, List.length_append]; omega
      | false => simp only [if_true, Bool.not_false, Bool.false_eq_true, if_false, List.flatten_cons, List.length_append]; omega
  unfold stepG togF
  refine ⟨?_, ?_⟩
  · rw [List.flatten_append, List.length_append, List.flatten_cons, List.flatten_nil, List.append_nil, gen]
    have := sp found
    simp only [List.length_singleton]
    omega
  · rw [List.length_append]
    have := List.length_filter_le (fun g => !sharesF g k) found
    simp only [List.length_singleton]
    omega
theorem tog_take {k : Lk} {found : List (List Lk)} {n : Nat} {g : List Lk} (h : found[n]? = some g) : togF k (found.take (n + 1)) = if sharesF g k = true then g ++ togF k (found.take n) else togF k (found.take n) := by
  unfold togF
  rw [List.take_succ, h, List.filter_append, List.foldl_append]
  cases hs : sharesF g k with
  | true => simp [hs]
  | false => simp [hs]
theorem oth_take {k : Lk} {found : List (List Lk)} {n : Nat} {g : List Lk} (h : found[n]? = some g) : ((found.take (n + 1)).filter fun g => !sharesF g k) = if sharesF g k = true then (found.take n).filter (fun g => !sharesF g k) else (found.take n).filter (fun g => !sharesF g k) ++ [g] := by
  rw [List.take_succ, h, List.filter_append]
  cases hs : sharesF g k with
  | true => simp [hs]
  | false => simp [hs]
theorem mem_flat_len {found : List (List Lk)} {n : Nat} {g : List Lk} (h : found[n]? = some g) : g.length + (found.take n).flatten.length ≤ found.flatten.length := by
  have hn := (List.getElem?_eq_some_iff.mp h)
  obtain ⟨hn, e⟩ := hn
  have hs : found = found.take n ++ g :: found.drop (n + 1) := by rw [← e, List.getElem_cons_drop, List.take_append_drop]
  conv => rhs; rw [hs]
  rw [List.flatten_append, List.flatten_cons, List.length_append, List.length_append]
  omega
theorem groups_take {ks : List Lk} {n : Nat} {k : Lk} (h : ks[n]? = some k) : groupsF (ks.take (n + 1)) = stepG (groupsF (ks.take n)) k := by
  unfold groupsF
  rw [List.take_succ, h, List.foldl_append]
  rfl
theorem groups_len : ∀ (ks : List Lk), (groupsF ks).flatten.length = ks.length ∧ (groupsF ks).length ≤ ks.length := by
  have gen : ∀ (ks : List Lk) (f : List (List Lk)), (ks.foldl stepG f).flatten.length = f.flatten.length + ks.length ∧ (ks.foldl stepG f).length ≤ f.length + ks.length := by
    intro ks
    induction ks with
    | nil => intro f; exact ⟨rfl, Nat.le_refl _⟩
    | cons k ks ih =>
      intro f
      obtain ⟨s1, s2⟩ := step_len f k
      obtain ⟨i1, i2⟩ := ih (stepG f k)
      rw [List.foldl_cons, List.length_cons]
      exact ⟨by omega, by omega⟩
  intro ks
  have := gen ks []
  simpa [groupsF] using this
theorem gd_at {f : List (List Lk)} {n : Nat} {d : D} (h : (f.map gD)[n]? = some d) : ∃ g, f[n]? = some g ∧ d = gD g := by
  rw [List.getElem?_map] at h
  cases e : f[n]? with
  | none => rw [e] at h; cases h
  | some p => rw [e] at h; exact ⟨p, rfl, (Option.some.inj h).symm⟩
section
variable {P : Program} {w : World} {K : Frg} {mg : Str → Option Value} {base : Heap}
theorem as_drops {Γ} {ts : TS} {F p S} {A : AEnds} : ∀ (n : Nat) {J : Ms}, AS Γ ts F (p :: J.drop n) S A → AS Γ ts F (p :: J) S A
  | 0, _, h => h
  | _ + 1, [], h => h
  | n + 1, q :: J, h => as_dropm 1 (as_drops n (J := J) h) (by simp)
theorem ok_groups (T : Txt K mg) (G_shares : OK_shares P w base T) : OK_groups P w base T := by
  refine fn_ok T.F_groups sc_groups (by rintro _ _ _ _ _ ⟨ks, rfl, _⟩; rfl) (fun cdv A outer s H E hr => ?_)
  have hu64 := hr.units
  refine ⟨_, (pss_cons (ps_set (i := 1) sc_groups.nd rfl (by first | exact Or.inl rfl | exact Or.inr rfl) (pe_lst pa_nil))
      (pss_cons (ps_for PassesOwn.never rfl (pi_listk (K := K) rfl (pv 0)) (pg_name (i := 2) sc_groups.nd rfl (by first | exact Or.inl rfl | exact Or.inr rfl)) (pss_cons (ps_par (i := 3) (j := 4) rfl sc_groups.nd rfl rfl (by decide) rfl rfl (pa_cons (pe_lst (pa_cons (pv 2) pa_nil)) (pa_cons (pe_lst pa_nil) pa_nil)) (by rfl))
      (pss_cons (ps_for PassesOwn.never rfl (pi_listk (K := K) rfl (pv 1)) (pg_name (i := 5) sc_groups.nd rfl (by first | exact Or.inl rfl | exact Or.inr rfl)) (pss_one (ps_if (pt_val (pe_call G_shares (hr.mono (by first | decide | omega)) (by rfl) T.m_shares T.F_shares.kp T.b_shares .nil pass0 (pa_cons (pv 5) (pa_cons (pv 2) pa_nil)))) (pss_one (ps_set (i := 3) sc_groups.nd rfl (by first | exact Or.inl rfl | exact Or.inr rfl) (pe_op (kADD (K := K) rfl) (pv 5) (pv 3)))) (pss_one (ps_expr (pe_bmk (K := K) rfl PySem.F.plainAttrs_list PySem.F.slot_list_append PySem.F.type_list_append mt_append (pv 4) (pa_cons (pv 5) pa_nil)))))))
      (pss_one (ps_set (i := 1) sc_groups.nd rfl (by first | exact Or.inl rfl | exact Or.inr rfl) (pe_op (kADD (K := K) rfl) (pv 4) (pe_lst (pa_cons (pv 3) pa_nil))))))))
      (pss_one (ps_ret (pv 1))))), ?_⟩
  rintro _ F ms Q Ea ⟨ks, rfl, hk24, q⟩
  walk_at "al"
  refine ae_lstO ?_
  walk_at "al"
  refine ⟨by simp, fun l0 => ?_⟩
  walk_at "al"
  refine as_for ?_
  refine ai_list ?_
  walk_at "al"
  refine .inl ⟨_, .inl rfl, fun n F' ms' S' => ∃ (l : Addr) (J : Ms) (a b c d : Option D), ms' = (l, .lst ((groupsF (ks.take n)).map gD)) :: J ∧ J.drop (J.length - ms.length) = ms ∧ S' = [some (.lst (ks.map lD)), some (.ref l), a, b, c, d], ⟨l0, ms, none, none, none, none, rfl, by simp, rfl⟩, fun _ _ _ _ _ _ => trivial, ?_, ?_⟩
  · rintro n d F1 ms1 S1 e1 hd ⟨l, J, a, b, c, dd, rfl, hJ, rfl⟩ F2 e2
    obtain ⟨k, hk, rfl⟩ := links_at hd
    have hn : n < ks.length := (List.getElem?_eq_some_iff.mp hk).1
    obtain ⟨f1, f2⟩ := groups_len (ks.take n)
    have hlt : (ks.take n).length ≤ 24 := by rw [List.length_take]; omega
    generalize hf : groupsF (ks.take n) = found at f1 f2 ⊢
    refine ag_name ?_
    walk_at "al"
    refine ae_lstF ?_
    walk_at "al"
    refine ⟨by simp, fun F3 e3 => ?_⟩
    walk_at "al"
    refine ae_lstO ?_
    walk_at "al"
    refine ⟨by simp, fun lo => ?_⟩
    walk_at "al"
    refine as_for ?_
    refine ai_list ?_
    walk_at "al"
    refine .inr ⟨1, l, _, rfl, rfl, fun m F' ms' S' => ms' = (lo, .lst (((found.take m).filter fun g => !sharesF g k).map gD)) :: (l, .lst (found.map gD)) :: J ∧ ∃ e, S' = [some (.lst (ks.map lD)), some (.ref l), some (lD k), some (.lst ((togF k (found.take m)).map lD)), some (.ref lo), e], ⟨rfl, dd, rfl⟩, fun i F' ms' S' e h => ⟨1, by rw [h.1]; rfl⟩, ?_, ?_⟩
    · rintro m d F4 ms4 S4 e4 hd4 ⟨rfl, e, rfl⟩ F5 e5
      obtain ⟨g, hg, rfl⟩ := gd_at hd4
      have hm : m < found.length := (List.getElem?_eq_some_iff.mp hg).1
      have hgl := mem_flat_len hg
      have htl := tog_len k (found.take m)
      refine ag_name ?_
      walk_at "al"
      refine ⟨g, k, rfl, by omega, fun F6 e6 => ?_⟩
      walk_at "al"
      have t1 := tog_take (k := k) hg
      have t2 := oth_take (k := k) hg
      cases hs : sharesF g k with
      | true =>
        rw [hs, if_pos rfl] at t1 t2
        walk_at "al"
        refine ar_ADDl (xs := g.map lD) (ys := (togF k (found.take m)).map lD) (by rw [List.length_map, List.length_map]; omega) fun F7 e7 => ?_
        walk_at "al"
        refine ⟨by rw [t2], some (gD g), ?_⟩
        rw [t1, List.map_append]
        rfl
      | false =>
        rw [hs, if_neg (by decide)] at t1 t2
        walk_at "al"
        refine ae_bmL ?_
        walk_at "al"
        refine ⟨_, .inr ⟨0, lo, rfl, rfl⟩, ?_⟩
        walk_at "al"
        have hol := List.length_filter_le (fun g => !sharesF g k) (found.take m)
        have hol2 : (found.take m).length ≤ 24 := by rw [List.length_take]; omega
        refine am_append 0 (l := lo) rfl (by rw [List.length_map]; omega) ?_
        refine ⟨?_, some (gD g), ?_⟩
        · rw [t2, List.map_append]
          rfl
        · rw [t1]
          rfl
    · rintro F4 ms4 S4 e4 ⟨rfl, e, rfl⟩
      rw [List.length_map, List.take_length]
      have hol := List.length_filter_le (fun g => !sharesF g k) found
      walk_at "al"
      refine ae_lstF ?_
      walk_at "al"
      refine ⟨by simp, fun F5 e5 => ?_⟩
      refine ar_ADDoo 0 (l := lo) rfl (by rw [List.length_map]; show _ + 1 ≤ 100000; omega) fun l2 => ?_
      walk_at "al"
      refine ⟨l2, (lo, .lst ((found.filter fun g => !sharesF g k).map gD)) :: (l, .lst (found.map gD)) :: J, _, _, _, _, ?_, ?_, rfl⟩
      · rw [groups_take hk, hf]
        unfold stepG
        rw [List.map_append]
        rfl
      · have hJl : (J.drop (J.length - ms.length)).length = ms.length := by rw [hJ]
        rw [List.length_drop] at hJl
        show (_ :: _ :: J).drop ((_ :: _ :: J).length - ms.length) = ms
        rw [List.length_cons, List.length_cons, show J.length + 1 + 1 - ms.length = (J.length - ms.length) + 1 + 1 by omega]
        exact hJ
  · rintro F1 ms1 S1 e1 ⟨l, J, a, b, c, dd, rfl, hJ, rfl⟩
    rw [List.length_map, List.take_length]
    refine as_drops (J.length - ms.length) ?_
    rw [hJ]
    refine as_frz 0 (i := 1) rfl rfl fun F2 e2 => ?_
    walk_at "al"
    exact q F2 (e1.trans e2)
end

theorem kS_dec (a b : Nat) : decide (kS a = kS b) = decide (a = b) := by
  by_cases e : a = b
  · rw [e]; simp
  · rw [decide_eq_false e, decide_eq_false fun h => e (kS_inj.mp h).symm]
theorem valD_cnt (c : Nat) (z : D) : ∀ m : Cn, (valD (cntD m) (kS c)).getD (.int 0) = .int (valC m c)
  | [] => rfl
  | p :: m => by
    have ih := valD_cnt c z m
    unfold valD cntD valC at ih ⊢
    rw [List.map_cons, List.find?_cons, List.find?_cons, kS_dec]
    cases e : decide (p.1 = c) with
    | true => rfl
    | false => exact ih
theorem any_cnt (c : Nat) : ∀ m : Cn, ((cntD m).any fun kv => decide (kv.1 = kS c)) = m.any fun p => decide (p.1 = c)
  | [] => rfl
  | p :: m => by
    have ih := any_cnt c m
    unfold cntD at ih ⊢
    rw [List.map_cons, List.any_cons, List.any_cons, ih, kS_dec]
theorem put_cnt (m : Cn) (c : Nat) (z : Int) : putKD (cntD m) (kS c) (.int z) = cntD (setC m c z) := by
  unfold putKD setC
  rw [any_cnt]
  cases m.any fun p => decide (p.1 = c) with
  | false => simp [cntD]
  | true =>
    rw [if_pos rfl, if_pos rfl]
    unfold cntD
    rw [List.map_map, List.map_map]
    apply List.map_congr_left
    rintro ⟨a, y⟩ _
    show (if kS a = kS c then (kS a, D.int z) else (kS a, D.int y)) = (kS (if a = c then (a, z) else (a, y)).1, D.int (if a = c then (a, z) else (a, y)).2)
    by_cases e : a = c
    · rw [if_pos e, if_pos (by rw [e])]
    · rw [if_neg e, if_neg fun h => e (kS_inj.mp h).symm]
theorem setC_len (m : Cn) (c : Nat) (z : Int) : (setC m c z).length ≤ m.length + 1 := by
  unfold setC
  split
  · rw [List.length_map]; omega
  · rw [List.length_append]; exact Nat.le_refl _
theorem cnt_take {ks : List Lk} {n : Nat} {k : Lk} (h : ks[n]? = some k) : cntF (ks.take (n + 1)) = stepC (cntF (ks.take n)) k := by
  unfold cntF
  rw [List.take_succ, h, List.foldl_append]
  rfl
theorem stepC_len (m : Cn) (k : Lk) : (stepC m k).length ≤ m.length + 2 := by
  unfold stepC
  have h1 := setC_len m k.2.1 (valC m k.2.1 + 1)
  have h2 := setC_len (setC m k.2.1 (valC m k.2.1 + 1)) k.2.2 (valC (setC m k.2.1 (valC m k.2.1 + 1)) k.2.2 - 1)
  omega
theorem cnt_len (ks : List Lk) : (cntF ks).length ≤ 2 * ks.length := by
  have gen : ∀ (ks : List Lk) (m : Cn), (ks.foldl stepC m).length ≤ m.length + 2 * ks.length := by
    intro ks
    induction ks with
    | nil => intro m; simp
    | cons k ks ih =>
      intro m
      have := ih (stepC m k)
      have := stepC_len m k
      rw [List.foldl_cons, List.length_cons]
      omega
  have := gen ks []
  simpa [cntF] using this
theorem setC_new {m : Cn} {c : Nat} {z : Int} (h : ∀ r ∈ m, r.1 ≠ c) : setC m c z = m ++ [(c, z)] := by
  unfold setC
  have : m.any (fun p => decide (p.1 = c)) = false := by
    rw [List.any_eq_false]
    intro r hr
    simpa using h r hr
  rw [this]
  rfl
theorem nd_take {m : Cn} (h : (m.map (·.1)).Nodup) {i : Nat} {p : Nat × Int} (hp : m[i]? = some p) : ∀ r ∈ m.take i, r.1 ≠ p.1 := by
  obtain ⟨hi, e⟩ := List.getElem?_eq_some_iff.mp hp
  have hs : m = m.take i ++ p :: m.drop (i + 1) := by rw [← e, List.getElem_cons_drop, List.take_append_drop]
  rw [hs, List.map_append, List.nodup_append] at h
  intro r hr
  exact h.2.2 r.1 (List.mem_map_of_mem hr) p.1 (by simp)
theorem setC_nd {m : Cn} (c : Nat) (z : Int) (h : (m.map (·.1)).Nodup) : ((setC m c z).map (·.1)).Nodup := by
  unfold setC
  cases e : m.any fun p => decide (p.1 = c) with
  | true =>
    rw [if_pos rfl, List.map_map]
    have : m.map ((fun p : Nat × Int => p.1) ∘ fun p => if p.1 = c then (p.1, z) else p) = m.map (·.1) := by
      apply List.map_congr_left
      intro p _
      show (if p.1 = c then (p.1, z) else p).1 = p.1
      split <;> rfl
    rw [this]
    exact h
  | false =>
    rw [if_neg (by decide), List.map_append, List.nodup_append]
    rw [List.any_eq_false] at e
    refine ⟨h, by simp, ?_⟩
    intro a ha b hb
    obtain ⟨p, hp, rfl⟩ := List.mem_map.mp ha
    have hb : b = c := by simpa using hb
    subst hb
    simpa using e p hp
theorem cnt_nd (ks : List Lk) : ((cntF ks).map (·.1)).Nodup := by
  have gen : ∀ (ks : List Lk) (m : Cn), (m.map (·.1)).Nodup → ((ks.foldl stepC m).map (·.1)).Nodup := by
    intro ks
    induction ks with
    | nil => intro m h; exact h
    | cons k ks ih => intro m h; exact ih _ (setC_nd _ _ (setC_nd _ _ h))
  exact gen ks [] List.nodup_nil
section
variable {P : Program} {w : World} {K : Frg} {mg : Str → Option Value} {base : Heap}
theorem ok_surplus (T : Txt K mg) : OK_surplus P w base T := by
  refine fn_ok T.F_surplus sc_surplus (by rintro _ _ _ _ _ ⟨ks, rfl, _⟩; rfl) (fun cdv A outer s H E hr => ?_)
  have hu64 := hr.units
  refine ⟨_, (pss_cons (ps_set (i := 1) sc_surplus.nd rfl (by first | exact Or.inl rfl | exact Or.inr rfl) pe_dnewK)
      (pss_cons (ps_for PassesOwn.never rfl (pi_listk (K := K) rfl (pv 0)) (pg_tupk (K := K) (n := 3) rfl rfl (pgs_cons (pg_name (i := 2) sc_surplus.nd rfl (by first | exact Or.inl rfl | exact Or.inr rfl)) (pgs_cons (pg_name (i := 3) sc_surplus.nd rfl (by first | exact Or.inl rfl | exact Or.inr rfl)) (pgs_cons (pg_name (i := 4) sc_surplus.nd rfl (by first | exact Or.inl rfl | exact Or.inr rfl)) pgs_nil)))) (pss_cons (ps_dput (hu_of hr) (pv 1) (pv 3) (pe_op (kADD (K := K) rfl) (pe_dget2 (hu_of hr) (pv 1) (pv 3) pe_int ⟨rfl, rfl, rfl, rfl⟩) pe_int) (by rfl))
      (pss_one (ps_dput (hu_of hr) (pv 1) (pv 4) (pe_op op_sub (pe_dget2 (hu_of hr) (pv 1) (pv 4) pe_int ⟨rfl, rfl, rfl, rfl⟩) pe_int) (by rfl)))))
      (pss_one (ps_ret (pe_lock (pe_dc rfl sc_surplus.nd (pi_items (pv 1)) (own := [("piece", 5), ("count", 6)]) (@BlkOk.mk N_surplus (defScope s_surplus) _ _ rfl (by decide +kernel) (by decide +kernel) (by decide +kernel) (by decide +kernel)) (fun _ _ _ _ _ => (pg_tupk (K := K) (n := 2) rfl rfl (pgs_cons (pg_name (i := 5) sc_surplus.nd rfl (by first | exact Or.inl rfl | exact Or.inr rfl)) (pgs_cons (pg_name (i := 6) sc_surplus.nd rfl (by first | exact Or.inl rfl | exact Or.inr rfl)) pgs_nil)))) (fun _ _ _ _ _ => (pts_one ((pw_and (pt_cmpR op_gt (pv 6) pe_int (nomark _)) (pw_and1 (pt_cmpR (kNE (K := K) rfl hu64) (pv 5) (pe_glob (by rfl) T.m_BLANK T.r_BLANK) (nomark _))))).pt)) (fun _ _ _ _ _ => (pv 5)) (fun _ _ _ _ _ => (pv 6)))))))), ?_⟩
  rintro _ F ms Q Ea ⟨ks, rfl, hk24, q⟩
  walk_at "al"
  refine ae_dnewO fun m => ?_
  walk_at "al"
  refine as_for ?_
  refine ai_list ?_
  walk_at "al"
  refine .inl ⟨_, .inl rfl, fun n F' ms' S' => ms' = (m, .dic (cntD (cntF (ks.take n)))) :: ms ∧ ∃ a b c, S' = [some (.lst (ks.map lD)), some (.ref m), a, b, c, none, none], ⟨rfl, none, none, none, rfl⟩, fun _ _ _ _ _ _ => trivial, ?_, ?_⟩
  · rintro n d F1 ms1 S1 e1 hd ⟨rfl, a, b, c, rfl⟩ F2 e2
    obtain ⟨k, hk, rfl⟩ := links_at hd
    have hn : n < ks.length := (List.getElem?_eq_some_iff.mp hk).1
    have hlt : (ks.take n).length ≤ 24 := by rw [List.length_take]; omega
    have hcl := cnt_len (ks.take n)
    refine ag_tup rfl ?_
    refine ags_cons (ag_name ?_)
    refine ags_cons (ag_name ?_)
    refine ags_cons (ag_name ?_)
    refine ags_nil ?_
    walk_at "al"
    refine as_dput ?_
    walk_at "al"
    refine ae_dget2 ?_
    walk_at "al"
    refine ⟨_, .inr ⟨0, m, rfl, rfl⟩, ?_⟩
    walk_at "al"
    refine ⟨kS k.2.1, rfl, .inr ⟨0, m, rfl, rfl⟩, ?_⟩
    rw [valD_cnt k.2.1 .non]
    walk_at "al"
    refine ⟨0, m, _, kS k.2.1, rfl, rfl, rfl, by unfold cntD; rw [List.length_map]; omega, ?_⟩
    rw [put_cnt]
    walk_at "al"
    have hl2 := setC_len (cntF (ks.take n)) k.2.1 (valC (cntF (ks.take n)) k.2.1 + 1)
    refine as_dput ?_
    walk_at "al"
    refine ae_dget2 ?_
    walk_at "al"
    refine ⟨_, .inr ⟨0, m, rfl, rfl⟩, ?_⟩
    walk_at "al"
    refine ⟨kS k.2.2, rfl, .inr ⟨0, m, rfl, rfl⟩, ?_⟩
    rw [valD_cnt k.2.2 .non]
    walk_at "al"
    refine ⟨0, m, _, kS k.2.2, rfl, rfl, rfl, by unfold cntD; rw [List.length_map]; omega, ?_⟩
    rw [put_cnt]
    refine ⟨?_, _, _, _, rfl⟩
    rw [cnt_take hk]
    rfl
  · rintro F1 ms1 S1 e1 ⟨rfl, a, b, c, rfl⟩
    rw [List.length_map, List.take_length]
    have hcl := cnt_len ks
    walk_at "al"
    refine ae_dropm ?_
    refine ae_lock 0 rfl fun od vs rk => ?_
    refine ae_dc (gw_tup (gws_cons gm_name (gw_name (by simp)) (gws_cons gm_name (gw_name (by simp)) gws_nil))) (gm_tup (gms_cons gm_name (gms_cons gm_name gms_nil))) ?_
    refine ai_items ?_
    walk_at "al"
    refine ⟨m, od, vs, _, 0, rfl, rfl, rk, ?_⟩
    refine ⟨fun i F' ms' acc => ms' = (m, .raw (.frz od (.dK vs))) :: ms ∧ acc = cntD (((cntF ks).take i).filter fun p => decide (p.2 > 0) && !decide (p.1 = 32)), ⟨rfl, rfl⟩, ?_, ?_, ?_⟩
    · rintro i F' ms' acc e' ⟨rfl, rfl⟩
      exact ⟨0, rfl⟩
    · rintro i d F2 ms2 acc e2 hd ⟨rfl, rfl⟩ F3 e3
      have hp : ∃ p : Nat × Int, (cntF ks)[i]? = some p ∧ d = .tup [.str (sg p.1), .int p.2] := by
        unfold itemsD cntD at hd
        rw [List.map_map, List.getElem?_map] at hd
        cases e : (cntF ks)[i]? with
        | none => rw [e] at hd; cases hd
        | some p => rw [e] at hd; exact ⟨p, rfl, (Option.some.inj hd).symm⟩
      obtain ⟨p, hp, rfl⟩ := hp
      refine ag_tup rfl ?_
      refine ags_cons (ag_name ?_)
      refine ags_cons (ag_name ?_)
      refine ags_nil ?_
      have hft := List.length_filter_le (fun p : Nat × Int => decide (p.2 > 0) && !decide (p.1 = 32)) ((cntF ks).take i)
      have hft2 : ((cntF ks).take i).length ≤ 48 := by rw [List.length_take]; omega
      have fin : ∀ b : Bool, b = (decide (p.2 > 0) && !decide (p.1 = 32)) → (((cntF ks).take (i + 1)).filter fun p => decide (p.2 > 0) && !decide (p.1 = 32)) = if b = true then setC (((cntF ks).take i).filter fun p => decide (p.2 > 0) && !decide (p.1 = 32)) p.1 p.2 else ((cntF ks).take i).filter fun p => decide (p.2 > 0) && !decide (p.1 = 32) := by
        intro b hb
        rw [List.take_succ, hp, List.filter_append]
        cases b with
        | false => simp [← hb]
        | true =>
          rw [if_pos rfl, setC_new]
          · simp [← hb]
          · intro r hr e
            have hr := (List.mem_filter.mp hr).1
            exact nd_take (cnt_nd ks) hp r hr e
      have s32 : decide (sg p.1 = Str.ofString " ") = decide (p.1 = 32) := by
        by_cases e : p.1 = 32
        · rw [e]; rfl
        · rw [decide_eq_false e, decide_eq_false]
          intro h
          rw [← show sg 32 = Str.ofString " " from rfl] at h
          exact e (by simpa [sg] using congrArg Str.cps h)
      walk_at "al"
      refine ⟨fun hb => ?_, fun hb => ⟨fun z => Bool.noConfusion z, fun _ => ?_⟩⟩
      · walk_at "al"
        refine ⟨fun hb2 => ?_, fun hb2 => ?_⟩
        · walk_at "al"
          refine ⟨kS p.1, rfl, ?_⟩
          walk_at "al"
          refine ⟨by unfold cntD; rw [List.length_map]; omega, rfl, ?_⟩
          rw [put_cnt]
          have := fin true (by rw [show decide (p.2 > 0) = true from hb, ← s32, hb2]; rfl)
          rw [if_pos rfl] at this
          rw [this]
        · refine ⟨rfl, ?_⟩
          have := fin false (by rw [show decide (p.2 > 0) = true from hb, ← s32, hb2]; rfl)
          rw [if_neg (by decide)] at this
          rw [this]
      · refine ⟨rfl, ?_⟩
        have := fin false (by rw [show decide (p.2 > 0) = false from hb]; rfl)
        rw [if_neg (by decide)] at this
        rw [this]
    · rintro F2 ms2 acc e2 ⟨rfl, rfl⟩ l
      refine ⟨1, rfl, 1, by simp, ?_⟩
      have := q F2 l (e1.trans e2)
      have hl : (itemsD (cntD (cntF ks))).length = (cntF ks).length := by unfold itemsD cntD; rw [List.length_map, List.length_map]
      rw [hl, List.take_length]
      exact this
end

theorem row_lt {w : Int} {z : Str} (h : okRow w z) (i : Nat) : z.cps.toList.getD i 0 < 128 := by
  rw [List.getD_eq_getElem?_getD]
  cases e : z.cps.toList[i]? with
  | none => show 0 < 128; decide
  | some c =>
    show c < 128
    rcases h.2 c (List.mem_of_getElem? e) with r | r
    · rw [r]; decide
    · exact inL_lt r
theorem pc_lt {ps : List Pr} (h : ∀ c ∈ flat ps, inL c) {c : Nat} (hc : c < 128) : pc ps c < 128 := by
  unfold pc
  cases e : ps.find? (fun p => c = p.1 ∨ c = p.2) with
  | none => exact hc
  | some p =>
    have hp := List.mem_of_find?_eq_some e
    have : p.1 < 128 := inL_lt (h p.1 (List.mem_flatMap.mpr ⟨p, hp, by simp⟩))
    show min p.1 p.2 < 128
    omega
theorem links_lt {ps : List Pr} {w : Int} {b a : Str} (h : ∀ c ∈ flat ps, inL c) (hb : okRow w b) (ha : okRow w a) (n : Nat) : ∀ k ∈ linksF ps b.cps.toList a.cps.toList n, k.2.1 < 128 ∧ k.2.2 < 128 := by
  intro k hk
  unfold linksF at hk
  obtain ⟨i, _, hi⟩ := List.mem_filterMap.mp hk
  unfold lkAt at hi
  split at hi
  · cases hi
  · cases hi
    exact ⟨pc_lt h (row_lt hb i), pc_lt h (row_lt ha i)⟩
theorem tog_mem {k : Lk} {f : List (List Lk)} {x : Lk} (h : x ∈ togF k f) : x = k ∨ x ∈ f.flatten := by
  have gen : ∀ (l : List (List Lk)) (t : List Lk), x ∈ l.foldl (fun t g => g ++ t) t → x ∈ t ∨ x ∈ l.flatten := by
    intro l
    induction l with
    | nil => intro t h; exact .inl h
    | cons g l ih =>
      intro t h
      rw [List.foldl_cons] at h
      rcases ih _ h with r | r
      · rcases List.mem_append.mp r with r | r
        · exact .inr (by rw [List.flatten_cons]; exact List.mem_append_left _ r)
        · exact .inl r
      · exact .inr (by rw [List.flatten_cons]; exact List.mem_append_right _ r)
  rcases gen _ _ h with r | r
  · exact .inl (by simpa using r)
  · obtain ⟨g, hg, hx⟩ := List.mem_flatten.mp r
    exact .inr (List.mem_flatten.mpr ⟨g, (List.mem_filter.mp hg).1, hx⟩)
theorem groups_mem (ks : List Lk) {x : Lk} (h : x ∈ (groupsF ks).flatten) : x ∈ ks := by
  have gen : ∀ (ks : List Lk) (f : List (List Lk)), x ∈ (ks.foldl stepG f).flatten → x ∈ f.flatten ∨ x ∈ ks := by
    intro ks
    induction ks with
    | nil => intro f h; exact .inl h
    | cons k ks ih =>
      intro f h
      rcases ih _ h with r | r
      · unfold stepG at r
        rw [List.flatten_append] at r
        rcases List.mem_append.mp r with r | r
        · obtain ⟨g, hg, hx⟩ := List.mem_flatten.mp r
          exact .inl (List.mem_flatten.mpr ⟨g, (List.mem_filter.mp hg).1, hx⟩)
        · have r : x ∈ togF k f := by simpa using r
          rcases tog_mem r with r | r
          · exact .inr (by rw [r]; exact List.mem_cons_self ..)
          · exact .inl r
      · exact .inr (List.mem_cons_of_mem _ r)
  rcases gen ks [] h with r | r
  · cases r
  · exact r
section
variable {P : Program} {w : World} {K : Frg} {mg : Str → Option Value} {base : Heap}
theorem ok_cost (T : Txt K mg) (G_Sign_piece : OK_Sign_piece P w base T) (G_links : OK_links P w base T) (G_surplus : OK_surplus P w base T) (G_groups : OK_groups P w base T) (G_is_closed : OK_is_closed P w base T) : OK_cost P w base T := by
  refine fn_ok T.F_cost sc_cost (by rintro _ _ _ _ _ ⟨x, wd, ps, b, a, rfl, _⟩; rfl) (fun cdv A outer s H E hr => ?_)
  have hu64 := hr.units
  refine ⟨_, (pss_cons (ps_set (i := 3) sc_cost.nd rfl (by first | exact Or.inl rfl | exact Or.inr rfl) (pe_call G_links (hr.mono (by first | decide | omega)) (by rfl) T.m_links T.F_links.kp T.b_links .nil pass0 (pa_cons (pv 0) (pa_cons (pv 1) (pa_cons (pv 2) pa_nil)))))
      (pss_cons (ps_set (i := 4) sc_cost.nd rfl (by first | exact Or.inl rfl | exact Or.inr rfl) (pe_callB (kLEN (K := K) rfl) (by rfl) T.g_len boot_len (pa_cons (pe_lc rfl sc_cost.nd (pi_listk (K := K) rfl (pv 3)) (own := [("place", 5), ("old", 6), ("new", 7)]) (@BlkOk.mk N_cost (defScope s_cost) _ _ rfl (by decide +kernel) (by decide +kernel) (by decide +kernel) (by decide +kernel)) (fun _ _ _ _ _ => (pg_tupk (K := K) (n := 3) rfl rfl (pgs_cons (pg_name (i := 5) sc_cost.nd rfl (by first | exact Or.inl rfl | exact Or.inr rfl)) (pgs_cons (pg_name (i := 6) sc_cost.nd rfl (by first | exact Or.inl rfl | exact Or.inr rfl)) (pgs_cons (pg_name (i := 7) sc_cost.nd rfl (by first | exact Or.inl rfl | exact Or.inr rfl)) pgs_nil))))) (fun _ _ _ _ _ => (pts_one (pt_cmpR (kNE (K := K) rfl hu64) (pv 7) (pe_glob (by rfl) T.m_BLANK T.r_BLANK) (nomark _)))) (fun _ _ _ _ _ => (pv 7))) pa_nil)))
      (pss_cons (ps_set (i := 8) sc_cost.nd rfl (by first | exact Or.inl rfl | exact Or.inr rfl) (pe_callB (kLEN (K := K) rfl) (by rfl) T.g_len boot_len (pa_cons (pe_lc rfl sc_cost.nd (pi_listk (K := K) rfl (pe_call G_groups (hr.mono (by first | decide | omega)) (by rfl) T.m_groups T.F_groups.kp T.b_groups .nil pass0 (pa_cons (pv 3) pa_nil))) (own := [("group", 9)]) (@BlkOk.mk N_cost (defScope s_cost) _ _ rfl (by decide +kernel) (by decide +kernel) (by decide +kernel) (by decide +kernel)) (fun _ _ _ _ _ => (pg_name (i := 9) sc_cost.nd rfl (by first | exact Or.inl rfl | exact Or.inr rfl))) (fun _ _ _ _ _ => (pts_one (pt_val (pe_call G_is_closed (hr.mono (by first | decide | omega)) (by rfl) T.m_is_closed T.F_is_closed.kp T.b_is_closed .nil pass0 (pa_cons (pv 9) pa_nil))))) (fun _ _ _ _ _ => (pv 9))) pa_nil)))
      (pss_cons (ps_set (i := 10) sc_cost.nd rfl (by first | exact Or.inl rfl | exact Or.inr rfl) pe_int)
      (pss_cons (ps_for PassesOwn.never rfl (pi_zipS (by rfl) T.g_zip (pa_cons (pv 1) (pa_cons (pv 2) pa_nil))) (pg_tupk (K := K) (n := 2) rfl rfl (pgs_cons (pg_name (i := 6) sc_cost.nd rfl (by first | exact Or.inl rfl | exact Or.inr rfl)) (pgs_cons (pg_name (i := 7) sc_cost.nd rfl (by first | exact Or.inl rfl | exact Or.inr rfl)) pgs_nil))) (pss_one (ps_aug (i := 10) sc_cost.nd rfl (by first | exact Or.inl rfl | exact Or.inr rfl) (pe_callTy call_INT (by rfl) T.g_int boot_int (pa_cons (pe_and (pe_cmpR (kNE (K := K) rfl hu64) (pv 6) (pv 7) (nomark _)) (pe_one (pe_cmpR (kEQ (K := K) rfl hu64) (pe_meth (pv 0) T.k_Sign T.Me_Sign_piece G_Sign_piece (hr.mono (by first | decide | omega)) T.b_Sign_piece .nil pass0 (pa_cons (pv 6) pa_nil)) (pe_meth (pv 0) T.k_Sign T.Me_Sign_piece G_Sign_piece (hr.mono (by first | decide | omega)) T.b_Sign_piece .nil pass0 (pa_cons (pv 7) pa_nil)) (nomark _)))) pa_nil)) ip_add)))
      (pss_one (ps_ret (pe_tup (pa_cons (pe_op (kADD (K := K) rfl) (pe_op (kADD (K := K) rfl) (pv 4) (pe_sumVals rfl (by rfl) T.g_sum (pe_call G_surplus (hr.mono (by first | decide | omega)) (by rfl) T.m_surplus T.F_surplus.kp T.b_surplus .nil pass0 (pa_cons (pv 3) pa_nil)))) (pv 8)) (pa_cons (pv 10) pa_nil)))))))))), ?_⟩
  rintro _ F ms Q Ea ⟨x, wd, ps, b, a, rfl, hS, hw0, hw24, hin, hb, ha, q⟩
  walk_at "al"
  refine ⟨x, wd, ps, b, a, rfl, hS, hw0, hw24, hb.1, ha.1, fun F1 e1 => ?_⟩
  generalize hks : linksF ps b.cps.toList a.cps.toList wd.toNat = ks
  have hk24 : ks.length ≤ 24 := by
    rw [← hks]
    have := links_len ps b.cps.toList a.cps.toList wd.toNat
    omega
  walk_at "al"
  refine ae_lc (gw_tup (gws_cons gm_name (gw_name (by simp)) (gws_cons gm_name (gw_name (by simp)) (gws_cons gm_name (gw_name (by simp)) gws_nil)))) (gm_tup (gms_cons gm_name (gms_cons gm_name (gms_cons gm_name gms_nil)))) ?_
  refine ai_list ?_
  walk_at "al"
  refine .inl ⟨_, .inl rfl, fun n F' ms' acc => ms' = ms ∧ acc = (((ks.take n).filter fun k => !decide (k.2.2 = 32)).map fun k => sg k.2.2).map D.str, ⟨rfl, rfl⟩, fun _ _ _ _ _ _ => trivial, ?_, ?_⟩
  · rintro n d F2 ms1 acc e2 hd ⟨rfl, rfl⟩ F3 e3
    obtain ⟨k1, hk, rfl⟩ := links_at hd
    have hn : n < ks.length := (List.getElem?_eq_some_iff.mp hk).1
    refine ag_tup rfl ?_
    refine ags_cons (ag_name ?_)
    refine ags_cons (ag_name ?_)
    refine ags_cons (ag_name ?_)
    refine ags_nil ?_
    have hfl := List.length_filter_le (fun k : Lk => !decide (k.2.2 = 32)) (ks.take n)
    have hf2 : (ks.take n).length ≤ 24 := by rw [List.length_take]; omega
    walk_at "al"
    refine ⟨fun hb => ?_, fun hb => ?_⟩
    · have h32 : k1.2.2 ≠ 32 := fun z => by
        rw [z] at hb
        simp [show sg 32 = Str.ofString " " from rfl] at hb
      walk_at "al"
      refine ⟨by rw [List.length_map, List.length_map]; omega, rfl, ?_⟩
      rw [List.take_succ, hk, List.filter_append, List.map_append, List.map_append]
      simp [h32]
    · have h32 : k1.2.2 = 32 := by
        have hb := of_decide_eq_true (by simpa using hb : decide (sg k1.2.2 = Str.ofString " ") = true)
        rw [← show sg 32 = Str.ofString " " from rfl] at hb
        simpa [sg] using congrArg Str.cps hb
      refine ⟨rfl, ?_⟩
      rw [List.take_succ, hk, List.filter_append]
      simp [h32]
  rintro F2 ms1 acc e2 ⟨rfl, rfl⟩ F3 e3
  rw [List.length_map, List.take_length]
  have hfl := List.length_filter_le (fun k : Lk => !decide (k.2.2 = 32)) ks
  walk_at "al"
  rw [List.length_map, List.length_map]
  obtain ⟨gl1, gl2⟩ := groups_len ks
  have klt := links_lt hin hb ha wd.toNat
  rw [hks] at klt
  refine ae_lc (gw_name (by simp)) gm_name ?_
  refine ai_list ?_
  walk_at "al"
  refine ⟨ks, rfl, hk24, fun F4 e4 => ?_⟩
  refine .inl ⟨_, .inl rfl, fun n F' ms' acc => ms' = ms1 ∧ acc = (((groupsF ks).take n).filter closedF).map gD, ⟨rfl, rfl⟩, fun _ _ _ _ _ _ => trivial, ?_, ?_⟩
  · rintro n d F5 ms1 acc e5 hd ⟨rfl, rfl⟩ F6 e6
    obtain ⟨g, hg, rfl⟩ := gd_at hd
    have hgm := List.mem_of_getElem? hg
    have hgl := mem_flat_len hg
    refine ag_name ?_
    have hfl := List.length_filter_le closedF ((groupsF ks).take n)
    have hf2 : ((groupsF ks).take n).length ≤ 24 := by rw [List.length_take]; omega
    walk_at "al"
    refine ⟨g, rfl, by omega, fun k hk => klt k (groups_mem ks (List.mem_flatten.mpr ⟨g, hgm, hk⟩)), fun F7 e7 => ?_⟩
    walk_at "al"
    have tk : (((groupsF ks).take (n + 1)).filter closedF) = if closedF g = true then ((groupsF ks).take n).filter closedF ++ [g] else ((groupsF ks).take n).filter closedF := by
      rw [List.take_succ, hg, List.filter_append]
      cases h : closedF g with
      | true => simp [h]
      | false => simp [h]
    refine ⟨fun hc => ?_, fun hc => ?_⟩
    · rw [if_pos hc] at tk
      walk_at "al"
      refine ⟨by rw [List.length_map]; omega, rfl, ?_⟩
      rw [tk, List.map_append]
      rfl
    · rw [hc, if_neg (by decide)] at tk
      exact ⟨rfl, by rw [tk]⟩
  rintro F5 ms1 acc e5 ⟨rfl, rfl⟩ F6 e6
  rw [List.length_map, List.take_length]
  have hlb : (b.cps.toList).length = b.length := Array.length_toList
  have hla : (a.cps.toList).length = a.length := Array.length_toList
  have hb1 := hb.1
  have ha1 := ha.1
  have hcb : (charsD b).length = wd.toNat := by unfold charsD; rw [List.length_map]; omega
  have hca : (charsD a).length = wd.toNat := by unfold charsD; rw [List.length_map]; omega
  walk_at "al"
  rw [List.length_map]
  refine as_for ?_
  refine ai_zipS ?_
  walk_at "al"
  refine ⟨b, a, rfl, by omega, ?_⟩
  refine ⟨fun n F' ms' S' => ms' = ms1 ∧ ∃ u v, S' = [some (.ref x), some (.str b), some (.str a), some (.lst (ks.map lD)), some (.int ((ks.filter fun k => !decide (k.2.2 = 32)).length : Int)), none, u, v, some (.int (((groupsF ks).filter closedF).length : Int)), none, some (.int (turnedF ps b.cps.toList a.cps.toList n))], ⟨rfl, none, none, rfl⟩, fun _ _ _ _ _ _ => trivial, ?_, ?_⟩
  · rintro n d F7 ms7 S7 e7 hd ⟨rfl, u, v, rfl⟩ F8 e8
    have hn : n < wd.toNat := by
      have := (List.getElem?_eq_some_iff.mp hd).1
      rw [zipD_len (by omega)] at this
      omega
    have hnb : b.cps.toList[n]? = some (b.cps.toList.getD n 0) := by rw [List.getD_eq_getElem?_getD, List.getElem?_eq_getElem (by omega)]; rfl
    have hna : a.cps.toList[n]? = some (a.cps.toList.getD n 0) := by rw [List.getD_eq_getElem?_getD, List.getElem?_eq_getElem (by omega)]; rfl
    have hz := zipD_get (xs := charsD b) (ys := charsD a) (i := n) (d := .str (sg (b.cps.toList.getD n 0))) (e := .str (sg (a.cps.toList.getD n 0))) (by unfold charsD; rw [List.getElem?_map, hnb]; rfl) (by unfold charsD; rw [List.getElem?_map, hna]; rfl)
    rw [hz] at hd
    cases hd
    generalize hcc : b.cps.toList.getD n 0 = c at hz
    generalize hdd : a.cps.toList.getD n 0 = d at hz
    obtain ⟨i, j, m, hi, hj⟩ := hS
    have fin : turnedF ps b.cps.toList a.cps.toList (n + 1) = turnedF ps b.cps.toList a.cps.toList n + (if (decide (c ≠ d) && decide (pc ps c = pc ps d)) = true then 1 else 0) := by
      unfold turnedF
      rw [List.range_succ, List.filter_append, List.length_append]
      rw [Int.natCast_add]
      congr 1
      rw [List.filter_cons, hcc, hdd, List.filter_nil]
      by_cases h : (decide (c ≠ d) && decide (pc ps c = pc ps d)) = true
      · rw [if_pos h, if_pos h]; rfl
      · rw [if_neg h, if_neg h]; rfl
    refine ag_tup rfl ?_
    refine ags_cons (ag_name ?_)
    refine ags_cons (ag_name ?_)
    refine ags_nil ?_
    walk_at "al"
    refine as_aug rfl ?_
    walk_at "al"
    refine ⟨fun hb => ?_, fun hb => ?_⟩
    · have hne : c ≠ d := fun z => by
        rw [z] at hb
        simp at hb
      walk_at "al"
      refine ae_meth ?_
      walk_at "al"
      refine ⟨x, fldS m wd ps, rfl, .inr ⟨i, hi⟩, fld_no (by decide +kernel) (by decide +kernel) (by decide +kernel), ?_⟩
      walk_at "al"
      refine ⟨x, wd, ps, _, rfl, ⟨i, j, m, hi, hj⟩, ?_⟩
      rw [pieceS_pc]
      walk_at "al"
      refine ae_meth ?_
      walk_at "al"
      refine ⟨x, fldS m wd ps, rfl, .inr ⟨i, hi⟩, fld_no (by decide +kernel) (by decide +kernel) (by decide +kernel), ?_⟩
      walk_at "al"
      refine ⟨x, wd, ps, _, rfl, ⟨i, j, m, hi, hj⟩, ?_⟩
      rw [pieceS_pc]
      walk_at "al"
      refine ac_intB ?_
      refine ⟨_, rfl, rfl, some (.str (sg c)), some (.str (sg d)), ?_⟩
      rw [fin, decide_eq_true hne, Bool.true_and, ← decide_eq_decide.mpr (sg_inj (a := pc ps c) (b := pc ps d))]
      rfl
    · have he : c = d := by
        have hb := of_decide_eq_true (by simpa using hb : decide (sg c = sg d) = true)
        exact sg_inj.mp hb
      walk_at "al"
      refine ac_intB ?_
      refine ⟨_, rfl, rfl, some (.str (sg c)), some (.str (sg d)), ?_⟩
      rw [fin, decide_eq_false (fun z => z he), Bool.false_and]
      rfl
  · rintro F7 ms7 S7 e7 ⟨rfl, u, v, rfl⟩
    rw [zipD_len (by omega), hcb]
    walk_at "al"
    refine ae_tup ?_
    walk_at "al"
    refine ae_sumVals (ae_frzd ?_)
    walk_at "al"
    refine ⟨ks, rfl, hk24, fun F80 l8 e80 => ⟨0, l8, _, rfl, rfl, fun F8 e81 => ?_⟩⟩
    have e8 := Ex.trans e80 e81
    refine ⟨cntD (surF ks), (surF ks).map (·.2), .inl rfl, by unfold cntD; rw [List.map_map, List.map_map]; rfl, ?_⟩
    walk_at "al"
    refine ⟨by simp, fun F9 e9 => ?_⟩
    have := q F9 (by exact e1.trans (e2.trans (e3.trans (e4.trans (e5.trans (e6.trans (e7.trans (e8.trans e9))))))))
    unfold costD carriedF at this
    rw [hks] at this
    exact this
end

section
variable {P : Program} {w : World} {K : Frg} {mg : Str → Option Value} {base : Heap}
end

theorem ints_at' {os : List Int} {n : Nat} {d : D} (h : (os.map D.int)[n]? = some d) : ∃ o, os[n]? = some o ∧ d = .int o := by
  rw [List.getElem?_map] at h
  cases e : os[n]? with
  | none => rw [e] at h; cases h
  | some p => rw [e] at h; exact ⟨p, rfl, (Option.some.inj h).symm⟩
section
variable {P : Program} {w : World} {K : Frg} {mg : Str → Option Value} {base : Heap}
theorem ok_check_offsets (T : Txt K mg) (G_is_int_in : OK_is_int_in P w base T) : OK_check_offsets P w base T := by
  refine fn_ok T.F_check_offsets sc_check_offsets (by rintro _ _ _ _ _ ⟨x, w, ps, ts, os, rfl, _⟩; rfl) (fun cdv A outer s H E hr => ?_)
  have hu64 := hr.units
  refine ⟨_, (pss_cons (ps_if (pt_not (pt_val (pe_callB (kISI (K := K) rfl) (by rfl) T.g_isinstance boot_isinstance (pa_cons (pv 2) (pa_cons (pe_bltn (v := .ty "tuple") (by rfl) T.g_tuple boot_tuple rfl) pa_nil))))) (pss_one ps_never) pss_nil)
      (pss_cons (ps_for PassesOwn.never rfl (pi_enumA (by rfl) T.g_enumerate (pa_cons (pv 2) pa_nil)) (pg_tup rfl (pgs_cons (pg_name (i := 3) sc_check_offsets.nd rfl (by first | exact Or.inl rfl | exact Or.inr rfl)) (pgs_cons (pg_name (i := 4) sc_check_offsets.nd rfl (by first | exact Or.inl rfl | exact Or.inr rfl)) pgs_nil))) (pss_one (ps_if ((pw_or (pt_cmpR (kEQ (K := K) rfl hu64) (pv 3) (pe_callB (kLEN (K := K) rfl) (by rfl) T.g_len boot_len (pa_cons (pv 1) pa_nil)) (nomark _)) (pw_or1 (pt_not (pt_val (pe_call G_is_int_in (hr.mono (by first | decide | omega)) (by rfl) T.m_is_int_in T.F_is_int_in.kp T.b_is_int_in .nil pass0 (pa_cons (pv 4) (pa_cons pe_int (pa_cons (pe_op op_sub (pe_fldk (K := K) rfl (pv 0) (by rfl)) (pe_callB (kLEN (K := K) rfl) (by rfl) T.g_len boot_len (pa_cons (pe_ix (kIX (K := K) rfl) (pv 1) (pv 3) (fun _ _ => rfl)) pa_nil))) pa_nil))))))))).pt (pss_one ps_never) pss_nil)))
      (pss_one (ps_if (pt_cmpR op_lt (pe_callB (kLEN (K := K) rfl) (by rfl) T.g_len boot_len (pa_cons (pv 2) pa_nil)) (pe_callB (kLEN (K := K) rfl) (by rfl) T.g_len boot_len (pa_cons (pv 1) pa_nil)) (nomark _)) (pss_one ps_never) pss_nil)))), ?_⟩
  rintro _ F ms Q Ea ⟨x, w, ps, ts, os, rfl, hS, hw, t2, ht, hO, q⟩
  obtain ⟨i, j, m, hi, hj⟩ := id hS
  have hl := hO.1
  walk_at "al"
  refine as_for ?_
  refine ai_enum ?_
  walk_at "al"
  refine .inr (.inl ⟨_, rfl, fun i F' ms' S' => ms' = ms ∧ ∃ a b, S' = [some (.ref x), some (.tup (ts.map D.str)), some (.tup (os.map D.int)), a, b], ⟨rfl, none, none, rfl⟩, fun _ _ _ _ _ _ => trivial, ?_, ?_⟩)
  · rintro n d F' ms' S' e hd ⟨rfl, a, b, rfl⟩ F'' e''
    obtain ⟨_, h1, rfl⟩ := enum_at hd
    obtain ⟨o, ho, rfl⟩ : ∃ o, os[n]? = some o ∧ _ = D.int o := by
      rw [List.getElem?_map] at h1
      cases e : os[n]? with
      | none => rw [e] at h1; cases h1
      | some p => rw [e] at h1; exact ⟨p, rfl, (Option.some.inj h1).symm⟩
    have hn : n < ts.length := by
      have := (List.getElem?_eq_some_iff.mp ho).1
      omega
    have ht1 : ts[n]? = some ts[n] := List.getElem?_eq_getElem hn
    obtain ⟨o1, o2⟩ := hO.2 n _ _ ht1 ho
    obtain ⟨g1, g2, _⟩ := ht _ (List.getElem_mem hn)
    refine ag_tup rfl ?_
    refine ags_cons (ag_name ?_)
    refine ags_cons (ag_name ?_)
    refine ags_nil ?_
    walk_at "al"
    rw [List.length_map]
    refine and_dF' (by omega) ?_
    walk_at "al"
    refine ae_fld ?_
    walk_at "al"
    refine ⟨x, T.c_Sign, fldS m w ps, .int w, rfl, .inr ⟨i, hi⟩, T.k_Sign, T.n_Sign_width, rfl, ?_⟩
    walk_at "al"
    refine ar_ixT (d := .str ts[n]) (atI_of (j := n) rfl (by rw [List.getElem?_map, ht1]; rfl)) ?_
    walk_at "al"
    refine ac_lenS (z := ts[n]) (by omega) ?_
    walk_at "al"
    refine ⟨o, 0, _, rfl, ?_⟩
    rw [decide_eq_true o1, decide_eq_true (by omega : o ≤ w - (ts[n].length : Int))]
    walk_at "al"
    refine and_nT ?_
    walk_at "al"
    exact ⟨rfl, _, _, rfl⟩
  · rintro F' ms' S' e ⟨rfl, a, b, rfl⟩
    walk_at "al"
    rw [List.length_map, List.length_map]
    refine and_dF (by omega) ?_
    walk_at "al"
    exact q _ e
end

theorem mulS_all (n : Int) : ∀ c ∈ (mulS sp1 n).cps.toList, c = 32 := by
  intro c hc
  have hc : c ∈ (List.replicate n.toNat [32]).flatten := hc
  obtain ⟨l, hl, hc⟩ := List.mem_flatten.mp hc
  rw [List.eq_of_mem_replicate hl] at hc
  simpa using hc
theorem cps_app (a b : Str) : (a ++ b).cps.toList = a.cps.toList ++ b.cps.toList := Array.toList_append ..
theorem blank_ok {w : Int} (h : 0 ≤ w) : okRow w (mulS sp1 w) := ⟨by rw [mulS_len1]; omega, fun c hc => .inl (mulS_all w c hc)⟩
theorem shown_ok {w o : Int} {t : Str} (ht : textOk w t) (h0 : 0 ≤ o) (h1 : o + (t.length : Int) ≤ w) : okRow w (shown w t o) := by
  refine ⟨?_, fun c hc => ?_⟩
  · unfold shown
    rw [str_len_add, str_len_add, mulS_len1, mulS_len1]
    omega
  · unfold shown at hc
    rw [cps_app, cps_app] at hc
    rcases List.mem_append.mp hc with hc | hc
    · rcases List.mem_append.mp hc with hc | hc
      · exact .inl (mulS_all _ c hc)
      · exact ht.2.2.1 c hc
    · exact .inl (mulS_all _ c hc)
theorem layK_get : ∀ (L : Lay) (n i : Nat), (layK n L)[i]? = (L[i]?).map fun v => ((.inl ((n + i : Nat) : Int) : Key), vD v)
  | [], n, i => by simp [layK]
  | v :: L, n, 0 => by simp [layK]
  | v :: L, n, i + 1 => by
    unfold layK
    rw [List.getElem?_cons_succ, layK_get L (n + 1) i, List.getElem?_cons_succ, show n + 1 + i = n + (i + 1) by omega]
theorem layK_len : ∀ (L : Lay) (n : Nat), (layK n L).length = L.length
  | [], _ => rfl
  | v :: L, n => by unfold layK; rw [List.length_cons, List.length_cons, layK_len L]
theorem layK_app : ∀ (L : Lay) (n : Nat) (v : Cst × Int), layK n (L ++ [v]) = layK n L ++ [(.inl ((n + L.length : Nat) : Int), vD v)]
  | [], n, v => rfl
  | u :: L, n, v => by
    show (_, _) :: layK (n + 1) (L ++ [v]) = (_, _) :: (layK (n + 1) L ++ _)
    rw [layK_app L (n + 1) v, List.length_cons, show n + 1 + L.length = n + (L.length + 1) by omega]
theorem put_lay {L : Lay} {i : Nat} (h : L.length = i) (v : Cst × Int) : putKD (layK 0 L) (.inl (i : Int)) (vD v) = layK 0 (L ++ [v]) := by
  unfold putKD
  rw [if_neg, layK_app, Nat.zero_add, h]
  intro hh
  obtain ⟨kv, hm, hk⟩ := List.any_eq_true.mp hh
  obtain ⟨j, hj⟩ := List.getElem?_of_mem hm
  have hjl := (List.getElem?_eq_some_iff.mp hj).1
  rw [layK_len] at hjl
  rw [layK_get] at hj
  cases e : L[j]? with
  | none => rw [e] at hj; cases hj
  | some v =>
    rw [e] at hj
    cases hj
    have hk := of_decide_eq_true hk
    injection hk with hk
    omega
theorem tots_get {ps : List Pr} {w : Int} {row t : Str} {L : Lay} {i : Nat} {v : Cst × Int} (h : L[i]? = some v) : (tots ps w row t L)[i]? = some (addC (costP ps row (shown w t (i : Int)) w) v.1, v.2) := by
  unfold tots
  rw [List.getElem?_map, List.getElem?_zipIdx, h]
  simp
theorem tots_len {ps : List Pr} {w : Int} {row t : Str} {L : Lay} : (tots ps w row t L).length = L.length := by
  unfold tots
  rw [List.length_map, List.length_zipIdx]
theorem fold_some : ∀ (L : Lay) (b : Cst) (y : Int), ∃ c, (L.foldl stepB (some b, y)).1 = some c
  | [], b, y => ⟨b, rfl⟩
  | v :: L, b, y => by
    rw [List.foldl_cons]
    show ∃ c, (L.foldl stepB (if ltC v.1 b = true then (some v.1, v.2) else if v.1 = b then (some b, y + v.2) else (some b, y))).1 = some c
    split
    · exact fold_some L _ _
    · split
      · exact fold_some L _ _
      · exact fold_some L _ _
theorem best_some {ps : List Pr} {w : Int} {row t : Str} {L : Lay} (h : L ≠ []) : ∃ c, (bestF ps w row t L).1 = some c := by
  unfold bestF
  cases e : tots ps w row t L with
  | nil =>
    have := tots_len (ps := ps) (w := w) (row := row) (t := t) (L := L)
    rw [e] at this
    exact absurd (List.length_eq_zero_iff.mp this.symm) h
  | cons v r => exact fold_some r _ _
theorem lex_lt (a b : Cst) : HT.lexLt [a.1, a.2] [b.1, b.2] = ltC a b := by
  unfold ltC
  show (if a.1 = b.1 then (if a.2 = b.2 then HT.lexLt [] [] else decide (a.2 < b.2)) else decide (a.1 < b.1)) = _
  by_cases h1 : a.1 = b.1
  · rw [if_pos h1, if_pos h1]
    by_cases h2 : a.2 = b.2
    · rw [if_pos h2, h2]
      simp [HT.lexLt]
    · rw [if_neg h2]
  · rw [if_neg h1, if_neg h1]
theorem eqv_cD (a b : Cst) : eqvD (cD a) (cD b) = decide (a = b) := by
  obtain ⟨a1, a2⟩ := a
  obtain ⟨b1, b2⟩ := b
  simp only [eqvD, cD, toPy, toPyL, PyData.eqv, PyData.eqvAll]
  by_cases h1 : a1 = b1 <;> by_cases h2 : a2 = b2 <;> simp [h1, h2]
theorem Sgn.setR {C : Addr} {ms : Ms} {x l : Addr} {w : Int} {ps : List Pr} {n : Nat} {L : Lay} {m' : MO} (hn : ms[n]? = some (l, .dic (layK 0 L))) (hL : L ≠ []) : Sgn C ms x w ps → Sgn C (ms.set n (l, m')) x w ps := fun ⟨i, j, m, h1, h2⟩ => by
  refine ⟨i, j, m, ?_, ?_⟩
  · rw [List.getElem?_set_ne]
    · exact h1
    · rintro rfl
      rw [hn] at h1
      cases h1
  · rw [List.getElem?_set_ne]
    · exact h2
    · rintro rfl
      rw [hn] at h2
      injection h2 with h2
      injection h2 with _ h2
      injection h2 with h2
      cases L with
      | nil => exact hL rfl
      | cons v L =>
        cases ps with
        | nil => cases h2
        | cons p ps =>
          injection h2 with h2 _
          injection h2 with h2 _
          cases h2
theorem offN_pos {w : Int} {t : Str} (h : textOk w t) : 1 ≤ offN w t ∧ (offN w t : Int) = w - t.length + 1 := by
  have := h.2.1
  unfold offN
  omega
section
variable {P : Program} {w : World} {K : Frg} {mg : Str → Option Value} {base : Heap}
theorem ok_Sign_blank (T : Txt K mg) : OK_Sign_blank P w base T := by
  refine fn_ok T.F_Sign_blank sc_Sign_blank (by rintro _ _ _ _ _ ⟨x, w, ps, rfl, _⟩; rfl) (fun cdv A outer s H E hr => ?_)
  have hu64 := hr.units
  refine ⟨_, (pss_one (ps_ret (pe_op (kMUL (K := K) rfl) (pe_glob (by rfl) T.m_BLANK T.r_BLANK) (pe_fldk (K := K) rfl (pv 0) (by rfl))))), ?_⟩
  rintro _ F ms Q Ea ⟨x, w, ps, rfl, ⟨i, j, m, hi, hj⟩, w0, w1, q⟩
  walk_at "al"
  refine ae_fld ?_
  walk_at "al"
  refine ⟨x, T.c_Sign, fldS m w ps, .int w, rfl, .inr ⟨i, hi⟩, T.k_Sign, T.n_Sign_width, rfl, ?_⟩
  refine ar_MULs (z := sp1) (by omega) (by omega) (by show 1 * w.toNat ≤ 100000; omega) ?_
  exact q
theorem ok_Sign_row_of (T : Txt K mg) : OK_Sign_row_of P w base T := by
  refine fn_ok T.F_Sign_row_of sc_Sign_row_of (by rintro _ _ _ _ _ ⟨x, w, ps, t, o, rfl, _⟩; rfl) (fun cdv A outer s H E hr => ?_)
  have hu64 := hr.units
  refine ⟨_, (pss_one (ps_ret (pe_op (kADD (K := K) rfl) (pe_op (kADD (K := K) rfl) (pe_op (kMUL (K := K) rfl) (pe_glob (by rfl) T.m_BLANK T.r_BLANK) (pv 2)) (pv 1)) (pe_op (kMUL (K := K) rfl) (pe_glob (by rfl) T.m_BLANK T.r_BLANK) (pe_op op_sub (pe_op op_sub (pe_fldk (K := K) rfl (pv 0) (by rfl)) (pv 2)) (pe_callB (kLEN (K := K) rfl) (by rfl) T.g_len boot_len (pa_cons (pv 1) pa_nil))))))), ?_⟩
  rintro _ F ms Q Ea ⟨x, w, ps, t, o, rfl, ⟨i, j, m, hi, hj⟩, w1, o0, ow, q⟩
  walk_at "al"
  refine ar_MULs (z := sp1) (by omega) (by omega) (by show 1 * o.toNat ≤ 100000; omega) ?_
  walk_at "al"
  have l1 := mulS_len1 o
  refine ar_ADDs (i := mulS sp1 o) (j := t) (by omega) ?_
  walk_at "al"
  refine ae_fld ?_
  walk_at "al"
  refine ⟨x, T.c_Sign, fldS m w ps, .int w, rfl, .inr ⟨i, hi⟩, T.k_Sign, T.n_Sign_width, rfl, ?_⟩
  walk_at "al"
  refine ac_lenS (z := t) (by omega) ?_
  walk_at "al"
  refine ar_MULs (z := sp1) (by omega) (by omega) (by show 1 * (w - o - t.length).toNat ≤ 100000; omega) ?_
  have l2 := mulS_len1 (w - o - t.length)
  refine ar_ADDs (by rw [str_len_add]; omega) ?_
  exact q
theorem ok_offsets_of (T : Txt K mg) : OK_offsets_of P w base T := by
  refine fn_ok T.F_offsets_of sc_offsets_of (by rintro _ _ _ _ _ ⟨x, w, ps, t, rfl, _⟩; rfl) (fun cdv A outer s H E hr => ?_)
  have hu64 := hr.units
  refine ⟨_, (pss_one (ps_ret (pe_listRg rfl (by rfl) T.g_list (prg_1 (by rfl) T.g_range (pe_op (kADD (K := K) rfl) (pe_op op_sub (pe_fldk (K := K) rfl (pv 0) (by rfl)) (pe_callB (kLEN (K := K) rfl) (by rfl) T.g_len boot_len (pa_cons (pv 1) pa_nil))) pe_int))))), ?_⟩
  rintro _ F ms Q Ea ⟨x, wd, ps, t, rfl, ⟨i, j, m, hi, hj⟩, w1, ht, q⟩
  have t2 := ht.2.1
  walk_at "al"
  refine ae_listRg1 ?_
  walk_at "al"
  refine ae_fld ?_
  walk_at "al"
  refine ⟨x, T.c_Sign, fldS m wd ps, .int wd, rfl, .inr ⟨i, hi⟩, T.k_Sign, T.n_Sign_width, rfl, ?_⟩
  walk_at "al"
  refine ac_lenS (z := t) (by omega) ?_
  walk_at "al"
  exact ⟨by omega, by omega, fun F2 e2 => q F2 e2⟩
theorem ok_add (T : Txt K mg) : OK_add P w base T := by
  refine fn_ok T.F_add sc_add (by rintro _ _ _ _ _ ⟨a, b, rfl, _⟩; rfl) (fun cdv A outer s H E hr => ?_)
  have hu64 := hr.units
  refine ⟨_, (pss_one (ps_ret (pe_tup (pa_cons (pe_op (kADD (K := K) rfl) (pe_ix (kIX (K := K) rfl) (pv 0) pe_int (fun _ _ => rfl)) (pe_ix (kIX (K := K) rfl) (pv 1) pe_int (fun _ _ => rfl))) (pa_cons (pe_op (kADD (K := K) rfl) (pe_ix (kIX (K := K) rfl) (pv 0) pe_int (fun _ _ => rfl)) (pe_ix (kIX (K := K) rfl) (pv 1) pe_int (fun _ _ => rfl))) pa_nil))))), ?_⟩
  rintro _ F ms Q Ea ⟨a, b, rfl, q⟩
  walk_at "al"
  refine ae_tup ?_
  walk_at "al"
  refine ar_ixT (d := .int a.1) rfl ?_
  walk_at "al"
  refine ar_ixT (d := .int b.1) rfl ?_
  walk_at "al"
  refine ar_ixT (d := .int a.2) rfl ?_
  walk_at "al"
  refine ar_ixT (d := .int b.2) rfl ?_
  walk_at "al"
  exact ⟨by simp, fun F1 e1 => q F1 e1⟩
theorem ok_fixed_cost (T : Txt K mg) (G_Sign_check_texts : OK_Sign_check_texts P w base T) (G_check_offsets : OK_check_offsets P w base T) (G_Sign_blank : OK_Sign_blank P w base T) (G_Sign_row_of : OK_Sign_row_of P w base T) (G_cost : OK_cost P w base T) (G_add : OK_add P w base T) : OK_fixed_cost P w base T := by
  refine fn_ok T.F_fixed_cost sc_fixed_cost (by rintro _ _ _ _ _ ⟨x, wd, ps, ts, os, rfl, _⟩; rfl) (fun cdv A outer s H E hr => ?_)
  have hu64 := hr.units
  refine ⟨_, (pss_cons (ps_expr (pe_meth (pv 0) T.k_Sign T.Me_Sign_check_texts G_Sign_check_texts (hr.mono (by first | decide | omega)) T.b_Sign_check_texts .nil pass0 (pa_cons (pv 1) pa_nil)))
      (pss_cons (ps_expr (pe_call G_check_offsets (hr.mono (by first | decide | omega)) (by rfl) T.m_check_offsets T.F_check_offsets.kp T.b_check_offsets .nil pass0 (pa_cons (pv 0) (pa_cons (pv 1) (pa_cons (pv 2) pa_nil)))))
      (pss_cons (ps_par (i := 3) (j := 4) rfl sc_fixed_cost.nd rfl rfl (by decide) rfl rfl (pa_cons (pe_tup (pa_cons pe_int (pa_cons pe_int pa_nil))) (pa_cons (pe_prop (pv 0) T.k_Sign T.P_Sign_blank G_Sign_blank (hr.mono (by first | decide | omega)) T.b_Sign_blank .nil pass0 (by rfl)) pa_nil)) (by rfl))
      (pss_cons (ps_for PassesOwn.never rfl (pi_zipk (K := K) rfl (by rfl) T.g_zip (pa_cons (pv 1) (pa_cons (pv 2) pa_nil))) (pg_tupk (K := K) (n := 2) rfl rfl (pgs_cons (pg_name (i := 5) sc_fixed_cost.nd rfl (by first | exact Or.inl rfl | exact Or.inr rfl)) (pgs_cons (pg_name (i := 6) sc_fixed_cost.nd rfl (by first | exact Or.inl rfl | exact Or.inr rfl)) pgs_nil))) (pss_cons (ps_set (i := 7) sc_fixed_cost.nd rfl (by first | exact Or.inl rfl | exact Or.inr rfl) (pe_meth (pv 0) T.k_Sign T.Me_Sign_row_of G_Sign_row_of (hr.mono (by first | decide | omega)) T.b_Sign_row_of .nil pass0 (pa_cons (pv 5) (pa_cons (pv 6) pa_nil))))
      (pss_cons (ps_set (i := 3) sc_fixed_cost.nd rfl (by first | exact Or.inl rfl | exact Or.inr rfl) (pe_call G_add (hr.mono (by first | decide | omega)) (by rfl) T.m_add T.F_add.kp T.b_add .nil pass0 (pa_cons (pv 3) (pa_cons (pe_call G_cost (hr.mono (by first | decide | omega)) (by rfl) T.m_cost T.F_cost.kp T.b_cost .nil pass0 (pa_cons (pv 0) (pa_cons (pv 4) (pa_cons (pv 7) pa_nil)))) pa_nil))))
      (pss_one (ps_set (i := 4) sc_fixed_cost.nd rfl (by first | exact Or.inl rfl | exact Or.inr rfl) (pv 7))))))
      (pss_one (ps_ret (pv 3))))))), ?_⟩
  rintro _ F ms Q Ea ⟨x, wd, ps, ts, os, rfl, ⟨i, j, m, hi, hj⟩, ⟨w1, w2, hp, hpL, hpN, ht1, ht2, ht⟩, hO, q⟩
  walk_at "al"
  refine ae_meth ?_
  walk_at "al"
  refine ⟨x, fldS m wd ps, rfl, .inr ⟨i, hi⟩, fld_no (by decide +kernel) (by decide +kernel) (by decide +kernel), ?_⟩
  walk_at "al"
  refine ⟨x, wd, ps, ts, rfl, ⟨i, j, m, hi, hj⟩, w2, ht1, ht2, ht, fun F1 e1 => ?_⟩
  walk_at "al"
  refine ⟨x, wd, ps, ts, os, rfl, ⟨i, j, m, hi, hj⟩, w2, ht2, ht, hO, fun F2 e2 => ?_⟩
  walk_at "al"
  refine ae_tup ?_
  walk_at "al"
  refine ⟨by simp, fun F3 e3 => ?_⟩
  walk_at "al"
  refine ae_prop ?_
  walk_at "al"
  refine ⟨x, _, rfl, .inr ⟨i, hi⟩, x, wd, ps, rfl, ⟨i, j, m, hi, hj⟩, by omega, w2, ?_⟩
  walk_at "al"
  refine as_for ?_
  refine ai_zipT ?_
  walk_at "al"
  have h0 := hO.1
  refine ⟨_, _, rfl, by rw [List.length_map, List.length_map, hO.1], ?_⟩
  refine ⟨fun n F' ms' S' => ms' = ms ∧ okRow wd (((ts.zip os).take n).foldl (stepF ps wd) ((0, 0), mulS sp1 wd)).2 ∧ ∃ a b c, S' = [some (.ref x), some (.tup (ts.map D.str)), some (.tup (os.map D.int)), some (cD (((ts.zip os).take n).foldl (stepF ps wd) ((0, 0), mulS sp1 wd)).1), some (.str (((ts.zip os).take n).foldl (stepF ps wd) ((0, 0), mulS sp1 wd)).2), a, b, c], ⟨rfl, blank_ok (by omega), none, none, none, rfl⟩, fun _ _ _ _ _ _ => trivial, ?_, ?_⟩
  · rintro n d F4 ms4 S4 e4 hd ⟨rfl, hrow, a, b, c, rfl⟩ F5 e5
    obtain ⟨_, _, h1, h2, rfl⟩ := zipD_inv hd
    obtain ⟨t, hti, rfl⟩ := strs_at h1
    obtain ⟨o, hoi, rfl⟩ := ints_at' h2
    obtain ⟨o1, o2⟩ := hO.2 n _ _ hti hoi
    have htk := ht _ (List.mem_of_getElem? hti)
    have hz : (ts.zip os)[n]? = some (t, o) := List.getElem?_zip_eq_some.mpr ⟨hti, hoi⟩
    have hs : ((ts.zip os).take (n + 1)).foldl (stepF ps wd) ((0, 0), mulS sp1 wd) = stepF ps wd (((ts.zip os).take n).foldl (stepF ps wd) ((0, 0), mulS sp1 wd)) (t, o) := by
      rw [List.take_succ, hz, List.foldl_append]
      rfl
    generalize ((ts.zip os).take n).foldl (stepF ps wd) ((0, 0), mulS sp1 wd) = st at hs hrow ⊢
    have hsh := shown_ok htk o1 o2
    refine ag_tup rfl ?_
    refine ags_cons (ag_name ?_)
    refine ags_cons (ag_name ?_)
    refine ags_nil ?_
    walk_at "al"
    refine ae_meth ?_
    walk_at "al"
    refine ⟨x, fldS m wd ps, rfl, .inr ⟨i, hi⟩, fld_no (by decide +kernel) (by decide +kernel) (by decide +kernel), ?_⟩
    walk_at "al"
    refine ⟨x, wd, ps, t, o, rfl, ⟨i, j, m, hi, hj⟩, w2, o1, o2, ?_⟩
    walk_at "al"
    refine ⟨x, wd, ps, st.2, shown wd t o, rfl, ⟨i, j, m, hi, hj⟩, by omega, w2, hpL, hrow, hsh, fun F6 e6 => ?_⟩
    walk_at "al"
    refine ⟨st.1, costP ps st.2 (shown wd t o) wd, rfl, fun F7 e7 => ?_⟩
    walk_at "al"
    refine ⟨rfl, ?_, some (.str t), some (.int o), some (.str (shown wd t o)), ?_⟩
    · rw [hs]
      exact hsh
    · rw [hs]
      rfl
  · rintro F4 ms4 S4 e4 ⟨rfl, hrow, a, b, c, rfl⟩
    have hzl : (zipD (ts.map D.str) (os.map D.int)).length = (ts.zip os).length := by
      rw [zipD_len (by rw [List.length_map, List.length_map, hO.1]), List.length_map, List.length_zip, hO.1, Nat.min_self]
    rw [hzl, List.take_length]
    walk_at "al"
    exact q _ (e1.trans (e2.trans (e3.trans e4)))
theorem ok_best_of (T : Txt K mg) (G_Sign_row_of : OK_Sign_row_of P w base T) (G_cost : OK_cost P w base T) (G_add : OK_add P w base T) : OK_best_of P w base T := by
  refine fn_ok T.F_best_of sc_best_of (by rintro _ _ _ _ _ ⟨n, l, x, wd, ps, row, t, L, rfl, _⟩; rfl) (fun cdv A outer s H E hr => ?_)
  have hu64 := hr.units
  refine ⟨_, (pss_cons (ps_asg (pe_tup (pa_cons pe_non (pa_cons pe_int pa_nil))) (pg_tupk (K := K) (n := 2) rfl rfl (pgs_cons (pg_name (i := 4) sc_best_of.nd rfl (by first | exact Or.inl rfl | exact Or.inr rfl)) (pgs_cons (pg_name (i := 5) sc_best_of.nd rfl (by first | exact Or.inl rfl | exact Or.inr rfl)) pgs_nil))))
      (pss_cons (ps_lock (ps_for PassesOwn.never rfl (pi_items (pv 3)) (pg_tupk (K := K) (n := 2) rfl rfl (pgs_cons (pg_name (i := 6) sc_best_of.nd rfl (by first | exact Or.inl rfl | exact Or.inr rfl)) (pgs_cons (pg_tupk (K := K) (n := 2) rfl rfl (pgs_cons (pg_name (i := 7) sc_best_of.nd rfl (by first | exact Or.inl rfl | exact Or.inr rfl)) (pgs_cons (pg_name (i := 8) sc_best_of.nd rfl (by first | exact Or.inl rfl | exact Or.inr rfl)) pgs_nil))) pgs_nil))) (pss_cons (ps_set (i := 9) sc_best_of.nd rfl (by first | exact Or.inl rfl | exact Or.inr rfl) (pe_call G_add (hr.mono (by first | decide | omega)) (by rfl) T.m_add T.F_add.kp T.b_add .nil pass0 (pa_cons (pe_call G_cost (hr.mono (by first | decide | omega)) (by rfl) T.m_cost T.F_cost.kp T.b_cost .nil pass0 (pa_cons (pv 0) (pa_cons (pv 1) (pa_cons (pe_meth (pv 0) T.k_Sign T.Me_Sign_row_of G_Sign_row_of (hr.mono (by first | decide | omega)) T.b_Sign_row_of .nil pass0 (pa_cons (pv 2) (pa_cons (pv 6) pa_nil))) pa_nil)))) (pa_cons (pv 7) pa_nil))))
      (pss_one (ps_if ((pw_or (pt_cmpR op_ISN (pv 4) pe_non (nomark _)) (pw_or1 (pt_cmpR (kLTT (K := K) rfl hu64) (pv 9) (pv 4) (nomark _))))).pt (pss_one (ps_par (i := 4) (j := 5) rfl sc_best_of.nd rfl rfl (by decide) rfl rfl (pa_cons (pv 9) (pa_cons (pv 8) pa_nil)) (by rfl))) (pss_one (ps_if (pt_cmpR (kEQ (K := K) rfl hu64) (pv 9) (pv 4) (nomark _)) (pss_one (ps_aug (i := 5) sc_best_of.nd rfl (by first | exact Or.inl rfl | exact Or.inr rfl) (pv 8) ip_add)) pss_nil)))))))
      (pss_one (ps_ret (pe_tup (pa_cons (pv 4) (pa_cons (pv 5) pa_nil))))))), ?_⟩
  rintro _ F ms Q Ea ⟨n, l, x, wd, ps, row, t, L, rfl, hn, hS, w0, w2, hpL, hrow, ht, hL, q⟩
  obtain ⟨of1, of2⟩ := offN_pos ht
  have hLn : L ≠ [] := by rintro rfl; simp at hL; omega
  walk_at "al"
  refine as_asgG ?_
  refine ae_tup ?_
  walk_at "al"
  refine ⟨by simp, fun F1 e1 => ?_⟩
  refine ag_tup rfl ?_
  refine ags_cons (ag_name ?_)
  refine ags_cons (ag_name ?_)
  refine ags_nil ?_
  walk_at "al"
  refine as_lock n hn fun od vs rk => ?_
  have hS2 : Sgn T.c_Sign (ms.set n (l, .raw (.frz od (.dK vs)))) x wd ps := hS.setR hn hLn
  have hM : (ms.set n (l, .raw (.frz od (.dK vs))))[n]? = some (l, .raw (.frz od (.dK vs))) := set_get (List.getElem?_eq_some_iff.mp hn).1
  have hBack : (ms.set n (l, .raw (.frz od (.dK vs)))).set n (l, .dic (layK 0 L)) = ms := by rw [set_set]; exact set_same hn
  generalize ms.set n (l, .raw (.frz od (.dK vs))) = M at hS2 hM hBack ⊢
  obtain ⟨i, j, m, hi, hj⟩ := hS2
  refine as_for ?_
  refine ai_items ?_
  walk_at "al"
  refine ⟨l, od, vs, _, n, rfl, hM, rk, ?_⟩
  refine ⟨fun k F' ms' S' => ms' = M ∧ ∃ a b c d, S' = [some (.ref x), some (.str row), some (.str t), some (.ref l), some (bsD (((tots ps wd row t L).take k).foldl stepB (none, 0)).1), some (.int (((tots ps wd row t L).take k).foldl stepB (none, 0)).2), a, b, c, d], ⟨rfl, none, none, none, none, rfl⟩, ?_, ?_, ?_⟩
  · rintro k F2 ms2 S2 e2 ⟨rfl, _⟩
    exact ⟨n, hM⟩
  · rintro k d F2 ms2 S2 e2 hd ⟨rfl, a, b, c, e, rfl⟩ F3 e3
    obtain ⟨v, hv, rfl⟩ : ∃ v, L[k]? = some v ∧ d = .tup [.int (k : Int), vD v] := by
      unfold itemsD at hd
      rw [List.getElem?_map, layK_get] at hd
      cases e : L[k]? with
      | none => rw [e] at hd; cases hd
      | some v => rw [e] at hd; exact ⟨v, rfl, by rw [← Option.some.inj hd, Nat.zero_add]; rfl⟩
    have hk := (List.getElem?_eq_some_iff.mp hv).1
    have o2 : (k : Int) + (t.length : Int) ≤ wd := by omega
    have hsh := shown_ok ht (by omega : 0 ≤ (k : Int)) o2
    have hs : ((tots ps wd row t L).take (k + 1)).foldl stepB (none, 0) = stepB (((tots ps wd row t L).take k).foldl stepB (none, 0)) (addC (costP ps row (shown wd t (k : Int)) wd) v.1, v.2) := by
      rw [List.take_succ, tots_get hv, List.foldl_append]
      rfl
    generalize ((tots ps wd row t L).take k).foldl stepB (none, 0) = st at hs ⊢
    obtain ⟨bo, wy⟩ := st
    refine ag_tup rfl ?_
    refine ags_cons (ag_name ?_)
    refine ags_cons (ag_tup rfl ?_) 
    refine ags_cons (ag_name ?_)
    refine ags_cons (ag_name ?_)
    refine ags_nil ?_
    refine ags_nil ?_
    walk_at "al"
    refine ae_meth ?_
    walk_at "al"
    refine ⟨x, fldS m wd ps, rfl, .inr ⟨i, hi⟩, fld_no (by decide +kernel) (by decide +kernel) (by decide +kernel), ?_⟩
    walk_at "al"
    refine ⟨x, wd, ps, t, _, rfl, ⟨i, j, m, hi, hj⟩, w2, by omega, o2, ?_⟩
    walk_at "al"
    refine ⟨x, wd, ps, row, _, rfl, ⟨i, j, m, hi, hj⟩, w0, w2, hpL, hrow, hsh, fun F6 e6 => ?_⟩
    walk_at "al"
    refine ⟨costP ps row (shown wd t (k : Int)) wd, v.1, rfl, fun F7 e7 => ?_⟩
    generalize addC (costP ps row (shown wd t (k : Int)) wd) v.1 = tot at hs ⊢
    have fin : ∀ (b : Option Cst) (y : Int), stepB (bo, wy) (tot, v.2) = (b, y) → ((tots ps wd row t L).take (k + 1)).foldl stepB (none, 0) = (b, y) := fun b y h => hs.trans h
    cases bo with
    | none =>
      dsimp only [bsD]
      walk_at "al"
      refine ⟨rfl, some (.int (k : Int)), some (cD v.1), some (.int v.2), some (cD tot), ?_⟩
      rw [fin (some tot) v.2 rfl]
      rfl
    | some c =>
      dsimp only [bsD]
      walk_at "al"
      refine isN_tup (ds := [.int c.1, .int c.2]) ?_
      walk_at "al"
      refine ar_LTT (ns := [tot.1, tot.2]) (ks := [c.1, c.2]) ?_
      rw [lex_lt]
      walk_at "al"
      refine ⟨fun hb => ?_, fun hb => ?_⟩
      · walk_at "al"
        refine ⟨rfl, some (.int (k : Int)), some (cD v.1), some (.int v.2), some (cD tot), ?_⟩
        rw [fin (some tot) v.2 (by show (if ltC tot c = true then _ else _) = _; rw [if_pos hb])]
        rfl
      · walk_at "al"
        refine ar_EQd (d := cD tot) (e := cD c) rfl rfl (Nat.le_of_ble_eq_true rfl) (Nat.le_of_ble_eq_true rfl) ?_
        rw [eqv_cD]
        walk_at "al"
        refine ⟨fun hc => ?_, fun hc => ?_⟩
        · have hc := of_decide_eq_true hc
          refine as_aug rfl ?_
          walk_at "al"
          refine ⟨rfl, some (.int (k : Int)), some (cD v.1), some (.int v.2), some (cD tot), ?_⟩
          rw [fin (some c) (wy + v.2) (by show (if ltC tot c = true then _ else if tot = c then _ else _) = _; rw [hb, if_neg (by decide), if_pos hc])]
          rfl
        · have hc := of_decide_eq_false hc
          refine as_next ?_
          refine ⟨rfl, some (.int (k : Int)), some (cD v.1), some (.int v.2), some (cD tot), ?_⟩
          rw [fin (some c) wy (by show (if ltC tot c = true then _ else if tot = c then _ else _) = _; rw [hb, if_neg (by decide), if_neg hc])]
          rfl
  · rintro F2 ms2 S2 e2 ⟨rfl, a, b, c, d, rfl⟩
    have hl : (itemsD (layK 0 L)).length = (tots ps wd row t L).length := by unfold itemsD; rw [List.length_map, layK_len, tots_len]
    refine ⟨n, hM, ?_⟩
    rw [hBack, hl, List.take_length]
    walk_at "al"
    refine ae_tup ?_
    walk_at "al"
    refine ⟨by simp, fun F3 e3 => ?_⟩
    have := q F3 (e1.trans (e2.trans e3))
    obtain ⟨best, hbest⟩ := best_some (ps := ps) (w := wd) (row := row) (t := t) hLn
    unfold vD bestP at this
    unfold bestF at this hbest
    rw [hbest] at this ⊢
    exact this
end
theorem lay_len {ps : List Pr} {wd : Int} (t : Str) (r : List Str) : ((layersF ps wd (t :: r)).headD []).length = offN wd t := by
  cases r with
  | nil => show (List.replicate (offN wd t) _).length = _; rw [List.length_replicate]
  | cons t' r => show (List.map _ (List.range (offN wd t))).length = _; rw [List.length_map, List.length_range]
theorem rowsF_eq {ps : List Pr} {wd : Int} (t t' : Str) (r : List Str) : (layersF ps wd (t :: t' :: r)).headD [] = (List.range (offN wd t)).map fun (o : Nat) => bestP ps wd (shown wd t (o : Int)) t' ((layersF ps wd (t' :: r)).headD []) := rfl
theorem offs_at {wd : Int} {t : Str} {k : Nat} {d : D} (hd : ((List.range (offN wd t)).map fun (o : Nat) => D.int (o : Int))[k]? = some d) : k < offN wd t ∧ d = .int (k : Int) := by
  have hk := (List.getElem?_eq_some_iff.mp hd).1
  rw [List.length_map, List.length_range] at hk
  rw [List.getElem?_map, List.getElem?_range hk] at hd
  exact ⟨hk, (Option.some.inj hd).symm⟩
theorem rep_take {α : Type} (a : α) {n i : Nat} (h : i < n) : List.replicate (i + 1) a = List.replicate i a ++ [a] := List.replicate_succ'
section
variable {P : Program} {w : World} {K : Frg} {mg : Str → Option Value} {base : Heap}
end

theorem layO_len : ∀ (as : List Addr) (Ls : List Lay), as.length = Ls.length → (layO as Ls).length = as.length
  | [], _, _ => by unfold layO; rfl
  | a :: as, [], h => by simp at h
  | a :: as, L :: Ls, h => by unfold layO; rw [List.length_cons, List.length_cons, layO_len as Ls (by simpa using h)]
theorem layO_get : ∀ (as : List Addr) (Ls : List Lay) (i : Nat) (a : Addr) (L : Lay), as[i]? = some a → Ls[i]? = some L → (layO as Ls)[i]? = some (a, .dic (layK 0 L))
  | [], _, i, a, L, h, _ => by simp at h
  | a :: as, [], i, _, _, _, h => by simp at h
  | a :: as, L :: Ls, 0, _, _, h, k => by cases h; cases k; rfl
  | a :: as, L :: Ls, i + 1, b, M, h, k => by
    unfold layO
    rw [List.getElem?_cons_succ]
    exact layO_get as Ls i b M (by simpa using h) (by simpa using k)
theorem layF_len (ps : List Pr) (w : Int) : ∀ ts : List Str, (layersF ps w ts).length = ts.length
  | [] => rfl
  | [t] => rfl
  | t :: t' :: r => by
    show ((List.map _ _) :: layersF ps w (t' :: r)).length = _
    rw [List.length_cons, layF_len ps w (t' :: r)]
    rfl
theorem layF_cons (ps : List Pr) (w : Int) (t t' : Str) (r : List Str) : layersF ps w (t :: t' :: r) = ((layersF ps w (t :: t' :: r)).headD []) :: layersF ps w (t' :: r) := rfl
theorem Sgn.pre {C : Addr} {ms : Ms} {x : Addr} {w : Int} {ps : List Pr} (M : Ms) : Sgn C ms x w ps → Sgn C (M ++ ms) x w ps := fun ⟨i, j, m, h1, h2⟩ => by
  refine ⟨M.length + i, M.length + j, m, ?_, ?_⟩
  · rw [List.getElem?_append_right (by omega), Nat.add_sub_cancel_left]; exact h1
  · rw [List.getElem?_append_right (by omega), Nat.add_sub_cancel_left]; exact h2
section
variable {P : Program} {w : World} {K : Frg} {mg : Str → Option Value} {base : Heap}
theorem ok_costs_from (T : Txt K mg) (G_offsets_of : OK_offsets_of P w base T) (G_Sign_row_of : OK_Sign_row_of P w base T) (G_best_of : OK_best_of P w base T) : OK_costs_from P w base T := by
  refine fn_ok T.F_costs_from sc_costs_from (by rintro _ _ _ _ _ ⟨x, wd, ps, ts, rfl, _⟩; rfl) (fun cdv A outer s H E hr => ?_)
  have hu64 := hr.units
  refine ⟨_, (pss_cons (ps_set (i := 2) sc_costs_from.nd rfl (by first | exact Or.inl rfl | exact Or.inr rfl) (pe_lst (pa_cons (pe_dc rfl sc_costs_from.nd (pi_listk (K := K) rfl (pe_call G_offsets_of (hr.mono (by first | decide | omega)) (by rfl) T.m_offsets_of T.F_offsets_of.kp T.b_offsets_of .nil pass0 (pa_cons (pv 0) (pa_cons (pe_ix (kIX (K := K) rfl) (pv 1) (pe_un un_neg pe_int) (fun _ _ => rfl)) pa_nil)))) (own := [("offset", 3)]) (@BlkOk.mk N_costs_from (defScope s_costs_from) _ _ rfl (by decide +kernel) (by decide +kernel) (by decide +kernel) (by decide +kernel)) (fun _ _ _ _ _ => (pg_name (i := 3) sc_costs_from.nd rfl (by first | exact Or.inl rfl | exact Or.inr rfl))) (fun _ _ _ _ _ => pts_nil) (fun _ _ _ _ _ => (pv 3)) (fun _ _ _ _ _ => (pe_tup (pa_cons (pe_tup (pa_cons pe_int (pa_cons pe_int pa_nil))) (pa_cons pe_int pa_nil))))) pa_nil)))
      (pss_cons (ps_for PassesOwn.never rfl (pi_range3 (by rfl) T.g_range (pa_cons (pe_op op_sub (pe_callB (kLEN (K := K) rfl) (by rfl) T.g_len boot_len (pa_cons (pv 1) pa_nil)) pe_int) (pa_cons (pe_un un_neg pe_int) (pa_cons (pe_un un_neg pe_int) pa_nil)))) (pg_name (i := 4) sc_costs_from.nd rfl (by first | exact Or.inl rfl | exact Or.inr rfl)) (pss_cons (ps_set (i := 5) sc_costs_from.nd rfl (by first | exact Or.inl rfl | exact Or.inr rfl) pe_dnewK)
      (pss_cons (ps_for PassesOwn.never rfl (pi_listk (K := K) rfl (pe_call G_offsets_of (hr.mono (by first | decide | omega)) (by rfl) T.m_offsets_of T.F_offsets_of.kp T.b_offsets_of .nil pass0 (pa_cons (pv 0) (pa_cons (pe_ix (kIX (K := K) rfl) (pv 1) (pv 4) (fun _ _ => rfl)) pa_nil)))) (pg_name (i := 3) sc_costs_from.nd rfl (by first | exact Or.inl rfl | exact Or.inr rfl)) (pss_one (ps_dput (hu_of hr) (pv 5) (pv 3) (pe_call G_best_of (hr.mono (by first | decide | omega)) (by rfl) T.m_best_of T.F_best_of.kp T.b_best_of .nil pass0 (pa_cons (pv 0) (pa_cons (pe_meth (pv 0) T.k_Sign T.Me_Sign_row_of G_Sign_row_of (hr.mono (by first | decide | omega)) T.b_Sign_row_of .nil pass0 (pa_cons (pe_ix (kIX (K := K) rfl) (pv 1) (pv 4) (fun _ _ => rfl)) (pa_cons (pv 3) pa_nil))) (pa_cons (pe_ix (kIX (K := K) rfl) (pv 1) (pe_op (kADD (K := K) rfl) (pv 4) pe_int) (fun _ _ => rfl)) (pa_cons (pe_ix (kIX (K := K) rfl) (pv 2) pe_int (fun _ _ => rfl)) pa_nil))))) (by rfl))))
      (pss_one (ps_set (i := 2) sc_costs_from.nd rfl (by first | exact Or.inl rfl | exact Or.inr rfl) (pe_op (kADD (K := K) rfl) (pe_lst (pa_cons (pv 5) pa_nil)) (pv 2)))))))
      (pss_one (ps_ret (pv 2))))), ?_⟩
  rintro _ F ms Q Ea ⟨x, wd, ps, ts, rfl, hS, ⟨w1, w2, hp, hpL, hpN, ht1, ht2, ht⟩, q⟩
  obtain ⟨i, j, m, hi, hj⟩ := id hS
  have hlast : ts[ts.length - 1]? = some (ts[ts.length - 1]'(by omega)) := List.getElem?_eq_getElem (by omega)
  generalize ts[ts.length - 1]'(by omega) = tl at hlast
  have htl := ht _ (List.mem_of_getElem? hlast)
  have hat : atI (ts.map D.str) (-1) = some (.str tl) := atI_neg (j := ts.length - 1) (by rw [List.length_map]; omega) (by rw [List.getElem?_map, hlast]; rfl) (by decide)
  obtain ⟨of1, of2⟩ := offN_pos htl
  have tl1 := htl.1
  walk_at "al"
  refine ae_lstF ?_
  refine aa_cons ?_
  refine ae_dc (gw_name (by simp)) gm_name ?_
  refine ai_list ?_
  walk_at "al"
  refine ae_neg (fun _ => rfl) ?_
  walk_at "al"
  refine ar_ixT (d := .str tl) hat ?_
  walk_at "al"
  refine ⟨x, wd, ps, tl, rfl, ⟨i, j, m, hi, hj⟩, w2, htl, fun F1 e1 => ?_⟩
  refine .inl ⟨_, .inl rfl, fun k F' ms' acc => ms' = ms ∧ acc = layK 0 (List.replicate k ((0, 0), 1)), ⟨rfl, rfl⟩, fun _ _ _ _ _ _ => trivial, ?_, ?_⟩
  · rintro k d F2 ms2 acc e2 hd ⟨rfl, rfl⟩ F3 e3
    obtain ⟨hk, rfl⟩ := offs_at hd
    refine ag_name ?_
    walk_at "al"
    refine ⟨_, rfl, ?_⟩
    refine ae_tup ?_
    walk_at "al"
    refine ae_tup ?_
    walk_at "al"
    refine ⟨by simp, fun F4 e4 => ?_⟩
    walk_at "al"
    refine ⟨by simp, fun F5 e5 => ?_⟩
    refine ⟨by rw [layK_len, List.length_replicate]; omega, rfl, ?_⟩
    rw [rep_take (n := k + 1) _ (by omega)]
    exact put_lay (by rw [List.length_replicate]) ((0, 0), 1)
  rintro F2 ms2 acc e2 ⟨rfl, rfl⟩ l
  rw [List.length_map, List.length_range]
  walk_at "al"
  refine ⟨by simp, fun F3 e3 => ?_⟩
  walk_at "al"
  refine as_for ?_
  refine ai_rng3 ?_
  walk_at "al"
  rw [List.length_map]
  refine ae_neg (fun _ => rfl) ?_
  walk_at "al"
  refine ae_neg (fun _ => rfl) ?_
  walk_at "al"
  refine ⟨(ts.length : Int) - 2, -1, -1, ts.length - 1, rfl, ?_, ?_⟩
  · have := RgC.neg (i := (ts.length : Int) - 2) (j := -1) (by omega) (by omega) (by decide) (by decide)
    rw [show ((ts.length : Int) - 2 - -1).toNat = ts.length - 1 by omega] at this
    exact this
  refine ⟨fun n F' ms' S' => ∃ (ls : List Addr) (a b c : Option D), ls.length = n + 1 ∧ n + 1 ≤ ts.length ∧ ms' = layO ls (layersF ps wd (ts.drop (ts.length - 1 - n))) ++ ms2 ∧ S' = [some (.ref x), some (.tup (ts.map D.str)), some (.lst (ls.map D.ref)), a, b, c], ?_, fun _ _ _ _ _ _ => trivial, ?_, ?_⟩
  · refine ⟨[l], none, none, none, rfl, by omega, ?_, rfl⟩
    rw [Nat.sub_zero]
    have hd1 : ts.drop (ts.length - 1) = [tl] := by
      have h1 : ts.length - 1 < ts.length := by omega
      rw [List.drop_eq_getElem_cons h1, show ts.length - 1 + 1 = ts.length by omega, List.drop_length]
      rw [List.getElem?_eq_getElem h1] at hlast
      rw [Option.some.inj hlast]
    rw [hd1]
    rfl
  · rintro n d F4 ms4 S4 e4 hd ⟨ls, a, b, c, hls, hnl, rfl, rfl⟩ F5 e5
    obtain ⟨hn, rfl⟩ := rangeC_at hd
    have hi0 : ts.length - 2 - n < ts.length := by omega
    have hi1 : ts.length - 1 - n < ts.length := by omega
    have g0 : ts[ts.length - 2 - n]? = some (ts[ts.length - 2 - n]'hi0) := List.getElem?_eq_getElem hi0
    have g1 : ts[ts.length - 1 - n]? = some (ts[ts.length - 1 - n]'hi1) := List.getElem?_eq_getElem hi1
    have d0 : ts.drop (ts.length - 2 - n) = ts[ts.length - 2 - n]'hi0 :: ts.drop (ts.length - 1 - n) := by
      rw [List.drop_eq_getElem_cons hi0, show ts.length - 2 - n + 1 = ts.length - 1 - n by omega]
    have d1 : ts.drop (ts.length - 1 - n) = ts[ts.length - 1 - n]'hi1 :: ts.drop (ts.length - 1 - n + 1) := List.drop_eq_getElem_cons hi1
    generalize ts[ts.length - 2 - n]'hi0 = t0 at g0 d0
    generalize ts[ts.length - 1 - n]'hi1 = t1 at g1 d1
    have ht0 := ht _ (List.mem_of_getElem? g0)
    have hto := ht _ (List.mem_of_getElem? g1)
    have at0 : atI (ts.map D.str) ((ts.length : Int) - 2 + (n : Int) * -1) = some (.str t0) := atI_of (j := ts.length - 2 - n) (by omega) (by rw [List.getElem?_map, g0]; rfl)
    have at1 : atI (ts.map D.str) ((ts.length : Int) - 2 + (n : Int) * -1 + 1) = some (.str t1) := atI_of (j := ts.length - 1 - n) (by omega) (by rw [List.getElem?_map, g1]; rfl)
    have llen : ((layersF ps wd (ts.drop (ts.length - 1 - n))).headD []).length = offN wd t1 := by rw [d1]; exact lay_len _ _
    have hlls : (layersF ps wd (ts.drop (ts.length - 1 - n))).length = n + 1 := by rw [layF_len, List.length_drop]; omega
    have hrow : layersF ps wd (ts.drop (ts.length - 1 - (n + 1))) = ((List.range (offN wd t0)).map fun (o : Nat) => bestP ps wd (shown wd t0 (o : Int)) t1 ((layersF ps wd (ts.drop (ts.length - 1 - n))).headD [])) :: layersF ps wd (ts.drop (ts.length - 1 - n)) := by
      rw [show ts.length - 1 - (n + 1) = ts.length - 2 - n by omega, d0, d1]
      rfl
    obtain ⟨l0, lr, rfl⟩ : ∃ l0 lr, ls = l0 :: lr := by
      cases ls with
      | nil => simp at hls
      | cons a b => exact ⟨a, b, rfl⟩
    have hL0 : (layersF ps wd (ts.drop (ts.length - 1 - n)))[0]? = some ((layersF ps wd (ts.drop (ts.length - 1 - n))).headD []) := by
      cases e : layersF ps wd (ts.drop (ts.length - 1 - n)) with
      | nil => rw [e] at hlls; simp at hlls
      | cons a b => rfl
    have hM0 := layO_get (l0 :: lr) _ 0 l0 _ rfl hL0
    have hMl := layO_len (l0 :: lr) (layersF ps wd (ts.drop (ts.length - 1 - n))) (by omega)
    have hM1 : (layO (l0 :: lr) (layersF ps wd (ts.drop (ts.length - 1 - n))) ++ ms2)[0]? = some (l0, .dic (layK 0 ((layersF ps wd (ts.drop (ts.length - 1 - n))).headD []))) := by
      rw [List.getElem?_append_left (by rw [hMl]; simp)]; exact hM0
    have hS4 : Sgn T.c_Sign (layO (l0 :: lr) (layersF ps wd (ts.drop (ts.length - 1 - n))) ++ ms2) x wd ps := hS.pre _
    have hfin : layO (l0 :: lr) (layersF ps wd (ts.drop (ts.length - 1 - n))) ++ ms2 = layO (l0 :: lr) (layersF ps wd (ts.drop (ts.length - 1 - n))) ++ ms2 := rfl
    generalize hMM : layO (l0 :: lr) (layersF ps wd (ts.drop (ts.length - 1 - n))) ++ ms2 = M at hM1 hS4 hfin
    generalize (layersF ps wd (ts.drop (ts.length - 1 - n))).headD [] = L at llen hrow hM1
    obtain ⟨i, j, m, hi, hj⟩ := hS4
    obtain ⟨of3, of4⟩ := offN_pos ht0
    have tl0 := ht0.1
    refine ag_name ?_
    walk_at "al"
    refine ae_dnewO fun p => ?_
    walk_at "al"
    refine as_for ?_
    refine ai_list ?_
    walk_at "al"
    refine ar_ixT (d := .str t0) at0 ?_
    walk_at "al"
    refine ⟨x, wd, ps, t0, rfl, ⟨i + 1, j + 1, m, hi, hj⟩, w2, ht0, fun F6 e6 => ?_⟩
    refine .inl ⟨_, .inl rfl, fun k F' ms' S' => ms' = (p, .dic (layK 0 (((List.range (offN wd t0)).map fun (o : Nat) => bestP ps wd (shown wd t0 (o : Int)) t1 L).take k))) :: M ∧ ∃ a, S' = [some (.ref x), some (.tup (ts.map D.str)), some (.lst ((l0 :: lr).map D.ref)), a, some (.int ((ts.length : Int) - 2 + (n : Int) * -1)), some (.ref p)], ⟨rfl, a, rfl⟩, fun _ _ _ _ _ _ => trivial, ?_, ?_⟩
    · rintro k d F7 ms7 S7 e7 hd ⟨rfl, a, rfl⟩ F8 e8
      obtain ⟨hk, rfl⟩ := offs_at hd
      have hsh := shown_ok ht0 (by omega : 0 ≤ (k : Int)) (by omega)
      refine ag_name ?_
      refine as_dput ?_
      walk_at "al"
      refine ae_meth ?_
      walk_at "al"
      refine ⟨x, fldS m wd ps, rfl, .inr ⟨i + 1, hi⟩, fld_no (by decide +kernel) (by decide +kernel) (by decide +kernel), ?_⟩
      walk_at "al"
      refine ar_ixT (d := .str t0) at0 ?_
      walk_at "al"
      refine ⟨x, wd, ps, t0, _, rfl, ⟨i + 1, j + 1, m, hi, hj⟩, w2, by omega, by omega, ?_⟩
      walk_at "al"
      refine ar_ixT (d := .str t1) at1 ?_
      walk_at "al"
      refine ar_ixL (d := .ref l0) (atI_of (j := 0) rfl rfl) ?_
      walk_at "al"
      refine ⟨1, l0, x, wd, ps, _, t1, L, rfl, hM1, ⟨i + 1, j + 1, m, hi, hj⟩, by omega, w2, hpL, hsh, hto, llen, fun F9 e9 => ?_⟩
      walk_at "al"
      have hlen : (((List.range (offN wd t0)).map fun (o : Nat) => bestP ps wd (shown wd t0 (o : Int)) t1 L).take k).length = k := by
        rw [List.length_take, List.length_map, List.length_range]; omega
      refine ⟨0, p, _, .inl (k : Int), rfl, rfl, rfl, by rw [layK_len, hlen]; omega, ?_, _, rfl⟩
      rw [put_lay hlen]
      rw [List.take_succ, List.getElem?_map, List.getElem?_range hk]
      rfl
    · rintro F7 ms7 S7 e7 ⟨rfl, a, rfl⟩
      rw [List.length_map, List.length_range, List.take_of_length_le (by rw [List.length_map, List.length_range]; omega)]
      refine as_asg ?_
      walk_at "al"
      refine ae_lstF ?_
      walk_at "al"
      refine ⟨by simp, fun F8 e8 => ?_⟩
      walk_at "al"
      refine ar_ADDl (by simp at hls ⊢; omega) fun F9 e9 => ?_
      refine ⟨p :: l0 :: lr, a, _, _, by rw [List.length_cons, hls], by omega, ?_, rfl⟩
      rw [hrow]
      subst hMM
      rfl
  · rintro F4 ms4 S4 e4 ⟨ls, a, b, c, hls, hnl, rfl, rfl⟩
    have hl : (rangeC ((ts.length : Int) - 2) (-1) (ts.length - 1)).length = ts.length - 1 := rangeC_len
    rw [hl] at hls ⊢
    rw [Nat.sub_self]
    walk_at "al"
    exact q _ _ (e1.trans (e2.trans (e3.trans e4))) (by omega)
end
section
variable {Γ : Cg} {te : TE} {F : Hp} {ms : Ms} {S : Sg} {Q : QE}
/-- what was owned ahead is dropped -/
theorem ae_drops (h : AE Γ te F ms S fun F' ms' d => ∃ N M, ms' = N ++ M ∧ Q F' M d) : AE Γ te F ms S Q := fun R σ H Qc hs hh x k => h R σ H _ hs hh x fun F' ms' d v H' e ho hr ⟨N, M, hm, q⟩ => by
  subst hm
  have go : ∀ N : Ms, Hold Γ.K F' (N ++ M ++ R) H' → Hold Γ.K F' (M ++ R) H' := by
    intro N
    induction N with
    | nil => exact fun h => h
    | cons p N ih => exact fun h => ih h.tl
  exact k F' M d v H' e (go N ho) hr q
end
section
variable {P : Program} {w : World} {K : Frg} {mg : Str → Option Value} {base : Heap}
theorem ok_season_cost (T : Txt K mg) (G_Sign_check_texts : OK_Sign_check_texts P w base T) (G_Sign_blank : OK_Sign_blank P w base T) (G_costs_from : OK_costs_from P w base T) (G_best_of : OK_best_of P w base T) : OK_season_cost P w base T := by
  refine fn_ok T.F_season_cost sc_season_cost (by rintro _ _ _ _ _ ⟨x, wd, ps, ts, rfl, _⟩; rfl) (fun cdv A outer s H E hr => ?_)
  have hu64 := hr.units
  refine ⟨_, (pss_cons (ps_expr (pe_meth (pv 0) T.k_Sign T.Me_Sign_check_texts G_Sign_check_texts (hr.mono (by first | decide | omega)) T.b_Sign_check_texts .nil pass0 (pa_cons (pv 1) pa_nil)))
      (pss_one (ps_ret (pe_ix (kIX (K := K) rfl) (pe_call G_best_of (hr.mono (by first | decide | omega)) (by rfl) T.m_best_of T.F_best_of.kp T.b_best_of .nil pass0 (pa_cons (pv 0) (pa_cons (pe_prop (pv 0) T.k_Sign T.P_Sign_blank G_Sign_blank (hr.mono (by first | decide | omega)) T.b_Sign_blank .nil pass0 (by rfl)) (pa_cons (pe_ix (kIX (K := K) rfl) (pv 1) pe_int (fun _ _ => rfl)) (pa_cons (pe_ix (kIX (K := K) rfl) (pe_call G_costs_from (hr.mono (by first | decide | omega)) (by rfl) T.m_costs_from T.F_costs_from.kp T.b_costs_from .nil pass0 (pa_cons (pv 0) (pa_cons (pv 1) pa_nil))) pe_int (fun _ _ => rfl)) pa_nil))))) pe_int (fun _ _ => rfl))))), ?_⟩
  rintro _ F ms Q Ea ⟨x, wd, ps, ts, rfl, hS, hOk, q⟩
  obtain ⟨i, j, m, hi, hj⟩ := id hS
  obtain ⟨w1, w2, hp, hpL, hpN, ht1, ht2, ht⟩ := id hOk
  walk_at "al"
  refine ae_meth ?_
  walk_at "al"
  refine ⟨x, fldS m wd ps, rfl, .inr ⟨i, hi⟩, fld_no (by decide +kernel) (by decide +kernel) (by decide +kernel), ?_⟩
  walk_at "al"
  refine ⟨x, wd, ps, ts, rfl, ⟨i, j, m, hi, hj⟩, w2, ht1, ht2, ht, fun F1 e1 => ?_⟩
  refine as_ret (ae_drops ?_)
  walk_at "al"
  refine ae_prop ?_
  walk_at "al"
  refine ⟨x, _, rfl, .inr ⟨i, hi⟩, x, wd, ps, rfl, ⟨i, j, m, hi, hj⟩, by omega, w2, ?_⟩
  walk_at "al"
  obtain ⟨t0, r, rfl⟩ : ∃ t0 r, ts = t0 :: r := by
    cases ts with
    | nil => simp at ht1
    | cons t r => exact ⟨t, r, rfl⟩
  refine ar_ixT (d := .str t0) (atI_of (j := 0) rfl rfl) ?_
  walk_at "al"
  refine ⟨x, wd, ps, _, rfl, ⟨i, j, m, hi, hj⟩, hOk, fun F2 ls e2 hls => ?_⟩
  obtain ⟨l, lr, rfl⟩ : ∃ l lr, ls = l :: lr := by
    cases ls with
    | nil => simp at hls
    | cons t r => exact ⟨t, r, rfl⟩
  walk_at "al"
  refine ar_ixL (d := .ref l) (atI_of (j := 0) rfl rfl) ?_
  have hll := layF_len ps wd (t0 :: r)
  have hL0 : (layersF ps wd (t0 :: r))[0]? = some ((layersF ps wd (t0 :: r)).headD []) := by
    cases e : layersF ps wd (t0 :: r) with
    | nil => rw [e] at hll; simp at hll
    | cons a b => rfl
  have hM0 := layO_get (l :: lr) _ 0 l _ rfl hL0
  have hMl := layO_len (l :: lr) (layersF ps wd (t0 :: r)) (by omega)
  walk_at "al"
  refine ⟨0, l, x, wd, ps, _, t0, _, rfl, (by rw [List.getElem?_append_left (by rw [hMl]; simp)]; exact hM0), hS.pre _, by omega, w2, hpL, blank_ok (by omega), ht _ (List.mem_cons_self ..), lay_len _ _, fun F3 e3 => ?_⟩
  walk_at "al"
  refine ar_ixT (d := cD (seasonF ps wd (t0 :: r))) rfl ?_
  exact ⟨_, _, rfl, q F3 (e1.trans (e2.trans e3))⟩
theorem ok_count_best (T : Txt K mg) (G_Sign_check_texts : OK_Sign_check_texts P w base T) (G_Sign_blank : OK_Sign_blank P w base T) (G_costs_from : OK_costs_from P w base T) (G_best_of : OK_best_of P w base T) : OK_count_best P w base T := by
  refine fn_ok T.F_count_best sc_count_best (by rintro _ _ _ _ _ ⟨x, wd, ps, ts, rfl, _⟩; rfl) (fun cdv A outer s H E hr => ?_)
  have hu64 := hr.units
  refine ⟨_, (pss_cons (ps_expr (pe_meth (pv 0) T.k_Sign T.Me_Sign_check_texts G_Sign_check_texts (hr.mono (by first | decide | omega)) T.b_Sign_check_texts .nil pass0 (pa_cons (pv 1) pa_nil)))
      (pss_one (ps_ret (pe_ix (kIX (K := K) rfl) (pe_call G_best_of (hr.mono (by first | decide | omega)) (by rfl) T.m_best_of T.F_best_of.kp T.b_best_of .nil pass0 (pa_cons (pv 0) (pa_cons (pe_prop (pv 0) T.k_Sign T.P_Sign_blank G_Sign_blank (hr.mono (by first | decide | omega)) T.b_Sign_blank .nil pass0 (by rfl)) (pa_cons (pe_ix (kIX (K := K) rfl) (pv 1) pe_int (fun _ _ => rfl)) (pa_cons (pe_ix (kIX (K := K) rfl) (pe_call G_costs_from (hr.mono (by first | decide | omega)) (by rfl) T.m_costs_from T.F_costs_from.kp T.b_costs_from .nil pass0 (pa_cons (pv 0) (pa_cons (pv 1) pa_nil))) pe_int (fun _ _ => rfl)) pa_nil))))) pe_int (fun _ _ => rfl))))), ?_⟩
  rintro _ F ms Q Ea ⟨x, wd, ps, ts, rfl, hS, hOk, q⟩
  obtain ⟨i, j, m, hi, hj⟩ := id hS
  obtain ⟨w1, w2, hp, hpL, hpN, ht1, ht2, ht⟩ := id hOk
  walk_at "al"
  refine ae_meth ?_
  walk_at "al"
  refine ⟨x, fldS m wd ps, rfl, .inr ⟨i, hi⟩, fld_no (by decide +kernel) (by decide +kernel) (by decide +kernel), ?_⟩
  walk_at "al"
  refine ⟨x, wd, ps, ts, rfl, ⟨i, j, m, hi, hj⟩, w2, ht1, ht2, ht, fun F1 e1 => ?_⟩
  refine as_ret (ae_drops ?_)
  walk_at "al"
  refine ae_prop ?_
  walk_at "al"
  refine ⟨x, _, rfl, .inr ⟨i, hi⟩, x, wd, ps, rfl, ⟨i, j, m, hi, hj⟩, by omega, w2, ?_⟩
  walk_at "al"
  obtain ⟨t0, r, rfl⟩ : ∃ t0 r, ts = t0 :: r := by
    cases ts with
    | nil => simp at ht1
    | cons t r => exact ⟨t, r, rfl⟩
  refine ar_ixT (d := .str t0) (atI_of (j := 0) rfl rfl) ?_
  walk_at "al"
  refine ⟨x, wd, ps, _, rfl, ⟨i, j, m, hi, hj⟩, hOk, fun F2 ls e2 hls => ?_⟩
  obtain ⟨l, lr, rfl⟩ : ∃ l lr, ls = l :: lr := by
    cases ls with
    | nil => simp at hls
    | cons t r => exact ⟨t, r, rfl⟩
  walk_at "al"
  refine ar_ixL (d := .ref l) (atI_of (j := 0) rfl rfl) ?_
  have hll := layF_len ps wd (t0 :: r)
  have hL0 : (layersF ps wd (t0 :: r))[0]? = some ((layersF ps wd (t0 :: r)).headD []) := by
    cases e : layersF ps wd (t0 :: r) with
    | nil => rw [e] at hll; simp at hll
    | cons a b => rfl
  have hM0 := layO_get (l :: lr) _ 0 l _ rfl hL0
  have hMl := layO_len (l :: lr) (layersF ps wd (t0 :: r)) (by omega)
  walk_at "al"
  refine ⟨0, l, x, wd, ps, _, t0, _, rfl, (by rw [List.getElem?_append_left (by rw [hMl]; simp)]; exact hM0), hS.pre _, by omega, w2, hpL, blank_ok (by omega), ht _ (List.mem_cons_self ..), lay_len _ _, fun F3 e3 => ?_⟩
  walk_at "al"
  refine ar_ixT (d := .int (countF ps wd (t0 :: r))) rfl ?_
  exact ⟨_, _, rfl, q F3 (e1.trans (e2.trans e3))⟩
end

theorem lay_at (ps : List Pr) (w : Int) : ∀ (ts : List Str) (k : Nat) (t : Str) (L : Lay), ts[k]? = some t → (layersF ps w ts)[k]? = some L → L.length = offN w t
  | [], k, t, L, h, _ => by simp at h
  | [t], 0, _, _, h, k => by cases h; cases k; exact List.length_replicate ..
  | [t], i + 1, _, _, h, _ => by simp at h
  | t :: t' :: r, 0, _, L, h, k => by
    cases h
    have : L = (List.range (offN w t)).map fun (o : Nat) => bestP ps w (shown w t (o : Int)) t' ((layersF ps w (t' :: r)).headD []) := (Option.some.inj k).symm
    rw [this, List.length_map, List.length_range]
  | t :: t' :: r, i + 1, u, L, h, k => lay_at ps w (t' :: r) i u L (by simpa using h) (by rw [layF_cons] at k; simpa using k)
theorem chF_succ {ps : List Pr} {w : Int} {ts : List Str} {k : Nat} {t : Str} {L : Lay} (h1 : ts[k]? = some t) (h2 : (layersF ps w ts)[k]? = some L) : chF ps w ts (k + 1) = (chF ps w ts k).flatMap (extF ps w t L) := by
  have hz : (ts.zip (layersF ps w ts))[k]? = some (t, L) := List.getElem?_zip_eq_some.mpr ⟨h1, h2⟩
  unfold chF
  rw [List.take_succ, hz, List.foldl_append]
  rfl
theorem part_le {α β : Type} (f : α → List β) {l : List α} {c : Nat} {x : α} (h : l[c]? = some x) : ((l.take c).flatMap f).length + (f x).length ≤ (l.flatMap f).length := by
  obtain ⟨hc, hx⟩ := List.getElem?_eq_some_iff.mp h
  have e : l = l.take c ++ x :: l.drop (c + 1) := by
    rw [← hx, ← List.drop_eq_getElem_cons hc, List.take_append_drop]
  have e2 : (l.flatMap f).length = ((l.take c ++ x :: l.drop (c + 1)).flatMap f).length := by rw [← e]
  rw [e2, List.flatMap_append, List.flatMap_cons, List.length_append, List.length_append]
  omega
theorem fm_le {α β : Type} (f : α → Option β) (l : List α) (o : Nat) : ((l.take o).filterMap f).length ≤ (l.filterMap f).length := by
  have h : l.filterMap f = (l.take o).filterMap f ++ (l.drop o).filterMap f := by rw [← List.filterMap_append, List.take_append_drop]
  rw [h, List.length_append]
  omega
theorem fm_lt {α β : Type} (f : α → Option β) {l : List α} {o : Nat} {x : α} {y : β} (h : l[o]? = some x) (hf : f x = some y) : (l.take (o + 1)).filterMap f = (l.take o).filterMap f ++ [y] := by
  rw [List.take_succ, h, List.filterMap_append]
  show _ ++ List.filterMap f [x] = _
  rw [List.filterMap_cons, hf]
  rfl
theorem fm_eq {α β : Type} (f : α → Option β) {l : List α} {o : Nat} {x : α} (h : l[o]? = some x) (hf : f x = none) : (l.take (o + 1)).filterMap f = (l.take o).filterMap f := by
  rw [List.take_succ, h, List.filterMap_append]
  show _ ++ List.filterMap f [x] = _
  rw [List.filterMap_cons, hf]
  exact List.append_nil _
theorem ext_row {ps : List Pr} {w : Int} {t : Str} {L : Lay} {c c' : Ch} (ht : textOk w t) (hL : L.length = offN w t) (h : c' ∈ extF ps w t L c) : okRow w c'.2.1 ∧ c'.1.length = c.1.length + 1 := by
  unfold extF at h
  obtain ⟨p, hp, e⟩ := List.mem_filterMap.mp h
  have hk : p.2 < L.length := by
    obtain ⟨i, hi⟩ := List.getElem?_of_mem hp
    rw [List.getElem?_zipIdx] at hi
    cases g : L[i]? with
    | none => rw [g] at hi; cases hi
    | some v =>
      rw [g] at hi
      have hi := Option.some.inj hi
      rw [← hi]
      have := (List.getElem?_eq_some_iff.mp g).1
      simpa using this
  obtain ⟨of1, of2⟩ := offN_pos ht
  have t2 := ht.2.1
  split at e
  · cases e
    exact ⟨shown_ok ht (by omega) (by omega), by rw [List.length_append]; rfl⟩
  · cases e
/-- what was owned ahead is dropped -/
theorem ay_drops {Γ : Cg} {t : TGn} {F : Hp} {ms : Ms} {ys : List D} {S : Sg} {A : AGEnds} (N : Ms) (h : AY Γ t F ms ys S A) : AY Γ t F (N ++ ms) ys S A := fun R E σ H vs hs hh hy l => by
  have go : ∀ N : Ms, Hold Γ.K F (N ++ ms ++ R) H → Hold Γ.K F (ms ++ R) H := by
    intro N
    induction N with
    | nil => exact fun h => h
    | cons p N ih => exact fun h => ih h.tl
  exact h R E σ H vs hs (go N hh) hy l
theorem refs_at {ls : List Addr} {n : Nat} {d : D} (h : (ls.map D.ref)[n]? = some d) : ∃ l, ls[n]? = some l ∧ d = .ref l := by
  rw [List.getElem?_map] at h
  cases e : ls[n]? with
  | none => rw [e] at h; cases h
  | some p => rw [e] at h; exact ⟨p, rfl, (Option.some.inj h).symm⟩
theorem chs_at {cs : List Ch} {n : Nat} {d : D} (h : (cs.map chD)[n]? = some d) : ∃ c, cs[n]? = some c ∧ d = chD c := by
  rw [List.getElem?_map] at h
  cases e : cs[n]? with
  | none => rw [e] at h; cases h
  | some p => rw [e] at h; exact ⟨p, rfl, (Option.some.inj h).symm⟩
section
variable {P : Program} {w : World} {K : Frg} {mg : Str → Option Value} {base : Heap}
theorem ok_best_offsets (T : Txt K mg) (G_Sign_check_texts : OK_Sign_check_texts P w base T) (G_Sign_blank : OK_Sign_blank P w base T) (G_Sign_row_of : OK_Sign_row_of P w base T) (G_cost : OK_cost P w base T) (G_add : OK_add P w base T)
    (G_costs_from : OK_costs_from P w base T) (G_best_of : OK_best_of P w base T) : OK_best_offsets P w base T := by
  refine gfn_ok T.F_best_offsets sc_best_offsets (by rintro _ _ _ _ ⟨x, wd, ps, ts, rfl, _⟩; rfl) (fun cdv A outer s H E pn hr => ?_)
  have hu64 := hr.units
  refine ⟨_, (gss_cons (gs_ps (ps_expr (pe_meth (pv 0) T.k_Sign T.Me_Sign_check_texts G_Sign_check_texts (hr.mono (by first | decide | omega)) T.b_Sign_check_texts .nil pass0 (pa_cons (pv 1) pa_nil))))
      (gss_cons (gs_ps (ps_set (i := 2) sc_best_offsets.nd rfl (by first | exact Or.inl rfl | exact Or.inr rfl) (pe_call G_costs_from (hr.mono (by first | decide | omega)) (by rfl) T.m_costs_from T.F_costs_from.kp T.b_costs_from .nil pass0 (pa_cons (pv 0) (pa_cons (pv 1) pa_nil)))))
      (gss_cons (gs_ps (ps_set (i := 3) sc_best_offsets.nd rfl (by first | exact Or.inl rfl | exact Or.inr rfl) (pe_ix (kIX (K := K) rfl) (pe_call G_best_of (hr.mono (by first | decide | omega)) (by rfl) T.m_best_of T.F_best_of.kp T.b_best_of .nil pass0 (pa_cons (pv 0) (pa_cons (pe_prop (pv 0) T.k_Sign T.P_Sign_blank G_Sign_blank (hr.mono (by first | decide | omega)) T.b_Sign_blank .nil pass0 (by rfl)) (pa_cons (pe_ix (kIX (K := K) rfl) (pv 1) pe_int (fun _ _ => rfl)) (pa_cons (pe_ix (kIX (K := K) rfl) (pv 2) pe_int (fun _ _ => rfl)) pa_nil))))) pe_int (fun _ _ => rfl))))
      (gss_cons (gs_ps (ps_set (i := 4) sc_best_offsets.nd rfl (by first | exact Or.inl rfl | exact Or.inr rfl) (pe_lst (pa_cons (pe_tup (pa_cons (pe_tup pa_nil) (pa_cons (pe_prop (pv 0) T.k_Sign T.P_Sign_blank G_Sign_blank (hr.mono (by first | decide | omega)) T.b_Sign_blank .nil pass0 (by rfl)) (pa_cons (pv 3) pa_nil)))) pa_nil))))
      (gss_cons (gs_ps (ps_for PassesOwn.never rfl (RZ.pi_zipM (K := K) rfl (by rfl) T.g_zip (pa_cons (pv 1) (pa_cons (pv 2) pa_nil))) (pg_tupk (K := K) (n := 2) rfl rfl (pgs_cons (pg_name (i := 5) sc_best_offsets.nd rfl (by first | exact Or.inl rfl | exact Or.inr rfl)) (pgs_cons (pg_name (i := 6) sc_best_offsets.nd rfl (by first | exact Or.inl rfl | exact Or.inr rfl)) pgs_nil))) (pss_cons (ps_set (i := 7) sc_best_offsets.nd rfl (by first | exact Or.inl rfl | exact Or.inr rfl) (pe_lst pa_nil))
      (pss_cons (ps_for PassesOwn.never rfl (pi_listk (K := K) rfl (pv 4)) (pg_tupk (K := K) (n := 3) rfl rfl (pgs_cons (pg_name (i := 8) sc_best_offsets.nd rfl (by first | exact Or.inl rfl | exact Or.inr rfl)) (pgs_cons (pg_name (i := 9) sc_best_offsets.nd rfl (by first | exact Or.inl rfl | exact Or.inr rfl)) (pgs_cons (pg_name (i := 10) sc_best_offsets.nd rfl (by first | exact Or.inl rfl | exact Or.inr rfl)) pgs_nil)))) (pss_one (ps_lock (ps_for PassesOwn.never rfl (pi_items (pv 6)) (pg_tupk (K := K) (n := 2) rfl rfl (pgs_cons (pg_name (i := 11) sc_best_offsets.nd rfl (by first | exact Or.inl rfl | exact Or.inr rfl)) (pgs_cons (pg_tupk (K := K) (n := 2) rfl rfl (pgs_cons (pg_name (i := 12) sc_best_offsets.nd rfl (by first | exact Or.inl rfl | exact Or.inr rfl)) (pgs_cons (pg_name (i := 13) sc_best_offsets.nd rfl (by first | exact Or.inl rfl | exact Or.inr rfl)) pgs_nil))) pgs_nil))) (pss_cons (ps_set (i := 14) sc_best_offsets.nd rfl (by first | exact Or.inl rfl | exact Or.inr rfl) (pe_meth (pv 0) T.k_Sign T.Me_Sign_row_of G_Sign_row_of (hr.mono (by first | decide | omega)) T.b_Sign_row_of .nil pass0 (pa_cons (pv 5) (pa_cons (pv 11) pa_nil))))
      (pss_one (ps_if (pt_cmpR (kEQ (K := K) rfl hu64) (pe_call G_add (hr.mono (by first | decide | omega)) (by rfl) T.m_add T.F_add.kp T.b_add .nil pass0 (pa_cons (pe_call G_cost (hr.mono (by first | decide | omega)) (by rfl) T.m_cost T.F_cost.kp T.b_cost .nil pass0 (pa_cons (pv 0) (pa_cons (pv 9) (pa_cons (pv 14) pa_nil)))) (pa_cons (pv 12) pa_nil))) (pv 10) (nomark _)) (pss_one (ps_expr (pe_bmk (K := K) rfl PySem.F.plainAttrs_list PySem.F.slot_list_append PySem.F.type_list_append mt_append (pv 7) (pa_cons (pe_tup (pa_cons (pe_op (kADD (K := K) rfl) (pv 8) (pe_tup (pa_cons (pv 11) pa_nil))) (pa_cons (pv 14) (pa_cons (pv 12) pa_nil)))) pa_nil)))) pss_nil)))))))
      (pss_one (ps_set (i := 4) sc_best_offsets.nd rfl (by first | exact Or.inl rfl | exact Or.inr rfl) (pv 7)))))))
      (gss_cons (gs_for PassesOwn.never rfl (pi_listk (K := K) rfl (pv 4)) (pg_tupk (K := K) (n := 3) rfl rfl (pgs_cons (pg_name (i := 8) sc_best_offsets.nd rfl (by first | exact Or.inl rfl | exact Or.inr rfl)) (pgs_cons (pg_name (i := 9) sc_best_offsets.nd rfl (by first | exact Or.inl rfl | exact Or.inr rfl)) (pgs_cons (pg_name (i := 10) sc_best_offsets.nd rfl (by first | exact Or.inl rfl | exact Or.inr rfl)) pgs_nil)))) (gss_cons (gs_yield (pv 8))
      gss_nil))
      gss_nil)))))), ?_⟩
  rintro _ F ms Q ⟨x, wd, ps, ts, rfl, hS, hOk, hB, q⟩
  obtain ⟨i, j, m, hi, hj⟩ := id hS
  obtain ⟨w1, w2, hp, hpL, hpN, ht1, ht2, ht⟩ := id hOk
  refine ay_then (ay_plain ?_)
  walk_at "al"
  refine ae_meth ?_
  walk_at "al"
  refine ⟨x, fldS m wd ps, rfl, .inr ⟨i, hi⟩, fld_no (by decide +kernel) (by decide +kernel) (by decide +kernel), ?_⟩
  walk_at "al"
  refine ⟨x, wd, ps, ts, rfl, ⟨i, j, m, hi, hj⟩, w2, ht1, ht2, ht, fun F1 e1 => ?_⟩
  refine ay_then (ay_plain ?_)
  walk_at "al"
  refine ⟨x, wd, ps, _, rfl, ⟨i, j, m, hi, hj⟩, hOk, fun F2 ls e2 hls => ?_⟩
  refine ay_then (ay_plain ?_)
  have hll := layF_len ps wd ts
  have hMl := layO_len ls (layersF ps wd ts) (by omega)
  have hMk : ∀ (k : Nat) (l : Addr) (L : Lay), ls[k]? = some l → (layersF ps wd ts)[k]? = some L → (layO ls (layersF ps wd ts) ++ ms)[k]? = some (l, .dic (layK 0 L)) := fun k l L h1 h2 => by
    have hk := (List.getElem?_eq_some_iff.mp h1).1
    rw [List.getElem?_append_left (by rw [hMl]; exact hk)]
    exact layO_get ls _ k l L h1 h2
  have hSM : Sgn T.c_Sign (layO ls (layersF ps wd ts) ++ ms) x wd ps := hS.pre _
  have hdrop : ∃ N, layO ls (layersF ps wd ts) ++ ms = N ++ ms := ⟨_, rfl⟩
  generalize layO ls (layersF ps wd ts) ++ ms = M at hMk hSM hdrop ⊢
  obtain ⟨i, j, m, hi, hj⟩ := id hSM
  obtain ⟨t0, r, hts⟩ : ∃ t0 r, ts = t0 :: r := by
    cases ts with
    | nil => simp at ht1
    | cons t r => exact ⟨t, r, rfl⟩
  obtain ⟨l0, lr, hls0⟩ : ∃ l lr, ls = l :: lr := by
    cases ls with
    | nil => rw [hts] at hls; simp at hls
    | cons t r => exact ⟨t, r, rfl⟩
  have hL0 : (layersF ps wd ts)[0]? = some ((layersF ps wd ts).headD []) := by
    cases e : layersF ps wd ts with
    | nil => rw [e] at hll; simp at hll; omega
    | cons a b => rfl
  walk_at "al"
  refine ae_prop ?_
  walk_at "al"
  refine ⟨x, _, rfl, .inr ⟨i, hi⟩, x, wd, ps, rfl, ⟨i, j, m, hi, hj⟩, by omega, w2, ?_⟩
  walk_at "al"
  refine ar_ixT (d := .str t0) (atI_of (j := 0) rfl (by rw [hts]; rfl)) ?_
  walk_at "al"
  refine ar_ixL (d := .ref l0) (atI_of (j := 0) rfl (by rw [hls0]; rfl)) ?_
  walk_at "al"
  refine ⟨0, l0, x, wd, ps, _, t0, _, rfl, hMk 0 l0 _ (by rw [hls0]; rfl) hL0, hSM, by omega, w2, hpL, blank_ok (by omega), ht _ (by rw [hts]; exact List.mem_cons_self ..), by rw [hts]; exact lay_len _ _, fun F3 e3 => ?_⟩
  walk_at "al"
  refine ar_ixT (d := cD (seasonF ps wd ts)) (by rw [hts]; rfl) ?_
  refine ay_then (ay_plain ?_)
  walk_at "al"
  refine ae_lstF ?_
  walk_at "al"
  refine ae_tup ?_
  walk_at "al"
  refine ae_tup ?_
  walk_at "al"
  refine ⟨by simp, fun F4 e4 => ?_⟩
  walk_at "al"
  refine ae_prop ?_
  walk_at "al"
  refine ⟨x, _, rfl, .inr ⟨i, hi⟩, x, wd, ps, rfl, ⟨i, j, m, hi, hj⟩, by omega, w2, ?_⟩
  walk_at "al"
  refine ⟨by simp, fun F5 e5 => ?_⟩
  walk_at "al"
  refine ⟨by simp, fun F6 e6 => ?_⟩
  refine ay_then (ay_plain ?_)
  refine as_for ?_
  refine ai_zipM ?_
  walk_at "al"
  refine ⟨_, _, rfl, by rw [List.length_map, List.length_map, hls], ?_⟩
  refine ⟨fun k F' ms' S' => ms' = M ∧ (∀ c ∈ chF ps wd ts k, okRow wd c.2.1 ∧ c.1.length ≤ k) ∧ ∃ a b c d e f g h i2 j2, S' = [some (.ref x), some (.tup (ts.map D.str)), some (.lst (ls.map D.ref)), some (cD (seasonF ps wd ts)), some (.lst ((chF ps wd ts k).map chD)), a, b, c, d, e, f, g, h, i2, j2],
    ⟨rfl, fun c hc => ?_, none, none, none, none, none, none, none, none, none, none, rfl⟩, fun _ _ _ _ _ _ => trivial, ?_, ?_⟩
  · have hc : c ∈ ch0 ps wd ts := hc
    unfold ch0 at hc
    rw [List.mem_singleton.mp hc]
    exact ⟨blank_ok (by omega), Nat.le_refl _⟩
  · rintro k d F7 ms7 S7 e7 hd ⟨hm7, hrows, a, b, c, d, e, f, g, h, i2, j2, rfl⟩ F8 e8
    subst ms7
    obtain ⟨_, _, h1, h2, rfl⟩ := zipD_inv hd
    obtain ⟨t, hti, rfl⟩ := strs_at h1
    obtain ⟨l, hli, rfl⟩ := refs_at h2
    have hk := (List.getElem?_eq_some_iff.mp hti).1
    obtain ⟨L, hLi⟩ : ∃ L, (layersF ps wd ts)[k]? = some L := ⟨_, List.getElem?_eq_getElem (by omega)⟩
    have htk := ht _ (List.mem_of_getElem? hti)
    have hLl := lay_at ps wd ts k t L hti hLi
    have hMn := hMk k l L hli hLi
    have hsucc := chF_succ hti hLi
    have hb := hB (k + 1)
    obtain ⟨of1, of2⟩ := offN_pos htk
    have t2 := htk.2.1
    have hLn : L ≠ [] := by rintro rfl; simp at hLl; omega
    rw [hsucc] at hb
    generalize chF ps wd ts k = chs at hrows hsucc hb ⊢
    refine ag_tup rfl ?_
    refine ags_cons (ag_name ?_)
    refine ags_cons (ag_name ?_)
    refine ags_nil ?_
    refine as_norm (S' := [_, _, _, _, _, _, _, _, _, _, _, _, _, _, _]) rfl ?_
    walk_at "al"
    refine ae_lstO ?_
    walk_at "al"
    refine ⟨by simp, fun lg => ?_⟩
    walk_at "al"
    refine as_for ?_
    refine ai_list ?_
    walk_at "al"
    refine .inl ⟨_, .inl rfl, fun c F' ms' S' => ms' = (lg, .lst (((chs.take c).flatMap (extF ps wd t L)).map chD)) :: M ∧ ∃ d e f g h i2 j2, S' = [some (.ref x), some (.tup (ts.map D.str)), some (.lst (ls.map D.ref)), some (cD (seasonF ps wd ts)), some (.lst (chs.map chD)), some (.str t), some (.ref l), some (.ref lg), d, e, f, g, h, i2, j2],
      ⟨rfl, d, e, f, g, h, i2, j2, rfl⟩, fun _ _ _ _ _ _ => trivial, ?_, ?_⟩
    · rintro c d F9 ms9 S9 e9 hd ⟨rfl, d, e, f, g, h, i2, j2, rfl⟩ F10 e10
      obtain ⟨ch, hch, rfl⟩ := chs_at hd
      obtain ⟨hrow, hol⟩ := hrows ch (List.mem_of_getElem? hch)
      have hpart := part_le (extF ps wd t L) hch
      have htk1 : (chs.take (c + 1)).flatMap (extF ps wd t L) = (chs.take c).flatMap (extF ps wd t L) ++ extF ps wd t L ch := by
        rw [List.take_succ, hch, List.flatMap_append]
        show _ ++ List.flatMap _ [ch] = _
        rw [List.flatMap_cons, List.flatMap_nil, List.append_nil]
      obtain ⟨pre, hpre⟩ : ∃ p, p = (chs.take c).flatMap (extF ps wd t L) := ⟨_, rfl⟩
      rw [← hpre] at hpart htk1 ⊢
      obtain ⟨os, row, rest⟩ := ch
      refine ag_tup rfl ?_
      refine ags_cons (ag_name ?_)
      refine ags_cons (ag_name ?_)
      refine ags_cons (ag_name ?_)
      refine ags_nil ?_
      refine as_norm (S' := [_, _, _, _, _, _, _, _, _, _, _, _, _, _, _]) rfl ?_
      walk_at "al"
      refine as_lock (k + 1) (l := l) (kvs := layK 0 L) (by exact hMn) fun od vs rk => ?_
      have hS2 : Sgn T.c_Sign (M.set k (l, .raw (.frz od (.dK vs)))) x wd ps := hSM.setR hMn hLn
      have hM : (M.set k (l, .raw (.frz od (.dK vs))))[k]? = some (l, .raw (.frz od (.dK vs))) := set_get (List.getElem?_eq_some_iff.mp hMn).1
      have hBack : (M.set k (l, .raw (.frz od (.dK vs)))).set k (l, .dic (layK 0 L)) = M := by rw [set_set]; exact set_same hMn
      show AS _ _ _ ((lg, _) :: M.set k (l, .raw (.frz od (.dK vs)))) _ _
      generalize M.set k (l, .raw (.frz od (.dK vs))) = M2 at hS2 hM hBack ⊢
      obtain ⟨i, j, m, hi, hj⟩ := hS2
      refine as_for ?_
      refine ai_items ?_
      walk_at "al"
      refine ⟨l, od, vs, _, k + 1, rfl, hM, rk, ?_⟩
      refine ⟨fun o F' ms' S' => ms' = (lg, .lst ((pre ++ (L.zipIdx.take o).filterMap fun p => if addC (costP ps row (shown wd t (p.2 : Int)) wd) p.1.1 = rest then some (os ++ [(p.2 : Int)], shown wd t (p.2 : Int), p.1.1) else none).map chD)) :: M2 ∧ ∃ a b c d, S' = [some (.ref x), some (.tup (ts.map D.str)), some (.lst (ls.map D.ref)), some (cD (seasonF ps wd ts)), some (.lst (chs.map chD)), some (.str t), some (.ref l), some (.ref lg), some (.tup (os.map D.int)), some (.str row), some (cD rest), a, b, c, d],
        ⟨by rw [List.take_zero, List.filterMap_nil, List.append_nil], g, h, i2, j2, rfl⟩, ?_, ?_, ?_⟩
      · rintro o F2 ms2 S2 e2 ⟨rfl, _⟩
        exact ⟨k + 1, hM⟩
      · rintro o d F11 ms11 S11 e11 hd ⟨rfl, a, b, c, e, rfl⟩ F12 e12
        obtain ⟨v, hv, rfl⟩ : ∃ v, L[o]? = some v ∧ d = .tup [.int (o : Int), vD v] := by
          unfold itemsD at hd
          rw [List.getElem?_map, layK_get] at hd
          cases e : L[o]? with
          | none => rw [e] at hd; cases hd
          | some v => rw [e] at hd; exact ⟨v, rfl, by rw [← Option.some.inj hd, Nat.zero_add]; rfl⟩
        have ho := (List.getElem?_eq_some_iff.mp hv).1
        have o2 : (o : Int) + (t.length : Int) ≤ wd := by omega
        have hsh := shown_ok htk (by omega : 0 ≤ (o : Int)) o2
        have hz : L.zipIdx[o]? = some (v, o) := by rw [List.getElem?_zipIdx, hv]; simp
        have hfl := fm_le (fun p : (Cst × Int) × Nat => if addC (costP ps row (shown wd t (p.2 : Int)) wd) p.1.1 = rest then some (os ++ [(p.2 : Int)], shown wd t (p.2 : Int), p.1.1) else none) L.zipIdx o
        have hyes : addC (costP ps row (shown wd t (o : Int)) wd) v.1 = rest → (L.zipIdx.take (o + 1)).filterMap (fun p : (Cst × Int) × Nat => if addC (costP ps row (shown wd t (p.2 : Int)) wd) p.1.1 = rest then some (os ++ [(p.2 : Int)], shown wd t (p.2 : Int), p.1.1) else none) = (L.zipIdx.take o).filterMap (fun p : (Cst × Int) × Nat => if addC (costP ps row (shown wd t (p.2 : Int)) wd) p.1.1 = rest then some (os ++ [(p.2 : Int)], shown wd t (p.2 : Int), p.1.1) else none) ++ [(os ++ [(o : Int)], shown wd t (o : Int), v.1)] := fun he => fm_lt _ hz (if_pos he)
        have hno : ¬ addC (costP ps row (shown wd t (o : Int)) wd) v.1 = rest → (L.zipIdx.take (o + 1)).filterMap (fun p : (Cst × Int) × Nat => if addC (costP ps row (shown wd t (p.2 : Int)) wd) p.1.1 = rest then some (os ++ [(p.2 : Int)], shown wd t (p.2 : Int), p.1.1) else none) = (L.zipIdx.take o).filterMap (fun p : (Cst × Int) × Nat => if addC (costP ps row (shown wd t (p.2 : Int)) wd) p.1.1 = rest then some (os ++ [(p.2 : Int)], shown wd t (p.2 : Int), p.1.1) else none) := fun he => fm_eq _ hz (if_neg he)
        have hfin : (pre ++ (L.zipIdx.take o).filterMap fun p => if addC (costP ps row (shown wd t (p.2 : Int)) wd) p.1.1 = rest then some (os ++ [(p.2 : Int)], shown wd t (p.2 : Int), p.1.1) else none).length ≤ 10000 := by
          rw [List.length_append]
          unfold extF at hpart hb
          dsimp only at hpart hb hfl
          omega
        generalize (L.zipIdx.take o).filterMap (fun p : (Cst × Int) × Nat => if addC (costP ps row (shown wd t (p.2 : Int)) wd) p.1.1 = rest then some (os ++ [(p.2 : Int)], shown wd t (p.2 : Int), p.1.1) else none) = part at hyes hno hfin ⊢
        refine ag_tup rfl ?_
        refine ags_cons (ag_name ?_)
        refine ags_cons (ag_tup rfl ?_)
        refine ags_cons (ag_name ?_)
        refine ags_cons (ag_name ?_)
        refine ags_nil ?_
        refine ags_nil ?_
        refine as_norm (S' := [_, _, _, _, _, _, _, _, _, _, _, _, _, _, _]) rfl ?_
        walk_at "al"
        refine ae_meth ?_
        walk_at "al"
        refine ⟨x, fldS m wd ps, rfl, .inr ⟨i + 1, hi⟩, fld_no (by decide +kernel) (by decide +kernel) (by decide +kernel), ?_⟩
        walk_at "al"
        refine ⟨x, wd, ps, t, _, rfl, ⟨i + 1, j + 1, m, hi, hj⟩, w2, by omega, o2, ?_⟩
        walk_at "al"
        refine ⟨x, wd, ps, row, _, rfl, ⟨i + 1, j + 1, m, hi, hj⟩, by omega, w2, hpL, hrow, hsh, fun F13 e13 => ?_⟩
        walk_at "al"
        refine ⟨costP ps row (shown wd t (o : Int)) wd, v.1, rfl, fun F14 e14 => ?_⟩
        walk_at "al"
        refine ar_EQd (d := cD (addC (costP ps row (shown wd t (o : Int)) wd) v.1)) (e := cD rest) rfl rfl (Nat.le_of_ble_eq_true rfl) (Nat.le_of_ble_eq_true rfl) ?_
        rw [eqv_cD]
        walk_at "al"
        refine ⟨fun hc => ?_, fun hc => ?_⟩
        · have hyes := hyes (of_decide_eq_true hc)
          walk_at "al"
          refine ae_bmL ?_
          walk_at "al"
          refine ⟨_, .inr ⟨0, lg, rfl, rfl⟩, ?_⟩
          walk_at "al"
          refine ae_tup ?_
          walk_at "al"
          refine ae_tup ?_
          walk_at "al"
          refine ⟨by simp, fun F15 e15 => ?_⟩
          refine ar_ADDt (xs := os.map D.int) (ys := [.int (o : Int)]) (by rw [List.length_map]; simp at hol ⊢; omega) fun F16 e16 => ?_
          walk_at "al"
          refine ⟨by simp, fun F17 e17 => ?_⟩
          walk_at "al"
          refine am_append 0 (l := lg) rfl (by rw [List.length_map]; omega) ?_
          refine ⟨?_, _, _, _, _, rfl⟩
          rw [hyes, ← List.append_assoc, List.map_append (l₁ := pre ++ part)]
          show (lg, MO.lst (_ ++ [.tup [.tup (os.map D.int ++ [.int (o : Int)]), _, _]])) :: M2 = _
          rw [show os.map D.int ++ [.int (o : Int)] = (os ++ [(o : Int)]).map D.int by rw [List.map_append]; rfl]
          rfl
        · have hno := hno (of_decide_eq_false hc)
          refine as_next ?_
          exact ⟨by rw [hno], _, _, _, _, rfl⟩
      · rintro F11 ms11 S11 e11 ⟨rfl, a, b, c2, d, rfl⟩
        have hl : (itemsD (layK 0 L)).length = L.zipIdx.length := by unfold itemsD; rw [List.length_map, layK_len, List.length_zipIdx]
        refine ⟨k + 1, hM, ?_⟩
        rw [hl, List.take_length]
        refine ⟨?_, _, _, _, _, _, _, _, rfl⟩
        show (lg, _) :: M2.set k (l, .dic (layK 0 L)) = _
        rw [hBack, htk1]
        rfl
    · rintro F9 ms9 S9 e9 ⟨rfl, d, e, f, g, h, i2, j2, rfl⟩
      rw [List.length_map, List.take_length, ← hsucc]
      refine as_frz (i := 7) 0 (l := lg) rfl rfl fun F10 e10 => ?_
      refine as_norm (S' := [_, _, _, _, _, _, _, _, _, _, _, _, _, _, _]) rfl ?_
      walk_at "al"
      refine ⟨rfl, fun c hc => ?_, _, _, _, _, _, _, _, _, _, _, rfl⟩
      rw [hsucc] at hc
      obtain ⟨c0, hc0, hc⟩ := List.mem_flatMap.mp hc
      obtain ⟨g1, g2⟩ := ext_row htk hLl hc
      have := (hrows c0 hc0).2
      exact ⟨g1, by omega⟩
  · rintro F7 ms7 S7 e7 ⟨hm7, hrows, a, b, c, d, e, f, g, h, i2, j2, rfl⟩
    subst ms7
    rw [zipD_len (by rw [List.length_map, List.length_map, hls]), List.length_map]
    have hbn := hB ts.length
    refine ay_then (ay_for ?_)
    refine ai_list ?_
    walk_at "al"
    refine .inl ⟨_, .inl rfl, fun c F' ms' ys S' => ms' = M ∧ ys = ((chF ps wd ts ts.length).take c).map (fun c => .tup (c.1.map D.int)) ∧ ∃ a b c d e f g h i2 j2, S' = [some (.ref x), some (.tup (ts.map D.str)), some (.lst (ls.map D.ref)), some (cD (seasonF ps wd ts)), some (.lst ((chF ps wd ts ts.length).map chD)), a, b, c, d, e, f, g, h, i2, j2],
      ⟨rfl, rfl, a, b, c, d, e, f, g, h, i2, j2, rfl⟩, fun _ _ _ _ _ _ _ => trivial, ?_, ?_⟩
    · rintro c d F8 ms8 ys S8 e8 hd ⟨rfl, rfl, a, b, c3, d, e, f, g, h, i2, j2, rfl⟩ F9 e9
      obtain ⟨ch, hch, rfl⟩ := chs_at hd
      have hcl := (List.getElem?_eq_some_iff.mp hch).1
      refine ag_tup rfl ?_
      refine ags_cons (ag_name ?_)
      refine ags_cons (ag_name ?_)
      refine ags_cons (ag_name ?_)
      refine ags_nil ?_
      refine ay_then (ay_yield (by rw [List.length_map, List.length_take]; omega) ?_)
      walk_at "al"
      refine ay_nil ?_
      refine ⟨rfl, ?_, _, _, _, _, _, _, _, _, _, _, rfl⟩
      rw [List.take_succ, hch, List.map_append]
      rfl
    · rintro F8 ms8 ys S8 e8 ⟨hm8, rfl, a, b, c3, d, e, f, g, h, i2, j2, rfl⟩
      subst ms8
      obtain ⟨N, rfl⟩ := hdrop
      refine ay_drops N (ay_nil ?_)
      rw [List.length_map, List.take_length]
      exact q _ (e1.trans (e2.trans (e3.trans (e4.trans (e5.trans (e6.trans (e7.trans e8)))))))
end

theorem cutL_take {α : Type} {xs : List α} {p : Nat} (h : p ≤ xs.length) : cutL xs none (some (p : Int)) = xs.take p := by
  have e1 : HT.sIx xs.length 0 none = 0 := rfl
  have e2 : HT.sIx xs.length xs.length (some (p : Int)) = p := by rw [HT.sIx_nat]; omega
  unfold cutL
  rw [e1, e2, List.drop_zero, Nat.sub_zero]
theorem cutL_all {α : Type} {xs : List α} {p : Nat} (h : xs.length ≤ p) : cutL xs none (some (p : Int)) = xs := by
  have e1 : HT.sIx xs.length 0 none = 0 := rfl
  have e2 : HT.sIx xs.length xs.length (some (p : Int)) = xs.length := by rw [HT.sIx_nat]; omega
  unfold cutL
  rw [e1, e2, List.drop_zero, Nat.sub_zero, List.take_of_length_le (Nat.le_refl _)]
theorem ok_snoc {w : Int} {ts : List Str} {os : List Int} {t : Str} {o : Int} (h : okOff w ts os) (o0 : 0 ≤ o) (o1 : o + (t.length : Int) ≤ w) : okOff w (ts ++ [t]) (os ++ [o]) := by
  refine ⟨by rw [List.length_append, List.length_append, h.1]; rfl, fun i t' o' h1 h2 => ?_⟩
  by_cases hi : i < ts.length
  · rw [List.getElem?_append_left hi] at h1
    rw [List.getElem?_append_left (by have := h.1; omega)] at h2
    exact h.2 i t' o' h1 h2
  · have hl := (List.getElem?_eq_some_iff.mp h1).1
    rw [List.length_append] at hl
    have hl : i < ts.length + 1 := hl
    have e : i = ts.length := by omega
    subst e
    rw [List.getElem?_append_right (Nat.le_refl _), Nat.sub_self] at h1
    rw [List.getElem?_append_right (by rw [h.1]; exact Nat.le_refl _), h.1, Nat.sub_self] at h2
    cases h1
    cases h2
    exact ⟨o0, o1⟩
theorem allF_ok {w : Int} : ∀ {r : List Str}, (∀ t ∈ r, textOk w t) → ∀ os ∈ allF w r, okOff w r.reverse os
  | [], _, os, h => by
    have h : os ∈ [[]] := h
    rw [List.mem_singleton.mp h]
    exact ⟨rfl, fun i t o h1 _ => by simp at h1⟩
  | t :: r, ht, os, h => by
    obtain ⟨s, hs, h2⟩ := List.mem_flatMap.mp h
    obtain ⟨o, ho, rfl⟩ := List.mem_map.mp h2
    have ih := allF_ok (fun x hx => ht x (List.mem_cons_of_mem _ hx)) s hs
    have of2 := (offN_pos (ht t (List.mem_cons_self ..))).2
    have := List.mem_range.mp ho
    rw [List.reverse_cons]
    exact ok_snoc ih (by omega) (by omega)
theorem allF_has {w : Int} : ∀ {r : List Str}, (∀ t ∈ r, textOk w t) → ∀ os, okOff w r.reverse os → os ∈ allF w r
  | [], _, os, h => by
    have := h.1
    have e : os = [] := List.length_eq_zero_iff.mp (by simpa using this)
    rw [e]
    exact List.mem_singleton.mpr rfl
  | t :: r, ht, os, h => by
    rw [List.reverse_cons] at h
    have hl := h.1
    rw [List.length_append] at hl
    have hl : os.length = r.reverse.length + 1 := hl
    have hne : os ≠ [] := by rintro rfl; simp at hl
    have e : os = os.dropLast ++ [os.getLast hne] := (List.dropLast_concat_getLast hne).symm
    have hdl : os.dropLast.length = r.reverse.length := by rw [List.length_dropLast]; omega
    generalize os.dropLast = s at e hdl
    generalize os.getLast hne = o at e
    subst e
    have h1 : okOff w r.reverse s := ⟨hdl, fun i t' o' a b => h.2 i t' o' (by rw [List.getElem?_append_left (List.getElem?_eq_some_iff.mp a).1]; exact a) (by rw [List.getElem?_append_left (List.getElem?_eq_some_iff.mp b).1]; exact b)⟩
    obtain ⟨o0, o1⟩ := h.2 r.reverse.length t o (by rw [List.getElem?_append_right (Nat.le_refl _), Nat.sub_self]; rfl) (by rw [List.getElem?_append_right (by omega), hdl, Nat.sub_self]; rfl)
    have of2 := (offN_pos (ht t (List.mem_cons_self ..))).2
    refine List.mem_flatMap.mpr ⟨s, allF_has (fun x hx => ht x (List.mem_cons_of_mem _ hx)) s h1, List.mem_map.mpr ⟨o.toNat, List.mem_range.mpr (by omega), ?_⟩⟩
    rw [show ((o.toNat : Nat) : Int) = o by omega]
section
variable {P : Program} {w : World} {K : Frg} {mg : Str → Option Value} {base : Heap}
end
noncomputable def leP (a b : Cst) : Prop := a.1 < b.1 ∨ (a.1 = b.1 ∧ a.2 ≤ b.2)
theorem ltC_iff (a b : Cst) : ltC a b = true ↔ a.1 < b.1 ∨ (a.1 = b.1 ∧ a.2 < b.2) := by
  unfold ltC
  split
  · rename_i h
    rw [decide_eq_true_iff]
    omega
  · rename_i h
    rw [decide_eq_true_iff]
    omega
theorem leP_refl (a : Cst) : leP a a := .inr ⟨rfl, Int.le_refl _⟩
theorem leP_trans {a b c : Cst} (h : leP a b) (k : leP b c) : leP a c := by unfold leP at *; omega
theorem leP_add {a b c : Cst} (h : leP a b) : leP (addC c a) (addC c b) := by unfold leP addC at *; dsimp only; omega
theorem leP_not {a b : Cst} (h : leP a b) : ltC b a = false := by
  cases e : ltC b a with
  | false => rfl
  | true => have := (ltC_iff b a).mp e; unfold leP at h; omega
theorem not_leP {a b : Cst} (h : ¬ ltC b a = true) : leP a b := by
  rw [ltC_iff] at h
  unfold leP
  omega
theorem stepB_le : ∀ (L : Lay) (b : BS) (c : Cst), (L.foldl stepB b).1 = some c → (∀ b0, b.1 = some b0 → leP c b0) ∧ ∀ v ∈ L, leP c v.1
  | [], b, c, h => ⟨fun b0 e => by rw [List.foldl_nil, e] at h; cases h; exact leP_refl _, fun v hv => by cases hv⟩
  | v :: L, b, c, h => by
    rw [List.foldl_cons] at h
    obtain ⟨h1, h2⟩ := stepB_le L _ c h
    have key : (∀ b0, b.1 = some b0 → leP c b0) ∧ leP c v.1 := by
      obtain ⟨bo, y⟩ := b
      cases bo with
      | none => exact ⟨fun b0 e => (nomatch e), h1 _ rfl⟩
      | some b =>
        have e : stepB (some b, y) v = if ltC v.1 b = true then (some v.1, v.2) else if v.1 = b then (some b, y + v.2) else (some b, y) := rfl
        rw [e] at h1
        by_cases l : ltC v.1 b = true
        · rw [if_pos l] at h1
          have hv := h1 _ rfl
          refine ⟨fun b0 e => ?_, hv⟩
          cases e
          refine leP_trans hv ?_
          have := (ltC_iff _ _).mp l
          unfold leP
          omega
        · rw [if_neg l] at h1
          have hb : leP c b := by
            split at h1
            · exact h1 _ rfl
            · exact h1 _ rfl
          exact ⟨fun b0 e => by cases e; exact hb, leP_trans hb (not_leP l)⟩
    refine ⟨key.1, fun u hu => ?_⟩
    rcases List.mem_cons.mp hu with rfl | hu
    · exact key.2
    · exact h2 u hu
theorem best_le {ps : List Pr} {w : Int} {row t : Str} {L : Lay} {i : Nat} {v : Cst × Int} (h : L[i]? = some v) : leP (bestP ps w row t L).1 (addC (costP ps row (shown w t (i : Int)) w) v.1) := by
  have hL : L ≠ [] := by rintro rfl; simp at h
  obtain ⟨c, hc⟩ := best_some (ps := ps) (w := w) (row := row) (t := t) hL
  have := (stepB_le _ _ c hc).2 _ (List.mem_of_getElem? (tots_get h))
  unfold bestP
  rw [hc]
  exact this
noncomputable def sumC (ps : List Pr) (w : Int) : Str → List (Str × Int) → Cst
  | _, [] => (0, 0)
  | row, p :: r => addC (costP ps row (shown w p.1 p.2) w) (sumC ps w (shown w p.1 p.2) r)
theorem addC_assoc (a b c : Cst) : addC (addC a b) c = addC a (addC b c) := by unfold addC; dsimp only; rw [Int.add_assoc, Int.add_assoc]
theorem addC_zero (a : Cst) : addC a (0, 0) = a := by unfold addC; simp
theorem zero_addC (a : Cst) : addC (0, 0) a = a := by unfold addC; simp
theorem fix_sum (ps : List Pr) (w : Int) : ∀ (L : List (Str × Int)) (tot : Cst) (row : Str), (L.foldl (stepF ps w) (tot, row)).1 = addC tot (sumC ps w row L)
  | [], tot, row => (addC_zero tot).symm
  | p :: L, tot, row => by
    rw [List.foldl_cons]
    show (L.foldl (stepF ps w) (addC tot (costP ps row (shown w p.1 p.2) w), shown w p.1 p.2)).1 = _
    rw [fix_sum ps w L, addC_assoc]
    rfl
theorem head_le (ps : List Pr) (w : Int) : ∀ (r : List Str) (t : Str) (o : Int) (os : List Int), okOff w (t :: r) (o :: os) → (∀ x ∈ t :: r, textOk w x) →
    ∃ v, ((layersF ps w (t :: r)).headD [])[o.toNat]? = some v ∧ leP v.1 (sumC ps w (shown w t o) (r.zip os))
  | [], t, o, os, hO, ht => by
    obtain ⟨o1, o2⟩ := hO.2 0 t o rfl rfl
    have h := offN_pos (ht t (List.mem_cons_self ..))
    refine ⟨((0, 0), 1), ?_, leP_refl _⟩
    show (List.replicate (offN w t) ((0, 0), 1))[o.toNat]? = _
    rw [List.getElem?_replicate, if_pos (by omega)]
  | t' :: r, t, o, [], hO, ht => by have := hO.1; simp at this
  | t' :: r, t, o, o' :: os, hO, ht => by
    obtain ⟨o1, o2⟩ := hO.2 0 t o rfl rfl
    obtain ⟨o3, o4⟩ := hO.2 1 t' o' rfl rfl
    have h := offN_pos (ht t (List.mem_cons_self ..))
    have hO' : okOff w (t' :: r) (o' :: os) := ⟨by have := hO.1; simpa using this, fun i x y h1 h2 => hO.2 (i + 1) x y h1 h2⟩
    obtain ⟨v, hv1, hv2⟩ := head_le ps w r t' o' os hO' fun x hx => ht x (List.mem_cons_of_mem _ hx)
    rw [rowsF_eq]
    refine ⟨_, by rw [List.getElem?_map, List.getElem?_range (by omega)]; rfl, ?_⟩
    have hb := best_le (ps := ps) (w := w) (row := shown w t (o.toNat : Int)) (t := t') hv1
    rw [show ((o.toNat : Nat) : Int) = o by omega, show ((o'.toNat : Nat) : Int) = o' by omega] at hb
    show leP (bestP ps w (shown w t (o.toNat : Int)) t' ((layersF ps w (t' :: r)).headD [])).1 _
    rw [show ((o.toNat : Nat) : Int) = o by omega]
    exact leP_trans hb (leP_add hv2)
theorem price_ge {ps : List Pr} {w : Int} {ts : List Str} {os : List Int} (hOk : okSeason w ps ts) (hO : okOff w ts os) : ltC (fixF ps w ts os) (seasonF ps w ts) = false := by
  obtain ⟨w1, w2, hp, hpL, hpN, ht1, ht2, ht⟩ := hOk
  cases ts with
  | nil => simp at ht1
  | cons t r =>
    cases os with
    | nil => have := hO.1; simp at this
    | cons o os =>
      obtain ⟨o1, o2⟩ := hO.2 0 t o rfl rfl
      obtain ⟨v, hv1, hv2⟩ := head_le ps w r t o os hO ht
      refine leP_not ?_
      unfold fixF
      rw [fix_sum, zero_addC]
      have hb := best_le (ps := ps) (w := w) (row := mulS sp1 w) (t := t) hv1
      rw [show ((o.toNat : Nat) : Int) = o by omega] at hb
      exact leP_trans hb (leP_add hv2)
/-! the bytes tell the texts -/

theorem valC_set (m : Cn) (c d : Nat) (z : Int) : valC (setC m c z) d = if d = c then z else valC m d := by
  unfold setC
  cases e : m.any fun p => decide (p.1 = c) with
  | true =>
    rw [if_pos rfl]
    induction m with
    | nil => cases e
    | cons p m ih =>
      unfold valC at ih ⊢
      rw [List.map_cons, List.find?_cons]
      by_cases hp : p.1 = c
      · rw [if_pos hp]
        by_cases hd : d = c
        · subst hd
          rw [if_pos rfl, show decide ((p.1, z).1 = d) = true from decide_eq_true hp]
          rfl
        · rw [if_neg hd, show decide ((p.1, z).1 = d) = false from decide_eq_false fun h => hd (h.symm.trans hp), List.find?_cons, show decide (p.1 = d) = false from decide_eq_false fun h => hd (h.symm.trans hp)]
          show ((m.map fun p => if p.1 = c then (p.1, z) else p).find? _ |>.map _).getD 0 = _
          have gen : ∀ m : Cn, ((m.map fun p => if p.1 = c then (p.1, z) else p).find? fun p => decide (p.1 = d)) = m.find? fun p => decide (p.1 = d) := by
            intro m
            induction m with
            | nil => rfl
            | cons q m ih2 =>
              rw [List.map_cons, List.find?_cons, List.find?_cons]
              by_cases hq : q.1 = c
              · rw [if_pos hq, show decide ((q.1, z).1 = d) = false from decide_eq_false fun h => hd (h.symm.trans hq)]
                exact ih2
              · rw [if_neg hq]
                by_cases hqd : q.1 = d
                · rw [show decide (q.1 = d) = true from decide_eq_true hqd]
                · rw [show decide (q.1 = d) = false from decide_eq_false hqd]
                  exact ih2
          rw [gen]
      · rw [if_neg hp, List.find?_cons]
        by_cases hpd : p.1 = d
        · rw [show decide (p.1 = d) = true from decide_eq_true hpd, if_neg (fun h => hp (hpd.trans h))]
        · rw [show decide (p.1 = d) = false from decide_eq_false hpd]
          refine ih ?_
          rw [List.any_cons, decide_eq_false hp, Bool.false_or] at e
          exact e
  | false =>
    rw [if_neg (by decide)]
    rw [List.any_eq_false] at e
    unfold valC
    rw [List.find?_append]
    by_cases hd : d = c
    · subst hd
      rw [if_pos rfl, List.find?_eq_none.mpr e, Option.none_or, List.find?_cons, show decide ((d, z).1 = d) = true from decide_eq_true rfl]
      rfl
    · rw [if_neg hd, List.find?_cons, show decide ((c, z).1 = d) = false from decide_eq_false (Ne.symm hd)]
      cases m.find? fun p => decide (p.1 = d) <;> rfl
theorem valC_mem {m : Cn} (nd : (m.map (·.1)).Nodup) : ∀ p ∈ m, valC m p.1 = p.2 := by
  induction m with
  | nil => intro p hp; cases hp
  | cons q m ih =>
    intro p hp
    rw [List.map_cons, List.nodup_cons] at nd
    unfold valC at ih ⊢
    rw [List.find?_cons]
    rcases List.mem_cons.mp hp with rfl | hp
    · rw [decide_eq_true rfl]; rfl
    · have hne : q.1 ≠ p.1 := fun e => nd.1 (List.mem_map.mpr ⟨p, hp, e.symm⟩)
      rw [decide_eq_false hne]
      exact ih nd.2 p hp
theorem mem_valC {m : Cn} {c : Nat} (h : valC m c ≠ 0) : (c, valC m c) ∈ m := by
  unfold valC at h ⊢
  cases e : m.find? fun p => decide (p.1 = c) with
  | none => rw [e] at h; exact absurd rfl h
  | some p =>
    have h1 := List.mem_of_find?_eq_some e
    have h2 : p.1 = c := of_decide_eq_true (List.find?_some (p := fun p : Nat × Int => decide (p.1 = c)) e)
    show (c, p.2) ∈ m
    rw [← h2]
    exact h1
theorem setC_mem {m : Cn} {c : Nat} {z : Int} {p : Nat × Int} (h : p ∈ setC m c z) : p ∈ m ∨ p = (c, z) := by
  unfold setC at h
  split at h
  · obtain ⟨q, hq, rfl⟩ := List.mem_map.mp h
    split
    · rename_i e; rw [e]; exact .inr rfl
    · exact .inl hq
  · rcases List.mem_append.mp h with h | h
    · exact .inl h
    · exact .inr (List.mem_singleton.mp h)
/-! the letters of a text -/
noncomputable def stepLw (ps : List Pr) (m : Cn) (a : Nat) : Cn := if a = 32 then m else setC m (pc ps a) (valC m (pc ps a) + 1)
theorem letF_step (ps : List Pr) : ∀ (cs : List Nat) (m : Cn), (cs.filter fun a => decide (a ≠ 32)).foldl (fun m a => setC m (pc ps a) (valC m (pc ps a) + 1)) m = cs.foldl (stepLw ps) m
  | [], m => rfl
  | a :: cs, m => by
    rw [List.filter_cons, List.foldl_cons]
    unfold stepLw
    by_cases h : a = 32
    · rw [if_neg (by simp [h]), if_pos h]
      exact letF_step ps cs m
    · rw [if_pos (by simp [h]), if_neg h, List.foldl_cons]
      exact letF_step ps cs _
theorem letF_eq (ps : List Pr) (cs : List Nat) : letF ps cs = cs.foldl (stepLw ps) [] := letF_step ps cs []
noncomputable def cntL (ps : List Pr) (cs : List Nat) (c : Nat) : Int := ((cs.countP fun a => decide (a ≠ 32) && decide (pc ps a = c) : Nat) : Int)
theorem fold_val (ps : List Pr) (c : Nat) : ∀ (cs : List Nat) (m : Cn), valC (cs.foldl (stepLw ps) m) c = valC m c + cntL ps cs c
  | [], m => by simp [cntL]
  | a :: cs, m => by
    rw [List.foldl_cons, fold_val ps c cs]
    unfold cntL stepLw
    rw [List.countP_cons]
    by_cases h : a = 32
    · rw [if_pos h]
      simp [h]
    · rw [if_neg h, valC_set]
      by_cases hc : c = pc ps a
      · subst hc
        simp [h]
        omega
      · rw [if_neg hc]
        simp [h, Ne.symm hc]
theorem let_val (ps : List Pr) (cs : List Nat) (c : Nat) : valC (letF ps cs) c = cntL ps cs c := by
  rw [letF_eq, fold_val]
  show 0 + _ = _
  omega
theorem fold_ok (ps : List Pr) : ∀ (cs : List Nat) (m : Cn), (m.map (·.1)).Nodup → (∀ p ∈ m, 0 < p.2) → ((cs.foldl (stepLw ps) m).map (·.1)).Nodup ∧ (∀ p ∈ cs.foldl (stepLw ps) m, 0 < p.2) ∧ (cs.foldl (stepLw ps) m).length ≤ m.length + cs.length
  | [], m, h1, h2 => ⟨h1, h2, Nat.le_refl _⟩
  | a :: cs, m, h1, h2 => by
    rw [List.foldl_cons]
    have h3 : ((stepLw ps m a).map (·.1)).Nodup := by
      unfold stepLw
      split
      · exact h1
      · exact setC_nd _ _ h1
    have h4 : ∀ p ∈ stepLw ps m a, 0 < p.2 := by
      unfold stepLw
      split
      · exact h2
      · intro p hp
        rcases setC_mem hp with hp | rfl
        · exact h2 p hp
        · show 0 < valC m (pc ps a) + 1
          by_cases hz : valC m (pc ps a) = 0
          · omega
          · have := h2 _ (mem_valC hz)
            have : 0 < valC m (pc ps a) := this
            omega
    have h5 : (stepLw ps m a).length ≤ m.length + 1 := by
      unfold stepLw
      split
      · omega
      · exact setC_len _ _ _
    obtain ⟨i1, i2, i3⟩ := fold_ok ps cs _ h3 h4
    exact ⟨i1, i2, by rw [List.length_cons]; omega⟩
theorem let_ok (ps : List Pr) (cs : List Nat) : ((letF ps cs).map (·.1)).Nodup ∧ (∀ p ∈ letF ps cs, 0 < p.2) ∧ (letF ps cs).length ≤ cs.length := by
  have := fold_ok ps cs [] (by simp) (fun p hp => by cases hp)
  rw [letF_eq]
  refine ⟨this.1, this.2.1, ?_⟩
  have := this.2.2
  simpa using this
/-! the most of all texts -/
noncomputable def stepX (M : Cn) (p : Nat × Int) : Cn := setC M p.1 (max p.2 (valC M p.1))
noncomputable def mostF (ps : List Pr) (ts : List Str) : Cn := ts.foldl (fun M t => (letF ps t.cps.toList).foldl stepX M) []
theorem stepX_val (M : Cn) (p : Nat × Int) (d : Nat) : valC (stepX M p) d = if d = p.1 then max p.2 (valC M d) else valC M d := by
  unfold stepX
  rw [valC_set]
  by_cases h : d = p.1
  · rw [if_pos h, if_pos h, h]
  · rw [if_neg h, if_neg h]
theorem foldX_val (d : Nat) : ∀ (L : Cn) (M : Cn), (L.map (·.1)).Nodup → (∀ p ∈ L, 0 < p.2) → 0 ≤ valC M d → valC (L.foldl stepX M) d = max (valC M d) (valC L d)
  | [], M, _, _, h => by
    show valC M d = max (valC M d) 0
    omega
  | p :: L, M, nd, hp, h => by
    rw [List.map_cons, List.nodup_cons] at nd
    have hM : 0 ≤ valC (stepX M p) d := by
      rw [stepX_val]
      split
      · omega
      · exact h
    rw [List.foldl_cons, foldX_val d L _ nd.2 (fun q hq => hp q (List.mem_cons_of_mem _ hq)) hM, stepX_val]
    by_cases hd : d = p.1
    · rw [if_pos hd]
      have e1 : valC L d = 0 := by
        by_cases hz : valC L d = 0
        · exact hz
        · exact absurd (List.mem_map.mpr ⟨_, mem_valC hz, hd⟩) nd.1
      have e2 : valC (p :: L) d = p.2 := by
        unfold valC
        rw [List.find?_cons, show decide (p.1 = d) = true from decide_eq_true hd.symm]
        rfl
      have := hp p (List.mem_cons_self ..)
      rw [e1, e2]
      omega
    · rw [if_neg hd]
      have e2 : valC (p :: L) d = valC L d := by
        unfold valC
        rw [List.find?_cons, show decide (p.1 = d) = false from decide_eq_false (Ne.symm hd)]
      rw [e2]
theorem most_gen (ps : List Pr) (d : Nat) : ∀ (ts : List Str) (M : Cn), 0 ≤ valC M d → valC (ts.foldl (fun M t => (letF ps t.cps.toList).foldl stepX M) M) d = ts.foldl (fun m t => max m (cntP ps t d)) (valC M d)
  | [], M, _ => rfl
  | t :: ts, M, h => by
    obtain ⟨l1, l2, _⟩ := let_ok ps t.cps.toList
    have e := foldX_val d (letF ps t.cps.toList) M l1 l2 h
    rw [let_val] at e
    rw [List.foldl_cons, List.foldl_cons, most_gen ps d ts _ (by rw [e]; omega), e]
    rfl
theorem most_val (ps : List Pr) (ts : List Str) (d : Nat) : valC (mostF ps ts) d = needC ps ts d := most_gen ps d ts [] (Int.le_refl _)
theorem foldX_ok : ∀ (L : Cn) (M : Cn), (M.map (·.1)).Nodup → (∀ p ∈ M, 0 < p.2) → (∀ p ∈ L, 0 < p.2) → ((L.foldl stepX M).map (·.1)).Nodup ∧ (∀ p ∈ L.foldl stepX M, 0 < p.2) ∧ (L.foldl stepX M).length ≤ M.length + L.length
  | [], M, h1, h2, _ => ⟨h1, h2, Nat.le_refl _⟩
  | p :: L, M, h1, h2, h3 => by
    rw [List.foldl_cons]
    have hp := h3 p (List.mem_cons_self ..)
    obtain ⟨i1, i2, i3⟩ := foldX_ok L (stepX M p) (setC_nd _ _ h1) (fun q hq => by
      rcases setC_mem hq with hq | rfl
      · exact h2 q hq
      · show 0 < max p.2 (valC M p.1)
        omega) (fun q hq => h3 q (List.mem_cons_of_mem _ hq))
    have := setC_len M p.1 (max p.2 (valC M p.1))
    have : (stepX M p).length ≤ M.length + 1 := this
    exact ⟨i1, i2, by rw [List.length_cons]; omega⟩
theorem most_ok (ps : List Pr) : ∀ (ts : List Str) (M : Cn), (M.map (·.1)).Nodup → (∀ p ∈ M, 0 < p.2) → ((ts.foldl (fun M t => (letF ps t.cps.toList).foldl stepX M) M).map (·.1)).Nodup ∧ (∀ p ∈ ts.foldl (fun M t => (letF ps t.cps.toList).foldl stepX M) M, 0 < p.2)
  | [], M, h1, h2 => ⟨h1, h2⟩
  | t :: ts, M, h1, h2 => by
    rw [List.foldl_cons]
    obtain ⟨l1, l2, _⟩ := let_ok ps t.cps.toList
    obtain ⟨i1, i2, _⟩ := foldX_ok (letF ps t.cps.toList) M h1 h2 l2
    exact most_ok ps ts _ i1 i2
theorem need_of {ps : List Pr} {ts : List Str} {cs : List Nat} (hp : cs.Perm ((mostF ps ts).map (·.1))) (hs : cs.Pairwise (· ≤ ·)) : NeedOk ps ts (cs.map fun c => (c, valC (mostF ps ts) c)) := by
  obtain ⟨m1, m2⟩ := most_ok ps ts [] (by simp) (fun p hp => by cases hp)
  have m1 : ((mostF ps ts).map (·.1)).Nodup := m1
  have m2 : ∀ p ∈ mostF ps ts, 0 < p.2 := m2
  have hnd : cs.Nodup := hp.nodup_iff.mpr m1
  refine ⟨?_, fun p => ?_⟩
  · rw [List.map_map]
    have : cs.map ((fun p : Nat × Int => p.1) ∘ fun c => (c, valC (mostF ps ts) c)) = cs := by
      have : ((fun p : Nat × Int => p.1) ∘ fun c => (c, valC (mostF ps ts) c)) = id := rfl
      rw [this, List.map_id]
    rw [this]
    exact (List.Pairwise.and hs hnd).imp fun ⟨a, b⟩ => Nat.lt_of_le_of_ne a b
  · rw [List.mem_map]
    constructor
    · rintro ⟨c, hc, rfl⟩
      obtain ⟨q, hq, e⟩ := List.mem_map.mp (hp.mem_iff.mp hc)
      have e : q.1 = c := e
      refine ⟨most_val ps ts c, ?_⟩
      show 0 < valC (mostF ps ts) c
      rw [← e, valC_mem m1 q hq]
      exact m2 q hq
    · rintro ⟨h1, h2⟩
      rw [← most_val] at h1
      have hz : valC (mostF ps ts) p.1 ≠ 0 := by omega
      refine ⟨p.1, hp.mem_iff.mpr (List.mem_map.mpr ⟨_, mem_valC hz, rfl⟩), ?_⟩
      rw [← h1]
/-! what one has -/
noncomputable def stepH (ps : List Pr) (m : Cn) (p : Nat × Int) : Cn := setC m (pc ps p.1) (valC m (pc ps p.1) + p.2)
theorem have_val (ps : List Pr) (c : Nat) : ∀ (st : Cn) (m : Cn), valC (st.foldl (stepH ps) m) c = valC m c + haveC ps st c
  | [], m => by simp [haveC]
  | p :: st, m => by
    rw [List.foldl_cons, have_val ps c st]
    unfold stepH haveC
    rw [valC_set, List.filter_cons]
    by_cases h : c = pc ps p.1
    · rw [if_pos h, if_pos (decide_eq_true h.symm), List.map_cons, List.sum_cons, h]
      omega
    · rw [if_neg h, if_neg (by simp [Ne.symm h])]
theorem let_take (ps : List Pr) (cs : List Nat) (n : Nat) (c : Nat) (h : cs[n]? = some c) : letF ps (cs.take (n + 1)) = stepLw ps (letF ps (cs.take n)) c := by
  rw [letF_eq, letF_eq, List.take_succ, h, List.foldl_append]
  rfl
theorem cnt_at {m : Cn} {i : Nat} {d : D} (h : (itemsD (cntD m))[i]? = some d) : ∃ p : Nat × Int, m[i]? = some p ∧ d = .tup [.str (sg p.1), .int p.2] := by
  unfold itemsD cntD at h
  rw [List.map_map, List.getElem?_map] at h
  cases e : m[i]? with
  | none => rw [e] at h; cases h
  | some p => rw [e] at h; exact ⟨p, rfl, (Option.some.inj h).symm⟩
theorem items_cnt_len (m : Cn) : (itemsD (cntD m)).length = m.length := by
  unfold itemsD cntD
  rw [List.length_map, List.length_map]
theorem cntD_len (m : Cn) : (cntD m).length = m.length := by unfold cntD; rw [List.length_map]
theorem max_if (i j : Int) : (if j > i then j else i) = max i j := by
  split <;> omega
theorem valD_some {m : Cn} {c : Nat} (h : valC m c ≠ 0) : valD (cntD m) (kS c) = some (.int (valC m c)) := by
  have hm := mem_valC h
  have := valD_cnt c (.int 0) m
  cases e : valD (cntD m) (kS c) with
  | some d => rw [e] at this; exact congrArg some this
  | none =>
    exfalso
    unfold valD at e
    rw [Option.map_eq_none_iff, List.find?_eq_none] at e
    exact e (kS c, .int (valC m c)) (List.mem_map.mpr ⟨_, hm, rfl⟩) (decide_eq_true rfl)
theorem sgn_app {C : Addr} (E : Ms) {R : Ms} {x : Addr} {w : Int} {ps : List Pr} (h : Sgn C R x w ps) : Sgn C (E ++ R) x w ps := by
  obtain ⟨i, j, m, hi, hj⟩ := h
  exact ⟨E.length + i, E.length + j, m, by rw [app_at]; exact hi, by rw [app_at]; exact hj⟩
theorem foldX_len : ∀ (L : Cn) (M : Cn), (L.foldl stepX M).length ≤ M.length + L.length
  | [], M => Nat.le_refl _
  | p :: L, M => by
    rw [List.foldl_cons]
    have h1 := foldX_len L (stepX M p)
    have h2 : (stepX M p).length ≤ M.length + 1 := setC_len _ _ _
    rw [List.length_cons]
    omega
theorem most_len (ps : List Pr) : ∀ (ts : List Str) (M : Cn), (∀ t ∈ ts, t.cps.toList.length ≤ 24) → (ts.foldl (fun M t => (letF ps t.cps.toList).foldl stepX M) M).length ≤ M.length + 24 * ts.length
  | [], M, _ => by simp
  | t :: ts, M, h => by
    rw [List.foldl_cons]
    have h1 := most_len ps ts ((letF ps t.cps.toList).foldl stepX M) fun t' h' => h t' (List.mem_cons_of_mem _ h')
    have h2 := foldX_len (letF ps t.cps.toList) M
    have h3 := (let_ok ps t.cps.toList).2.2
    have h4 := h t (List.mem_cons_self ..)
    rw [List.length_cons]
    omega
theorem nd_len : ∀ (xs U : List Nat), xs.Nodup → (∀ x ∈ xs, x ∈ U) → xs.length ≤ U.length
  | [], _, _, _ => Nat.zero_le _
  | x :: xs, U, nd, h => by
    rw [List.nodup_cons] at nd
    have hx := h x (List.mem_cons_self ..)
    have h1 := nd_len xs (U.erase x) nd.2 fun y hy => (List.mem_erase_of_ne (fun e => nd.1 (by rw [← e]; exact hy) : y ≠ x)).mpr (h y (List.mem_cons_of_mem _ hy))
    rw [List.length_erase_of_mem hx] at h1
    have := List.length_pos_of_mem hx
    rw [List.length_cons]
    omega
theorem pc_in {ps : List Pr} (h : okPs ps) {c : Nat} (hc : inL c) : inL (pc ps c) := by
  unfold pc
  cases e : ps.find? fun p => decide (c = p.1 ∨ c = p.2) with
  | none => exact hc
  | some p =>
    have hp := List.mem_of_find?_eq_some e
    obtain ⟨i, hi⟩ := List.getElem?_of_mem hp
    obtain ⟨g1, g2⟩ := flat_mem hi
    show inL (min p.1 p.2)
    rcases Nat.le_total p.1 p.2 with h1 | h1
    · rw [Nat.min_eq_left h1]; exact h _ g1
    · rw [Nat.min_eq_right h1]; exact h _ g2
theorem setC_keys {m : Cn} {c : Nat} {z : Int} (h : ∀ p ∈ m, inL p.1) (hc : inL c) : ∀ p ∈ setC m c z, inL p.1 := fun p hp => by
  rcases setC_mem hp with hp | rfl
  · exact h p hp
  · exact hc
theorem let_keys {ps : List Pr} (h : okPs ps) : ∀ (cs : List Nat) (m : Cn), (∀ a ∈ cs, a = 32 ∨ inL a) → (∀ p ∈ m, inL p.1) → ∀ p ∈ cs.foldl (stepLw ps) m, inL p.1
  | [], m, _, hm => hm
  | a :: cs, m, hc, hm => by
    rw [List.foldl_cons]
    refine let_keys h cs _ (fun b hb => hc b (List.mem_cons_of_mem _ hb)) ?_
    unfold stepLw
    split
    · exact hm
    · rename_i h32
      rcases hc a (List.mem_cons_self ..) with e | e
      · exact absurd e h32
      · exact setC_keys hm (pc_in h e)
theorem foldX_keys : ∀ (L M : Cn), (∀ p ∈ L, inL p.1) → (∀ p ∈ M, inL p.1) → ∀ p ∈ L.foldl stepX M, inL p.1
  | [], M, _, hm => hm
  | q :: L, M, hl, hm => by
    rw [List.foldl_cons]
    exact foldX_keys L _ (fun p hp => hl p (List.mem_cons_of_mem _ hp)) (setC_keys hm (hl q (List.mem_cons_self ..)))
theorem foldX_nd : ∀ (L M : Cn), (M.map (·.1)).Nodup → ((L.foldl stepX M).map (·.1)).Nodup
  | [], _, h => h
  | p :: L, M, h => by rw [List.foldl_cons]; exact foldX_nd L _ (setC_nd _ _ h)
theorem most_keys {ps : List Pr} (h : okPs ps) : ∀ (ts : List Str) (M : Cn), (∀ t ∈ ts, ∀ c ∈ t.cps.toList, c = 32 ∨ inL c) → (M.map (·.1)).Nodup → (∀ p ∈ M, inL p.1) →
    ((ts.foldl (fun M t => (letF ps t.cps.toList).foldl stepX M) M).map (·.1)).Nodup ∧ ∀ p ∈ ts.foldl (fun M t => (letF ps t.cps.toList).foldl stepX M) M, inL p.1
  | [], M, _, h1, h2 => ⟨h1, h2⟩
  | t :: ts, M, ht, h1, h2 => by
    rw [List.foldl_cons]
    have hL : ∀ p ∈ letF ps t.cps.toList, inL p.1 := by
      rw [letF_eq]
      exact let_keys h _ [] (ht t (List.mem_cons_self ..)) (fun p hp => by cases hp)
    have hN : (((letF ps t.cps.toList).foldl stepX M).map (·.1)).Nodup := foldX_nd _ _ h1
    exact most_keys h ts _ (fun t' h' => ht t' (List.mem_cons_of_mem _ h')) hN (foldX_keys _ _ hL h2)
theorem need_len {ps : List Pr} {ts : List Str} {nd : Cn} (h : okPs ps) (ht : ∀ t ∈ ts, ∀ c ∈ t.cps.toList, c = 32 ∨ inL c) (hn : NeedOk ps ts nd) : (nd.map (·.1)).length ≤ 36 := by
  obtain ⟨hk1, hk2⟩ := most_keys h ts [] ht (by simp) (fun p hp => by cases hp)
  have hk2 : ∀ p ∈ mostF ps ts, inL p.1 := hk2
  refine nd_len _ LET.cps.toList (hn.1.imp fun h => Nat.ne_of_lt h) fun c hc => ?_
  obtain ⟨p, hp, rfl⟩ := List.mem_map.mp hc
  obtain ⟨h1, h2⟩ := (hn.2 p).mp hp
  rw [← most_val] at h1
  exact hk2 (p.1, valC (mostF ps ts) p.1) (mem_valC (by omega : valC (mostF ps ts) p.1 ≠ 0))
section
variable {P : Program} {w : World} {K : Frg} {mg : Str → Option Value} {base : Heap}
theorem ok_letters_of (T : Txt K mg) (G_Sign_piece : OK_Sign_piece P w base T) : OK_letters_of P w base T := by
  refine fn_ok T.F_letters_of sc_letters_of (by rintro _ _ _ _ _ ⟨x, wd, ps, t, rfl, _⟩; rfl) (fun cdv A outer s H E hr => ?_)
  have hu64 := hr.units
  refine ⟨_, (pss_cons (ps_set (i := 2) sc_letters_of.nd rfl (by first | exact Or.inl rfl | exact Or.inr rfl) pe_dnewK)
      (pss_cons (ps_for PassesOwn.never rfl (pi_str (pv 1)) (pg_name (i := 3) sc_letters_of.nd rfl (by first | exact Or.inl rfl | exact Or.inr rfl)) (pss_one (ps_if (pt_cmpR (kNE (K := K) rfl hu64) (pv 3) (pe_glob (by rfl) T.m_BLANK T.r_BLANK) (nomark _)) (pss_one (ps_dput (hu_of hr) (pv 2) (pe_meth (pv 0) T.k_Sign T.Me_Sign_piece G_Sign_piece (hr.mono (by first | decide | omega)) T.b_Sign_piece .nil pass0 (pa_cons (pv 3) pa_nil)) (pe_op (kADD (K := K) rfl) (pe_dget2 (hu_of hr) (pv 2) (pe_meth (pv 0) T.k_Sign T.Me_Sign_piece G_Sign_piece (hr.mono (by first | decide | omega)) T.b_Sign_piece .nil pass0 (pa_cons (pv 3) pa_nil)) pe_int ⟨rfl, rfl, rfl, rfl⟩) pe_int) (by rfl))) pss_nil)))
      (pss_one (ps_ret (pv 2))))), ?_⟩
  rintro _ F ms Q Ea ⟨x, wd, ps, t, rfl, ⟨i, j, m, hi, hj⟩, ht, q⟩
  have hlen : t.cps.toList.length = t.length := Array.length_toList
  have htw := ht
  walk_at "al"
  refine ae_dnewO fun l => ?_
  walk_at "al"
  refine as_for ?_
  refine ai_str ?_
  walk_at "al"
  refine ⟨fun n F' ms' S' => ms' = (l, .dic (cntD (letF ps (t.cps.toList.take n)))) :: ms ∧ ∃ b : Option D, S' = [some (.ref x), some (.str t), some (.ref l), b], ⟨rfl, none, rfl⟩, fun _ _ _ _ _ _ => trivial, ?_, ?_⟩
  · rintro n d F' ms' S' e hd ⟨rfl, b, rfl⟩ F'' e''
    obtain ⟨c, hc, rfl⟩ := chars_at hd
    have hstep := let_take ps _ n c hc
    have hlo := (let_ok ps (t.cps.toList.take n)).2.2
    rw [List.length_take] at hlo
    refine ag_name ?_
    refine as_norm (S' := [_, _, _, _]) rfl ?_
    walk_at "al"
    by_cases h32 : c = 32
    · subst h32
      refine and_ndT rfl ?_
      walk_at "al"
      refine ⟨?_, _, rfl⟩
      rw [hstep]
      unfold stepLw
      rw [if_pos rfl]
    · refine and_ndF (fun e => h32 (by cases e; rfl)) ?_
      refine as_dput ?_
      walk_at "al"
      refine ae_dget2R ?_
      walk_at "al"
      refine ⟨_, .own (n := 0) rfl, ?_⟩
      refine ae_meth ?_
      walk_at "al"
      refine ⟨x, fldS m wd ps, rfl, .inr ⟨i + 1, hi⟩, fld_no (by decide +kernel) (by decide +kernel) (by decide +kernel), ?_⟩
      walk_at "al"
      refine ⟨x, wd, ps, c, rfl, ⟨i + 1, j + 1, m, hi, hj⟩, ?_⟩
      walk_at "al"
      refine ⟨kS (pc ps c), by rw [pieceS_pc]; rfl, .own (n := 0) rfl, ?_⟩
      rw [valD_cnt _ (.int 0)]
      walk_at "al"
      refine ae_meth ?_
      walk_at "al"
      refine ⟨x, fldS m wd ps, rfl, .inr ⟨i + 1, hi⟩, fld_no (by decide +kernel) (by decide +kernel) (by decide +kernel), ?_⟩
      walk_at "al"
      refine ⟨x, wd, ps, c, rfl, ⟨i + 1, j + 1, m, hi, hj⟩, ?_⟩
      refine ⟨0, l, _, kS (pc ps c), rfl, rfl, by rw [pieceS_pc]; rfl, by rw [cntD_len]; omega, ?_⟩
      refine ⟨?_, _, rfl⟩
      rw [hstep, put_cnt]
      unfold stepLw
      rw [if_neg h32]
      rfl
  · rintro F' ms' S' e ⟨rfl, b, rfl⟩
    rw [chars_len, ← hlen, List.take_length]
    walk_at "al"
    exact q F' l e
theorem ok_needed_letters (T : Txt K mg) (G_Sign_check_texts : OK_Sign_check_texts P w base T) (G_letters_of : OK_letters_of P w base T) : OK_needed_letters P w base T := by
  refine fn_ok T.F_needed_letters sc_needed_letters (by rintro _ _ _ _ _ ⟨x, wd, ps, ts, rfl, _⟩; rfl) (fun cdv A outer s H E hr => ?_)
  have hu64 := hr.units
  refine ⟨_, (pss_cons (ps_expr (pe_meth (pv 0) T.k_Sign T.Me_Sign_check_texts G_Sign_check_texts (hr.mono (by first | decide | omega)) T.b_Sign_check_texts .nil pass0 (pa_cons (pv 1) pa_nil)))
      (pss_cons (ps_set (i := 2) sc_needed_letters.nd rfl (by first | exact Or.inl rfl | exact Or.inr rfl) pe_dnewK)
      (pss_cons (ps_for PassesOwn.never rfl (pi_tupk (K := K) rfl (pv 1)) (pg_name (i := 3) sc_needed_letters.nd rfl (by first | exact Or.inl rfl | exact Or.inr rfl)) (pss_one (ps_for PassesOwn.never rfl (pi_items (pe_lockV (pe_call G_letters_of (hr.mono (by first | decide | omega)) (by rfl) T.m_letters_of T.F_letters_of.kp T.b_letters_of .nil pass0 (pa_cons (pv 0) (pa_cons (pv 3) pa_nil))))) (pg_tupk (K := K) (n := 2) rfl rfl (pgs_cons (pg_name (i := 4) sc_needed_letters.nd rfl (by first | exact Or.inl rfl | exact Or.inr rfl)) (pgs_cons (pg_name (i := 5) sc_needed_letters.nd rfl (by first | exact Or.inl rfl | exact Or.inr rfl)) pgs_nil))) (pss_one (ps_dput (hu_of hr) (pv 2) (pv 4) (pe_callB (call_MAX2 rfl) (by rfl) T.g_max boot_max (pa_cons (pv 5) (pa_cons (pe_dget2 (hu_of hr) (pv 2) (pv 4) pe_int ⟨rfl, rfl, rfl, rfl⟩) pa_nil))) (by rfl))))))
      (pss_one (ps_ret (pe_dc rfl sc_needed_letters.nd (pi_listk (K := K) rfl (pe_callB (kSRTD (K := K) rfl rfl) (by rfl) T.g_sorted boot_sorted (pa_cons (pv 2) pa_nil))) (own := [("piece", 4)]) (@BlkOk.mk N_needed_letters (defScope s_needed_letters) _ _ rfl (by decide +kernel) (by decide +kernel) (by decide +kernel) (by decide +kernel)) (fun _ _ _ _ _ => (pg_name (i := 4) sc_needed_letters.nd rfl (by first | exact Or.inl rfl | exact Or.inr rfl))) (fun _ _ _ _ _ => pts_nil) (fun _ _ _ _ _ => (pv 4)) (fun _ _ _ _ _ => (pe_dget (hu_of hr) (pv 2) (pv 4) (fun _ _ => rfl))))))))), ?_⟩
  rintro _ F ms Q Ea ⟨x, wd, ps, ts, rfl, hS, w24, ht1, ht2, ht, hpL, q⟩
  obtain ⟨i, j, m, hi, hj⟩ := id hS
  walk_at "al"
  refine ae_meth ?_
  walk_at "al"
  refine ⟨x, fldS m wd ps, rfl, .inr ⟨i, hi⟩, fld_no (by decide +kernel) (by decide +kernel) (by decide +kernel), ?_⟩
  walk_at "al"
  refine ⟨x, wd, ps, ts, rfl, hS, w24, ht1, ht2, ht, fun F1 e1 => ?_⟩
  walk_at "al"
  refine ae_dnewO fun l => ?_
  walk_at "al"
  have ht24 : ∀ t ∈ ts, t.cps.toList.length ≤ 24 := fun t h => by
    have h1 := (ht t h).2.1
    have h2 : t.cps.toList.length = t.length := Array.length_toList
    omega
  have htL : ∀ t ∈ ts, ∀ c ∈ t.cps.toList, c = 32 ∨ inL c := fun t h => (ht t h).2.2.1
  refine as_for ?_
  refine ai_tup ?_
  walk_at "al"
  refine ⟨_, rfl, fun n F' ms' S' => ∃ (J : Ms) (a b c : Option D), ms' = J ++ (l, .dic (cntD (mostF ps (ts.take n)))) :: ms ∧ S' = [some (.ref x), some (.tup (ts.map D.str)), some (.ref l), a, b, c], ⟨[], none, none, none, rfl, rfl⟩, fun _ _ _ _ _ _ => trivial, ?_, ?_⟩
  · rintro n d F2 ms2 S2 e2 hd ⟨J, a, b, c, rfl, rfl⟩ F3 e3
    obtain ⟨t, htk, rfl⟩ := strs_at hd
    have htm := List.mem_of_getElem? htk
    have hn : n < ts.length := (List.getElem?_eq_some_iff.mp htk).1
    have hstep : mostF ps (ts.take (n + 1)) = (letF ps t.cps.toList).foldl stepX (mostF ps (ts.take n)) := by
      unfold mostF
      rw [List.take_succ, htk, List.foldl_append]
      rfl
    have hml := most_len ps (ts.take n) [] fun t h => ht24 t (List.mem_of_mem_take h)
    rw [List.length_take] at hml
    have hml : (mostF ps (ts.take n)).length ≤ 0 + 24 * min n ts.length := hml
    have hll := (let_ok ps t.cps.toList).2.2
    have h24 := ht24 t htm
    refine ag_name ?_
    refine as_norm (S' := [_, _, _, _, _, _]) rfl ?_
    refine as_for ?_
    refine ai_items ?_
    refine ae_lockV ?_
    walk_at "al"
    refine ⟨x, wd, ps, t, rfl, sgn_app J (Sgn.cons hS), (by have := (ht t htm).2.1; omega), fun F4 lt e4 => ?_⟩
    refine ⟨0, lt, _, rfl, rfl, fun od vs rk => ?_⟩
    refine ⟨lt, od, vs, _, 0, rfl, rfl, rk, ?_⟩
    generalize letF ps t.cps.toList = L at hstep hll rk ⊢
    generalize mostF ps (ts.take n) = M at hstep hml ⊢
    refine ⟨fun i F' ms' S' => ms' = (lt, .raw (.frz od (.dK vs))) :: (J ++ (l, .dic (cntD ((L.take i).foldl stepX M))) :: ms) ∧ ∃ (b c : Option D), S' = [some (.ref x), some (.tup (ts.map D.str)), some (.ref l), some (.str t), b, c], ⟨rfl, b, c, rfl⟩, ?_, ?_, ?_⟩
    · rintro i F' ms' S' e' ⟨rfl, _⟩
      exact ⟨0, rfl⟩
    · rintro i d F5 ms5 S5 e5 hd5 ⟨rfl, b, c, rfl⟩ F6 e6
      obtain ⟨p, hp, rfl⟩ := cnt_at hd5
      have hpl : i < L.length := (List.getElem?_eq_some_iff.mp hp).1
      have hfl := foldX_len (L.take i) M
      rw [List.length_take] at hfl
      have hst2 : (L.take (i + 1)).foldl stepX M = stepX ((L.take i).foldl stepX M) p := by
        rw [List.take_succ, hp, List.foldl_append]
        rfl
      generalize (L.take i).foldl stepX M = N at hfl hst2 ⊢
      have hown : ((lt, MO.raw (.frz od (.dK vs))) :: (J ++ (l, MO.dic (cntD N)) :: ms))[J.length + 0 + 1]? = some (l, .dic (cntD N)) := app_at (E := J) 0
      refine ag_tup rfl ?_
      refine ags_cons (ag_name ?_)
      refine ags_cons (ag_name ?_)
      refine ags_nil ?_
      refine as_norm (S' := [_, _, _, _, _, _]) rfl ?_
      refine as_dput ?_
      walk_at "al"
      refine ae_dget2R ?_
      walk_at "al"
      refine ⟨_, .own hown, ?_⟩
      walk_at "al"
      refine ⟨kS p.1, rfl, .own hown, ?_⟩
      rw [valD_cnt _ (.int 0)]
      walk_at "al"
      refine ⟨J.length + 0 + 1, l, _, kS p.1, rfl, hown, rfl, by rw [cntD_len]; omega, ?_⟩
      refine ⟨?_, _, _, rfl⟩
      rw [hst2, put_cnt, max_if]
      show (lt, _) :: (J ++ (l, MO.dic (cntD N)) :: ms).set (J.length + 0) _ = _
      rw [app_set]
      rfl
    · rintro F5 ms5 S5 e5 ⟨rfl, b, c, rfl⟩
      rw [items_cnt_len, List.take_length]
      refine ⟨(lt, .raw (.frz od (.dK vs))) :: J, _, b, c, ?_, rfl⟩
      rw [hstep]
      rfl
  · rintro F2 ms2 S2 e2 ⟨J, a, b, c, rfl, rfl⟩
    rw [List.length_map, List.take_length]
    obtain ⟨hk1, hk2⟩ := most_keys hpL ts [] htL (by simp) (fun p hp => by cases hp)
    have hk1 : ((mostF ps ts).map (·.1)).Nodup := hk1
    have hk2 : ∀ p ∈ mostF ps ts, inL p.1 := hk2
    have h36 : ((mostF ps ts).map (·.1)).length ≤ 36 := nd_len _ LET.cps.toList hk1 fun c hc => by
      obtain ⟨p, hp, rfl⟩ := List.mem_map.mp hc
      exact hk2 p hp
    have hown : (J ++ (l, MO.dic (cntD (mostF ps ts))) :: ms)[J.length + 0]? = some (l, .dic (cntD (mostF ps ts))) := app_at 0
    walk_at "al"
    refine ae_dc (gw_name (by simp)) gm_name ?_
    refine ai_list ?_
    walk_at "al"
    refine ac_sortD (ks := ((mostF ps ts).map (·.1)).map sg) (.own hown) (by unfold cntD; rw [List.map_map, List.map_map, List.map_map]; rfl) (by rw [List.length_map]; omega) fun F5 ys e5 y1 y2 => ?_
    obtain ⟨cs, rfl, hcs⟩ := perm_sg y1
    have hneed := need_of hcs (sorted_sg y2)
    have hnd : cs.Nodup := hcs.nodup_iff.mpr hk1
    refine .inl ⟨_, .inl rfl, ?_⟩
    refine ⟨fun i F' ms' acc => ms' = J ++ (l, .dic (cntD (mostF ps ts))) :: ms ∧ acc = cntD ((cs.take i).map fun c => (c, valC (mostF ps ts) c)), ⟨rfl, rfl⟩, fun _ _ _ _ _ _ => trivial, ?_, ?_⟩
    · rintro i d F' ms' acc e1 hd ⟨rfl, rfl⟩ F'' e2
      obtain ⟨c, hc, rfl⟩ : ∃ c, cs[i]? = some c ∧ d = .str (sg c) := by
        rw [List.map_map, List.getElem?_map] at hd
        cases hh : cs[i]? with
        | none => rw [hh] at hd; cases hd
        | some z => rw [hh] at hd; exact ⟨z, rfl, (Option.some.inj hd).symm⟩
      have hz : valC (mostF ps ts) c ≠ 0 := by
        have := (hneed.2 (c, valC (mostF ps ts) c)).mp (List.mem_map.mpr ⟨c, List.mem_of_getElem? hc, rfl⟩)
        have : 0 < valC (mostF ps ts) c := this.2
        omega
      have hil : i < cs.length := (List.getElem?_eq_some_iff.mp hc).1
      have hcl : cs.length ≤ 36 := by rw [hcs.length_eq]; exact h36
      refine ag_name ?_
      walk_at "al"
      refine ⟨kS c, rfl, ?_⟩
      refine ae_dgetR ?_
      walk_at "al"
      refine ⟨kS c, _, _, rfl, .own hown, valD_some hz, ?_⟩
      refine ⟨by rw [cntD_len, List.length_map, List.length_take]; omega, rfl, ?_⟩
      rw [put_cnt, setC_new]
      · rw [List.take_succ, hc, List.map_append]
        rfl
      · intro r hr e
        obtain ⟨c2, hc2, rfl⟩ := List.mem_map.mp hr
        have e : c2 = c := e
        subst e
        have hs : cs = cs.take i ++ cs.drop i := (List.take_append_drop ..).symm
        rw [hs, List.nodup_append] at hnd
        exact hnd.2.2 c2 hc2 c2 (List.mem_of_getElem? (i := 0) (by rw [List.getElem?_drop]; exact hc)) rfl
    · rintro F' ms' acc e7 ⟨rfl, rfl⟩ l2
      rw [List.length_map, List.length_map, List.take_length]
      have := q F' (J ++ [(l, MO.dic (cntD (mostF ps ts)))]) l2 _ (e1.trans (e2.trans (e5.trans e7))) hneed
      rw [List.append_assoc] at this
      exact this
end

theorem stepB_mem : ∀ (L : Lay) (b : BS) (c : Cst), (L.foldl stepB b).1 = some c → b.1 = some c ∨ ∃ v ∈ L, v.1 = c
  | [], b, c, h => .inl h
  | v :: L, b, c, h => by
    rw [List.foldl_cons] at h
    rcases stepB_mem L _ c h with e | ⟨u, hu, e⟩
    · obtain ⟨bo, y⟩ := b
      cases bo with
      | none =>
        have e : some v.1 = some c := e
        exact .inr ⟨v, List.mem_cons_self .., Option.some.inj e⟩
      | some b =>
        have e : (if ltC v.1 b = true then (some v.1, v.2) else if v.1 = b then (some b, y + v.2) else (some b, y)).1 = some c := e
        split at e
        · exact .inr ⟨v, List.mem_cons_self .., Option.some.inj e⟩
        · split at e
          · exact .inl e
          · exact .inl e
    · exact .inr ⟨u, List.mem_cons_of_mem _ hu, e⟩
theorem best_at {ps : List Pr} {w : Int} {row t : Str} {L : Lay} (h : L ≠ []) : ∃ (i : Nat) (v : Cst × Int), L[i]? = some v ∧ (bestP ps w row t L).1 = addC (costP ps row (shown w t (i : Int)) w) v.1 := by
  obtain ⟨c, hc⟩ := best_some (ps := ps) (w := w) (row := row) (t := t) h
  have e : (bestP ps w row t L).1 = c := by unfold bestP; rw [hc]; rfl
  rw [e]
  unfold bestF at hc
  rcases stepB_mem _ _ c hc with h | ⟨u, hu, rfl⟩
  · cases h
  · obtain ⟨i, hi⟩ := List.getElem?_of_mem hu
    have hl := (List.getElem?_eq_some_iff.mp hi).1
    rw [tots_len] at hl
    have hv : L[i]? = some L[i] := List.getElem?_eq_getElem hl
    rw [tots_get hv] at hi
    cases hi
    exact ⟨i, _, hv, rfl⟩
theorem ok_cons {w : Int} {ts : List Str} {os : List Int} {t : Str} {o : Int} (h : okOff w ts os) (o0 : 0 ≤ o) (o1 : o + (t.length : Int) ≤ w) : okOff w (t :: ts) (o :: os) := by
  refine ⟨by rw [List.length_cons, List.length_cons, h.1], fun i t' o' h1 h2 => ?_⟩
  cases i with
  | zero => cases h1; cases h2; exact ⟨o0, o1⟩
  | succ i => exact h.2 i t' o' (by simpa using h1) (by simpa using h2)
theorem head_at (ps : List Pr) (w : Int) : ∀ (r : List Str) (t : Str) (i : Nat) (v : Cst × Int), (∀ x ∈ t :: r, textOk w x) → ((layersF ps w (t :: r)).headD [])[i]? = some v →
    ∃ os, okOff w r os ∧ v.1 = sumC ps w (shown w t (i : Int)) (r.zip os)
  | [], t, i, v, ht, h => by
    refine ⟨[], ⟨rfl, fun i t o h1 _ => by simp at h1⟩, ?_⟩
    have h : (List.replicate (offN w t) (((0, 0), 1) : Cst × Int))[i]? = some v := h
    rw [List.getElem?_replicate] at h
    split at h
    · cases h; rfl
    · cases h
  | t' :: r, t, i, v, ht, h => by
    have ht' := fun x hx => ht x (List.mem_cons_of_mem t hx)
    rw [rowsF_eq, List.getElem?_map] at h
    cases hi : (List.range (offN w t))[i]? with
    | none => rw [hi] at h; cases h
    | some i' =>
      rw [hi] at h
      have e1 : i' = i := by
        obtain ⟨hl, e⟩ := List.getElem?_eq_some_iff.mp hi
        rw [List.getElem_range] at e
        exact e.symm
      subst e1
      have h := Option.some.inj h
      have hlen := lay_len (ps := ps) (wd := w) t' r
      obtain ⟨of1, of2⟩ := offN_pos (ht' t' (List.mem_cons_self ..))
      have hne : (layersF ps w (t' :: r)).headD [] ≠ [] := fun e => by rw [e] at hlen; simp at hlen; omega
      obtain ⟨j, u, hu, e⟩ := best_at (ps := ps) (w := w) (row := shown w t (i' : Int)) (t := t') hne
      obtain ⟨os, ho, hs⟩ := head_at ps w r t' j u ht' hu
      have hj := (List.getElem?_eq_some_iff.mp hu).1
      rw [hlen] at hj
      refine ⟨(j : Int) :: os, ok_cons ho (by omega) (by omega), ?_⟩
      rw [← h]
      show (bestP ps w (shown w t (i' : Int)) t' ((layersF ps w (t' :: r)).headD [])).1 = _
      rw [e, hs]
      rfl
theorem season_at {ps : List Pr} {w : Int} {ts : List Str} (hOk : okSeason w ps ts) : ∃ os, okOff w ts os ∧ fixF ps w ts os = seasonF ps w ts := by
  obtain ⟨w1, w2, hp, hpL, hpN, ht1, ht2, ht⟩ := hOk
  cases ts with
  | nil => simp at ht1
  | cons t r =>
    have hlen := lay_len (ps := ps) (wd := w) t r
    obtain ⟨of1, of2⟩ := offN_pos (ht t (List.mem_cons_self ..))
    have hne : (layersF ps w (t :: r)).headD [] ≠ [] := fun e => by rw [e] at hlen; simp at hlen; omega
    obtain ⟨j, u, hu, e⟩ := best_at (ps := ps) (w := w) (row := mulS sp1 w) (t := t) hne
    obtain ⟨os, ho, hs⟩ := head_at ps w r t j u ht hu
    have hj := (List.getElem?_eq_some_iff.mp hu).1
    rw [hlen] at hj
    refine ⟨(j : Int) :: os, ok_cons ho (by omega) (by omega), ?_⟩
    unfold fixF
    rw [fix_sum, zero_addC]
    show addC (costP ps (mulS sp1 w) (shown w t (j : Int)) w) (sumC ps w (shown w t (j : Int)) (r.zip os)) = (bestP ps w (mulS sp1 w) t ((layersF ps w (t :: r)).headD [])).1
    rw [e, hs]
theorem min_season {ps : List Pr} {w : Int} {ts : List Str} (hOk : okSeason w ps ts) {m : Cst} (h1 : m ∈ (allF w ts.reverse).map (fixF ps w ts)) (h2 : ∀ y ∈ (allF w ts.reverse).map (fixF ps w ts), lt2 y m = false) : m = seasonF ps w ts := by
  have ht := hOk.2.2.2.2.2.2.2
  have htr : ∀ t ∈ ts.reverse, textOk w t := fun t h => ht t (List.mem_reverse.mp h)
  obtain ⟨os, ho, e⟩ := season_at hOk
  have hm : seasonF ps w ts ∈ (allF w ts.reverse).map (fixF ps w ts) := List.mem_map.mpr ⟨os, allF_has htr os (by rw [List.reverse_reverse]; exact ho), e⟩
  have a := h2 _ hm
  obtain ⟨os2, ho2, rfl⟩ := List.mem_map.mp h1
  have b := price_ge hOk (by have := allF_ok htr os2 ho2; rwa [List.reverse_reverse] at this)
  have a' : ¬ lt2 (seasonF ps w ts) (fixF ps w ts os2) = true := by rw [a]; decide
  have b' : ¬ lt2 (fixF ps w ts os2) (seasonF ps w ts) = true := by rw [show lt2 (fixF ps w ts os2) (seasonF ps w ts) = ltC (fixF ps w ts os2) (seasonF ps w ts) from rfl, b]; decide
  rw [lt2_iff] at a' b'
  exact Prod.ext (by omega) (by omega)
noncomputable def ZT : List D := [.str "ABMW", .str "AB69MW"]
theorem zs_at {r : Int} (h0 : 0 ≤ r) (h1 : r < 2) : ∃ z, atI ZT r = some (.str z) ∧ z.length ≤ 100 ∧ z.cps.toList.Nodup ∧ (∀ c ∈ z.cps.toList, inL c) ∧ 0 < z.length := by
  obtain rfl | rfl : r = 0 ∨ r = 1 := by omega
  · exact ⟨"ABMW", rfl, by decide +kernel, by decide +kernel, by unfold inL; decide +kernel, by decide +kernel⟩
  · exact ⟨"AB69MW", rfl, by decide +kernel, by decide +kernel, by unfold inL; decide +kernel, by decide +kernel⟩

/-! all completions of a start -/
noncomputable def allG (w : Int) : List Str → List (List Int)
  | [] => [[]]
  | t :: r => (List.range (offN w t)).flatMap fun (o : Nat) => (allG w r).map fun os => (o : Int) :: os
theorem allG_snoc (w : Int) (t : Str) : ∀ r : List Str, allG w (r ++ [t]) = (allG w r).flatMap fun s => (List.range (offN w t)).map fun (o : Nat) => s ++ [(o : Int)]
  | [] => by
    show (List.range (offN w t)).flatMap (fun (o : Nat) => [[(o : Int)]]) = _
    show _ = List.flatMap _ [[]]
    rw [List.flatMap_cons, List.flatMap_nil, List.append_nil]
    induction List.range (offN w t) with
    | nil => rfl
    | cons a l ih => rw [List.flatMap_cons, ih, List.map_cons]; rfl
  | t0 :: r => by
    show (List.range (offN w t0)).flatMap _ = ((List.range (offN w t0)).flatMap _).flatMap _
    rw [List.flatMap_assoc]
    congr 1
    funext o
    show List.map _ (allG w (r ++ [t])) = _
    rw [allG_snoc w t r, List.map_flatMap, List.flatMap_map]
    congr 1
    funext s
    rw [List.map_map]
    rfl
theorem allF_G (w : Int) : ∀ r : List Str, allF w r = allG w r.reverse
  | [] => rfl
  | t :: r => by
    rw [List.reverse_cons, allG_snoc, ← allF_G w r]
    rfl
theorem addC_cancel {a b c : Cst} : addC a b = addC a c ↔ b = c := by
  obtain ⟨a1, a2⟩ := a
  obtain ⟨b1, b2⟩ := b
  obtain ⟨c1, c2⟩ := c
  unfold addC
  simp only [Prod.mk.injEq]
  omega
theorem leP_anti {a b : Cst} (h : leP a b) (k : leP b a) : a = b := by
  obtain ⟨a1, a2⟩ := a
  obtain ⟨b1, b2⟩ := b
  unfold leP at h k
  dsimp only at h k
  simp only [Prod.mk.injEq]
  omega
/-- completions of a row that cost rest -/
noncomputable def goodG (ps : List Pr) (w : Int) (ts : List Str) (row : Str) (rest : Cst) : List (List Int) := (allG w ts).filter fun os => decide (sumC ps w row (ts.zip os) = rest)
/-- the least cost of the texts after a row -/
noncomputable def leastG (ps : List Pr) (w : Int) (ts : List Str) (row : Str) : Cst := match ts with
  | [] => (0, 0)
  | t :: r => (bestP ps w row t ((layersF ps w (t :: r)).headD [])).1
theorem headAt {ps : List Pr} {w : Int} {t : Str} {r : List Str} {o : Nat} (h : o < offN w t) : ∃ v, ((layersF ps w (t :: r)).headD [])[o]? = some v ∧ v.1 = leastG ps w r (shown w t (o : Int)) := by
  cases r with
  | nil =>
    refine ⟨((0, 0), 1), ?_, rfl⟩
    show (List.replicate (offN w t) _)[o]? = _
    rw [List.getElem?_replicate, if_pos h]
  | cons t' r =>
    rw [rowsF_eq]
    exact ⟨_, by rw [List.getElem?_map, List.getElem?_range h]; rfl, rfl⟩
/-- no completion is cheaper -/
theorem leastG_le {ps : List Pr} {w : Int} : ∀ {ts : List Str}, (∀ t ∈ ts, textOk w t) → ∀ (row : Str), ∀ os ∈ allG w ts, leP (leastG ps w ts row) (sumC ps w row (ts.zip os))
  | [], _, row, os, h => leP_refl _
  | t :: r, ht, row, os, h => by
    obtain ⟨o, ho, h⟩ := List.mem_flatMap.mp h
    obtain ⟨s, hs, rfl⟩ := List.mem_map.mp h
    obtain ⟨v, hv, hv2⟩ := headAt (ps := ps) (w := w) (t := t) (r := r) (List.mem_range.mp ho)
    have h1 := best_le (ps := ps) (w := w) (row := row) (t := t) hv
    have h2 := leastG_le (ps := ps) (fun x hx => ht x (List.mem_cons_of_mem _ hx)) (shown w t (o : Int)) s hs
    rw [← hv2] at h2
    exact leP_trans h1 (leP_add h2)
/-- the good completions, by the first offset -/
theorem good_cons {ps : List Pr} {w : Int} {t : Str} {r : List Str} (ht : ∀ x ∈ t :: r, textOk w x) (row : Str) : goodG ps w (t :: r) row (leastG ps w (t :: r) row) =
    (((layersF ps w (t :: r)).headD []).zipIdx.filter fun p => decide (addC (costP ps row (shown w t (p.2 : Int)) w) p.1.1 = leastG ps w (t :: r) row)).flatMap fun p => (goodG ps w r (shown w t (p.2 : Int)) p.1.1).map fun os => (p.2 : Int) :: os := by
  have hz : ((layersF ps w (t :: r)).headD []).zipIdx = (List.range (offN w t)).map fun o => ((((layersF ps w (t :: r)).headD []).getD o ((0, 0), 0)), o) := by
    apply List.ext_getElem?
    intro i
    rw [List.getElem?_zipIdx, List.getElem?_map]
    have hl := lay_len (ps := ps) (wd := w) t r
    by_cases h : i < offN w t
    · rw [List.getElem?_range h, List.getElem?_eq_getElem (by rw [hl]; exact h)]
      show some (_, 0 + i) = some (_, i)
      rw [List.getD_eq_getElem?_getD, List.getElem?_eq_getElem (by rw [hl]; exact h), Nat.zero_add]
      rfl
    · rw [List.getElem?_eq_none (by omega), List.getElem?_eq_none (by rw [List.length_range]; omega)]
      rfl
  rw [hz, List.filter_map, List.flatMap_map]
  unfold goodG
  show List.filter _ ((List.range (offN w t)).flatMap _) = _
  rw [List.filter_flatMap]
  have key : ∀ l : List Nat, (∀ o ∈ l, o < offN w t) → (l.flatMap fun (o : Nat) => ((allG w r).map fun os => (o : Int) :: os).filter fun os => decide (sumC ps w row ((t :: r).zip os) = leastG ps w (t :: r) row)) =
      ((l.filter ((fun p : (Cst × Int) × Nat => decide (addC (costP ps row (shown w t (p.2 : Int)) w) p.1.1 = leastG ps w (t :: r) row)) ∘ fun (o : Nat) => ((((layersF ps w (t :: r)).headD []).getD o ((0, 0), 0)), o))).flatMap fun (o : Nat) => ((allG w r).filter fun os => decide (sumC ps w (shown w t (o : Int)) (r.zip os) = (((layersF ps w (t :: r)).headD []).getD o ((0, 0), 0)).1)).map fun os => (o : Int) :: os) := by
    intro l
    induction l with
    | nil => intro _; rfl
    | cons o l ih =>
      intro hl
      have ho := hl o (List.mem_cons_self ..)
      obtain ⟨v, hv, hv2⟩ := headAt (ps := ps) (w := w) (t := t) (r := r) ho
      have hg : ((layersF ps w (t :: r)).headD []).getD o ((0, 0), 0) = v := by rw [List.getD_eq_getElem?_getD, hv]; rfl
      rw [List.flatMap_cons, ih fun x hx => hl x (List.mem_cons_of_mem _ hx), List.filter_cons]
      have h1 := best_le (ps := ps) (w := w) (row := row) (t := t) hv
      have hth := fun x hx => ht x (List.mem_cons_of_mem t hx)
      show _ = List.flatMap _ (if (decide (addC (costP ps row (shown w t (o : Int)) w) (((layersF ps w (t :: r)).headD []).getD o ((0, 0), 0)).1 = leastG ps w (t :: r) row)) = true then _ else _)
      rw [hg]
      by_cases e : addC (costP ps row (shown w t (o : Int)) w) v.1 = leastG ps w (t :: r) row
      · rw [if_pos (decide_eq_true e), List.flatMap_cons, hg]
        congr 1
        rw [List.filter_map]
        congr 1
        apply List.filter_congr
        intro os _
        show decide (addC (costP ps row (shown w t (o : Int)) w) (sumC ps w (shown w t (o : Int)) (r.zip os)) = _) = _
        rw [← e]
        exact decide_eq_decide.mpr addC_cancel
      · rw [if_neg (by rw [decide_eq_false e]; decide)]
        rw [show List.filter _ (List.map (fun os => (o : Int) :: os) (allG w r)) = [] from ?_, List.nil_append]
        rw [List.filter_eq_nil_iff]
        intro os hos
        obtain ⟨s, hs, rfl⟩ := List.mem_map.mp hos
        intro hd
        have hd : addC (costP ps row (shown w t (o : Int)) w) (sumC ps w (shown w t (o : Int)) (r.zip s)) = leastG ps w (t :: r) row := of_decide_eq_true hd
        have h2 := leastG_le (ps := ps) hth (shown w t (o : Int)) s hs
        rw [← hv2] at h2
        have h3 := leP_add (c := costP ps row (shown w t (o : Int)) w) h2
        rw [hd] at h3
        exact e (leP_anti h3 h1)
  exact key _ fun o ho => List.mem_range.mp ho
/-- the chosen starts, from a set of starts -/
theorem fold_good {ps : List Pr} {w : Int} : ∀ (ts : List Str), (∀ t ∈ ts, textOk w t) → ∀ chs : List Ch, (∀ c ∈ chs, c.2.2 = leastG ps w ts c.2.1) →
    (((ts.zip (layersF ps w ts)).foldl (stepCh ps w) chs).map fun c => c.1) = chs.flatMap fun c => (goodG ps w ts c.2.1 c.2.2).map fun os => c.1 ++ os
  | [], _, chs, hc => by
    show chs.map (fun c => c.1) = _
    induction chs with
    | nil => rfl
    | cons c cs ih =>
      rw [List.map_cons, List.flatMap_cons, ih fun x hx => hc x (List.mem_cons_of_mem _ hx)]
      have e : goodG ps w [] c.2.1 c.2.2 = [[]] := by
        unfold goodG
        rw [hc c (List.mem_cons_self ..)]
        rfl
      rw [e]
      show _ = [c.1 ++ []] ++ _
      rw [List.append_nil]
      rfl
  | t :: r, ht, chs, hc => by
    have hth := fun x hx => ht x (List.mem_cons_of_mem t hx)
    have hlay : layersF ps w (t :: r) = ((layersF ps w (t :: r)).headD []) :: layersF ps w r := by
      cases r with
      | nil => rfl
      | cons t' r => exact layF_cons ps w t t' r
    rw [hlay, List.zip_cons_cons, List.foldl_cons, fold_good r hth]
    · unfold stepCh
      rw [List.flatMap_assoc]
      have key : ∀ l : List Ch, (∀ c ∈ l, c ∈ chs) → (l.flatMap fun c => (extF ps w t ((layersF ps w (t :: r)).headD []) c).flatMap fun c => (goodG ps w r c.2.1 c.2.2).map fun os => c.1 ++ os) = l.flatMap fun c => (goodG ps w (t :: r) c.2.1 c.2.2).map fun os => c.1 ++ os := by
        intro l
        induction l with
        | nil => intro _; rfl
        | cons c l ih =>
          intro hl
          rw [List.flatMap_cons, List.flatMap_cons, ih fun x hx => hl x (List.mem_cons_of_mem _ hx)]
          congr 1
          obtain ⟨os, row, rest⟩ := c
          have hr : rest = leastG ps w (t :: r) row := hc _ (hl _ (List.mem_cons_self ..))
          subst hr
          show _ = (goodG ps w (t :: r) row (leastG ps w (t :: r) row)).map _
          rw [good_cons ht row]
          unfold extF
          dsimp only
          generalize ((layersF ps w (t :: r)).headD []).zipIdx = z
          induction z with
          | nil => rfl
          | cons p z ih2 =>
            rw [List.filterMap_cons, List.filter_cons]
            by_cases e : addC (costP ps row (shown w t (p.2 : Int)) w) p.1.1 = leastG ps w (t :: r) row
            · rw [if_pos e, if_pos (decide_eq_true e), List.flatMap_cons, List.flatMap_cons, List.map_append, ← ih2, List.map_map]
              congr 1
              dsimp only
              apply List.map_congr_left
              intro s _
              show (os ++ [(p.2 : Int)]) ++ s = os ++ ((p.2 : Int) :: s)
              rw [List.append_assoc]
              rfl
            · rw [if_neg e, if_neg (by rw [decide_eq_false e]; decide)]
              exact ih2
      exact key chs fun _ h => h
    · intro c hcm
      obtain ⟨c0, _, hcm⟩ := List.mem_flatMap.mp hcm
      unfold extF at hcm
      obtain ⟨p, hp, e⟩ := List.mem_filterMap.mp hcm
      split at e
      · cases e
        obtain ⟨i, hi⟩ := List.getElem?_of_mem hp
        rw [List.getElem?_zipIdx] at hi
        cases g : ((layersF ps w (t :: r)).headD [])[i]? with
        | none => rw [g] at hi; cases hi
        | some v =>
          rw [g] at hi
          have hi := Option.some.inj hi
          subst hi
          have hlt := (List.getElem?_eq_some_iff.mp g).1
          rw [lay_len] at hlt
          obtain ⟨v', hv', hv2⟩ := headAt (ps := ps) (w := w) (t := t) (r := r) hlt
          rw [g] at hv'
          cases hv'
          show v.1 = leastG ps w r (shown w t ((0 + i : Nat) : Int))
          rw [Nat.zero_add]
          exact hv2
      · cases e
theorem chF_all {ps : List Pr} {w : Int} {ts : List Str} (hOk : okSeason w ps ts) : (chF ps w ts ts.length).map (fun c => c.1) = (allF w ts.reverse).filter fun os => decide (fixF ps w ts os = seasonF ps w ts) := by
  have ht := hOk.2.2.2.2.2.2.2
  obtain ⟨t, r, rfl⟩ : ∃ t r, ts = t :: r := by
    cases ts with
    | nil => have := hOk.2.2.2.2.2.1; simp at this
    | cons t r => exact ⟨t, r, rfl⟩
  unfold chF
  rw [List.take_of_length_le (by rw [List.length_zip]; omega), fold_good _ ht]
  · show List.flatMap _ [_] = _
    rw [List.flatMap_cons, List.flatMap_nil, List.append_nil, allF_G, List.reverse_reverse]
    dsimp only
    unfold goodG
    rw [show ∀ l : List (List Int), l.map (fun os => [] ++ os) = l from fun l => List.map_id l]
    apply List.filter_congr
    intro os _
    unfold fixF
    rw [fix_sum, zero_addC]
  · intro c hc
    rw [List.mem_singleton.mp hc]
    rfl
/-- the number of ways -/
theorem stepB_cnt : ∀ (L : Lay) (b : BS) (c : Cst), (∀ b0, b.1 = some b0 → leP c b0) → (∀ v ∈ L, leP c v.1) → (L.foldl stepB b).1 = some c → (L.foldl stepB b).2 = (if b.1 = some c then b.2 else 0) + ((L.filter fun v => decide (v.1 = c)).map fun v => v.2).sum
  | [], b, c, _, _, h => by
    have h : b.1 = some c := h
    rw [if_pos h]
    exact (Int.add_zero _).symm
  | v :: L, b, c, hb, hL, h => by
    rw [List.foldl_cons] at h ⊢
    have hv := hL v (List.mem_cons_self ..)
    have hLr := fun u hu => hL u (List.mem_cons_of_mem v hu)
    obtain ⟨bo, y⟩ := b
    rw [List.filter_cons]
    cases bo with
    | none =>
      have e : stepB (none, y) v = (some v.1, v.2) := rfl
      rw [e] at h ⊢
      rw [stepB_cnt L _ c (fun b0 q => by cases q; exact hv) hLr h]
      by_cases q : v.1 = c
      · rw [if_pos (by rw [q]), if_neg (by simp), if_pos (decide_eq_true q), List.map_cons, List.sum_cons, Int.zero_add]
      · rw [if_neg (by intro z; exact q (Option.some.inj z)), if_neg (by simp), if_neg (by rw [decide_eq_false q]; decide)]
    | some b =>
      have hcb := hb b rfl
      have e : stepB (some b, y) v = if ltC v.1 b = true then (some v.1, v.2) else if v.1 = b then (some b, y + v.2) else (some b, y) := rfl
      rw [e] at h ⊢
      by_cases l : ltC v.1 b = true
      · rw [if_pos l] at h ⊢
        have l' := (ltC_iff _ _).mp l
        rw [stepB_cnt L _ c (fun b0 q => by cases q; exact hv) hLr h]
        have hbc : ¬ (some b, y).1 = some c := by
          intro z
          have z : b = c := Option.some.inj z
          subst z
          unfold leP at hv
          omega
        rw [if_neg hbc]
        by_cases q : v.1 = c
        · rw [if_pos (by rw [q]), if_pos (decide_eq_true q), List.map_cons, List.sum_cons, Int.zero_add]
        · rw [if_neg (by intro z; exact q (Option.some.inj z)), if_neg (by rw [decide_eq_false q]; decide)]
      · rw [if_neg l] at h ⊢
        by_cases l2 : v.1 = b
        · rw [if_pos l2] at h ⊢
          rw [stepB_cnt L _ c (fun b0 q => by cases q; exact hcb) hLr h]
          by_cases q : b = c
          · rw [if_pos (by rw [q]), if_pos (by rw [q]), if_pos (decide_eq_true (l2.trans q)), List.map_cons, List.sum_cons, Int.add_assoc]
          · rw [if_neg (by intro z; exact q (Option.some.inj z)), if_neg (by intro z; exact q (Option.some.inj z)), if_neg (by rw [decide_eq_false (by rw [l2]; exact q)]; decide)]
        · rw [if_neg l2] at h ⊢
          rw [stepB_cnt L _ c (fun b0 q => by cases q; exact hcb) hLr h]
          have q : ¬ v.1 = c := by
            intro q
            apply l2
            have := not_leP l
            rw [q] at this ⊢
            exact leP_anti hcb this
          rw [if_neg (c := decide (v.1 = c) = true) (by rw [decide_eq_false q]; decide)]
theorem best_cnt {ps : List Pr} {w : Int} {row t : Str} {L : Lay} (hL : L ≠ []) : (bestP ps w row t L).2 = (((L.zipIdx.filter fun p => decide (addC (costP ps row (shown w t (p.2 : Int)) w) p.1.1 = (bestP ps w row t L).1)).map fun p => p.1.2).sum) := by
  obtain ⟨c, hc⟩ := best_some (ps := ps) (w := w) (row := row) (t := t) hL
  have e1 : (bestP ps w row t L).1 = c := by unfold bestP; rw [hc]; rfl
  have h := stepB_cnt (tots ps w row t L) (none, 0) c (fun _ q => by cases q) (fun v hv => (stepB_le _ _ c hc).2 v hv) hc
  rw [e1]
  show (bestF ps w row t L).2 = _
  unfold bestF
  rw [h, if_neg (by simp), Int.zero_add]
  unfold tots
  rw [List.filter_map, List.map_map]
  rfl
theorem cnt_good {ps : List Pr} {w : Int} : ∀ (ts : List Str), (∀ t ∈ ts, textOk w t) → ∀ (t : Str), textOk w t → ∀ row : Str, (bestP ps w row t ((layersF ps w (t :: ts)).headD [])).2 = ((goodG ps w (t :: ts) row (leastG ps w (t :: ts) row)).length : Int) := by
  intro ts
  induction ts with
  | nil =>
    intro _ t ht row
    have hlen := lay_len (ps := ps) (wd := w) t []
    obtain ⟨of1, of2⟩ := offN_pos ht
    have hne : (layersF ps w [t]).headD [] ≠ [] := fun e => by rw [e] at hlen; simp at hlen; omega
    rw [best_cnt hne, good_cons (by intro x hx; rw [List.mem_singleton.mp hx]; exact ht) row]
    show List.sum (List.map _ (List.filter (fun p : (Cst × Int) × Nat => decide (addC (costP ps row (shown w t (p.2 : Int)) w) p.1.1 = leastG ps w [t] row)) _)) = _
    have hall : ∀ p ∈ (((layersF ps w [t]).headD []).zipIdx.filter fun p : (Cst × Int) × Nat => decide (addC (costP ps row (shown w t (p.2 : Int)) w) p.1.1 = leastG ps w [t] row)), p.1 = (((0, 0), 1) : Cst × Int) := by
      intro p hp
      have hp := (List.mem_filter.mp hp).1
      obtain ⟨i, hi⟩ := List.getElem?_of_mem hp
      rw [List.getElem?_zipIdx] at hi
      have hrep : (layersF ps w [t]).headD [] = List.replicate (offN w t) ((0, 0), 1) := rfl
      rw [hrep, List.getElem?_replicate] at hi
      split at hi
      · exact (congrArg Prod.fst (Option.some.inj hi)).symm
      · cases hi
    generalize (((layersF ps w [t]).headD []).zipIdx.filter fun p : (Cst × Int) × Nat => decide (addC (costP ps row (shown w t (p.2 : Int)) w) p.1.1 = leastG ps w [t] row)) = z at hall ⊢
    induction z with
    | nil => rfl
    | cons p z ih =>
      have hp := hall p (List.mem_cons_self ..)
      rw [List.map_cons, List.sum_cons, ih fun q hq => hall q (List.mem_cons_of_mem _ hq), List.flatMap_cons, List.length_append, hp]
      show (1 : Int) + _ = (((1 : Nat) + _ : Nat) : Int)
      omega
  | cons t' r ih =>
    intro hr t ht row
    have hlen := lay_len (ps := ps) (wd := w) t (t' :: r)
    obtain ⟨of1, of2⟩ := offN_pos ht
    have hne : (layersF ps w (t :: t' :: r)).headD [] ≠ [] := fun e => by rw [e] at hlen; simp at hlen; omega
    rw [best_cnt hne, good_cons (by intro x hx; rcases List.mem_cons.mp hx with rfl | hx; exact ht; exact hr x hx) row]
    show List.sum (List.map _ (List.filter (fun p : (Cst × Int) × Nat => decide (addC (costP ps row (shown w t (p.2 : Int)) w) p.1.1 = leastG ps w (t :: t' :: r) row)) _)) = _
    have hall : ∀ p ∈ (((layersF ps w (t :: t' :: r)).headD []).zipIdx.filter fun p : (Cst × Int) × Nat => decide (addC (costP ps row (shown w t (p.2 : Int)) w) p.1.1 = leastG ps w (t :: t' :: r) row)), p.1 = bestP ps w (shown w t (p.2 : Int)) t' ((layersF ps w (t' :: r)).headD []) := by
      intro p hp
      have hp := (List.mem_filter.mp hp).1
      obtain ⟨i, hi⟩ := List.getElem?_of_mem hp
      rw [List.getElem?_zipIdx, rowsF_eq, List.getElem?_map] at hi
      cases g : (List.range (offN w t))[i]? with
      | none => rw [g] at hi; cases hi
      | some o =>
        have e1 : o = i := by
          obtain ⟨hl, e⟩ := List.getElem?_eq_some_iff.mp g
          rw [List.getElem_range] at e
          exact e.symm
        subst e1
        rw [g] at hi
        have hi := Option.some.inj hi
        rw [← hi]
        show bestP ps w (shown w t ((o : Nat) : Int)) t' _ = bestP ps w (shown w t ((0 + o : Nat) : Int)) t' _
        rw [Nat.zero_add]
    generalize (((layersF ps w (t :: t' :: r)).headD []).zipIdx.filter fun p : (Cst × Int) × Nat => decide (addC (costP ps row (shown w t (p.2 : Int)) w) p.1.1 = leastG ps w (t :: t' :: r) row)) = z at hall ⊢
    have ih' := fun row' => ih (fun x hx => hr x (List.mem_cons_of_mem _ hx)) t' (hr t' (List.mem_cons_self ..)) row'
    induction z with
    | nil => rfl
    | cons p z ihz =>
      have hp := hall p (List.mem_cons_self ..)
      rw [List.map_cons, List.sum_cons, ihz fun q hq => hall q (List.mem_cons_of_mem _ hq), List.flatMap_cons, List.length_append, List.length_map, hp, ih' (shown w t (p.2 : Int))]
      show _ = ((_ + _ : Nat) : Int)
      rw [Int.natCast_add]
      rfl
theorem count_all {ps : List Pr} {w : Int} {ts : List Str} (hOk : okSeason w ps ts) : countF ps w ts = (((allF w ts.reverse).filter fun os => decide (fixF ps w ts os = seasonF ps w ts)).length : Int) := by
  have ht := hOk.2.2.2.2.2.2.2
  obtain ⟨t, r, rfl⟩ : ∃ t r, ts = t :: r := by
    cases ts with
    | nil => have := hOk.2.2.2.2.2.1; simp at this
    | cons t r => exact ⟨t, r, rfl⟩
  have h := cnt_good (ps := ps) (w := w) r (fun x hx => ht x (List.mem_cons_of_mem _ hx)) t (ht t (List.mem_cons_self ..)) (mulS sp1 w)
  show (bestP ps w (mulS sp1 w) t ((layersF ps w (t :: r)).headD [])).2 = _
  rw [h, allF_G, List.reverse_reverse]
  unfold goodG
  have e : List.filter (fun os => decide (sumC ps w (mulS sp1 w) ((t :: r).zip os) = leastG ps w (t :: r) (mulS sp1 w))) (allG w (t :: r)) = List.filter (fun os => decide (fixF ps w (t :: r) os = seasonF ps w (t :: r))) (allG w (t :: r)) := by
    apply List.filter_congr
    intro os _
    unfold fixF
    rw [fix_sum, zero_addC]
    rfl
  rw [e]
theorem fold_snoc (ps : List Pr) (w : Int) (ts : List Str) (os : List Int) (t : Str) (o : Int) (hl : os.length = ts.length) (s0 : FS) : ((ts ++ [t]).zip (os ++ [o])).foldl (stepF ps w) s0 = stepF ps w ((ts.zip os).foldl (stepF ps w) s0) (t, o) := by
  rw [List.zip_append hl.symm, List.foldl_append]
  rfl
theorem as_ms {Γ : Cg} {ts : TS} {F : Hp} {ms ms' : Ms} {S : Sg} {A : AEnds} (e : ms = ms') (h : AS Γ ts F ms' S A) : AS Γ ts F ms S A := e ▸ h
theorem sgn_pre {C : Addr} {ms J : Ms} {x : Addr} {w : Int} {ps : List Pr} (h : Sgn C ms x w ps) : Sgn C (J ++ ms) x w ps := by
  obtain ⟨i, j, m, hi, hj⟩ := h
  exact ⟨J.length + i, J.length + j, m, by rw [List.getElem?_append_right (Nat.le_add_right ..), Nat.add_sub_cancel_left]; exact hi, by rw [List.getElem?_append_right (Nat.le_add_right ..), Nat.add_sub_cancel_left]; exact hj⟩
theorem season_least {ps : List Pr} {w : Int} {ts : List Str} (hO : okSeason w ps ts) {os : List Int} (h : okOff w ts os) : lt2 (fixF ps w ts os) (seasonF ps w ts) = false := by
  have ht := hO.2.2.2.2.2.2.2
  have htr : ∀ t ∈ ts.reverse, textOk w t := fun t h => ht t (List.mem_reverse.mp h)
  have hm := min2 ((allF w ts.reverse).map (fixF ps w ts)).tail (((allF w ts.reverse).map (fixF ps w ts)).headD (0, 0))
  have hmem := List.mem_map_of_mem (f := fixF ps w ts) (allF_has htr os (by rw [List.reverse_reverse]; exact h))
  generalize hL : (allF w ts.reverse).map (fixF ps w ts) = L at hm hmem
  cases L with
  | nil => cases hmem
  | cons a L =>
    obtain ⟨mm, _, hm1, hm2⟩ := hm
    have hm1 : mm ∈ a :: L := hm1
    have hm2 : ∀ y ∈ a :: L, lt2 y mm = false := hm2
    rw [← hL] at hm1 hm2 hmem
    rw [← min_season hO hm1 hm2]
    exact hm2 _ hmem
theorem cost_nn (ps : List Pr) (b a : Str) (w : Int) : 0 ≤ (costP ps b a w).1 ∧ 0 ≤ (costP ps b a w).2 := by
  unfold costP carriedF turnedF
  refine ⟨?_, by omega⟩
  have hs : 0 ≤ ((surF (linksF ps b.cps.toList a.cps.toList w.toNat)).map (·.2)).sum := by
    have gen : ∀ l : Cn, (∀ p ∈ l, 0 < p.2) → 0 ≤ (l.map (·.2)).sum := by
      intro l
      induction l with
      | nil => intro _; exact Int.le_refl _
      | cons p l ih =>
        intro h
        rw [List.map_cons, List.sum_cons]
        have h1 := h p (List.mem_cons_self ..)
        have h2 := ih fun q hq => h q (List.mem_cons_of_mem _ hq)
        omega
    refine gen _ fun p hp => ?_
    unfold surF at hp
    have := (List.mem_filter.mp hp).2
    rw [Bool.and_eq_true] at this
    exact of_decide_eq_true this.1
  show 0 ≤ _ + _ + _
  omega
theorem cost_self (ps : List Pr) (b : Str) (w : Int) : costP ps b b w = (0, 0) := by
  unfold costP
  have h1 : linksF ps b.cps.toList b.cps.toList w.toNat = [] := by
    unfold linksF
    rw [List.filterMap_eq_nil_iff]
    intro i _
    unfold lkAt
    rw [if_pos rfl]
  have h2 : turnedF ps b.cps.toList b.cps.toList w.toNat = 0 := by
    unfold turnedF
    rw [List.filter_eq_nil_iff.mpr (fun i _ => by simp)]
    rfl
  rw [h1, h2]
  rfl
theorem fix_snoc {ps : List Pr} {w : Int} {ts : List Str} {t : Str} {os : List Int} {o : Int} (hl : os.length = ts.length) : fixF ps w (ts ++ [t]) (os ++ [o]) = addC (fixF ps w ts os) (costP ps ((ts.zip os).foldl (stepF ps w) ((0, 0), mulS sp1 w)).2 (shown w t o) w) := by
  unfold fixF
  rw [fold_snoc ps w ts os t o hl]
  rfl
theorem off_split {w : Int} {ts : List Str} {t : Str} {os : List Int} (h : okOff w (ts ++ [t]) os) : ∃ os' o, os = os' ++ [o] ∧ okOff w ts os' := by
  obtain ⟨h1, h2⟩ := h
  rw [List.length_append] at h1
  rcases List.eq_nil_or_concat os with e | ⟨os', o, e⟩
  · rw [e] at h1; cases h1
  · rw [List.concat_eq_append] at e
    subst e
    rw [List.length_append] at h1
    have h1 : os'.length = ts.length := Nat.succ.inj h1
    exact ⟨os', o, rfl, h1, fun i t' o' hi ho => h2 i t' o' (by rw [List.getElem?_append_left (List.getElem?_eq_some_iff.mp hi).1]; exact hi) (by rw [List.getElem?_append_left (List.getElem?_eq_some_iff.mp ho).1]; exact ho)⟩
theorem season_again {ps : List Pr} {w : Int} {ts : List Str} {t : Str} (hO : okSeason w ps (ts ++ [t])) (hO2 : okSeason w ps ((ts ++ [t]) ++ [t])) : seasonF ps w ((ts ++ [t]) ++ [t]) = seasonF ps w (ts ++ [t]) := by
  obtain ⟨os, h1, h2⟩ := season_at hO
  obtain ⟨os', h3, h4⟩ := season_at hO2
  obtain ⟨os0, o, rfl, h5⟩ := off_split h1
  have ho := h1.2 ts.length t o (by simp) (by rw [List.getElem?_append_right (by rw [h5.1]; exact Nat.le_refl _), h5.1, Nat.sub_self]; rfl)
  have a1 := season_least hO2 (ok_snoc h1 ho.1 ho.2)
  rw [fix_snoc h1.1, fold_snoc ps w ts os0 t o h5.1] at a1
  have e1 : (stepF ps w (List.foldl (stepF ps w) ((0, 0), mulS sp1 w) (ts.zip os0)) (t, o)).2 = shown w t o := rfl
  rw [e1, cost_self, h2] at a1
  obtain ⟨os1, o1, rfl, h6⟩ := off_split h3
  rw [fix_snoc h6.1] at h4
  have a2 := season_least hO h6
  have nn := cost_nn ps (((ts ++ [t]).zip os1).foldl (stepF ps w) ((0, 0), mulS sp1 w)).2 (shown w t o1) w
  rw [← h4] at a1 ⊢
  generalize costP ps (((ts ++ [t]).zip os1).foldl (stepF ps w) ((0, 0), mulS sp1 w)).2 (shown w t o1) w = c at a1 nn ⊢
  generalize fixF ps w (ts ++ [t]) os1 = f at a1 a2 ⊢
  generalize seasonF ps w (ts ++ [t]) = s at a1 a2 ⊢
  have a1' : ¬ (lt2 (addC s (0, 0)) (addC f c) = true) := by rw [a1]; decide
  have a2' : ¬ (lt2 f s = true) := by rw [a2]; decide
  rw [lt2_iff] at a1' a2'
  unfold addC at a1' ⊢
  have a1' : ¬ (s.1 + 0 < f.1 + c.1 ∨ s.1 + 0 = f.1 + c.1 ∧ s.2 + 0 < f.2 + c.2) := a1'
  exact Prod.ext (by show f.1 + c.1 = s.1; omega) (by show f.2 + c.2 = s.2; omega)
theorem okL_ints (os : List Int) : okL (os.map D.int) = true := by
  induction os with
  | nil => rfl
  | cons o os ih => show (true && okL (os.map D.int)) = true; rw [ih]; rfl
theorem depL_ints (os : List Int) : depL (os.map D.int) = 0 := by
  induction os with
  | nil => rfl
  | cons o os ih => show max 0 (depL (os.map D.int)) = 0; rw [ih]; rfl
theorem okL_offs (B : List (List Int)) : okL (B.map fun os => D.tup (os.map D.int)) = true := by
  induction B with
  | nil => rfl
  | cons o os ih => show (okL (o.map D.int) && okL (os.map fun os => D.tup (os.map D.int))) = true; rw [ih, okL_ints]; rfl
theorem depL_offs (B : List (List Int)) : depL (B.map fun os => D.tup (os.map D.int)) ≤ 1 := by
  induction B with
  | nil => exact Nat.zero_le _
  | cons o os ih => show max (depL (o.map D.int) + 1) (depL (os.map fun os => D.tup (os.map D.int))) ≤ 1; rw [depL_ints]; omega
/-! what is needed is carried -/
noncomputable def cq (ps : List Pr) (l : List Nat) (c : Nat) : Nat := l.countP fun a => decide (pc ps a = c)
theorem pc_32 {ps : List Pr} (h : ∀ c ∈ flat ps, inL c) : pc ps 32 = 32 := by
  unfold pc
  rw [List.find?_eq_none.mpr]
  intro p hp
  have h1 := h p.1 (List.mem_flatMap.mpr ⟨p, hp, by simp⟩)
  have h2 := h p.2 (List.mem_flatMap.mpr ⟨p, hp, by simp⟩)
  have n32 : ¬ inL 32 := by unfold inL; decide +kernel
  simp only [decide_eq_true_eq, not_or]
  exact ⟨fun e => n32 (e ▸ h1), fun e => n32 (e ▸ h2)⟩
theorem cntP_cq {ps : List Pr} (h : ∀ c ∈ flat ps, inL c) {t : Str} {c : Nat} (hc : c ≠ 32) : cntP ps t c = (cq ps t.cps.toList c : Int) := by
  unfold cntP cq
  congr 1
  apply List.countP_congr
  intro a _
  simp only [Bool.and_eq_true, decide_eq_true_eq]
  exact ⟨fun h => h.2, fun e => ⟨fun z => by rw [z, pc_32 h] at e; exact hc e.symm, e⟩⟩
theorem countP_le3 {α : Type} {p q r : α → Bool} : ∀ {l : List α}, (∀ x ∈ l, p x = true → q x = true ∨ r x = true) → l.countP p ≤ l.countP q + l.countP r
  | [], _ => Nat.zero_le _
  | x :: l, h => by
    have ih := countP_le3 (p := p) (q := q) (r := r) fun y hy => h y (List.mem_cons_of_mem x hy)
    have hx := h x (List.mem_cons_self ..)
    rw [List.countP_cons, List.countP_cons, List.countP_cons]
    by_cases e : p x = true
    · rw [if_pos e]
      rcases hx e with e2 | e2
      · rw [if_pos e2]; omega
      · rw [if_pos e2]; omega
    · rw [if_neg e]; omega
theorem cq_range (ps : List Pr) (l : List Nat) (c : Nat) : cq ps l c = (List.range l.length).countP fun i => decide (pc ps (l.getD i 0) = c) := by
  have e : l = (List.range l.length).map fun i => l.getD i 0 := by
    apply List.ext_getElem?
    intro i
    rw [List.getElem?_map]
    by_cases h : i < l.length
    · rw [List.getElem?_range h]
      show l[i]? = some (l.getD i 0)
      rw [List.getD_eq_getElem?_getD, List.getElem?_eq_getElem h]
      rfl
    · rw [List.getElem?_eq_none (by omega), List.getElem?_eq_none (by rw [List.length_range]; omega)]; rfl
  unfold cq
  rw [e, List.countP_map]
  rw [← e]
  rfl
theorem cq_link {ps : List Pr} {b a : List Nat} {n c : Nat} (hb : b.length = n) (ha : a.length = n) : cq ps a c ≤ cq ps b c + (linksF ps b a n).countP fun k => decide (k.2.2 = c) := by
  rw [cq_range, cq_range, ha, hb]
  unfold linksF
  rw [List.countP_filterMap]
  refine countP_le3 fun i _ h => ?_
  have h := of_decide_eq_true h
  unfold lkAt
  by_cases e : pc ps (b.getD i 0) = pc ps (a.getD i 0)
  · exact .inl (decide_eq_true (e.trans h))
  · rw [if_neg e]
    exact .inr (decide_eq_true h)
theorem sum_tgt : ∀ (L : List Lk) {ks : List Nat}, ks.Nodup → 32 ∉ ks → (ks.map fun c => L.countP fun k => decide (k.2.2 = c)).sum ≤ (L.filter fun k => !decide (k.2.2 = 32)).length
  | [], ks, _, _ => by
    have e : ∀ ks : List Nat, (ks.map fun c => ([] : List Lk).countP fun k => decide (k.2.2 = c)).sum = 0 := by
      intro ks
      induction ks with
      | nil => rfl
      | cons c ks ih => rw [List.map_cons, List.sum_cons, ih]; rfl
    rw [e]
    exact Nat.zero_le _
  | k :: L, ks, nd, h32 => by
    have ih := sum_tgt L nd h32
    have key : ∀ ks : List Nat, ks.Nodup → (ks.map fun c => (k :: L).countP fun k => decide (k.2.2 = c)).sum = (ks.map fun c => L.countP fun k => decide (k.2.2 = c)).sum + (if k.2.2 ∈ ks then 1 else 0) := by
      intro ks
      induction ks with
      | nil => intro _; rfl
      | cons c ks ih2 =>
        intro nd
        rw [List.nodup_cons] at nd
        rw [List.map_cons, List.sum_cons, ih2 nd.2, List.map_cons, List.sum_cons, List.countP_cons]
        by_cases e : k.2.2 = c
        · rw [if_pos (decide_eq_true e), if_neg (by rw [e]; exact nd.1), if_pos (by rw [e]; exact List.mem_cons_self ..)]
          omega
        · rw [if_neg (by rw [decide_eq_false e]; decide)]
          by_cases e2 : k.2.2 ∈ ks
          · rw [if_pos e2, if_pos (List.mem_cons_of_mem _ e2)]; omega
          · rw [if_neg e2, if_neg (by rw [List.mem_cons]; exact fun h => h.elim e e2)]; omega
    rw [key ks nd, List.filter_cons]
    by_cases e : k.2.2 ∈ ks
    · have n32 : k.2.2 ≠ 32 := fun z => h32 (z ▸ e)
      rw [if_pos e, if_pos (by rw [decide_eq_false n32]; rfl), List.length_cons]
      omega
    · rw [if_neg e]
      split
      · rw [List.length_cons]; omega
      · omega
theorem car_ge (ks : List Lk) : ((ks.filter fun k => !decide (k.2.2 = 32)).length : Int) ≤ carriedF ks := by
  unfold carriedF
  have hs : 0 ≤ ((surF ks).map (·.2)).sum := by
    have gen : ∀ l : Cn, (∀ p ∈ l, 0 < p.2) → 0 ≤ (l.map (·.2)).sum := by
      intro l
      induction l with
      | nil => intro _; exact Int.le_refl _
      | cons p l ih =>
        intro h
        rw [List.map_cons, List.sum_cons]
        have h1 := h p (List.mem_cons_self ..)
        have h2 := ih fun q hq => h q (List.mem_cons_of_mem _ hq)
        omega
    refine gen _ fun p hp => ?_
    unfold surF at hp
    have := (List.mem_filter.mp hp).2
    rw [Bool.and_eq_true] at this
    exact of_decide_eq_true this.1
  omega
theorem cq_shown {ps : List Pr} (h : ∀ c ∈ flat ps, inL c) {w : Int} {t : Str} {o : Int} {c : Nat} (hc : c ≠ 32) : cq ps (shown w t o).cps.toList c = cq ps t.cps.toList c := by
  have h0 : ∀ k : Int, cq ps (mulS sp1 k).cps.toList c = 0 := fun k => by
    unfold cq
    rw [List.countP_eq_zero]
    intro a ha
    have ha : a ∈ (List.replicate k.toNat [32]).flatten := ha
    obtain ⟨l, hl, ha⟩ := List.mem_flatten.mp ha
    rw [(List.mem_replicate.mp hl).2] at ha
    rw [List.mem_singleton.mp ha, pc_32 h]
    simp only [decide_eq_true_eq]
    exact fun e => hc e.symm
  unfold shown
  unfold cq at h0 ⊢
  rw [app_l, app_l, List.countP_append, List.countP_append, h0, h0]
  omega
noncomputable def mxQ (ps : List Pr) (zs : List (Str × Int)) (x c : Nat) : Nat := zs.foldl (fun x z => max x (cq ps z.1.cps.toList c)) x
theorem sum_le2 {f g h : Nat → Nat} : ∀ (ks : List Nat), (∀ c ∈ ks, f c ≤ g c + h c) → (ks.map f).sum ≤ (ks.map g).sum + (ks.map h).sum
  | [], _ => Nat.le_refl _
  | c :: ks, hh => by
    have ih := sum_le2 ks fun d hd => hh d (List.mem_cons_of_mem _ hd)
    have := hh c (List.mem_cons_self ..)
    rw [List.map_cons, List.map_cons, List.map_cons, List.sum_cons, List.sum_cons, List.sum_cons]
    omega
theorem need_fold {ps : List Pr} {w : Int} (hp : ∀ c ∈ flat ps, inL c) {ks : List Nat} (nd : ks.Nodup) (h32 : 32 ∉ ks) : ∀ (zs : List (Str × Int)) (s : FS) (m : Nat → Nat), (∀ c ∈ ks, cq ps s.2.cps.toList c ≤ m c) → okRow w s.2 →
    (∀ z ∈ zs, textOk w z.1 ∧ 0 ≤ z.2 ∧ z.2 + (z.1.length : Int) ≤ w) → (((ks.map m).sum : Nat) : Int) ≤ s.1.1 → (((ks.map fun c => mxQ ps zs (m c) c).sum : Nat) : Int) ≤ (zs.foldl (stepF ps w) s).1.1
  | [], s, m, _, _, _, h => h
  | z :: zs, s, m, hm, hr, hz, h => by
    obtain ⟨z1, z2, z3⟩ := hz z (List.mem_cons_self ..)
    have hr2 : okRow w (shown w z.1 z.2) := shown_ok z1 z2 z3
    have l1 : s.2.cps.toList.length = w.toNat := by have := hr.1; have e : s.2.cps.toList.length = s.2.length := rfl; omega
    have l2 : (shown w z.1 z.2).cps.toList.length = w.toNat := by have := hr2.1; have e : (shown w z.1 z.2).cps.toList.length = (shown w z.1 z.2).length := rfl; omega
    have c32 : ∀ c ∈ ks, c ≠ 32 := fun c hc e => h32 (e ▸ hc)
    have step : (ks.map fun c => max (m c) (cq ps z.1.cps.toList c)).sum ≤ (ks.map m).sum + (ks.map fun c => (linksF ps s.2.cps.toList (shown w z.1 z.2).cps.toList w.toNat).countP fun k => decide (k.2.2 = c)).sum := by
      refine sum_le2 ks fun c hc => ?_
      have a1 := cq_link (ps := ps) (c := c) l1 l2
      rw [cq_shown hp (c32 c hc)] at a1
      have a2 := hm c hc
      omega
    have t1 := sum_tgt (linksF ps s.2.cps.toList (shown w z.1 z.2).cps.toList w.toNat) nd h32
    have t2 := car_ge (linksF ps s.2.cps.toList (shown w z.1 z.2).cps.toList w.toNat)
    refine need_fold hp nd h32 zs (stepF ps w s z) (fun c => max (m c) (cq ps z.1.cps.toList c)) (fun c hc => ?_) hr2 (fun y hy => hz y (List.mem_cons_of_mem _ hy)) ?_
    · show cq ps (shown w z.1 z.2).cps.toList c ≤ _
      rw [cq_shown hp (c32 c hc)]
      exact Nat.le_max_right ..
    · show _ ≤ s.1.1 + carriedF (linksF ps s.2.cps.toList (shown w z.1 z.2).cps.toList w.toNat)
      omega
theorem need_c {ps : List Pr} (hp : ∀ c ∈ flat ps, inL c) {c : Nat} (hc : c ≠ 32) : ∀ (ts : List Str) (os : List Int), os.length = ts.length → ∀ x : Nat, ts.foldl (fun m t => max m (cntP ps t c)) (x : Int) = ((mxQ ps (ts.zip os) x c : Nat) : Int)
  | [], _, _, x => rfl
  | t :: ts, [], h, x => by simp at h
  | t :: ts, o :: os, h, x => by
    rw [List.foldl_cons, cntP_cq hp hc, show max (x : Int) (cq ps t.cps.toList c : Int) = ((max x (cq ps t.cps.toList c) : Nat) : Int) by omega]
    exact need_c hp hc ts os (by simpa using h) _
theorem need_32 {ps : List Pr} (hp : ∀ c ∈ flat ps, inL c) : ∀ (ts : List Str), (∀ t ∈ ts, ∀ a ∈ t.cps.toList, a = 32 ∨ inL a) → ts.foldl (fun m t => max m (cntP ps t 32)) 0 = 0
  | [], _ => rfl
  | t :: ts, h => by
    have e : cntP ps t 32 = 0 := by
      unfold cntP
      rw [List.countP_eq_zero.mpr]
      · rfl
      · intro a ha
        simp only [Bool.and_eq_true, decide_eq_true_eq, not_and]
        intro n32 e
        rcases h t (List.mem_cons_self ..) a ha with z | z
        · exact n32 z
        · have := pc_in hp z
          rw [e] at this
          revert this
          unfold inL
          decide +kernel
    rw [List.foldl_cons, e]
    exact need_32 hp ts fun t ht => h t (List.mem_cons_of_mem _ ht)
theorem need_le {ps : List Pr} {w : Int} {ts : List Str} {nd : Cn} (hO : okSeason w ps ts) (hn : NeedOk ps ts nd) : (nd.map (·.2)).sum ≤ (seasonF ps w ts).1 := by
  obtain ⟨os, ho, hs⟩ := season_at hO
  obtain ⟨w1, w2, p1, hp, pn, t1, t2, ht⟩ := hO
  have htc : ∀ t ∈ ts, ∀ c ∈ t.cps.toList, c = 32 ∨ inL c := fun t m => (ht t m).2.2.1
  have h32 : 32 ∉ nd.map (·.1) := fun h => by
    obtain ⟨p, hpm, e⟩ := List.mem_map.mp h
    obtain ⟨e1, e2⟩ := (hn.2 p).mp hpm
    rw [e1, e] at e2
    unfold needC at e2
    rw [need_32 hp ts htc] at e2
    exact absurd e2 (by decide)
  have nodup : (nd.map (·.1)).Nodup := hn.1.imp fun h => Nat.ne_of_lt h
  have hz : ∀ z ∈ ts.zip os, textOk w z.1 ∧ 0 ≤ z.2 ∧ z.2 + (z.1.length : Int) ≤ w := fun z hz => by
    obtain ⟨i, hi⟩ := List.mem_iff_getElem?.mp hz
    obtain ⟨h1, h2⟩ := List.getElem?_zip_eq_some.mp hi
    exact ⟨ht _ (List.mem_of_getElem? h1), ho.2 i _ _ h1 h2⟩
  have hb : ∀ c ∈ nd.map (·.1), cq ps (mulS sp1 w).cps.toList c ≤ 0 := fun c hc => by
    have c32 : c ≠ 32 := fun e => h32 (e ▸ hc)
    unfold cq
    rw [List.countP_eq_zero.mpr]
    · exact Nat.le_refl _
    · intro a ha
      have ha : a ∈ (List.replicate w.toNat [32]).flatten := ha
      obtain ⟨l, hl, ha⟩ := List.mem_flatten.mp ha
      rw [(List.mem_replicate.mp hl).2] at ha
      rw [List.mem_singleton.mp ha, pc_32 hp]
      simp only [decide_eq_true_eq]
      exact fun e => c32 e.symm
  have key := need_fold (w := w) hp nodup h32 (ts.zip os) ((0, 0), mulS sp1 w) (fun _ => 0) hb (blank_ok (by omega)) hz (by
    rw [show ((nd.map (·.1)).map fun _ => 0).sum = 0 from ?_]
    · exact Int.le_refl _
    · generalize nd.map (·.1) = l
      induction l with
      | nil => rfl
      | cons a l ih => rw [List.map_cons, List.sum_cons, ih])
  rw [← hs]
  unfold fixF
  refine Int.le_trans (Int.le_of_eq ?_) key
  have gen : ∀ l : Cn, (∀ p ∈ l, p ∈ nd) → (l.map (·.2)).sum = ((((l.map (·.1)).map fun c => mxQ ps (ts.zip os) 0 c).sum : Nat) : Int) := by
    intro l
    induction l with
    | nil => intro _; rfl
    | cons p l ih =>
      intro h
      have hpm := h p (List.mem_cons_self ..)
      have e := ((hn.2 p).mp hpm).1
      have c32 : p.1 ≠ 32 := fun z => h32 (z ▸ List.mem_map_of_mem hpm)
      have e2 : needC ps ts p.1 = ((mxQ ps (ts.zip os) 0 p.1 : Nat) : Int) := need_c hp c32 ts os ho.1 0
      rw [List.map_cons, List.sum_cons, ih fun q hq => h q (List.mem_cons_of_mem _ hq), e, e2, List.map_cons, List.map_cons, List.sum_cons]
      omega
  exact gen nd fun p h => h
/-! the cost of a first text -/
theorem blk_val {m : Cn} {c : Nat} (h : ∀ p ∈ m, p.1 ≠ 32 → p.2 ≤ 0) (hc : c ≠ 32) : valC m c ≤ 0 := by
  unfold valC
  cases e : m.find? fun p => decide (p.1 = c) with
  | none => exact Int.le_refl _
  | some p =>
    have h1 := List.find?_some e
    have h2 := List.mem_of_find?_eq_some e
    exact h p h2 (by rw [of_decide_eq_true h1]; exact hc)
theorem blk_set {m : Cn} {c : Nat} {z : Int} (h : ∀ p ∈ m, p.1 ≠ 32 → p.2 ≤ 0) (hz : c ≠ 32 → z ≤ 0) : ∀ p ∈ setC m c z, p.1 ≠ 32 → p.2 ≤ 0 := by
  intro p hp
  unfold setC at hp
  split at hp
  · obtain ⟨q, hq, e⟩ := List.mem_map.mp hp
    by_cases e2 : q.1 = c
    · rw [if_pos e2] at e
      rw [← e]
      exact fun n => hz (by rw [← e2]; exact n)
    · rw [if_neg e2] at e
      rw [← e]
      exact h q hq
  · rcases List.mem_append.mp hp with hp | hp
    · exact h p hp
    · rw [List.mem_singleton.mp hp]
      exact hz
theorem blk_cnt : ∀ (ks : List Lk) (m : Cn), (∀ k ∈ ks, k.2.1 = 32) → (∀ p ∈ m, p.1 ≠ 32 → p.2 ≤ 0) → ∀ p ∈ ks.foldl stepC m, p.1 ≠ 32 → p.2 ≤ 0
  | [], m, _, h => h
  | k :: ks, m, hk, h => by
    have h1 : ∀ p ∈ setC m k.2.1 (valC m k.2.1 + 1), p.1 ≠ 32 → p.2 ≤ 0 := blk_set h fun n => absurd (hk k (List.mem_cons_self ..)) n
    exact blk_cnt ks _ (fun y hy => hk y (List.mem_cons_of_mem _ hy)) (blk_set h1 fun n => by have := blk_val h1 n; omega)
theorem blk_grp : ∀ (ks : List Lk) (found : List (List Lk)), (∀ k ∈ ks, k.2.1 = 32) → (∀ g ∈ found, ∃ k ∈ g, k.2.1 = 32) → ∀ g ∈ ks.foldl stepG found, ∃ k ∈ g, k.2.1 = 32
  | [], _, _, h => h
  | k :: ks, found, hk, h => by
    refine blk_grp ks _ (fun y hy => hk y (List.mem_cons_of_mem _ hy)) fun g hg => ?_
    unfold stepG at hg
    rcases List.mem_append.mp hg with hg | hg
    · exact h g ((List.mem_filter.mp hg).1)
    · rw [List.mem_singleton.mp hg]
      refine ⟨k, ?_, hk k (List.mem_cons_self ..)⟩
      unfold togF
      have gen : ∀ (l : List (List Lk)) (t : List Lk), k ∈ t → k ∈ l.foldl (fun t g => g ++ t) t := by
        intro l
        induction l with
        | nil => intro t h; exact h
        | cons g l ih => intro t h; exact ih _ (List.mem_append_right _ h)
      exact gen _ _ (by simp)
theorem car_blk {ks : List Lk} (h : ∀ k ∈ ks, k.2.1 = 32) : carriedF ks = ((ks.filter fun k => !decide (k.2.2 = 32)).length : Int) := by
  have h1 : surF ks = [] := by
    unfold surF
    rw [List.filter_eq_nil_iff]
    intro p hp z
    rw [Bool.and_eq_true] at z
    have a := of_decide_eq_true z.1
    have b : p.1 ≠ 32 := fun e => by rw [e] at z; exact absurd z.2 (by decide)
    have := blk_cnt ks [] h (fun _ h => nomatch h) p hp b
    omega
  have h2 : (groupsF ks).filter closedF = [] := by
    rw [List.filter_eq_nil_iff]
    intro g hg z
    obtain ⟨k, hk, e⟩ := blk_grp ks [] h (fun _ h => nomatch h) g hg
    unfold closedF at z
    rw [Bool.and_eq_true] at z
    have := List.all_eq_true.mp z.1 k hk
    rw [e] at this
    exact absurd this (by simp)
  unfold carriedF
  rw [h1, h2]
  show _ + (0 : Int) + ((0 : Nat) : Int) = _
  omega
theorem blk_getD {w : Int} (i : Nat) (h : i < w.toNat) : (mulS sp1 w).cps.toList.getD i 0 = 32 := by
  have hl : (mulS sp1 w).cps.toList.length = w.toNat := mulS_len1 w
  rw [List.getD_eq_getElem?_getD, List.getElem?_eq_getElem (by rw [hl]; exact h)]
  have hm := List.getElem_mem (l := (mulS sp1 w).cps.toList) (n := i) (by rw [hl]; exact h)
  have hm2 : (mulS sp1 w).cps.toList[i]'(by rw [hl]; exact h) ∈ (List.replicate w.toNat [32]).flatten := hm
  obtain ⟨l, hl2, hc⟩ := List.mem_flatten.mp hm2
  rw [(List.mem_replicate.mp hl2).2] at hc
  show (mulS sp1 w).cps.toList[i]'(by rw [hl]; exact h) = 32
  exact List.mem_singleton.mp hc
theorem cost_blk {ps : List Pr} {w : Int} {a : Str} (hp : ∀ c ∈ flat ps, inL c) (ha : okRow w a) : costP ps (mulS sp1 w) a w = (((a.cps.toList.filter (· != 32)).length : Int), 0) := by
  have n32 : ¬ inL 32 := by unfold inL; decide +kernel
  have hl : a.cps.toList.length = w.toNat := by have := ha.1; have e : a.cps.toList.length = a.length := rfl; omega
  have hne : ∀ i, i < w.toNat → (a.cps.toList.getD i 0 = 32 ∨ inL (a.cps.toList.getD i 0)) := fun i hi => by
    rw [List.getD_eq_getElem?_getD, List.getElem?_eq_getElem (by omega)]
    exact ha.2 _ (List.getElem_mem _)
  have hpc : ∀ i, i < w.toNat → (pc ps (a.cps.toList.getD i 0) = 32 ↔ a.cps.toList.getD i 0 = 32) := fun i hi => by
    refine ⟨fun e => ?_, fun e => by rw [e]; exact pc_32 hp⟩
    rcases hne i hi with z | z
    · exact z
    · have := pc_in hp z
      rw [e] at this
      exact absurd this n32
  have hsrc : ∀ k ∈ linksF ps (mulS sp1 w).cps.toList a.cps.toList w.toNat, k.2.1 = 32 := fun k hk => by
    unfold linksF at hk
    obtain ⟨i, hi, e⟩ := List.mem_filterMap.mp hk
    have hi := List.mem_range.mp hi
    unfold lkAt at e
    split at e
    · cases e
    · cases e
      show pc ps ((mulS sp1 w).cps.toList.getD i 0) = 32
      rw [blk_getD i hi]
      exact pc_32 hp
  unfold costP
  rw [car_blk hsrc]
  have h2 : turnedF ps (mulS sp1 w).cps.toList a.cps.toList w.toNat = 0 := by
    unfold turnedF
    rw [List.filter_eq_nil_iff.mpr]
    · rfl
    · intro i hi z
      have hi := List.mem_range.mp hi
      rw [blk_getD i hi, pc_32 hp, Bool.and_eq_true] at z
      have z1 := of_decide_eq_true z.1
      have z2 := of_decide_eq_true z.2
      exact z1 ((hpc i hi).mp z2.symm).symm
  rw [h2]
  congr 2
  unfold linksF
  rw [← List.countP_eq_length_filter, List.countP_filterMap, ← List.countP_eq_length_filter]
  have e : a.cps.toList = (List.range w.toNat).map fun i => a.cps.toList.getD i 0 := by
    apply List.ext_getElem?
    intro i
    rw [List.getElem?_map]
    by_cases h : i < w.toNat
    · rw [List.getElem?_range h]
      show _ = some (a.cps.toList.getD i 0)
      rw [List.getD_eq_getElem?_getD, List.getElem?_eq_getElem (by omega)]
      rfl
    · rw [List.getElem?_eq_none (by omega), List.getElem?_eq_none (by rw [List.length_range]; omega)]; rfl
  have e2 : a.cps.toList.countP (· != 32) = (List.range w.toNat).countP fun i => a.cps.toList.getD i 0 != 32 := by
    conv => lhs; rw [e]
    rw [List.countP_map]
    rfl
  rw [e2]
  apply List.countP_congr
  intro i hi
  have hi := List.mem_range.mp hi
  unfold lkAt
  rw [blk_getD i hi, pc_32 hp]
  have z0 := hpc i hi
  generalize a.cps.toList.getD i 0 = x at z0 ⊢
  by_cases z : x = 32
  · rw [if_pos (z0.mpr z).symm, z]
    simp
  · have z2 : ¬ pc ps x = 32 := fun e => z (z0.mp e)
    rw [if_neg fun e => z2 e.symm]
    simp [z, z2]
theorem flt_shown {w : Int} {t : Str} {o : Int} : (shown w t o).cps.toList.filter (· != 32) = t.cps.toList.filter (· != 32) := by
  have h0 : ∀ k : Int, (mulS sp1 k).cps.toList.filter (· != 32) = [] := fun k => by
    rw [List.filter_eq_nil_iff]
    intro c hc
    have hc : c ∈ (List.replicate k.toNat [32]).flatten := hc
    obtain ⟨l, hl, hc⟩ := List.mem_flatten.mp hc
    rw [(List.mem_replicate.mp hl).2] at hc
    rw [List.mem_singleton.mp hc]
    decide
  unfold shown
  rw [app_l, app_l, List.filter_append, List.filter_append, h0, h0, List.nil_append, List.append_nil]
theorem season_one {ps : List Pr} {w : Int} {t : Str} (hO : okSeason w ps [t]) : seasonF ps w [t] = (((t.cps.toList.filter (· != 32)).length : Int), 0) := by
  obtain ⟨os, ho, hs⟩ := season_at hO
  obtain ⟨w1, w2, p1, hp, pn, t1, t2, ht⟩ := hO
  obtain ⟨o, rfl⟩ : ∃ o, os = [o] := by
    match os, ho.1 with
    | [o], _ => exact ⟨o, rfl⟩
  have hz := ho.2 0 t o rfl rfl
  rw [← hs]
  show addC (0, 0) (costP ps (mulS sp1 w) (shown w t o) w) = _
  rw [cost_blk hp (shown_ok (ht t (by simp)) hz.1 hz.2), flt_shown]
  unfold addC
  simp
theorem strike_len (x : Str) : (PySem.Txt.replace x (Str.ofString " ") (Str.ofString "")).length = (x.cps.toList.filter (· != 32)).length := by
  show (PySem.Txt.replace x ⟨#[32]⟩ ⟨#[]⟩).cps.toList.length = _
  rw [PyProof.Rows.replace_strikes]
/-! the starts of the best offsets are no more than they -/
theorem good_ne {ps : List Pr} {w : Int} : ∀ {ts : List Str}, (∀ t ∈ ts, textOk w t) → ∀ row : Str, goodG ps w ts row (leastG ps w ts row) ≠ []
  | [], _, row, h => by
    have h : ([[]] : List (List Int)) = [] := h
    cases h
  | t :: r, ht, row, h => by
    rw [good_cons ht row, List.flatMap_eq_nil_iff] at h
    have hlen := lay_len (ps := ps) (wd := w) t r
    obtain ⟨of1, of2⟩ := offN_pos (ht t (List.mem_cons_self ..))
    have hne : (layersF ps w (t :: r)).headD [] ≠ [] := fun e => by rw [e] at hlen; simp at hlen; omega
    obtain ⟨i, v, hv, e⟩ := best_at (ps := ps) (w := w) (row := row) (t := t) hne
    have hi := (List.getElem?_eq_some_iff.mp hv).1
    rw [hlen] at hi
    have h1 := h (v, i) (List.mem_filter.mpr ⟨by
      refine List.mem_iff_getElem?.mpr ⟨i, ?_⟩
      rw [List.getElem?_zipIdx, hv, Nat.zero_add]
      rfl, decide_eq_true e.symm⟩)
    rw [List.map_eq_nil_iff] at h1
    obtain ⟨v', hv', hv2⟩ := headAt (ps := ps) (w := w) (t := t) (r := r) hi
    rw [hv] at hv'
    cases hv'
    have h1 : goodG ps w r (shown w t (i : Int)) v.1 = [] := h1
    rw [hv2] at h1
    exact good_ne (fun x hx => ht x (List.mem_cons_of_mem t hx)) _ h1
theorem step_least {ps : List Pr} {w : Int} {t : Str} {r : List Str} {chs : List Ch} : ∀ c ∈ stepCh ps w chs (t, (layersF ps w (t :: r)).headD []), c.2.2 = leastG ps w r c.2.1 := by
  intro c hcm
  obtain ⟨c0, _, hcm⟩ := List.mem_flatMap.mp hcm
  unfold extF at hcm
  obtain ⟨p, hp, e⟩ := List.mem_filterMap.mp hcm
  split at e
  · cases e
    obtain ⟨i, hi⟩ := List.getElem?_of_mem hp
    rw [List.getElem?_zipIdx] at hi
    cases g : ((layersF ps w (t :: r)).headD [])[i]? with
    | none => rw [g] at hi; cases hi
    | some v =>
      rw [g] at hi
      have hi := Option.some.inj hi
      subst hi
      have hlt := (List.getElem?_eq_some_iff.mp g).1
      rw [lay_len] at hlt
      obtain ⟨v', hv', hv2⟩ := headAt (ps := ps) (w := w) (t := t) (r := r) hlt
      rw [g] at hv'
      cases hv'
      show v.1 = leastG ps w r (shown w t ((0 + i : Nat) : Int))
      rw [Nat.zero_add]
      exact hv2
  · cases e
theorem flat_ge9 {α β : Type} {f : α → List β} : ∀ {l : List α}, (∀ x ∈ l, f x ≠ []) → l.length ≤ (l.flatMap f).length
  | [], _ => Nat.zero_le _
  | a :: l, h => by
    have ih := flat_ge9 (f := f) fun x hx => h x (List.mem_cons_of_mem a hx)
    have := List.length_pos_iff.mpr (h a (List.mem_cons_self ..))
    rw [List.flatMap_cons, List.length_append, List.length_cons]
    omega
theorem fold_mono {ps : List Pr} {w : Int} : ∀ (ts : List Str), (∀ t ∈ ts, textOk w t) → ∀ chs : List Ch, (∀ c ∈ chs, c.2.2 = leastG ps w ts c.2.1) → ∀ i, (((ts.zip (layersF ps w ts)).take i).foldl (stepCh ps w) chs).length ≤ ((ts.zip (layersF ps w ts)).foldl (stepCh ps w) chs).length
  | ts, ht, chs, hc, 0 => by
    have h := congrArg List.length (fold_good ts ht chs hc)
    rw [List.length_map] at h
    show chs.length ≤ _
    rw [h]
    refine flat_ge9 fun c hcm z => ?_
    rw [List.map_eq_nil_iff, hc c hcm] at z
    exact good_ne ht _ z
  | [], _, _, _, i + 1 => Nat.le_refl _
  | t :: r, ht, chs, hc, i + 1 => by
    have hlay : layersF ps w (t :: r) = ((layersF ps w (t :: r)).headD []) :: layersF ps w r := by
      cases r with
      | nil => rfl
      | cons t' r => exact layF_cons ps w t t' r
    rw [hlay, List.zip_cons_cons, List.take_succ_cons, List.foldl_cons, List.foldl_cons]
    exact fold_mono r (fun x hx => ht x (List.mem_cons_of_mem t hx)) _ step_least i
theorem chF_pre {ps : List Pr} {w : Int} {ts : List Str} (hOk : okSeason w ps ts) (i : Nat) : (chF ps w ts i).length ≤ (chF ps w ts ts.length).length := by
  have ht := hOk.2.2.2.2.2.2.2
  obtain ⟨t, r, rfl⟩ : ∃ t r, ts = t :: r := by
    cases ts with
    | nil => have := hOk.2.2.2.2.2.1; simp at this
    | cons t r => exact ⟨t, r, rfl⟩
  unfold chF
  rw [List.take_of_length_le (i := (t :: r).length) (by rw [List.length_zip]; omega)]
  exact fold_mono _ ht _ (fun c hc => by rw [List.mem_singleton.mp hc]; rfl) i
theorem chF_cnt {ps : List Pr} {w : Int} {ts : List Str} (hOk : okSeason w ps ts) : countF ps w ts = ((chF ps w ts ts.length).length : Int) := by
  rw [count_all hOk, ← chF_all hOk, List.length_map]
/-! the best offsets stand in ascending order -/
theorem lt_int {x y : Int} {a b : List Int} (h : x < y) : PySem.W.listLt (x :: a) (y :: b) = true := by
  unfold PySem.W.listLt
  rw [if_neg (Int.ne_of_lt h)]
  exact decide_eq_true h
theorem lt_same {x : Int} {a b : List Int} (h : PySem.W.listLt a b = true) : PySem.W.listLt (x :: a) (x :: b) = true := by
  unfold PySem.W.listLt
  rw [if_pos rfl]
  exact h
theorem asc_G (w : Int) : ∀ ts : List Str, (allG w ts).Pairwise fun a b => PySem.W.listLt a b = true
  | [] => List.pairwise_singleton _ _
  | t :: r => by
    show ((List.range (offN w t)).flatMap fun (o : Nat) => (allG w r).map fun os => (o : Int) :: os).Pairwise _
    refine List.pairwise_flatMap.mpr ⟨fun o _ => List.pairwise_map.mpr ((asc_G w r).imp fun h => lt_same h), ?_⟩
    refine List.pairwise_lt_range.imp fun {a b} h x hx y hy => ?_
    obtain ⟨u, _, rfl⟩ := List.mem_map.mp hx
    obtain ⟨v, _, rfl⟩ := List.mem_map.mp hy
    exact lt_int (by omega)
theorem len_G (w : Int) : ∀ ts : List Str, ∀ os ∈ allG w ts, os.length = ts.length
  | [], os, h => by
    have h : os ∈ [[]] := h
    rw [List.mem_singleton.mp h]
    rfl
  | t :: r, os, h => by
    obtain ⟨o, _, h⟩ := List.mem_flatMap.mp h
    obtain ⟨u, hu, rfl⟩ := List.mem_map.mp h
    rw [List.length_cons, List.length_cons, len_G w r u hu]
theorem lt_irr (a : List Int) : PySem.W.listLt a a = false := by
  rw [← AL.enc_lt]
  exact PySem.W.dataLt_self _
theorem asc_F {ps : List Pr} {w : Int} {ts : List Str} (p : List Int → Bool) : ((allF w ts.reverse).filter p).Pairwise (fun a b => PySem.W.dataLt (encT a) (encT b) = true) ∧ ((allF w ts.reverse).filter p).Nodup ∧ ∀ os ∈ (allF w ts.reverse).filter p, os.length = ts.length := by
  have e : allF w ts.reverse = allG w ts := by rw [allF_G, List.reverse_reverse]
  rw [e]
  have h := (asc_G w ts).sublist (List.filter_sublist (p := p))
  refine ⟨h.imp fun h => by rw [AL.enc_lt]; exact h, h.imp fun h e => ?_, fun os hm => len_G w ts os (List.mem_filter.mp hm).1⟩
  rw [e, lt_irr] at h
  cases h
theorem zs08 {r : Int} (h0 : 0 ≤ r) (h1 : r < 2) : ∃ z, atI [D.str "ABMW", D.str "ABCDE69"] r = some (.str z) ∧ z.length ≤ 100 ∧ z.cps.toList.Nodup ∧ (∀ c ∈ z.cps.toList, inL c) ∧ 0 < z.length := by
  obtain rfl | rfl : r = 0 ∨ r = 1 := by omega
  · exact ⟨"ABMW", rfl, by decide +kernel, by decide +kernel, by unfold inL; decide +kernel, by decide +kernel⟩
  · exact ⟨"ABCDE69", rfl, by decide +kernel, by decide +kernel, by unfold inL; decide +kernel, by decide +kernel⟩

section
variable {P : Program} {w : World} {K : Frg} {mg : Str → Option Value} {base : Heap}
theorem cutL5 {α : Type} (xs : List α) : cutL xs none (some 5) = xs.take 5 := by
  by_cases h : 5 ≤ xs.length
  · exact cutL_take (p := 5) h
  · rw [List.take_of_length_le (by omega)]
    exact cutL_all (p := 5) (by omega)
theorem ok_law (T : Txt K mg) (G__law_random : OK__law_random P w base T) (G__law_below : OK__law_below P w base T) (G__law_pairs : OK__law_pairs P w base T) (G__law_texts : OK__law_texts P w base T) (G_Sign___init__ : OK_Sign___init__ P w base T) (G_season_cost : OK_season_cost P w base T) (G_fixed_cost : OK_fixed_cost P w base T) (G_count_best : OK_count_best P w base T) (G_best_offsets : OK_best_offsets P w base T) (G_needed_letters : OK_needed_letters P w base T) : OK_law P w base T := by
  refine fn_ok T.F_law sc_law (by rintro _ _ _ _ _ ⟨ns, rfl, _⟩; rfl) (fun cdv A outer s H E hr => ?_)
  have hu64 := hr.units
  refine ⟨_, (pss_cons (ps_set (i := 1) sc_law.nd rfl (by first | exact Or.inl rfl | exact Or.inr rfl) (pe_call G__law_random (hr.mono (by first | decide | omega)) (by rfl) T.m__law_random T.F__law_random.kp T.b__law_random .nil pass0 (pa_cons (pv 0) (pa_cons pe_int pa_nil))))
      (pss_asgk (pk_tup (pak_next (pe_op (kADD (K := K) rfl) pe_int (pe_call G__law_below (hr.mono (by first | decide | omega)) (by rfl) T.m__law_below T.F__law_below.kp T.b__law_below .nil pass0 (pa_cons (pv 1) (pa_cons pe_int pa_nil)))) (pak_here (pk_ix (kIX (K := K) rfl) (pk_lst (pak_here pk_str (pa_cons pe_str pa_nil))) (pe_call G__law_below (hr.mono (by first | decide | omega)) (by rfl) T.m__law_below T.F__law_below.kp T.b__law_below .nil pass0 (pa_cons (pv 1) (pa_cons pe_int pa_nil))) (fun _ _ => rfl)) pa_nil))) (pg_tupk (K := K) (n := 2) rfl rfl (pgs_cons (pg_name (i := 2) sc_law.nd rfl (by first | exact Or.inl rfl | exact Or.inr rfl)) (pgs_cons (pg_name (i := 3) sc_law.nd rfl (by first | exact Or.inl rfl | exact Or.inr rfl)) pgs_nil)))
      (psst_of1 (ps_set (i := 4) sc_law.nd rfl (by first | exact Or.inl rfl | exact Or.inr rfl) (pe_make T.M_Sign G_Sign___init__ (hr.mono (by first | decide | omega)) (by rfl) T.m_Sign T.b_Sign___init__ .nil pass0 (pa_cons (pv 2) (pa_cons (pe_call G__law_pairs (hr.mono (by first | decide | omega)) (by rfl) T.m__law_pairs T.F__law_pairs.kp T.b__law_pairs .nil pass0 (pa_cons (pv 1) (pa_cons (pv 3) pa_nil))) pa_nil))))
      (psst_of1 (ps_set (i := 5) sc_law.nd rfl (by first | exact Or.inl rfl | exact Or.inr rfl) (pe_call G__law_texts (hr.mono (by first | decide | omega)) (by rfl) T.m__law_texts T.F__law_texts.kp T.b__law_texts .nil pass0 (pa_cons (pv 1) (pa_cons pe_int (pa_cons (pv 2) (pa_cons (pv 3) pa_nil))))))
      (psst_of1 (ps_set (i := 6) sc_law.nd rfl (by first | exact Or.inl rfl | exact Or.inr rfl) (pe_call G_season_cost (hr.mono (by first | decide | omega)) (by rfl) T.m_season_cost T.F_season_cost.kp T.b_season_cost .nil pass0 (pa_cons (pv 4) (pa_cons (pv 5) pa_nil))))
      (psst_of1 (ps_for PassesOwn.never rfl (pi_range1 (by rfl) T.g_range (pa_cons pe_int pa_nil)) (pg_name (i := 7) sc_law.nd rfl (by first | exact Or.inl rfl | exact Or.inr rfl)) (pss_cons (ps_set (i := 8) sc_law.nd rfl (by first | exact Or.inl rfl | exact Or.inr rfl) (pe_callTy (kTUPLE (K := K) rfl) (by rfl) T.g_tuple boot_tuple (pa_cons (pe_lc rfl sc_law.nd (pi_tupk (K := K) rfl (pv 5)) (own := [("_law_text_here", 9)]) (@BlkOk.mk N_law (defScope s_law) _ _ rfl (by decide +kernel) (by decide +kernel) (by decide +kernel) (by decide +kernel)) (fun _ _ _ _ _ => (pg_name (i := 9) sc_law.nd rfl (by first | exact Or.inl rfl | exact Or.inr rfl))) (fun _ _ _ _ _ => pts_nil) (fun _ _ _ _ _ => (pe_call G__law_below (hr.mono (by first | decide | omega)) (by rfl) T.m__law_below T.F__law_below.kp T.b__law_below .nil pass0 (pa_cons (pv 1) (pa_cons (pe_op (kADD (K := K) rfl) (pe_op op_sub (pv 2) (pe_callB (kLEN (K := K) rfl) (by rfl) T.g_len boot_len (pa_cons (pv 9) pa_nil))) pe_int) pa_nil))))) pa_nil)))
      (pss_one (ps_if (pt_cmpR (kLTT (K := K) rfl hu64) (pe_call G_fixed_cost (hr.mono (by first | decide | omega)) (by rfl) T.m_fixed_cost T.F_fixed_cost.kp T.b_fixed_cost .nil pass0 (pa_cons (pv 4) (pa_cons (pv 5) (pa_cons (pv 8) pa_nil)))) (pv 6) (nomark _)) (pss_one (ps_ret pe_bl)) pss_nil))))
      (psst_of1 (ps_set (i := 10) sc_law.nd rfl (by first | exact Or.inl rfl | exact Or.inr rfl) (pe_call G_count_best (hr.mono (by first | decide | omega)) (by rfl) T.m_count_best T.F_count_best.kp T.b_count_best .nil pass0 (pa_cons (pv 4) (pa_cons (pv 5) pa_nil))))
      (psst_of1 (ps_if (pt_cmpR op_le (pv 10) pe_int (nomark _)) (pss_cons (ps_set (i := 11) sc_law.nd rfl (by first | exact Or.inl rfl | exact Or.inr rfl) (pe_listG (E := E0) (pgen_call G_best_offsets (hr.mono (by first | decide | omega)) (by rfl) T.m_best_offsets T.F_best_offsets.kp T.b_best_offsets .nil (pa_cons (pv 4) (pa_cons (pv 5) pa_nil))) passG noStop0 (hr.mono (by first | decide | omega)) (by rfl) T.g_list boot_list))
      (pss_cons (ps_if ((pw_or (pt_cmpR (kNE (K := K) rfl hu64) (pe_callB (kLEN (K := K) rfl) (by rfl) T.g_len boot_len (pa_cons (pv 11) pa_nil)) (pv 10) (nomark _)) (pw_or1 (pt_cmpR (kNE (K := K) rfl hu64) (pv 11) (pe_callB (kSRTW (K := K) (P := P) (w := w) rfl rfl rfl rfl hu64) (by rfl) T.g_sorted boot_sorted (pa_cons (pe_callTy (kSETW (K := K) (P := P) (w := w) rfl rfl rfl rfl hu64) (by rfl) T.g_set boot_set (pa_cons (pv 11) pa_nil)) pa_nil)) (nomark _))))).pt (pss_one (ps_ret pe_bl)) pss_nil)
      (pss_one (ps_for PassesOwn.never rfl (pi_listk (K := K) rfl (pe_slice (kSLC (K := K) rfl) (pv 11) po_none (po_some pe_int))) (pg_name (i := 8) sc_law.nd rfl (by first | exact Or.inl rfl | exact Or.inr rfl)) (pss_one (ps_if (pt_cmpR (kNE (K := K) rfl hu64) (pe_call G_fixed_cost (hr.mono (by first | decide | omega)) (by rfl) T.m_fixed_cost T.F_fixed_cost.kp T.b_fixed_cost .nil pass0 (pa_cons (pv 4) (pa_cons (pv 5) (pa_cons (pv 8) pa_nil)))) (pv 6) (nomark _)) (pss_one (ps_ret pe_bl)) pss_nil)))))) pss_nil)
      (psst_of1 (ps_set (i := 12) sc_law.nd rfl (by first | exact Or.inl rfl | exact Or.inr rfl) (pe_call G_season_cost (hr.mono (by first | decide | omega)) (by rfl) T.m_season_cost T.F_season_cost.kp T.b_season_cost .nil pass0 (pa_cons (pv 4) (pa_cons (pe_op (kADD (K := K) rfl) (pv 5) (pe_slice (kSLC (K := K) rfl) (pv 5) (po_some (pe_un un_neg pe_int)) po_none)) pa_nil))))
      (psst_cons (pst_ifk (PWq.ptk (pwk_or (ptk_of (pt_cmpR (kNE (K := K) rfl hu64) (pv 12) (pv 6) (nomark _))) (pwk_or1 (ptk_cmpR (kNE (K := K) rfl hu64) (CwR.PET.of (pe_call G_season_cost (hr.mono (by first | decide | omega)) (by rfl) T.m_season_cost T.F_season_cost.kp T.b_season_cost .nil pass0 (pa_cons (pv 4) (pa_cons (pe_slice (kSLC (K := K) rfl) (pv 5) po_none (po_some pe_int)) pa_nil)))) (pet_tup (pat_cons (pet_callB (kLEN (K := K) rfl) (by rfl) T.g_len boot_len (pat_cons (CwR.pet_replC (pe_ix (kIX (K := K) rfl) (pv 5) pe_int (fun _ _ => rfl))) pat_nil)) (pat_cons (CwR.PET.of pe_int) pat_nil))) (nomark _))))) (pss_one (ps_ret pe_bl)) pss_nil)
      (PSsT.of (pss_one (ps_ret (pe_cmpR op_le (pe_callB (kSUM (K := K) rfl rfl) (by rfl) T.g_sum boot_sum (pa_cons (pe_lc rfl sc_law.nd (pi_values (pe_lockV (pe_call G_needed_letters (hr.mono (by first | decide | omega)) (by rfl) T.m_needed_letters T.F_needed_letters.kp T.b_needed_letters .nil pass0 (pa_cons (pv 4) (pa_cons (pv 5) pa_nil))))) (own := [("_law_count", 13)]) (@BlkOk.mk N_law (defScope s_law) _ _ rfl (by decide +kernel) (by decide +kernel) (by decide +kernel) (by decide +kernel)) (fun _ _ _ _ _ => (pg_name (i := 13) sc_law.nd rfl (by first | exact Or.inl rfl | exact Or.inr rfl))) (fun _ _ _ _ _ => pts_nil) (fun _ _ _ _ _ => (pv 13))) pa_nil)) (pe_ix (kIX (K := K) rfl) (pv 6) pe_int (fun _ _ => rfl)) (nomark _))))))))))))))), ?_⟩
  rintro _ F R0 Q Ea ⟨ns, rfl, hn, q⟩
  walk_at "al"
  refine ⟨ns, rfl, hn, fun F1 l st e1 hst => ?_⟩
  walk_at "al"
  refine as_asgG ?_
  refine ae_tup ?_
  walk_at "al"
  refine ⟨0, l, st, 6, rfl, rfl, hst, by decide, by decide, fun st3 w0 hst3 w1 w2 => ?_⟩
  walk_at "al"
  refine ae_lstF ?_
  walk_at "al"
  refine ⟨by simp, fun F2 e2 => ?_⟩
  walk_at "al"
  refine ⟨0, l, st3, 2, rfl, rfl, hst3, by decide, by decide, fun st4 r hst4 r0 r1 => ?_⟩
  obtain ⟨z, hz, hz1, hz2, hz3, hz4⟩ := zs08 r0 r1
  refine ar_ixL (d := .str z) hz ?_
  walk_at "al"
  obtain ⟨wd, hwd⟩ : ∃ wd, wd = 4 + w0 := ⟨_, rfl⟩
  rw [← hwd]
  refine ⟨by simp, fun F3 e3 => ?_⟩
  refine ag_tup rfl ?_
  refine ags_cons (ag_name ?_)
  refine ags_cons (ag_name ?_)
  refine ags_nil ?_
  refine as_norm (S' := [some (.rdl (ns.map D.int)), some (.ref l), some (.int wd), some (.str z), none, none, none, none, none, none, none, none, none, none]) rfl ?_
  walk_at "al"
  refine ae_make (dds := []) (fun _ => .nil) ?_
  walk_at "al"
  refine ⟨0, l, st4, z, rfl, rfl, hst4, hz1, hz2, hz3, fun st5 F6 ps e6 hst5 hp1 hp2 hp3 => ?_⟩
  have hpL : ∀ c ∈ flat ps, inL c := fun c hc => hz3 c (hp2 c hc)
  walk_at "al"
  intro x F7 e7
  refine ⟨x, wd, ps, _, rfl, by omega, by omega, by omega, hpL, hp3, rfl, fun m F8 e8 => ⟨rfl, ?_⟩⟩
  walk_at "al"
  refine ⟨2, l, st5, wd, z, rfl, rfl, hst5, by omega, by omega, hz4, hz1, hz3, fun st6 F9 ts e9 hst6 ht1 ht2 ht => ?_⟩
  have hOk : okSeason wd ps ts := ⟨by omega, by omega, by omega, hpL, hp3, ht1, by omega, ht⟩
  walk_at "al"
  refine ⟨x, wd, ps, ts, rfl, ⟨1, 0, m, rfl, rfl⟩, hOk, fun F10 e10 => ?_⟩
  refine as_norm (S' := [some (.rdl (ns.map D.int)), some (.ref l), some (.int wd), some (.str z), some (.ref x), some (.tup (ts.map D.str)), some (cD (seasonF ps wd ts)), none, none, none, none, none, none, none]) rfl ?_
  refine as_ms (ms' := (m, MO.dic (kvsOf ps)) :: (x, MO.ins T.c_Sign (fldS m wd ps)) :: (l, MO.lst st6) :: R0) rfl ?_
  have hw4 : 4 ≤ wd := by omega
  have hw9 : wd ≤ 9 := by omega
  clear hwd w1 w2
  walk_at "al"
  refine as_for ?_
  refine ai_rng1 ?_
  walk_at "al"
  refine ⟨6, rfl, by decide, by decide, fun n F' ms' S' => ∃ st a7 a8 a9, ((m, MO.dic (kvsOf ps)) :: (x, MO.ins T.c_Sign (fldS m wd ps)) :: (l, MO.lst st) :: R0) = ms' ∧ St st ∧ S' = [some (.rdl (ns.map D.int)), some (.ref l), some (.int wd), some (.str z), some (.ref x), some (.tup (ts.map D.str)), some (cD (seasonF ps wd ts)), a7, a8, a9, none, none, none, none], ⟨st6, _, _, _, rfl, hst6, rfl⟩, fun _ _ _ _ _ _ => trivial, ?_, ?_⟩
  · rintro n d F11 ms11 S11 e11 hd ⟨st7, a7, a8, a9, rfl, hst7, rfl⟩ F12 e12
    refine ag_name ?_
    refine as_norm (S' := [_, _, _, _, _, _, _, some d, _, _, _, _, _, _]) rfl ?_
    walk_at "al"
    refine ae_lc (gw_name (by simp)) gm_name ?_
    refine ai_tup ?_
    walk_at "al"
    refine ⟨_, rfl, fun i F' ms' acc => ∃ (st : List D) (os : List Int), ((m, MO.dic (kvsOf ps)) :: (x, MO.ins T.c_Sign (fldS m wd ps)) :: (l, MO.lst st) :: R0) = ms' ∧ St st ∧ os.length = i ∧ acc = os.map D.int ∧ ∀ (j : Nat) (t : Str) (o : Int), ts[j]? = some t → os[j]? = some o → 0 ≤ o ∧ o + (t.length : Int) ≤ wd, ⟨st7, [], rfl, hst7, rfl, rfl, fun j t o _ h => by simp at h⟩, fun _ _ _ _ _ _ => trivial, ?_, ?_⟩
    · rintro i d F13 ms13 acc e13 hd ⟨st8, os, rfl, hst8, hol, rfl, hos⟩ F14 e14
      rw [List.getElem?_map] at hd
      cases hti : ts[i]? with
      | none => rw [hti] at hd; cases hd
      | some t =>
        rw [hti] at hd
        cases hd
        have hm := List.mem_of_getElem? hti
        have hil := (List.getElem?_eq_some_iff.mp hti).1
        obtain ⟨t1, t2, _⟩ := ht t hm
        refine ag_name ?_
        walk_at "al"
        refine ac_lenS (by omega) ?_
        walk_at "al"
        refine ⟨2, l, st8, wd - (t.length : Int) + 1, rfl, rfl, hst8, by omega, by omega, fun st9 o hst9 o0 o1 => ?_⟩
        refine ⟨by rw [List.length_map]; omega, st9, os ++ [o], rfl, hst9, by rw [List.length_append, hol]; rfl, by rw [List.map_append]; rfl, fun j t' o' h1 h2 => ?_⟩
        by_cases hj : j < os.length
        · rw [List.getElem?_append_left hj] at h2
          exact hos j t' o' h1 h2
        · have hjl : j < (os ++ [o]).length := (List.getElem?_eq_some_iff.mp h2).1
          rw [List.length_append, List.length_singleton] at hjl
          obtain rfl : j = os.length := by omega
          rw [hol, hti] at h1
          cases h1
          rw [List.getElem?_append_right (Nat.le_refl _), Nat.sub_self] at h2
          cases h2
          omega
    · rintro F13 ms13 acc e13 ⟨st8, os, rfl, hst8, hol, rfl, hos⟩ F14 e14
      rw [List.length_map] at hol
      have hoff : okOff wd ts os := ⟨hol, hos⟩
      walk_at "al"
      refine ac_tupleL (.inl rfl) fun F15 e15 => ?_
      walk_at "al"
      refine ⟨x, wd, ps, ts, os, rfl, ⟨1, 0, m, rfl, rfl⟩, hOk, hoff, fun F16 e16 => ?_⟩
      walk_at "al"
      refine ar_LTT (ns := [(fixF ps wd ts os).1, (fixF ps wd ts os).2]) (ks := [(seasonF ps wd ts).1, (seasonF ps wd ts).2]) ?_
      rw [lex_lt, show ltC (fixF ps wd ts os) (seasonF ps wd ts) = false from season_least hOk hoff]
      walk_at "al"
      exact ⟨st8, _, _, _, rfl, hst8, rfl⟩
  rintro F11 ms11 S11 e11 ⟨st7, a7, a8, a9, rfl, hst7, rfl⟩
  have hMS : Sgn T.c_Sign ((m, MO.dic (kvsOf ps)) :: (x, MO.ins T.c_Sign (fldS m wd ps)) :: (l, MO.lst st7) :: R0) x wd ps := ⟨1, 0, m, rfl, rfl⟩
  generalize ((m, MO.dic (kvsOf ps)) :: (x, MO.ins T.c_Sign (fldS m wd ps)) :: (l, MO.lst st7) :: R0) = M at hMS ⊢
  clear hst7 hst6 hst5 hst4 hst3 hst
  have hch := chF_all hOk
  have hcnt := chF_cnt hOk
  have hpre := chF_pre hOk
  obtain ⟨hB1, hB2, hB3⟩ := asc_F (ps := ps) (w := wd) (ts := ts) fun os => decide (fixF ps wd ts os = seasonF ps wd ts)
  have hB4 : ∀ os ∈ (allF wd ts.reverse).filter (fun os => decide (fixF ps wd ts os = seasonF ps wd ts)), okOff wd ts os ∧ fixF ps wd ts os = seasonF ps wd ts := fun os hm => by
    obtain ⟨h1, h2⟩ := List.mem_filter.mp hm
    have := allF_ok (fun t h => ht t (List.mem_reverse.mp h)) os h1
    rw [List.reverse_reverse] at this
    exact ⟨this, of_decide_eq_true h2⟩
  rw [← hch] at hB1 hB2 hB3 hB4
  have hcD : (chF ps wd ts ts.length).map (fun c => D.tup (c.1.map D.int)) = ((chF ps wd ts ts.length).map fun c => c.1).map fun os => D.tup (os.map D.int) := by rw [List.map_map]; rfl
  have hBl : ((chF ps wd ts ts.length).map fun c => c.1).length = (chF ps wd ts ts.length).length := List.length_map ..
  rw [← hBl] at hcnt hpre
  clear hch hBl
  obtain ⟨B, hB⟩ : ∃ B, B = (chF ps wd ts ts.length).map fun c => c.1 := ⟨_, rfl⟩
  rw [← hB] at hB1 hB2 hB3 hB4 hcD hcnt hpre
  clear hB
  walk_at "al"
  refine ⟨x, wd, ps, ts, rfl, hMS, hOk, fun F17 e17 => ?_⟩
  rw [hcnt]
  refine as_norm (S' := [some (.rdl (ns.map D.int)), some (.ref l), some (.int wd), some (.str z), some (.ref x), some (.tup (ts.map D.str)), some (cD (seasonF ps wd ts)), a7, a8, a9, some (.int (B.length : Int)), none, none, none]) rfl ?_
  refine as_cut (P := fun F' ms' S' => ∃ (J : Ms) (b8 b11 : Option D), (J ++ M) = ms' ∧ S' = [some (.rdl (ns.map D.int)), some (.ref l), some (.int wd), some (.str z), some (.ref x), some (.tup (ts.map D.str)), some (cD (seasonF ps wd ts)), a7, b8, a9, some (.int (B.length : Int)), b11, none, none]) ?_ ?_
  · walk_at "al"
    refine ⟨fun hb => ?_, fun hb => ?_⟩
    · have h200 : B.length ≤ 200 := by have := of_decide_eq_true hb; omega
      walk_at "al"
      refine ae_listGF ?_
      walk_at "al"
      refine ⟨x, wd, ps, ts, rfl, hMS, hOk, fun i => by have := hpre i; omega, fun F22 e22 F23 e23 => ?_⟩
      rw [hcD]
      walk_at "al"
      rw [List.length_map]
      refine and_ndT' rfl ?_
      walk_at "al"
      refine ac_setW (.inl (.inl rfl)) (by omega) hB2 fun a ks hks hsq => ?_
      walk_at "al"
      subst hks
      refine ac_sortW 0 rfl hsq (fun p hp e => ?_) (List.pairwise_map.mp hB1) fun F24 e24 => ?_
      · have := hB3 p.2 (List.mem_map.mpr ⟨p, hp, rfl⟩)
        rw [e] at this
        have : (0 : Nat) = ts.length := this
        omega
      generalize ks.map (·.2) = B at hB2 hB3 hB4 h200 ⊢
      have hBL : okD (.lst (B.map fun os => D.tup (os.map D.int))) = true := okL_offs B
      have hBd : dep (.lst (B.map fun os => D.tup (os.map D.int))) ≤ 64 := Nat.le_trans (Nat.succ_le_succ (depL_offs B)) (by decide)
      refine ar_NEd hBL hBL hBd hBd ?_
      rw [eqv_self _ hBL]
      walk_at "al"
      refine as_for ?_
      refine ai_list ?_
      refine ae_sl ?_
      walk_at "al"
      refine ao_none ?_
      refine ao_some ?_
      walk_at "al"
      refine sl_L (.inl (.inl rfl)) fun F25 e25 => ?_
      rw [cutL5, ← List.map_take]
      refine .inl ⟨_, .inl rfl, fun i F' ms' S' => ((a, MO.raw (SetWO P w a ks)) :: M) = ms' ∧ ∃ c8 : Option D, S' = [some (.rdl (ns.map D.int)), some (.ref l), some (.int wd), some (.str z), some (.ref x), some (.tup (ts.map D.str)), some (cD (seasonF ps wd ts)), a7, c8, a9, some (.int (B.length : Int)), some (.lst (B.map fun os => D.tup (os.map D.int))), none, none], ⟨rfl, _, rfl⟩, fun _ _ _ _ _ _ => trivial, ?_, ?_⟩
      · rintro i d Fa msa Sa ea hd ⟨rfl, c8, rfl⟩ Fb eb
        obtain ⟨os, hos, rfl⟩ : ∃ os, (B.take 5)[i]? = some os ∧ d = .tup (os.map D.int) := by
          rw [List.getElem?_map] at hd
          cases e : (B.take 5)[i]? with
          | none => rw [e] at hd; cases hd
          | some k => rw [e] at hd; exact ⟨k, rfl, (Option.some.inj hd).symm⟩
        obtain ⟨hoff, hfix⟩ := hB4 os (List.mem_of_mem_take (List.mem_of_getElem? hos))
        refine ag_name ?_
        refine as_norm (S' := [_, _, _, _, _, _, _, _, some (.tup (os.map D.int)), _, _, _, _, _]) rfl ?_
        walk_at "al"
        refine ⟨x, wd, ps, ts, os, rfl, Sgn.cons hMS, hOk, hoff, fun Fc ec => ?_⟩
        rw [hfix]
        walk_at "al"
        refine ar_NEd (d := cD (seasonF ps wd ts)) (e := cD (seasonF ps wd ts)) rfl rfl (Nat.le_of_ble_eq_true rfl) (Nat.le_of_ble_eq_true rfl) ?_
        rw [eqv_self _ rfl]
        walk_at "al"
        exact ⟨rfl, _, rfl⟩
      · rintro Fa msa Sa ea ⟨rfl, c8, rfl⟩
        exact ⟨[(a, MO.raw (SetWO P w a ks))], _, _, rfl, rfl⟩
    · walk_at "al"
      exact ⟨[], _, _, rfl, rfl⟩
  rintro F18 _ S18 e18 ⟨J, b8, b11, rfl, rfl⟩
  have hMJ := sgn_pre (J := J) hMS
  generalize J ++ M = M2 at hMJ ⊢
  clear hMS
  walk_at "al"
  obtain ⟨tsi, tl, rfl⟩ : ∃ tsi tl, ts = tsi ++ [tl] := by
    rcases List.eq_nil_or_concat ts with e | ⟨s, t, e⟩
    · rw [e] at ht1; exact absurd ht1 (by decide)
    · exact ⟨s, t, by rw [e, List.concat_eq_append]⟩
  have hO2 : okSeason wd ps ((tsi ++ [tl]) ++ [tl]) := by
    obtain ⟨v1, v2, v3, v4, v5, v6, v7, v8⟩ := id hOk
    refine ⟨v1, v2, v3, v4, v5, by simp, ?_, fun t h => ?_⟩
    · rw [List.length_append]
      show (tsi ++ [tl]).length + 1 ≤ 12
      omega
    · rcases List.mem_append.mp h with h | h
      · exact v8 t h
      · exact v8 t (List.mem_append_right _ h)
  refine ae_sl ?_
  walk_at "al"
  refine ao_some ?_
  walk_at "al"
  refine ae_neg (g := fun i => -i) (fun _ => rfl) ?_
  walk_at "al"
  refine ao_none ?_
  refine sl_T fun Ff ef => ?_
  have hcut : cutL ((tsi ++ [tl]).map D.str) (some (-1)) none = [D.str tl] := by
    unfold cutL
    rw [List.length_map, List.length_append]
    show (List.drop (HT.sIx (tsi.length + 1) 0 (some (-1))) ((tsi ++ [tl]).map D.str)).take (HT.sIx (tsi.length + 1) (tsi.length + 1) none - HT.sIx (tsi.length + 1) 0 (some (-1))) = _
    have e1 : HT.sIx (tsi.length + 1) 0 (some (-1)) = tsi.length := by
      show (if (-1 : Int) < 0 then ((-1 : Int) + ((tsi.length + 1 : Nat) : Int)).toNat else min (-1 : Int).toNat (tsi.length + 1)) = tsi.length
      rw [if_pos (by decide)]
      omega
    have e2 : HT.sIx (tsi.length + 1) (tsi.length + 1) none = tsi.length + 1 := rfl
    rw [e1, e2, List.map_append, List.drop_append_of_le_length (by rw [List.length_map]; exact Nat.le_refl _), List.drop_of_length_le (by rw [List.length_map]; exact Nat.le_refl _), show tsi.length + 1 - tsi.length = 1 by omega]
    rfl
  rw [hcut]
  refine ar_ADDt (by rw [List.length_map]; show (tsi ++ [tl]).length + 1 ≤ _; omega) fun Fg eg => ?_
  walk_at "al"
  have hst : (tsi ++ [tl]).map D.str ++ [D.str tl] = ((tsi ++ [tl]) ++ [tl]).map D.str := by rw [List.map_append (l₁ := tsi ++ [tl])]; rfl
  rw [hst]
  refine ⟨x, wd, ps, _, rfl, hMJ, hO2, fun Fh eh => ?_⟩
  rw [season_again hOk hO2]
  walk_at "al"
  refine ar_NEd (d := cD (seasonF ps wd (tsi ++ [tl]))) (e := cD (seasonF ps wd (tsi ++ [tl]))) rfl rfl (Nat.le_of_ble_eq_true rfl) (Nat.le_of_ble_eq_true rfl) ?_
  rw [eqv_self _ rfl]
  walk_at "al"
  clear hst hcut hO2 hB1 hB2 hB3 hB4 hcD hpre
  generalize tsi ++ [tl] = ts at ht1 ht2 ht hOk ⊢
  obtain ⟨t0, tr, rfl⟩ : ∃ t0 tr, ts = t0 :: tr := by
    cases ts with
    | nil => exact absurd ht1 (by decide)
    | cons a b => exact ⟨a, b, rfl⟩
  have htl := ht t0 (List.mem_cons_self ..)
  have hO1 : okSeason wd ps [t0] := by
    obtain ⟨v1, v2, v3, v4, v5, v6, v7, v8⟩ := id hOk
    exact ⟨v1, v2, v3, v4, v5, by simp, by simp, fun t h => by rw [List.mem_singleton.mp h]; exact htl⟩
  refine ae_sl ?_
  walk_at "al"
  refine ao_none ?_
  refine ao_some ?_
  walk_at "al"
  refine sl_T fun Fi ei => ?_
  rw [show cutL ((t0 :: tr).map D.str) none (some 1) = [t0].map D.str from cutL_take (p := 1) (by simp)]
  walk_at "al"
  refine ⟨x, wd, ps, [t0], rfl, hMJ, hO1, fun Fj ej => ?_⟩
  rw [season_one hO1]
  walk_at "al"
  refine ae_tup ?_
  walk_at "al"
  refine ae_replC ?_
  walk_at "al"
  refine ar_ixT (d := .str t0) (atI_of (j := 0) rfl rfl) ?_
  have e0 : (Str.ofString "").length = 0 := rfl
  have t24 : t0.length ≤ 9 := by have := htl.2.1; omega
  refine ⟨t0, rfl, by rw [e0]; omega, ?_⟩
  walk_at "al"
  have hfl : (t0.cps.toList.filter (· != 32)).length ≤ 9 := Nat.le_trans (List.length_filter_le _ _) t24
  refine ac_lenS (by rw [strike_len]; omega) ?_
  rw [strike_len]
  walk_at "al"
  refine ⟨by simp, fun Fk ek => ?_⟩
  refine ar_NEd (d := cD (((t0.cps.toList.filter (· != 32)).length : Int), 0)) (e := cD (((t0.cps.toList.filter (· != 32)).length : Int), 0)) rfl rfl (Nat.le_of_ble_eq_true rfl) (Nat.le_of_ble_eq_true rfl) ?_
  rw [eqv_self _ rfl]
  walk_at "al"
  refine ae_lc (gw_name (by simp)) gm_name ?_
  refine ai_vals ?_
  refine ae_lockV ?_
  walk_at "al"
  refine ⟨x, wd, ps, t0 :: tr, rfl, hMJ, by omega, ht1, by omega, ht, hpL, fun Fl J2 l9 nd el hnd => ?_⟩
  have h36 := need_len hpL (fun t hm => (ht t hm).2.2.1) hnd
  rw [List.length_map] at h36
  refine ⟨0, l9, cntD nd, rfl, rfl, fun od vs rk => ?_⟩
  refine ⟨l9, od, vs, _, 0, rfl, rfl, rk, ?_⟩
  have hvl : valsD (cntD nd) = (nd.map (·.2)).map D.int := by unfold valsD cntD; rw [List.map_map, List.map_map]; rfl
  rw [hvl]
  refine ⟨fun i F' ms' acc => ((l9, MO.raw (.frz od (.dK vs))) :: (J2 ++ M2)) = ms' ∧ i ≤ nd.length ∧ acc = ((nd.take i).map (·.2)).map D.int, ⟨rfl, Nat.zero_le _, rfl⟩, fun _ _ _ _ _ h => ⟨0, by obtain ⟨rfl, _⟩ := h; rfl⟩, ?_, ?_⟩
  · rintro i d Fm msm acc em hd ⟨rfl, hi2, rfl⟩ Fn en
    rw [List.getElem?_map, List.getElem?_map] at hd
    cases hp : nd[i]? with
    | none => rw [hp] at hd; cases hd
    | some p =>
      rw [hp] at hd
      cases hd
      have hil := (List.getElem?_eq_some_iff.mp hp).1
      refine ag_name ?_
      walk_at "al"
      refine ⟨by rw [List.length_map, List.length_map, List.length_take]; omega, rfl, hil, ?_⟩
      rw [List.take_succ, hp, List.map_append, List.map_append]
      rfl
  · rintro Fm msm acc em ⟨rfl, _, rfl⟩ Fn en
    rw [List.length_map, List.length_map, List.take_length]
    walk_at "al"
    refine ac_sumL ?_
    walk_at "al"
    refine ar_ixT (d := .int (seasonF ps wd (t0 :: tr)).1) (atI_of (j := 0) rfl rfl) ?_
    walk_at "al"
    rw [decide_eq_true (need_le hOk hnd)]
    exact q _ _
end

section
variable {P : Program} {w : World} {K : Frg} {mg : Str → Option Value} {base : Heap}
theorem all_ok (T : Txt K mg) : OK_law P w base T :=
  have h_OK__law_random : OK__law_random P w base T := ok__law_random T
  have h_OK__law_below : OK__law_below P w base T := ok__law_below T
  have h_OK__law_shuffled : OK__law_shuffled P w base T := ok__law_shuffled T h_OK__law_below
  have h_OK__law_pairs : OK__law_pairs P w base T := ok__law_pairs T h_OK__law_below h_OK__law_shuffled
  have h_OK__law_text : OK__law_text P w base T := ok__law_text T h_OK__law_below
  have h_OK__law_texts : OK__law_texts P w base T := ok__law_texts T h_OK__law_below h_OK__law_text
  have h_OK_is_int_in : OK_is_int_in P w base T := ok_is_int_in T
  have h_OK_is_pair : OK_is_pair P w base T := ok_is_pair T
  have h_OK_Sign___init__ : OK_Sign___init__ P w base T := ok_Sign___init__ T h_OK_is_int_in h_OK_is_pair
  have h_OK_Sign_is_text : OK_Sign_is_text P w base T := ok_Sign_is_text T
  have h_OK_Sign_check_texts : OK_Sign_check_texts P w base T := ok_Sign_check_texts T h_OK_Sign_is_text
  have h_OK_Sign_blank : OK_Sign_blank P w base T := ok_Sign_blank T
  have h_OK_offsets_of : OK_offsets_of P w base T := ok_offsets_of T
  have h_OK_Sign_row_of : OK_Sign_row_of P w base T := ok_Sign_row_of T
  have h_OK_Sign_piece : OK_Sign_piece P w base T := ok_Sign_piece T
  have h_OK_links : OK_links P w base T := ok_links T h_OK_Sign_piece
  have h_OK_surplus : OK_surplus P w base T := ok_surplus T
  have h_OK_shares : OK_shares P w base T := ok_shares T
  have h_OK_groups : OK_groups P w base T := ok_groups T h_OK_shares
  have h_OK_is_closed : OK_is_closed P w base T := ok_is_closed T
  have h_OK_cost : OK_cost P w base T := ok_cost T h_OK_Sign_piece h_OK_links h_OK_surplus h_OK_groups h_OK_is_closed
  have h_OK_add : OK_add P w base T := ok_add T
  have h_OK_best_of : OK_best_of P w base T := ok_best_of T h_OK_Sign_row_of h_OK_cost h_OK_add
  have h_OK_costs_from : OK_costs_from P w base T := ok_costs_from T h_OK_offsets_of h_OK_Sign_row_of h_OK_best_of
  have h_OK_season_cost : OK_season_cost P w base T := ok_season_cost T h_OK_Sign_check_texts h_OK_Sign_blank h_OK_costs_from h_OK_best_of
  have h_OK_check_offsets : OK_check_offsets P w base T := ok_check_offsets T h_OK_is_int_in
  have h_OK_fixed_cost : OK_fixed_cost P w base T := ok_fixed_cost T h_OK_Sign_check_texts h_OK_check_offsets h_OK_Sign_blank h_OK_Sign_row_of h_OK_cost h_OK_add
  have h_OK_count_best : OK_count_best P w base T := ok_count_best T h_OK_Sign_check_texts h_OK_Sign_blank h_OK_costs_from h_OK_best_of
  have h_OK_best_offsets : OK_best_offsets P w base T := ok_best_offsets T h_OK_Sign_check_texts h_OK_Sign_blank h_OK_Sign_row_of h_OK_cost h_OK_add h_OK_costs_from h_OK_best_of
  have h_OK_letters_of : OK_letters_of P w base T := ok_letters_of T h_OK_Sign_piece
  have h_OK_needed_letters : OK_needed_letters P w base T := ok_needed_letters T h_OK_Sign_check_texts h_OK_letters_of
  ok_law T h_OK__law_random h_OK__law_below h_OK__law_pairs h_OK__law_texts h_OK_Sign___init__ h_OK_season_cost h_OK_fixed_cost h_OK_count_best h_OK_best_offsets h_OK_needed_letters
end
theorem all_mk {l : PySem.W.OpenLaw} {w : World} {K : PySem.W.Frag} {h : Heap} {mg : Str → Option Value} {fa : Addr}
    {c_Sign : Addr}
    {c_SignError : Addr}
    {a0 : Addr} {od0 an0 : Option Addr} {sl0 : Array (Option Value)} {oc0 kV0 dc0 pm0 cd0 ct0 : Value}
    {a1 : Addr} {od1 an1 : Option Addr} {sl1 : Array (Option Value)} {oc1 kV1 dc1 pm1 cd1 ct1 : Value}
    {a2 : Addr} {od2 an2 : Option Addr} {sl2 : Array (Option Value)} {oc2 kV2 dc2 pm2 cd2 ct2 : Value}
    {tT2 tz2 : Addr} {odT2 odz2 : Option Addr} {nT2 nz2 : Nat} {slT2 slz2 : Array (Option Value)}
    {a3 : Addr} {od3 an3 : Option Addr} {sl3 : Array (Option Value)} {oc3 kV3 dc3 pm3 cd3 ct3 : Value}
    {p3 : Addr} {rs3 : List Value}
    {a4 : Addr} {od4 an4 : Option Addr} {sl4 : Array (Option Value)} {oc4 kV4 dc4 pm4 cd4 ct4 : Value}
    {a5 : Addr} {od5 an5 : Option Addr} {sl5 : Array (Option Value)} {oc5 kV5 dc5 pm5 cd5 ct5 : Value}
    {a6 : Addr} {od6 an6 : Option Addr} {sl6 : Array (Option Value)} {oc6 kV6 dc6 pm6 cd6 ct6 : Value}
    {a7 : Addr} {od7 an7 : Option Addr} {sl7 : Array (Option Value)} {oc7 kV7 dc7 pm7 cd7 ct7 : Value}
    {a8 : Addr} {od8 an8 : Option Addr} {sl8 : Array (Option Value)} {oc8 kV8 dc8 pm8 cd8 ct8 : Value}
    {a9 : Addr} {od9 an9 : Option Addr} {sl9 : Array (Option Value)} {oc9 kV9 dc9 pm9 cd9 ct9 : Value}
    {a10 : Addr} {od10 an10 : Option Addr} {sl10 : Array (Option Value)} {oc10 kV10 dc10 pm10 cd10 ct10 : Value}
    {a11 : Addr} {od11 an11 : Option Addr} {sl11 : Array (Option Value)} {oc11 kV11 dc11 pm11 cd11 ct11 : Value}
    {a12 : Addr} {od12 an12 : Option Addr} {sl12 : Array (Option Value)} {oc12 kV12 dc12 pm12 cd12 ct12 : Value}
    {a13 : Addr} {od13 an13 : Option Addr} {sl13 : Array (Option Value)} {oc13 kV13 dc13 pm13 cd13 ct13 : Value}
    {a14 : Addr} {od14 an14 : Option Addr} {sl14 : Array (Option Value)} {oc14 kV14 dc14 pm14 cd14 ct14 : Value}
    {a15 : Addr} {od15 an15 : Option Addr} {sl15 : Array (Option Value)} {oc15 kV15 dc15 pm15 cd15 ct15 : Value}
    {a16 : Addr} {od16 an16 : Option Addr} {sl16 : Array (Option Value)} {oc16 kV16 dc16 pm16 cd16 ct16 : Value}
    {a17 : Addr} {od17 an17 : Option Addr} {sl17 : Array (Option Value)} {oc17 kV17 dc17 pm17 cd17 ct17 : Value}
    {a18 : Addr} {od18 an18 : Option Addr} {sl18 : Array (Option Value)} {oc18 kV18 dc18 pm18 cd18 ct18 : Value}
    {a19 : Addr} {od19 an19 : Option Addr} {sl19 : Array (Option Value)} {oc19 kV19 dc19 pm19 cd19 ct19 : Value}
    {a20 : Addr} {od20 an20 : Option Addr} {sl20 : Array (Option Value)} {oc20 kV20 dc20 pm20 cd20 ct20 : Value}
    {a21 : Addr} {od21 an21 : Option Addr} {sl21 : Array (Option Value)} {oc21 kV21 dc21 pm21 cd21 ct21 : Value}
    {a22 : Addr} {od22 an22 : Option Addr} {sl22 : Array (Option Value)} {oc22 kV22 dc22 pm22 cd22 ct22 : Value}
    {a23 : Addr} {od23 an23 : Option Addr} {sl23 : Array (Option Value)} {oc23 kV23 dc23 pm23 cd23 ct23 : Value}
    {a24 : Addr} {od24 an24 : Option Addr} {sl24 : Array (Option Value)} {oc24 kV24 dc24 pm24 cd24 ct24 : Value}
    {a25 : Addr} {od25 an25 : Option Addr} {sl25 : Array (Option Value)} {oc25 kV25 dc25 pm25 cd25 ct25 : Value}
    {a26 : Addr} {od26 an26 : Option Addr} {sl26 : Array (Option Value)} {oc26 kV26 dc26 pm26 cd26 ct26 : Value}
    {a27 : Addr} {od27 an27 : Option Addr} {sl27 : Array (Option Value)} {oc27 kV27 dc27 pm27 cd27 ct27 : Value}
    {a28 : Addr} {od28 an28 : Option Addr} {sl28 : Array (Option Value)} {oc28 kV28 dc28 pm28 cd28 ct28 : Value}
    {a29 : Addr} {od29 an29 : Option Addr} {sl29 : Array (Option Value)} {oc29 kV29 dc29 pm29 cd29 ct29 : Value}
    {a30 : Addr} {od30 an30 : Option Addr} {sl30 : Array (Option Value)} {oc30 kV30 dc30 pm30 cd30 ct30 : Value}
    {a31 : Addr} {od31 an31 : Option Addr} {sl31 : Array (Option Value)} {oc31 kV31 dc31 pm31 cd31 ct31 : Value}
    {t_BLANK : Tok}
    {t_LETTERS : Tok}
    {t_MAX_PAIRS : Tok}
    {t_MAX_TEXTS : Tok}
    {t_MAX_WIDTH : Tok} (X : K.In h) (G : h.Ns mainGlobals mg) (hfa : mg "law" = some (.ref fa))
    (hc_Sign : PySem.W.nsIn K mainGlobals "Sign" = some (some (.ref c_Sign)))
    (pg_Sign : PySem.W.plainGet K c_Sign Str.empty = true)
    (hd_Sign : PySem.W.hasDictIn K c_Sign = true)
    (po_Sign : PySem.W.plainOver K c_Sign = true)
    (sa_Sign : PySem.W.findIn K (.ref c_Sign) "__setattr__" = some (some (.builtin "object.__setattr__")))
    (mk_Sign : PySem.W.makesIn K c_Sign = true)
    (kc_Sign : PySem.W.keepIn K (.ref c_Sign) = true)
    (n_Sign_width : PySem.W.findIn K (.ref c_Sign) "width" = some none)
    (n_Sign_pairs : PySem.W.findIn K (.ref c_Sign) "pairs" = some none)
    (n_Sign_mates : PySem.W.findIn K (.ref c_Sign) "mates" = some none)
    (hc_SignError : PySem.W.nsIn K mainGlobals "SignError" = some (some (.ref c_SignError)))
    (h0 : PySem.W.nsIn K mainGlobals "is_int_in" = some (some (.ref a0)))
    (l0 : K.lookup a0 = some ⟨oc0, od0, .func (PySem.W.fnOf "is_int_in" "is_int_in" (defArgs s_is_int_in) (defBody s_is_int_in) (defScope s_is_int_in) .none kV0 dc0 pm0 an0 cd0 ct0), sl0⟩)
    (cd_0 : PySem.W.codeIn K cd0 "is_int_in" = true)
    (k0 : PySem.W.keepIn K (.ref a0) = true)
    (h1 : PySem.W.nsIn K mainGlobals "is_pair" = some (some (.ref a1)))
    (l1 : K.lookup a1 = some ⟨oc1, od1, .func (PySem.W.fnOf "is_pair" "is_pair" (defArgs s_is_pair) (defBody s_is_pair) (defScope s_is_pair) .none kV1 dc1 pm1 an1 cd1 ct1), sl1⟩)
    (cd_1 : PySem.W.codeIn K cd1 "is_pair" = true)
    (k1 : PySem.W.keepIn K (.ref a1) = true)
    (h2 : PySem.W.findIn K (.ref c_Sign) "__init__" = some (some (.ref a2)))
    (i2 : PySem.W.isFn K (.ref a2) = true)
    (l2 : K.lookup a2 = some ⟨oc2, od2, .func (PySem.W.fnOf "__init__" "Sign.__init__" (defArgs s_Sign___init__) (defBody s_Sign___init__) (defScope s_Sign___init__) (.ref tT2) kV2 dc2 pm2 an2 cd2 ct2), sl2⟩)
    (cd_2 : PySem.W.codeIn K cd2 "Sign.__init__" = true)
    (k2 : PySem.W.keepIn K (.ref a2) = true)
    (hT2 : K.lookup tT2 = some ⟨.type "tuple", odT2, .seq #[.ref tz2] nT2, slT2⟩)
    (hz2 : K.lookup tz2 = some ⟨.type "tuple", odz2, .seq #[] nz2, slz2⟩)
    (h3 : PySem.W.findIn K (.ref c_Sign) "blank" = some (some (.ref p3)))
    (hg3 : PySem.W.specialIn K (.ref p3) "__get__" = some (some (.builtin "property.__get__")))
    (ht3 : PySem.W.takesIn K (.ref p3) = some true)
    (hr3 : PySem.W.recIn K p3 "property" = some (.ref a3 :: rs3))
    (l3 : K.lookup a3 = some ⟨oc3, od3, .func (PySem.W.fnOf "blank" "Sign.blank" (defArgs s_Sign_blank) (defBody s_Sign_blank) (defScope s_Sign_blank) .none kV3 dc3 pm3 an3 cd3 ct3), sl3⟩)
    (cd_3 : PySem.W.codeIn K cd3 "Sign.blank" = true)
    (k3 : PySem.W.keepIn K (.ref a3) = true)
    (h4 : PySem.W.findIn K (.ref c_Sign) "piece" = some (some (.ref a4)))
    (i4 : PySem.W.isFn K (.ref a4) = true)
    (l4 : K.lookup a4 = some ⟨oc4, od4, .func (PySem.W.fnOf "piece" "Sign.piece" (defArgs s_Sign_piece) (defBody s_Sign_piece) (defScope s_Sign_piece) .none kV4 dc4 pm4 an4 cd4 ct4), sl4⟩)
    (cd_4 : PySem.W.codeIn K cd4 "Sign.piece" = true)
    (k4 : PySem.W.keepIn K (.ref a4) = true)
    (h5 : PySem.W.findIn K (.ref c_Sign) "row_of" = some (some (.ref a5)))
    (i5 : PySem.W.isFn K (.ref a5) = true)
    (l5 : K.lookup a5 = some ⟨oc5, od5, .func (PySem.W.fnOf "row_of" "Sign.row_of" (defArgs s_Sign_row_of) (defBody s_Sign_row_of) (defScope s_Sign_row_of) .none kV5 dc5 pm5 an5 cd5 ct5), sl5⟩)
    (cd_5 : PySem.W.codeIn K cd5 "Sign.row_of" = true)
    (k5 : PySem.W.keepIn K (.ref a5) = true)
    (h6 : PySem.W.findIn K (.ref c_Sign) "is_text" = some (some (.ref a6)))
    (i6 : PySem.W.isFn K (.ref a6) = true)
    (l6 : K.lookup a6 = some ⟨oc6, od6, .func (PySem.W.fnOf "is_text" "Sign.is_text" (defArgs s_Sign_is_text) (defBody s_Sign_is_text) (defScope s_Sign_is_text) .none kV6 dc6 pm6 an6 cd6 ct6), sl6⟩)
    (cd_6 : PySem.W.codeIn K cd6 "Sign.is_text" = true)
    (k6 : PySem.W.keepIn K (.ref a6) = true)
    (h7 : PySem.W.findIn K (.ref c_Sign) "check_texts" = some (some (.ref a7)))
    (i7 : PySem.W.isFn K (.ref a7) = true)
    (l7 : K.lookup a7 = some ⟨oc7, od7, .func (PySem.W.fnOf "check_texts" "Sign.check_texts" (defArgs s_Sign_check_texts) (defBody s_Sign_check_texts) (defScope s_Sign_check_texts) .none kV7 dc7 pm7 an7 cd7 ct7), sl7⟩)
    (cd_7 : PySem.W.codeIn K cd7 "Sign.check_texts" = true)
    (k7 : PySem.W.keepIn K (.ref a7) = true)
    (h8 : PySem.W.nsIn K mainGlobals "links" = some (some (.ref a8)))
    (l8 : K.lookup a8 = some ⟨oc8, od8, .func (PySem.W.fnOf "links" "links" (defArgs s_links) (defBody s_links) (defScope s_links) .none kV8 dc8 pm8 an8 cd8 ct8), sl8⟩)
    (cd_8 : PySem.W.codeIn K cd8 "links" = true)
    (k8 : PySem.W.keepIn K (.ref a8) = true)
    (h9 : PySem.W.nsIn K mainGlobals "surplus" = some (some (.ref a9)))
    (l9 : K.lookup a9 = some ⟨oc9, od9, .func (PySem.W.fnOf "surplus" "surplus" (defArgs s_surplus) (defBody s_surplus) (defScope s_surplus) .none kV9 dc9 pm9 an9 cd9 ct9), sl9⟩)
    (cd_9 : PySem.W.codeIn K cd9 "surplus" = true)
    (k9 : PySem.W.keepIn K (.ref a9) = true)
    (h10 : PySem.W.nsIn K mainGlobals "groups" = some (some (.ref a10)))
    (l10 : K.lookup a10 = some ⟨oc10, od10, .func (PySem.W.fnOf "groups" "groups" (defArgs s_groups) (defBody s_groups) (defScope s_groups) .none kV10 dc10 pm10 an10 cd10 ct10), sl10⟩)
    (cd_10 : PySem.W.codeIn K cd10 "groups" = true)
    (k10 : PySem.W.keepIn K (.ref a10) = true)
    (h11 : PySem.W.nsIn K mainGlobals "shares" = some (some (.ref a11)))
    (l11 : K.lookup a11 = some ⟨oc11, od11, .func (PySem.W.fnOf "shares" "shares" (defArgs s_shares) (defBody s_shares) (defScope s_shares) .none kV11 dc11 pm11 an11 cd11 ct11), sl11⟩)
    (cd_11 : PySem.W.codeIn K cd11 "shares" = true)
    (k11 : PySem.W.keepIn K (.ref a11) = true)
    (h12 : PySem.W.nsIn K mainGlobals "is_closed" = some (some (.ref a12)))
    (l12 : K.lookup a12 = some ⟨oc12, od12, .func (PySem.W.fnOf "is_closed" "is_closed" (defArgs s_is_closed) (defBody s_is_closed) (defScope s_is_closed) .none kV12 dc12 pm12 an12 cd12 ct12), sl12⟩)
    (cd_12 : PySem.W.codeIn K cd12 "is_closed" = true)
    (k12 : PySem.W.keepIn K (.ref a12) = true)
    (h13 : PySem.W.nsIn K mainGlobals "cost" = some (some (.ref a13)))
    (l13 : K.lookup a13 = some ⟨oc13, od13, .func (PySem.W.fnOf "cost" "cost" (defArgs s_cost) (defBody s_cost) (defScope s_cost) .none kV13 dc13 pm13 an13 cd13 ct13), sl13⟩)
    (cd_13 : PySem.W.codeIn K cd13 "cost" = true)
    (k13 : PySem.W.keepIn K (.ref a13) = true)
    (h14 : PySem.W.nsIn K mainGlobals "offsets_of" = some (some (.ref a14)))
    (l14 : K.lookup a14 = some ⟨oc14, od14, .func (PySem.W.fnOf "offsets_of" "offsets_of" (defArgs s_offsets_of) (defBody s_offsets_of) (defScope s_offsets_of) .none kV14 dc14 pm14 an14 cd14 ct14), sl14⟩)
    (cd_14 : PySem.W.codeIn K cd14 "offsets_of" = true)
    (k14 : PySem.W.keepIn K (.ref a14) = true)
    (h15 : PySem.W.nsIn K mainGlobals "add" = some (some (.ref a15)))
    (l15 : K.lookup a15 = some ⟨oc15, od15, .func (PySem.W.fnOf "add" "add" (defArgs s_add) (defBody s_add) (defScope s_add) .none kV15 dc15 pm15 an15 cd15 ct15), sl15⟩)
    (cd_15 : PySem.W.codeIn K cd15 "add" = true)
    (k15 : PySem.W.keepIn K (.ref a15) = true)
    (h16 : PySem.W.nsIn K mainGlobals "check_offsets" = some (some (.ref a16)))
    (l16 : K.lookup a16 = some ⟨oc16, od16, .func (PySem.W.fnOf "check_offsets" "check_offsets" (defArgs s_check_offsets) (defBody s_check_offsets) (defScope s_check_offsets) .none kV16 dc16 pm16 an16 cd16 ct16), sl16⟩)
    (cd_16 : PySem.W.codeIn K cd16 "check_offsets" = true)
    (k16 : PySem.W.keepIn K (.ref a16) = true)
    (h17 : PySem.W.nsIn K mainGlobals "fixed_cost" = some (some (.ref a17)))
    (l17 : K.lookup a17 = some ⟨oc17, od17, .func (PySem.W.fnOf "fixed_cost" "fixed_cost" (defArgs s_fixed_cost) (defBody s_fixed_cost) (defScope s_fixed_cost) .none kV17 dc17 pm17 an17 cd17 ct17), sl17⟩)
    (cd_17 : PySem.W.codeIn K cd17 "fixed_cost" = true)
    (k17 : PySem.W.keepIn K (.ref a17) = true)
    (h18 : PySem.W.nsIn K mainGlobals "costs_from" = some (some (.ref a18)))
    (l18 : K.lookup a18 = some ⟨oc18, od18, .func (PySem.W.fnOf "costs_from" "costs_from" (defArgs s_costs_from) (defBody s_costs_from) (defScope s_costs_from) .none kV18 dc18 pm18 an18 cd18 ct18), sl18⟩)
    (cd_18 : PySem.W.codeIn K cd18 "costs_from" = true)
    (k18 : PySem.W.keepIn K (.ref a18) = true)
    (h19 : PySem.W.nsIn K mainGlobals "best_of" = some (some (.ref a19)))
    (l19 : K.lookup a19 = some ⟨oc19, od19, .func (PySem.W.fnOf "best_of" "best_of" (defArgs s_best_of) (defBody s_best_of) (defScope s_best_of) .none kV19 dc19 pm19 an19 cd19 ct19), sl19⟩)
    (cd_19 : PySem.W.codeIn K cd19 "best_of" = true)
    (k19 : PySem.W.keepIn K (.ref a19) = true)
    (h20 : PySem.W.nsIn K mainGlobals "season_cost" = some (some (.ref a20)))
    (l20 : K.lookup a20 = some ⟨oc20, od20, .func (PySem.W.fnOf "season_cost" "season_cost" (defArgs s_season_cost) (defBody s_season_cost) (defScope s_season_cost) .none kV20 dc20 pm20 an20 cd20 ct20), sl20⟩)
    (cd_20 : PySem.W.codeIn K cd20 "season_cost" = true)
    (k20 : PySem.W.keepIn K (.ref a20) = true)
    (h21 : PySem.W.nsIn K mainGlobals "count_best" = some (some (.ref a21)))
    (l21 : K.lookup a21 = some ⟨oc21, od21, .func (PySem.W.fnOf "count_best" "count_best" (defArgs s_count_best) (defBody s_count_best) (defScope s_count_best) .none kV21 dc21 pm21 an21 cd21 ct21), sl21⟩)
    (cd_21 : PySem.W.codeIn K cd21 "count_best" = true)
    (k21 : PySem.W.keepIn K (.ref a21) = true)
    (h22 : PySem.W.nsIn K mainGlobals "best_offsets" = some (some (.ref a22)))
    (l22 : K.lookup a22 = some ⟨oc22, od22, .func (PySem.W.fnOf "best_offsets" "best_offsets" (defArgs s_best_offsets) (defBody s_best_offsets) (defScope s_best_offsets) .none kV22 dc22 pm22 an22 cd22 ct22), sl22⟩)
    (cd_22 : PySem.W.codeIn K cd22 "best_offsets" = true)
    (k22 : PySem.W.keepIn K (.ref a22) = true)
    (h23 : PySem.W.nsIn K mainGlobals "_law_random" = some (some (.ref a23)))
    (l23 : K.lookup a23 = some ⟨oc23, od23, .func (PySem.W.fnOf "_law_random" "_law_random" (defArgs s__law_random) (defBody s__law_random) (defScope s__law_random) .none kV23 dc23 pm23 an23 cd23 ct23), sl23⟩)
    (cd_23 : PySem.W.codeIn K cd23 "_law_random" = true)
    (k23 : PySem.W.keepIn K (.ref a23) = true)
    (h24 : PySem.W.nsIn K mainGlobals "_law_below" = some (some (.ref a24)))
    (l24 : K.lookup a24 = some ⟨oc24, od24, .func (PySem.W.fnOf "_law_below" "_law_below" (defArgs s__law_below) (defBody s__law_below) (defScope s__law_below) .none kV24 dc24 pm24 an24 cd24 ct24), sl24⟩)
    (cd_24 : PySem.W.codeIn K cd24 "_law_below" = true)
    (k24 : PySem.W.keepIn K (.ref a24) = true)
    (h25 : PySem.W.nsIn K mainGlobals "_law_shuffled" = some (some (.ref a25)))
    (l25 : K.lookup a25 = some ⟨oc25, od25, .func (PySem.W.fnOf "_law_shuffled" "_law_shuffled" (defArgs s__law_shuffled) (defBody s__law_shuffled) (defScope s__law_shuffled) .none kV25 dc25 pm25 an25 cd25 ct25), sl25⟩)
    (cd_25 : PySem.W.codeIn K cd25 "_law_shuffled" = true)
    (k25 : PySem.W.keepIn K (.ref a25) = true)
    (h26 : PySem.W.nsIn K mainGlobals "_law_pairs" = some (some (.ref a26)))
    (l26 : K.lookup a26 = some ⟨oc26, od26, .func (PySem.W.fnOf "_law_pairs" "_law_pairs" (defArgs s__law_pairs) (defBody s__law_pairs) (defScope s__law_pairs) .none kV26 dc26 pm26 an26 cd26 ct26), sl26⟩)
    (cd_26 : PySem.W.codeIn K cd26 "_law_pairs" = true)
    (k26 : PySem.W.keepIn K (.ref a26) = true)
    (h27 : PySem.W.nsIn K mainGlobals "_law_text" = some (some (.ref a27)))
    (l27 : K.lookup a27 = some ⟨oc27, od27, .func (PySem.W.fnOf "_law_text" "_law_text" (defArgs s__law_text) (defBody s__law_text) (defScope s__law_text) .none kV27 dc27 pm27 an27 cd27 ct27), sl27⟩)
    (cd_27 : PySem.W.codeIn K cd27 "_law_text" = true)
    (k27 : PySem.W.keepIn K (.ref a27) = true)
    (h28 : PySem.W.nsIn K mainGlobals "_law_texts" = some (some (.ref a28)))
    (l28 : K.lookup a28 = some ⟨oc28, od28, .func (PySem.W.fnOf "_law_texts" "_law_texts" (defArgs s__law_texts) (defBody s__law_texts) (defScope s__law_texts) .none kV28 dc28 pm28 an28 cd28 ct28), sl28⟩)
    (cd_28 : PySem.W.codeIn K cd28 "_law_texts" = true)
    (k28 : PySem.W.keepIn K (.ref a28) = true)
    (h29 : PySem.W.nsIn K mainGlobals "letters_of" = some (some (.ref a29)))
    (l29 : K.lookup a29 = some ⟨oc29, od29, .func (PySem.W.fnOf "letters_of" "letters_of" (defArgs s_letters_of) (defBody s_letters_of) (defScope s_letters_of) .none kV29 dc29 pm29 an29 cd29 ct29), sl29⟩)
    (cd_29 : PySem.W.codeIn K cd29 "letters_of" = true)
    (k29 : PySem.W.keepIn K (.ref a29) = true)
    (h30 : PySem.W.nsIn K mainGlobals "needed_letters" = some (some (.ref a30)))
    (l30 : K.lookup a30 = some ⟨oc30, od30, .func (PySem.W.fnOf "needed_letters" "needed_letters" (defArgs s_needed_letters) (defBody s_needed_letters) (defScope s_needed_letters) .none kV30 dc30 pm30 an30 cd30 ct30), sl30⟩)
    (cd_30 : PySem.W.codeIn K cd30 "needed_letters" = true)
    (k30 : PySem.W.keepIn K (.ref a30) = true)
    (h31 : PySem.W.nsIn K mainGlobals "law" = some (some (.ref a31)))
    (l31 : K.lookup a31 = some ⟨oc31, od31, .func (PySem.W.fnOf "law" "law" (defArgs s_law) (defBody s_law) (defScope s_law) .none kV31 dc31 pm31 an31 cd31 ct31), sl31⟩)
    (cd_31 : PySem.W.codeIn K cd31 "law" = true)
    (k31 : PySem.W.keepIn K (.ref a31) = true)
    (z_abs : PySem.W.nsIn K mainGlobals "abs" = some none)
    (z_all : PySem.W.nsIn K mainGlobals "all" = some none)
    (z_any : PySem.W.nsIn K mainGlobals "any" = some none)
    (z_bool : PySem.W.nsIn K mainGlobals "bool" = some none)
    (z_enumerate : PySem.W.nsIn K mainGlobals "enumerate" = some none)
    (z_int : PySem.W.nsIn K mainGlobals "int" = some none)
    (z_isinstance : PySem.W.nsIn K mainGlobals "isinstance" = some none)
    (z_len : PySem.W.nsIn K mainGlobals "len" = some none)
    (z_list : PySem.W.nsIn K mainGlobals "list" = some none)
    (z_max : PySem.W.nsIn K mainGlobals "max" = some none)
    (z_min : PySem.W.nsIn K mainGlobals "min" = some none)
    (z_range : PySem.W.nsIn K mainGlobals "range" = some none)
    (z_set : PySem.W.nsIn K mainGlobals "set" = some none)
    (z_sorted : PySem.W.nsIn K mainGlobals "sorted" = some none)
    (z_str : PySem.W.nsIn K mainGlobals "str" = some none)
    (z_sum : PySem.W.nsIn K mainGlobals "sum" = some none)
    (z_tuple : PySem.W.nsIn K mainGlobals "tuple" = some none)
    (z_zip : PySem.W.nsIn K mainGlobals "zip" = some none)
    (y_BLANK : PySem.W.nsIn K mainGlobals "BLANK" = some (some (.str " " t_BLANK)))
    (y_LETTERS : PySem.W.nsIn K mainGlobals "LETTERS" = some (some (.str "ABCDEFGHIJKLMNOPQRSTUVWXYZ0123456789" t_LETTERS)))
    (y_MAX_PAIRS : PySem.W.nsIn K mainGlobals "MAX_PAIRS" = some (some (.int 10 t_MAX_PAIRS)))
    (y_MAX_TEXTS : PySem.W.nsIn K mainGlobals "MAX_TEXTS" = some (some (.int 12 t_MAX_TEXTS)))
    (y_MAX_WIDTH : PySem.W.nsIn K mainGlobals "MAX_WIDTH" = some (some (.int 24 t_MAX_WIDTH))) :
    ∃ fd : FuncData, (∀ (s : Shared) (v : Value), BindsTo s fd ⟨[v], []⟩ [("_law_script", v)]) ∧ ∀ base : Heap, K.In base → base.Ns mainGlobals mg → FnOk l.prog w K mg base CX0 10 fa fd ["_law_script"] (toSp K spLaw) := by
  have e := hfa.symm.trans (PySem.W.mg_of X G h31)
  cases e
  have F0 := fun_mk (st := s_is_int_in) l0 cd_0 k0
  have b0 := F0.binds (ps := ["value", "low", "high"]) fun _ _ _ _ _ _ us hl => match us, hl with | [_, _, _], _ => rfl
  have F1 := fun_mk (st := s_is_pair) l1 cd_1 k1
  have b1 := F1.binds (ps := ["value"]) fun _ _ _ _ _ _ us hl => match us, hl with | [_], _ => rfl
  have D2 : DflV K (.ref tT2) [V.ref tz2] := .inr ⟨by simp, tT2, _, [.ref tz2], _, rfl, hT2, rfl, .cons rfl .nil⟩
  have F2 : FunD K "__init__" "Sign.__init__" (defArgs s_Sign___init__) (defBody s_Sign___init__) (defScope s_Sign___init__) [V.ref tz2] [] a2 (PySem.W.fnOf "__init__" "Sign.__init__" (defArgs s_Sign___init__) (defBody s_Sign___init__) (defScope s_Sign___init__) (.ref tT2) kV2 dc2 pm2 an2 cd2 ct2) := ⟨⟨_, _, _, _, _, _, _, _, _, _, rfl, l2, cd_2, D2, .inl rfl⟩, k2⟩
  obtain ⟨eb2, rb2, b02⟩ := F2.binds1 (ps := ["self", "width", "pairs"]) 3 1 (by simp) rfl (fun T kV doc pm an cdv ct us its hu hi => match us, its, hu, hi with | [_, _, _], [_], _, _ => ⟨_, rfl, rfl⟩)
  have b2 : Binds K (PySem.W.fnOf "__init__" "Sign.__init__" (defArgs s_Sign___init__) (defBody s_Sign___init__) (defScope s_Sign___init__) (.ref tT2) kV2 dc2 pm2 an2 cd2 ct2) ["self", "width", "pairs"] [] := by cases rb2; exact b02
  obtain ⟨e2, v2, bd2⟩ := F2.binds1 (ps := ["self", "width", "pairs"]) 2 0 (by simp) rfl (fun T kV doc pm an cdv ct us its hu hi => match us, its, hu, hi with | [_, _], [_], _, _ => ⟨_, rfl, rfl⟩)
  have F3 := fun_mk (st := s_Sign_blank) l3 cd_3 k3
  have b3 := F3.binds (ps := ["self"]) fun _ _ _ _ _ _ us hl => match us, hl with | [_], _ => rfl
  have F4 := fun_mk (st := s_Sign_piece) l4 cd_4 k4
  have b4 := F4.binds (ps := ["self", "letter"]) fun _ _ _ _ _ _ us hl => match us, hl with | [_, _], _ => rfl
  have F5 := fun_mk (st := s_Sign_row_of) l5 cd_5 k5
  have b5 := F5.binds (ps := ["self", "text", "offset"]) fun _ _ _ _ _ _ us hl => match us, hl with | [_, _, _], _ => rfl
  have F6 := fun_mk (st := s_Sign_is_text) l6 cd_6 k6
  have b6 := F6.binds (ps := ["self", "value"]) fun _ _ _ _ _ _ us hl => match us, hl with | [_, _], _ => rfl
  have F7 := fun_mk (st := s_Sign_check_texts) l7 cd_7 k7
  have b7 := F7.binds (ps := ["self", "texts"]) fun _ _ _ _ _ _ us hl => match us, hl with | [_, _], _ => rfl
  have F8 := fun_mk (st := s_links) l8 cd_8 k8
  have b8 := F8.binds (ps := ["sign", "before", "after"]) fun _ _ _ _ _ _ us hl => match us, hl with | [_, _, _], _ => rfl
  have F9 := fun_mk (st := s_surplus) l9 cd_9 k9
  have b9 := F9.binds (ps := ["changed"]) fun _ _ _ _ _ _ us hl => match us, hl with | [_], _ => rfl
  have F10 := fun_mk (st := s_groups) l10 cd_10 k10
  have b10 := F10.binds (ps := ["changed"]) fun _ _ _ _ _ _ us hl => match us, hl with | [_], _ => rfl
  have F11 := fun_mk (st := s_shares) l11 cd_11 k11
  have b11 := F11.binds (ps := ["group", "link"]) fun _ _ _ _ _ _ us hl => match us, hl with | [_, _], _ => rfl
  have F12 := fun_mk (st := s_is_closed) l12 cd_12 k12
  have b12 := F12.binds (ps := ["group"]) fun _ _ _ _ _ _ us hl => match us, hl with | [_], _ => rfl
  have F13 := fun_mk (st := s_cost) l13 cd_13 k13
  have b13 := F13.binds (ps := ["sign", "before", "after"]) fun _ _ _ _ _ _ us hl => match us, hl with | [_, _, _], _ => rfl
  have F14 := fun_mk (st := s_offsets_of) l14 cd_14 k14
  have b14 := F14.binds (ps := ["sign", "text"]) fun _ _ _ _ _ _ us hl => match us, hl with | [_, _], _ => rfl
  have F15 := fun_mk (st := s_add) l15 cd_15 k15
  have b15 := F15.binds (ps := ["one", "other"]) fun _ _ _ _ _ _ us hl => match us, hl with | [_, _], _ => rfl
  have F16 := fun_mk (st := s_check_offsets) l16 cd_16 k16
  have b16 := F16.binds (ps := ["sign", "texts", "offsets"]) fun _ _ _ _ _ _ us hl => match us, hl with | [_, _, _], _ => rfl
  have F17 := fun_mk (st := s_fixed_cost) l17 cd_17 k17
  have b17 := F17.binds (ps := ["sign", "texts", "offsets"]) fun _ _ _ _ _ _ us hl => match us, hl with | [_, _, _], _ => rfl
  have F18 := fun_mk (st := s_costs_from) l18 cd_18 k18
  have b18 := F18.binds (ps := ["sign", "texts"]) fun _ _ _ _ _ _ us hl => match us, hl with | [_, _], _ => rfl
  have F19 := fun_mk (st := s_best_of) l19 cd_19 k19
  have b19 := F19.binds (ps := ["sign", "row", "text", "layer"]) fun _ _ _ _ _ _ us hl => match us, hl with | [_, _, _, _], _ => rfl
  have F20 := fun_mk (st := s_season_cost) l20 cd_20 k20
  have b20 := F20.binds (ps := ["sign", "texts"]) fun _ _ _ _ _ _ us hl => match us, hl with | [_, _], _ => rfl
  have F21 := fun_mk (st := s_count_best) l21 cd_21 k21
  have b21 := F21.binds (ps := ["sign", "texts"]) fun _ _ _ _ _ _ us hl => match us, hl with | [_, _], _ => rfl
  have F22 := fun_mk (st := s_best_offsets) l22 cd_22 k22
  have b22 := F22.binds (ps := ["sign", "texts"]) fun _ _ _ _ _ _ us hl => match us, hl with | [_, _], _ => rfl
  have F23 := fun_mk (st := s__law_random) l23 cd_23 k23
  have b23 := F23.binds (ps := ["_law_script", "_law_salt"]) fun _ _ _ _ _ _ us hl => match us, hl with | [_, _], _ => rfl
  have F24 := fun_mk (st := s__law_below) l24 cd_24 k24
  have b24 := F24.binds (ps := ["_law_d", "_law_limit"]) fun _ _ _ _ _ _ us hl => match us, hl with | [_, _], _ => rfl
  have F25 := fun_mk (st := s__law_shuffled) l25 cd_25 k25
  have b25 := F25.binds (ps := ["_law_d", "_law_items"]) fun _ _ _ _ _ _ us hl => match us, hl with | [_, _], _ => rfl
  have F26 := fun_mk (st := s__law_pairs) l26 cd_26 k26
  have b26 := F26.binds (ps := ["_law_d", "_law_letters"]) fun _ _ _ _ _ _ us hl => match us, hl with | [_, _], _ => rfl
  have F27 := fun_mk (st := s__law_text) l27 cd_27 k27
  have b27 := F27.binds (ps := ["_law_d", "_law_most", "_law_letters"]) fun _ _ _ _ _ _ us hl => match us, hl with | [_, _, _], _ => rfl
  have F28 := fun_mk (st := s__law_texts) l28 cd_28 k28
  have b28 := F28.binds (ps := ["_law_d", "_law_most", "_law_width", "_law_letters"]) fun _ _ _ _ _ _ us hl => match us, hl with | [_, _, _, _], _ => rfl
  have F29 := fun_mk (st := s_letters_of) l29 cd_29 k29
  have b29 := F29.binds (ps := ["sign", "text"]) fun _ _ _ _ _ _ us hl => match us, hl with | [_, _], _ => rfl
  have F30 := fun_mk (st := s_needed_letters) l30 cd_30 k30
  have b30 := F30.binds (ps := ["sign", "texts"]) fun _ _ _ _ _ _ us hl => match us, hl with | [_, _], _ => rfl
  have F31 := fun_mk (st := s_law) l31 cd_31 k31
  have b31 := F31.binds (ps := ["_law_script"]) fun _ _ _ _ _ _ us hl => match us, hl with | [_], _ => rfl
  let T : Txt K mg := {
    c_Sign := c_Sign,
    m_Sign := PySem.W.mg_of X G hc_Sign,
    k_Sign := ⟨pg_Sign, hd_Sign, po_Sign, sa_Sign⟩,
    n_Sign_width := n_Sign_width,
    n_Sign_pairs := n_Sign_pairs,
    n_Sign_mates := n_Sign_mates,
    c_SignError := c_SignError,
    m_SignError := PySem.W.mg_of X G hc_SignError,
    F_is_int_in := F0,
    b_is_int_in := b0,
    a_is_int_in := a0,
    d_is_int_in := _,
    m_is_int_in := PySem.W.mg_of X G h0,
    F_is_pair := F1,
    b_is_pair := b1,
    a_is_pair := a1,
    d_is_pair := _,
    m_is_pair := PySem.W.mg_of X G h1,
    z_Sign___init__ := [V.ref tz2],
    F_Sign___init__ := F2,
    zr_Sign___init__ := fun _ => .cons (.tup (.inr ⟨_, #[], _, hz2, rfl, rfl, Nat.zero_le _, .nil⟩) .nil) .nil,
    e_Sign___init__ := e2,
    vd_Sign___init__ := v2,
    bd_Sign___init__ := bd2,
    b_Sign___init__ := b2,
    a_Sign___init__ := a2,
    d_Sign___init__ := _,
    M_Sign := ⟨mk_Sign, h2, i2, kc_Sign⟩,
    F_Sign_blank := F3,
    b_Sign_blank := b3,
    a_Sign_blank := a3,
    d_Sign_blank := _,
    p_Sign_blank := p3,
    P_Sign_blank := ⟨h3, hg3, ht3, ⟨rs3, hr3⟩⟩,
    F_Sign_piece := F4,
    b_Sign_piece := b4,
    a_Sign_piece := a4,
    d_Sign_piece := _,
    Me_Sign_piece := ⟨h4, i4, k4⟩,
    F_Sign_row_of := F5,
    b_Sign_row_of := b5,
    a_Sign_row_of := a5,
    d_Sign_row_of := _,
    Me_Sign_row_of := ⟨h5, i5, k5⟩,
    F_Sign_is_text := F6,
    b_Sign_is_text := b6,
    a_Sign_is_text := a6,
    d_Sign_is_text := _,
    Me_Sign_is_text := ⟨h6, i6, k6⟩,
    F_Sign_check_texts := F7,
    b_Sign_check_texts := b7,
    a_Sign_check_texts := a7,
    d_Sign_check_texts := _,
    Me_Sign_check_texts := ⟨h7, i7, k7⟩,
    F_links := F8,
    b_links := b8,
    a_links := a8,
    d_links := _,
    m_links := PySem.W.mg_of X G h8,
    F_surplus := F9,
    b_surplus := b9,
    a_surplus := a9,
    d_surplus := _,
    m_surplus := PySem.W.mg_of X G h9,
    F_groups := F10,
    b_groups := b10,
    a_groups := a10,
    d_groups := _,
    m_groups := PySem.W.mg_of X G h10,
    F_shares := F11,
    b_shares := b11,
    a_shares := a11,
    d_shares := _,
    m_shares := PySem.W.mg_of X G h11,
    F_is_closed := F12,
    b_is_closed := b12,
    a_is_closed := a12,
    d_is_closed := _,
    m_is_closed := PySem.W.mg_of X G h12,
    F_cost := F13,
    b_cost := b13,
    a_cost := a13,
    d_cost := _,
    m_cost := PySem.W.mg_of X G h13,
    F_offsets_of := F14,
    b_offsets_of := b14,
    a_offsets_of := a14,
    d_offsets_of := _,
    m_offsets_of := PySem.W.mg_of X G h14,
    F_add := F15,
    b_add := b15,
    a_add := a15,
    d_add := _,
    m_add := PySem.W.mg_of X G h15,
    F_check_offsets := F16,
    b_check_offsets := b16,
    a_check_offsets := a16,
    d_check_offsets := _,
    m_check_offsets := PySem.W.mg_of X G h16,
    F_fixed_cost := F17,
    b_fixed_cost := b17,
    a_fixed_cost := a17,
    d_fixed_cost := _,
    m_fixed_cost := PySem.W.mg_of X G h17,
    F_costs_from := F18,
    b_costs_from := b18,
    a_costs_from := a18,
    d_costs_from := _,
    m_costs_from := PySem.W.mg_of X G h18,
    F_best_of := F19,
    b_best_of := b19,
    a_best_of := a19,
    d_best_of := _,
    m_best_of := PySem.W.mg_of X G h19,
    F_season_cost := F20,
    b_season_cost := b20,
    a_season_cost := a20,
    d_season_cost := _,
    m_season_cost := PySem.W.mg_of X G h20,
    F_count_best := F21,
    b_count_best := b21,
    a_count_best := a21,
    d_count_best := _,
    m_count_best := PySem.W.mg_of X G h21,
    F_best_offsets := F22,
    b_best_offsets := b22,
    a_best_offsets := a22,
    d_best_offsets := _,
    m_best_offsets := PySem.W.mg_of X G h22,
    F__law_random := F23,
    b__law_random := b23,
    a__law_random := a23,
    d__law_random := _,
    m__law_random := PySem.W.mg_of X G h23,
    F__law_below := F24,
    b__law_below := b24,
    a__law_below := a24,
    d__law_below := _,
    m__law_below := PySem.W.mg_of X G h24,
    F__law_shuffled := F25,
    b__law_shuffled := b25,
    a__law_shuffled := a25,
    d__law_shuffled := _,
    m__law_shuffled := PySem.W.mg_of X G h25,
    F__law_pairs := F26,
    b__law_pairs := b26,
    a__law_pairs := a26,
    d__law_pairs := _,
    m__law_pairs := PySem.W.mg_of X G h26,
    F__law_text := F27,
    b__law_text := b27,
    a__law_text := a27,
    d__law_text := _,
    m__law_text := PySem.W.mg_of X G h27,
    F__law_texts := F28,
    b__law_texts := b28,
    a__law_texts := a28,
    d__law_texts := _,
    m__law_texts := PySem.W.mg_of X G h28,
    F_letters_of := F29,
    b_letters_of := b29,
    a_letters_of := a29,
    d_letters_of := _,
    m_letters_of := PySem.W.mg_of X G h29,
    F_needed_letters := F30,
    b_needed_letters := b30,
    a_needed_letters := a30,
    d_needed_letters := _,
    m_needed_letters := PySem.W.mg_of X G h30,
    F_law := F31,
    b_law := b31,
    a_law := fa,
    d_law := _,
    m_law := PySem.W.mg_of X G h31,
    g_abs := PySem.W.mg_none_of X G z_abs,
    g_all := PySem.W.mg_none_of X G z_all,
    g_any := PySem.W.mg_none_of X G z_any,
    g_bool := PySem.W.mg_none_of X G z_bool,
    g_enumerate := PySem.W.mg_none_of X G z_enumerate,
    g_int := PySem.W.mg_none_of X G z_int,
    g_isinstance := PySem.W.mg_none_of X G z_isinstance,
    g_len := PySem.W.mg_none_of X G z_len,
    g_list := PySem.W.mg_none_of X G z_list,
    g_max := PySem.W.mg_none_of X G z_max,
    g_min := PySem.W.mg_none_of X G z_min,
    g_range := PySem.W.mg_none_of X G z_range,
    g_set := PySem.W.mg_none_of X G z_set,
    g_sorted := PySem.W.mg_none_of X G z_sorted,
    g_str := PySem.W.mg_none_of X G z_str,
    g_sum := PySem.W.mg_none_of X G z_sum,
    g_tuple := PySem.W.mg_none_of X G z_tuple,
    g_zip := PySem.W.mg_none_of X G z_zip,
    u_BLANK := _,
    m_BLANK := PySem.W.mg_of X G y_BLANK,
    r_BLANK := ⟨_, rfl⟩,
    u_LETTERS := _,
    m_LETTERS := PySem.W.mg_of X G y_LETTERS,
    r_LETTERS := ⟨_, rfl⟩,
    u_MAX_PAIRS := _,
    m_MAX_PAIRS := PySem.W.mg_of X G y_MAX_PAIRS,
    r_MAX_PAIRS := ⟨_, rfl⟩,
    u_MAX_TEXTS := _,
    m_MAX_TEXTS := PySem.W.mg_of X G y_MAX_TEXTS,
    r_MAX_TEXTS := ⟨_, rfl⟩,
    u_MAX_WIDTH := _,
    m_MAX_WIDTH := PySem.W.mg_of X G y_MAX_WIDTH,
    r_MAX_WIDTH := ⟨_, rfl⟩ }
  exact ⟨T.d_law, fun s v => .of_eq rfl, fun base _ _ => all_ok T⟩
theorem walk {l : PySem.W.OpenLaw} {q : Program} {loose : List Str} {XP : (Str → Option Value) → Heap → Prop} {YP : World → Heap → Prop} {d : DefRec} {K : Params → PySem.W.Frag} (hn : l.most = some 63) (hdf : d.params.defaults = [])
    (hY : ∀ (w : World) (h : Heap), YP w h → (K w.params).In h)
    (F : ∀ (w : World) (mg : Str → Option Value) (fa : Addr) (h : Heap), (K w.params).In h → h.Ns mainGlobals mg → mg d.name = some (.ref fa) →
      ∃ fd : FuncData, (∀ (s : Shared) (u : Value), BindsTo s fd ⟨[u], []⟩ [("_law_script", u)]) ∧ ∀ base : Heap, (K w.params).In base → base.Ns mainGlobals mg → FnOk l.prog w (K w.params) mg base CX0 10 fa fd ["_law_script"] (toSp (K w.params) spLaw)) :
    PySem.W.WalkO q loose XP YP l.row.toRowW d [] (fun f vs => PySem.call f vs) :=
  L2.walk_of (n := 63) (k := 10) (x := "_law_script") (CX := fun _ => CX0) (sp := fun w => toSp (K w.params) spLaw) hn (by decide) hdf ⟨rfl, by decide, by decide⟩ hY F (fun w H a ns hl _ hS => start_law hS fun F ms => ⟨ns, rfl, hl, fun _ _ => rfl⟩) fun _ _ _ _ _ z => z
end K08

open PySem PySem.W PyProof.Rows in
set_option maxRecDepth 100000 in
set_option maxHeartbeats 0 in
theorem PySem.Challenge.cw_marqueeletters_k08_whole_seasons_holds : PySem.Challenge.rw_marqueeletters_k08_whole_seasons.Holds := by
  w_on; o_law; k_head; (case hw => w_witness2)
  k_fill
  refine K08.walk (l := PySem.Challenge.rw_marqueeletters_k08_whole_seasons) rfl rfl (fun w h Y => PySem.W.kIn_of Y) ?F
  case F =>
    intro w mg fa h KX G hmg
    refine' K08.all_mk KX G hmg ?hc_Sign ?pg_Sign ?hd_Sign ?po_Sign ?sa_Sign ?mk_Sign ?kc_Sign ?n_Sign_width ?n_Sign_pairs ?n_Sign_mates ?hc_SignError ?h0 ?l0 ?cd_0 ?k0 ?h1 ?l1 ?cd_1 ?k1 ?h2 ?i2 ?l2 ?cd_2 ?k2 ?hT2 ?hz2 ?h3 ?hg3 ?ht3 ?hr3 ?l3 ?cd_3 ?k3 ?h4 ?i4 ?l4 ?cd_4 ?k4 ?h5 ?i5 ?l5 ?cd_5 ?k5 ?h6 ?i6 ?l6 ?cd_6 ?k6 ?h7 ?i7 ?l7 ?cd_7 ?k7 ?h8 ?l8 ?cd_8 ?k8 ?h9 ?l9 ?cd_9 ?k9 ?h10 ?l10 ?cd_10 ?k10 ?h11 ?l11 ?cd_11 ?k11 ?h12 ?l12 ?cd_12 ?k12 ?h13 ?l13 ?cd_13 ?k13 ?h14 ?l14 ?cd_14 ?k14 ?h15 ?l15 ?cd_15 ?k15 ?h16 ?l16 ?cd_16 ?k16 ?h17 ?l17 ?cd_17 ?k17 ?h18 ?l18 ?cd_18 ?k18 ?h19 ?l19 ?cd_19 ?k19 ?h20 ?l20 ?cd_20 ?k20 ?h21 ?l21 ?cd_21 ?k21 ?h22 ?l22 ?cd_22 ?k22 ?h23 ?l23 ?cd_23 ?k23 ?h24 ?l24 ?cd_24 ?k24 ?h25 ?l25 ?cd_25 ?k25 ?h26 ?l26 ?cd_26 ?k26 ?h27 ?l27 ?cd_27 ?k27 ?h28 ?l28 ?cd_28 ?k28 ?h29 ?l29 ?cd_29 ?k29 ?h30 ?l30 ?cd_30 ?k30 ?h31 ?l31 ?cd_31 ?k31 ?z_abs ?z_all ?z_any ?z_bool ?z_enumerate ?z_int ?z_isinstance ?z_len ?z_list ?z_max ?z_min ?z_range ?z_set ?z_sorted ?z_str ?z_sum ?z_tuple ?z_zip ?y_BLANK ?y_LETTERS ?y_MAX_PAIRS ?y_MAX_TEXTS ?y_MAX_WIDTH
    (case hc_Sign => k_is)
    (case pg_Sign => k_is)
    (case hd_Sign => k_is)
    (case po_Sign => k_is)
    (case sa_Sign => k_is)
    (case mk_Sign => k_is)
    (case kc_Sign => k_is)
    (case n_Sign_width => k_is)
    (case n_Sign_pairs => k_is)
    (case n_Sign_mates => k_is)
    (case hc_SignError => k_is)
    (case h0 => k_is)
    (case l0 => k_is)
    (case cd_0 => k_is)
    (case k0 => k_is)
    (case h1 => k_is)
    (case l1 => k_is)
    (case cd_1 => k_is)
    (case k1 => k_is)
    (case h2 => k_is)
    (case i2 => k_is)
    (case l2 => k_is)
    (case cd_2 => k_is)
    (case k2 => k_is)
    (case hT2 => k_is)
    (case hz2 => k_is)
    (case h3 => k_is)
    (case hg3 => k_is)
    (case ht3 => k_is)
    (case hr3 => k_is)
    (case l3 => k_is)
    (case cd_3 => k_is)
    (case k3 => k_is)
    (case h4 => k_is)
    (case i4 => k_is)
    (case l4 => k_is)
    (case cd_4 => k_is)
    (case k4 => k_is)
    (case h5 => k_is)
    (case i5 => k_is)
    (case l5 => k_is)
    (case cd_5 => k_is)
    (case k5 => k_is)
    (case h6 => k_is)
    (case i6 => k_is)
    (case l6 => k_is)
    (case cd_6 => k_is)
    (case k6 => k_is)
    (case h7 => k_is)
    (case i7 => k_is)
    (case l7 => k_is)
    (case cd_7 => k_is)
    (case k7 => k_is)
    (case h8 => k_is)
    (case l8 => k_is)
    (case cd_8 => k_is)
    (case k8 => k_is)
    (case h9 => k_is)
    (case l9 => k_is)
    (case cd_9 => k_is)
    (case k9 => k_is)
    (case h10 => k_is)
    (case l10 => k_is)
    (case cd_10 => k_is)
    (case k10 => k_is)
    (case h11 => k_is)
    (case l11 => k_is)
    (case cd_11 => k_is)
    (case k11 => k_is)
    (case h12 => k_is)
    (case l12 => k_is)
    (case cd_12 => k_is)
    (case k12 => k_is)
    (case h13 => k_is)
    (case l13 => k_is)
    (case cd_13 => k_is)
    (case k13 => k_is)
    (case h14 => k_is)
    (case l14 => k_is)
    (case cd_14 => k_is)
    (case k14 => k_is)
    (case h15 => k_is)
    (case l15 => k_is)
    (case cd_15 => k_is)
    (case k15 => k_is)
    (case h16 => k_is)
    (case l16 => k_is)
    (case cd_16 => k_is)
    (case k16 => k_is)
    (case h17 => k_is)
    (case l17 => k_is)
    (case cd_17 => k_is)
    (case k17 => k_is)
    (case h18 => k_is)
    (case l18 => k_is)
    (case cd_18 => k_is)
    (case k18 => k_is)
    (case h19 => k_is)
    (case l19 => k_is)
    (case cd_19 => k_is)
    (case k19 => k_is)
    (case h20 => k_is)
    (case l20 => k_is)
    (case cd_20 => k_is)
    (case k20 => k_is)
    (case h21 => k_is)
    (case l21 => k_is)
    (case cd_21 => k_is)
    (case k21 => k_is)
    (case h22 => k_is)
    (case l22 => k_is)
    (case cd_22 => k_is)
    (case k22 => k_is)
    (case h23 => k_is)
    (case l23 => k_is)
    (case cd_23 => k_is)
    (case k23 => k_is)
    (case h24 => k_is)
    (case l24 => k_is)
    (case cd_24 => k_is)
    (case k24 => k_is)
    (case h25 => k_is)
    (case l25 => k_is)
    (case cd_25 => k_is)
    (case k25 => k_is)
    (case h26 => k_is)
    (case l26 => k_is)
    (case cd_26 => k_is)
    (case k26 => k_is)
    (case h27 => k_is)
    (case l27 => k_is)
    (case cd_27 => k_is)
    (case k27 => k_is)
    (case h28 => k_is)
    (case l28 => k_is)
    (case cd_28 => k_is)
    (case k28 => k_is)
    (case h29 => k_is)
    (case l29 => k_is)
    (case cd_29 => k_is)
    (case k29 => k_is)
    (case h30 => k_is)
    (case l30 => k_is)
    (case cd_30 => k_is)
    (case k30 => k_is)
    (case h31 => k_is)
    (case l31 => k_is)
    (case cd_31 => k_is)
    (case k31 => k_is)
    (case z_abs => k_is)
    (case z_all => k_is)
    (case z_any => k_is)
    (case z_bool => k_is)
    (case z_enumerate => k_is)
    (case z_int => k_is)
    (case z_isinstance => k_is)
    (case z_len => k_is)
    (case z_list => k_is)
    (case z_max => k_is)
    (case z_min => k_is)
    (case z_range => k_is)
    (case z_set => k_is)
    (case z_sorted => k_is)
    (case z_str => k_is)
    (case z_sum => k_is)
    (case z_tuple => k_is)
    (case z_zip => k_is)
    (case y_BLANK => k_is)
    (case y_LETTERS => k_is)
    (case y_MAX_PAIRS => k_is)
    (case y_MAX_TEXTS => k_is)
    (case y_MAX_WIDTH => k_is)

