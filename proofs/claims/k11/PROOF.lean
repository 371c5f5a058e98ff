import PyProof.Rows.All
import Wide.All
import OpenK.AllK
import Wide.FinOn
import HandS.ForMost
import HandS.ForExc
import HandS.Walk
import HandS.Deep
import HandS.IsInst
import HandS.Property
import HandS.Wide
import HandS.Zip
import HandS.TupAny
import HandS.TupMul
import HandS.TupLe
import HandS.Star
import KE.GoesMore
import KE.GoesEnum
import PyProof.MaxThree
import HandS.Defaults
import HandS.Small
import HandS.ExcInit
import HandS.TryMany
import HandS.ExcIs
import HandS.ExcField
import KE.SortData
import HandS.NoneIn
import HandS.OwnEq
import PyProof.InstNe
import HandS.Style
import HandS.Head0
import HandS.Head1
import HandS.Head2
import HandS.HeadEnd
import HandS.HeadHook1
import HandS.HeadHook2
import PySem.Challenge.RW_looplanes_k11_steps_moved
set_option Elab.async false
set_option linter.all false
set_option maxRecDepth 100000
set_option maxHeartbeats 4000000
/-! A layer of data over the hand layer: values as trees, mutable objects as numbered cells; statements as transformers over them. -/
namespace DL
open PySem L2
/-- what stays as it is -/
inductive PD where
  | non | bl (b : Bool) | int (i : Int) | str (x : Str)
  | tup (xs : List PD) | lst (xs : List PD) | ins (C : Addr) (fs : List (Str × PD)) | fz (xs : List PD)
/-- a value: a tree, or the n-th cell -/
inductive D where
  | p (x : PD)
  | c (n : Nat)
instance : Inhabited PD := ⟨.non⟩
instance : Inhabited D := ⟨.p .non⟩
abbrev Frg := PySem.W.Frag
mutual
inductive Rep (K : Frg) (G : Hp) : V → PD → Prop
  | non : Rep K G .non .non
  | bl (b : Bool) : Rep K G (.bl b) (.bl b)
  | int (i : Int) : Rep K G (.int i) (.int i)
  | str (x : Str) : Rep K G (.str x) (.str x)
  | tup {a : Addr} {vs : List V} {ds : List PD} : SqT K G a vs → RepA K G vs ds → Rep K G (.ref a) (.tup ds)
  | lst {a : Addr} {vs : List V} {ds : List PD} : G a = some (.lst vs) → RepA K G vs ds → Rep K G (.ref a) (.lst ds)
  | fz {a : Addr} {vs : List V} {ds : List PD} : SqL K G a vs → RepA K G vs ds → Rep K G (.ref a) (.fz ds)
  | ins {a dx C : Addr} {fvs : List (Str × V)} {fs : List (Str × PD)} : G a = some (.ins C dx fvs) → RepF K G fvs fs → Rep K G (.ref a) (.ins C fs)
inductive RepA (K : Frg) (G : Hp) : List V → List PD → Prop
  | nil : RepA K G [] []
  | cons {v : V} {vs : List V} {d : PD} {ds : List PD} : Rep K G v d → RepA K G vs ds → RepA K G (v :: vs) (d :: ds)
inductive RepF (K : Frg) (G : Hp) : List (Str × V) → List (Str × PD) → Prop
  | nil : RepF K G [] []
  | cons {f : Str} {v : V} {d : PD} {r : List (Str × V)} {q : List (Str × PD)} : Rep K G v d → RepF K G r q → RepF K G ((f, v) :: r) ((f, d) :: q)
end
theorem same_sqT {K : Frg} {G G' : Hp} {a : Addr} {xs : List V} (e : Same G G') (h : SqT K G a xs) : SqT K G' a xs := by
  rcases h with (h | ⟨o, h⟩) | h
  · exact .inl (.inl (e _ _ h))
  · exact .inl (.inr ⟨o, e _ _ h⟩)
  · exact .inr h
mutual
theorem Rep.mono {K : Frg} {G G' : Hp} {v : V} {d : PD} (h : Rep K G v d) (e : Same G G') : Rep K G' v d := by
  match h with
  | .non => exact .non
  | .bl b => exact .bl b
  | .int i => exact .int i
  | .str x => exact .str x
  | .tup h1 h2 => exact .tup (same_sqT e h1) (RepA.mono h2 e)
  | .lst h1 h2 => exact .lst (e _ _ h1) (RepA.mono h2 e)
  | .fz h1 h2 => exact .fz (e.seq h1) (RepA.mono h2 e)
  | .ins h1 h2 => exact .ins (e _ _ h1) (RepF.mono h2 e)
theorem RepA.mono {K : Frg} {G G' : Hp} {vs : List V} {ds : List PD} (h : RepA K G vs ds) (e : Same G G') : RepA K G' vs ds := by
  match h with
  | .nil => exact .nil
  | .cons h1 h2 => exact .cons (Rep.mono h1 e) (RepA.mono h2 e)
theorem RepF.mono {K : Frg} {G G' : Hp} {vs : List (Str × V)} {ds : List (Str × PD)} (h : RepF K G vs ds) (e : Same G G') : RepF K G' vs ds := by
  match h with
  | .nil => exact .nil
  | .cons h1 h2 => exact .cons (Rep.mono h1 e) (RepF.mono h2 e)
end
theorem RepA.length {K : Frg} {G : Hp} : ∀ {vs : List V} {ds : List PD}, RepA K G vs ds → vs.length = ds.length
  | _, _, .nil => rfl
  | _, _, .cons _ h => by
    rw [List.length_cons, List.length_cons, RepA.length h]
theorem RepA.get {K : Frg} {G : Hp} : ∀ {vs : List V} {ds : List PD} {i : Nat} {d : PD}, RepA K G vs ds → ds[i]? = some d → ∃ v, vs[i]? = some v ∧ Rep K G v d
  | _, _, _, _, .nil, h => by simp at h
  | _, _, 0, _, .cons h1 _, h => by
    simp at h
    subst h
    exact ⟨_, rfl, h1⟩
  | _, _, i + 1, _, .cons _ h2, h => by
    simp at h
    obtain ⟨v, e, r⟩ := RepA.get h2 h
    exact ⟨v, by simpa using e, r⟩
theorem RepA.get' {K : Frg} {G : Hp} : ∀ {vs : List V} {ds : List PD} {i : Nat} {v : V}, RepA K G vs ds → vs[i]? = some v → ∃ d, ds[i]? = some d ∧ Rep K G v d
  | _, _, _, _, .nil, h => by simp at h
  | _, _, 0, _, .cons h1 _, h => by
    simp at h
    subst h
    exact ⟨_, rfl, h1⟩
  | _, _, i + 1, _, .cons _ h2, h => by
    simp at h
    obtain ⟨v, e, r⟩ := RepA.get' h2 h
    exact ⟨v, by simpa using e, r⟩
theorem RepA.append {K : Frg} {G : Hp} : ∀ {vs us : List V} {ds es : List PD}, RepA K G vs ds → RepA K G us es → RepA K G (vs ++ us) (ds ++ es)
  | _, _, _, _, .nil, h => h
  | _, _, _, _, .cons h1 h2, h => .cons h1 (RepA.append h2 h)
theorem RepA.set {K : Frg} {G : Hp} {v : V} {d : PD} (r : Rep K G v d) : ∀ {vs : List V} {ds : List PD} (i : Nat), RepA K G vs ds → RepA K G (vs.set i v) (ds.set i d)
  | _, _, _, .nil => .nil
  | _, _, 0, .cons _ h => .cons r h
  | _, _, i + 1, .cons h1 h2 => .cons h1 (RepA.set r i h2)
theorem RepA.take {K : Frg} {G : Hp} : ∀ {vs : List V} {ds : List PD} (n : Nat), RepA K G vs ds → RepA K G (vs.take n) (ds.take n)
  | _, _, 0, _ => .nil
  | _, _, _ + 1, .nil => .nil
  | _, _, n + 1, .cons h1 h2 => .cons h1 (RepA.take n h2)
theorem RepA.drop {K : Frg} {G : Hp} : ∀ {vs : List V} {ds : List PD} (n : Nat), RepA K G vs ds → RepA K G (vs.drop n) (ds.drop n)
  | _, _, 0, h => h
  | _, _, _ + 1, .nil => .nil
  | _, _, n + 1, .cons _ h2 => RepA.drop n h2
theorem RepA.ints {K : Frg} {G : Hp} : ∀ (ns : List Int), RepA K G (ns.map V.int) (ns.map PD.int)
  | [] => .nil
  | n :: r => .cons (.int n) (RepA.ints r)
theorem RepA.ints_inv {K : Frg} {G : Hp} : ∀ {ns : List Int} {vs : List V}, RepA K G vs (ns.map PD.int) → vs = ns.map V.int
  | [], _, h => by cases h; rfl
  | n :: r, _, h => by
    cases h with
    | cons h1 h2 =>
      cases h1
      rw [RepA.ints_inv h2]
      rfl
theorem RepA.bls_inv {K : Frg} {G : Hp} : ∀ {ns : List Bool} {vs : List V}, RepA K G vs (ns.map PD.bl) → vs = ns.map V.bl
  | [], _, h => by cases h; rfl
  | n :: r, _, h => by
    cases h with
    | cons h1 h2 =>
      cases h1
      rw [RepA.bls_inv h2]
      rfl
theorem RepF.look {K : Frg} {G : Hp} {f : Str} : ∀ {fvs : List (Str × V)} {fs : List (Str × PD)} {d : PD}, RepF K G fvs fs → fs.lookup f = some d → ∃ v, fvs.lookup f = some v ∧ Rep K G v d
  | _, _, _, .nil, h => by simp at h
  | (g, v) :: r, (_, e) :: q, d, .cons h1 h2, h => by
    rw [List.lookup_cons] at h ⊢
    cases hb : f == g with
    | true =>
      rw [hb] at h
      have z : e = d := Option.some.inj h
      rw [← z]
      exact ⟨v, rfl, h1⟩
    | false =>
      rw [hb] at h
      exact RepF.look h2 h
theorem RepF.look_none {K : Frg} {G : Hp} {f : Str} : ∀ {fvs : List (Str × V)} {fs : List (Str × PD)}, RepF K G fvs fs → fs.lookup f = none → fvs.lookup f = none
  | _, _, .nil, h => rfl
  | (g, v) :: r, (_, e) :: q, .cons h1 h2, h => by
    rw [List.lookup_cons] at h ⊢
    cases hb : f == g with
    | true =>
      rw [hb] at h
      cases h
    | false =>
      rw [hb] at h
      exact RepF.look_none h2 h

/-! ### cells -/
inductive M where
  | lst (xs : List PD)
  | ins (C : Addr) (fs : List (Str × D))
  | dT (kvs : List (List Key × PD))
  | lane (C : Addr) (whole : PD) (dist : Int) (used : List (List Int))
  | gone
  | lstC (ns : List Nat)
abbrev Mu := List M
abbrev De := List (Option D)
abbrev Cs := List (Addr × List Addr)
def io (cs : Cs) : List Addr := cs.map (·.1)
def foot (cs : Cs) : List Addr := cs.flatMap (·.2)
def RepD (K : Frg) (i : List Addr) (G : Hp) (v : V) : D → Prop
  | .p x => Rep K G v x
  | .c n => ∃ a, i[n]? = some a ∧ v = .ref a
theorem pre_get {α : Type} {i j : List α} (h : i <+: j) {n : Nat} {a : α} (e : i[n]? = some a) : j[n]? = some a := by
  obtain ⟨t, rfl⟩ := h
  obtain ⟨h1, h2⟩ := List.getElem?_eq_some_iff.mp e
  rw [List.getElem?_append_left h1]
  exact e
theorem RepD.mono {K : Frg} {i j : List Addr} {G G' : Hp} {v : V} {d : D} (h : RepD K i G v d) (p : i <+: j) (e : Same G G') : RepD K j G' v d := by
  cases d with
  | p x => exact Rep.mono h e
  | c n =>
    obtain ⟨a, h1, h2⟩ := h
    exact ⟨a, pre_get p h1, h2⟩
abbrev RepDF (K : Frg) (i : List Addr) (G : Hp) : List (Str × V) → List (Str × D) → Prop := Paired fun a b => a.1 = b.1 ∧ RepD K i G a.2 b.2
abbrev RepKV (K : Frg) (G : Hp) : List (List Key × V) → List (List Key × PD) → Prop := Paired fun a b => a.1 = b.1 ∧ Rep K G a.2 b.2
def MAt (K : Frg) (i : List Addr) (G H : Hp) (p : Addr) (fp : List Addr) : M → Prop
  | .lst ds => fp = [p] ∧ ∃ vs, H p = some (.lst vs) ∧ RepA K G vs ds
  | .ins C fs => fp = [p] ∧ ∃ dx fvs, H p = some (.ins C dx fvs) ∧ RepDF K i G fvs fs
  | .dT kvs => fp = [p] ∧ ∃ kvv, H p = some (.dT kvv) ∧ RepKV K G kvv kvs
  | .lane C whole dist used => ∃ dx u rs vw, H p = some (.ins C dx [(("whole" : Str), vw), (("distance" : Str), V.int dist), (("used" : Str), V.ref u)]) ∧ Rep K G vw whole ∧
      H u = some (.lst (rs.map V.ref)) ∧ rs.length = used.length ∧ (∀ (j : Nat) r row, rs[j]? = some r → used[j]? = some row → H r = some (.lst (row.map V.int))) ∧ fp = p :: u :: rs
  | .gone => fp = []
  | .lstC ns => fp = [p] ∧ ∃ as : List Addr, H p = some (.lst (as.map V.ref)) ∧ as.length = ns.length ∧ ∀ (j : Nat) n, ns[j]? = some n → ∃ a, as[j]? = some a ∧ i[n]? = some a
theorem MAt.mono {K : Frg} {i j : List Addr} {G G' H H' : Hp} {p : Addr} {fp : List Addr} {m : M} (h : MAt K i G H p fp m) (pr : i <+: j) (e : Same G G') (k : ∀ a ∈ fp, H' a = H a) : MAt K j G' H' p fp m := by
  cases m with
  | lst ds =>
    obtain ⟨rfl, vs, h1, h2⟩ := h
    exact ⟨rfl, vs, (k p (by simp)).trans h1, h2.mono e⟩
  | ins C fs =>
    obtain ⟨rfl, dx, fvs, h1, h2⟩ := h
    exact ⟨rfl, dx, fvs, (k p (by simp)).trans h1, L2.Paired.mapP h2 fun a b q => ⟨q.1, q.2.mono pr e⟩⟩
  | dT kvs =>
    obtain ⟨rfl, kvv, h1, h2⟩ := h
    exact ⟨rfl, kvv, (k p (by simp)).trans h1, L2.Paired.mapP h2 fun a b q => ⟨q.1, q.2.mono e⟩⟩
  | lane C whole dist used =>
    obtain ⟨dx, u, rs, vw, h1, h2, h3, h4, h5, rfl⟩ := h
    refine ⟨dx, u, rs, vw, (k p (by simp)).trans h1, h2.mono e, (k u (by simp)).trans h3, h4, fun j r row q1 q2 => (k r ?_).trans (h5 j r row q1 q2), rfl⟩
    exact List.mem_cons_of_mem _ (List.mem_cons_of_mem _ (List.mem_of_getElem? q1))
  | gone => exact h
  | lstC ns =>
    obtain ⟨rfl, as, h1, h2, h3⟩ := h
    exact ⟨rfl, as, (k p (by simp)).trans h1, h2, fun q n e => let ⟨a, e1, e2⟩ := h3 q n e; ⟨a, e1, pre_get pr e2⟩⟩
structure KnC (K : Frg) (G H : Hp) (cs : Cs) (ms : Mu) : Prop where
  gh : Same G H
  len : cs.length = ms.length
  cell : ∀ (n : Nat) p fp m, cs[n]? = some (p, fp) → ms[n]? = some m → MAt K (io cs) G H p fp m
  gn : ∀ a ∈ foot cs, G a = none
  hs : ∀ a ∈ foot cs, H a ≠ none
  nd : (foot cs).Nodup
structure Amb where
  S : List Addr
  G : Hp
  H : Hp
def RepE (K : Frg) (i : List Addr) (G : Hp) (σ : L2.St) (ds : De) : Prop := σ.length = ds.length ∧ ∀ (j : Nat) d, ds[j]? = some (some d) → ∃ v, σ[j]? = some (some v) ∧ RepD K i G v d
structure St (K : Frg) (A : Amb) (G H : Hp) (cs : Cs) (ms : Mu) (σ : L2.St) (ds : De) : Prop where
  gg : Same A.G G
  hh : ∀ a o, a ∉ A.S → A.H a = some o → H a = some o
  out : ∀ a, A.G a = none → A.H a ≠ none → G a = none ∧ H a ≠ none
  own : ∀ a ∈ foot cs, A.H a = none ∨ a ∈ A.S
  k : KnC K G H cs ms
  env : RepE K (io cs) G σ ds
structure Ext (cs : Cs) (G : Hp) (cs' : Cs) (G' : Hp) : Prop where
  pre : io cs <+: io cs'
  same : Same G G'
theorem Ext.refl (cs : Cs) (G : Hp) : Ext cs G cs G := ⟨List.prefix_refl _, Same.refl G⟩
theorem Ext.trans {cs cs1 cs2 : Cs} {G G1 G2 : Hp} (a : Ext cs G cs1 G1) (b : Ext cs1 G1 cs2 G2) : Ext cs G cs2 G2 := ⟨a.pre.trans b.pre, a.same.trans b.same⟩
theorem RepD.ext {K : Frg} {cs cs' : Cs} {G G' : Hp} {v : V} {d : D} (h : RepD K (io cs) G v d) (e : Ext cs G cs' G') : RepD K (io cs') G' v d := h.mono e.pre e.same
theorem RepE.mono {K : Frg} {i j : List Addr} {G G' : Hp} {σ : L2.St} {ds : De} (h : RepE K i G σ ds) (p : i <+: j) (e : Same G G') : RepE K j G' σ ds :=
  ⟨h.1, fun n d q => let ⟨v, h1, h2⟩ := h.2 n d q; ⟨v, h1, h2.mono p e⟩⟩
theorem RepE.set {K : Frg} {i : List Addr} {G : Hp} {σ : L2.St} {ds : De} {v : V} {d : D} (h : RepE K i G σ ds) (n : Nat) (r : RepD K i G v d) : RepE K i G (σ.set n (some v)) (ds.set n (some d)) := by
  refine ⟨by rw [List.length_set, List.length_set]; exact h.1, fun j d' q => ?_⟩
  by_cases hj : n = j
  · subst hj
    by_cases hl : n < ds.length
    · rw [List.getElem?_set_self hl] at q
      cases q
      exact ⟨v, List.getElem?_set_self (by rw [h.1]; exact hl), r⟩
    · rw [List.getElem?_eq_none (by rw [List.length_set]; omega)] at q
      cases q
  · rw [List.getElem?_set_ne hj] at q
    obtain ⟨v', h1, h2⟩ := h.2 j d' q
    exact ⟨v', by rw [List.getElem?_set_ne hj]; exact h1, h2⟩
theorem RepE.unset {K : Frg} {i : List Addr} {G : Hp} {σ : L2.St} {ds : De} {x : Option V} (h : RepE K i G σ ds) (n : Nat) : RepE K i G (σ.set n x) (ds.set n none) := by
  refine ⟨by rw [List.length_set, List.length_set]; exact h.1, fun j d' q => ?_⟩
  by_cases hj : n = j
  · subst hj
    by_cases hl : n < ds.length
    · rw [List.getElem?_set_self hl] at q
      cases q
    · rw [List.getElem?_eq_none (by rw [List.length_set]; omega)] at q
      cases q
  · rw [List.getElem?_set_ne hj] at q
    obtain ⟨v', h1, h2⟩ := h.2 j d' q
    exact ⟨v', by rw [List.getElem?_set_ne hj]; exact h1, h2⟩
def wipeD (ds : De) : List Nat → De
  | [] => ds
  | v :: vs => (wipeD ds vs).set v none
theorem RepE.wipe {K : Frg} {i : List Addr} {G : Hp} {σ : L2.St} {ds : De} (h : RepE K i G σ ds) : ∀ vs : List Nat, RepE K i G (L2.wipe σ vs) (wipeD ds vs)
  | [] => h
  | v :: vs => (RepE.wipe h vs).unset v
theorem St.envs {K : Frg} {A : Amb} {G H : Hp} {cs : Cs} {ms : Mu} {σ σ' : L2.St} {ds ds' : De} (s : St K A G H cs ms σ ds) (e : RepE K (io cs) G σ' ds') : St K A G H cs ms σ' ds' := ⟨s.gg, s.hh, s.out, s.own, s.k, e⟩
theorem io_app (cs cs' : Cs) : io cs <+: io (cs ++ cs') := by
  unfold io
  rw [List.map_append]
  exact List.prefix_append _ _
theorem foot_app (cs cs' : Cs) : foot (cs ++ cs') = foot cs ++ foot cs' := by
  unfold foot
  rw [List.flatMap_append]
theorem foot_mem {cs : Cs} {n : Nat} {p : Addr} {fp : List Addr} (h : cs[n]? = some (p, fp)) {a : Addr} (ha : a ∈ fp) : a ∈ foot cs := List.mem_flatMap.mpr ⟨(p, fp), List.mem_of_getElem? h, ha⟩
section
variable {K : Frg} {A : Amb} {G H : Hp} {cs : Cs} {ms : Mu} {σ : L2.St} {ds : De}
/-- a new object that stays -/
theorem St.pers (s : St K A G H cs ms σ ds) {q : Addr} (h : H q = none) (o : HO) : St K A (upd G q o) (upd H q o) cs ms σ ds ∧ Same G (upd G q o) := by
  have hG : G q = none := s.k.gh.free h
  have sg : Same G (upd G q o) := fun b u e => by rw [upd_ne (ne_of_none e hG)]; exact e
  have hf : ∀ a ∈ foot cs, a ≠ q := fun a ha e => s.k.hs a ha (e ▸ h)
  refine ⟨⟨s.gg.trans sg, fun a u h1 h2 => ?_, fun a h1 h2 => ?_, s.own, ⟨fun b u e => ?_, s.k.len, fun n p fp m h1 h2 => ?_, fun a ha => ?_, fun a ha => ?_, s.k.nd⟩, s.env.mono (List.prefix_refl _) sg⟩, sg⟩
  · have e := s.hh a u h1 h2
    rw [upd_ne (ne_of_none e h)]
    exact e
  · obtain ⟨e1, e2⟩ := s.out a h1 h2
    have ne : a ≠ q := fun e => e2 (e ▸ h)
    rw [upd_ne ne, upd_ne ne]
    exact ⟨e1, e2⟩
  · by_cases hb : b = q
    · subst hb
      rw [upd_same] at e ⊢
      exact e
    · rw [upd_ne hb] at e ⊢
      exact s.k.gh b u e
  · exact (s.k.cell n p fp m h1 h2).mono (List.prefix_refl _) sg fun a ha => upd_ne (hf a (foot_mem h1 ha))
  · rw [upd_ne (hf a ha)]
    exact s.k.gn a ha
  · rw [upd_ne (hf a ha)]
    exact s.k.hs a ha
/-- a new object that is not followed -/
theorem St.hide (s : St K A G H cs ms σ ds) {q : Addr} (h : H q = none) (o : HO) : St K A G (upd H q o) cs ms σ ds := by
  have hG : G q = none := s.k.gh.free h
  have hf : ∀ a ∈ foot cs, a ≠ q := fun a ha e => s.k.hs a ha (e ▸ h)
  refine ⟨s.gg, fun a u h1 h2 => ?_, fun a h1 h2 => ?_, s.own, ⟨fun b u e => ?_, s.k.len, fun n p fp m h1 h2 => ?_, s.k.gn, fun a ha => ?_, s.k.nd⟩, s.env⟩
  · have e := s.hh a u h1 h2
    rw [upd_ne (ne_of_none e h)]
    exact e
  · obtain ⟨e1, e2⟩ := s.out a h1 h2
    have ne : a ≠ q := fun e => e2 (e ▸ h)
    rw [upd_ne ne]
    exact ⟨e1, e2⟩
  · rw [upd_ne (ne_of_none e hG)]
    exact s.k.gh b u e
  · exact (s.k.cell n p fp m h1 h2).mono (List.prefix_refl _) (Same.refl G) fun a ha => upd_ne (hf a (foot_mem h1 ha))
  · rw [upd_ne (hf a ha)]
    exact s.k.hs a ha
/-- an object that is not followed changes -/
theorem St.hid (s : St K A G H cs ms σ ds) {q : Addr} (hA : A.H q = none) (hG : G q = none) (hf : q ∉ foot cs) (o : HO) : St K A G (upd H q o) cs ms σ ds := by
  have hf' : ∀ a ∈ foot cs, a ≠ q := fun a ha e => hf (e ▸ ha)
  refine ⟨s.gg, fun a u h1 h2 => ?_, fun a h1 h2 => ?_, s.own, ⟨fun b u e => ?_, s.k.len, fun n p fp m h1 h2 => ?_, s.k.gn, fun a ha => ?_, s.k.nd⟩, s.env⟩
  · rw [upd_ne (ne_of_none h2 hA)]
    exact s.hh a u h1 h2
  · obtain ⟨e1, e2⟩ := s.out a h1 h2
    have ne : a ≠ q := fun e => h2 (e ▸ hA)
    rw [upd_ne ne]
    exact ⟨e1, e2⟩
  · rw [upd_ne (ne_of_none e hG)]
    exact s.k.gh b u e
  · exact (s.k.cell n p fp m h1 h2).mono (List.prefix_refl _) (Same.refl G) fun a ha => upd_ne (hf' a (foot_mem h1 ha))
  · rw [upd_ne (hf' a ha)]
    exact s.k.hs a ha
/-- it stays from now on -/
theorem St.keep (s : St K A G H cs ms σ ds) {q : Addr} {o : HO} (hA : A.H q = none) (hG : G q = none) (hf : q ∉ foot cs) (hq : H q = some o) : St K A (upd G q o) H cs ms σ ds ∧ Same G (upd G q o) := by
  have hf' : ∀ a ∈ foot cs, a ≠ q := fun a ha e => hf (e ▸ ha)
  have sg : Same G (upd G q o) := fun b u e => by rw [upd_ne (ne_of_none e hG)]; exact e
  refine ⟨⟨s.gg.trans sg, s.hh, fun a h1 h2 => ?_, s.own, ⟨fun b u e => ?_, s.k.len, fun n p fp m h1 h2 => ?_, fun a ha => ?_, s.k.hs, s.k.nd⟩, s.env.mono (List.prefix_refl _) sg⟩, sg⟩
  · obtain ⟨e1, e2⟩ := s.out a h1 h2
    have ne : a ≠ q := fun e => h2 (e ▸ hA)
    rw [upd_ne ne]
    exact ⟨e1, e2⟩
  · by_cases hb : b = q
    · subst hb
      rw [upd_same] at e
      rw [← e]
      exact hq
    · rw [upd_ne hb] at e
      exact s.k.gh b u e
  · exact (s.k.cell n p fp m h1 h2).mono (List.prefix_refl _) sg fun a ha => rfl
  · rw [upd_ne (hf' a ha)]
    exact s.k.gn a ha
/-- a new cell -/
theorem St.cell (s : St K A G H cs ms σ ds) {q : Addr} (h : H q = none) (o : HO) {m : M} (hm : MAt K (io (cs ++ [(q, [q])])) G (upd H q o) q [q] m) : St K A G (upd H q o) (cs ++ [(q, [q])]) (ms ++ [m]) σ ds := by
  have hf : ∀ a ∈ foot cs, a ≠ q := fun a ha e => s.k.hs a ha (e ▸ h)
  have hG : G q = none := s.k.gh.free h
  have hAq : A.H q = none ∨ q ∈ A.S := by
    by_cases e : q ∈ A.S
    · exact .inr e
    · left
      cases z : A.H q with
      | none => rfl
      | some u =>
        have := s.hh q u e z
        rw [h] at this
        cases this
  have s1 := s.hide h o
  have fe : foot (cs ++ [(q, [q])]) = foot cs ++ [q] := by
    rw [foot_app]
    rfl
  refine ⟨s1.gg, s1.hh, s1.out, fun a ha => ?_, ⟨s1.k.gh, by rw [List.length_append, List.length_append, s.k.len]; rfl, fun n p fp m' h1 h2 => ?_, fun a ha => ?_, fun a ha => ?_, ?_⟩, s1.env.mono (io_app _ _) (Same.refl G)⟩
  · rw [fe] at ha
    rcases List.mem_append.mp ha with z | z
    · exact s.own a z
    · have : a = q := by simpa using z
      subst this
      exact hAq
  · by_cases hn : n < cs.length
    · rw [List.getElem?_append_left hn] at h1
      rw [List.getElem?_append_left (by rw [← s.k.len]; exact hn)] at h2
      exact (s1.k.cell n p fp m' h1 h2).mono (io_app _ _) (Same.refl G) fun a _ => rfl
    · have hn' : n = cs.length := by
        have := (List.getElem?_eq_some_iff.mp h1).1
        rw [List.length_append] at this
        simp at this
        omega
      subst hn'
      rw [List.getElem?_append_right (Nat.le_refl _)] at h1
      rw [List.getElem?_append_right (by rw [s.k.len]; exact Nat.le_refl _)] at h2
      simp at h1
      simp [s.k.len] at h2
      obtain ⟨rfl, rfl⟩ := h1
      subst h2
      exact hm
  · rw [fe] at ha
    rcases List.mem_append.mp ha with z | z
    · exact s.k.gn a z
    · have : a = q := by simpa using z
      subst this
      exact hG
  · rw [fe] at ha
    rcases List.mem_append.mp ha with z | z
    · exact s1.k.hs a z
    · have : a = q := by simpa using z
      subst this
      rw [upd_same]
      exact fun e => nomatch e
  · rw [fe]
    refine List.nodup_append.mpr ⟨s.k.nd, by simp, fun a ha b hb e => ?_⟩
    have : b = q := by simpa using hb
    exact hf a ha (e.trans this)
theorem getElem?_flatMap_ne {cs : Cs} : ∀ {n m : Nat} {p p' : Addr} {fp fp' : List Addr}, (foot cs).Nodup → cs[n]? = some (p, fp) → cs[m]? = some (p', fp') → n ≠ m → ∀ a ∈ fp, a ∉ fp' := by
  induction cs with
  | nil => intro n m p p' fp fp' _ h; simp at h
  | cons c r ih =>
    intro n m p p' fp fp' nd h1 h2 ne a ha hb
    have nd' : (c.2 ++ foot r).Nodup := nd
    obtain ⟨n1, n2, n3⟩ := List.nodup_append.mp nd'
    cases n with
    | zero =>
      cases m with
      | zero => exact ne rfl
      | succ m =>
        simp at h1 h2
        subst h1
        exact n3 a ha a (foot_mem h2 hb) rfl
    | succ n =>
      cases m with
      | zero =>
        simp at h1 h2
        subst h2
        exact n3 a hb a (foot_mem h1 ha) rfl
      | succ m =>
        simp at h1 h2
        exact ih n2 h1 h2 (fun e => ne (congrArg _ e)) a ha hb
/-- a cell of one object is written -/
theorem St.write (s : St K A G H cs ms σ ds) {n : Nat} {p : Addr} (hc : cs[n]? = some (p, [p])) (o : HO) {m : M} (hm : MAt K (io cs) G (upd H p o) p [p] m) : St K A G (upd H p o) cs (ms.set n m) σ ds := by
  have hpf : p ∈ foot cs := foot_mem hc (by simp)
  have hG : G p = none := s.k.gn p hpf
  refine ⟨s.gg, fun a u h1 h2 => ?_, fun a h1 h2 => ?_, s.own, ⟨fun b u e => ?_, by rw [List.length_set]; exact s.k.len, fun n' p' fp m' h1 h2 => ?_, s.k.gn, fun a ha => ?_, s.k.nd⟩, s.env⟩
  · have ne : a ≠ p := fun e => by
      subst e
      rcases s.own a hpf with z | z
      · rw [z] at h2; cases h2
      · exact h1 z
    rw [upd_ne ne]
    exact s.hh a u h1 h2
  · obtain ⟨e1, e2⟩ := s.out a h1 h2
    refine ⟨e1, ?_⟩
    by_cases ne : a = p
    · subst ne; rw [upd_same]; exact fun e => nomatch e
    · rw [upd_ne ne]; exact e2
  · rw [upd_ne (ne_of_none e hG)]
    exact s.k.gh b u e
  · by_cases hn : n = n'
    · subst hn
      rw [hc] at h1
      cases h1
      have hl : n < ms.length := by rw [← s.k.len]; exact (List.getElem?_eq_some_iff.mp hc).1
      rw [List.getElem?_set_self hl] at h2
      cases h2
      exact hm
    · rw [List.getElem?_set_ne hn] at h2
      refine (s.k.cell n' p' fp m' h1 h2).mono (List.prefix_refl _) (Same.refl G) fun a ha => upd_ne fun e => ?_
      subst e
      exact getElem?_flatMap_ne s.k.nd hc h1 hn a (by simp) ha
  · by_cases ne : a = p
    · subst ne; rw [upd_same]; exact fun e => nomatch e
    · rw [upd_ne ne]; exact s.k.hs a ha
/-- from here on -/
def now (cs : Cs) (G H : Hp) : Amb := ⟨foot cs, G, H⟩
theorem St.here (s : St K A G H cs ms σ ds) : St K (now cs G H) G H cs ms σ ds := ⟨Same.refl G, fun _ _ _ h => h, fun _ h1 h2 => ⟨h1, h2⟩, fun _ h => .inr h, s.k, s.env⟩
theorem St.then_ {G' H' : Hp} {cs' : Cs} {ms' : Mu} {σ' : L2.St} {ds' : De} (s : St K A G H cs ms σ ds) (t : St K (now cs G H) G' H' cs' ms' σ' ds') : St K A G' H' cs' ms' σ' ds' := by
  refine ⟨s.gg.trans t.gg, fun a u h1 h2 => ?_, fun a h1 h2 => ?_, fun a ha => ?_, t.k, t.env⟩
  · have e := s.hh a u h1 h2
    refine t.hh a u (fun z => ?_) e
    rcases s.own a z with q | q
    · rw [q] at h2; cases h2
    · exact h1 q
  · obtain ⟨e1, e2⟩ := s.out a h1 h2
    exact t.out a e1 e2
  · rcases t.own a ha with z | z
    · have z' : H a = none := z
      by_cases q : a ∈ A.S
      · exact .inr q
      · left
        cases e : A.H a with
        | none => rfl
        | some u =>
          have := s.hh a u q e
          rw [z'] at this; cases this
    · exact s.own a z
end
end DL

set_option Elab.async false
set_option linter.all false
set_option maxRecDepth 100000
set_option maxHeartbeats 4000000
namespace DL
open PySem L2
abbrev XP := Addr → List (Str × PD) → Mu → Prop
abbrev PDn := D → Mu → Prop
abbrev WE := De → Mu → PDn → XP → Prop
abbrev WT := De → Mu → (Bool → Mu → Prop) → XP → Prop
abbrev WA := De → Mu → (List D → Mu → Prop) → XP → Prop
structure En where
  nx : De → Mu → Prop
  rt : D → Mu → Prop
  bk : De → Mu → Prop := fun _ _ => False
  ct : De → Mu → Prop := fun _ _ => False
  ex : Addr → List (Str × PD) → De → Mu → Prop := fun _ _ _ _ => False
abbrev WS := En → De → Mu → Prop
abbrev WG := D → De → Mu → (De → Mu → Prop) → Prop
abbrev WGs := List D → De → Mu → (De → Mu → Prop) → Prop
abbrev WI := De → Mu → (List PD → (Mu → Prop) → Mu → Prop) → XP → Prop
def ExAt (K : Frg) (G H : Hp) (dd : Option Addr) (fs : List (Str × PD)) : Prop := (dd = none ∧ fs = []) ∨ ∃ d fvs, dd = some d ∧ H d = some (.xd fvs) ∧ RepF K G fvs fs
/-! ### what follows -/
def CoE (K : Frg) (A : Amb) (cs : Cs) (G : Hp) (σ : L2.St) (ds : De) (P : PDn) (Q : VK) : Prop := ∀ v d G' H' cs' ms', St K A G' H' cs' ms' σ ds → Ext cs G cs' G' → RepD K (io cs') G' v d → P d ms' → Q v H'
def CoT (K : Frg) (A : Amb) (cs : Cs) (G : Hp) (σ : L2.St) (ds : De) (P : Bool → Mu → Prop) (Q : Bool → Hp → Prop) : Prop := ∀ b G' H' cs' ms', St K A G' H' cs' ms' σ ds → Ext cs G cs' G' → P b ms' → Q b H'
def RepDs (K : Frg) (i : List Addr) (G : Hp) : List V → List D → Prop := Paired (RepD K i G)
def CoA (K : Frg) (A : Amb) (cs : Cs) (G : Hp) (σ : L2.St) (ds : De) (P : List D → Mu → Prop) (Q : List V → Hp → Prop) : Prop := ∀ vs xs G' H' cs' ms', St K A G' H' cs' ms' σ ds → Ext cs G cs' G' → RepDs K (io cs') G' vs xs → P xs ms' → Q vs H'
def CoX (K : Frg) (Wx : WX) (A : Amb) (cs : Cs) (G : Hp) (σ : L2.St) (ds : De) (P : XP) : Prop := ∀ C fs dd G' H' cs' ms', St K A G' H' cs' ms' σ ds → Ext cs G cs' G' → ExAt K G' H' dd fs → P C fs ms' → Wx (.ref C) dd σ H'
def CoN (K : Frg) (A : Amb) (cs : Cs) (G : Hp) (N : De → Mu → Prop) (M : L2.St → Hp → Prop) : Prop := ∀ σ' ds' G' H' cs' ms', St K A G' H' cs' ms' σ' ds' → Ext cs G cs' G' → N ds' ms' → M σ' H'
def CoR (K : Frg) (A : Amb) (cs : Cs) (G : Hp) (R : PDn) (Q : VK) : Prop := ∀ v d σ' ds' G' H' cs' ms', St K A G' H' cs' ms' σ' ds' → Ext cs G cs' G' → RepD K (io cs') G' v d → R d ms' → Q v H'
def CoY (K : Frg) (Wx : WX) (A : Amb) (cs : Cs) (G : Hp) (P : Addr → List (Str × PD) → De → Mu → Prop) : Prop := ∀ C fs dd σ' ds' G' H' cs' ms', St K A G' H' cs' ms' σ' ds' → Ext cs G cs' G' → ExAt K G' H' dd fs → P C fs ds' ms' → Wx (.ref C) dd σ' H'
section
variable {K : Frg} {Wx : WX} {A : Amb} {cs cs1 : Cs} {G G1 : Hp} {σ : L2.St} {ds : De}
theorem CoE.ext {P : PDn} {Q : VK} (h : CoE K A cs G σ ds P Q) (e : Ext cs G cs1 G1) : CoE K A cs1 G1 σ ds P Q := fun v d G' H' cs' ms' s e' => h v d G' H' cs' ms' s (e.trans e')
theorem CoX.ext {P : XP} (h : CoX K Wx A cs G σ ds P) (e : Ext cs G cs1 G1) : CoX K Wx A cs1 G1 σ ds P := fun C fs dd G' H' cs' ms' s e' => h C fs dd G' H' cs' ms' s (e.trans e')
theorem CoT.ext {P : Bool → Mu → Prop} {Q : Bool → Hp → Prop} (h : CoT K A cs G σ ds P Q) (e : Ext cs G cs1 G1) : CoT K A cs1 G1 σ ds P Q := fun b G' H' cs' ms' s e' => h b G' H' cs' ms' s (e.trans e')
theorem CoA.ext {P : List D → Mu → Prop} {Q : List V → Hp → Prop} (h : CoA K A cs G σ ds P Q) (e : Ext cs G cs1 G1) : CoA K A cs1 G1 σ ds P Q := fun b x G' H' cs' ms' s e' => h b x G' H' cs' ms' s (e.trans e')
theorem CoN.ext {N : De → Mu → Prop} {M : L2.St → Hp → Prop} (h : CoN K A cs G N M) (e : Ext cs G cs1 G1) : CoN K A cs1 G1 N M := fun σ' ds' G' H' cs' ms' s e' => h σ' ds' G' H' cs' ms' s (e.trans e')
theorem CoR.ext {R : PDn} {Q : VK} (h : CoR K A cs G R Q) (e : Ext cs G cs1 G1) : CoR K A cs1 G1 R Q := fun v d σ' ds' G' H' cs' ms' s e' => h v d σ' ds' G' H' cs' ms' s (e.trans e')
theorem CoY.ext {P : Addr → List (Str × PD) → De → Mu → Prop} (h : CoY K Wx A cs G P) (e : Ext cs G cs1 G1) : CoY K Wx A cs1 G1 P := fun C fs dd σ' ds' G' H' cs' ms' s e' => h C fs dd σ' ds' G' H' cs' ms' s (e.trans e')
theorem CoY.at_ {P : Addr → List (Str × PD) → De → Mu → Prop} (h : CoY K Wx A cs G P) : CoX K Wx A cs G σ ds (fun C fs m => P C fs ds m) := fun C fs dd G' H' cs' ms' s e => h C fs dd σ ds G' H' cs' ms' s e
end
/-- the answer stays as it is, the state too -/
theorem CoE.ret {K : Frg} {A : Amb} {cs : Cs} {G H : Hp} {ms : Mu} {σ : L2.St} {ds : De} {P : PDn} {Q : VK} {v : V} {x : PD} (q : CoE K A cs G σ ds P Q) (s : St K A G H cs ms σ ds) (r : Rep K G v x) (h : P (.p x) ms) : Q v H := q v (.p x) G H cs ms s (Ext.refl _ _) r h
def noX : XP := fun _ _ _ => False
theorem CoX.no {K : Frg} {Wx : WX} {A : Amb} {cs : Cs} {G : Hp} {σ : L2.St} {ds : De} : CoX K Wx A cs G σ ds noX := fun _ _ _ _ _ _ _ _ _ _ h => h.elim
/-! ### the widest readings -/
def canE (K : Frg) (Wx : WX) (w : WE) : TE := fun σ H Q => ∃ A G cs ms ds P Xp, St K A G H cs ms σ ds ∧ w ds ms P Xp ∧ CoE K A cs G σ ds P Q ∧ CoX K Wx A cs G σ ds Xp
def canT (K : Frg) (Wx : WX) (w : WT) : TT := fun σ H Q => ∃ A G cs ms ds P Xp, St K A G H cs ms σ ds ∧ w ds ms P Xp ∧ CoT K A cs G σ ds P Q ∧ CoX K Wx A cs G σ ds Xp
def canA (K : Frg) (Wx : WX) (w : WA) : TA := fun σ H Q => ∃ A G cs ms ds P Xp, St K A G H cs ms σ ds ∧ w ds ms P Xp ∧ CoA K A cs G σ ds P Q ∧ CoX K Wx A cs G σ ds Xp
def canS (K : Frg) (Wx : WX) (w : WS) : TS := fun D σ H => ∃ A G cs ms ds E, St K A G H cs ms σ ds ∧ w E ds ms ∧ CoN K A cs G E.nx D.nx ∧ CoR K A cs G E.rt D.rt ∧ CoN K A cs G E.bk D.bk ∧ CoN K A cs G E.ct D.ct ∧ CoY K Wx A cs G E.ex
def canG (K : Frg) (vs : List Nat) (w : WG) : TG := fun v σ H Q => ∃ A G cs ms ds d N, St K A G H cs ms σ ds ∧ RepD K (io cs) G v d ∧ w d ds ms N ∧
  ∀ σ' ds' G' H' cs' ms', St K A G' H' cs' ms' σ' ds' → Ext cs G cs' G' → L2.wipe σ' vs = L2.wipe σ vs → N ds' ms' → Q σ' H'
def canGs (K : Frg) (vs : List Nat) (w : WGs) : TGs := fun us σ H Q => ∃ A G cs ms ds xs N, St K A G H cs ms σ ds ∧ RepDs K (io cs) G us xs ∧ w xs ds ms N ∧
  ∀ σ' ds' G' H' cs' ms', St K A G' H' cs' ms' σ' ds' → Ext cs G cs' G' → L2.wipe σ' vs = L2.wipe σ vs → N ds' ms' → Q σ' H'
structure ItOk (K : Frg) (cs1 : Cs) (G1 : Hp) (J : It) (xs : List PD) (stab : Mu → Prop) : Prop where
  goes : ∀ (A : Amb) (i : Nat) G H cs ms σ ds, i < xs.length → St K A G H cs ms σ ds → Ext cs1 G1 cs G → stab ms → J.go i H
  stops : ∀ (A : Amb) G H cs ms σ ds, St K A G H cs ms σ ds → Ext cs1 G1 cs G → stab ms → J.stop xs.length H
  yields : ∀ (A : Amb) (i : Nat) G H cs ms σ ds x H', i < xs.length → St K A G H cs ms σ ds → Ext cs1 G1 cs G → stab ms → J.yld i H x H' → ∃ G' d, xs[i]? = some d ∧ St K A G' H' cs ms σ ds ∧ Same G G' ∧ Rep K G' x d
def canI (K : Frg) (Wx : WX) (w : WI) : TI := fun σ H R => ∃ A G cs ms ds P Xp, St K A G H cs ms σ ds ∧ w ds ms P Xp ∧
  (∀ J xs stab G' H' cs' ms', St K A G' H' cs' ms' σ ds → Ext cs G cs' G' → ItOk K cs' G' J xs stab → P xs stab ms' → R J H') ∧ CoX K Wx A cs G σ ds Xp
/-! ### judgements -/
abbrev DE (X : Cx) (Wx : WX) (e : Expr) (w : WE) : Prop := PE X e (canE X.K Wx w)
abbrev DT (X : Cx) (Wx : WX) (e : Expr) (w : WT) : Prop := PT X e (canT X.K Wx w)
abbrev DW (X : Cx) (Wx : WX) (e : Expr) (w : WT) : Prop := PW X e (canT X.K Wx w)
abbrev DA (X : Cx) (Wx : WX) (es : List Expr) (w : WA) : Prop := PA X es (canA X.K Wx w)
abbrev DS (X : Cx) (Wx : WX) (s : Stmt) (w : WS) : Prop := PS X s (canS X.K Wx w)
abbrev DSs (X : Cx) (Wx : WX) (s : List Stmt) (w : WS) : Prop := PSs X s (canS X.K Wx w)
theorem PE.imp {X : Cx} {e : Expr} {t t' : TE} (h : PE X e t) (i : ∀ σ H Q, t' σ H Q → t σ H Q) : PE X e t' := ⟨fun pins s σ H Q I w => h.run pins s σ H Q I (i σ H Q w)⟩
theorem PT.imp {X : Cx} {e : Expr} {t t' : TT} (h : PT X e t) (i : ∀ σ H Q, t' σ H Q → t σ H Q) : PT X e t' := ⟨fun pins s σ H Q I w => h.run pins s σ H Q I (i σ H Q w)⟩
theorem PW.imp {X : Cx} {e : Expr} {t t' : TT} (h : PW X e t) (i : ∀ σ H Q, t' σ H Q → t σ H Q) : PW X e t' := ⟨fun wh pins s σ H Q I w => h.run wh pins s σ H Q I (i σ H Q w)⟩
theorem PA.imp {X : Cx} {e : List Expr} {t t' : TA} (h : PA X e t) (i : ∀ σ H Q, t' σ H Q → t σ H Q) : PA X e t' := ⟨fun pos pins s σ H Q I w => h.run pos pins s σ H Q I (i σ H Q w)⟩
theorem PS.imp {X : Cx} {e : Stmt} {t t' : TS} (h : PS X e t) (i : ∀ D σ H, t' D σ H → t D σ H) : PS X e t' := ⟨fun pins s σ H D I w => h.run pins s σ H D I (i D σ H w)⟩
theorem PSs.imp {X : Cx} {e : List Stmt} {t t' : TS} (h : PSs X e t) (i : ∀ D σ H, t' D σ H → t D σ H) : PSs X e t' := ⟨fun pins s σ H D I w => h.run pins s σ H D I (i D σ H w)⟩
theorem PG.imp {X : Cx} {e : Expr} {t t' : TG} (h : PG X e t) (i : ∀ v σ H Q, t' v σ H Q → t v σ H Q) : PG X e t' := ⟨fun pins s σ H v u Q I r w => h.run pins s σ H v u Q I r (i v σ H Q w)⟩
theorem PGs.imp {X : Cx} {e : List Expr} {t t' : TGs} (h : PGs X e t) (i : ∀ v σ H Q, t' v σ H Q → t v σ H Q) : PGs X e t' := ⟨fun pins s σ H v u Q I r w => h.run pins s σ H v u Q I r (i v σ H Q w)⟩
theorem PI.imp {X : Cx} {tg e : Expr} {t t' : TI} (h : PI X tg e t) (i : ∀ σ H R, t' σ H R → t σ H R) : PI X tg e t' := ⟨fun pins s σ H R I w => h.run pins s σ H R I (i σ H R w)⟩
section
variable {X : Cx} {K : Frg} {Wx : WX} {σ : L2.St} {H : Hp}
/-! ### names, constants -/
def dAt (ds : De) (i : Nat) : Option D := (ds[i]?).getD none
theorem dAt_some {ds : De} {i : Nat} {d : D} (h : dAt ds i = some d) : ds[i]? = some (some d) := by
  unfold dAt at h
  cases e : ds[i]? with
  | none => rw [e] at h; cases h
  | some x =>
    rw [e] at h
    have : x = some d := h
    rw [this]
def wVar (i : Nat) : WE := fun ds ms P _ => match dAt ds i with | some d => P d ms | none => False
theorem s_var {i : Nat} {Q : VK} (h : canE K Wx (wVar i) σ H Q) : tVar i σ H Q := by
  obtain ⟨A, G, cs, ms, ds, P, Xp, s, h, q, _⟩ := h
  unfold wVar at h
  split at h
  · rename_i d e
    obtain ⟨v, h1, h2⟩ := s.env.2 i d (dAt_some e)
    exact ⟨v, h1, q v d G H cs ms s (Ext.refl _ _) h2 h⟩
  · exact h.elim
theorem dv (i : Nat) {x : Str} {pos : Pos} (hN : X.N[i]? = some x := by rfl) (hv : Vis X.env.scope x := by first | exact Or.inl rfl | exact Or.inr (Or.inl rfl) | exact Or.inr (Or.inr rfl)) (hd : (x == ("__debug__" : Str)) = false := by decide)
    (hcd : (x == ("__classdict__" : Str)) = false := by decide) : DE X Wx (.Name x pos) (wVar i) := PE.imp (pe_var hN hv hd hcd) fun _ _ _ => s_var
def wC (x : PD) : WE := fun _ ms P _ => P (.p x) ms
theorem s_c {v : V} {x : PD} (r : ∀ G, Rep K G v x) {Q : VK} (h : canE K Wx (wC x) σ H Q) : tC v σ H Q := by
  obtain ⟨A, G, cs, ms, ds, P, Xp, s, h, q, _⟩ := h
  exact q.ret s (r G) h
theorem de_int {i : Int} {j : Nat} {pos : Pos} : DE X Wx (.Constant (.int i) j pos) (wC (.int i)) := PE.imp pe_int fun _ _ _ => s_c fun _ => .int i
theorem de_bl {b : Bool} {j : Nat} {pos : Pos} : DE X Wx (.Constant (.bool b) j pos) (wC (.bl b)) := PE.imp pe_bl fun _ _ _ => s_c fun _ => .bl b
theorem de_non {j : Nat} {pos : Pos} : DE X Wx (.Constant .none j pos) (wC .non) := PE.imp pe_non fun _ _ _ => s_c fun _ => .non
theorem de_str {x : Str} {j : Nat} {pos : Pos} : DE X Wx (.Constant (.str x) j pos) (wC (.str x)) := PE.imp pe_str fun _ _ _ => s_c fun _ => .str x
/-- a number or a text of the module -/
theorem de_globI {x : Str} {i : Int} {t : Tok} {pos : Pos} (hg : Gl X x) (hm : X.mg x = some (.int i t)) (hd : (x == ("__debug__" : Str)) = false := by decide) : DE X Wx (.Name x pos) (wC (.int i)) := PE.imp (pe_glob (v := .int i) hg hm ⟨t, rfl⟩ hd) fun _ _ _ => s_c fun _ => .int i
theorem de_globS {x y : Str} {t : Tok} {pos : Pos} (hg : Gl X x) (hm : X.mg x = some (.str y t)) (hd : (x == ("__debug__" : Str)) = false := by decide) : DE X Wx (.Name x pos) (wC (.str y)) := PE.imp (pe_glob (v := .str y) hg hm ⟨t, rfl⟩ hd) fun _ _ _ => s_c fun _ => .str y
/-! ### operators -/
abbrev F2 := D → D → Mu → PDn → Prop
abbrev F1 := D → Mu → PDn → Prop
abbrev FA := List D → Mu → PDn → Prop
def SOp (K : Frg) (r : R2) (f : F2) : Prop := ∀ {A G H cs ms σ ds x y dx dy} {P : PDn} {Q : VK}, St K A G H cs ms σ ds → RepD K (io cs) G x dx → RepD K (io cs) G y dy → f dx dy ms P → CoE K A cs G σ ds P Q → r x y H Q
def SUn (K : Frg) (r : V → Hp → VK → Prop) (f : F1) : Prop := ∀ {A G H cs ms σ ds x dx} {P : PDn} {Q : VK}, St K A G H cs ms σ ds → RepD K (io cs) G x dx → f dx ms P → CoE K A cs G σ ds P Q → r x H Q
def SCl (K : Frg) (r : List V → Hp → VK → Prop) (f : FA) : Prop := ∀ {A G H cs ms σ ds xs dx} {P : PDn} {Q : VK}, St K A G H cs ms σ ds → RepDs K (io cs) G xs dx → f dx ms P → CoE K A cs G σ ds P Q → r xs H Q
theorem SOp.or {r r' : R2} {f f' : F2} (a : SOp K r f) (b : SOp K r' f') : SOp K (fun x y H Q => r x y H Q ∨ r' x y H Q) (fun x y m P => f x y m P ∨ f' x y m P) := fun s h1 h2 h q => h.elim (fun z => .inl (a s h1 h2 z q)) fun z => .inr (b s h1 h2 z q)
theorem SOp.imp {r : R2} {f f' : F2} (a : SOp K r f) (i : ∀ x y m P, f' x y m P → f x y m P) : SOp K r f' := fun s h1 h2 h q => a s h1 h2 (i _ _ _ _ h) q
theorem SCl.imp {r : List V → Hp → VK → Prop} {f f' : FA} (a : SCl K r f) (i : ∀ x m P, f' x m P → f x m P) : SCl K r f' := fun s h1 h q => a s h1 (i _ _ _ h) q
theorem SCl.or {r r' : List V → Hp → VK → Prop} {f f' : FA} (a : SCl K r f) (b : SCl K r' f') : SCl K (fun x H Q => r x H Q ∨ r' x H Q) (fun x m P => f x m P ∨ f' x m P) := fun s h1 h q => h.elim (fun z => .inl (a s h1 z q)) fun z => .inr (b s h1 z q)
theorem CallR.or {X : Cx} {f : Value} {r r' : List V → Hp → VK → Prop} (h : CallR X f r) (h' : CallR X f r') : CallR X f (fun x H Q => r x H Q ∨ r' x H Q) := fun pins s σ H xs us Q I rv q => q.elim (fun z => h pins s σ H xs us Q I rv z) fun z => h' pins s σ H xs us Q I rv z
def wBin (f : F2) (wa wb : WE) : WE := fun ds ms P Xp => wa ds ms (fun x m1 => wb ds m1 (fun y m2 => f x y m2 P) Xp) Xp
def wUn (f : F1) (wa : WE) : WE := fun ds ms P Xp => wa ds ms (fun x m1 => f x m1 P) Xp
theorem s_bin {r : R2} {f : F2} (so : SOp K r f) {wa wb : WE} {Q : VK} (h : canE K Wx (wBin f wa wb) σ H Q) : tOp r (canE K Wx wa) (canE K Wx wb) σ H Q := by
  obtain ⟨A, G, cs, ms, ds, P, Xp, s, h, q, x⟩ := h
  refine ⟨A, G, cs, ms, ds, _, Xp, s, h, fun v d G1 H1 cs1 ms1 s1 e1 r1 h1 => ?_, x⟩
  refine ⟨A, G1, cs1, ms1, ds, _, Xp, s1, h1, fun u d2 G2 H2 cs2 ms2 s2 e2 r2 h2 => ?_, x.ext e1⟩
  exact so s2 (r1.ext e2) r2 h2 ((q.ext e1).ext e2)
theorem s_un {r : V → Hp → VK → Prop} {f : F1} (so : SUn K r f) {wa : WE} {Q : VK} (h : canE K Wx (wUn f wa) σ H Q) : tUn r (canE K Wx wa) σ H Q := by
  obtain ⟨A, G, cs, ms, ds, P, Xp, s, h, q, x⟩ := h
  exact ⟨A, G, cs, ms, ds, _, Xp, s, h, fun v d G1 H1 cs1 ms1 s1 e1 r1 h1 => so s1 r1 h1 (q.ext e1), x⟩
variable {a b : Expr} {wa wb : WE} {pos : Pos}
theorem de_op {op : Operator} {r : R2} {f : F2} (ho : OpR X (binaryOp op) r) (so : SOp X.K r f) (ha : DE X Wx a wa) (hb : DE X Wx b wb) : DE X Wx (.BinOp a op b pos) (wBin f wa wb) := PE.imp (pe_op ho ha hb) fun _ _ _ => s_bin so
theorem de_un {op : UnaryOp} {r : V → Hp → VK → Prop} {f : F1} (ho : UnR X (unaryOp op) r) (so : SUn X.K r f) (ha : DE X Wx a wa) : DE X Wx (.UnaryOp op a pos) (wUn f wa) := PE.imp (pe_un ho ha) fun _ _ _ => s_un so
theorem de_cmp {op : CmpOp} {r : R2} {f : F2} (ho : OpR X (compareOp op) r) (so : SOp X.K r f) (ha : DE X Wx a wa) (hb : DE X Wx b wb) (hm : behindInMarks op b = false) : DE X Wx (.Compare a [op] [b] pos) (wBin f wa wb) := PE.imp (pe_cmpR ho ha hb hm) fun _ _ _ => s_bin so
/-! ints -/
theorem SOp.I0 {g : Int → Int → V} {g' : Int → Int → PD} (r : ∀ G i j, Rep K G (g i j) (g' i j)) : SOp K (rI0 g) (fun x y m P => match x, y with | .p (.int i), .p (.int j) => P (.p (g' i j)) m | _, _ => False) := by
  intro A G H cs ms σ ds x y dx dy P Q s h1 h2 h q
  split at h
  · rename_i i j
    have z1 : Rep K G x (.int i) := h1
    have z2 : Rep K G y (.int j) := h2
    cases z1
    cases z2
    exact ⟨i, j, rfl, rfl, q.ret s (r G i j) h⟩
  · exact h.elim
theorem SOp.I {C : Int → Int → Prop} {g : Int → Int → V} {g' : Int → Int → PD} (r : ∀ G i j, Rep K G (g i j) (g' i j)) : SOp K (rI C g) (fun x y m P => match x, y with | .p (.int i), .p (.int j) => C i j ∧ P (.p (g' i j)) m | _, _ => False) := by
  intro A G H cs ms σ ds x y dx dy P Q s h1 h2 h q
  split at h
  · rename_i i j
    have z1 : Rep K G x (.int i) := h1
    have z2 : Rep K G y (.int j) := h2
    cases z1
    cases z2
    exact ⟨i, j, rfl, rfl, h.1, q.ret s (r G i j) h.2⟩
  · exact h.elim
def fSub : F2 := fun x y m P => match x, y with | .p (.int i), .p (.int j) => P (.p (.int (i - j))) m | _, _ => False
def fDiv : F2 := fun x y m P => match x, y with | .p (.int i), .p (.int j) => CDiv i j ∧ P (.p (.int (i / j))) m | _, _ => False
def fMod : F2 := fun x y m P => match x, y with | .p (.int i), .p (.int j) => 0 < j ∧ P (.p (.int (i % j))) m | _, _ => False
def fPow : F2 := fun x y m P => match x, y with | .p (.int i), .p (.int j) => CPow i j ∧ P (.p (.int (i ^ j.toNat))) m | _, _ => False
def fLt : F2 := fun x y m P => match x, y with | .p (.int i), .p (.int j) => P (.p (.bl (decide (i < j)))) m | _, _ => False
def fLe : F2 := fun x y m P => match x, y with | .p (.int i), .p (.int j) => P (.p (.bl (decide (i ≤ j)))) m | _, _ => False
def fGt : F2 := fun x y m P => match x, y with | .p (.int i), .p (.int j) => P (.p (.bl (decide (j < i)))) m | _, _ => False
def fGe : F2 := fun x y m P => match x, y with | .p (.int i), .p (.int j) => P (.p (.bl (decide (j ≤ i)))) m | _, _ => False
def fNeg : F1 := fun x m P => match x with | .p (.int i) => P (.p (.int (-i))) m | _ => False
theorem so_sub : SOp K (rI0 fun i j => .int (i - j)) fSub := SOp.I0 fun _ _ _ => .int _
theorem so_div : SOp K (rI CDiv fun i j => .int (i / j)) fDiv := SOp.I fun _ _ _ => .int _
theorem so_mod : SOp K (rI (fun _ j => 0 < j) fun i j => .int (i % j)) fMod := SOp.I fun _ _ _ => .int _
theorem so_pow : SOp K (rI CPow fun i j => .int (i ^ j.toNat)) fPow := SOp.I fun _ _ _ => .int _
theorem so_lt : SOp K (rI0 fun i j => .bl (decide (i < j))) fLt := SOp.I0 fun _ _ _ => .bl _
theorem so_le : SOp K (rI0 fun i j => .bl (decide (i ≤ j))) fLe := SOp.I0 fun _ _ _ => .bl _
theorem so_gt : SOp K (rI0 fun i j => .bl (decide (j < i))) fGt := SOp.I0 fun _ _ _ => .bl _
theorem so_ge : SOp K (rI0 fun i j => .bl (decide (j ≤ i))) fGe := SOp.I0 fun _ _ _ => .bl _
theorem so_neg : SUn K (rU fun i => .int (-i)) fNeg := by
  intro A G H cs ms σ ds x dx P Q s h1 h q
  unfold fNeg at h
  split at h
  · rename_i i
    have z1 : Rep K G x (.int i) := h1
    cases z1
    exact ⟨i, rfl, q.ret s (.int _) h⟩
  · exact h.elim
theorem de_sub (ha : DE X Wx a wa) (hb : DE X Wx b wb) : DE X Wx (.BinOp a .Sub b pos) (wBin fSub wa wb) := de_op op_sub so_sub ha hb
theorem de_div (ha : DE X Wx a wa) (hb : DE X Wx b wb) : DE X Wx (.BinOp a .FloorDiv b pos) (wBin fDiv wa wb) := de_op op_fdiv so_div ha hb
theorem de_mod (ha : DE X Wx a wa) (hb : DE X Wx b wb) : DE X Wx (.BinOp a .Mod b pos) (wBin fMod wa wb) := de_op op_mod so_mod ha hb
theorem de_pow (ha : DE X Wx a wa) (hb : DE X Wx b wb) : DE X Wx (.BinOp a .Pow b pos) (wBin fPow wa wb) := de_op op_pow so_pow ha hb
theorem de_neg (ha : DE X Wx a wa) : DE X Wx (.UnaryOp .USub a pos) (wUn fNeg wa) := de_un un_neg so_neg ha
theorem de_lt (ha : DE X Wx a wa) (hb : DE X Wx b wb) : DE X Wx (.Compare a [.Lt] [b] pos) (wBin fLt wa wb) := de_cmp op_lt so_lt ha hb (nomark _)
theorem de_le (ha : DE X Wx a wa) (hb : DE X Wx b wb) : DE X Wx (.Compare a [.LtE] [b] pos) (wBin fLe wa wb) := de_cmp op_le so_le ha hb (nomark _)
theorem de_gt (ha : DE X Wx a wa) (hb : DE X Wx b wb) : DE X Wx (.Compare a [.Gt] [b] pos) (wBin fGt wa wb) := de_cmp op_gt so_gt ha hb (nomark _)
theorem de_ge (ha : DE X Wx a wa) (hb : DE X Wx b wb) : DE X Wx (.Compare a [.GtE] [b] pos) (wBin fGe wa wb) := de_cmp op_ge so_ge ha hb (nomark _)
/-! lists and tuples by what they hold -/
def lsOf (x : D) (ms : Mu) : Option (List PD) := match x with
  | .p (.lst xs) => some xs
  | .c n => (match ms[n]? with | some (.lst xs) => some xs | _ => none)
  | _ => none
def sqOf (x : D) (ms : Mu) : Option (List PD) := match x with
  | .p (.lst xs) => some xs
  | .p (.tup xs) => some xs
  | .c n => (match ms[n]? with | some (.lst xs) => some xs | _ => none)
  | _ => none
theorem ls_of {A : Amb} {G : Hp} {cs : Cs} {ms : Mu} {ds : De} {x : V} {d : D} {xs : List PD} (s : St K A G H cs ms σ ds) (r : RepD K (io cs) G x d) (h : lsOf d ms = some xs) : ∃ p vs, x = .ref p ∧ H p = some (.lst vs) ∧ RepA K G vs xs := by
  unfold lsOf at h
  split at h
  · rename_i d' ys
    cases h
    have z : Rep K G x (.lst xs) := r
    cases z with
    | lst h1 h2 => exact ⟨_, _, rfl, s.k.gh _ _ h1, h2⟩
  · rename_i d' n
    split at h
    · rename_i ys e
      cases h
      obtain ⟨p, h1, rfl⟩ := r
      unfold io at h1
      rw [List.getElem?_map] at h1
      cases e2 : cs[n]? with
      | none => rw [e2] at h1; cases h1
      | some c =>
        rw [e2] at h1
        obtain ⟨p', fp⟩ := c
        have : p' = p := Option.some.inj h1
        subst this
        obtain ⟨_, vs, h3, h4⟩ := s.k.cell n p' fp _ e2 e
        exact ⟨p', vs, rfl, h3, h4⟩
    · cases h
  · cases h
theorem sq_of {A : Amb} {G : Hp} {cs : Cs} {ms : Mu} {ds : De} {x : V} {d : D} {xs : List PD} (s : St K A G H cs ms σ ds) (r : RepD K (io cs) G x d) (h : sqOf d ms = some xs) : ∃ p vs, x = .ref p ∧ (H p = some (.lst vs) ∨ SqT K H p vs) ∧ RepA K G vs xs := by
  unfold sqOf at h
  split at h
  · rename_i d' ys
    cases h
    obtain ⟨p, vs, h1, h2, h3⟩ := ls_of s r (xs := xs) rfl
    exact ⟨p, vs, h1, .inl h2, h3⟩
  · rename_i d' ys
    cases h
    have z : Rep K G x (.tup xs) := r
    cases z with
    | tup h1 h2 => exact ⟨_, _, rfl, .inr (same_sqT s.k.gh h1), h2⟩
  · rename_i d' n
    obtain ⟨p, vs, h1, h2, h3⟩ := ls_of s r (xs := xs) h
    exact ⟨p, vs, h1, .inl h2, h3⟩
  · cases h
/-- a new list, a new tuple that stay -/
theorem CoE.lst {A : Amb} {G : Hp} {cs : Cs} {ms : Mu} {ds : De} {P : PDn} {Q : VK} {vs : List V} {xs : List PD} (q : CoE K A cs G σ ds P Q) (s : St K A G H cs ms σ ds) (r : RepA K G vs xs) (h : P (.p (.lst xs)) ms) (p : Addr) (hp : H p = none) : Q (.ref p) (upd H p (.lst vs)) := by
  obtain ⟨s1, sg⟩ := s.pers hp (.lst vs)
  exact q _ (.p (.lst xs)) _ _ cs ms s1 ⟨List.prefix_refl _, sg⟩ (Rep.lst upd_same (r.mono sg)) h
theorem CoE.tup {A : Amb} {G : Hp} {cs : Cs} {ms : Mu} {ds : De} {P : PDn} {Q : VK} {vs : List V} {xs : List PD} (q : CoE K A cs G σ ds P Q) (s : St K A G H cs ms σ ds) (r : RepA K G vs xs) (h : P (.p (.tup xs)) ms) (p : Addr) (hp : H p = none) : Q (.ref p) (upd H p (.tup vs)) := by
  obtain ⟨s1, sg⟩ := s.pers hp (.tup vs)
  exact q _ (.p (.tup xs)) _ _ cs ms s1 ⟨List.prefix_refl _, sg⟩ (Rep.tup (SqT.of upd_same) (r.mono sg)) h
/-- a new list that is a cell -/
theorem CoE.cellL {A : Amb} {G : Hp} {cs : Cs} {ms : Mu} {ds : De} {P : PDn} {Q : VK} {vs : List V} {xs : List PD} (q : CoE K A cs G σ ds P Q) (s : St K A G H cs ms σ ds) (r : RepA K G vs xs) (h : P (.c ms.length) (ms ++ [.lst xs])) (p : Addr) (hp : H p = none) : Q (.ref p) (upd H p (.lst vs)) := by
  have s1 := s.cell hp (.lst vs) (m := .lst xs) ⟨rfl, vs, upd_same, r⟩
  refine q _ (.c ms.length) _ _ _ _ s1 ⟨io_app _ _, Same.refl G⟩ ⟨p, ?_, rfl⟩ h
  rw [← s.k.len]
  unfold io
  rw [List.map_append, List.getElem?_append_right (by rw [List.length_map]; exact Nat.le_refl _)]
  simp
/-! + -/
def big : Nat := 100000
theorem big_ok {n : Nat} (h : n ≤ big) : n ≤ sizeLine := Nat.le_trans h (by decide)
theorem big_lt {n : Nat} (h : n < big) : n < sizeLine := Nat.lt_of_lt_of_le h (by decide)
def fAdd : F2 := fun x y m P => match x, y with
  | .p (.int i), .p (.int j) => P (.p (.int (i + j))) m
  | .p (.tup xs), .p (.tup ys) => xs.length + ys.length ≤ big ∧ P (.p (.tup (xs ++ ys))) m
  | .p (.str a), .p (.str b) => a.length + b.length ≤ big ∧ P (.p (.str (a ++ b))) m
  | x, y => match lsOf x m, lsOf y m with | some xs, some ys => xs.length + ys.length ≤ big ∧ P (.p (.lst (xs ++ ys))) m | _, _ => False
def rAddA (K : Frg) : R2 := fun x y H Q => rI0 (fun i j => .int (i + j)) x y H Q ∨ (rCatA K x y H Q ∨ ((∃ i j, x = .str i ∧ y = .str j ∧ i.length + j.length ≤ sizeLine ∧ Q (.str (i ++ j)) H) ∨ rCat x y H Q))
theorem op_addA : OpR X (binaryOp .Add) (rAddA X.K) := op_add.or (op_catA.or (op_add_str.or op_cat))
theorem so_add : SOp K (rAddA K) fAdd := by
  intro A G H cs ms σ ds x y dx dy P Q s h1 h2 h q
  unfold fAdd at h
  split at h
  · rename_i i j
    have z1 : Rep K G x (.int i) := h1
    have z2 : Rep K G y (.int j) := h2
    cases z1
    cases z2
    exact .inl ⟨i, j, rfl, rfl, q.ret s (.int _) h⟩
  · rename_i xs ys
    have z1 : Rep K G x (.tup xs) := h1
    have z2 : Rep K G y (.tup ys) := h2
    cases z1 with
    | @tup a vs _ a1 a2 =>
      cases z2 with
      | @tup b us _ b1 b2 =>
        refine .inr (.inl ⟨a, b, vs, us, rfl, rfl, same_sqT s.k.gh a1, same_sqT s.k.gh b1, by rw [a2.length, b2.length]; exact big_ok h.1, fun e => ?_, fun _ e => ?_, fun _ _ p hp => ?_⟩)
        · subst e
          cases a2
          exact q.ret s (Rep.tup b1 b2) h.2
        · subst e
          cases b2
          have h' := h.2
          rw [List.append_nil] at h'
          exact q.ret s (Rep.tup a1 a2) h'
        · exact q.tup s (a2.append b2) h.2 p hp
  · rename_i i j
    have z1 : Rep K G x (.str i) := h1
    have z2 : Rep K G y (.str j) := h2
    cases z1
    cases z2
    exact .inr (.inr (.inl ⟨i, j, rfl, rfl, big_ok h.1, q.ret s (.str _) h.2⟩))
  · split at h
    · rename_i xs ys e1 e2
      obtain ⟨l, vs, rfl, l1, l2⟩ := ls_of s h1 e1
      obtain ⟨l', us, rfl, l3, l4⟩ := ls_of s h2 e2
      exact .inr (.inr (.inr ⟨l, l', vs, us, rfl, rfl, l1, l3, by rw [l2.length, l4.length]; exact big_ok h.1, fun p hp => q.lst s (l2.append l4) h.2 p hp⟩))
    · exact h.elim
theorem de_add (ha : DE X Wx a wa) (hb : DE X Wx b wb) : DE X Wx (.BinOp a .Add b pos) (wBin fAdd wa wb) := de_op op_addA so_add ha hb
end
end DL

set_option Elab.async false
set_option linter.all false
set_option maxRecDepth 100000
set_option maxHeartbeats 4000000
namespace DL
open PySem L2 PyProof.Rows
section
variable {X : Cx} {K : Frg} {Wx : WX} {σ : L2.St} {H : Hp} {a b c e : Expr} {wa wb wc we : WE} {pos : Pos} {es : List Expr}
/-! ### tests -/
def wTest (w : WE) : WT := fun ds ms P Xp => w ds ms (fun x m => match x with | .p (.bl k) => P k m | _ => False) Xp
theorem s_tB {w : WE} {Q : Bool → Hp → Prop} (h : canT K Wx (wTest w) σ H Q) : tB (canE K Wx w) σ H Q := by
  obtain ⟨A, G, cs, ms, ds, P, Xp, s, h, q, x⟩ := h
  refine ⟨A, G, cs, ms, ds, _, Xp, s, h, fun v d G1 H1 cs1 ms1 s1 e1 r1 h1 => ?_, x⟩
  try dsimp only at h1
  split at h1
  · rename_i k
    have z : Rep K G1 v (.bl k) := r1
    cases z
    exact ⟨k, rfl, q k G1 H1 cs1 ms1 s1 e1 h1⟩
  · exact h1.elim
theorem s_tTest {w : WE} {t : TE} (ht : ∀ Q, canE K Wx w σ H Q → t σ H Q) {Q : Bool → Hp → Prop} (h : canT K Wx (wTest w) σ H Q) : tTest t σ H Q := ht _ (s_tB h)
theorem dt_val (he : DE X Wx e we) (hw : ∀ whole, isTrue e X.env whole = (do let v ← whole; standAt e.pos; holding [v] (truthy v)) := by intro _; rfl) : DT X Wx e (wTest we) := PT.imp (pt_val he hw) fun _ _ _ => s_tB
theorem dt_cmp {op : CmpOp} {r : R2} {f : F2} (ho : OpR X (compareOp op) r) (so : SOp X.K r f) (ha : DE X Wx a wa) (hb : DE X Wx b wb) (hm : behindInMarks op b = false) : DT X Wx (.Compare a [op] [b] pos) (wTest (wBin f wa wb)) := PT.imp (pt_cmpR ho ha hb hm) fun _ _ _ => s_tTest fun _ => s_bin so
theorem dt_lt (ha : DE X Wx a wa) (hb : DE X Wx b wb) : DT X Wx (.Compare a [.Lt] [b] pos) (wTest (wBin fLt wa wb)) := dt_cmp op_lt so_lt ha hb (nomark _)
theorem dt_le (ha : DE X Wx a wa) (hb : DE X Wx b wb) : DT X Wx (.Compare a [.LtE] [b] pos) (wTest (wBin fLe wa wb)) := dt_cmp op_le so_le ha hb (nomark _)
theorem dt_gt (ha : DE X Wx a wa) (hb : DE X Wx b wb) : DT X Wx (.Compare a [.Gt] [b] pos) (wTest (wBin fGt wa wb)) := dt_cmp op_gt so_gt ha hb (nomark _)
theorem dt_ge (ha : DE X Wx a wa) (hb : DE X Wx b wb) : DT X Wx (.Compare a [.GtE] [b] pos) (wTest (wBin fGe wa wb)) := dt_cmp op_ge so_ge ha hb (nomark _)
def wChain (f g : F2) (wa wb wc : WE) : WE := fun ds ms P Xp => wa ds ms (fun x m1 => wb ds m1 (fun y m2 => f x y m2 (fun z m3 => match z with | .p (.bl k) => (if k = true then wc ds m3 (fun u m4 => g y u m4 P) Xp else P (.p (.bl false)) m3) | _ => False)) Xp) Xp
theorem s_chain {r r' : R2} {f g : F2} (so : SOp K r f) (so' : SOp K r' g) {Q : VK} (h : canE K Wx (wChain f g wa wb wc) σ H Q) : tChain r r' (canE K Wx wa) (canE K Wx wb) (canE K Wx wc) σ H Q := by
  obtain ⟨A, G, cs, ms, ds, P, Xp, s, h, q, x⟩ := h
  refine ⟨A, G, cs, ms, ds, _, Xp, s, h, fun v d G1 H1 cs1 ms1 s1 e1 r1 h1 => ?_, x⟩
  refine ⟨A, G1, cs1, ms1, ds, _, Xp, s1, h1, fun u d2 G2 H2 cs2 ms2 s2 e2 r2 h2 => ?_, x.ext e1⟩
  refine so s2 (r1.ext e2) r2 h2 fun w d3 G3 H3 cs3 ms3 s3 e3 r3 h3 => ?_
  try dsimp only at h3
  split at h3
  · rename_i k
    have z : Rep K G3 w (.bl k) := r3
    cases z
    refine ⟨k, rfl, ?_⟩
    cases k with
    | true =>
      exact ⟨A, G3, cs3, ms3, ds, _, Xp, s3, h3, fun u4 d4 G4 H4 cs4 ms4 s4 e4 r4 h4 => so' s4 ((r2.ext e3).ext e4) r4 h4 ((((q.ext e1).ext e2).ext e3).ext e4), ((x.ext e1).ext e2).ext e3⟩
    | false => exact (((q.ext e1).ext e2).ext e3).ret s3 (.bl _) h3
  · exact h3.elim
theorem de_chain {op op' : CmpOp} {r r' : R2} {f g : F2} (ho : OpR X (compareOp op) r) (so : SOp X.K r f) (ho' : OpR X (compareOp op') r') (so' : SOp X.K r' g) (ha : DE X Wx a wa) (hb : DE X Wx b wb) (hc : DE X Wx c wc)
    (hm : lastMarks [op, op'] [b, c] = false := by with_unfolding_all rfl) : DE X Wx (.Compare a [op, op'] [b, c] pos) (wChain f g wa wb wc) := PE.imp (pe_chain ho ho' ha hb hc hm) fun _ _ _ => s_chain so so'
theorem dt_chain {op op' : CmpOp} {r r' : R2} {f g : F2} (ho : OpR X (compareOp op) r) (so : SOp X.K r f) (ho' : OpR X (compareOp op') r') (so' : SOp X.K r' g) (ha : DE X Wx a wa) (hb : DE X Wx b wb) (hc : DE X Wx c wc)
    (hm : lastMarks [op, op'] [b, c] = false := by with_unfolding_all rfl) : DT X Wx (.Compare a [op, op'] [b, c] pos) (wTest (wChain f g wa wb wc)) := PT.imp (pt_chain ho ho' ha hb hc hm) fun _ _ _ => s_tTest fun _ => s_chain so so'
def wTAnd (t u : WT) : WT := fun ds ms P Xp => t ds ms (fun k m => if k = true then u ds m P Xp else P false m) Xp
def wTOr (t u : WT) : WT := fun ds ms P Xp => t ds ms (fun k m => if k = true then P true m else u ds m P Xp) Xp
def wTNot (t : WT) : WT := fun ds ms P Xp => t ds ms (fun k m => P (!k) m) Xp
theorem s_tand {t u : WT} {Q : Bool → Hp → Prop} (h : canT K Wx (wTAnd t u) σ H Q) : tAnd (canT K Wx t) (canT K Wx u) σ H Q := by
  obtain ⟨A, G, cs, ms, ds, P, Xp, s, h, q, x⟩ := h
  refine ⟨A, G, cs, ms, ds, _, Xp, s, h, fun k G1 H1 cs1 ms1 s1 e1 h1 => ?_, x⟩
  cases k with
  | true => exact ⟨A, G1, cs1, ms1, ds, _, Xp, s1, h1, q.ext e1, x.ext e1⟩
  | false => exact q false G1 H1 cs1 ms1 s1 e1 h1
theorem s_tor {t u : WT} {Q : Bool → Hp → Prop} (h : canT K Wx (wTOr t u) σ H Q) : tOr (canT K Wx t) (canT K Wx u) σ H Q := by
  obtain ⟨A, G, cs, ms, ds, P, Xp, s, h, q, x⟩ := h
  refine ⟨A, G, cs, ms, ds, _, Xp, s, h, fun k G1 H1 cs1 ms1 s1 e1 h1 => ?_, x⟩
  cases k with
  | true => exact q true G1 H1 cs1 ms1 s1 e1 h1
  | false => exact ⟨A, G1, cs1, ms1, ds, _, Xp, s1, h1, q.ext e1, x.ext e1⟩
theorem s_tnot {t : WT} {Q : Bool → Hp → Prop} (h : canT K Wx (wTNot t) σ H Q) : tNot (canT K Wx t) σ H Q := by
  obtain ⟨A, G, cs, ms, ds, P, Xp, s, h, q, x⟩ := h
  exact ⟨A, G, cs, ms, ds, _, Xp, s, h, fun k G1 H1 cs1 ms1 s1 e1 h1 => q (!k) G1 H1 cs1 ms1 s1 e1 h1, x⟩
variable {ta tb : WT} {rest : List Expr}
theorem dw_and (ha : DT X Wx a ta) (hb : DW X Wx (.BoolOp .And (b :: rest) pos) tb) : DW X Wx (.BoolOp .And (a :: b :: rest) pos) (wTAnd ta tb) := PW.imp (pw_and ha hb) fun _ _ _ => s_tand
theorem dw_or (ha : DT X Wx a ta) (hb : DW X Wx (.BoolOp .Or (b :: rest) pos) tb) : DW X Wx (.BoolOp .Or (a :: b :: rest) pos) (wTOr ta tb) := PW.imp (pw_or ha hb) fun _ _ _ => s_tor
theorem dw_and1 (ha : DT X Wx a ta) : DW X Wx (.BoolOp .And [a] pos) ta := pw_and1 ha
theorem dw_or1 (ha : DT X Wx a ta) : DW X Wx (.BoolOp .Or [a] pos) ta := pw_or1 ha
theorem dt_w (h : DW X Wx e ta) : DT X Wx e ta := PW.pt h
theorem dt_not (h : DT X Wx a ta) : DT X Wx (.UnaryOp .Not a pos) (wTNot ta) := PT.imp (pt_not h) fun _ _ _ => s_tnot
/-! as values -/
def wAndV (wa wb : WE) : WE := fun ds ms P Xp => wa ds ms (fun x m => match x with | .p (.bl k) => (if k = true then wb ds m P Xp else P (.p (.bl false)) m) | _ => False) Xp
def wOrV (wa wb : WE) : WE := fun ds ms P Xp => wa ds ms (fun x m => match x with | .p (.bl k) => (if k = true then P (.p (.bl true)) m else wb ds m P Xp) | _ => False) Xp
def wNotV (wa : WE) : WE := fun ds ms P Xp => wa ds ms (fun x m => match x with | .p (.bl k) => P (.p (.bl (!k))) m | _ => False) Xp
theorem s_andV {Q : VK} (h : canE K Wx (wAndV wa wb) σ H Q) : tAndV (canE K Wx wa) (canE K Wx wb) σ H Q := by
  obtain ⟨A, G, cs, ms, ds, P, Xp, s, h, q, x⟩ := h
  refine ⟨A, G, cs, ms, ds, _, Xp, s, h, fun v d G1 H1 cs1 ms1 s1 e1 r1 h1 => ?_, x⟩
  try dsimp only at h1
  split at h1
  · rename_i k
    have z : Rep K G1 v (.bl k) := r1
    cases z
    refine ⟨k, rfl, ?_⟩
    cases k with
    | true => exact ⟨A, G1, cs1, ms1, ds, _, Xp, s1, h1, q.ext e1, x.ext e1⟩
    | false => exact (q.ext e1).ret s1 (.bl _) h1
  · exact h1.elim
theorem s_orV {Q : VK} (h : canE K Wx (wOrV wa wb) σ H Q) : tOrV (canE K Wx wa) (canE K Wx wb) σ H Q := by
  obtain ⟨A, G, cs, ms, ds, P, Xp, s, h, q, x⟩ := h
  refine ⟨A, G, cs, ms, ds, _, Xp, s, h, fun v d G1 H1 cs1 ms1 s1 e1 r1 h1 => ?_, x⟩
  try dsimp only at h1
  split at h1
  · rename_i k
    have z : Rep K G1 v (.bl k) := r1
    cases z
    refine ⟨k, rfl, ?_⟩
    cases k with
    | true => exact (q.ext e1).ret s1 (.bl _) h1
    | false => exact ⟨A, G1, cs1, ms1, ds, _, Xp, s1, h1, q.ext e1, x.ext e1⟩
  · exact h1.elim
theorem s_notV {Q : VK} (h : canE K Wx (wNotV wa) σ H Q) : tNotV (canE K Wx wa) σ H Q := by
  obtain ⟨A, G, cs, ms, ds, P, Xp, s, h, q, x⟩ := h
  refine ⟨A, G, cs, ms, ds, _, Xp, s, h, fun v d G1 H1 cs1 ms1 s1 e1 r1 h1 => ?_, x⟩
  try dsimp only at h1
  split at h1
  · rename_i k
    have z : Rep K G1 v (.bl k) := r1
    cases z
    exact ⟨k, rfl, (q.ext e1).ret s1 (.bl _) h1⟩
  · exact h1.elim
theorem de_and (ha : DE X Wx a wa) (hb : DE X Wx (.BoolOp .And (b :: rest) pos) wb) : DE X Wx (.BoolOp .And (a :: b :: rest) pos) (wAndV wa wb) := PE.imp (pe_and ha hb) fun _ _ _ => s_andV
theorem de_or (ha : DE X Wx a wa) (hb : DE X Wx (.BoolOp .Or (b :: rest) pos) wb) : DE X Wx (.BoolOp .Or (a :: b :: rest) pos) (wOrV wa wb) := PE.imp (pe_or ha hb) fun _ _ _ => s_orV
theorem de_one {op} (ha : DE X Wx a wa) : DE X Wx (.BoolOp op [a] pos) wa := pe_one ha
theorem de_not (ha : DE X Wx a wa) : DE X Wx (.UnaryOp .Not a pos) (wNotV wa) := PE.imp (pe_not ha) fun _ _ _ => s_notV
def wIf (t : WT) (wa wb : WE) : WE := fun ds ms P Xp => t ds ms (fun k m => if k = true then wa ds m P Xp else wb ds m P Xp) Xp
theorem s_if {t : WT} {Q : VK} (h : canE K Wx (wIf t wa wb) σ H Q) : tIf (canT K Wx t) (canE K Wx wa) (canE K Wx wb) σ H Q := by
  obtain ⟨A, G, cs, ms, ds, P, Xp, s, h, q, x⟩ := h
  refine ⟨A, G, cs, ms, ds, _, Xp, s, h, fun k G1 H1 cs1 ms1 s1 e1 h1 => ?_, x⟩
  cases k with
  | true => exact ⟨A, G1, cs1, ms1, ds, _, Xp, s1, h1, q.ext e1, x.ext e1⟩
  | false => exact ⟨A, G1, cs1, ms1, ds, _, Xp, s1, h1, q.ext e1, x.ext e1⟩
theorem de_if {t : WT} (hc : DT X Wx c t) (ha : DE X Wx a wa) (hb : DE X Wx b wb) : DE X Wx (.IfExp c a b pos) (wIf t wa wb) := PE.imp (pe_ifExp hc ha hb) fun _ _ _ => s_if
/-! ### == and in, of data -/
mutual
def PD.py : PD → PyData
  | .non => .none
  | .bl b => .bool b
  | .int i => .int i
  | .str x => .str x
  | .tup xs => .tuple (PD.pys xs)
  | .lst xs => .list (PD.pys xs)
  | .ins _ _ => .none
  | .fz _ => .none
def PD.pys : List PD → List PyData
  | [] => []
  | x :: r => PD.py x :: PD.pys r
end
def PD.ok : Nat → PD → Bool
  | _, .non => true
  | _, .bl _ => true
  | _, .int _ => true
  | _, .str x => PySem.PyData.canLay0 (.str x)
  | n + 1, .tup xs => xs.all (PD.ok n)
  | n + 1, .lst xs => xs.all (PD.ok n)
  | _, _ => false
theorem pys_map : ∀ xs : List PD, PD.pys xs = xs.map PD.py
  | [] => by simp only [PD.pys, List.map_nil]
  | x :: r => by simp only [PD.pys, List.map_cons, pys_map r]
def PD.eqv (x y : PD) : Bool := PyData.eqv x.py y.py
theorem lay_all : ∀ (n : Nat) (xs : List PD), (∀ x ∈ xs, x.py.canLay0 = true) → PyData.canLayAll0 (PD.pys xs) = true
  | n, [], _ => by simp only [PD.pys, PyData.canLayAll0]
  | n, x :: r, h => by
    simp only [PD.pys, PyData.canLayAll0, Bool.and_eq_true]
    exact ⟨h x (by simp), lay_all n r fun y hy => h y (List.mem_cons_of_mem _ hy)⟩
theorem depth_all (n : Nat) : ∀ (xs : List PD), (∀ x ∈ xs, x.py.depth ≤ n) → PyData.depthAll (PD.pys xs) ≤ n
  | [], _ => by simp only [PD.pys, PyData.depthAll]; omega
  | x :: r, h => by
    have h1 := h x (by simp)
    have h2 := depth_all n r fun y hy => h y (List.mem_cons_of_mem _ hy)
    simp only [PD.pys, PyData.depthAll]
    omega
theorem ok_lay : ∀ (n : Nat) (x : PD), x.ok n = true → x.py.canLay0 = true ∧ x.py.depth ≤ n
  | _, .non, _ => by simp [PD.py, PyData.canLay0, PyData.depth]
  | _, .bl _, _ => by simp [PD.py, PyData.canLay0, PyData.depth]
  | _, .int _, _ => by simp [PD.py, PyData.canLay0, PyData.depth]
  | n, .str z, h => by
    have h' : PyData.canLay0 (.str z) = true := by cases n <;> simpa [PD.ok] using h
    simp [PD.py, PyData.depth, h']
  | 0, .tup xs, h => by simp [PD.ok] at h
  | 0, .lst xs, h => by simp [PD.ok] at h
  | n + 1, .tup xs, h => by
    have h' : ∀ x ∈ xs, x.ok n = true := by simpa [PD.ok] using h
    simp only [PD.py, PyData.canLay0, PyData.depth]
    refine ⟨lay_all n xs fun x hx => (ok_lay n x (h' x hx)).1, ?_⟩
    have := depth_all n xs fun x hx => (ok_lay n x (h' x hx)).2
    omega
  | n + 1, .lst xs, h => by
    have h' : ∀ x ∈ xs, x.ok n = true := by simpa [PD.ok] using h
    simp only [PD.py, PyData.canLay0, PyData.depth]
    refine ⟨lay_all n xs fun x hx => (ok_lay n x (h' x hx)).1, ?_⟩
    have := depth_all n xs fun x hx => (ok_lay n x (h' x hx)).2
    omega
  | n, .ins _ _, h => by cases n <;> simp [PD.ok] at h
  | n, .fz _, h => by cases n <;> simp [PD.ok] at h
theorem ok_shaped {n : Nat} (hn : n ≤ 64) {x : PD} (h : x.ok n = true) : SeqAt.shaped x.py = true := by
  obtain ⟨h1, h2⟩ := ok_lay n x h
  unfold SeqAt.shaped
  rw [h1]
  simp
  omega
mutual
theorem Rep.dp {K : Frg} {G : Hp} {v : V} {x : PD} (r : Rep K G v x) (n : Nat) (h : x.ok n = true) : Dp K G v x.py := by
  match r, n, h with
  | .non, _, _ => simp only [PD.py]; exact .non
  | .bl b, _, _ => simp only [PD.py]; exact .bl b
  | .int i, _, _ => simp only [PD.py]; exact .int i
  | .str z, _, _ => simp only [PD.py]; exact .str z
  | .tup h1 h2, n + 1, h => simp only [PD.py]; exact .tup h1 (RepA.dp h2 n (by simpa [PD.ok] using h))
  | .lst h1 h2, n + 1, h => simp only [PD.py]; exact .lst (SqL.of h1) (RepA.dp h2 n (by simpa [PD.ok] using h))
  | .tup h1 h2, 0, h => simp [PD.ok] at h
  | .lst h1 h2, 0, h => simp [PD.ok] at h
  | .ins h1 h2, n, h => cases n <;> simp [PD.ok] at h
  | .fz h1 h2, n, h => cases n <;> simp [PD.ok] at h
theorem RepA.dp {K : Frg} {G : Hp} {vs : List V} {xs : List PD} (r : RepA K G vs xs) (n : Nat) (h : ∀ x ∈ xs, x.ok n = true) : DpAll K G vs (PD.pys xs) := by
  match r with
  | .nil => simp only [PD.pys]; exact .nil
  | .cons h1 h2 => simp only [PD.pys]; exact .cons (Rep.dp h1 n (h _ (by simp))) (RepA.dp h2 n fun y hy => h y (List.mem_cons_of_mem _ hy))
end
def plOf (x : D) (m : Mu) : Option PD := match x with
  | .p x => some x
  | .c n => (match m[n]? with | some (.lst xs) => some (.lst xs) | _ => none)
theorem dp_of {A : Amb} {G : Hp} {cs : Cs} {ms : Mu} {ds : De} {v : V} {d : D} {x : PD} (s : St K A G H cs ms σ ds) (r : RepD K (io cs) G v d) (h : plOf d ms = some x) {n : Nat} (ho : x.ok n = true) : Dp K H v x.py := by
  cases d with
  | p y =>
    have e : y = x := Option.some.inj h
    subst e
    exact (Rep.mono r s.k.gh).dp n ho
  | c k =>
    unfold plOf at h
    simp only at h
    split at h
    · rename_i xs e
      cases h
      obtain ⟨p, vs, rfl, h1, h2⟩ := ls_of s r (xs := xs) (by unfold lsOf; simp only [e])
      exact (Rep.lst h1 (h2.mono s.k.gh)).dp n ho
    · cases h
def fEq : F2 := fun x y m P => match plOf x m, plOf y m with | some a, some b => a.ok 30 = true ∧ b.ok 30 = true ∧ P (.p (.bl (PD.eqv a b))) m | _, _ => False
def fNe : F2 := fun x y m P => match plOf x m, plOf y m with | some a, some b => a.ok 30 = true ∧ b.ok 30 = true ∧ P (.p (.bl (!PD.eqv a b))) m | _, _ => False
theorem so_eq : SOp K (rEqD K) fEq := by
  intro A G H cs ms σ ds x y dx dy P Q s h1 h2 h q
  unfold fEq at h
  split at h
  · rename_i a b e1 e2
    obtain ⟨o1, o2, h⟩ := h
    exact ⟨_, _, dp_of s h1 e1 o1, dp_of s h2 e2 o2, ok_shaped (by decide) o1, ok_shaped (by decide) o2, q.ret s (.bl _) h⟩
  · exact h.elim
theorem so_ne : SOp K (rNeD K) fNe := by
  intro A G H cs ms σ ds x y dx dy P Q s h1 h2 h q
  unfold fNe at h
  split at h
  · rename_i a b e1 e2
    obtain ⟨o1, o2, h⟩ := h
    exact ⟨_, _, dp_of s h1 e1 o1, dp_of s h2 e2 o2, ok_shaped (by decide) o1, ok_shaped (by decide) o2, q.ret s (.bl _) h⟩
  · exact h.elim
theorem de_eq (hu : X.A.units + 64 < cLine) (ha : DE X Wx a wa) (hb : DE X Wx b wb) : DE X Wx (.Compare a [.Eq] [b] pos) (wBin fEq wa wb) := de_cmp (op_eqD hu) so_eq ha hb (nomark _)
theorem de_ne (hu : X.A.units + 64 < cLine) (ha : DE X Wx a wa) (hb : DE X Wx b wb) : DE X Wx (.Compare a [.NotEq] [b] pos) (wBin fNe wa wb) := de_cmp (op_neD hu) so_ne ha hb (nomark _)
theorem dt_eq (hu : X.A.units + 64 < cLine) (ha : DE X Wx a wa) (hb : DE X Wx b wb) : DT X Wx (.Compare a [.Eq] [b] pos) (wTest (wBin fEq wa wb)) := dt_cmp (op_eqD hu) so_eq ha hb (nomark _)
theorem dt_ne (hu : X.A.units + 64 < cLine) (ha : DE X Wx a wa) (hb : DE X Wx b wb) : DT X Wx (.Compare a [.NotEq] [b] pos) (wTest (wBin fNe wa wb)) := dt_cmp (op_neD hu) so_ne ha hb (nomark _)
/-! in -/
def rInS (K : Frg) (neg : Bool) : R2 := fun x y H Q => ∃ d ds, Dp K H x d ∧ (Dp K H y (.list ds) ∨ Dp K H y (.tuple ds)) ∧ SeqAt.shaped d = true ∧ SeqAt.shaped (.list ds) = true ∧ SeqAt.shaped (.tuple ds) = true ∧ Q (.bl (if neg then !(ds.any fun z => PyData.eqv z d) else ds.any fun z => PyData.eqv z d)) H
theorem op_inS (hu : X.A.units + 65 < cLine) : OpR X (compareOp .In) (rInS X.K false) := by
  intro pins s σ H x y v u Q I rx ry h
  obtain ⟨d, ds, hd, he, sd, se, st, q⟩ := h
  obtain ⟨as, r1⟩ := Dp.reads I d x v hd rx
  rcases he with he | he
  · obtain ⟨bs, r2⟩ := Dp.reads I (.list ds) y u he ry
    exact SeqAt.in_list_reads r2 r1 (SeqAt.canLay_of_shaped se) (SeqAt.canLay_of_shaped sd) (room_in_shaped sd hu) ⟨.bl _, H, I, rfl, q⟩
  · obtain ⟨bs, r2⟩ := Dp.reads I (.tuple ds) y u he ry
    exact SeqAt.in_tuple_reads r2 r1 (SeqAt.canLay_of_shaped se) (SeqAt.canLay_of_shaped sd) (room_in_shaped sd hu) ⟨.bl _, H, I, rfl, q⟩
theorem op_notInS (hu : X.A.units + 65 < cLine) : OpR X (compareOp .NotIn) (rInS X.K true) := by
  intro pins s σ H x y v u Q I rx ry h
  obtain ⟨d, ds, hd, he, sd, se, st, q⟩ := h
  obtain ⟨as, r1⟩ := Dp.reads I d x v hd rx
  rcases he with he | he
  · obtain ⟨bs, r2⟩ := Dp.reads I (.list ds) y u he ry
    exact SeqAt.notIn_list_reads r2 r1 (SeqAt.canLay_of_shaped se) (SeqAt.canLay_of_shaped sd) (room_in_shaped sd hu) ⟨.bl _, H, I, rfl, q⟩
  · obtain ⟨bs, r2⟩ := Dp.reads I (.tuple ds) y u he ry
    exact SeqAt.notIn_tuple_reads r2 r1 (SeqAt.canLay_of_shaped se) (SeqAt.canLay_of_shaped sd) (room_in_shaped sd hu) ⟨.bl _, H, I, rfl, q⟩
def inP (x : PD) (xs : List PD) : Bool := xs.any fun z => PD.eqv z x
def fIn (neg : Bool) : F2 := fun x y m P => match plOf x m, sqOf y m with | some a, some xs => a.ok 30 = true ∧ (PD.lst xs).ok 30 = true ∧ P (.p (.bl (if neg then !inP a xs else inP a xs))) m | _, _ => False
theorem any_py (a : PD) : ∀ xs : List PD, (PD.pys xs).any (fun z => PyData.eqv z a.py) = inP a xs
  | [] => by simp [PD.pys, inP]
  | x :: r => by
    have ih := any_py a r
    unfold inP at ih ⊢
    simp only [PD.pys, List.any_cons, ih, PD.eqv]
theorem so_in (neg : Bool) : SOp K (rInS K neg) (fIn neg) := by
  intro A G H cs ms σ ds x y dx dy P Q s h1 h2 h q
  unfold fIn at h
  split at h
  · rename_i a xs e1 e2
    obtain ⟨o1, o2, h⟩ := h
    have o2' : (PD.tup xs).ok 30 = true := by simpa [PD.ok] using o2
    have hA : ∀ z ∈ xs, z.ok 29 = true := by simpa [PD.ok] using o2
    refine ⟨_, PD.pys xs, dp_of s h1 e1 o1, ?_, ok_shaped (by decide) o1, ?_, ?_, ?_⟩
    · obtain ⟨p, vs, rfl, h3, h4⟩ := sq_of s h2 e2
      rcases h3 with h3 | h3
      · exact .inl (.lst (SqL.of h3) ((h4.mono s.k.gh).dp 29 hA))
      · exact .inr (.tup h3 ((h4.mono s.k.gh).dp 29 hA))
    · have := ok_shaped (n := 30) (by decide) o2
      simpa only [PD.py] using this
    · have := ok_shaped (n := 30) (by decide) o2'
      simpa only [PD.py] using this
    · rw [any_py]
      exact q.ret s (.bl _) h
  · exact h.elim
theorem de_in (hu : X.A.units + 65 < cLine) (ha : DE X Wx a wa) (hb : DE X Wx b wb) (hm : behindInMarks .In b = false := by rfl) : DE X Wx (.Compare a [.In] [b] pos) (wBin (fIn false) wa wb) := de_cmp (op_inS hu) (so_in false) ha hb hm
theorem de_notIn (hu : X.A.units + 65 < cLine) (ha : DE X Wx a wa) (hb : DE X Wx b wb) (hm : behindInMarks .NotIn b = false := by rfl) : DE X Wx (.Compare a [.NotIn] [b] pos) (wBin (fIn true) wa wb) := de_cmp (op_notInS hu) (so_in true) ha hb hm
theorem dt_in (hu : X.A.units + 65 < cLine) (ha : DE X Wx a wa) (hb : DE X Wx b wb) (hm : behindInMarks .In b = false := by rfl) : DT X Wx (.Compare a [.In] [b] pos) (wTest (wBin (fIn false) wa wb)) := dt_cmp (op_inS hu) (so_in false) ha hb hm
theorem dt_notIn (hu : X.A.units + 65 < cLine) (ha : DE X Wx a wa) (hb : DE X Wx b wb) (hm : behindInMarks .NotIn b = false := by rfl) : DT X Wx (.Compare a [.NotIn] [b] pos) (wTest (wBin (fIn true) wa wb)) := dt_cmp (op_notInS hu) (so_in true) ha hb hm
/-! is None -/
def isNon (x : D) : Bool := match x with | .p .non => true | _ => false
def fIsN : F2 := fun x y m P => match y with | .p .non => P (.p (.bl (isNon x))) m | _ => False
def fNotN : F2 := fun x y m P => match y with | .p .non => P (.p (.bl (!isNon x))) m | _ => False
theorem isNon_ok {i : List Addr} {G : Hp} {v : V} {d : D} (r : RepD K i G v d) : decide (v = .non) = isNon d := by
  cases d with
  | p x =>
    have z : Rep K G v x := r
    cases z <;> simp [isNon]
  | c n =>
    obtain ⟨a, _, rfl⟩ := r
    simp [isNon]
theorem so_isN : SOp K (fun x y H Q => y = .non ∧ Q (.bl (decide (x = .non))) H) fIsN := by
  intro A G H cs ms σ ds x y dx dy P Q s h1 h2 h q
  unfold fIsN at h
  split at h
  · have z : Rep K G y .non := h2
    cases z
    rw [isNon_ok h1]
    exact ⟨rfl, q.ret s (.bl _) h⟩
  · exact h.elim
theorem so_notN : SOp K (fun x y H Q => y = .non ∧ Q (.bl (!decide (x = .non))) H) fNotN := by
  intro A G H cs ms σ ds x y dx dy P Q s h1 h2 h q
  unfold fNotN at h
  split at h
  · have z : Rep K G y .non := h2
    cases z
    rw [isNon_ok h1]
    exact ⟨rfl, q.ret s (.bl _) h⟩
  · exact h.elim
theorem de_is (ha : DE X Wx a wa) (hb : DE X Wx b wb) : DE X Wx (.Compare a [.Is] [b] pos) (wBin fIsN wa wb) := de_cmp op_isN so_isN ha hb (nomark _)
theorem de_isnot (ha : DE X Wx a wa) (hb : DE X Wx b wb) : DE X Wx (.Compare a [.IsNot] [b] pos) (wBin fNotN wa wb) := de_cmp op_notN so_notN ha hb (nomark _)
theorem dt_is (ha : DE X Wx a wa) (hb : DE X Wx b wb) : DT X Wx (.Compare a [.Is] [b] pos) (wTest (wBin fIsN wa wb)) := dt_cmp op_isN so_isN ha hb (nomark _)
theorem dt_isnot (ha : DE X Wx a wa) (hb : DE X Wx b wb) : DT X Wx (.Compare a [.IsNot] [b] pos) (wTest (wBin fNotN wa wb)) := dt_cmp op_notN so_notN ha hb (nomark _)
/-! ### o.f -/
def fFld (C : Addr) (f : Str) : F1 := fun x m P => match x with
  | .p (.ins C' fs) => C' = C ∧ (match fs.lookup f with | some d => P (.p d) m | none => False)
  | .c n => (match m[n]? with | some (.ins C' fs) => C' = C ∧ (match fs.lookup f with | some d => P d m | none => False) | _ => False)
  | _ => False
def wFld (C : Addr) (f : Str) (wa : WE) : WE := wUn (fFld C f) wa
theorem repDF_look {i : List Addr} {G : Hp} {f : Str} : ∀ {fvs : List (Str × V)} {fs : List (Str × D)} {d : D}, RepDF K i G fvs fs → fs.lookup f = some d → ∃ v, fvs.lookup f = some v ∧ RepD K i G v d
  | _, _, _, .nil, h => by simp at h
  | (g, v) :: r, (g', e) :: q, d, .cons h1 h2, h => by
    obtain ⟨eg, h1⟩ := h1
    have eg' : g = g' := eg
    subst eg'
    rw [List.lookup_cons] at h ⊢
    cases hb : f == g with
    | true =>
      rw [hb] at h
      have z : e = d := Option.some.inj h
      rw [← z]
      exact ⟨v, rfl, h1⟩
    | false =>
      rw [hb] at h
      exact repDF_look h2 h
theorem io_at {cs : Cs} {n : Nat} {p : Addr} (h : (io cs)[n]? = some p) : ∃ fp, cs[n]? = some (p, fp) := by
  unfold io at h
  rw [List.getElem?_map] at h
  cases e : cs[n]? with
  | none => rw [e] at h; cases h
  | some c =>
    rw [e] at h
    obtain ⟨p', fp⟩ := c
    have : p' = p := Option.some.inj h
    subst this
    exact ⟨fp, rfl⟩
theorem s_fld {C : Addr} {f : Str} (hc : Cls K C) (hn : NoAttr K C f) {Q : VK} (h : canE K Wx (wFld C f wa) σ H Q) : tFld K (canE K Wx wa) f σ H Q := by
  obtain ⟨A, G, cs, ms, ds, P, Xp, s, h, q, x⟩ := h
  refine ⟨A, G, cs, ms, ds, _, Xp, s, h, fun v d G1 H1 cs1 ms1 s1 e1 r1 h1 => ?_, x⟩
  unfold fFld at h1
  try dsimp only at h1
  split at h1
  · rename_i C' fs
    obtain ⟨rfl, h1⟩ := h1
    have z : Rep K G1 v (.ins C' fs) := r1
    cases z with
    | @ins a dx _ fvs _ g1 g2 =>
      split at h1
      · rename_i d' e
        obtain ⟨w, l1, l2⟩ := g2.look e
        exact ⟨a, C', dx, fvs, w, rfl, s1.k.gh _ _ g1, hc, hn, l1, (q.ext e1).ret s1 l2 h1⟩
      · exact h1.elim
  · rename_i n
    obtain ⟨p, hp, rfl⟩ := r1
    split at h1
    · rename_i C' fs e
      obtain ⟨rfl, h1⟩ := h1
      obtain ⟨fp, hc1⟩ := io_at hp
      obtain ⟨_, dx, fvs, g1, g2⟩ := s1.k.cell n p fp _ hc1 e
      split at h1
      · rename_i d' e2
        obtain ⟨w, l1, l2⟩ := repDF_look g2 e2
        exact ⟨p, C', dx, fvs, w, rfl, g1, hc, hn, l1, (q.ext e1) w d' G1 H1 cs1 ms1 s1 (Ext.refl _ _) l2 h1⟩
      · exact h1.elim
    · exact h1.elim
  · exact h1.elim
theorem de_fld {C : Addr} {f : Str} (hc : Cls X.K C) (hn : NoAttr X.K C f) (he : DE X Wx e we) (hb : attributeBase e f X.env (eval e X.env) = eval e X.env := by rfl) : DE X Wx (.Attribute e f pos) (wFld C f we) := PE.imp (pe_fld he hb) fun _ _ _ => s_fld hc hn
/-! ### x[i] -/
def fIx : F2 := fun x y m P => match y with | .p (.int i) => (match sqOf x m with | some xs => (match L2.atI xs i with | some d => P (.p d) m | none => False) | none => False) | _ => False
theorem atI_rep {G : Hp} {vs : List V} {xs : List PD} (r : RepA K G vs xs) {i : Int} {d : PD} (h : atI xs i = some d) : ∃ v, atI vs i = some v ∧ Rep K G v d := by
  unfold atI at h ⊢
  rw [r.length]
  cases e : ixN xs.length i with
  | none => rw [e] at h; cases h
  | some j =>
    rw [e] at h
    exact r.get h
theorem so_ix : SOp K (fun x y H Q => rIxL K x y H Q ∨ rIxT K x y H Q) fIx := by
  intro A G H cs ms σ ds x y dx dy P Q s h1 h2 h q
  unfold fIx at h
  split at h
  · rename_i i
    have z : Rep K G y (.int i) := h2
    cases z
    split at h
    · rename_i xs e
      split at h
      · rename_i d e2
        obtain ⟨p, vs, rfl, h3, h4⟩ := sq_of s h1 e
        obtain ⟨v, a1, a2⟩ := atI_rep h4 e2
        rcases h3 with h3 | h3
        · exact .inl ⟨p, vs, i, v, rfl, rfl, SqL.of h3, a1, q.ret s a2 h⟩
        · exact .inr ⟨p, vs, i, v, rfl, rfl, h3, a1, q.ret s a2 h⟩
      · exact h.elim
    · exact h.elim
  · exact h.elim
theorem de_ix (ha : DE X Wx a wa) (hb : DE X Wx b wb) (hs : PlainIx b := by exact fun _ _ => rfl) : DE X Wx (.Subscript a b pos) (wBin fIx wa wb) := PE.imp (pe_ix (IxR.or ix_list ix_tup) ha hb hs) fun _ _ _ => s_bin so_ix
/-! ### x[a:b] -/
abbrev WO := De → Mu → (Option Int → Mu → Prop) → XP → Prop
def wNoPart : WO := fun _ ms P _ => P none ms
def wPart (we : WE) : WO := fun ds ms P Xp => we ds ms (fun x m => match x with | .p (.int i) => P (some i) m | _ => False) Xp
def canO (K : Frg) (Wx : WX) (w : WO) : TO := fun σ H Q => ∃ A G cs ms ds P Xp, St K A G H cs ms σ ds ∧ w ds ms P Xp ∧
  (∀ o G' H' cs' ms', St K A G' H' cs' ms' σ ds → Ext cs G cs' G' → P o ms' → Q o H') ∧ CoX K Wx A cs G σ ds Xp
theorem PO.imp {e : Option Expr} {t t' : TO} (h : PO X e t) (i : ∀ σ H Q, t' σ H Q → t σ H Q) : PO X e t' := ⟨fun pins s σ H Q I w => h.run pins s σ H Q I (i σ H Q w)⟩
theorem do_none : PO X none (canO X.K Wx wNoPart) := PO.imp po_none fun σ H Q h => by
  obtain ⟨A, G, cs, ms, ds, P, Xp, s, h, q, x⟩ := h
  exact q none G H cs ms s (Ext.refl _ _) h
theorem do_some (he : DE X Wx e we) : PO X (some e) (canO X.K Wx (wPart we)) := PO.imp (po_some he) fun σ H Q h => by
  obtain ⟨A, G, cs, ms, ds, P, Xp, s, h, q, x⟩ := h
  refine ⟨A, G, cs, ms, ds, _, Xp, s, h, fun v d G1 H1 cs1 ms1 s1 e1 r1 h1 => ?_, x⟩
  try dsimp only at h1
  split at h1
  · rename_i i
    have z : Rep X.K G1 v (.int i) := r1
    cases z
    exact ⟨i, rfl, q (some i) G1 H1 cs1 ms1 s1 e1 h1⟩
  · exact h1.elim
def cutP (xs : List PD) (lo hi : Option Int) : List PD := (xs.drop (HT.sIx xs.length 0 lo)).take (HT.sIx xs.length xs.length hi - HT.sIx xs.length 0 lo)
theorem cut_rep {G : Hp} {vs : List V} {xs : List PD} (r : RepA K G vs xs) (lo hi : Option Int) : RepA K G (cutV vs lo hi) (cutP xs lo hi) := by
  unfold cutV cutP
  rw [r.length]
  exact (r.drop _).take _
def wSl (wa : WE) (wl wh : WO) : WE := fun ds ms P Xp => wa ds ms (fun x m => wl ds m (fun lo m1 => wh ds m1 (fun hi m2 => match x with
  | .p (.tup xs) => P (.p (.tup (cutP xs lo hi))) m2
  | _ => (match lsOf x m2 with | some xs => P (.p (.lst (cutP xs lo hi))) m2 | none => False)) Xp) Xp) Xp
theorem s_sl {wl wh : WO} {Q : VK} (h : canE K Wx (wSl wa wl wh) σ H Q) : tSl (fun x lo hi H Q => rSlL K x lo hi H Q ∨ rSlA K x lo hi H Q) (canE K Wx wa) (canO K Wx wl) (canO K Wx wh) σ H Q := by
  obtain ⟨A, G, cs, ms, ds, P, Xp, s, h, q, x⟩ := h
  refine ⟨A, G, cs, ms, ds, _, Xp, s, h, fun v d G1 H1 cs1 ms1 s1 e1 r1 h1 => ?_, x⟩
  refine ⟨A, G1, cs1, ms1, ds, _, Xp, s1, h1, fun lo G2 H2 cs2 ms2 s2 e2 h2 => ?_, x.ext e1⟩
  refine ⟨A, G2, cs2, ms2, ds, _, Xp, s2, h2, fun hi G3 H3 cs3 ms3 s3 e3 h3 => ?_, (x.ext e1).ext e2⟩
  have r3 := (r1.ext e2).ext e3
  have q3 := ((q.ext e1).ext e2).ext e3
  try dsimp only at h3
  split at h3
  · rename_i xs
    have z : Rep K G3 v (.tup xs) := r3
    cases z with
    | @tup a vs _ a1 a2 =>
      refine .inr ⟨a, vs, rfl, same_sqT s3.k.gh a1, fun hw => ?_, fun _ p hp => q3.tup s3 (cut_rep a2 lo hi) h3 p hp⟩
      have e : cutP xs lo hi = xs := by
        unfold cutP
        rw [← a2.length, hw.1, hw.2, a2.length]
        simp
      rw [e] at h3
      exact q3.ret s3 (Rep.tup a1 a2) h3
  · split at h3
    · rename_i xs e
      obtain ⟨p, vs, rfl, h4, h5⟩ := ls_of s3 r3 e
      exact .inl ⟨p, vs, rfl, SqL.of h4, fun p' hp => q3.lst s3 (cut_rep h5 lo hi) h3 p' hp⟩
    · exact h3.elim
theorem de_sl {lo hi : Option Expr} {wl wh : WO} {p2 : Pos} (ha : DE X Wx a wa) (hl : PO X lo (canO X.K Wx wl)) (hh : PO X hi (canO X.K Wx wh)) : DE X Wx (.Subscript a (.Slice lo hi none p2) pos) (wSl wa wl wh) := PE.imp (pe_slice (sl_list.or sl_tupA) ha hl hh) fun _ _ _ => s_sl
/-! ### arguments, displays -/
def wNil : WA := fun _ ms P _ => P [] ms
def wCons (we : WE) (wr : WA) : WA := fun ds ms P Xp => we ds ms (fun x m => wr ds m (fun xs m2 => P (x :: xs) m2) Xp) Xp
def wStar (we : WE) (wr : WA) : WA := fun ds ms P Xp => we ds ms (fun x m => match sqOf x m with | some ys => wr ds m (fun xs m2 => P (ys.map D.p ++ xs) m2) Xp | none => False) Xp
theorem RepDs.mono {i j : List Addr} {G G' : Hp} {vs : List V} {xs : List D} (h : RepDs K i G vs xs) (p : i <+: j) (e : Same G G') : RepDs K j G' vs xs := L2.Paired.mapP h fun _ _ r => r.mono p e
theorem RepDs.ext {cs cs' : Cs} {G G' : Hp} {vs : List V} {xs : List D} (h : RepDs K (io cs) G vs xs) (e : Ext cs G cs' G') : RepDs K (io cs') G' vs xs := RepDs.mono h e.pre e.same
theorem RepDs.ofA {i : List Addr} {G : Hp} : ∀ {vs : List V} {xs : List PD}, RepA K G vs xs → RepDs K i G vs (xs.map D.p)
  | _, _, .nil => .nil
  | _, _, .cons h1 h2 => .cons h1 (RepDs.ofA h2)
theorem RepDs.append {i : List Addr} {G : Hp} : ∀ {vs us : List V} {xs ys : List D}, RepDs K i G vs xs → RepDs K i G us ys → RepDs K i G (vs ++ us) (xs ++ ys)
  | _, _, _, _, .nil, h => h
  | _, _, _, _, .cons h1 h2, h => .cons h1 (RepDs.append h2 h)
theorem RepDs.all {i : List Addr} {G : Hp} : ∀ {vs : List V} {xs : List PD}, RepDs K i G vs (xs.map D.p) → RepA K G vs xs
  | [], [], _ => .nil
  | v :: vs, x :: xs, h => by
    cases h with
    | cons h1 h2 => exact .cons h1 (RepDs.all h2)
  | v :: vs, [], h => nomatch h
  | [], x :: xs, h => nomatch h
theorem da_nil : DA X Wx [] wNil := PA.imp pa_nil fun σ H Q h => by
  obtain ⟨A, G, cs, ms, ds, P, Xp, s, h, q, x⟩ := h
  exact q [] [] G H cs ms s (Ext.refl _ _) .nil h
theorem da_cons {wr : WA} (he : DE X Wx e we) (hr : DA X Wx es wr) (hs : starEach (e :: es) X.env = (false, eval e X.env) :: starEach es X.env := by rfl) : DA X Wx (e :: es) (wCons we wr) := PA.imp (pa_cons he hr hs) fun σ H Q h => by
  obtain ⟨A, G, cs, ms, ds, P, Xp, s, h, q, x⟩ := h
  refine ⟨A, G, cs, ms, ds, _, Xp, s, h, fun v d G1 H1 cs1 ms1 s1 e1 r1 h1 => ?_, x⟩
  exact ⟨A, G1, cs1, ms1, ds, _, Xp, s1, h1, fun vs xs G2 H2 cs2 ms2 s2 e2 r2 h2 => q (v :: vs) (d :: xs) G2 H2 cs2 ms2 s2 (e1.trans e2) (.cons (r1.ext e2) r2) h2, x.ext e1⟩
theorem da_star {wr : WA} {p : Pos} (he : DE X Wx e we) (hr : DA X Wx es wr) (hs : starEach (.Starred e p :: es) X.env = (true, eval e X.env) :: starEach es X.env := by rfl) : DA X Wx (.Starred e p :: es) (wStar we wr) := PA.imp (StX.pa_star he hr hs) fun σ H Q h => by
  obtain ⟨A, G, cs, ms, ds, P, Xp, s, h, q, x⟩ := h
  refine ⟨A, G, cs, ms, ds, _, Xp, s, h, fun v d G1 H1 cs1 ms1 s1 e1 r1 h1 => ?_, x⟩
  try dsimp only at h1
  split at h1
  · rename_i ys e
    obtain ⟨p', vs, rfl, h3, h4⟩ := sq_of s1 r1 e
    refine ⟨p', vs, rfl, ?_, ⟨A, G1, cs1, ms1, ds, _, Xp, s1, h1, fun us xs G2 H2 cs2 ms2 s2 e2 r2 h2 => q (vs ++ us) (ys.map D.p ++ xs) G2 H2 cs2 ms2 s2 (e1.trans e2) (RepDs.append (RepDs.ofA (h4.mono e2.same)) r2) h2, x.ext e1⟩⟩
    rcases h3 with h3 | h3
    · exact .inr (SqL.of h3)
    · exact .inl h3
  · exact h1.elim
def allP : List D → Option (List PD)
  | [] => some []
  | .p x :: r => (match allP r with | some xs => some (x :: xs) | none => none)
  | .c _ :: _ => none
theorem allP_some : ∀ {xs : List D} {ys : List PD}, allP xs = some ys → xs = ys.map D.p
  | [], ys, h => by
    have : ys = [] := (Option.some.inj h).symm
    subst this
    rfl
  | .p x :: r, ys, h => by
    unfold allP at h
    split at h
    · rename_i zs e
      have := (Option.some.inj h).symm
      subst this
      rw [allP_some e]
      rfl
    · cases h
  | .c _ :: _, ys, h => by cases h
theorem allP_map : ∀ ys : List PD, allP (ys.map D.p) = some ys
  | [] => rfl
  | y :: r => by
    show (match allP (r.map D.p) with | some xs => some (y :: xs) | none => none) = _
    rw [allP_map r]
theorem allP_app : ∀ (ys : List PD) (xs : List D), allP (ys.map D.p ++ xs) = (allP xs).map (ys ++ ·)
  | [], xs => by
    rw [List.map_nil, List.nil_append]
    cases allP xs <;> simp
  | y :: r, xs => by
    show (match allP (r.map D.p ++ xs) with | some xs => some (y :: xs) | none => none) = _
    rw [allP_app r xs]
    cases allP xs <;> simp
def wTup (wr : WA) : WE := fun ds ms P Xp => wr ds ms (fun xs m => match allP xs with | some ys => ys.length ≤ big ∧ P (.p (.tup ys)) m | none => False) Xp
def wLst (wr : WA) : WE := fun ds ms P Xp => wr ds ms (fun xs m => match allP xs with | some ys => ys.length ≤ big ∧ P (.p (.lst ys)) m | none => False) Xp
def wLstC (wr : WA) : WE := fun ds ms P Xp => wr ds ms (fun xs m => match allP xs with | some ys => ys.length ≤ big ∧ P (.c m.length) (m ++ [.lst ys]) | none => False) Xp
theorem de_tup {wr : WA} {x1} (h : DA X Wx es wr) : DE X Wx (.Tuple es x1 pos) (wTup wr) := PE.imp (pe_tup h) fun σ H Q h => by
  obtain ⟨A, G, cs, ms, ds, P, Xp, s, h, q, x⟩ := h
  refine ⟨A, G, cs, ms, ds, _, Xp, s, h, fun vs xs G1 H1 cs1 ms1 s1 e1 r1 h1 => ?_, x⟩
  try dsimp only at h1
  split at h1
  · rename_i ys e
    rw [allP_some e] at r1
    have r := RepDs.all r1
    exact ⟨by rw [r.length]; exact big_ok h1.1, fun p hp => (q.ext e1).tup s1 r h1.2 p hp⟩
  · exact h1.elim
theorem de_lst {wr : WA} (h : DA X Wx es wr) : DE X Wx (.List es pos) (wLst wr) := PE.imp (pe_lst h) fun σ H Q h => by
  obtain ⟨A, G, cs, ms, ds, P, Xp, s, h, q, x⟩ := h
  refine ⟨A, G, cs, ms, ds, _, Xp, s, h, fun vs xs G1 H1 cs1 ms1 s1 e1 r1 h1 => ?_, x⟩
  try dsimp only at h1
  split at h1
  · rename_i ys e
    rw [allP_some e] at r1
    have r := RepDs.all r1
    exact ⟨by rw [r.length]; exact big_ok h1.1, fun p hp => (q.ext e1).lst s1 r h1.2 p hp⟩
  · exact h1.elim
theorem de_lstC {wr : WA} (h : DA X Wx es wr) : DE X Wx (.List es pos) (wLstC wr) := PE.imp (pe_lst h) fun σ H Q h => by
  obtain ⟨A, G, cs, ms, ds, P, Xp, s, h, q, x⟩ := h
  refine ⟨A, G, cs, ms, ds, _, Xp, s, h, fun vs xs G1 H1 cs1 ms1 s1 e1 r1 h1 => ?_, x⟩
  try dsimp only at h1
  split at h1
  · rename_i ys e
    rw [allP_some e] at r1
    have r := RepDs.all r1
    exact ⟨by rw [r.length]; exact big_ok h1.1, fun p hp => (q.ext e1).cellL s1 r h1.2 p hp⟩
  · exact h1.elim
end
end DL

set_option Elab.async false
set_option linter.all false
set_option maxRecDepth 100000
set_option maxHeartbeats 4000000
namespace DL
open PySem L2
section
variable {X : Cx} {K : Frg} {Wx : WX} {σ : L2.St} {H : Hp} {a b c e : Expr} {wa wb wc we : WE} {pos : Pos} {es : List Expr} {st : Stmt} {sts : List Stmt} {w w1 w2 : WS}
/-! ### blocks -/
def wNext : WS := fun E ds ms => E.nx ds ms
def wSeq (w1 w2 : WS) : WS := fun E ds ms => w1 { E with nx := w2 E } ds ms
theorem dss_nil : DSs X Wx [] wNext := PSs.imp pss_nil fun D σ H h => by
  obtain ⟨A, G, cs, ms, ds, E, s, h, n, r, b, c, y⟩ := h
  exact n σ ds G H cs ms s (Ext.refl _ _) h
theorem dss_cons (h1 : DS X Wx st w1) (h2 : DSs X Wx sts w2) : DSs X Wx (st :: sts) (wSeq w1 w2) := PSs.imp (pss_cons h1 h2) fun D σ H h => by
  obtain ⟨A, G, cs, ms, ds, E, s, h, n, r, b, c, y⟩ := h
  refine ⟨A, G, cs, ms, ds, { E with nx := w2 E }, s, h, fun σ' ds' G' H' cs' ms' s' e' h' => ?_, r, b, c, y⟩
  exact ⟨A, G', cs', ms', ds', E, s', h', n.ext e', r.ext e', b.ext e', c.ext e', y.ext e'⟩
theorem dss_one (h1 : DS X Wx st w1) : DSs X Wx [st] w1 := pss_one h1
def wNever : WS := fun _ _ _ => False
theorem ds_never : DS X Wx st wNever := PS.imp ps_never fun D σ H h => by
  obtain ⟨A, G, cs, ms, ds, E, s, h, _⟩ := h
  exact h
theorem dss_never : DSs X Wx sts wNever := PSs.imp pss_never fun D σ H h => by
  obtain ⟨A, G, cs, ms, ds, E, s, h, _⟩ := h
  exact h
theorem ds_pass : DS X Wx (.Pass pos) wNext := PS.imp ps_pass fun D σ H h => by
  obtain ⟨A, G, cs, ms, ds, E, s, h, n, r, b, c, y⟩ := h
  exact n σ ds G H cs ms s (Ext.refl _ _) h
def wBreak : WS := fun E ds ms => E.bk ds ms
def wCont : WS := fun E ds ms => E.ct ds ms
theorem ds_break : DS X Wx (.Break pos) wBreak := PS.imp ps_break fun D σ H h => by
  obtain ⟨A, G, cs, ms, ds, E, s, h, n, r, b, c, y⟩ := h
  exact b σ ds G H cs ms s (Ext.refl _ _) h
theorem ds_cont : DS X Wx (.Continue pos) wCont := PS.imp ps_continue fun D σ H h => by
  obtain ⟨A, G, cs, ms, ds, E, s, h, n, r, b, c, y⟩ := h
  exact c σ ds G H cs ms s (Ext.refl _ _) h
def En.xp (E : En) (ds : De) : XP := fun C fs m => E.ex C fs ds m
def wDrop (we : WE) : WS := fun E ds ms => we ds ms (fun _ m => E.nx ds m) (E.xp ds)
theorem ds_expr (he : DE X Wx e we) (hs : swapsWith e none pos.line X.env = pure false := by rfl) : DS X Wx (.Expr e pos) (wDrop we) := PS.imp (ps_expr he hs) fun D σ H h => by
  obtain ⟨A, G, cs, ms, ds, E, s, h, n, r, b, c, y⟩ := h
  exact ⟨A, G, cs, ms, ds, _, _, s, h, fun v d G' H' cs' ms' s' e' r' h' => n σ ds G' H' cs' ms' s' e' h', y.at_⟩
def wRet (we : WE) : WS := fun E ds ms => we ds ms E.rt (E.xp ds)
theorem ds_ret (he : DE X Wx e we) : DS X Wx (.Return (some e) pos) (wRet we) := PS.imp (ps_ret he) fun D σ H h => by
  obtain ⟨A, G, cs, ms, ds, E, s, h, n, r, b, c, y⟩ := h
  exact ⟨A, G, cs, ms, ds, _, _, s, h, fun v d G' H' cs' ms' s' e' r' h' => r v d σ ds G' H' cs' ms' s' e' r' h', y.at_⟩
/-- return of a cell that stays from now on -/
def frz (d : D) (m : Mu) (P : PDn) : Prop := match d with
  | .c n => (match m[n]? with | some (.lst xs) => P (.p (.lst xs)) (m.set n .gone) | _ => False)
  | .p x => P (.p x) m
theorem foot_keep {cs : Cs} {n : Nat} {p : Addr} {fp : List Addr} (hc : cs[n]? = some (p, fp)) (a : Addr) (ha : a ∈ foot (cs.set n (p, []))) : a ∈ foot cs ∧ ((foot cs).Nodup → a ∉ fp) := by
  obtain ⟨c, hc1, hc2⟩ := List.mem_flatMap.mp ha
  obtain ⟨m, hm⟩ := List.getElem?_of_mem hc1
  by_cases e : n = m
  · subst e
    rw [List.getElem?_set_self (List.getElem?_eq_some_iff.mp hc).1] at hm
    have : c = (p, []) := (Option.some.inj hm).symm
    subst this
    cases hc2
  · rw [List.getElem?_set_ne e] at hm
    exact ⟨foot_mem hm hc2, fun nd hf => getElem?_flatMap_ne nd hm hc (Ne.symm e) a hc2 hf⟩
theorem foot_set_nodup : ∀ {cs : Cs} {n : Nat} {p : Addr}, (foot cs).Nodup → (foot (cs.set n (p, []))).Nodup := by
  intro cs
  induction cs with
  | nil => intro n p h; exact h
  | cons c r ih =>
    intro n p h
    have h' : (c.2 ++ foot r).Nodup := h
    obtain ⟨h1, h2, h3⟩ := List.nodup_append.mp h'
    cases n with
    | zero =>
      show (([] : List Addr) ++ foot r).Nodup
      exact h2
    | succ n =>
      show (c.2 ++ foot (r.set n (p, []))).Nodup
      refine List.nodup_append.mpr ⟨h1, ih h2, fun a ha b hb => h3 a ha b ?_⟩
      obtain ⟨d, hd1, hd2⟩ := List.mem_flatMap.mp hb
      rcases List.mem_or_eq_of_mem_set hd1 with z | z
      · exact List.mem_flatMap.mpr ⟨d, z, hd2⟩
      · subst z; cases hd2
theorem io_set {cs : Cs} {n : Nat} {p : Addr} {fp : List Addr} (hc : cs[n]? = some (p, fp)) : io (cs.set n (p, [])) = io cs := by
  unfold io
  rw [List.map_set]
  have e : (cs.map (·.1))[n]? = some p := by rw [List.getElem?_map, hc]; rfl
  refine List.ext_getElem? fun j => ?_
  by_cases hj : n = j
  · subst hj
    rw [List.getElem?_set_self (List.getElem?_eq_some_iff.mp e).1, e]
  · rw [List.getElem?_set_ne hj]
/-- a cell that holds a list stays from now on -/
theorem St.freeze {A : Amb} {G : Hp} {cs : Cs} {ms : Mu} {ds : De} (s : St K A G H cs ms σ ds) {n : Nat} {p : Addr} (hio : (io cs)[n]? = some p) {xs : List PD} (hm : ms[n]? = some (.lst xs)) (hA : A.S = [] ∨ A.H p = none) :
    ∃ G' cs', St K A G' H cs' (ms.set n .gone) σ ds ∧ Ext cs G cs' G' ∧ Rep K G' (.ref p) (.lst xs) := by
  obtain ⟨fp, hc⟩ := io_at hio
  obtain ⟨rfl, vs, h1, h2⟩ := s.k.cell n p fp _ hc hm
  have hpf : p ∈ foot cs := foot_mem hc (by simp)
  have hG : G p = none := s.k.gn p hpf
  have hAp : A.H p = none := by
    rcases hA with z | z
    · rcases s.own p hpf with q | q
      · exact q
      · rw [z] at q; cases q
    · exact z
  have sg : Same G (upd G p (.lst vs)) := fun b u e => by rw [upd_ne (ne_of_none e hG)]; exact e
  have hn : n < ms.length := (List.getElem?_eq_some_iff.mp hm).1
  have hne : ∀ a ∈ foot (cs.set n (p, [])), a ≠ p := fun a ha e => by
    subst e
    exact (foot_keep hc a ha).2 s.k.nd (by simp)
  refine ⟨upd G p (.lst vs), cs.set n (p, []), ⟨s.gg.trans sg, s.hh, fun a q1 q2 => ?_, fun a ha => s.own a (foot_keep hc a ha).1, ⟨fun b u e => ?_, by rw [List.length_set, List.length_set]; exact s.k.len, fun k p' fp' m q1 q2 => ?_, fun a ha => ?_, fun a ha => s.k.hs a (foot_keep hc a ha).1, foot_set_nodup s.k.nd⟩, ?_⟩, ⟨by rw [io_set hc]; exact List.prefix_refl _, sg⟩, .lst upd_same (h2.mono sg)⟩
  · obtain ⟨e1, e2⟩ := s.out a q1 q2
    have ne : a ≠ p := fun e => q2 (e ▸ hAp)
    rw [upd_ne ne]
    exact ⟨e1, e2⟩
  · by_cases hb : b = p
    · subst hb
      rw [upd_same] at e
      rw [← e]
      exact h1
    · rw [upd_ne hb] at e
      exact s.k.gh b u e
  · rw [io_set hc]
    by_cases hk : n = k
    · subst hk
      rw [List.getElem?_set_self hn] at q2
      rw [List.getElem?_set_self (List.getElem?_eq_some_iff.mp hc).1] at q1
      cases q2
      cases q1
      rfl
    · rw [List.getElem?_set_ne hk] at q1 q2
      exact (s.k.cell k p' fp' m q1 q2).mono (List.prefix_refl _) sg fun a _ => rfl
  · rw [upd_ne (hne a ha)]
    exact s.k.gn a (foot_keep hc a ha).1
  · rw [io_set hc]
    exact s.env.mono (List.prefix_refl _) sg
def wSet (i : Nat) (we : WE) : WS := fun E ds ms => we ds ms (fun d m => E.nx (ds.set i (some d)) m) (E.xp ds)
theorem s_set {i : Nat} {D : Ends} (h : canS K Wx (wSet i we) D σ H) : tAsg (canE K Wx we) (gName i) D σ H := by
  obtain ⟨A, G, cs, ms, ds, E, s, h, n, r, b, c, y⟩ := h
  exact ⟨A, G, cs, ms, ds, _, _, s, h, fun v d G' H' cs' ms' s' e' r' h' => n _ _ G' H' cs' ms' (s'.envs (s'.env.set i r')) e' h', y.at_⟩
theorem ds_set {i : Nat} {x : Str} {pos' : Pos} (hN : X.N.Nodup) (he : DE X Wx e we) (hi : X.N[i]? = some x := by rfl) (hx : Loc X.env.scope x := by first | exact Or.inl rfl | exact Or.inr rfl) (hs : swapsWith e (some (.Name x pos')) pos.line X.env = pure false := by rfl) (hf : X.fn x = true ∨ X.env.scope.names.lookup x = some .local := by first | exact .inl rfl | exact .inr rfl | assumption) :
    DS X Wx (.Assign [.Name x pos'] e pos) (wSet i we) := PS.imp (ps_set hN hi hx he hs hf) fun _ _ _ => s_set
def wPar (i j : Nat) (wa : WA) : WS := fun E ds ms => wa ds ms (fun xs m => match xs with | [x, y] => E.nx ((ds.set i (some x)).set j (some y)) m | _ => False) (E.xp ds)
theorem ds_par {i j : Nat} {x y : Str} {wa : WA} {px py pt : Pos} {kt k2 pt2} (hc : X.calm = true) (hN : X.N.Nodup) (ha : DA X Wx [a, b] wa) (hi : X.N[i]? = some x := by rfl) (hj : X.N[j]? = some y := by rfl) (hij : i ≠ j := by decide)
    (hx : X.env.scope.names.lookup x = some .local := by rfl) (hy : X.env.scope.names.lookup y = some .local := by rfl)
    (hw : swappedStores [.Tuple [.Name x px, .Name y py] kt pt] (.Tuple [a, b] k2 pt2) X.env = pure (some [x, y]) := by rfl)
    (hs : swapsWithSole [.Tuple [.Name x px, .Name y py] kt pt] (.Tuple [a, b] k2 pt2) pos.line X.env = pure false := by rfl) :
    DS X Wx (.Assign [.Tuple [.Name x px, .Name y py] kt pt] (.Tuple [a, b] k2 pt2) pos) (wPar i j wa) := PS.imp (ps_par hc hN hi hj hij hx hy ha hw hs) fun D σ H h => by
  obtain ⟨A, G, cs, ms, ds, E, s, h, n, r, b', c, y⟩ := h
  refine ⟨A, G, cs, ms, ds, _, _, s, h, fun vs xs G' H' cs' ms' s' e' r' h' => ?_, y.at_⟩
  try dsimp only at h'
  split at h'
  · cases r' with
    | cons r1 rr =>
      cases rr with
      | cons r2 rr =>
        cases rr
        exact ⟨_, _, rfl, n _ _ G' H' cs' ms' (s'.envs ((s'.env.set i r1).set j r2)) e' h'⟩
  · exact h'.elim
def wIfS (t : WT) (w1 w2 : WS) : WS := fun E ds ms => t ds ms (fun k m => if k = true then w1 E ds m else w2 E ds m) (E.xp ds)
theorem ds_if {t : WT} {sb : List Stmt} (hc : DT X Wx c t) (h1 : DSs X Wx sts w1) (h2 : DSs X Wx sb w2) : DS X Wx (.If c sts sb pos) (wIfS t w1 w2) := PS.imp (ps_if hc h1 h2) fun D σ H h => by
  obtain ⟨A, G, cs, ms, ds, E, s, h, n, r, b, c, y⟩ := h
  refine ⟨A, G, cs, ms, ds, _, _, s, h, fun k G1 H1 cs1 ms1 s1 e1 h1 => ?_, y.at_⟩
  cases k with
  | true => exact ⟨A, G1, cs1, ms1, ds, E, s1, h1, n.ext e1, r.ext e1, b.ext e1, c.ext e1, y.ext e1⟩
  | false => exact ⟨A, G1, cs1, ms1, ds, E, s1, h1, n.ext e1, r.ext e1, b.ext e1, c.ext e1, y.ext e1⟩
/-! ### targets -/
abbrev DG (X : Cx) (vs : List Nat) (t : Expr) (w : WG) : Prop := PG X t (canG X.K vs w)
abbrev DGs (X : Cx) (vs : List Nat) (t : List Expr) (w : WGs) : Prop := PGs X t (canGs X.K vs w)
def wgName (i : Nat) : WG := fun d ds ms N => N (ds.set i (some d)) ms
theorem wipe_set {σ : L2.St} {i : Nat} {x : Option V} : ∀ {vs : List Nat}, i ∈ vs → L2.wipe (σ.set i x) vs = L2.wipe σ vs
  | v :: vs, h => by
    unfold L2.wipe
    by_cases e : i ∈ vs
    · rw [wipe_set e]
    · have hv : i = v := by
        rcases List.mem_cons.mp h with z | z
        · exact z
        · exact absurd z e
      subst hv
      have : ∀ (ws : List Nat), i ∉ ws → L2.wipe (σ.set i x) ws = (L2.wipe σ ws).set i x := by
        intro ws
        induction ws with
        | nil => intro _; rfl
        | cons w ws ih =>
          intro hn
          unfold L2.wipe
          rw [ih (fun z => hn (List.mem_cons_of_mem _ z)), List.set_comm]
          exact fun z => hn (z ▸ List.mem_cons_self)
      rw [this vs e, List.set_set]
theorem dg_name {vs : List Nat} {i : Nat} {x : Str} (hN : X.N.Nodup) (hm : i ∈ vs := by decide) (hi : X.N[i]? = some x := by rfl) (hx : Loc X.env.scope x := by first | exact Or.inl rfl | exact Or.inr rfl) (hf : X.fn x = true ∨ X.env.scope.names.lookup x = some .local := by first | exact .inl rfl | exact .inr rfl | assumption) : DG X vs (.Name x pos) (wgName i) :=
  PG.imp (pg_name hN hi hx hf) fun v σ H Q h => by
    obtain ⟨A, G, cs, ms, ds, d, N, s, r, h, q⟩ := h
    exact q _ _ G H cs ms (s.envs (s.env.set i r)) (Ext.refl _ _) (wipe_set hm) h
def wgNil : WGs := fun xs ds ms N => match xs with | [] => N ds ms | _ => False
def wgCons (g : WG) (gs : WGs) : WGs := fun xs ds ms N => match xs with | x :: r => g x ds ms (fun ds' ms' => gs r ds' ms' N) | [] => False
theorem dgs_nil {vs : List Nat} : DGs X vs [] wgNil := PGs.imp pgs_nil fun us σ H Q h => by
  obtain ⟨A, G, cs, ms, ds, xs, N, s, r, h, q⟩ := h
  unfold wgNil at h
  split at h
  · cases r
    exact ⟨rfl, q σ ds G H cs ms s (Ext.refl _ _) rfl h⟩
  · exact h.elim
theorem dgs_cons {vs : List Nat} {g : WG} {gs : WGs} (h1 : DG X vs e g) (h2 : DGs X vs es gs) (hs : (assignEach (e :: es) X.env).map (·.2) = assign e X.env :: (assignEach es X.env).map (·.2) := by rfl) : DGs X vs (e :: es) (wgCons g gs) := PGs.imp (pgs_cons h1 h2 hs) fun us σ H Q h => by
  obtain ⟨A, G, cs, ms, ds, xs, N, s, r, h, q⟩ := h
  unfold wgCons at h
  split at h
  · cases r with
    | cons r1 r2 =>
      refine ⟨_, _, rfl, A, G, cs, ms, ds, _, _, s, r1, h, fun σ' ds' G' H' cs' ms' s' e' hw h' => ?_⟩
      exact ⟨A, G', cs', ms', ds', _, _, s', RepDs.ext r2 e', h', fun σ2 ds2 G2 H2 cs2 ms2 s2 e2 hw2 h2 => q σ2 ds2 G2 H2 cs2 ms2 s2 (e'.trans e2) (hw2.trans hw) h2⟩
  · exact h.elim
def tupOf (d : D) (n : Nat) : Option (List PD) := match d with | .p (.tup xs) => if xs.length = n then some xs else none | _ => none
def wgTup (n : Nat) (gs : WGs) : WG := fun d ds ms N => match tupOf d n with | some xs => gs (xs.map D.p) ds ms N | none => False
theorem tupOf_some {d : D} {n : Nat} {xs : List PD} (h : tupOf d n = some xs) : d = .p (.tup xs) ∧ xs.length = n := by
  unfold tupOf at h
  split at h
  · split at h
    · cases h
      exact ⟨rfl, by assumption⟩
    · cases h
  · cases h
theorem dg_tup {vs : List Nat} {gs : WGs} {n k : Nat} (hc : X.calm = true) (h : DGs X vs es gs) (hn : (assignEach es X.env).length = n := by rfl) (hst : (assignEach es X.env).findIdx? (·.1) = none := by rfl) : DG X vs (.Tuple es k pos) (wgTup n gs) := PG.imp (pg_tup hc h hn hst) fun v σ H Q h => by
  obtain ⟨A, G, cs, ms, ds, d, N, s, r, h, q⟩ := h
  unfold wgTup at h
  split at h
  · rename_i xs e
    obtain ⟨rfl, hl⟩ := tupOf_some e
    have z : Rep X.K G v (.tup xs) := r
    cases z with
    | @tup a vs' _ a1 a2 =>
      exact ⟨a, vs', rfl, same_sqT s.k.gh a1, by rw [a2.length]; exact hl, A, G, cs, ms, ds, _, _, s, RepDs.ofA a2, h, q⟩
  · exact h.elim
/-- x[i] = d, x a cell -/
def putC (o i d : D) (m : Mu) (N : Mu → Prop) : Prop := match o, i, d with
  | .c n, .p (.int k), .p x => (match m[n]? with | some (.lst xs) => (match ixN xs.length k with | some j => N (m.set n (.lst (xs.set j x))) | none => False) | _ => False)
  | _, _, _ => False
theorem s_putC {A : Amb} {G : Hp} {cs : Cs} {ms : Mu} {ds : De} {o i v : V} {od idd d : D} {N : Mu → Prop} {Q : Hp → Prop} (s : St K A G H cs ms σ ds) (ro : RepD K (io cs) G o od) (ri : RepD K (io cs) G i idd) (rv : RepD K (io cs) G v d) (h : putC od idd d ms N)
    (q : ∀ H' ms', St K A G H' cs ms' σ ds → N ms' → Q H') : rSetL o i v H Q := by
  unfold putC at h
  split at h
  · rename_i n k x
    obtain ⟨p, hp, rfl⟩ := ro
    have z : Rep K G i (.int k) := ri
    cases z
    split at h
    · rename_i xs e
      split at h
      · rename_i j ej
        obtain ⟨fp, hc⟩ := io_at hp
        obtain ⟨rfl, vs, h1, h2⟩ := s.k.cell n p fp _ hc e
        refine ⟨p, vs, k, j, rfl, rfl, h1, by rw [h2.length]; exact ej, q _ _ (s.write hc _ (m := .lst (xs.set j x)) ⟨rfl, _, upd_same, RepA.set rv j h2⟩) h⟩
      · exact h.elim
    · exact h.elim
  · exact h.elim
def wgSub (wo wi : WE) : WG := fun d ds ms N => wo ds ms (fun o m1 => wi ds m1 (fun i m2 => putC o i d m2 (fun m3 => N ds m3)) noX) noX
theorem dg_sub {o i : Expr} {wo wi : WE} (ho : DE X Wx o wo) (hi : DE X Wx i wi) (vs : List Nat) : PG X (.Subscript o i pos) (gSub (canE X.K Wx wo) (canE X.K Wx wi) rSetL) → DG X vs (.Subscript o i pos) (wgSub wo wi) := fun h => PG.imp h fun v σ H Q h => by
  obtain ⟨A, G, cs, ms, ds, d, N, s, r, h, q⟩ := h
  refine ⟨A, G, cs, ms, ds, _, _, s, h, fun x d1 G1 H1 cs1 ms1 s1 e1 r1 h1 => ?_, CoX.no⟩
  refine ⟨A, G1, cs1, ms1, ds, _, _, s1, h1, fun y d2 G2 H2 cs2 ms2 s2 e2 r2 h2 => ?_, CoX.no⟩
  exact s_putC s2 (r1.ext e2) r2 ((r.ext e1).ext e2) h2 fun H3 ms3 s3 h3 => q σ ds G2 H3 cs2 ms3 s3 (e1.trans e2) rfl h3
def wAsg (we : WE) (g : WG) : WS := fun E ds ms => we ds ms (fun d m => g d ds m E.nx) (E.xp ds)
theorem ds_asg {vs : List Nat} {tg : Expr} {g : WG} (he : DE X Wx e we) (hg : DG X vs tg g) (hs : swapsWithSole [tg] e pos.line X.env = pure false := by rfl) (hw : swappedStores [tg] e X.env = pure none := by rfl)
    (h1 : (assignEach [tg] X.env).map (·.2) = [assign tg X.env] := by rfl) : DS X Wx (.Assign [tg] e pos) (wAsg we g) := PS.imp (ps_asg he hg hs hw h1) fun D σ H h => by
  obtain ⟨A, G, cs, ms, ds, E, s, h, n, r, b, c, y⟩ := h
  exact ⟨A, G, cs, ms, ds, _, _, s, h, fun v d G' H' cs' ms' s' e' r' h' => ⟨A, G', cs', ms', ds, d, _, s', r', h', fun σ2 ds2 G2 H2 cs2 ms2 s2 e2 _ h2 => n σ2 ds2 G2 H2 cs2 ms2 s2 (e'.trans e2) h2⟩, y.at_⟩
/-- o[i] = e -/
theorem ds_sub {o i : Expr} {wo wi : WE} {tp : Pos} (he : DE X Wx e we) (ho : DE X Wx o wo) (hi : DE X Wx i wi) (hg : PG X (.Subscript o i tp) (gSub (canE X.K Wx wo) (canE X.K Wx wi) rSetL) := by exact pg_sub (by assumption) (by assumption) set_list) 
    (hs : swapsWithSole [.Subscript o i tp] e pos.line X.env = pure false := by rfl) (hw : swappedStores [.Subscript o i tp] e X.env = pure none := by rfl)
    (h1 : (assignEach [.Subscript o i tp] X.env).map (·.2) = [assign (.Subscript o i tp) X.env] := by rfl) : DS X Wx (.Assign [.Subscript o i tp] e pos) (wAsg we (wgSub wo wi)) :=
  ds_asg (vs := []) he (dg_sub ho hi [] hg) hs hw h1
/-- name op= e, whole numbers -/
def wAug (i : Nat) (f : F2) (we : WE) : WS := fun E ds ms => match dAt ds i with | some x => we ds ms (fun y m => f x y m (fun z m2 => E.nx (ds.set i (some z)) m2)) (E.xp ds) | none => False
def fAddI : F2 := fun x y m P => match x, y with | .p (.int i), .p (.int j) => P (.p (.int (i + j))) m | _, _ => False
theorem so_addI : SOp K (ipI fun i j => i + j) fAddI := SOp.I0 fun _ _ _ => .int _
theorem ds_aug {i : Nat} {x : Str} {pos' : Pos} (hN : X.N.Nodup) (he : DE X Wx e we) (hi : X.N[i]? = some x := by rfl) (hx : Loc X.env.scope x := by first | exact Or.inl rfl | exact Or.inr rfl) (hf : X.fn x = true ∨ X.env.scope.names.lookup x = some .local := by first | exact .inl rfl | exact .inr rfl | assumption) :
    DS X Wx (.AugAssign (.Name x pos') .Add e pos) (wAug i fAddI we) := PS.imp (ps_aug hN hi hx he ip_add hf) fun D σ H h => by
  obtain ⟨A, G, cs, ms, ds, E, s, h, n, r, b, c, y⟩ := h
  unfold wAug at h
  split at h
  · rename_i d e
    obtain ⟨v, h1, h2⟩ := s.env.2 i d (dAt_some e)
    refine ⟨v, h1, A, G, cs, ms, ds, _, _, s, h, fun u d2 G' H' cs' ms' s' e' r' h' => ?_, y.at_⟩
    exact so_addI s' (h2.ext e') r' h' fun w d3 G2 H2 cs2 ms2 s2 e2 r2 h3 => n _ _ G2 H2 cs2 ms2 (s2.envs (s2.env.set i r2)) (e'.trans e2) h3
  · exact h.elim
/-- o[i] += e, o a list of whole numbers -/
theorem get_list : PGet X (rIxL X.K) := by
  intro pins s σ H o i ov iv Q I ro ri h
  obtain ⟨p, xs, k, v, rfl, rfl, hq, ha, q⟩ := h
  cases ro
  obtain ⟨t, rfl⟩ := ri
  obtain ⟨its, rv, pl, hz⟩ := I.list hq
  obtain ⟨j, e1, e2, e3, e4, e5⟩ := atI_get ha
  obtain ⟨u, hu, ru⟩ := rv.get e2
  have hl := rv.length
  have hn := line63
  have fin : EP X pins σ Q u s := ⟨v, H, I, ru, q⟩
  by_cases h0 : 0 ≤ k
  · have hk : k.toNat = j := by
      rw [seqIndex_of h0 e5] at e1
      exact Option.some.inj e1
    exact wpAny_getItem_list pl.isList h0 (by omega) (by rw [hk]; simpa using hu) fin
  · have hk : (k + (its.toArray.size : Int)).toNat = j := by
      rw [seqIndex_neg (by omega) e4] at e1
      have := Option.some.inj e1
      rw [List.size_toArray, ← hl]
      exact this
    exact wpAny_getItem_list_neg pl.isList (by omega) (by rw [List.size_toArray, ← hl]; exact e4) (by omega) (by rw [hk]; simpa using hu) fin
def fIxL : F2 := fun x y m P => match y with | .p (.int i) => (match lsOf x m with | some xs => (match L2.atI xs i with | some d => P (.p d) m | none => False) | none => False) | _ => False
theorem so_ixL : SOp K (rIxL K) fIxL := by
  intro A G H cs ms σ ds x y dx dy P Q s h1 h2 h q
  unfold fIxL at h
  split at h
  · rename_i i
    have z : Rep K G y (.int i) := h2
    cases z
    split at h
    · rename_i xs e
      split at h
      · rename_i d e2
        obtain ⟨p, vs, rfl, h3, h4⟩ := ls_of s h1 e
        obtain ⟨v, a1, a2⟩ := atI_rep h4 e2
        exact ⟨p, vs, i, v, rfl, rfl, SqL.of h3, a1, q.ret s a2 h⟩
      · exact h.elim
    · exact h.elim
  · exact h.elim
def wAugS (wo wi : WE) (f : F2) (we : WE) : WS := fun E ds ms => wo ds ms (fun o m1 => wi ds m1 (fun i m2 => fIxL o i m2 (fun x m3 => we ds m3 (fun y m4 => f x y m4 (fun z m5 => putC o i z m5 (fun m6 => E.nx ds m6))) (E.xp ds))) (E.xp ds)) (E.xp ds)
theorem ds_augS {o i : Expr} {wo wi : WE} {tp : Pos} (ho : DE X Wx o wo) (hi : DE X Wx i wi) (he : DE X Wx e we)
    (ha : ∀ ov iv new, augStore i ov iv new = (do holding [new, ov, iv] (setItem ov iv new); release [new, ov, iv] []; pure .next) := by intros; rfl) : DS X Wx (.AugAssign (.Subscript o i tp) .Add e pos) (wAugS wo wi fAddI we) := PS.imp (ps_augS ho hi get_list he ip_add set_list ha) fun D σ H h => by
  obtain ⟨A, G, cs, ms, ds, E, s, h, n, r, b, c, y⟩ := h
  refine ⟨A, G, cs, ms, ds, _, _, s, h, fun x d1 G1 H1 cs1 ms1 s1 e1 r1 h1 => ?_, y.at_⟩
  refine ⟨A, G1, cs1, ms1, ds, _, _, s1, h1, fun z d2 G2 H2 cs2 ms2 s2 e2 r2 h2 => ?_, y.at_.ext e1⟩
  refine so_ixL s2 (r1.ext e2) r2 h2 fun u d3 G3 H3 cs3 ms3 s3 e3 r3 h3 => ?_
  refine ⟨A, G3, cs3, ms3, ds, _, _, s3, h3, fun t d4 G4 H4 cs4 ms4 s4 e4 r4 h4 => ?_, ((y.at_.ext e1).ext e2).ext e3⟩
  refine so_addI s4 (r3.ext e4) r4 h4 fun u5 d5 G5 H5 cs5 ms5 s5 e5 r5 h5 => ?_
  exact s_putC s5 ((((r1.ext e2).ext e3).ext e4).ext e5) (((r2.ext e3).ext e4).ext e5) r5 h5 fun H6 ms6 s6 h6 => n σ ds G5 H6 cs5 ms6 s6 ((((e1.trans e2).trans e3).trans e4).trans e5) h6
/-- a list's append, the list a cell -/
def wApp (wo we : WE) : WE := fun ds ms P Xp => wo ds ms (fun o m1 => (∃ xs, lsOf o m1 = some xs) ∧ we ds m1 (fun y m2 => match o, y with
  | .c n, .p y => (match m2[n]? with | some (.lst xs) => xs.length < big ∧ P (.p .non) (m2.set n (.lst (xs ++ [y]))) | _ => False)
  | _, _ => False) Xp) Xp
theorem de_app {o : Expr} {wo : WE} {apos : Pos} (ho : DE X Wx o wo) (he : DE X Wx e we)
    (hbase : attributeBase o "append" X.env (eval o X.env) = eval o X.env := by rfl)
    (hfew : ((backTo pos (starEach (e :: []) X.env)).all (fun x => !x.1) && (backToKw pos (keywordEach [] X.env)).all (fun x => x.1.isSome)
      && decide ((e :: []).length + ([] : List Keyword).length + (if ([] : List Keyword).isEmpty then 0 else 1) < 30)) = true := by rfl)
    (hline : (apos.endLine == pos.line) = true := by rfl) (hs : starEach (e :: []) X.env = (false, eval e X.env) :: starEach [] X.env := by rfl) (hplain : (backTo pos (starEach [] X.env)).any (·.1) = false := by rfl) :
    DE X Wx (.Call (.Attribute o "append" apos) [e] [] pos) (wApp wo we) :=
  PE.imp (pe_bm PySem.F.plainAttrs_list PySem.F.slot_list_append PySem.F.type_list_append mt_append ho (pa_cons he pa_nil hs) hbase hfew hline hs hplain) fun σ H Q h => by
  obtain ⟨A, G, cs, ms, ds, P, Xp, s, h, q, x⟩ := h
  refine ⟨A, G, cs, ms, ds, _, Xp, s, h, fun v d G1 H1 cs1 ms1 s1 e1 r1 h1 => ?_, x⟩
  obtain ⟨⟨xs, hx⟩, h1⟩ := h1
  obtain ⟨p, vs, rfl, l1, l2⟩ := ls_of s1 r1 hx
  refine ⟨.inl ⟨rfl, _, SqL.of l1⟩, A, G1, cs1, ms1, ds, _, Xp, s1, h1, fun u d2 G2 H2 cs2 ms2 s2 e2 r2 h2 => ?_, x.ext e1⟩
  try dsimp only at h2
  split at h2
  · rename_i n y
    split at h2
    · rename_i ys em
      obtain ⟨p', hp, ep⟩ := r1.ext e2
      have : p' = p := (V.ref.inj ep).symm
      subst this
      obtain ⟨fp, hc⟩ := io_at hp
      obtain ⟨rfl, us, h3, h4⟩ := s2.k.cell n p' fp _ hc em
      have s3 := s2.write hc (.lst (us ++ [u])) (m := .lst (ys ++ [y])) ⟨rfl, _, upd_same, h4.append (.cons r2 .nil)⟩
      exact ⟨p', us, u, rfl, rfl, h3, by rw [h4.length]; exact big_lt h2.1, q _ (.p .non) _ _ _ _ s3 (e1.trans e2) .non h2.2⟩
    · exact h2.elim
  · exact h2.elim
/-- a list's extend by a list, the first a cell -/
def wExt (wo we : WE) : WE := fun ds ms P Xp => wo ds ms (fun o m1 => (∃ xs, lsOf o m1 = some xs) ∧ we ds m1 (fun y m2 => match o, lsOf y m2 with
  | .c n, some ys => (match m2[n]? with | some (.lst xs) => xs.length + ys.length ≤ big ∧ P (.p .non) (m2.set n (.lst (xs ++ ys))) | _ => False)
  | _, _ => False) Xp) Xp
theorem de_ext {o : Expr} {wo : WE} {apos : Pos} (ho : DE X Wx o wo) (he : DE X Wx e we)
    (hbase : attributeBase o "extend" X.env (eval o X.env) = eval o X.env := by rfl)
    (hfew : ((backTo pos (starEach (e :: []) X.env)).all (fun x => !x.1) && (backToKw pos (keywordEach [] X.env)).all (fun x => x.1.isSome)
      && decide ((e :: []).length + ([] : List Keyword).length + (if ([] : List Keyword).isEmpty then 0 else 1) < 30)) = true := by rfl)
    (hline : (apos.endLine == pos.line) = true := by rfl) (hs : starEach (e :: []) X.env = (false, eval e X.env) :: starEach [] X.env := by rfl) (hplain : (backTo pos (starEach [] X.env)).any (·.1) = false := by rfl) :
    DE X Wx (.Call (.Attribute o "extend" apos) [e] [] pos) (wExt wo we) :=
  PE.imp (pe_bm PySem.F.plainAttrs_list PySem.F.slot_list_extend PySem.F.type_list_extend mt_extend ho (pa_cons he pa_nil hs) hbase hfew hline hs hplain) fun σ H Q h => by
  obtain ⟨A, G, cs, ms, ds, P, Xp, s, h, q, x⟩ := h
  refine ⟨A, G, cs, ms, ds, _, Xp, s, h, fun v d G1 H1 cs1 ms1 s1 e1 r1 h1 => ?_, x⟩
  obtain ⟨⟨xs, hx⟩, h1⟩ := h1
  obtain ⟨p, vs, rfl, l1, l2⟩ := ls_of s1 r1 hx
  refine ⟨.inl ⟨rfl, _, SqL.of l1⟩, A, G1, cs1, ms1, ds, _, Xp, s1, h1, fun u d2 G2 H2 cs2 ms2 s2 e2 r2 h2 => ?_, x.ext e1⟩
  try dsimp only at h2
  split at h2
  · rename_i opt n ys ey
    split at h2
    · rename_i zs em
      obtain ⟨p', hp, ep⟩ := r1.ext e2
      have : p' = p := (V.ref.inj ep).symm
      subst this
      obtain ⟨fp, hc⟩ := io_at hp
      obtain ⟨rfl, us, h3, h4⟩ := s2.k.cell n p' fp _ hc em
      obtain ⟨b, bs, rfl, b1, b2⟩ := ls_of s2 r2 ey
      have s3 := s2.write hc (.lst (us ++ bs)) (m := .lst (zs ++ ys)) ⟨rfl, _, upd_same, h4.append b2⟩
      exact ⟨p', b, us, bs, rfl, rfl, h3, b1, by rw [h4.length, b2.length]; exact big_ok h2.1, q _ (.p .non) _ _ _ _ s3 (e1.trans e2) .non h2.2⟩
    · exact h2.elim
  · exact h2.elim
/-- o.f = e, o a cell -/
def putD (f : Str) (v : D) : List (Str × D) → List (Str × D)
  | [] => [(f, v)]
  | (g, w) :: r => if g = f then (g, v) :: r else (g, w) :: putD f v r
theorem putD_rep {i : List Addr} {G : Hp} {f : Str} {v : V} {d : D} (r : RepD K i G v d) : ∀ {fvs : List (Str × V)} {fs : List (Str × D)}, RepDF K i G fvs fs → RepDF K i G (putF f v fvs) (putD f d fs)
  | _, _, .nil => .cons ⟨rfl, r⟩ .nil
  | (g, w) :: r', (g', w') :: q, .cons h1 h2 => by
    obtain ⟨e, h1⟩ := h1
    have e' : g = g' := e
    subst e'
    unfold putF putD
    by_cases hg : g = f
    · rw [if_pos hg, if_pos hg]
      exact .cons ⟨rfl, r⟩ h2
    · rw [if_neg hg, if_neg hg]
      exact .cons ⟨rfl, h1⟩ (putD_rep r h2)
theorem repDF_length {i : List Addr} {G : Hp} {fvs : List (Str × V)} {fs : List (Str × D)} (h : RepDF K i G fvs fs) : fvs.length = fs.length := Paired.length h
def wFldS (C : Addr) (f : Str) (wo we : WE) : WS := fun E ds ms => we ds ms (fun y m1 => wo ds m1 (fun o m2 => match o with
  | .c n => (match m2[n]? with | some (.ins C' fs) => C' = C ∧ fs.length < 1000 ∧ E.nx ds (m2.set n (.ins C (putD f y fs))) | _ => False)
  | _ => False) (E.xp ds)) (E.xp ds)
theorem ds_fld {C : Addr} {f : Str} {o : Expr} {wo : WE} {pos' : Pos} (hc : Cls X.K C) (hn : NoAttr X.K C f) (ho : DE X Wx o wo) (he : DE X Wx e we) (hs : swapsWith e (some (.Attribute o f pos')) pos.line X.env = pure false := by rfl) : DS X Wx (.Assign [.Attribute o f pos'] e pos) (wFldS C f wo we) := PS.imp (ps_fld ho he hs) fun D σ H h => by
  obtain ⟨A, G, cs, ms, ds, E, s, h, n, r, b, c, y⟩ := h
  refine ⟨A, G, cs, ms, ds, _, _, s, h, fun x d1 G1 H1 cs1 ms1 s1 e1 r1 h1 => ?_, y.at_⟩
  refine ⟨A, G1, cs1, ms1, ds, _, _, s1, h1, fun z d2 G2 H2 cs2 ms2 s2 e2 r2 h2 => ?_, y.at_.ext e1⟩
  try dsimp only at h2
  split at h2
  · rename_i k
    split at h2
    · rename_i C' fs em
      obtain ⟨rfl, hl, h2⟩ := h2
      obtain ⟨p, hp, rfl⟩ := r2
      obtain ⟨fp, hcc⟩ := io_at hp
      obtain ⟨rfl, dx, fvs, g1, g2⟩ := s2.k.cell k p fp _ hcc em
      have s3 := s2.write hcc (.ins C' dx (putF f x fvs)) (m := .ins C' (putD f d1 fs)) ⟨rfl, dx, _, upd_same, putD_rep (r1.ext e2) g2⟩
      exact ⟨p, C', dx, fvs, rfl, g1, hc, hn, by rw [repDF_length g2]; exact hl, n σ ds _ _ _ _ s3 (e1.trans e2) h2⟩
    · exact h2.elim
  · exact h2.elim
end
end DL

set_option Elab.async false
set_option linter.all false
set_option maxRecDepth 100000
set_option maxHeartbeats 4000000
namespace DL
open PySem L2
section
variable {X : Cx} {K : Frg} {Wx : WX} {σ : L2.St} {H : Hp} {a b c e : Expr} {wa wb wc we : WE} {pos : Pos} {es : List Expr} {st : Stmt} {sts : List Stmt} {w w1 w2 : WS}
/-! ### what is walked -/
abbrev DI (X : Cx) (Wx : WX) (tg e : Expr) (w : WI) : Prop := PI X tg e (canI X.K Wx w)
def wiSeq (we : WE) : WI := fun ds ms P Xp => we ds ms (fun d m => match sqOf d m with | some xs => P xs (fun m' => sqOf d m' = some xs) m | none => False) Xp
def iSeq (K : Frg) (tl : TE) : TI := fun σ H R => tl σ H fun x H1 => ∃ a, x = .ref a ∧ (((∃ xs, SqL K H1 a xs) ∧ R (Itl K a) H1) ∨ ((∃ xs, SqT K H1 a xs) ∧ R (Itt K a) H1))
theorem pi_seq {tg l : Expr} {tl : TE} (hl : PE X l tl) : PI X tg l (iSeq X.K tl) := by
  refine ⟨fun pins s σ H R I h => ?_⟩
  refine thn (hl.run pins s σ H _ I h) fun v s1 ⟨x, H1, I1, r1, q1⟩ => ?_
  obtain ⟨a, e, q⟩ := q1
  subst e
  cases r1
  rcases q with ⟨⟨xs, hq⟩, q⟩ | ⟨⟨xs, hq⟩, q⟩
  · obtain ⟨its, rv, p, hz⟩ := I1.list hq
    refine wpAny_pyIter_list p.isList ?_
    refine ⟨s1.heap.objs.size, [s1.heap.objs.size], _, _, H1, rfl, I1.kept (t' := s1.toks) fun b o e => Heap.get?_push_of_some _ e, turn_list a _, ⟨_, Heap.get?_push_size _ rfl, rfl, rfl⟩, fun b hb => ?_, q⟩
    have e : b = s1.heap.objs.size := by simpa using hb
    subst e
    exact I1.fpOk (Nat.le_refl _) (I1.hok.fresh (Nat.le_refl _))
  · obtain ⟨its, rv, p, hz⟩ := I1.tuple hq
    refine wpAny_pyIter_tuple (show s1.heap.IsTuple a its.toArray from p) ?_
    refine ⟨s1.heap.objs.size, [s1.heap.objs.size], _, _, H1, rfl, I1.kept (t' := s1.toks) fun b o e => Heap.get?_push_of_some _ e, turn_tuple a _, ⟨_, Heap.get?_push_size _ rfl, rfl, rfl⟩, fun b hb => ?_, q⟩
    have e : b = s1.heap.objs.size := by simpa using hb
    subst e
    exact I1.fpOk (Nat.le_refl _) (I1.hok.fresh (Nat.le_refl _))
theorem sq_ls {d : D} {m m1 : Mu} {xs ys : List PD} (h : lsOf d m = some ys) (h1 : sqOf d m1 = some xs) : lsOf d m1 = some xs := by
  cases d with
  | p x =>
    cases x <;> simp_all [lsOf, sqOf]
  | c n => simpa [lsOf, sqOf] using h1
theorem itOk_ls {cs : Cs} {G : Hp} {ms : Mu} {p : Addr} {d : D} {xs : List PD} (r : RepD K (io cs) G (.ref p) d) (h : lsOf d ms = some xs) : ItOk K cs G (Itl K p) xs (fun m' => sqOf d m' = some xs) where
  goes := fun A i G' H' cs' ms' σ' ds' hi s e st => by
    obtain ⟨q, vs, eq, h1, h2⟩ := ls_of s (r.ext e) (sq_ls h st)
    cases eq
    obtain ⟨v, hv, _⟩ := h2.get (List.getElem?_eq_getElem hi)
    exact ⟨vs, v, SqL.of h1, hv⟩
  stops := fun A G' H' cs' ms' σ' ds' s e st => by
    obtain ⟨q, vs, eq, h1, h2⟩ := ls_of s (r.ext e) (sq_ls h st)
    cases eq
    exact ⟨vs, SqL.of h1, by rw [h2.length]; exact Nat.le_refl _⟩
  yields := fun A i G' H' cs' ms' σ' ds' x H2 hi s e st y => by
    obtain ⟨q, vs, eq, h1, h2⟩ := ls_of s (r.ext e) (sq_ls h st)
    cases eq
    obtain ⟨rfl, y⟩ := y
    obtain ⟨d', e1, r'⟩ := h2.get' (y vs (SqL.of h1))
    exact ⟨G', d', e1, s, Same.refl _, r'⟩
theorem itOk_tup {cs : Cs} {G : Hp} {p : Addr} {xs : List PD} (r : Rep K G (.ref p) (.tup xs)) (st : Mu → Prop) : ItOk K cs G (Itt K p) xs st where
  goes := fun A i G' H' cs' ms' σ' ds' hi s e st => by
    cases r.mono e.same with
    | tup h1 h2 =>
      obtain ⟨v, hv, _⟩ := h2.get (List.getElem?_eq_getElem hi)
      exact ⟨_, v, same_sqT s.k.gh h1, hv⟩
  stops := fun A G' H' cs' ms' σ' ds' s e st => by
    cases r.mono e.same with
    | tup h1 h2 => exact ⟨_, same_sqT s.k.gh h1, by rw [h2.length]; exact Nat.le_refl _⟩
  yields := fun A i G' H' cs' ms' σ' ds' x H2 hi s e st y => by
    cases r.mono e.same with
    | tup h1 h2 =>
      obtain ⟨rfl, y⟩ := y
      obtain ⟨d', e1, r'⟩ := h2.get' (y _ (same_sqT s.k.gh h1))
      exact ⟨G', d', e1, s, Same.refl _, r'⟩
theorem di_seq {tg : Expr} (he : DE X Wx e we) : DI X Wx tg e (wiSeq we) := PI.imp (pi_seq he) fun σ H R h => by
  obtain ⟨A, G, cs, ms, ds, P, Xp, s, h, q, x⟩ := h
  refine ⟨A, G, cs, ms, ds, _, Xp, s, h, fun v d G1 H1 cs1 ms1 s1 e1 r1 h1 => ?_, x⟩
  try dsimp only at h1
  split at h1
  · rename_i xs eq
    by_cases hl : ∃ ys, lsOf d ms1 = some ys
    · obtain ⟨ys, hl⟩ := hl
      have hl' := sq_ls hl eq
      obtain ⟨p, vs, rfl, l1, l2⟩ := ls_of s1 r1 hl'
      exact ⟨p, rfl, .inl ⟨⟨vs, SqL.of l1⟩, q _ xs _ G1 H1 cs1 ms1 s1 e1 (itOk_ls r1 hl') h1⟩⟩
    · have hd : d = .p (.tup xs) := by
        cases d with
        | p x => cases x <;> simp_all [lsOf, sqOf]
        | c n =>
          exfalso
          exact hl ⟨xs, by simpa [lsOf, sqOf] using eq⟩
      subst hd
      have z : Rep X.K G1 v (.tup xs) := r1
      cases z with
      | @tup p vs _ a1 a2 => exact ⟨p, rfl, .inr ⟨⟨vs, same_sqT s1.k.gh a1⟩, q _ xs _ G1 H1 cs1 ms1 s1 e1 (itOk_tup (.tup a1 a2) _) h1⟩⟩
  · exact h1.elim
def rng (lo : Int) (n : Nat) : List PD := (List.range n).map fun i => .int (lo + (i : Nat))
theorem rng_len (lo : Int) (n : Nat) : (rng lo n).length = n := by simp [rng]
theorem rng_get {lo : Int} {n i : Nat} (h : i < n) : (rng lo n)[i]? = some (.int (lo + (i : Nat))) := by simp [rng, h]
theorem itOk_rng {cs : Cs} {G : Hp} {lo : Int} {n : Nat} : ItOk K cs G (Itr lo n) (rng lo n) (fun _ => True) where
  goes := fun A i G' H' cs' ms' σ' ds' hi s e st => by
    rw [rng_len] at hi
    exact hi
  stops := fun A G' H' cs' ms' σ' ds' s e st => by
    rw [rng_len]
    exact Nat.le_refl _
  yields := fun A i G' H' cs' ms' σ' ds' x H2 hi s e st y => by
    obtain ⟨rfl, rfl⟩ := y
    rw [rng_len] at hi
    exact ⟨G', _, rng_get hi, s, Same.refl _, .int _⟩
def okR (i : Int) : Prop := -(2 ^ 62) ≤ i ∧ i < 2 ^ 62
def wiRng1 (wa : WA) : WI := fun ds ms P Xp => wa ds ms (fun xs m => match xs with | [.p (.int j)] => okR j ∧ P (rng 0 j.toNat) (fun _ => True) m | _ => False) Xp
def wiRng2 (wa : WA) : WI := fun ds ms P Xp => wa ds ms (fun xs m => match xs with | [.p (.int i), .p (.int j)] => okR i ∧ okR j ∧ P (rng i (j - i).toNat) (fun _ => True) m | _ => False) Xp
theorem di_rng1 {tg : Expr} {wr : WA} {p : Pos} (hm : X.mg "range" = none) (ha : DA X Wx [a] wr) (hg : Gl X "range" := by rfl) (hs : starEach [a] X.env = [(false, eval a X.env)] := by rfl) : DI X Wx tg (.Call (.Name "range" p) [a] [] pos) (wiRng1 wr) := PI.imp (pi_range1 hg hm ha hs) fun σ H R h => by
  obtain ⟨A, G, cs, ms, ds, P, Xp, s, h, q, x⟩ := h
  refine ⟨A, G, cs, ms, ds, _, Xp, s, h, fun vs xs G1 H1 cs1 ms1 s1 e1 r1 h1 => ?_, x⟩
  try dsimp only at h1
  split at h1
  · rename_i j
    cases r1 with
    | @cons v _ _ _ z rr =>
      cases rr
      have z' : Rep X.K G1 v (.int j) := z
      cases z'
      exact ⟨j, rfl, h1.1.1, h1.1.2, q _ _ _ G1 H1 cs1 ms1 s1 e1 itOk_rng h1.2⟩
  · exact h1.elim
theorem di_rng2 {tg : Expr} {wr : WA} {p : Pos} (hm : X.mg "range" = none) (ha : DA X Wx [a, b] wr) (hg : Gl X "range" := by rfl) (hs : starEach [a, b] X.env = [(false, eval a X.env), (false, eval b X.env)] := by rfl) (hs2 : starEach [b] X.env = [(false, eval b X.env)] := by rfl) : DI X Wx tg (.Call (.Name "range" p) [a, b] [] pos) (wiRng2 wr) := PI.imp (pi_range2 hg hm ha hs hs2) fun σ H R h => by
  obtain ⟨A, G, cs, ms, ds, P, Xp, s, h, q, x⟩ := h
  refine ⟨A, G, cs, ms, ds, _, Xp, s, h, fun vs xs G1 H1 cs1 ms1 s1 e1 r1 h1 => ?_, x⟩
  try dsimp only at h1
  split at h1
  · rename_i i j
    cases r1 with
    | @cons v _ _ _ z rr =>
      cases rr with
      | @cons v2 _ _ _ z2 rr =>
        cases rr
        have z' : Rep X.K G1 v (.int i) := z
        have z2' : Rep X.K G1 v2 (.int j) := z2
        cases z'
        cases z2'
        exact ⟨i, j, rfl, ⟨h1.1.1, h1.1.2, h1.2.1.1, h1.2.1.2⟩, q _ _ _ G1 H1 cs1 ms1 s1 e1 itOk_rng h1.2.2⟩
  · exact h1.elim
/-! ### for -/
def ForI (xs : List PD) (stab : Mu → Prop) (wg : WG) (wb : WS) (E : En) (ds : De) (m : Mu) : Prop :=
  ∃ I : Nat → De → Mu → Prop, I 0 ds m ∧ (∀ i ds' m', I i ds' m' → stab m') ∧
    (∀ i x ds' m', xs[i]? = some x → I i ds' m' → wg (.p x) ds' m' (fun ds2 m2 => wb { E with nx := I (i + 1), ct := I (i + 1), bk := E.nx } ds2 m2)) ∧ (∀ ds' m', I xs.length ds' m' → E.nx ds' m')
def wFor (wi : WI) (wg : WG) (wb : WS) : WS := fun E ds ms => wi ds ms (fun xs stab m => ForI xs stab wg wb E ds m) (E.xp ds)
theorem walkOf (A : Amb) {cs : Cs} {G : Hp} {J : It} {xs : List PD} {stab : Mu → Prop} (k : ItOk K cs G J xs stab) : Walk J xs.length (fun H => ∃ G' cs' ms' σ' ds', St K A G' H cs' ms' σ' ds' ∧ Ext cs G cs' G' ∧ stab ms') (fun i H x H' => J.yld i H x H') :=
  ⟨fun i H hi ⟨G', cs', ms', σ', ds', s, e, st⟩ => k.goes A i G' H cs' ms' σ' ds' hi s e st, fun H ⟨G', cs', ms', σ', ds', s, e, st⟩ => k.stops A G' H cs' ms' σ' ds' s e st, fun i H x H' _ _ y => y⟩
theorem ds_for {tg iter : Expr} {wi : WI} {wg : WG} {wb : WS} {vs : List Nat} (hp : PassesOwn (model X.prog X.w) X.A X.env X.xe) (hc : X.calm = true) (hi : DI X Wx tg iter wi) (hg : DG X vs tg wg) (hb : DSs X Wx sts wb)
    (hs : ∀ x, foldedSetIterable iter X.env x = pure x := by intro _; rfl) : DS X Wx (.For tg iter sts [] pos) (wFor wi wg wb) := PS.imp (ps_for hp hc hi hg hb hs) fun D σ H h => by
  obtain ⟨A, G, cs, ms, ds, E, s, h, n, r, b, c, y⟩ := h
  refine ⟨A, G, cs, ms, ds, _, _, s, h, fun J xs stab G1 H1 cs1 ms1 s1 e1 ok h1 => ?_, y.at_⟩
  obtain ⟨I, i0, ist, istep, iend⟩ := h1
  refine for_it (walkOf A ok) (fun i σ H => ∃ G' cs' ms' ds', St X.K A G' H cs' ms' σ ds' ∧ Ext cs1 G1 cs' G' ∧ I i ds' ms') ⟨G1, cs1, ms1, ds, s1, Ext.refl _ _, i0⟩ (fun i σ' H' _ ⟨G', cs', ms', ds', s', e', k⟩ => ⟨G', cs', ms', σ', ds', s', e', ist _ _ _ k⟩) ?_ ?_
  · rintro i x σ' H' H2 hi' ⟨G', cs', ms', ds', s', e', k⟩ yl
    obtain ⟨G2, d, hd, s2, sg, r2⟩ := ok.yields A i G' H' cs' ms' σ' ds' x H2 hi' s' e' (ist _ _ _ k) yl
    have e2 : Ext cs' G' cs' G2 := ⟨List.prefix_refl _, sg⟩
    refine ⟨A, G2, cs', ms', ds', .p d, _, s2, r2, istep i d ds' ms' hd k, fun σ3 ds3 G3 H3 cs3 ms3 s3 e3 _ h3 => ?_⟩
    have ee := ((e1.trans e').trans e2).trans e3
    exact ⟨A, G3, cs3, ms3, ds3, _, s3, h3, fun σ4 ds4 G4 H4 cs4 ms4 s4 e4 k4 => ⟨G4, cs4, ms4, ds4, s4, ((e'.trans e2).trans e3).trans e4, k4⟩, r.ext ee, n.ext ee,
      fun σ4 ds4 G4 H4 cs4 ms4 s4 e4 k4 => ⟨G4, cs4, ms4, ds4, s4, ((e'.trans e2).trans e3).trans e4, k4⟩, y.ext ee⟩
  · rintro σ' H' ⟨G', cs', ms', ds', s', e', k⟩
    exact n σ' ds' G' H' cs' ms' s' (e1.trans e') (iend _ _ k)
/-! ### while -/
def wWhile (t : WT) (wb : WS) : WS := fun E ds ms => ∃ I : Nat → De → Mu → Prop, (∃ n, I n ds ms) ∧
  ∀ n ds' m', I n ds' m' → t ds' m' (fun k m2 => if k = true then wb { E with nx := fun d2 m3 => ∃ n', n' < n ∧ I n' d2 m3, ct := fun d2 m3 => ∃ n', n' < n ∧ I n' d2 m3, bk := E.nx } ds' m2 else E.nx ds' m2) (E.xp ds')
theorem ds_while {t : WT} {wb : WS} (hp : PassesOwn (model X.prog X.w) X.A X.env X.xe) (hc : DT X Wx c t) (hb : DSs X Wx sts wb) : DS X Wx (.While c sts [] pos) (wWhile t wb) := PS.imp (ps_while hp hc hb) fun D σ H h => by
  obtain ⟨A, G, cs, ms, ds, E, s, h, n, r, b, c, y⟩ := h
  obtain ⟨I, ⟨n0, i0⟩, step⟩ := h
  refine ⟨fun m σ H => ∃ G' cs' ms' ds', St X.K A G' H cs' ms' σ ds' ∧ Ext cs G cs' G' ∧ I m ds' ms', ⟨n0, G, cs, ms, ds, s, Ext.refl _ _, i0⟩, ?_⟩
  rintro m σ' H' ⟨G', cs', ms', ds', s', e', k⟩
  refine ⟨A, G', cs', ms', ds', _, _, s', step m ds' ms' k, fun k2 G2 H2 cs2 ms2 s2 e2 h2 => ?_, (y.ext e').at_⟩
  cases k2 with
  | true =>
    refine ⟨fun σ4 H4 => ∃ G4 cs4 ms4 ds4, St X.K A G4 H4 cs4 ms4 σ4 ds4 ∧ Ext cs G cs4 G4 ∧ ∃ n', n' < m ∧ I n' ds4 ms4, fun σ4 H4 ⟨G4, cs4, ms4, ds4, s4, e4, n', hn, k4⟩ => ⟨n', hn, G4, cs4, ms4, ds4, s4, e4, k4⟩, ?_⟩
    have ee := e'.trans e2
    exact ⟨A, G2, cs2, ms2, ds', _, s2, h2, fun σ4 ds4 G4 H4 cs4 ms4 s4 e4 k4 => ⟨G4, cs4, ms4, ds4, s4, ee.trans e4, k4⟩, r.ext ee, n.ext ee, fun σ4 ds4 G4 H4 cs4 ms4 s4 e4 k4 => ⟨G4, cs4, ms4, ds4, s4, ee.trans e4, k4⟩, y.ext ee⟩
  | false => exact n σ' ds' G2 H2 cs2 ms2 s2 (e'.trans e2) h2
/-! ### comprehensions -/
def wtYes : WT := fun _ ms P _ => P true ms
def LcI (ds : De) (vs : List Nat) (xs : List PD) (stab : Mu → Prop) (wg : WG) (wt : WT) (we : WE) (m : Mu) (F : List PD → Mu → Prop) : Prop :=
  xs.length ≤ big ∧ ∃ I : Nat → List PD → Mu → Prop, I 0 [] m ∧ (∀ i acc m', I i acc m' → stab m') ∧
    (∀ i x acc m', xs[i]? = some x → I i acc m' → wg (.p x) (wipeD ds vs) m' (fun ds2 m2 => wt ds2 m2 (fun k m3 => if k = true then we ds2 m3 (fun y m4 => match y with | .p z => I (i + 1) (acc ++ [z]) m4 | .c _ => False) noX else I (i + 1) acc m3) noX)) ∧
    (∀ acc m', I xs.length acc m' → F acc m')
def wLc (vs : List Nat) (wi : WI) (wg : WG) (wt : WT) (we : WE) : WE := fun ds ms P Xp => wi ds ms (fun xs stab m => LcI ds vs xs stab wg wt we m (fun acc m' => P (.p (.lst acc)) m')) Xp
def wLcC (vs : List Nat) (wi : WI) (wg : WG) (wt : WT) (we : WE) : WE := fun ds ms P Xp => wi ds ms (fun xs stab m => LcI ds vs xs stab wg wt we m (fun acc m' => P (.c m'.length) (m' ++ [.lst acc]))) Xp
theorem wipe_wipe {σ : L2.St} {vs : List Nat} : ∀ {ws : List Nat}, (∀ w ∈ ws, w ∈ vs) → L2.wipe (L2.wipe σ ws) vs = L2.wipe σ vs
  | [], _ => rfl
  | w :: ws, h => by
    show L2.wipe ((L2.wipe σ ws).set w none) vs = _
    rw [wipe_set (h w (by simp)), wipe_wipe fun x hx => h x (List.mem_cons_of_mem _ hx)]
theorem St.adopt {A : Amb} {G : Hp} {cs : Cs} {ms : Mu} {ds : De} (s : St K A G H cs ms σ ds) {q : Addr} (hA : A.H q = none) (hG : G q = none) (hf : q ∉ foot cs) {o : HO} (hq : H q = some o) {m : M} (hm : MAt K (io (cs ++ [(q, [q])])) G H q [q] m) : St K A G H (cs ++ [(q, [q])]) (ms ++ [m]) σ ds := by
  have hf' : ∀ a ∈ foot cs, a ≠ q := fun a ha e => hf (e ▸ ha)
  have fe : foot (cs ++ [(q, [q])]) = foot cs ++ [q] := by
    rw [foot_app]
    rfl
  refine ⟨s.gg, s.hh, s.out, fun a ha => ?_, ⟨s.k.gh, by rw [List.length_append, List.length_append, s.k.len]; rfl, fun n p fp m' h1 h2 => ?_, fun a ha => ?_, fun a ha => ?_, ?_⟩, s.env.mono (io_app _ _) (Same.refl G)⟩
  · rw [fe] at ha
    rcases List.mem_append.mp ha with z | z
    · exact s.own a z
    · have : a = q := by simpa using z
      subst this
      exact .inl hA
  · by_cases hn : n < cs.length
    · rw [List.getElem?_append_left hn] at h1
      rw [List.getElem?_append_left (by rw [← s.k.len]; exact hn)] at h2
      exact (s.k.cell n p fp m' h1 h2).mono (io_app _ _) (Same.refl G) fun a _ => rfl
    · have hn' : n = cs.length := by
        have := (List.getElem?_eq_some_iff.mp h1).1
        rw [List.length_append] at this
        simp at this
        omega
      subst hn'
      rw [List.getElem?_append_right (Nat.le_refl _)] at h1
      rw [List.getElem?_append_right (by rw [s.k.len]; exact Nat.le_refl _)] at h2
      simp at h1
      simp [s.k.len] at h2
      obtain ⟨rfl, rfl⟩ := h1
      subst h2
      exact hm
  · rw [fe] at ha
    rcases List.mem_append.mp ha with z | z
    · exact s.k.gn a z
    · have : a = q := by simpa using z
      subst this
      exact hG
  · rw [fe] at ha
    rcases List.mem_append.mp ha with z | z
    · exact s.k.hs a z
    · have : a = q := by simpa using z
      subst this
      rw [hq]
      exact fun e => nomatch e
  · rw [fe]
    refine List.nodup_append.mpr ⟨s.k.nd, by simp, fun a ha b hb e => ?_⟩
    have : b = q := by simpa using hb
    exact hf' a ha (e.trans this)
theorem s_lcI {A : Amb} {cs1 : Cs} {G1 H1 : Hp} {ms1 : Mu} {ds : De} {J : It} {xs : List PD} {stab : Mu → Prop} {wg : WG} {wt : WT} {vs : List Nat} {F : List PD → Mu → Prop} {Q : VK} (s1 : St K A G1 H1 cs1 ms1 σ ds) (ok : ItOk K cs1 G1 J xs stab)
    (h1 : LcI ds vs xs stab wg wt we ms1 F)
    (fin : ∀ D acc vacc G' H' cs' ms', St K (now cs1 G1 H1) G' H' cs' ms' σ ds → Ext cs1 G1 cs' G' → H1 D = none → G' D = none → D ∉ foot cs' → H' D = some (.lst vacc) → RepA K G' vacc acc → F acc ms' → Q (.ref D) H') :
    ∀ D, H1 D = none → ∃ W : Nat → Nat → Hp → Prop, (∃ m, W 0 m (upd H1 D (.lst []))) ∧ ∀ i m H, W i m H →
      (J.stop i H ∧ Q (.ref D) H) ∨ (J.go i H ∧ ∃ Nx : Hp → Prop, (∀ H', Nx H' → ∃ m', m' < m ∧ W (i + 1) m' H') ∧ ∀ x H', J.yld i H x H' → canG K vs wg x (L2.wipe σ vs) H' fun σ2 H2 => L2.wipe σ2 vs = L2.wipe σ vs ∧ canT K Wx wt σ2 H2 fun b H3 =>
        if b = true then canE K Wx we σ2 H3 fun y H4 => ∃ acc, H4 D = some (.lst acc) ∧ acc.length < sizeLine ∧ Nx (upd H4 D (.lst (acc ++ [y]))) else Nx H3) := by
  intro D hD
  obtain ⟨hbig, I, i0, ist, istep, iend⟩ := h1
  have hf1 : D ∉ foot cs1 := fun z => s1.k.hs D z hD
  have hG1 : G1 D = none := s1.k.gh.free hD
  refine lc_it (walkOf (now cs1 G1 H1) ok) (fun i H => ∃ G' cs' ms' acc vacc, St K (now cs1 G1 H1) G' H cs' ms' σ ds ∧ Ext cs1 G1 cs' G' ∧ I i acc ms' ∧ H D = some (.lst vacc) ∧ RepA K G' vacc acc ∧ acc.length ≤ i ∧ D ∉ foot cs' ∧ G' D = none)
    ⟨G1, cs1, ms1, [], [], s1.here.hide hD _, Ext.refl _ _, i0, upd_same, .nil, Nat.le_refl _, hf1, hG1⟩ (fun i H' _ ⟨G', cs', ms', acc, vacc, s', e', k, _⟩ => ⟨G', cs', ms', σ, ds, s', e', ist _ _ _ k⟩) ?_ ?_
  · rintro i x H' H2 hi ⟨G', cs', ms', acc, vacc, s', e', k, hDv, hra, hlen, hfn, hGn⟩ yl
    obtain ⟨G2, d, hd, s2, sg, r2⟩ := ok.yields (now cs' G' H') i G' H' cs' ms' σ ds x H2 hi s'.here e' (ist _ _ _ k) yl
    have e2 : Ext cs' G' cs' G2 := ⟨List.prefix_refl _, sg⟩
    -- behind any such state the list stands, and nothing of it is followed
    have at_ : ∀ {G5 H5 : Hp} {cs5 : Cs} {ms5 : Mu} {σ5 : L2.St} {ds5 : De}, St K (now cs' G' H') G5 H5 cs5 ms5 σ5 ds5 → Ext cs' G' cs5 G5 → St K (now cs1 G1 H1) G5 H5 cs5 ms5 σ ds ∧ H5 D = some (.lst vacc) ∧ G5 D = none ∧ D ∉ foot cs5 := by
      intro G5 H5 cs5 ms5 σ5 ds5 s5 e5
      have hD' : H' D ≠ none := by rw [hDv]; exact fun z => nomatch z
      refine ⟨(s'.then_ s5).envs (s'.env.mono e5.pre e5.same), s5.hh D _ hfn hDv, (s5.out D hGn hD').1, fun z => ?_⟩
      rcases s5.own D z with q | q
      · exact hD' q
      · exact hfn q
    refine ⟨now cs' G' H', G2, cs', ms', wipeD ds vs, .p d, _, s2.envs (s2.env.wipe vs), r2, istep i d acc ms' hd k, fun σ3 ds3 G3 H3 cs3 ms3 s3 e3 hw h3 => ⟨hw.trans (wipe_wipe fun _ z => z), ?_⟩⟩
    refine ⟨_, G3, cs3, ms3, ds3, _, noX, s3, h3, fun b G4 H4 cs4 ms4 s4 e4 h4 => ?_, CoX.no⟩
    cases b with
    | true =>
      refine ⟨_, G4, cs4, ms4, ds3, _, noX, s4, h4, fun y dy G5 H5 cs5 ms5 s5 e5 r5 h5 => ?_, CoX.no⟩
      try dsimp only at h5
      split at h5
      · rename_i z
        have ee := ((e2.trans e3).trans e4).trans e5
        obtain ⟨t1, t2, t3, t4⟩ := at_ s5 ee
        have rr := hra.mono ee.same
        refine ⟨vacc, t2, by rw [rr.length]; exact Nat.lt_of_le_of_lt hlen (Nat.lt_of_lt_of_le hi (big_ok hbig)), G5, cs5, ms5, acc ++ [z], vacc ++ [y], t1.hid hD t3 t4 _, e'.trans ee, h5, upd_same, rr.append (.cons r5 .nil), ?_, t4, t3⟩
        rw [List.length_append, List.length_singleton]
        exact Nat.succ_le_succ hlen
      · exact h5.elim
    | false =>
      have ee := (e2.trans e3).trans e4
      obtain ⟨t1, t2, t3, t4⟩ := at_ s4 ee
      exact ⟨G4, cs4, ms4, acc, vacc, t1, e'.trans ee, h4, t2, hra.mono ee.same, Nat.le_succ_of_le hlen, t4, t3⟩
  · rintro H' ⟨G', cs', ms', acc, vacc, s', e', k, hDv, hra, hlen, hfn, hGn⟩
    exact fin D acc vacc G' H' cs' ms' s' e' hD hGn hfn hDv hra (iend _ _ k)
theorem s_lc {wi : WI} {wg : WG} {wt : WT} {vs : List Nat} {Q : VK} (h : canE K Wx (wLc vs wi wg wt we) σ H Q) : tLc (canI K Wx wi) (canG K vs wg) (canT K Wx wt) (canE K Wx we) vs σ H Q := by
  obtain ⟨A, G, cs, ms, ds, P, Xp, s, h, q, x⟩ := h
  refine ⟨A, G, cs, ms, ds, _, Xp, s, h, fun J xs stab G1 H1 cs1 ms1 s1 e1 ok h1 => ?_, x⟩
  refine s_lcI s1 ok h1 fun D acc vacc G' H' cs' ms' s' e' hD hGn hfn hDv hra hF => ?_
  obtain ⟨s2, sg⟩ := s'.keep (o := .lst vacc) hD hGn hfn hDv
  exact q _ (.p (.lst acc)) _ _ cs' ms' (s1.then_ s2) ((e1.trans e').trans ⟨List.prefix_refl _, sg⟩) (Rep.lst upd_same (hra.mono sg)) hF
theorem s_lcC {wi : WI} {wg : WG} {wt : WT} {vs : List Nat} {Q : VK} (h : canE K Wx (wLcC vs wi wg wt we) σ H Q) : tLc (canI K Wx wi) (canG K vs wg) (canT K Wx wt) (canE K Wx we) vs σ H Q := by
  obtain ⟨A, G, cs, ms, ds, P, Xp, s, h, q, x⟩ := h
  refine ⟨A, G, cs, ms, ds, _, Xp, s, h, fun J xs stab G1 H1 cs1 ms1 s1 e1 ok h1 => ?_, x⟩
  refine s_lcI s1 ok h1 fun D acc vacc G' H' cs' ms' s' e' hD hGn hfn hDv hra hF => ?_
  have s2 := s'.adopt hD hGn hfn hDv (m := .lst acc) ⟨rfl, vacc, hDv, hra⟩
  refine q _ (.c ms'.length) _ _ _ _ (s1.then_ s2) ((e1.trans e').trans ⟨io_app _ _, Same.refl _⟩) ⟨D, ?_, rfl⟩ hF
  rw [← s'.k.len]
  unfold io
  rw [List.map_append, List.getElem?_append_right (by rw [List.length_map]; exact Nat.le_refl _)]
  simp
variable {elt tg iter : Expr} {ifs : List Expr} {scope : Scope} {own : List (Str × Nat)} {wi : WI} {wg : WG} {wt : WT}
/-- the context of a comprehension's block -/
abbrev BX (X : Cx) (scope : Scope) (s : Shared) (H : Hp) (C : Addr) (cl : List (Str × Addr)) (fp : List Addr) : Cx := X.blk s H scope (compEnvC scope cl C X.env) fp
theorem de_lc (own : List (Str × Nat)) (hc : X.calm = true) (hN : X.N.Nodup) (hi : DI X Wx tg iter wi) (ok : BlkOk X.N X.env.scope scope own)
    (hg : ∀ (s : Shared) (H : Hp) (C : Addr) (cl : List (Str × Addr)) (fp : List Addr), DG (BX X scope s H C cl fp) (own.map (·.2)) tg wg) (ht : ∀ (s : Shared) (H : Hp) (C : Addr) (cl : List (Str × Addr)) (fp : List Addr), PTs (BX X scope s H C cl fp) ifs (canT X.K Wx wt))
    (he : ∀ (s : Shared) (H : Hp) (C : Addr) (cl : List (Str × Addr)) (fp : List Addr), DE (BX X scope s H C cl fp) Wx elt we) (hs : ∀ x, foldedSetIterable iter X.env x = pure x := by intro _; rfl) :
    DE X Wx (.ListComp elt [⟨tg, iter, ifs, 0⟩] scope pos) (wLc (own.map (·.2)) wi wg wt we) := PE.imp (pe_lc hc hN hi ok hg ht he hs) fun _ _ _ => s_lc
theorem de_lcC (own : List (Str × Nat)) (hc : X.calm = true) (hN : X.N.Nodup) (hi : DI X Wx tg iter wi) (ok : BlkOk X.N X.env.scope scope own)
    (hg : ∀ (s : Shared) (H : Hp) (C : Addr) (cl : List (Str × Addr)) (fp : List Addr), DG (BX X scope s H C cl fp) (own.map (·.2)) tg wg) (ht : ∀ (s : Shared) (H : Hp) (C : Addr) (cl : List (Str × Addr)) (fp : List Addr), PTs (BX X scope s H C cl fp) ifs (canT X.K Wx wt))
    (he : ∀ (s : Shared) (H : Hp) (C : Addr) (cl : List (Str × Addr)) (fp : List Addr), DE (BX X scope s H C cl fp) Wx elt we) (hs : ∀ x, foldedSetIterable iter X.env x = pure x := by intro _; rfl) :
    DE X Wx (.ListComp elt [⟨tg, iter, ifs, 0⟩] scope pos) (wLcC (own.map (·.2)) wi wg wt we) := PE.imp (pe_lc hc hN hi ok hg ht he hs) fun _ _ _ => s_lcC
theorem ds_setLc {i : Nat} {y : Str} {py spos : Pos} (own : List (Str × Nat)) (hc : X.calm = true) (hN : X.N.Nodup) (hi : DI X Wx tg iter wi) (ok : BlkOk X.N X.env.scope scope own)
    (hg : ∀ (s : Shared) (H : Hp) (C : Addr) (cl : List (Str × Addr)) (fp : List Addr), DG (BX X scope s H C cl fp) (own.map (·.2)) tg wg) (ht : ∀ (s : Shared) (H : Hp) (C : Addr) (cl : List (Str × Addr)) (fp : List Addr), PTs (BX X scope s H C cl fp) ifs (canT X.K Wx wt))
    (he : ∀ (s : Shared) (H : Hp) (C : Addr) (cl : List (Str × Addr)) (fp : List Addr), DE (BX X scope s H C cl fp) Wx elt we) (hy : X.N[i]? = some y := by rfl) (hyl : X.env.scope.names.lookup y = some .local := by rfl)
    (hsw : swapsWith (.ListComp elt [⟨tg, iter, ifs, 0⟩] scope pos) (some (.Name y py)) spos.line X.env = pure true := by exact sw_true rfl rfl rfl (by decide +kernel)) (hs : ∀ x, foldedSetIterable iter X.env x = pure x := by intro _; rfl) :
    DS X Wx (.Assign [.Name y py] (.ListComp elt [⟨tg, iter, ifs, 0⟩] scope pos) spos) (wSet i (wLc (own.map (·.2)) wi wg wt we)) := PS.imp (ps_setLc hc hN hy hyl hsw hi ok hg ht he hs) fun D σ H h => by
  obtain ⟨A, G, cs, ms, ds, E, s, h, n, r, b, c, yy⟩ := h
  exact s_lc ⟨A, G, cs, ms, ds, _, _, s, h, fun v d G' H' cs' ms' s' e' r' h' => n _ _ G' H' cs' ms' (s'.envs (s'.env.set i r')) e' h', yy.at_⟩
theorem ds_setLcC {i : Nat} {y : Str} {py spos : Pos} (own : List (Str × Nat)) (hc : X.calm = true) (hN : X.N.Nodup) (hi : DI X Wx tg iter wi) (ok : BlkOk X.N X.env.scope scope own)
    (hg : ∀ (s : Shared) (H : Hp) (C : Addr) (cl : List (Str × Addr)) (fp : List Addr), DG (BX X scope s H C cl fp) (own.map (·.2)) tg wg) (ht : ∀ (s : Shared) (H : Hp) (C : Addr) (cl : List (Str × Addr)) (fp : List Addr), PTs (BX X scope s H C cl fp) ifs (canT X.K Wx wt))
    (he : ∀ (s : Shared) (H : Hp) (C : Addr) (cl : List (Str × Addr)) (fp : List Addr), DE (BX X scope s H C cl fp) Wx elt we) (hy : X.N[i]? = some y := by rfl) (hyl : X.env.scope.names.lookup y = some .local := by rfl)
    (hsw : swapsWith (.ListComp elt [⟨tg, iter, ifs, 0⟩] scope pos) (some (.Name y py)) spos.line X.env = pure true := by exact sw_true rfl rfl rfl (by decide +kernel)) (hs : ∀ x, foldedSetIterable iter X.env x = pure x := by intro _; rfl) :
    DS X Wx (.Assign [.Name y py] (.ListComp elt [⟨tg, iter, ifs, 0⟩] scope pos) spos) (wSet i (wLcC (own.map (·.2)) wi wg wt we)) := PS.imp (ps_setLc hc hN hy hyl hsw hi ok hg ht he hs) fun D σ H h => by
  obtain ⟨A, G, cs, ms, ds, E, s, h, n, r, b, c, yy⟩ := h
  exact s_lcC ⟨A, G, cs, ms, ds, _, _, s, h, fun v d G' H' cs' ms' s' e' r' h' => n _ _ G' H' cs' ms' (s'.envs (s'.env.set i r')) e' h', yy.at_⟩
theorem PTs.imp {ifs : List Expr} {t t' : TT} (h : PTs X ifs t) (i : ∀ σ H Q, t' σ H Q → t σ H Q) : PTs X ifs t' := ⟨fun pins s σ H Q I w => h.run pins s σ H Q I (i σ H Q w)⟩
theorem dts_nil : PTs X [] (canT X.K Wx wtYes) := PTs.imp pts_nil fun σ H Q h => by
  obtain ⟨A, G, cs, ms, ds, P, Xp, s, h, q, x⟩ := h
  exact q true G H cs ms s (Ext.refl _ _) h
theorem dts_one (h : DT X Wx c wt) : PTs X [c] (canT X.K Wx wt) := pts_one h
end
end DL

set_option Elab.async false
set_option linter.all false
set_option maxRecDepth 100000
set_option maxHeartbeats 4000000
/-! enumerate of a tuple -/
namespace PySem
open Sem (wp)
open AutoSeq1 (wpAny_loadPart')
theorem meets_enumerate_newT {v : Value} {o : Obj} {H : Heap → Prop} (B : Begins v o H) :
    Meets (Builtin.«enumerate.__new__» ⟨[.type "enumerate", v], []⟩) (fun _ R s => H s.heap ∧
      R (.ok (.ret (.ref (s.heap.push o).objs.size))) { s with heap := (s.heap.push o).push { cls := .type "enumerate", data := .fields #[.none, .bool false, .ref s.heap.objs.size, rawInt 0, .none, .none] } }) :=
  .of_wp fun prog w A R s h => by
    obtain ⟨hp, g, d, tk, os⟩ := s; obtain ⟨h1, h⟩ := h
    have hsub := sub_enumerate
    have q1 : ∀ {A' : Around} {E : Value → Shared → Prop} {Q : Value → Shared → Prop}, Q (.ref hp.objs.size) ⟨hp.push o, g, d, tk, os⟩ → wpAny (model prog w) A' (pyIter v) Q E ⟨hp, g, d, tk, os⟩ :=
      fun q => B.iter prog w _ _ ⟨hp, g, d, tk, os⟩ _ h1 q
    wp_walk using q1
    refine wpAny_stack_any fun st => wpAny_pure ?_
    split
    · rename_i c _ _ _ _ _
      cases (c == Value.type "enumerate")
      · wp_walk using q1
        exact ⟨_, rfl, h⟩
      · wp_walk using q1
        exact ⟨_, rfl, h⟩
    · wp_walk using q1
      exact ⟨_, rfl, h⟩
section
variable {prog : Program} {w : World} {A : Around} {E : Value → Shared → Prop} {s : Shared}
theorem call_enumerate_tup {l : Addr} {items : Array Value} {Q : Value → Shared → Prop} (hL : s.heap.IsTuple l items)
    (h : ∀ h', IsEnum h' (s.heap.objs.size + 1) s.heap.objs.size 0 .none → h'.IsTupleIter s.heap.objs.size l 0 → h'.objs.size = s.heap.objs.size + 2 →
      (∀ b o, s.heap.get? b = some o → h'.get? b = some o) → Q (.ref (s.heap.objs.size + 1)) { s with heap := h' }) :
    wpAny (model prog w) A (call (.type "enumerate") [.ref l]) Q E s := by
  refine callType_new F.called_enumerate (by decide) (F.typeCall_enumerate_1 _) (F.newCall_enumerate_1 _) (fun obj => F.args_object_init_2 obj _) F.entry_enumerate_new
    (meets_enumerate_newT (begins_tuple l items)) ⟨hL, ?_⟩
  have hz : (s.heap.push { cls := .type "tuple_iterator", data := .fields #[.ref l, .int 0 0] }).objs.size = s.heap.objs.size + 1 := Heap.size_push ..
  show _ ∧ _
  rw [hz]
  have he : IsEnum ((s.heap.push { cls := .type "tuple_iterator", data := .fields #[.ref l, .int 0 0] }).push
      { cls := .type "enumerate", data := .fields #[.none, .bool false, .ref s.heap.objs.size, rawInt 0, .none, .none] }) (s.heap.objs.size + 1) s.heap.objs.size 0 .none := by
    have := Heap.get?_push_size (s.heap.push { cls := .type "tuple_iterator", data := .fields #[.ref l, .int 0 0] })
      (o := { cls := .type "enumerate", data := .fields #[.none, .bool false, .ref s.heap.objs.size, rawInt 0, .none, .none] }) rfl
    rw [hz] at this; exact this
  refine ⟨⟨_, he, rfl⟩, h _ he ⟨_, Heap.get?_push_of_some _ (Heap.get?_push_size _ rfl), rfl, rfl⟩ (by rw [Heap.size_push, hz]) fun b o x => Heap.get?_push_of_some _ (Heap.get?_push_of_some _ x)⟩
end
end PySem
namespace DL
open PySem L2 PySem.Spec PyProof.Rows RZ
/-- the tuple at a, each item in a new pair -/
def IteT (K : PySem.W.Frag) (a : Addr) : It :=
  ⟨fun i H => ∃ (xs : List V) (x : V), SqT K H a xs ∧ xs[i]? = some x, fun i H v H' => ∃ T x, v = .ref T ∧ H T = none ∧ H' = upd H T (.tup [.int (i : Nat), x]) ∧ ∀ xs, SqT K H a xs → xs[i]? = some x, fun i H => ∃ xs : List V, SqT K H a xs ∧ xs.length = i⟩
theorem turn_enumT {P : Program} {w : World} {K : PySem.W.Frag} {elts : List Expr} {kk : Nat} {tpos : Pos} (a e it : Addr) :
    Turn P w K (.Tuple elts kk tpos) (IteT K a) [e, it] e (fun i h => (∃ old, IsEnum h e it ((i : Nat) : Int) old) ∧ h.IsTupleIter it a i ∧ e ≠ it ∧ a ≠ it ∧ a ≠ e) where
  mem := by simp
  obj := fun i h st b hb => by
    obtain ⟨⟨old, he⟩, ⟨o, ho, hc, hd⟩, _⟩ := st
    have e' : b = e ∨ b = it := by simpa using hb
    rcases e' with z | z
    · rw [z]; exact ⟨_, he, fun v q => nomatch q⟩
    · rw [z]; exact ⟨o, ho, fun v q => by rw [hd] at q; cases q⟩
  keep := fun i h h' st k => let ⟨⟨old, he⟩, hi, hne⟩ := st; ⟨⟨old, k e (by simp) _ he⟩, hi.at fun o q => k it (by simp) o q, hne⟩
  item := by
    intro X hP hw hK hc i pins s σ H E I hf st hg
    subst hP hw hK
    obtain ⟨⟨old, he⟩, hit, hne, hai, hae⟩ := st
    obtain ⟨xs, x, hq, hx⟩ := hg
    obtain ⟨its, rv, p, hz⟩ := I.tuple hq
    obtain ⟨u, hu, ru⟩ := rv.get hx
    have hel : e < s.heap.objs.size := Heap.lt_size he
    have hil : it < s.heap.objs.size := by obtain ⟨_, q, _⟩ := hit; exact Heap.lt_size q
    have hlt : i < its.toArray.size := by
      rw [List.size_toArray, ← rv.length]
      exact (List.getElem?_eq_some_iff.mp hx).1
    refine wpAny_pyNext_enum_itemD (Draws.tuple (A := X.A.in1) (I.ok.hd hc) it a hai its.toArray) he ⟨hit, show s.heap.IsTuple a its.toArray from p⟩ hlt hne (by simp [hne, hae.symm]) fun u' h' tk hP ho hit' hT hsz hk => ?_
    have eu : u' = u := by
      have hP' : its.toArray[i]? = some u' := hP
      rw [List.getElem?_toArray, hu] at hP'
      exact (Option.some.inj hP').symm
    subst eu
    refine ⟨_, rfl, wpAny_letOwnedTupleGo_enum (s := { s with heap := h', toks := tk + 1 }) ho fun h'' he' sb => ?_⟩
    have hT2 : h''.get? s.heap.objs.size = some { cls := .type "tuple", data := .seq #[.int i tk, u'] } := (sb.2 _ (Nat.ne_of_gt hel)).trans hT
    have new : ObjOk X.prog X.w (upd H s.heap.objs.size (.tup [.int (i : Nat), x])) h'' s.heap.objs.size (.tup [.int (i : Nat), x]) :=
      ⟨by show 2 ≤ sizeLine; decide, [.int i tk, u'], .cons ⟨_, rfl⟩ (.cons ru .nil), ⟨_, hT2, rfl, _, rfl⟩⟩
    have I1 : Inv X pins σ (upd H s.heap.objs.size (.tup [.int (i : Nat), x])) { s with heap := h'', toks := tk + 1 } :=
      I.turnedNew (ch := [e, it]) (fun b ob hb q => (sb.2 b (fun z => hb (by simp [z]))).trans (hk b ob (fun z => hb (by simp [z])) (fun z => hb (by simp [z])) q)) hf (Nat.le_refl _) new
    refine ⟨.ref s.heap.objs.size, _, I1, rfl, ⟨_, x, rfl, I.hok.fresh (Nat.le_refl _), rfl, fun ys hy => by rw [I.tuple_inj hy hq]; exact hx⟩, ⟨⟨u', ?_⟩, hit'.1.at fun o q => (sb.2 it (Ne.symm hne)).trans q, hne, hai, hae⟩, fun b hb => ?_⟩
    · have e1 : ((i + 1 : Nat) : Int) = (i : Int) + 1 := by omega
      rw [e1]; exact he'
    · have hb' : b < s.heap.objs.size := by
        have e' : b = e ∨ b = it := by simpa using hb
        rcases e' with z | z
        · rw [z]; exact hel
        · rw [z]; exact hil
      rw [upd_ne (Nat.ne_of_lt hb')]
      exact (hf b hb).1
  done := by
    intro X hP hw hK hc i pins s σ H E I hf st hg
    subst hP hw hK
    obtain ⟨⟨old, he⟩, hit, hne, hai, hae⟩ := st
    obtain ⟨xs, hq, hx⟩ := hg
    obtain ⟨its, rv, p, hz⟩ := I.tuple hq
    obtain ⟨f0, f1, f2, f3, f4, f5⟩ := hf it (by simp)
    have hl := rv.length
    have hp : s.heap.IsTuple a its.toArray := p
    have e : i = its.toArray.size := by rw [List.size_toArray, ← hl]; exact hx.symm
    subst e
    exact wpAny_pyNext_enum_endD (Draws.tuple (A := X.A.in1) (I.ok.hd hc) it a hai its.toArray) he ⟨hit, hp⟩ fun h' eb => ⟨rfl, I.turned (t' := s.toks) (fun b o hb q => eb b o hb q) f0 f1 f3 f4 f5⟩
  self := fun A i s Q E st h => let ⟨⟨_, he⟩, _⟩ := st; wpAny_pyIter_enum he h
def iEnumT (K : PySem.W.Frag) (ta : TA) : TI := fun σ H R => ta σ H fun vs H1 => ∃ a xs, vs = [.ref a] ∧ ((SqL K H1 a xs ∧ R (Ite K a) H1) ∨ (SqT K H1 a xs ∧ R (IteT K a) H1))
theorem pi_enumT {X : Cx} {e : Expr} {ta : TA} {p pos tpos : Pos} {elts : List Expr} {kk : Nat} (hg : Gl X "enumerate") (hm : X.mg "enumerate" = none) (ha : PA X [e] ta) (hs : starEach [e] X.env = [(false, eval e X.env)] := by rfl) :
    PI X (.Tuple elts kk tpos) (.Call (.Name "enumerate" p) [e] [] pos) (iEnumT X.K ta) := by
  refine ⟨fun pins s σ H R I h => ?_⟩
  refine Call_ (ld_blt I hg hm boot_enumerate (PyProof.Rows.callWith_type1 (thn (ha.run pos pins s σ H _ I h) fun us s1 ⟨vs, H1, I1, r1, q1⟩ => ?_) hs rfl))
  obtain ⟨a, xs, ex, q⟩ := q1
  subst ex
  cases r1 with
  | cons r rr =>
    cases rr
    cases r
    have fresh2 : ∀ b, b ∈ [s1.heap.objs.size + 1, s1.heap.objs.size] → FpOk X pins H1 b := fun b hb => by
      have e' : b = s1.heap.objs.size + 1 ∨ b = s1.heap.objs.size := by simpa using hb
      have hle : s1.heap.objs.size ≤ b := by
        rcases e' with z | z
        · rw [z]; exact Nat.le_add_right _ _
        · rw [z]; exact Nat.le_refl _
      exact I1.fpOk hle (I1.hok.fresh hle)
    rcases q with ⟨hq, q⟩ | ⟨hq, q⟩
    · obtain ⟨its, rv, p', hz⟩ := I1.list hq
      refine call_enumerate_list p'.isList fun h' he hit hsz hk => wpAny_pyIter_enum he ?_
      have I2 : Inv X pins σ H1 { s1 with heap := h' } := I1.kept (t' := s1.toks) hk
      exact ⟨s1.heap.objs.size + 1, [s1.heap.objs.size + 1, s1.heap.objs.size], _, _, H1, rfl, I2, turn_enum a (s1.heap.objs.size + 1) s1.heap.objs.size, ⟨⟨.none, he⟩, hit, Nat.succ_ne_self _⟩, fresh2, q⟩
    · obtain ⟨its, rv, p', hz⟩ := I1.tuple hq
      have la : a < s1.heap.objs.size := p'.lt
      refine call_enumerate_tup (show s1.heap.IsTuple a its.toArray from p') fun h' he hit hsz hk => wpAny_pyIter_enum he ?_
      have I2 : Inv X pins σ H1 { s1 with heap := h' } := I1.kept (t' := s1.toks) hk
      exact ⟨s1.heap.objs.size + 1, [s1.heap.objs.size + 1, s1.heap.objs.size], _, _, H1, rfl, I2, turn_enumT a (s1.heap.objs.size + 1) s1.heap.objs.size, ⟨⟨.none, he⟩, hit, Nat.succ_ne_self _, Nat.ne_of_lt la, Nat.ne_of_lt (Nat.lt_succ_of_lt la)⟩, fresh2, q⟩
section
variable {X : Cx} {K : Frg} {Wx : WX} {σ : L2.St} {H : Hp} {a b c e : Expr} {wa wb wc we : WE} {pos : Pos} {es : List Expr}
def enumP : Nat → List PD → List PD
  | _, [] => []
  | k, x :: r => .tup [.int k, x] :: enumP (k + 1) r
theorem enumP_len : ∀ (k : Nat) (xs : List PD), (enumP k xs).length = xs.length
  | _, [] => rfl
  | k, x :: r => by simp [enumP, enumP_len (k + 1) r]
theorem enumP_get : ∀ {k : Nat} {xs : List PD} {i : Nat} {x : PD}, xs[i]? = some x → (enumP k xs)[i]? = some (.tup [.int ((k + i : Nat) : Int), x])
  | _, [], i, x, h => by simp at h
  | k, y :: r, 0, x, h => by
    simp at h
    subst h
    simp [enumP]
  | k, y :: r, i + 1, x, h => by
    have := enumP_get (k := k + 1) (xs := r) (i := i) (x := x) (by simpa using h)
    simp only [enumP, List.getElem?_cons_succ, this]
    congr 4
    omega
def wiEnum (wr : WA) : WI := fun ds ms P Xp => wr ds ms (fun l m => match l with | [d] => (match sqOf d m with | some xs => P (enumP 0 xs) (fun m' => sqOf d m' = some xs) m | none => False) | _ => False) Xp
theorem pair_new {A : Amb} {G : Hp} {cs : Cs} {ms : Mu} {ds : De} {T : Addr} {v w : V} {x y : PD} (s : St K A G H cs ms σ ds) (hT : H T = none) (r1 : Rep K G v x) (r2 : Rep K G w y) :
    St K A (upd G T (.tup [v, w])) (upd H T (.tup [v, w])) cs ms σ ds ∧ Same G (upd G T (.tup [v, w])) ∧ Rep K (upd G T (.tup [v, w])) (.ref T) (.tup [x, y]) := by
  obtain ⟨s1, sg⟩ := s.pers hT (.tup [v, w])
  exact ⟨s1, sg, .tup (SqT.of upd_same) (.cons (r1.mono sg) (.cons (r2.mono sg) .nil))⟩
theorem itOk_enL {cs : Cs} {G : Hp} {ms : Mu} {p : Addr} {d : D} {xs : List PD} (r : RepD K (io cs) G (.ref p) d) (h : lsOf d ms = some xs) : ItOk K cs G (Ite K p) (enumP 0 xs) (fun m' => sqOf d m' = some xs) where
  goes := fun A i G' H' cs' ms' σ' ds' hi s e st => by
    obtain ⟨q, vs, eq, h1, h2⟩ := ls_of s (r.ext e) (sq_ls h st)
    cases eq
    rw [enumP_len] at hi
    obtain ⟨v, hv, _⟩ := h2.get (List.getElem?_eq_getElem hi)
    exact ⟨vs, v, SqL.of h1, hv⟩
  stops := fun A G' H' cs' ms' σ' ds' s e st => by
    obtain ⟨q, vs, eq, h1, h2⟩ := ls_of s (r.ext e) (sq_ls h st)
    cases eq
    exact ⟨vs, SqL.of h1, by rw [h2.length, enumP_len]; exact Nat.le_refl _⟩
  yields := fun A i G' H' cs' ms' σ' ds' x H2 hi s e st y => by
    obtain ⟨q, vs, eq, h1, h2⟩ := ls_of s (r.ext e) (sq_ls h st)
    cases eq
    obtain ⟨T, z, rfl, hT, rfl, y⟩ := y
    obtain ⟨d', e1, r'⟩ := h2.get' (y vs (SqL.of h1))
    obtain ⟨s2, sg, rr⟩ := pair_new s hT (.int (i : Nat)) r'
    exact ⟨_, _, by rw [enumP_get e1, Nat.zero_add], s2, sg, rr⟩
theorem itOk_enT {cs : Cs} {G : Hp} {p : Addr} {xs : List PD} (r : Rep K G (.ref p) (.tup xs)) (st : Mu → Prop) : ItOk K cs G (IteT K p) (enumP 0 xs) st where
  goes := fun A i G' H' cs' ms' σ' ds' hi s e st => by
    cases r.mono e.same with
    | tup h1 h2 =>
      rw [enumP_len] at hi
      obtain ⟨v, hv, _⟩ := h2.get (List.getElem?_eq_getElem hi)
      exact ⟨_, v, same_sqT s.k.gh h1, hv⟩
  stops := fun A G' H' cs' ms' σ' ds' s e st => by
    cases r.mono e.same with
    | tup h1 h2 => exact ⟨_, same_sqT s.k.gh h1, by rw [h2.length, enumP_len]⟩
  yields := fun A i G' H' cs' ms' σ' ds' x H2 hi s e st y => by
    cases r.mono e.same with
    | tup h1 h2 =>
      obtain ⟨T, z, rfl, hT, rfl, y⟩ := y
      obtain ⟨d', e1, r'⟩ := h2.get' (y _ (same_sqT s.k.gh h1))
      obtain ⟨s2, sg, rr⟩ := pair_new s hT (.int (i : Nat)) r'
      exact ⟨_, _, by rw [enumP_get e1, Nat.zero_add], s2, sg, rr⟩
theorem ls_or_tup {d : D} {m : Mu} {xs : List PD} (h : sqOf d m = some xs) : lsOf d m = some xs ∨ d = .p (.tup xs) := by
  cases d with
  | p x => cases x <;> simp_all [lsOf, sqOf]
  | c n => exact .inl (by simpa [lsOf, sqOf] using h)
theorem di_enum {elts : List Expr} {kk : Nat} {tpos p : Pos} {wr : WA} (hm : X.mg "enumerate" = none) (ha : DA X Wx [a] wr) (hg : Gl X "enumerate" := by rfl) (hs : starEach [a] X.env = [(false, eval a X.env)] := by rfl) :
    DI X Wx (.Tuple elts kk tpos) (.Call (.Name "enumerate" p) [a] [] pos) (wiEnum wr) := PI.imp (pi_enumT hg hm ha hs) fun σ H R h => by
  obtain ⟨A, G, cs, ms, ds, P, Xp, s, h, q, x⟩ := h
  refine ⟨A, G, cs, ms, ds, _, Xp, s, h, fun vs l G1 H1 cs1 ms1 s1 e1 r1 h1 => ?_, x⟩
  try dsimp only at h1
  split at h1
  · rename_i d
    cases r1 with
    | @cons v _ _ _ z rr =>
      cases rr
      split at h1
      · rename_i xs eq
        rcases ls_or_tup eq with hl | hl
        · obtain ⟨p, us, rfl, l1, l2⟩ := ls_of s1 z hl
          exact ⟨p, us, rfl, .inl ⟨SqL.of l1, q _ _ _ G1 H1 cs1 ms1 s1 e1 (itOk_enL z hl) h1⟩⟩
        · subst hl
          have z' : Rep X.K G1 v (.tup xs) := z
          cases z' with
          | @tup p us _ a1 a2 => exact ⟨p, us, rfl, .inr ⟨same_sqT s1.k.gh a1, q _ _ _ G1 H1 cs1 ms1 s1 e1 (itOk_enT (.tup a1 a2) _) h1⟩⟩
      · exact h1.elim
  · exact h1.elim
/-! zip of two lists or of two tuples -/
def zipP : List PD → List PD → List PD
  | x :: r, y :: q => .tup [x, y] :: zipP r q
  | _, _ => []
theorem zipP_len : ∀ (xs ys : List PD), (zipP xs ys).length = min xs.length ys.length
  | [], ys => by simp [zipP]
  | x :: r, [] => by simp [zipP]
  | x :: r, y :: q => by simp [zipP, zipP_len r q]
theorem zipP_get : ∀ {xs ys : List PD} {i : Nat} {x y : PD}, xs[i]? = some x → ys[i]? = some y → (zipP xs ys)[i]? = some (.tup [x, y])
  | [], _, i, x, y, h, _ => by simp at h
  | x' :: r, [], i, x, y, _, h => by simp at h
  | x' :: r, y' :: q, 0, x, y, h, h' => by
    simp at h h'
    subst h h'
    simp [zipP]
  | x' :: r, y' :: q, i + 1, x, y, h, h' => by
    simpa [zipP] using zipP_get (xs := r) (ys := q) (i := i) (by simpa using h) (by simpa using h')
def wiZip (wr : WA) : WI := fun ds ms P Xp => wr ds ms (fun l m => match l with | [.p (.tup xs), .p (.tup ys)] => P (zipP xs ys) (fun _ => True) m | _ => False) Xp
theorem itOk_zip {cs : Cs} {G : Hp} {p p2 : Addr} {xs ys : List PD} (r : Rep K G (.ref p) (.tup xs)) (r2 : Rep K G (.ref p2) (.tup ys)) : ItOk K cs G (ItzT K p p2) (zipP xs ys) (fun _ => True) where
  goes := fun A i G' H' cs' ms' σ' ds' hi s e st => by
    cases r.mono e.same with
    | tup h1 h2 =>
      cases r2.mono e.same with
      | tup h3 h4 =>
        rw [zipP_len] at hi
        obtain ⟨v, hv, _⟩ := h2.get (List.getElem?_eq_getElem (show i < xs.length by omega))
        obtain ⟨w, hw, _⟩ := h4.get (List.getElem?_eq_getElem (show i < ys.length by omega))
        exact ⟨_, _, v, w, same_sqT s.k.gh h1, same_sqT s.k.gh h3, hv, hw⟩
  stops := fun A G' H' cs' ms' σ' ds' s e st => by
    cases r.mono e.same with
    | tup h1 h2 =>
      cases r2.mono e.same with
      | tup h3 h4 => exact ⟨_, _, same_sqT s.k.gh h1, same_sqT s.k.gh h3, by rw [h2.length, h4.length, zipP_len]; omega⟩
  yields := fun A i G' H' cs' ms' σ' ds' x H2 hi s e st y => by
    cases r.mono e.same with
    | tup h1 h2 =>
      cases r2.mono e.same with
      | tup h3 h4 =>
        obtain ⟨T, z, z2, rfl, hT, rfl, y1, y2⟩ := y
        obtain ⟨d', e1, r'⟩ := h2.get' (y1 _ (same_sqT s.k.gh h1))
        obtain ⟨d2', e2, r2'⟩ := h4.get' (y2 _ (same_sqT s.k.gh h3))
        obtain ⟨s2, sg, rr⟩ := pair_new s hT r' r2'
        exact ⟨_, _, zipP_get e1 e2, s2, sg, rr⟩
theorem di_zip {elts : List Expr} {kk : Nat} {tpos p : Pos} {wr : WA} (hm : X.mg "zip" = none) (ha : DA X Wx [a, b] wr) (hg : Gl X "zip" := by rfl) 
    (hs : starEach [a, b] X.env = (false, eval a X.env) :: starEach [b] X.env := by rfl) (hpl : (backTo pos (starEach [b] X.env)).any (·.1) = false := by rfl) :
    DI X Wx (.Tuple elts kk tpos) (.Call (.Name "zip" p) [a, b] [] pos) (wiZip wr) := PI.imp (pi_zipA hg hm ha hs hpl) fun σ H R h => by
  obtain ⟨A, G, cs, ms, ds, P, Xp, s, h, q, x⟩ := h
  refine ⟨A, G, cs, ms, ds, _, Xp, s, h, fun vs l G1 H1 cs1 ms1 s1 e1 r1 h1 => ?_, x⟩
  try dsimp only at h1
  split at h1
  · rename_i xs ys
    cases r1 with
    | @cons v _ _ _ z rr =>
      cases rr with
      | @cons v2 _ _ _ z2 rr =>
        cases rr
        have z' : Rep X.K G1 v (.tup xs) := z
        have z2' : Rep X.K G1 v2 (.tup ys) := z2
        cases z' with
        | @tup p us _ a1 a2 =>
          cases z2' with
          | @tup p2 us2 _ b1 b2 => exact ⟨p, p2, us, us2, rfl, .inr ⟨same_sqT s1.k.gh a1, same_sqT s1.k.gh b1, q _ _ _ G1 H1 cs1 ms1 s1 e1 (itOk_zip (.tup a1 a2) (.tup b1 b2)) h1⟩⟩
  · exact h1.elim
end
end DL

set_option Elab.async false
set_option linter.all false
set_option maxRecDepth 100000
set_option maxHeartbeats 4000000
namespace DL
open PySem L2 PySem.Spec PyProof.Rows
section
variable {X : Cx} {K : Frg} {Wx : WX} {σ : L2.St} {H : Hp} {a b c e : Expr} {wa wb wc we : WE} {pos : Pos} {es : List Expr}
/-! ### calls of built-ins -/
def wCB (f : FA) (wr : WA) : WE := fun ds ms P Xp => wr ds ms (fun xs m => f xs m P) Xp
theorem s_cb {r : List V → Hp → VK → Prop} {f : FA} (so : SCl K r f) {wr : WA} {Q : VK} (h : canE K Wx (wCB f wr) σ H Q) : tCB r (canA K Wx wr) σ H Q := by
  obtain ⟨A, G, cs, ms, ds, P, Xp, s, h, q, x⟩ := h
  exact ⟨A, G, cs, ms, ds, _, Xp, s, h, fun vs xs G1 H1 cs1 ms1 s1 e1 r1 h1 => so s1 r1 h1 (q.ext e1), x⟩
theorem de_cb {id : String} {x : Str} {p : Pos} {r : List V → Hp → VK → Prop} {f : FA} {wr : WA} (hc : CallR X (.builtin id) r) (so : SCl X.K r f) (hm : X.mg x = none) (hv : bootBuiltins x = some (.builtin id)) (ha : DA X Wx (e :: es) wr)
    (hg : Gl X x := by rfl) (hn : x ≠ "__name__" := by decide) (hdb : (x == ("__debug__" : Str)) = false := by decide) (he : starEach (e :: es) X.env = (false, eval e X.env) :: starEach es X.env := by rfl) (hpl : (backTo pos (starEach es X.env)).any (·.1) = false := by rfl) :
    DE X Wx (.Call (.Name x p) (e :: es) [] pos) (wCB f wr) := PE.imp (pe_callB hc hg hm hv ha hn hdb he hpl) fun _ _ _ => s_cb so
theorem de_cty {T : String} {x : Str} {p : Pos} {r : List V → Hp → VK → Prop} {f : FA} {wr : WA} (hc : CallR X (.type T) r) (so : SCl X.K r f) (hm : X.mg x = none) (hv : bootBuiltins x = some (.type T)) (ha : DA X Wx (e :: es) wr)
    (hg : Gl X x := by rfl) (hn : x ≠ "__name__" := by decide) (hdb : (x == ("__debug__" : Str)) = false := by decide) (he : starEach (e :: es) X.env = (false, eval e X.env) :: starEach es X.env := by rfl) (hpl : (backTo pos (starEach es X.env)).any (·.1) = false := by rfl) :
    DE X Wx (.Call (.Name x p) (e :: es) [] pos) (wCB f wr) := PE.imp (pe_callTy hc hg hm hv ha hn hdb he hpl) fun _ _ _ => s_cb so
/-! len -/
def fLen : FA := fun l m P => match l with
  | [.p (.str z)] => z.length ≤ big ∧ P (.p (.int z.length)) m
  | [x] => (match sqOf x m with | some xs => P (.p (.int xs.length)) m | none => False)
  | _ => False
theorem so_len : SCl K (fun xs H Q => (∃ p ys, xs = [V.ref p] ∧ (SqL K H p ys ∨ SqT K H p ys) ∧ Q (.int ys.length) H) ∨ (∃ z, xs = [V.str z] ∧ z.length ≤ sizeLine ∧ Q (.int z.length) H)) fLen := by
  intro A G H cs ms σ ds xs dx P Q s r h q
  unfold fLen at h
  split at h
  · rename_i z
    cases r with
    | @cons v _ _ _ r1 rr =>
      cases rr
      have z' : Rep K G v (.str z) := r1
      cases z'
      exact .inr ⟨z, rfl, big_ok h.1, q.ret s (.int _) h.2⟩
  · rename_i x _
    cases r with
    | @cons v _ _ _ r1 rr =>
      cases rr
      split at h
      · rename_i xs e
        obtain ⟨p, vs, rfl, h3, h4⟩ := sq_of s r1 e
        refine .inl ⟨p, vs, rfl, ?_, by rw [h4.length]; exact q.ret s (.int _) h⟩
        rcases h3 with h3 | h3
        · exact .inl (SqL.of h3)
        · exact .inr h3
      · exact h.elim
  · exact h.elim
theorem de_len {wr : WA} {p : Pos} (hm : X.mg "len" = none) (ha : DA X Wx [e] wr) (hg : Gl X "len" := by rfl) (he : starEach (e :: []) X.env = (false, eval e X.env) :: starEach [] X.env := by rfl) : DE X Wx (.Call (.Name "len" p) [e] [] pos) (wCB fLen wr) :=
  de_cb (CallR.or call_len_seq call_len_str) so_len hm PySem.boot_len ha hg (by decide) (by decide) he (by rfl)
/-! max, min -/
def allI : List PD → Option (List Int)
  | [] => some []
  | .int i :: r => (match allI r with | some ns => some (i :: ns) | none => none)
  | _ :: _ => none
theorem allI_some : ∀ {xs : List PD} {ns : List Int}, allI xs = some ns → xs = ns.map PD.int
  | [], ns, h => by
    have : ns = [] := (Option.some.inj h).symm
    subst this
    rfl
  | .int i :: r, ns, h => by
    unfold allI at h
    split at h
    · rename_i ms e
      have := (Option.some.inj h).symm
      subst this
      rw [allI_some e]
      rfl
    · cases h
  | .non :: _, _, h => by cases h
  | .bl _ :: _, _, h => by cases h
  | .str _ :: _, _, h => by cases h
  | .tup _ :: _, _, h => by cases h
  | .lst _ :: _, _, h => by cases h
  | .ins _ _ :: _, _, h => by cases h
  | .fz _ :: _, _, h => by cases h
theorem allI_map : ∀ ns : List Int, allI (ns.map PD.int) = some ns
  | [] => rfl
  | n :: r => by
    show (match allI (r.map PD.int) with | some ns => some (n :: ns) | none => none) = _
    rw [allI_map r]
def allB : List PD → Option (List Bool)
  | [] => some []
  | .bl i :: r => (match allB r with | some ns => some (i :: ns) | none => none)
  | _ :: _ => none
theorem allB_some : ∀ {xs : List PD} {ns : List Bool}, allB xs = some ns → xs = ns.map PD.bl
  | [], ns, h => by
    have : ns = [] := (Option.some.inj h).symm
    subst this
    rfl
  | .bl i :: r, ns, h => by
    unfold allB at h
    split at h
    · rename_i ms e
      have := (Option.some.inj h).symm
      subst this
      rw [allB_some e]
      rfl
    · cases h
  | .non :: _, _, h => by cases h
  | .int _ :: _, _, h => by cases h
  | .str _ :: _, _, h => by cases h
  | .tup _ :: _, _, h => by cases h
  | .lst _ :: _, _, h => by cases h
  | .ins _ _ :: _, _, h => by cases h
  | .fz _ :: _, _, h => by cases h
theorem allB_map : ∀ ns : List Bool, allB (ns.map PD.bl) = some ns
  | [] => rfl
  | n :: r => by
    show (match allB (r.map PD.bl) with | some ns => some (n :: ns) | none => none) = _
    rw [allB_map r]
def maxI : List Int → Int
  | [] => 0
  | [x] => x
  | x :: r => max x (maxI r)
def minI : List Int → Int
  | [] => 0
  | [x] => x
  | x :: r => min x (minI r)
theorem maxI_mem : ∀ {ns : List Int}, ns ≠ [] → maxI ns ∈ ns
  | [], h => absurd rfl h
  | [x], _ => by simp [maxI]
  | x :: y :: r, _ => by
    have ih := maxI_mem (ns := y :: r) (by simp)
    unfold maxI
    rcases Int.le_total x (maxI (y :: r)) with z | z
    · rw [Int.max_eq_right z]; exact List.mem_cons_of_mem _ ih
    · rw [Int.max_eq_left z]; exact List.mem_cons_self
theorem maxI_ge : ∀ {ns : List Int} {x : Int}, x ∈ ns → x ≤ maxI ns
  | [], _, h => by cases h
  | [y], x, h => by
    have : x = y := by simpa using h
    subst this
    exact Int.le_refl _
  | y :: z :: r, x, h => by
    unfold maxI
    rcases List.mem_cons.mp h with e | e
    · subst e; exact Int.le_max_left _ _
    · exact Int.le_trans (maxI_ge e) (Int.le_max_right _ _)
theorem minI_mem : ∀ {ns : List Int}, ns ≠ [] → minI ns ∈ ns
  | [], h => absurd rfl h
  | [x], _ => by simp [minI]
  | x :: y :: r, _ => by
    have ih := minI_mem (ns := y :: r) (by simp)
    unfold minI
    rcases Int.le_total x (minI (y :: r)) with z | z
    · rw [Int.min_eq_left z]; exact List.mem_cons_self
    · rw [Int.min_eq_right z]; exact List.mem_cons_of_mem _ ih
theorem minI_le : ∀ {ns : List Int} {x : Int}, x ∈ ns → minI ns ≤ x
  | [], _, h => by cases h
  | [y], x, h => by
    have : x = y := by simpa using h
    subst this
    exact Int.le_refl _
  | y :: z :: r, x, h => by
    unfold minI
    rcases List.mem_cons.mp h with e | e
    · subst e; exact Int.min_le_left _ _
    · exact Int.le_trans (Int.min_le_right _ _) (minI_le e)
def intsOf (x : D) (m : Mu) : Option (List Int) := match sqOf x m with | some xs => allI xs | none => none
def fMax : FA := fun l m P => match l with
  | [.p (.int i), .p (.int j)] => P (.p (.int (max i j))) m
  | [.p (.int i), .p (.int j), .p (.int k)] => P (.p (.int (max i (max j k)))) m
  | [x] => (match intsOf x m with | some ns => ns ≠ [] ∧ P (.p (.int (maxI ns))) m | none => False)
  | _ => False
def fMin : FA := fun l m P => match l with
  | [.p (.int i), .p (.int j)] => P (.p (.int (min i j))) m
  | [x] => (match intsOf x m with | some ns => ns ≠ [] ∧ P (.p (.int (minI ns))) m | none => False)
  | _ => False
theorem iter_intTup {prog : Program} {w : World} {A : Around} {E : Value → Shared → Prop} {s : Shared} {l : Addr} {items : Array Value} {Q : Value → Shared → Prop} (hl : s.heap.IsTuple l items)
    (h : ∀ s₂ : Shared, s₂ = { s with heap := s.heap.push { cls := .type "tuple_iterator", data := .fields #[.ref l, .int 0 0] } } →
      (s₂.heap.IsTupleIter s.heap.objs.size l 0 ∧ s₂.heap.IsTuple l items) → (∀ b ∈ [s.heap.objs.size, l], b < s₂.heap.objs.size) → l ≠ s.heap.objs.size → Q (.ref s.heap.objs.size) s₂) :
    wpAny (model prog w) A (pyIter (.ref l)) Q E s := by
  have hlt : l < s.heap.objs.size := by obtain ⟨_, e, _⟩ := hl; exact Heap.lt_size e
  refine wpAny_pyIter_tuple hl (h _ rfl ⟨⟨_, Heap.get?_push_size _ rfl, rfl, rfl⟩, hl.push _⟩ (fun b hb => ?_) (Nat.ne_of_lt hlt))
  show b < (s.heap.push _).objs.size
  rw [Heap.size_push]
  rcases List.mem_cons.mp hb with rfl | hb
  · exact Nat.lt_succ_self _
  · rcases List.mem_cons.mp hb with rfl | hb
    · exact Nat.lt_succ_of_lt hlt
    · cases hb
theorem old_keptT {s : Shared} {l : Addr} {h' : Heap} (hk : ∀ b o, b ∉ [s.heap.objs.size] → (s.heap.push { cls := .type "tuple_iterator", data := .fields #[.ref l, .int 0 0] }).get? b = some o → h'.get? b = some o) :
    ∀ b o, s.heap.get? b = some o → h'.get? b = some o := fun b o e => by
  refine hk b o (fun hm => ?_) (Heap.get?_push_of_some _ e)
  rcases List.mem_cons.mp hm with e1 | hm
  · exact absurd (e1 ▸ Heap.lt_size e) (Nat.lt_irrefl _)
  · cases hm
theorem min_rawT {prog : Program} {w : World} {A : Around} {E : Value → Shared → Prop} {s : Shared} {l : Addr} {its : List Value} {ns : List Int} {Q : Value → Shared → Prop} (hh : A.handled = none) (hl : s.heap.IsTuple l its.toArray) (hi : IntsAre its ns) (hne : 0 < ns.length)
    (h : ∀ h' tk M t', (∀ b o, s.heap.get? b = some o → h'.get? b = some o) → M ∈ ns → (∀ a, a ∈ ns → M ≤ a) → Q (.int M t') { s with heap := h', toks := tk }) : wpAny (model prog w) A (call (.builtin "min") [.ref l]) Q E s := by
  obtain ⟨xs, e⟩ := hi.allInts.items
  have hn : numsOf (intItems xs).toList = ns := by rw [← e]; exact hi.numsOf
  rw [nums_intItems] at hn
  subst hn
  rw [e] at hl
  have hsz : 0 < xs.size := by simpa using hne
  refine call_min_walk (iter_intTup hl fun s₂ e st hfp hlI => ?_)
  subst e
  refine ⟨_, _, _, _, _, _, _, rfl, Walks.tuple (A := A.in1) hh _ l hlI (intItems xs), st, hfp, by simpa [intItems] using hsz, CmpOf.ints_lt (numAt xs) (fun _ _ => intItems_at), fun v h' tk hP hk => ?_⟩
  have hv : (intItems xs)[argBest (fun i j => decide (numAt xs i < numAt xs j)) (xs.size - 1)]? = some v := by simpa [intItems] using hP
  obtain ⟨t, rfl⟩ := intItems_at hv
  obtain ⟨h1, h2⟩ := argBest_lt (numAt xs) (xs.size - 1)
  refine h h' tk _ t (old_keptT hk) ?_ fun a ha => ?_
  · rw [numAt_eq]; exact PySem.getD_mem (by rw [List.length_map, Array.length_toList]; omega)
  · obtain ⟨j, hj, rfl⟩ := PySem.mem_getD ha
    rw [List.length_map, Array.length_toList] at hj
    rw [← numAt_eq]; exact h2 j (by omega)
/-- max of two, of three, of a list; min of two, of a list or a tuple -/
def rMaxA (K : Frg) : List V → Hp → VK → Prop := fun xs H Q => (∃ i j, xs = [.int i, .int j] ∧ Q (.int (if j > i then j else i)) H) ∨ (rMax K xs H Q ∨ ∃ i j k : Int, xs = [V.int i, V.int j, V.int k] ∧ Q (.int (if j > i then (if k > j then k else j) else (if k > i then k else i))) H)
theorem call_max3 (hc : X.calm = true) : CallR X (.builtin "max") (fun xs H Q => ∃ i j k : Int, xs = [V.int i, V.int j, V.int k] ∧ Q (.int (if j > i then (if k > j then k else j) else (if k > i then k else i))) H) := by
  intro pins s σ H xs us Q I rv h
  obtain ⟨i, j, k, rfl, q⟩ := h
  cases rv with
  | cons r1 rr =>
    cases rr with
    | cons r2 rr =>
      cases rr with
      | cons r3 rr =>
        cases rr
        obtain ⟨t1, rfl⟩ := r1
        obtain ⟨t2, rfl⟩ := r2
        obtain ⟨t3, rfl⟩ := r3
        refine max_three_ints (I.ok.hd hc) fun h' tk hk => ?_
        refine ⟨.int _, H, I.kept hk, ?_, q⟩
        split
        · split <;> exact ⟨_, rfl⟩
        · split <;> exact ⟨_, rfl⟩
theorem max_if (i j : Int) : (if j > i then j else i) = max i j := by
  rw [Int.max_def]
  split <;> split <;> omega
theorem min_if (i j : Int) : (if j < i then j else i) = min i j := by
  rw [Int.min_def]
  split <;> split <;> omega
theorem intsOf_some {x : D} {m : Mu} {ns : List Int} (h : intsOf x m = some ns) : sqOf x m = some (ns.map PD.int) := by
  unfold intsOf at h
  split at h
  · rename_i xs e
    rw [e, allI_some h]
  · cases h
theorem so_max : SCl K (fun xs H Q => (∃ i j, xs = [V.int i, V.int j] ∧ Q (.int (if j > i then j else i)) H) ∨ (rMax K xs H Q ∨ ∃ i j k : Int, xs = [V.int i, V.int j, V.int k] ∧ Q (.int (if j > i then (if k > j then k else j) else (if k > i then k else i))) H)) (fun l m P => (match l with | [.p (.tup _)] => False | _ => True) ∧ fMax l m P) := by
  intro A G H cs ms σ ds xs dx P Q s r h q
  obtain ⟨hnt, h⟩ := h
  unfold fMax at h
  split at h
  · rename_i i j
    cases r with
    | @cons v _ _ _ r1 rr =>
      cases rr with
      | @cons v2 _ _ _ r2 rr =>
        cases rr
        have z1 : Rep K G v (.int i) := r1
        have z2 : Rep K G v2 (.int j) := r2
        cases z1
        cases z2
        exact .inl ⟨i, j, rfl, by rw [max_if]; exact q.ret s (.int _) h⟩
  · rename_i i j k
    cases r with
    | @cons v _ _ _ r1 rr =>
      cases rr with
      | @cons v2 _ _ _ r2 rr =>
        cases rr with
        | @cons v3 _ _ _ r3 rr =>
          cases rr
          have z1 : Rep K G v (.int i) := r1
          have z2 : Rep K G v2 (.int j) := r2
          have z3 : Rep K G v3 (.int k) := r3
          cases z1
          cases z2
          cases z3
          refine .inr (.inr ⟨i, j, k, rfl, ?_⟩)
          have e : (if j > i then (if k > j then k else j) else (if k > i then k else i)) = max i (max j k) := by
            simp only [Int.max_def]
            repeat' split
            all_goals omega
          rw [e]
          exact q.ret s (.int _) h
  · rename_i x
    cases r with
    | @cons v _ _ _ r1 rr =>
      cases rr
      split at h
      · rename_i ns e
        have e' := intsOf_some e
        rcases ls_or_tup e' with hl | hl
        · obtain ⟨p, vs, rfl, l1, l2⟩ := ls_of s r1 hl
          have ev := RepA.ints_inv l2
          subst ev
          refine .inr (.inl ⟨p, ns, rfl, SqL.of l1, List.length_pos_iff.mpr h.1, fun mm h1 h2 => ?_⟩)
          have : mm = maxI ns := Int.le_antisymm (maxI_ge h1) (h2 _ (maxI_mem h.1))
          rw [this]
          exact q.ret s (.int _) h.2
        · subst hl
          exact hnt.elim
      · exact h.elim
  · exact h.elim
def fMaxL : FA := fun l m P => (match l with | [.p (.tup _)] => False | _ => True) ∧ fMax l m P
theorem de_max {wr : WA} {p : Pos} (hc : X.calm = true) (hm : X.mg "max" = none) (ha : DA X Wx (e :: es) wr) (hg : Gl X "max" := by rfl) (he : starEach (e :: es) X.env = (false, eval e X.env) :: starEach es X.env := by rfl) (hpl : (backTo pos (starEach es X.env)).any (·.1) = false := by rfl) : DE X Wx (.Call (.Name "max" p) (e :: es) [] pos) (wCB fMaxL wr) :=
  de_cb (CallR.or (call_max2 hc) (CallR.or (cr_max hc) (call_max3 hc))) so_max hm PyProof.Rows.boot_max ha hg (by decide) (by decide) he hpl
theorem call_minT (hc : X.calm = true) : CallR X (.builtin "min") (fun vs H Q => ∃ (a : Addr) (ns : List Int), vs = [V.ref a] ∧ SqT X.K H a (ns.map V.int) ∧ 0 < ns.length ∧ ∀ m, m ∈ ns → (∀ y, y ∈ ns → m ≤ y) → Q (.int m) H) := by
  intro pins s σ H vs us Q I r h
  obtain ⟨a, ns, rfl, hs, hne, q⟩ := h
  obtain ⟨its, rv, hl, _⟩ := I.tuple hs
  cases r with
  | cons r1 rr =>
    cases rr
    cases r1
    exact min_rawT (I.ok.hd hc) (show s.heap.IsTuple a its.toArray from hl) rv.ints hne fun h' tk m t' hk h1 h2 => ⟨.int _, H, I.kept hk, ⟨_, rfl⟩, q m h1 h2⟩
theorem so_min : SCl K (fun xs H Q => (∃ i j, xs = [V.int i, V.int j] ∧ Q (.int (if j < i then j else i)) H) ∨ (rMin K xs H Q ∨ ∃ (a : Addr) (ns : List Int), xs = [V.ref a] ∧ SqT K H a (ns.map V.int) ∧ 0 < ns.length ∧ ∀ m, m ∈ ns → (∀ y, y ∈ ns → m ≤ y) → Q (.int m) H)) fMin := by
  intro A G H cs ms σ ds xs dx P Q s r h q
  unfold fMin at h
  split at h
  · rename_i i j
    cases r with
    | @cons v _ _ _ r1 rr =>
      cases rr with
      | @cons v2 _ _ _ r2 rr =>
        cases rr
        have z1 : Rep K G v (.int i) := r1
        have z2 : Rep K G v2 (.int j) := r2
        cases z1
        cases z2
        exact .inl ⟨i, j, rfl, by rw [min_if]; exact q.ret s (.int _) h⟩
  · rename_i x
    cases r with
    | @cons v _ _ _ r1 rr =>
      cases rr
      split at h
      · rename_i ns e
        obtain ⟨p, vs, rfl, l1, l2⟩ := sq_of s r1 (intsOf_some e)
        have ev := RepA.ints_inv l2
        subst ev
        have fin : ∀ mm, mm ∈ ns → (∀ y, y ∈ ns → mm ≤ y) → Q (.int mm) H := fun mm h1 h2 => by
          have : mm = minI ns := Int.le_antisymm (h2 _ (minI_mem h.1)) (minI_le h1)
          rw [this]
          exact q.ret s (.int _) h.2
        rcases l1 with l1 | l1
        · exact .inr (.inl ⟨p, ns, rfl, SqL.of l1, List.length_pos_iff.mpr h.1, fin⟩)
        · exact .inr (.inr ⟨p, ns, rfl, l1, List.length_pos_iff.mpr h.1, fin⟩)
      · exact h.elim
  · exact h.elim
theorem de_min {wr : WA} {p : Pos} (hc : X.calm = true) (hm : X.mg "min" = none) (ha : DA X Wx (e :: es) wr) (hg : Gl X "min" := by rfl) (he : starEach (e :: es) X.env = (false, eval e X.env) :: starEach es X.env := by rfl) (hpl : (backTo pos (starEach es X.env)).any (·.1) = false := by rfl) : DE X Wx (.Call (.Name "min" p) (e :: es) [] pos) (wCB fMin wr) :=
  de_cb (CallR.or (call_min2 hc) (CallR.or (cr_min hc) (call_minT hc))) so_min hm PyProof.Rows.boot_min ha hg (by decide) (by decide) he hpl
/-! sum, all, any of a list -/
def fSum : FA := fun l m P => match l with | [x] => (match lsOf x m with | some xs => (match allI xs with | some ns => P (.p (.int ns.sum)) m | none => False) | none => False) | _ => False
def fAll : FA := fun l m P => match l with | [x] => (match lsOf x m with | some xs => (match allB xs with | some ns => P (.p (.bl (ns.all id))) m | none => False) | none => False) | _ => False
def fAny : FA := fun l m P => match l with | [x] => (match lsOf x m with | some xs => (match allB xs with | some ns => P (.p (.bl (ns.any id))) m | none => False) | none => False) | _ => False
theorem so_sum : SCl K (rSum K) fSum := by
  intro A G H cs ms σ ds xs dx P Q s r h q
  unfold fSum at h
  split at h
  · cases r with
    | @cons v _ _ _ r1 rr =>
      cases rr
      split at h
      · rename_i xs e
        split at h
        · rename_i ns e2
          obtain ⟨p, vs, rfl, l1, l2⟩ := ls_of s r1 e
          rw [allI_some e2] at l2
          have ev := RepA.ints_inv l2
          subst ev
          exact ⟨p, ns, rfl, SqL.of l1, q.ret s (.int _) h⟩
        · exact h.elim
      · exact h.elim
  · exact h.elim
theorem so_all : SCl K (rAll K) fAll := by
  intro A G H cs ms σ ds xs dx P Q s r h q
  unfold fAll at h
  split at h
  · cases r with
    | @cons v _ _ _ r1 rr =>
      cases rr
      split at h
      · rename_i xs e
        split at h
        · rename_i ns e2
          obtain ⟨p, vs, rfl, l1, l2⟩ := ls_of s r1 e
          rw [allB_some e2] at l2
          have ev := RepA.bls_inv l2
          subst ev
          exact ⟨p, ns, rfl, SqL.of l1, q.ret s (.bl _) h⟩
        · exact h.elim
      · exact h.elim
  · exact h.elim
theorem so_any : SCl K (rAny K) fAny := by
  intro A G H cs ms σ ds xs dx P Q s r h q
  unfold fAny at h
  split at h
  · cases r with
    | @cons v _ _ _ r1 rr =>
      cases rr
      split at h
      · rename_i xs e
        split at h
        · rename_i ns e2
          obtain ⟨p, vs, rfl, l1, l2⟩ := ls_of s r1 e
          rw [allB_some e2] at l2
          have ev := RepA.bls_inv l2
          subst ev
          exact ⟨p, ns, rfl, SqL.of l1, q.ret s (.bl _) h⟩
        · exact h.elim
      · exact h.elim
  · exact h.elim
theorem boot_sum' : bootBuiltins "sum" = some (.builtin "sum") := by decide +kernel
theorem boot_all' : bootBuiltins "all" = some (.builtin "all") := by decide +kernel
theorem boot_any' : bootBuiltins "any" = some (.builtin "any") := by decide +kernel
theorem de_sum {wr : WA} {p : Pos} (hc : X.calm = true) (hm : X.mg "sum" = none) (ha : DA X Wx [e] wr) (hg : Gl X "sum" := by rfl) (he : starEach (e :: []) X.env = (false, eval e X.env) :: starEach [] X.env := by rfl) : DE X Wx (.Call (.Name "sum" p) [e] [] pos) (wCB fSum wr) := de_cb (cr_sum hc) so_sum hm boot_sum' ha hg (by decide) (by decide) he (by rfl)
theorem de_all {wr : WA} {p : Pos} (hc : X.calm = true) (hm : X.mg "all" = none) (ha : DA X Wx [e] wr) (hg : Gl X "all" := by rfl) (he : starEach (e :: []) X.env = (false, eval e X.env) :: starEach [] X.env := by rfl) : DE X Wx (.Call (.Name "all" p) [e] [] pos) (wCB fAll wr) := de_cb (cr_all hc) so_all hm boot_all' ha hg (by decide) (by decide) he (by rfl)
theorem de_any {wr : WA} {p : Pos} (hc : X.calm = true) (hm : X.mg "any" = none) (ha : DA X Wx [e] wr) (hg : Gl X "any" := by rfl) (he : starEach (e :: []) X.env = (false, eval e X.env) :: starEach [] X.env := by rfl) : DE X Wx (.Call (.Name "any" p) [e] [] pos) (wCB fAny wr) := de_cb (cr_any hc) so_any hm boot_any' ha hg (by decide) (by decide) he (by rfl)
/-! list, tuple, int, str -/
def sqF (x : D) (m : Mu) : Option (List PD) := match x with | .p (.fz xs) => some xs | _ => sqOf x m
theorem sqF_of {A : Amb} {G : Hp} {cs : Cs} {ms : Mu} {ds : De} {x : V} {d : D} {xs : List PD} (s : St K A G H cs ms σ ds) (r : RepD K (io cs) G x d) (h : sqF d ms = some xs) : ∃ p vs, x = .ref p ∧ (SqL K H p vs ∨ SqT K H p vs) ∧ RepA K G vs xs := by
  unfold sqF at h
  split at h
  · rename_i ys
    cases h
    have z : Rep K G x (.fz xs) := r
    cases z with
    | fz h1 h2 => exact ⟨_, _, rfl, .inl (Same.seq s.k.gh h1), h2⟩
  · obtain ⟨p, vs, h1, h2, h3⟩ := sq_of s r h
    refine ⟨p, vs, h1, ?_, h3⟩
    rcases h2 with h2 | h2
    · exact .inl (SqL.of h2)
    · exact .inr h2
def fList : FA := fun l m P => match l with | [x] => (match sqF x m with | some xs => P (.p (.lst xs)) m | none => False) | _ => False
def fListC : FA := fun l m P => match l with | [x] => (match sqF x m with | some xs => P (.c m.length) (m ++ [.lst xs]) | none => False) | _ => False
theorem so_list : SCl K (fun xs H Q => ∃ p ys, xs = [V.ref p] ∧ (SqL K H p ys ∨ SqT K H p ys) ∧ ∀ l, H l = none → Q (.ref l) (upd H l (.lst ys))) fList := by
  intro A G H cs ms σ ds xs dx P Q s r h q
  unfold fList at h
  split at h
  · cases r with
    | @cons v _ _ _ r1 rr =>
      cases rr
      split at h
      · rename_i xs e
        obtain ⟨p, vs, rfl, l1, l2⟩ := sqF_of s r1 e
        exact ⟨p, vs, rfl, l1, fun l hl => q.lst s l2 h l hl⟩
      · exact h.elim
  · exact h.elim
theorem so_listC : SCl K (fun xs H Q => ∃ p ys, xs = [V.ref p] ∧ (SqL K H p ys ∨ SqT K H p ys) ∧ ∀ l, H l = none → Q (.ref l) (upd H l (.lst ys))) fListC := by
  intro A G H cs ms σ ds xs dx P Q s r h q
  unfold fListC at h
  split at h
  · cases r with
    | @cons v _ _ _ r1 rr =>
      cases rr
      split at h
      · rename_i xs e
        obtain ⟨p, vs, rfl, l1, l2⟩ := sqF_of s r1 e
        exact ⟨p, vs, rfl, l1, fun l hl => q.cellL s l2 h l hl⟩
      · exact h.elim
  · exact h.elim
theorem boot_list' : bootBuiltins "list" = some (.type "list") := by decide +kernel
theorem boot_tuple' : bootBuiltins "tuple" = some (.type "tuple") := by decide +kernel
theorem boot_int' : bootBuiltins "int" = some (.type "int") := by decide +kernel
theorem boot_str' : bootBuiltins "str" = some (.type "str") := by decide +kernel
theorem de_list {wr : WA} {p : Pos} (hm : X.mg "list" = none) (ha : DA X Wx [e] wr) (hg : Gl X "list" := by rfl) (he : starEach (e :: []) X.env = (false, eval e X.env) :: starEach [] X.env := by rfl) : DE X Wx (.Call (.Name "list" p) [e] [] pos) (wCB fList wr) := de_cty call_list_of so_list hm boot_list' ha hg (by decide) (by decide) he (by rfl)
theorem de_listC {wr : WA} {p : Pos} (hm : X.mg "list" = none) (ha : DA X Wx [e] wr) (hg : Gl X "list" := by rfl) (he : starEach (e :: []) X.env = (false, eval e X.env) :: starEach [] X.env := by rfl) : DE X Wx (.Call (.Name "list" p) [e] [] pos) (wCB fListC wr) := de_cty call_list_of so_listC hm boot_list' ha hg (by decide) (by decide) he (by rfl)
def fTuple : FA := fun l m P => match l with | [x] => (match sqOf x m with | some xs => P (.p (.tup xs)) m | none => False) | _ => False
theorem so_tuple : SCl K (fun xs H Q => ∃ p ys, xs = [V.ref p] ∧ ((SqL K H p ys ∧ ∀ l, H l = none → Q (.ref l) (upd H l (.tup ys))) ∨ (SqT K H p ys ∧ Q (.ref p) H))) fTuple := by
  intro A G H cs ms σ ds xs dx P Q s r h q
  unfold fTuple at h
  split at h
  · cases r with
    | @cons v _ _ _ r1 rr =>
      cases rr
      split at h
      · rename_i xs e
        rcases ls_or_tup e with hl | hl
        · obtain ⟨p, vs, rfl, l1, l2⟩ := ls_of s r1 hl
          exact ⟨p, vs, rfl, .inl ⟨SqL.of l1, fun l hl => q.tup s l2 h l hl⟩⟩
        · subst hl
          have z : Rep K G v (.tup xs) := r1
          cases z with
          | @tup p vs _ a1 a2 => exact ⟨p, vs, rfl, .inr ⟨same_sqT s.k.gh a1, q.ret s (.tup a1 a2) h⟩⟩
      · exact h.elim
  · exact h.elim
theorem de_tuple {wr : WA} {p : Pos} (hm : X.mg "tuple" = none) (ha : DA X Wx [e] wr) (hg : Gl X "tuple" := by rfl) (he : starEach (e :: []) X.env = (false, eval e X.env) :: starEach [] X.env := by rfl) : DE X Wx (.Call (.Name "tuple" p) [e] [] pos) (wCB fTuple wr) := de_cty call_tuple_of so_tuple hm boot_tuple' ha hg (by decide) (by decide) he (by rfl)
def fInt : FA := fun l m P => match l with
  | [.p (.int i)] => P (.p (.int i)) m
  | [.p (.bl k)] => P (.p (.int (if k then 1 else 0))) m
  | [.p (.str z)] => (match PySem.intText? z with | some n => z.length ≤ 640 ∧ P (.p (.int n)) m | none => False)
  | _ => False
theorem so_int : SCl K (fun xs H Q => ((∃ i, xs = [V.int i] ∧ Q (.int i) H) ∨ ∃ k, xs = [V.bl k] ∧ Q (.int (if k then 1 else 0)) H) ∨ ∃ a n, xs = [V.str a] ∧ PySem.intText? a = some n ∧ a.length ≤ 640 ∧ Q (.int n) H) fInt := by
  intro A G H cs ms σ ds xs dx P Q s r h q
  unfold fInt at h
  split at h
  · rename_i i
    cases r with
    | @cons v _ _ _ r1 rr =>
      cases rr
      have z : Rep K G v (.int i) := r1
      cases z
      exact .inl (.inl ⟨i, rfl, q.ret s (.int _) h⟩)
  · rename_i i
    cases r with
    | @cons v _ _ _ r1 rr =>
      cases rr
      have z : Rep K G v (.bl i) := r1
      cases z
      exact .inl (.inr ⟨i, rfl, q.ret s (.int _) h⟩)
  · rename_i i
    cases r with
    | @cons v _ _ _ r1 rr =>
      cases rr
      have z : Rep K G v (.str i) := r1
      cases z
      split at h
      · rename_i n e
        exact .inr ⟨i, n, rfl, e, h.1, q.ret s (.int _) h.2⟩
      · exact h.elim
  · exact h.elim
theorem de_cint {wr : WA} {p : Pos} (hm : X.mg "int" = none) (ha : DA X Wx [e] wr) (hg : Gl X "int" := by rfl) (he : starEach (e :: []) X.env = (false, eval e X.env) :: starEach [] X.env := by rfl) : DE X Wx (.Call (.Name "int" p) [e] [] pos) (wCB fInt wr) := de_cty (CallR.or call_int1 call_int_str) so_int hm boot_int' ha hg (by decide) (by decide) he (by rfl)
def fStr : FA := fun l m P => match l with
  | [.p (.int i)] => i.natAbs.log2 < 1920 ∧ P (.p (.str (toString i))) m
  | _ => False
theorem so_str : SCl K (fun xs H Q => ∃ i, xs = [V.int i] ∧ i.natAbs.log2 < 1920 ∧ Q (.str (toString i)) H) fStr := by
  intro A G H cs ms σ ds xs dx P Q s r h q
  unfold fStr at h
  split at h
  · rename_i i
    cases r with
    | @cons v _ _ _ r1 rr =>
      cases rr
      have z : Rep K G v (.int i) := r1
      cases z
      exact ⟨i, rfl, h.1, q.ret s (.str _) h.2⟩
  · exact h.elim
theorem de_cstr {wr : WA} {p : Pos} (hm : X.mg "str" = none) (ha : DA X Wx [e] wr) (hg : Gl X "str" := by rfl) (he : starEach (e :: []) X.env = (false, eval e X.env) :: starEach [] X.env := by rfl) : DE X Wx (.Call (.Name "str" p) [e] [] pos) (wCB fStr wr) := de_cty call_str_int so_str hm boot_str' ha hg (by decide) (by decide) he (by rfl)
/-! isinstance(x, T), T a built-in class; x a tree without instances, or a list in a cell -/
def tyName (x : D) (m : Mu) : Option String := match x with
  | .p .non => some "NoneType"
  | .p (.bl _) => some "bool"
  | .p (.int _) => some "int"
  | .p (.str _) => some "str"
  | .p (.tup _) => some "tuple"
  | .p (.lst _) => some "list"
  | .c n => (match m[n]? with | some (.lst _) => some "list" | _ => none)
  | _ => none
theorem ty_of {A : Amb} {G : Hp} {cs : Cs} {ms : Mu} {ds : De} {v : V} {d : D} {T : String} (s : St K A G H cs ms σ ds) (r : RepD K (io cs) G v d) (h : tyName d ms = some T) : TyX K H v (.type T) := by
  unfold tyName at h
  split at h
  · cases h
    have z : Rep K G v .non := r
    cases z
    exact .base .non
  · rename_i x
    cases h
    have z : Rep K G v (.bl x) := r
    cases z
    exact .base (.bl _)
  · rename_i x
    cases h
    have z : Rep K G v (.int x) := r
    cases z
    exact .base (.int _)
  · rename_i x
    cases h
    have z : Rep K G v (.str x) := r
    cases z
    exact .base (.str _)
  · rename_i x
    cases h
    have z : Rep K G v (.tup x) := r
    cases z with
    | tup h1 h2 =>
      rcases same_sqT s.k.gh h1 with (q | ⟨o, q⟩) | ⟨o, its, n, q1, q2, _⟩
      · exact .base (.tup q)
      · exact .fTuple q
      · exact .kTuple q1 q2
  · rename_i x
    cases h
    have z : Rep K G v (.lst x) := r
    cases z with
    | lst h1 h2 => exact .base (.lst (s.k.gh _ _ h1))
  · rename_i n
    split at h
    · rename_i xs e
      cases h
      obtain ⟨p, vs, rfl, l1, l2⟩ := ls_of s r (xs := xs) (by unfold lsOf; simp only [e])
      exact .base (.lst l1)
    · cases h
  · cases h
def fIsT (T : String) : F1 := fun x m P => match tyName x m with | some S => (match kitB S T with | some k => P (.p (.bl k)) m | none => False) | none => False
def wIsT (T : String) (we : WE) : WE := wUn (fIsT T) we
theorem boot_isi : bootBuiltins "isinstance" = some (.builtin "isinstance") := by decide +kernel
/-- isinstance(e, T) -/
theorem de_isT (T : String) {x : Str} {p p2 : Pos} (hm : X.mg "isinstance" = none) (hmT : X.mg x = none) (he : DE X Wx e we) (hv : bootBuiltins x = some (.type T) := by decide +kernel) (hg : Gl X "isinstance" := by rfl) (hgT : Gl X x := by rfl)
    (hn : x ≠ "__name__" := by decide) (hdb : (x == ("__debug__" : Str)) = false := by decide)
    (hs : starEach (e :: [Expr.Name x p2]) X.env = (false, eval e X.env) :: starEach [Expr.Name x p2] X.env := by rfl) (hs2 : starEach (Expr.Name x p2 :: []) X.env = (false, eval (Expr.Name x p2) X.env) :: starEach [] X.env := by rfl)
    (hpl : (backTo pos (starEach [Expr.Name x p2] X.env)).any (·.1) = false := by rfl) : DE X Wx (.Call (.Name "isinstance" p) [e, .Name x p2] [] pos) (wIsT T we) :=
  PE.imp (pe_callB call_isi hg hm boot_isi (pa_cons he (pa_cons (pe_bltn (v := .ty T) hgT hmT hv rfl hn hdb) pa_nil hs2) hs) (by decide) (by decide) hs hpl) fun σ H Q h => by
  obtain ⟨A, G, cs, ms, ds, P, Xp, s, h, q, x⟩ := h
  refine ⟨A, G, cs, ms, ds, _, Xp, s, h, fun v d G1 H1 cs1 ms1 s1 e1 r1 h1 => ?_, x⟩
  unfold fIsT at h1
  try dsimp only at h1
  split at h1
  · rename_i S eS
    split at h1
    · rename_i k ek
      exact ⟨v, .ty T, .type S, .type T, k, rfl, .ty T, ty_of s1 r1 eS, kit_ty ek, (q.ext e1).ret s1 (.bl _) h1⟩
    · exact h1.elim
  · exact h1.elim
end
end DL

set_option Elab.async false
set_option linter.all false
set_option maxRecDepth 100000
set_option maxHeartbeats 4000000
namespace DL
open PySem L2 PySem.Spec PyProof.Rows
/-! ### defs -/
abbrev RX := Addr → List (Str × PD) → Prop
abbrev RP := List PD → (PD → Prop) → RX → Prop
abbrev RR := M → List PD → (PD → M → Prop) → (Addr → List (Str × PD) → M → Prop) → Prop
abbrev RN := List PD → (M → Prop) → RX → Prop
/-- what a def that changes nothing leaves: all that stood stands, what stays grows by new things alone -/
structure Grow (G H G' H' : Hp) : Prop where
  gg : Same G G'
  gh : Same G' H'
  hh : Same H H'
  out : ∀ a, G a = none → H a ≠ none → G' a = none
def spP (K : Frg) (R : RP) : Sp := fun vs H Q E => ∃ G args P Xp, Same G H ∧ RepA K G vs args ∧ R args P Xp ∧
  (∀ v d G' H', Grow G H G' H' → Rep K G' v d → P d → Q v H') ∧ (∀ C fs dd G' H', Grow G H G' H' → ExAt K G' H' dd fs → Xp C fs → E (.ref C) dd H')
/-- the first argument is a cell -/
structure Chg (fp : List Addr) (G H G' H' : Hp) : Prop where
  gg : Same G G'
  gh : Same G' H'
  hh : ∀ a o, a ∉ fp → H a = some o → H' a = some o
  out : ∀ a, G a = none → H a ≠ none → G' a = none ∧ H' a ≠ none
structure CellOk (K : Frg) (G H : Hp) (p : Addr) (fp : List Addr) (m : M) : Prop where
  at_ : MAt K [] G H p fp m
  gn : ∀ a ∈ fp, G a = none
  hs : ∀ a ∈ fp, H a ≠ none
  nd : fp.Nodup
def spR (K : Frg) (R : RR) : Sp := fun vs H Q E => ∃ G p fp m us args P Xp, vs = .ref p :: us ∧ Same G H ∧ CellOk K G H p fp m ∧ RepA K G us args ∧ R m args P Xp ∧
  (∀ v d G' H' fp' m', Chg fp G H G' H' → CellOk K G' H' p fp' m' → (∀ a ∈ fp', a ∈ fp ∨ H a = none) → Rep K G' v d → P d m' → Q v H') ∧
  (∀ C fs dd G' H' fp' m', Chg fp G H G' H' → CellOk K G' H' p fp' m' → (∀ a ∈ fp', a ∈ fp ∨ H a = none) → ExAt K G' H' dd fs → Xp C fs m' → E (.ref C) dd H')
def spN (K : Frg) (R : RN) : Sp := fun vs H Q E => ∃ G args P Xp, Same G H ∧ RepA K G vs args ∧ R args P Xp ∧
  (∀ p G' H' fp m, Grow G H G' H' → CellOk K G' H' p fp m → (∀ a ∈ fp, H a = none) → P m → Q (.ref p) H') ∧ (∀ C fs dd G' H', Grow G H G' H' → ExAt K G' H' dd fs → Xp C fs → E (.ref C) dd H')
section
variable {K : Frg} {A : Amb} {G H : Hp} {cs : Cs} {ms : Mu} {σ : L2.St} {ds : De}
theorem St.grow (s : St K A G H cs ms σ ds) {G' H' : Hp} (g : Grow G H G' H') : St K A G' H' cs ms σ ds ∧ Ext cs G cs G' := by
  have keep : ∀ a, H a ≠ none → H' a = H a := fun a h => by
    cases e : H a with
    | none => exact absurd e h
    | some o => exact g.hh a o e
  refine ⟨⟨s.gg.trans g.gg, fun a o h1 h2 => g.hh a o (s.hh a o h1 h2), fun a h1 h2 => ?_, s.own, ⟨g.gh, s.k.len, fun n p fp m h1 h2 => ?_, fun a ha => g.out a (s.k.gn a ha) (s.k.hs a ha), fun a ha => ?_, s.k.nd⟩, s.env.mono (List.prefix_refl _) g.gg⟩, ⟨List.prefix_refl _, g.gg⟩⟩
  · obtain ⟨e1, e2⟩ := s.out a h1 h2
    exact ⟨g.out a e1 e2, by rw [keep a e2]; exact e2⟩
  · exact (s.k.cell n p fp m h1 h2).mono (List.prefix_refl _) g.gg fun a ha => keep a (s.k.hs a (foot_mem h1 ha))
  · rw [keep a (s.k.hs a ha)]
    exact s.k.hs a ha
theorem foot_set_mem {cs : Cs} {n : Nat} {p : Addr} {fp fp' : List Addr} (hc : cs[n]? = some (p, fp)) {a : Addr} (ha : a ∈ foot (cs.set n (p, fp'))) : a ∈ fp' ∨ (a ∈ foot cs ∧ ((foot cs).Nodup → a ∉ fp)) := by
  obtain ⟨c, hc1, hc2⟩ := List.mem_flatMap.mp ha
  obtain ⟨m, hm⟩ := List.getElem?_of_mem hc1
  by_cases e : n = m
  · subst e
    rw [List.getElem?_set_self (List.getElem?_eq_some_iff.mp hc).1] at hm
    have : c = (p, fp') := (Option.some.inj hm).symm
    subst this
    exact .inl hc2
  · rw [List.getElem?_set_ne e] at hm
    exact .inr ⟨foot_mem hm hc2, fun nd hf => getElem?_flatMap_ne nd hm hc (Ne.symm e) a hc2 hf⟩
theorem foot_set_nd : ∀ {cs : Cs} {n : Nat} {p : Addr} {fp fp' : List Addr}, (foot cs).Nodup → cs[n]? = some (p, fp) → fp'.Nodup → (∀ a ∈ fp', a ∈ fp ∨ a ∉ foot cs) → (foot (cs.set n (p, fp'))).Nodup := by
  intro cs
  induction cs with
  | nil => intro n p fp fp' h hc; simp at hc
  | cons c r ih =>
    intro n p fp fp' h hc nd' out
    have h' : (c.2 ++ foot r).Nodup := h
    obtain ⟨h1, h2, h3⟩ := List.nodup_append.mp h'
    cases n with
    | zero =>
      simp at hc
      subst hc
      show (fp' ++ foot r).Nodup
      refine List.nodup_append.mpr ⟨nd', h2, fun a ha b hb e => ?_⟩
      subst e
      rcases out a ha with z | z
      · exact h3 a z a hb rfl
      · exact z (List.mem_append_right _ hb)
    | succ n =>
      have hc' : r[n]? = some (p, fp) := by simpa using hc
      show (c.2 ++ foot (r.set n (p, fp'))).Nodup
      refine List.nodup_append.mpr ⟨h1, ih h2 hc' nd' fun a ha => ?_, fun a ha b hb e => ?_⟩
      · rcases out a ha with z | z
        · exact .inl z
        · exact .inr fun q => z (List.mem_append_right _ q)
      · subst e
        rcases foot_set_mem hc' hb with z | ⟨z, _⟩
        · rcases out a z with q | q
          · exact h3 a ha a (foot_mem hc' q) rfl
          · exact q (List.mem_append_left _ ha)
        · exact h3 a ha a z rfl
theorem io_setc {cs : Cs} {n : Nat} {p : Addr} {fp fp' : List Addr} (hc : cs[n]? = some (p, fp)) : io (cs.set n (p, fp')) = io cs := by
  unfold io
  rw [List.map_set]
  have e : (cs.map (·.1))[n]? = some p := by rw [List.getElem?_map, hc]; rfl
  refine List.ext_getElem? fun j => ?_
  by_cases hj : n = j
  · subst hj
    rw [List.getElem?_set_self (List.getElem?_eq_some_iff.mp e).1, e]
  · rw [List.getElem?_set_ne hj]
theorem St.chg (s : St K A G H cs ms σ ds) {G' H' : Hp} {n : Nat} {p : Addr} {fp fp' : List Addr} {m' : M} (hc : cs[n]? = some (p, fp)) (g : Chg fp G H G' H') (co : CellOk K G' H' p fp' m') (nw : ∀ a ∈ fp', a ∈ fp ∨ H a = none) :
    St K A G' H' (cs.set n (p, fp')) (ms.set n m') σ ds ∧ Ext cs G (cs.set n (p, fp')) G' := by
  have hn : n < ms.length := by rw [← s.k.len]; exact (List.getElem?_eq_some_iff.mp hc).1
  have inf : ∀ a ∈ fp, a ∈ foot cs := fun a ha => foot_mem hc ha
  have keep : ∀ a, a ∉ fp → H a ≠ none → H' a = H a := fun a hf h => by
    cases e : H a with
    | none => exact absurd e h
    | some o => exact g.hh a o hf e
  have out' : ∀ a ∈ fp', a ∈ fp ∨ a ∉ foot cs := fun a ha => (nw a ha).imp id fun z q => s.k.hs a q z
  refine ⟨⟨s.gg.trans g.gg, fun a o h1 h2 => ?_, fun a h1 h2 => ?_, fun a ha => ?_, ⟨g.gh, by rw [List.length_set, List.length_set]; exact s.k.len, fun k p1 fp1 m1 h1 h2 => ?_, fun a ha => ?_, fun a ha => ?_, foot_set_nd s.k.nd hc co.nd out'⟩, by rw [io_setc hc]; exact s.env.mono (List.prefix_refl _) g.gg⟩, ⟨by rw [io_setc hc]; exact List.prefix_refl _, g.gg⟩⟩
  · refine g.hh a o (fun z => ?_) (s.hh a o h1 h2)
    rcases s.own a (inf a z) with q | q
    · rw [q] at h2; cases h2
    · exact h1 q
  · obtain ⟨e1, e2⟩ := s.out a h1 h2
    exact g.out a e1 e2
  · rcases foot_set_mem hc ha with z | ⟨z, _⟩
    · rcases nw a z with q | q
      · exact s.own a (inf a q)
      · by_cases qs : a ∈ A.S
        · exact .inr qs
        · left
          cases e : A.H a with
          | none => rfl
          | some u =>
            have := s.hh a u qs e
            rw [q] at this; cases this
    · exact s.own a z
  · rw [io_setc hc]
    by_cases hk : n = k
    · subst hk
      rw [List.getElem?_set_self hn] at h2
      rw [List.getElem?_set_self (List.getElem?_eq_some_iff.mp hc).1] at h1
      cases h2
      cases h1
      exact co.at_.mono (List.nil_prefix) (Same.refl _) fun a _ => rfl
    · rw [List.getElem?_set_ne hk] at h1 h2
      refine (s.k.cell k p1 fp1 m1 h1 h2).mono (List.prefix_refl _) g.gg fun a ha => keep a ?_ (s.k.hs a (foot_mem h1 ha))
      exact fun z => getElem?_flatMap_ne s.k.nd h1 hc (Ne.symm hk) a ha z
  · rcases foot_set_mem hc ha with z | ⟨z, z2⟩
    · exact co.gn a z
    · exact (g.out a (s.k.gn a z) (s.k.hs a z)).1
  · rcases foot_set_mem hc ha with z | ⟨z, z2⟩
    · exact co.hs a z
    · exact (g.out a (s.k.gn a z) (s.k.hs a z)).2
theorem St.newc (s : St K A G H cs ms σ ds) {G' H' : Hp} {p : Addr} {fp : List Addr} {m : M} (g : Grow G H G' H') (co : CellOk K G' H' p fp m) (nw : ∀ a ∈ fp, H a = none) :
    St K A G' H' (cs ++ [(p, fp)]) (ms ++ [m]) σ ds ∧ Ext cs G (cs ++ [(p, fp)]) G' := by
  obtain ⟨s1, e1⟩ := s.grow g
  have fe : foot (cs ++ [(p, fp)]) = foot cs ++ fp := by
    rw [foot_app]
    show foot cs ++ (fp ++ []) = _
    rw [List.append_nil]
  refine ⟨⟨s1.gg, s1.hh, s1.out, fun a ha => ?_, ⟨s1.k.gh, by rw [List.length_append, List.length_append, s.k.len]; rfl, fun n p' fp' m' h1 h2 => ?_, fun a ha => ?_, fun a ha => ?_, ?_⟩, s1.env.mono (io_app _ _) (Same.refl _)⟩, ⟨io_app _ _, g.gg⟩⟩
  · rw [fe] at ha
    rcases List.mem_append.mp ha with z | z
    · exact s.own a z
    · by_cases q : a ∈ A.S
      · exact .inr q
      · left
        cases e : A.H a with
        | none => rfl
        | some u =>
          have := s.hh a u q e
          rw [nw a z] at this; cases this
  · by_cases hn : n < cs.length
    · rw [List.getElem?_append_left hn] at h1
      rw [List.getElem?_append_left (by rw [← s.k.len]; exact hn)] at h2
      exact (s1.k.cell n p' fp' m' h1 h2).mono (io_app _ _) (Same.refl _) fun a _ => rfl
    · have hn' : n = cs.length := by
        have := (List.getElem?_eq_some_iff.mp h1).1
        rw [List.length_append] at this
        simp at this
        omega
      subst hn'
      rw [List.getElem?_append_right (Nat.le_refl _)] at h1
      rw [List.getElem?_append_right (by rw [s.k.len]; exact Nat.le_refl _)] at h2
      simp at h1
      simp [s.k.len] at h2
      obtain ⟨rfl, rfl⟩ := h1
      subst h2
      exact co.at_.mono List.nil_prefix (Same.refl _) fun a _ => rfl
  · rw [fe] at ha
    rcases List.mem_append.mp ha with z | z
    · exact s1.k.gn a z
    · exact co.gn a z
  · rw [fe] at ha
    rcases List.mem_append.mp ha with z | z
    · exact s1.k.hs a z
    · exact co.hs a z
  · rw [fe]
    exact List.nodup_append.mpr ⟨s.k.nd, co.nd, fun a ha b hb e => s.k.hs a ha (e ▸ nw b hb)⟩
end
/-! ### a call -/
def wCallP (R : RP) (wr : WA) : WE := fun ds ms P Xp => wr ds ms (fun l m => match allP l with | some args => R args (fun x => P (.p x) m) (fun C fs => Xp C fs m) | none => False) Xp
def wCallR (R : RR) (wr : WA) : WE := fun ds ms P Xp => wr ds ms (fun l m => match l with
  | .c n :: r => (match allP r, m[n]? with | some args, some c => R c args (fun x c' => P (.p x) (m.set n c')) (fun C fs c' => Xp C fs (m.set n c')) | _, _ => False)
  | _ => False) Xp
def wCallN (R : RN) (wr : WA) : WE := fun ds ms P Xp => wr ds ms (fun l m => match allP l with | some args => R args (fun c => P (.c m.length) (m ++ [c])) (fun C fs => Xp C fs m) | none => False) Xp
section
variable {K : Frg} {Wx : WX} {σ : L2.St} {H : Hp} {wr : WA}
theorem ExAt.mono {G G' H : Hp} {dd : Option Addr} {fs : List (Str × PD)} (h : ExAt K G H dd fs) (e : Same G G') : ExAt K G' H dd fs := h.imp id fun ⟨d, fvs, a, b, c⟩ => ⟨d, fvs, a, b, c.mono e⟩
/-- a cell that leans on no other -/
def M.free : M → Bool
  | .ins _ fs => fs.all fun f => match f.2 with | .p _ => true | .c _ => false
  | .lstC ns => ns.isEmpty
  | _ => true
theorem MAt.free {i : List Addr} {G H : Hp} {p : Addr} {fp : List Addr} {m : M} (h : MAt K i G H p fp m) (f : m.free = true) : MAt K [] G H p fp m := by
  cases m with
  | lst xs => exact h
  | dT kvs => exact h
  | lane C w d u => exact h
  | gone => exact h
  | lstC ns =>
    obtain ⟨e, as, h1, h2, h3⟩ := h
    have : ns = [] := by simpa [M.free] using f
    subst this
    exact ⟨e, as, h1, h2, fun _ _ e => by simp at e⟩
  | ins C fs =>
    obtain ⟨e, dx, fvs, h1, h2⟩ := h
    refine ⟨e, dx, fvs, h1, ?_⟩
    have f' : ∀ x ∈ fs, (match x.2 with | .p _ => true | .c _ => false) = true := by simpa [M.free] using f
    clear f h1
    induction h2 with
    | nil => exact .nil
    | @cons a b r q r1 r2 ih =>
      refine .cons ⟨r1.1, ?_⟩ (ih fun x hx => f' x (List.mem_cons_of_mem _ hx))
      have := f' b (by simp)
      cases e2 : b.2 with
      | p x =>
        have := r1.2
        rw [e2] at this
        exact this
      | c n => rw [e2] at this; simp at this
theorem s_callP {R : RP} {Q : VK} (h : canE K Wx (wCallP R wr) σ H Q) : tCallS (spP K R) (L2.WE Wx) (canA K Wx wr) σ H Q := by
  obtain ⟨A, G, cs, ms, ds, P, Xp, s, h, q, x⟩ := h
  refine ⟨A, G, cs, ms, ds, _, Xp, s, h, fun vs l G1 H1 cs1 ms1 s1 e1 r1 h1 => ?_, x⟩
  try dsimp only at h1
  split at h1
  · rename_i args e
    rw [allP_some e] at r1
    refine ⟨G1, args, _, _, s1.k.gh, RepDs.all r1, h1, fun v d G' H' g r h2 => ?_, fun C fs dd G' H' g ex h2 => ?_⟩
    · obtain ⟨s2, e2⟩ := s1.grow g
      exact q v (.p d) G' H' cs1 ms1 s2 (e1.trans e2) r h2
    · obtain ⟨s2, e2⟩ := s1.grow g
      exact x C fs dd G' H' cs1 ms1 s2 (e1.trans e2) ex h2
  · exact h1.elim
theorem s_callN {R : RN} {Q : VK} (h : canE K Wx (wCallN R wr) σ H Q) : tCallS (spN K R) (L2.WE Wx) (canA K Wx wr) σ H Q := by
  obtain ⟨A, G, cs, ms, ds, P, Xp, s, h, q, x⟩ := h
  refine ⟨A, G, cs, ms, ds, _, Xp, s, h, fun vs l G1 H1 cs1 ms1 s1 e1 r1 h1 => ?_, x⟩
  try dsimp only at h1
  split at h1
  · rename_i args e
    rw [allP_some e] at r1
    refine ⟨G1, args, _, _, s1.k.gh, RepDs.all r1, h1, fun p G' H' fp m g co nw h2 => ?_, fun C fs dd G' H' g ex h2 => ?_⟩
    · obtain ⟨s2, e2⟩ := s1.newc g co nw
      refine q (.ref p) (.c ms1.length) G' H' _ _ s2 (e1.trans e2) ⟨p, ?_, rfl⟩ h2
      rw [← s1.k.len]
      unfold io
      rw [List.map_append, List.getElem?_append_right (by rw [List.length_map]; exact Nat.le_refl _)]
      simp
    · obtain ⟨s2, e2⟩ := s1.grow g
      exact x C fs dd G' H' cs1 ms1 s2 (e1.trans e2) ex h2
  · exact h1.elim
theorem cell_at {A : Amb} {G : Hp} {cs : Cs} {ms : Mu} {ds : De} (s : St K A G H cs ms σ ds) {n : Nat} {p : Addr} {m : M} (hp : (io cs)[n]? = some p) (hm : ms[n]? = some m) (f : m.free = true) : ∃ fp, cs[n]? = some (p, fp) ∧ CellOk K G H p fp m := by
  obtain ⟨fp, hc⟩ := io_at hp
  refine ⟨fp, hc, (s.k.cell n p fp m hc hm).free f, fun a ha => s.k.gn a (foot_mem hc ha), fun a ha => s.k.hs a (foot_mem hc ha), ?_⟩
  have nd := s.k.nd
  clear f hm
  obtain ⟨h1, h2⟩ := List.getElem?_eq_some_iff.mp hc
  have : fp.Sublist (foot cs) := by
    have hm : (p, fp) ∈ cs := List.mem_of_getElem? hc
    clear hc h1 h2 nd hp s
    induction cs with
    | nil => cases hm
    | cons c r ih =>
      rcases List.mem_cons.mp hm with e | e
      · subst e
        exact List.sublist_append_left _ _
      · exact (ih e).trans (List.sublist_append_right _ _)
  exact this.nodup nd
/-- the cell's own value must be one that leans on no other -/
def wCallRf (R : RR) : RR := fun m args P Xp => m.free = true ∧ R m args P Xp
theorem s_callR {R : RR} {Q : VK} (h : canE K Wx (wCallR (wCallRf R) wr) σ H Q) : tCallS (spR K R) (L2.WE Wx) (canA K Wx wr) σ H Q := by
  obtain ⟨A, G, cs, ms, ds, P, Xp, s, h, q, x⟩ := h
  refine ⟨A, G, cs, ms, ds, _, Xp, s, h, fun vs l G1 H1 cs1 ms1 s1 e1 r1 h1 => ?_, x⟩
  try dsimp only at h1
  split at h1
  · rename_i n r
    split at h1
    · rename_i o1 o2 args c e em
      obtain ⟨f, h1⟩ := h1
      cases r1 with
      | @cons v _ us _ rv rr =>
        obtain ⟨p, hp, rfl⟩ := rv
        rw [allP_some e] at rr
        obtain ⟨fp, hc, co⟩ := cell_at s1 hp em f
        refine ⟨G1, p, fp, c, us, args, _, _, rfl, s1.k.gh, co, RepDs.all rr, h1, fun v d G' H' fp' m' g co' nw r h2 => ?_, fun C fs dd G' H' fp' m' g co' nw ex h2 => ?_⟩
        · obtain ⟨s2, e2⟩ := s1.chg hc g co' nw
          exact q v (.p d) G' H' _ _ s2 (e1.trans e2) r h2
        · obtain ⟨s2, e2⟩ := s1.chg hc g co' nw
          exact x C fs dd G' H' _ _ s2 (e1.trans e2) ex h2
    · exact h1.elim
  · exact h1.elim
end
/-- a def of the module that keeps its promise -/
structure Cal (P : Program) (w : World) (K : Frg) (mg : Str → Option Value) (base : Heap) (x : Str) (k : Nat) (ps : List Str) (sp : Sp) : Prop where
  ok : ∃ f fd, FnOk P w K mg base (L2.CX P w) k f fd ps sp ∧ mg x = some (.ref f) ∧ PySem.W.keepIn K (.ref f) = true ∧ Binds K fd ps []
theorem Cal.mono {P : Program} {w : World} {K : Frg} {mg : Str → Option Value} {base : Heap} {x : Str} {k j : Nat} {ps : List Str} {sp : Sp} (h : Cal P w K mg base x k ps sp) (hj : k ≤ j) : Cal P w K mg base x j ps sp := by
  obtain ⟨f, fd, a, b, c, d⟩ := h.ok
  exact ⟨f, fd, a.mono hj, b, c, d⟩
section
variable {X : Cx} {Wx : WX} {e : Expr} {es : List Expr} {pos : Pos} {wr : WA} {x : Str} {p : Pos} {k : Nat} {ps : List Str}
theorem pe_cal {sp : Sp} {t : TA} (c : Cal X.prog X.w X.K X.mg X.base x k ps sp) (hr : Room k X.A) (hx : ∀ σ, PassesAt (L2.CX X.prog X.w) X σ (L2.WE Wx σ)) (ha : PA X (e :: es) t) (hg : Gl X x) (hdb : (x == ("__debug__" : Str)) = false) (he : starEach (e :: es) X.env = (false, eval e X.env) :: starEach es X.env) (hpl : (backTo pos (starEach es X.env)).any (·.1) = false) :
    PE X (.Call (.Name x p) (e :: es) [] pos) (tCallS sp (L2.WE Wx) t) := by
  obtain ⟨f, fd, a, b, c, d⟩ := c.ok
  exact pe_callS a hr hg b c d hx ha hdb he hpl
theorem de_callP {R : RP} (c : Cal X.prog X.w X.K X.mg X.base x k ps (spP X.K R)) (hr : Room k X.A) (hx : ∀ σ, PassesAt (L2.CX X.prog X.w) X σ (L2.WE Wx σ)) (ha : DA X Wx (e :: es) wr) (hg : Gl X x := by rfl) (hdb : (x == ("__debug__" : Str)) = false := by decide) (he : starEach (e :: es) X.env = (false, eval e X.env) :: starEach es X.env := by rfl) (hpl : (backTo pos (starEach es X.env)).any (·.1) = false := by rfl) :
    DE X Wx (.Call (.Name x p) (e :: es) [] pos) (wCallP R wr) := PE.imp (pe_cal c hr hx ha hg hdb he hpl) fun _ _ _ => s_callP
theorem de_callR {R : RR} (c : Cal X.prog X.w X.K X.mg X.base x k ps (spR X.K R)) (hr : Room k X.A) (hx : ∀ σ, PassesAt (L2.CX X.prog X.w) X σ (L2.WE Wx σ)) (ha : DA X Wx (e :: es) wr) (hg : Gl X x := by rfl) (hdb : (x == ("__debug__" : Str)) = false := by decide) (he : starEach (e :: es) X.env = (false, eval e X.env) :: starEach es X.env := by rfl) (hpl : (backTo pos (starEach es X.env)).any (·.1) = false := by rfl) :
    DE X Wx (.Call (.Name x p) (e :: es) [] pos) (wCallR (wCallRf R) wr) := PE.imp (pe_cal c hr hx ha hg hdb he hpl) fun _ _ _ => s_callR
theorem de_callN {R : RN} (c : Cal X.prog X.w X.K X.mg X.base x k ps (spN X.K R)) (hr : Room k X.A) (hx : ∀ σ, PassesAt (L2.CX X.prog X.w) X σ (L2.WE Wx σ)) (ha : DA X Wx (e :: es) wr) (hg : Gl X x := by rfl) (hdb : (x == ("__debug__" : Str)) = false := by decide) (he : starEach (e :: es) X.env = (false, eval e X.env) :: starEach es X.env := by rfl) (hpl : (backTo pos (starEach es X.env)).any (·.1) = false := by rfl) :
    DE X Wx (.Call (.Name x p) (e :: es) [] pos) (wCallN R wr) := PE.imp (pe_cal c hr hx ha hg hdb he hpl) fun _ _ _ => s_callN
end
end DL

set_option Elab.async false
set_option linter.all false
set_option maxRecDepth 100000
set_option maxHeartbeats 4000000
namespace DL
open PySem L2 PySem.Spec PyProof.Rows
/-! ### * -/
def repP (xs : List PD) (k : Int) : List PD := (List.replicate k.toNat xs).flatten
def fMul : F2 := fun x y m P => match x, y with
  | .p (.int i), .p (.int j) => CMul i j ∧ P (.p (.int (i * j))) m
  | .p (.tup xs), .p (.int k) => xs ≠ [] ∧ 2 ≤ k ∧ k ≤ 1000 ∧ xs.length ≤ 1000 ∧ P (.p (.tup (repP xs k))) m
  | x, .p (.int k) => (match lsOf x m with | some xs => -(2 ^ 63) ≤ k ∧ k < 2 ^ 63 ∧ xs.length * k.toNat ≤ big ∧ P (.p (.lst (repP xs k))) m | none => False)
  | _, _ => False
/-- the new list is a cell -/
def fMulC : F2 := fun x y m P => match y with
  | .p (.int k) => (match lsOf x m with | some xs => -(2 ^ 63) ≤ k ∧ k < 2 ^ 63 ∧ xs.length * k.toNat ≤ big ∧ P (.c m.length) (m ++ [.lst (repP xs k)]) | none => False)
  | _ => False
section
variable {X : Cx} {K : Frg} {Wx : WX} {σ : L2.St} {H : Hp} {a b c e : Expr} {wa wb wc we : WE} {pos : Pos} {es : List Expr}
theorem rep_rep {G : Hp} {vs : List V} {xs : List PD} (r : RepA K G vs xs) (k : Int) : RepA K G (List.replicate k.toNat vs).flatten (repP xs k) := by
  unfold repP
  induction k.toNat with
  | zero => exact .nil
  | succ n ih =>
    rw [List.replicate_succ, List.replicate_succ, List.flatten_cons, List.flatten_cons]
    exact r.append ih
theorem so_mul : SOp K (fun x y H Q => rI CMul (fun i j => .int (i * j)) x y H Q ∨ (rRepT K x y H Q ∨ rRep x y H Q)) fMul := by
  intro A G H cs ms σ ds x y dx dy P Q s h1 h2 h q
  unfold fMul at h
  split at h
  · rename_i i j
    have z1 : Rep K G x (.int i) := h1
    have z2 : Rep K G y (.int j) := h2
    cases z1
    cases z2
    exact .inl ⟨i, j, rfl, rfl, h.1, q.ret s (.int _) h.2⟩
  · rename_i xs k
    have z1 : Rep K G x (.tup xs) := h1
    have z2 : Rep K G y (.int k) := h2
    cases z2
    cases z1 with
    | @tup a vs _ a1 a2 =>
      obtain ⟨n1, n2, n3, n4, h⟩ := h
      refine .inr (.inl ⟨a, k, vs, rfl, rfl, same_sqT s.k.gh a1, fun e => ?_, n2, n3, by rw [a2.length]; exact n4, fun p hp => q.tup s (rep_rep a2 k) h p hp⟩)
      subst e
      cases a2
      exact n1 rfl
  · rename_i o k _ _
    have z2 : Rep K G y (.int k) := h2
    cases z2
    split at h
    · rename_i xs e
      obtain ⟨n1, n2, n3, h⟩ := h
      obtain ⟨l, vs, rfl, l1, l2⟩ := ls_of s h1 e
      exact .inr (.inr ⟨l, k, vs, rfl, rfl, l1, n1, n2, by rw [l2.length]; exact big_ok n3, fun p hp => q.lst s (rep_rep l2 k) h p hp⟩)
    · exact h.elim
  · exact h.elim
theorem so_mulC : SOp K rRep fMulC := by
  intro A G H cs ms σ ds x y dx dy P Q s h1 h2 h q
  unfold fMulC at h
  split at h
  · rename_i k
    have z2 : Rep K G y (.int k) := h2
    cases z2
    split at h
    · rename_i xs e
      obtain ⟨n1, n2, n3, h⟩ := h
      obtain ⟨l, vs, rfl, l1, l2⟩ := ls_of s h1 e
      exact ⟨l, k, vs, rfl, rfl, l1, n1, n2, by rw [l2.length]; exact big_ok n3, fun p hp => q.cellL s (rep_rep l2 k) h p hp⟩
    · exact h.elim
  · exact h.elim
theorem de_mul (ha : DE X Wx a wa) (hb : DE X Wx b wb) : DE X Wx (.BinOp a .Mult b pos) (wBin fMul wa wb) := de_op (op_mul.or (op_repT.or op_rep)) so_mul ha hb
theorem de_mulC (ha : DE X Wx a wa) (hb : DE X Wx b wb) : DE X Wx (.BinOp a .Mult b pos) (wBin fMulC wa wb) := de_op op_rep so_mulC ha hb
end
/-! ### a def that keeps its promise -/
def entry (n : Nat) (args : List D) : De := args.map some ++ List.replicate (n - args.length) none
theorem entry_rep {K : Frg} {i : List Addr} {G : Hp} {N : List Str} {vs : List V} {args : List D} (r : RepDs K i G vs args) : RepE K i G (L2.start N vs) (entry N.length args) := by
  have hl : vs.length = args.length := Paired.length r
  unfold L2.start entry
  refine ⟨by simp [hl], fun j d hj => ?_⟩
  by_cases h : j < args.length
  · rw [List.getElem?_append_left (by simpa using h), List.getElem?_map] at hj
    rw [List.getElem?_append_left (by rw [List.length_map, hl]; exact h), List.getElem?_map]
    cases e : args[j]? with
    | none => rw [e] at hj; cases hj
    | some d' =>
      rw [e] at hj
      have : d' = d := Option.some.inj (Option.some.inj hj)
      subst this
      clear hj h hl
      induction r generalizing j with
      | nil => simp at e
      | cons h1 h2 ih =>
        cases j with
        | zero =>
          simp at e
          subst e
          exact ⟨_, rfl, h1⟩
        | succ j => exact ih j (by simpa using e)
  · rw [List.getElem?_append_right (by simpa using h), List.getElem?_replicate] at hj
    split at hj <;> cases hj
/-- what a cell holds, cells within cells too -/
def valC (m : Mu) : Nat → Nat → Option PD
  | 0, _ => none
  | k + 1, n => match m[n]? with
    | some (.lst xs) => some (.lst xs)
    | some (.lstC ns) => (ns.mapM (valC m k)).map .lst
    | _ => none
def rtP (P : PD → Prop) : PDn := fun d m => match d with
  | .p x => P x
  | .c n => (match m[n]? with | some (.lst xs) => P (.lst xs) | some (.lstC ns) => (match valC m 5 n with | some x => P x | none => False) | _ => False)
def enP (P : PD → Prop) (Xp : RX) : En where
  nx := fun _ _ => P .non
  rt := rtP P
  ex := fun C fs _ _ => Xp C fs
def rtR (P : PD → M → Prop) : PDn := fun d m => match d, m[0]? with
  | .p x, some c => c.free = true ∧ P x c
  | _, _ => False
def enR (P : PD → M → Prop) (Xp : Addr → List (Str × PD) → M → Prop) : En where
  nx := fun _ m => rtR P (.p .non) m
  rt := rtR P
  ex := fun C fs _ m => match m[0]? with | some c => c.free = true ∧ Xp C fs c | none => False
def rtN (P : M → Prop) : PDn := fun d m => match d with
  | .c n => (match m[n]? with | some c => c.free = true ∧ P c | none => False)
  | .p _ => False
def enN (P : M → Prop) (Xp : RX) : En where
  nx := fun _ _ => False
  rt := rtN P
  ex := fun C fs _ _ => Xp C fs
theorem st_in {K : Frg} {G H : Hp} {N : List Str} {vs : List V} {args : List PD} (gh : Same G H) (r : RepA K G vs args) : St K ⟨[], G, H⟩ G H [] [] (L2.start N vs) (entry N.length (args.map D.p)) := by
  refine ⟨Same.refl G, fun _ _ _ h => h, fun _ h1 h2 => ⟨h1, h2⟩, fun _ h => (nomatch h), ⟨gh, rfl, fun n p fp m h => ?_, fun _ h => (nomatch h), fun _ h => (nomatch h), List.nodup_nil⟩, entry_rep (RepDs.ofA r)⟩
  simp at h
/-- all cells stay from now on -/
def frzG (G H : Hp) (cs : Cs) : Hp := fun a => if a ∈ foot cs then H a else G a
theorem frz_all {K : Frg} {G H G' H' : Hp} {cs : Cs} {ms : Mu} {σ : L2.St} {ds : De} (s : St K ⟨[], G, H⟩ G' H' cs ms σ ds) : Grow G H (frzG G' H' cs) H' ∧ Same G' (frzG G' H' cs) := by
  have sg : Same G' (frzG G' H' cs) := fun a o e => by
    unfold frzG
    rw [if_neg fun z => by rw [s.k.gn a z] at e; cases e]
    exact e
  refine ⟨⟨s.gg.trans sg, fun a o e => ?_, fun a o h => s.hh a o (by simp) h, fun a h1 h2 => ?_⟩, sg⟩
  · unfold frzG at e
    split at e
    · exact e
    · exact s.k.gh a o e
  · have hf : a ∉ foot cs := fun z => by
      rcases s.own a z with q | q
      · exact h2 q
      · cases q
    unfold frzG
    rw [if_neg hf]
    exact (s.out a h1 h2).1
theorem val_rep {K : Frg} {A : Amb} {G H : Hp} {cs : Cs} {ms : Mu} {σ : L2.St} {ds : De} (s : St K A G H cs ms σ ds) : ∀ (k n : Nat) (a : Addr) (x : PD), valC ms k n = some x → (io cs)[n]? = some a → Rep K (frzG G H cs) (.ref a) x
  | 0, _, _, _, h, _ => by cases h
  | k + 1, n, a, x, h, hp => by
    obtain ⟨fp, hc⟩ := io_at hp
    have inf : a ∈ foot cs ∨ fp ≠ [a] := by
      by_cases e : fp = [a]
      · exact .inl (foot_mem hc (by rw [e]; simp))
      · exact .inr e
    have hG : Same G (frzG G H cs) := fun b o e => by
      unfold frzG
      rw [if_neg fun z => by rw [s.k.gn b z] at e; cases e]
      exact e
    unfold valC at h
    split at h
    · rename_i xs e
      cases h
      obtain ⟨rfl, vs, h1, h2⟩ := s.k.cell n a fp _ hc e
      have hf : a ∈ foot cs := foot_mem hc (by simp)
      exact .lst (show frzG G H cs a = _ by unfold frzG; rw [if_pos hf]; exact h1) (h2.mono hG)
    · rename_i ns e
      obtain ⟨rfl, as, h1, h2, h3⟩ := s.k.cell n a fp _ hc e
      have hf : a ∈ foot cs := foot_mem hc (by simp)
      cases em : ns.mapM (valC ms k) with
      | none => rw [em] at h; cases h
      | some xs =>
        rw [em] at h
        have : x = .lst xs := (Option.some.inj h).symm
        subst this
        refine .lst (show frzG G H cs a = _ by unfold frzG; rw [if_pos hf]; exact h1) ?_
        clear h h1 hf inf e hc hp
        induction ns generalizing as xs with
        | nil =>
          have : as = [] := List.length_eq_zero_iff.mp h2
          subst this
          simp at em
          subst em
          exact .nil
        | cons m r ih =>
          cases as with
          | nil => cases h2
          | cons b as =>
            rw [List.mapM_cons] at em
            cases e1 : valC ms k m with
            | none => rw [e1] at em; cases em
            | some y =>
              rw [e1] at em
              cases e2 : r.mapM (valC ms k) with
              | none => rw [e2] at em; cases em
              | some ys =>
                rw [e2] at em
                have : xs = y :: ys := (Option.some.inj em).symm
                subst this
                obtain ⟨b', q1, q2⟩ := h3 0 m rfl
                have : b' = b := (Option.some.inj q1).symm
                subst this
                exact .cons (val_rep s k m b' y e1 q2) (ih as (by simpa using h2) (fun j n' hj => h3 (j + 1) n' hj) ys e2)
    · cases h
theorem st_out {K : Frg} {G H G' H' : Hp} {cs : Cs} {ms : Mu} {σ : L2.St} {ds : De} (s : St K ⟨[], G, H⟩ G' H' cs ms σ ds) : Grow G H G' H' := ⟨s.gg, s.k.gh, fun a o h => s.hh a o (by simp) h, fun a h1 h2 => (s.out a h1 h2).1⟩
section
variable {P : Program} {w : World} {K : Frg} {mg : Str → Option Value} {base : Heap} {x qual : Str} {params : Arguments} {body : List Stmt} {scope : Scope} {f : Addr} {fd : FuncData} {N ps : List Str} {k : Nat} {ws : WS}
abbrev BodyOk (P : Program) (w : World) (K : Frg) (mg : Str → Option Value) (base : Heap) (N : List Str) (qual : Str) (scope : Scope) (f : Addr) (k : Nat) (body : List Stmt) (ws : WS) : Prop :=
  ∀ (cdv : Value) (A : Around) (outer : List Env) (s : Shared) (H : Hp) (E : XK), Room k (A.deeper (envOfC qual scope s.heap.objs.size f cdv)) → DSs (cxOf (L2.CX P w) P w K mg base N qual scope f cdv A outer s H E) (fun cls d _ H => E cls d H) body ws
theorem fn_p (R : RP) (F : FunD K x qual params body scope [] [] f fd) (S : FnScope N ps scope) (hlen : ∀ args P Xp, R args P Xp → args.length = ps.length)
    (hb : BodyOk P w K mg base N qual scope f k body ws) (sem : ∀ args P Xp, R args P Xp → ws (enP P Xp) (entry N.length (args.map D.p)) []) : FnOk P w K mg base (L2.CX P w) (k + 1) f fd ps (spP K R) := by
  refine F.ok S (fun vs H Q E h => ?_) (fun cdv A outer s H vs Q E hr h => ⟨_, hb cdv A outer s H E hr, ?_⟩)
  · obtain ⟨G, args, P, Xp, _, r, h, _⟩ := h
    rw [r.length]
    exact hlen _ _ _ h
  · obtain ⟨G, args, P, Xp, gh, r, h, q, x⟩ := h
    refine ⟨⟨[], G, H⟩, G, [], [], _, enP P Xp, st_in gh r, sem _ _ _ h, fun σ' ds' G' H' cs' ms' s' _ h' => ?_, fun v d σ' ds' G' H' cs' ms' s' _ r' h' => ?_, fun _ _ _ _ _ _ _ _ h' => h'.elim, fun _ _ _ _ _ _ _ _ h' => h'.elim, fun C fs dd σ' ds' G' H' cs' ms' s' _ e' h' => ?_⟩
    · exact q .non .non G' H' (st_out s') .non h'
    · have h2 : rtP P d ms' := h'
      unfold rtP at h2
      split at h2
      · exact q v _ G' H' (st_out s') r' h2
      · split at h2
        · rename_i n xs e
          obtain ⟨p, hp, rfl⟩ := r'
          obtain ⟨G2, cs2, s2, _, r2⟩ := s'.freeze hp e (.inl rfl)
          exact q _ _ G2 H' (st_out s2) r2 h2
        · split at h2
          · rename_i ev
            obtain ⟨p, hp, rfl⟩ := r'
            obtain ⟨g, _⟩ := frz_all s'
            exact q _ _ _ H' g (val_rep s' _ _ _ _ ev hp) h2
          · exact h2.elim
        · exact h2.elim
    · exact x C fs dd G' H' (st_out s') e' h'
theorem fn_n (R : RN) (F : FunD K x qual params body scope [] [] f fd) (S : FnScope N ps scope) (hlen : ∀ args P Xp, R args P Xp → args.length = ps.length)
    (hb : BodyOk P w K mg base N qual scope f k body ws) (sem : ∀ args P Xp, R args P Xp → ws (enN P Xp) (entry N.length (args.map D.p)) []) : FnOk P w K mg base (L2.CX P w) (k + 1) f fd ps (spN K R) := by
  refine F.ok S (fun vs H Q E h => ?_) (fun cdv A outer s H vs Q E hr h => ⟨_, hb cdv A outer s H E hr, ?_⟩)
  · obtain ⟨G, args, P, Xp, _, r, h, _⟩ := h
    rw [r.length]
    exact hlen _ _ _ h
  · obtain ⟨G, args, P, Xp, gh, r, h, q, x⟩ := h
    refine ⟨⟨[], G, H⟩, G, [], [], _, enN P Xp, st_in gh r, sem _ _ _ h, fun σ' ds' G' H' cs' ms' s' _ h' => h'.elim, fun v d σ' ds' G' H' cs' ms' s' _ r' h' => ?_, fun _ _ _ _ _ _ _ _ h' => h'.elim, fun _ _ _ _ _ _ _ _ h' => h'.elim, fun C fs dd σ' ds' G' H' cs' ms' s' _ e' h' => ?_⟩
    · have h2 : rtN P d ms' := h'
      unfold rtN at h2
      split at h2
      · split at h2
        · rename_i n c e
          obtain ⟨p, hp, rfl⟩ := r'
          obtain ⟨fp, hc, co⟩ := cell_at s' hp e h2.1
          refine q p G' H' fp c (st_out s') co (fun a ha => ?_) h2.2
          rcases s'.own a (foot_mem hc ha) with z | z
          · exact z
          · cases z
        · exact h2.elim
      · exact h2.elim
    · exact x C fs dd G' H' (st_out s') e' h'
theorem fn_r (R : RR) (F : FunD K x qual params body scope [] [] f fd) (S : FnScope N ps scope) (hlen : ∀ m args P Xp, R m args P Xp → args.length + 1 = ps.length)
    (hb : BodyOk P w K mg base N qual scope f k body ws) (sem : ∀ m args P Xp, R m args P Xp → ws (enR P Xp) (entry N.length (.c 0 :: args.map D.p)) [m]) : FnOk P w K mg base (L2.CX P w) (k + 1) f fd ps (spR K R) := by
  refine F.ok S (fun vs H Q E h => ?_) (fun cdv A outer s H vs Q E hr h => ⟨_, hb cdv A outer s H E hr, ?_⟩)
  · obtain ⟨G, p, fp, m, us, args, P, Xp, rfl, _, _, r, h, _⟩ := h
    rw [List.length_cons, r.length]
    exact hlen _ _ _ _ h
  · obtain ⟨G, p, fp, m, us, args, P, Xp, rfl, gh, co, r, h, q, x⟩ := h
    have s0 : St K ⟨fp, G, H⟩ G H [(p, fp)] [m] (L2.start N (.ref p :: us)) (entry N.length (.c 0 :: args.map D.p)) := by
      have fe : foot [(p, fp)] = fp := by simp [foot]
      refine ⟨Same.refl G, fun _ _ _ h => h, fun _ h1 h2 => ⟨h1, h2⟩, fun a ha => .inr (fe ▸ ha), ⟨gh, rfl, fun n p' fp' m' h1 h2 => ?_, fun a ha => co.gn a (fe ▸ ha), fun a ha => co.hs a (fe ▸ ha), fe.symm ▸ co.nd⟩, entry_rep (.cons ⟨p, rfl, rfl⟩ (RepDs.ofA r))⟩
      cases n with
      | zero =>
        simp at h1 h2
        obtain ⟨rfl, rfl⟩ := h1
        subst h2
        exact co.at_.mono List.nil_prefix (Same.refl _) fun a _ => rfl
      | succ n => simp at h1
    have out : ∀ {G' H' cs' ms' σ' ds' c}, St K ⟨fp, G, H⟩ G' H' cs' ms' σ' ds' → Ext [(p, fp)] G cs' G' → ms'[0]? = some c → c.free = true → ∃ fp', Chg fp G H G' H' ∧ CellOk K G' H' p fp' c ∧ ∀ a ∈ fp', a ∈ fp ∨ H a = none := by
      intro G' H' cs' ms' σ' ds' c s' e' hc fr
      have hp : (io cs')[0]? = some p := pre_get e'.pre rfl
      obtain ⟨fp', h1, co'⟩ := cell_at s' hp hc fr
      exact ⟨fp', ⟨s'.gg, s'.k.gh, fun a o h2 h3 => s'.hh a o h2 h3, fun a h2 h3 => s'.out a h2 h3⟩, co', fun a ha => (s'.own a (foot_mem h1 ha)).symm⟩
    have ret : ∀ {v d G' H' cs' ms' σ' ds'}, St K ⟨fp, G, H⟩ G' H' cs' ms' σ' ds' → Ext [(p, fp)] G cs' G' → RepD K (io cs') G' v d → rtR P d ms' → Q v H' := by
      intro v d G' H' cs' ms' σ' ds' s' e' r' h2
      unfold rtR at h2
      split at h2
      · rename_i y c e
        obtain ⟨fp', c1, c2, c3⟩ := out s' e' e h2.1
        exact q v y G' H' fp' c c1 c2 c3 r' h2.2
      · exact h2.elim
    refine ⟨⟨fp, G, H⟩, G, [(p, fp)], [m], _, enR P Xp, s0, sem _ _ _ _ h, fun σ' ds' G' H' cs' ms' s' e' h' => ?_, fun v d σ' ds' G' H' cs' ms' s' e' r' h' => ret s' e' r' h', fun _ _ _ _ _ _ _ _ h' => h'.elim, fun _ _ _ _ _ _ _ _ h' => h'.elim, fun C fs dd σ' ds' G' H' cs' ms' s' e' ex h' => ?_⟩
    · exact ret (v := .non) (d := .p .non) s' e' .non h'
    · have h2 : match ms'[0]? with | some c => c.free = true ∧ Xp C fs c | none => False := h'
      split at h2
      · rename_i c e
        obtain ⟨fp', c1, c2, c3⟩ := out s' e' e h2.1
        exact x C fs dd G' H' fp' c c1 c2 c3 ex h2.2
      · exact h2.elim
theorem cal (F : FunD K x x params body scope [] [] f fd) {sp : Sp} (ok : FnOk P w K mg base (L2.CX P w) k f fd ps sp) (hm : mg x = some (.ref f))
    (h : ∀ (kV doc pm : Value) (an : Option Addr) (cdv ct : Value) (us : List Value), us.length = ps.length → bindArgs (PySem.W.fnOf x x params body scope .none kV doc pm an cdv ct) ⟨us, []⟩ = pure (ps.zip us)) : Cal P w K mg base x k ps sp := ⟨f, fd, ok, hm, F.kp, F.bindsN h⟩
end
/-! ### a call that lets no exception out -/
def W0 : WX := fun _ _ _ _ => False
theorem pass0 {X : Cx} {σ : L2.St} : PassesAt (L2.CX X.prog X.w) X σ (L2.WE W0 σ) := fun _ _ _ _ _ _ c => by
  obtain ⟨_, _, _, _, _, _, _, _, _, _, _, _, h⟩ := c
  exact h.elim
def wCallP0 (R : RP) (wr : WA) : WE := fun ds ms P Xp => wr ds ms (fun l m => match allP l with | some args => R args (fun x => P (.p x) m) (fun _ _ => False) | none => False) Xp
def wCallR0 (R : RR) (wr : WA) : WE := fun ds ms P Xp => wr ds ms (fun l m => match l with
  | .c n :: r => (match allP r, m[n]? with | some args, some c => c.free = true ∧ R c args (fun x c' => P (.p x) (m.set n c')) (fun _ _ _ => False) | _, _ => False)
  | _ => False) Xp
def wCallN0 (R : RN) (wr : WA) : WE := fun ds ms P Xp => wr ds ms (fun l m => match allP l with | some args => R args (fun c => P (.c m.length) (m ++ [c])) (fun _ _ => False) | none => False) Xp
section
variable {X : Cx} {K : Frg} {Wx : WX} {σ : L2.St} {H : Hp} {e : Expr} {es : List Expr} {pos : Pos} {wr : WA} {x : Str} {p : Pos} {k : Nat} {ps : List Str}
theorem s_callP0 {R : RP} {Q : VK} (h : canE K Wx (wCallP0 R wr) σ H Q) : tCallS (spP K R) (L2.WE W0) (canA K Wx wr) σ H Q := by
  obtain ⟨A, G, cs, ms, ds, P, Xp, s, h, q, x⟩ := h
  refine ⟨A, G, cs, ms, ds, _, Xp, s, h, fun vs l G1 H1 cs1 ms1 s1 e1 r1 h1 => ?_, x⟩
  try dsimp only at h1
  split at h1
  · rename_i args e
    rw [allP_some e] at r1
    refine ⟨G1, args, _, _, s1.k.gh, RepDs.all r1, h1, fun v d G' H' g r h2 => ?_, fun C fs dd G' H' g ex h2 => h2⟩
    obtain ⟨s2, e2⟩ := s1.grow g
    exact q v (.p d) G' H' cs1 ms1 s2 (e1.trans e2) r h2
  · exact h1.elim
theorem s_callN0 {R : RN} {Q : VK} (h : canE K Wx (wCallN0 R wr) σ H Q) : tCallS (spN K R) (L2.WE W0) (canA K Wx wr) σ H Q := by
  obtain ⟨A, G, cs, ms, ds, P, Xp, s, h, q, x⟩ := h
  refine ⟨A, G, cs, ms, ds, _, Xp, s, h, fun vs l G1 H1 cs1 ms1 s1 e1 r1 h1 => ?_, x⟩
  try dsimp only at h1
  split at h1
  · rename_i args e
    rw [allP_some e] at r1
    refine ⟨G1, args, _, _, s1.k.gh, RepDs.all r1, h1, fun p G' H' fp m g co nw h2 => ?_, fun C fs dd G' H' g ex h2 => h2⟩
    obtain ⟨s2, e2⟩ := s1.newc g co nw
    refine q (.ref p) (.c ms1.length) G' H' _ _ s2 (e1.trans e2) ⟨p, ?_, rfl⟩ h2
    rw [← s1.k.len]
    unfold io
    rw [List.map_append, List.getElem?_append_right (by rw [List.length_map]; exact Nat.le_refl _)]
    simp
  · exact h1.elim
theorem s_callR0 {R : RR} {Q : VK} (h : canE K Wx (wCallR0 R wr) σ H Q) : tCallS (spR K R) (L2.WE W0) (canA K Wx wr) σ H Q := by
  obtain ⟨A, G, cs, ms, ds, P, Xp, s, h, q, x⟩ := h
  refine ⟨A, G, cs, ms, ds, _, Xp, s, h, fun vs l G1 H1 cs1 ms1 s1 e1 r1 h1 => ?_, x⟩
  try dsimp only at h1
  split at h1
  · rename_i n r
    split at h1
    · rename_i o1 o2 args c e em
      obtain ⟨f, h1⟩ := h1
      cases r1 with
      | @cons v _ us _ rv rr =>
        obtain ⟨p, hp, rfl⟩ := rv
        rw [allP_some e] at rr
        obtain ⟨fp, hc, co⟩ := cell_at s1 hp em f
        refine ⟨G1, p, fp, c, us, args, _, _, rfl, s1.k.gh, co, RepDs.all rr, h1, fun v d G' H' fp' m' g co' nw r h2 => ?_, fun C fs dd G' H' fp' m' g co' nw ex h2 => h2⟩
        obtain ⟨s2, e2⟩ := s1.chg hc g co' nw
        exact q v (.p d) G' H' _ _ s2 (e1.trans e2) r h2
    · exact h1.elim
  · exact h1.elim
theorem pe_cal0 {sp : Sp} {t : TA} (c : Cal X.prog X.w X.K X.mg X.base x k ps sp) (hr : Room k X.A) (ha : PA X (e :: es) t) (hg : Gl X x) (hdb : (x == ("__debug__" : Str)) = false) (he : starEach (e :: es) X.env = (false, eval e X.env) :: starEach es X.env) (hpl : (backTo pos (starEach es X.env)).any (·.1) = false) :
    PE X (.Call (.Name x p) (e :: es) [] pos) (tCallS sp (L2.WE W0) t) := by
  obtain ⟨f, fd, a, b, c, d⟩ := c.ok
  exact pe_callS a hr hg b c d (fun _ => pass0) ha hdb he hpl
theorem de_callP0 {R : RP} (c : Cal X.prog X.w X.K X.mg X.base x k ps (spP X.K R)) (hr : Room k X.A) (ha : DA X Wx (e :: es) wr) (hg : Gl X x := by rfl) (hdb : (x == ("__debug__" : Str)) = false := by decide) (he : starEach (e :: es) X.env = (false, eval e X.env) :: starEach es X.env := by rfl) (hpl : (backTo pos (starEach es X.env)).any (·.1) = false := by rfl) :
    DE X Wx (.Call (.Name x p) (e :: es) [] pos) (wCallP0 R wr) := PE.imp (pe_cal0 c hr ha hg hdb he hpl) fun _ _ _ => s_callP0
theorem de_callR0 {R : RR} (c : Cal X.prog X.w X.K X.mg X.base x k ps (spR X.K R)) (hr : Room k X.A) (ha : DA X Wx (e :: es) wr) (hg : Gl X x := by rfl) (hdb : (x == ("__debug__" : Str)) = false := by decide) (he : starEach (e :: es) X.env = (false, eval e X.env) :: starEach es X.env := by rfl) (hpl : (backTo pos (starEach es X.env)).any (·.1) = false := by rfl) :
    DE X Wx (.Call (.Name x p) (e :: es) [] pos) (wCallR0 R wr) := PE.imp (pe_cal0 c hr ha hg hdb he hpl) fun _ _ _ => s_callR0
theorem de_callN0 {R : RN} (c : Cal X.prog X.w X.K X.mg X.base x k ps (spN X.K R)) (hr : Room k X.A) (ha : DA X Wx (e :: es) wr) (hg : Gl X x := by rfl) (hdb : (x == ("__debug__" : Str)) = false := by decide) (he : starEach (e :: es) X.env = (false, eval e X.env) :: starEach es X.env := by rfl) (hpl : (backTo pos (starEach es X.env)).any (·.1) = false := by rfl) :
    DE X Wx (.Call (.Name x p) (e :: es) [] pos) (wCallN0 R wr) := PE.imp (pe_cal0 c hr ha hg hdb he hpl) fun _ _ _ => s_callN0
end
end DL

set_option Elab.async false
set_option linter.all false
set_option maxRecDepth 100000
set_option maxHeartbeats 4000000
namespace DL
open PySem L2 PySem.Spec PyProof.Rows
/-! ### a new instance -/
def tMakeS (C : Addr) (sp : Sp) (E : L2.St → XK) (t : TA) : TE := fun σ H Q => t σ H fun vs H1 => ∀ x dx, H1 x = none → H1 dx = none → dx ≠ x →
  sp (.ref x :: vs) (upd (upd H1 dx (.own x)) x (.ins C dx [])) (fun v H2 => v = .non ∧ Q (.ref x) H2) (E σ)
section
variable {X : Cx} {CX : CXT} {k : Nat} {f C : Addr} {fd : FuncData} {ps : List Str} {sp : Sp} {E : L2.St → XK} {x m : Str} {p pos apos : Pos} {e o : Expr} {es : List Expr} {ta : TE} {t : TA}
theorem run_makeS {pins : List (Addr × Obj)} {σ : L2.St} {H : Hp} {s : Shared} {Q : VK} {us : List Value} {vs : List V} (M : Mk X.K C f) (F : FnOk X.prog X.w X.K X.mg X.base CX k f fd ps sp) (hr : Room (k + 1) X.A) (hb : Binds X.K fd ps [])
    (hx : PassesAt CX X σ (E σ)) (I : Inv X pins σ H s) (r : Vals vs us)
    (h : ∀ x dx, H x = none → H dx = none → dx ≠ x → sp (.ref x :: vs) (upd (upd H dx (.own x)) x (.ins C dx [])) (fun v H2 => v = .non ∧ Q (.ref x) H2) (E σ)) :
    wpAny (model X.prog X.w) X.A (call (.ref C) us) (EP X pins σ Q) X.xe s := by
  have hq := h (s.heap.objs.size + 1) s.heap.objs.size (I.hok.fresh (Nat.le_succ _)) (I.hok.fresh (Nat.le_refl _)) (Nat.ne_of_lt (Nat.lt_succ_self _))
  have I2 := Inv.made (C := C) I
  have r2 : Vals (V.ref (s.heap.objs.size + 1) :: vs) (Value.ref (s.heap.objs.size + 1) :: us) := .cons rfl r
  have hl : (Value.ref (s.heap.objs.size + 1) :: us).length = ps.length := by
    have z := r2.length
    rw [F.len _ _ _ _ hq] at z
    exact z.symm
  have b := hb _ (Value.ref (s.heap.objs.size + 1) :: us) I2.kIn (by rw [List.append_nil]; exact hl)
  rw [List.append_nil] at b
  refine wpAny_call (make_map (f := f) I.kIn M.makes M.init (beq_iff_eq.mp M.fn) (codeAny_mono (F.run _ X.stack _ _ ⟨Value.ref (s.heap.objs.size + 1) :: us, []⟩ (Value.ref (s.heap.objs.size + 1) :: us) _ _ (E σ) (hr.make C us [])
    (I2.env0.make C us []) b r2 hq) fun r s' hq' => ?_))
  cases r with
  | error z => exact hx pins _ _ z s' I2 hq'
  | ok fl =>
    cases fl with
    | ret u =>
      obtain ⟨v, H', I3, rv, ev, q3⟩ := I2.after hq'
      subst ev
      exact ⟨rv, ⟨V.ref (s.heap.objs.size + 1), H', I3, rfl, q3⟩⟩
    | next => exact False.elim hq'
    | brk => exact False.elim hq'
    | cont => exact False.elim hq'
theorem pe_makeS (M : Mk X.K C f) (F : FnOk X.prog X.w X.K X.mg X.base CX k f fd ps sp) (hr : Room (k + 1) X.A) (hg : Gl X x) (hm : X.mg x = some (.ref C)) (hb : Binds X.K fd ps []) (hx : ∀ σ, PassesAt CX X σ (E σ))
    (ha : PA X (e :: es) t) (hdb : (x == ("__debug__" : Str)) = false) (he : starEach (e :: es) X.env = (false, eval e X.env) :: starEach es X.env) (hpl : (backTo pos (starEach es X.env)).any (·.1) = false) :
    PE X (.Call (.Name x p) (e :: es) [] pos) (tMakeS C sp E t) := by
  refine ⟨fun pins s σ H Q I h => ?_⟩
  refine wpAny_Call_Name_kw (ld_glob I hg hm ?_ hdb)
  refine PySem.W.callWith_K (h₀ := X.base) I.ok.mod.kin M.kp (thn (ha.run pos pins s σ H _ I h) fun us s1 ⟨vs, H1, I1, r, q⟩ => ⟨I1.kIn, ?_⟩) he hpl
  exact run_makeS M F hr hb (hx σ) I1 r q
end
section
variable {K : Frg} {A : Amb} {G H : Hp} {cs : Cs} {ms : Mu} {σ : L2.St} {ds : De}
theorem St.freshA (s : St K A G H cs ms σ ds) {q : Addr} (h : H q = none) : A.H q = none := by
  cases e : A.G q with
  | none =>
    cases e2 : A.H q with
    | none => rfl
    | some u => exact absurd h (s.out q e (by rw [e2]; exact fun z => nomatch z)).2
  | some u =>
    have := s.k.gh _ _ (s.gg _ _ e)
    rw [h] at this
    cases this
/-- a call changed an object that is not followed -/
theorem St.chgOut (s : St K A G H cs ms σ ds) {G' H' : Hp} {q : Addr} (g : Chg [q] G H G' H') (hA : A.H q = none) (hf : q ∉ foot cs) : St K A G' H' cs ms σ ds ∧ Ext cs G cs G' := by
  have keep : ∀ a, a ≠ q → H a ≠ none → H' a = H a := fun a hq h => by
    cases e : H a with
    | none => exact absurd e h
    | some o => exact g.hh a o (by simp [hq]) e
  have nf : ∀ a ∈ foot cs, a ≠ q := fun a ha e => hf (e ▸ ha)
  refine ⟨⟨s.gg.trans g.gg, fun a o h1 h2 => g.hh a o ?_ (s.hh a o h1 h2), fun a h1 h2 => ?_, s.own, ⟨g.gh, s.k.len, fun n p fp m h1 h2 => ?_, fun a ha => (g.out a (s.k.gn a ha) (s.k.hs a ha)).1, fun a ha => ?_, s.k.nd⟩, s.env.mono (List.prefix_refl _) g.gg⟩, ⟨List.prefix_refl _, g.gg⟩⟩
  · intro z
    have : a = q := by simpa using z
    subst this
    rw [hA] at h2
    cases h2
  · obtain ⟨e1, e2⟩ := s.out a h1 h2
    exact g.out a e1 e2
  · exact (s.k.cell n p fp m h1 h2).mono (List.prefix_refl _) g.gg fun a ha => keep a (nf a (foot_mem h1 ha)) (s.k.hs a (foot_mem h1 ha))
  · rw [keep a (nf a ha) (s.k.hs a ha)]
    exact s.k.hs a ha
end
structure Mak (P : Program) (w : World) (K : Frg) (mg : Str → Option Value) (base : Heap) (x : Str) (C : Addr) (k : Nat) (ps : List Str) (sp : Sp) : Prop where
  ok : ∃ f fd, Mk K C f ∧ FnOk P w K mg base (L2.CX P w) k f fd ps sp ∧ mg x = some (.ref C) ∧ Binds K fd ps []
theorem Mak.mono {P : Program} {w : World} {K : Frg} {mg : Str → Option Value} {base : Heap} {x : Str} {C : Addr} {k j : Nat} {ps : List Str} {sp : Sp} (h : Mak P w K mg base x C k ps sp) (hj : k ≤ j) : Mak P w K mg base x C j ps sp := by
  obtain ⟨f, fd, m, a, b, c⟩ := h.ok
  exact ⟨f, fd, m, a.mono hj, b, c⟩
def pf (fs : List (Str × PD)) : List (Str × D) := fs.map fun f => (f.1, .p f.2)
def wMake (C : Addr) (R : RR) (wr : WA) : WE := fun ds ms P Xp => wr ds ms (fun l m => match allP l with
  | some args => R (.ins C []) args (fun x c => x = .non ∧ ∃ fs, c = .ins C (pf fs) ∧ P (.p (.ins C fs)) m) (fun C' fs _ => Xp C' fs m)
  | none => False) Xp
/-- the new instance is a cell -/
def wMakeC (C : Addr) (R : RR) (wr : WA) : WE := fun ds ms P Xp => wr ds ms (fun l m => match allP l with
  | some args => R (.ins C []) args (fun x c => x = .non ∧ P (.c m.length) (m ++ [c])) (fun C' fs _ => Xp C' fs m)
  | none => False) Xp
def wMake0 (C : Addr) (R : RR) (wr : WA) : WE := fun ds ms P Xp => wr ds ms (fun l m => match allP l with
  | some args => R (.ins C []) args (fun x c => x = .non ∧ ∃ fs, c = .ins C (pf fs) ∧ P (.p (.ins C fs)) m) (fun _ _ _ => False)
  | none => False) Xp
section
variable {K : Frg} {Wx : WX} {σ : L2.St} {H : Hp} {wr : WA}
theorem pf_rep {i : List Addr} {G : Hp} : ∀ {fvs : List (Str × V)} {fs : List (Str × PD)}, RepDF K i G fvs (pf fs) → RepF K G fvs fs
  | [], [], _ => .nil
  | [], f :: r, h => nomatch h
  | v :: q, [], h => nomatch h
  | (g, v) :: q, (f, d) :: r, h => by
    cases h with
    | cons h1 h2 =>
      obtain ⟨e, h1⟩ := h1
      have e' : g = f := e
      subst e'
      exact .cons h1 (pf_rep h2)
theorem made_st {A : Amb} {G : Hp} {cs : Cs} {ms : Mu} {ds : De} (s : St K A G H cs ms σ ds) {C x dx : Addr} (hx : H x = none) (hd : H dx = none) (ne : dx ≠ x) :
    St K A G (upd (upd H dx (.own x)) x (.ins C dx [])) cs ms σ ds ∧ CellOk K G (upd (upd H dx (.own x)) x (.ins C dx [])) x [x] (.ins C []) ∧ x ∉ foot cs ∧ A.H x = none := by
  have s1 := s.hide hd (.own x)
  have hx1 : upd H dx (.own x) x = none := by rw [upd_ne (Ne.symm ne)]; exact hx
  have s2 := s1.hide hx1 (.ins C dx [])
  refine ⟨s2, ⟨⟨rfl, dx, [], upd_same, .nil⟩, fun a ha => ?_, fun a ha => ?_, by simp⟩, fun z => s.k.hs x z hx, s.freshA hx⟩
  · have : a = x := by simpa using ha
    subst this
    exact s.k.gh.free hx
  · have : a = x := by simpa using ha
    subst this
    rw [upd_same]
    exact fun z => nomatch z
theorem s_makeP {A : Amb} {G : Hp} {cs : Cs} {ms : Mu} {ds : De} (s : St K A G H cs ms σ ds) {G' H' : Hp} {x C : Addr} {fp : List Addr} {fs : List (Str × PD)} (g : Chg [x] G H G' H') (co : CellOk K G' H' x fp (.ins C (pf fs))) (hf : x ∉ foot cs) (hA : A.H x = none) :
    ∃ G2, St K A G2 H' cs ms σ ds ∧ Ext cs G cs G2 ∧ Rep K G2 (.ref x) (.ins C fs) := by
  obtain ⟨s1, e1⟩ := s.chgOut g hA hf
  obtain ⟨rfl, dx, fvs, h1, h2⟩ := co.at_
  obtain ⟨s2, sg⟩ := s1.keep (o := .ins C dx fvs) hA (co.gn x (by simp)) hf h1
  exact ⟨_, s2, e1.trans ⟨List.prefix_refl _, sg⟩, .ins upd_same ((pf_rep h2).mono sg)⟩
theorem s_makeC {A : Amb} {G : Hp} {cs : Cs} {ms : Mu} {ds : De} (s : St K A G H cs ms σ ds) {G' H' : Hp} {x : Addr} {fp : List Addr} {m : M} (g : Chg [x] G H G' H') (co : CellOk K G' H' x fp m) (nw : ∀ a ∈ fp, a ∈ [x] ∨ H a = none) (hf : x ∉ foot cs) (hA : A.H x = none) :
    St K A G' H' (cs ++ [(x, fp)]) (ms ++ [m]) σ ds ∧ Ext cs G (cs ++ [(x, fp)]) G' := by
  obtain ⟨s1, e1⟩ := s.chgOut g hA hf
  have fe : foot (cs ++ [(x, fp)]) = foot cs ++ fp := by
    rw [foot_app]
    show foot cs ++ (fp ++ []) = _
    rw [List.append_nil]
  have nf : ∀ a ∈ fp, a ∉ foot cs := fun a ha z => by
    rcases nw a ha with q | q
    · have : a = x := by simpa using q
      subst this
      exact hf z
    · exact s.k.hs a z q
  refine ⟨⟨s1.gg, s1.hh, s1.out, fun a ha => ?_, ⟨s1.k.gh, by rw [List.length_append, List.length_append, s.k.len]; rfl, fun n p' fp' m' h1 h2 => ?_, fun a ha => ?_, fun a ha => ?_, ?_⟩, s1.env.mono (io_app _ _) (Same.refl _)⟩, ⟨io_app _ _, g.gg⟩⟩
  · rw [fe] at ha
    rcases List.mem_append.mp ha with z | z
    · exact s.own a z
    · rcases nw a z with q | q
      · have : a = x := by simpa using q
        subst this
        exact .inl hA
      · exact .inl (s.freshA q)
  · by_cases hn : n < cs.length
    · rw [List.getElem?_append_left hn] at h1
      rw [List.getElem?_append_left (by rw [← s.k.len]; exact hn)] at h2
      exact (s1.k.cell n p' fp' m' h1 h2).mono (io_app _ _) (Same.refl G') fun a _ => rfl
    · have hn' : n = cs.length := by
        have := (List.getElem?_eq_some_iff.mp h1).1
        rw [List.length_append] at this
        simp at this
        omega
      subst hn'
      rw [List.getElem?_append_right (Nat.le_refl _)] at h1
      rw [List.getElem?_append_right (by rw [s.k.len]; exact Nat.le_refl _)] at h2
      simp at h1
      simp [s.k.len] at h2
      obtain ⟨rfl, rfl⟩ := h1
      subst h2
      exact co.at_.mono List.nil_prefix (Same.refl _) fun a _ => rfl
  · rw [fe] at ha
    rcases List.mem_append.mp ha with z | z
    · exact s1.k.gn a z
    · exact co.gn a z
  · rw [fe] at ha
    rcases List.mem_append.mp ha with z | z
    · exact s1.k.hs a z
    · exact co.hs a z
  · rw [fe]
    exact List.nodup_append.mpr ⟨s.k.nd, co.nd, fun a ha b hb e => nf b hb (e ▸ ha)⟩
theorem s_make {C : Addr} {R : RR} {Q : VK} (h : canE K Wx (wMake C R wr) σ H Q) : tMakeS C (spR K R) (L2.WE Wx) (canA K Wx wr) σ H Q := by
  obtain ⟨A, G, cs, ms, ds, P, Xp, s, h, q, x⟩ := h
  refine ⟨A, G, cs, ms, ds, _, Xp, s, h, fun vs l G1 H1 cs1 ms1 s1 e1 r1 h1 => ?_, x⟩
  intro y dy hy hdy ne
  try dsimp only at h1
  split at h1
  · rename_i args e
    rw [allP_some e] at r1
    obtain ⟨s2, co, hf, hA⟩ := made_st (C := C) s1 hy hdy ne
    refine ⟨G1, y, [y], .ins C [], vs, args, _, _, rfl, s2.k.gh, co, RepDs.all r1, h1, fun v d G' H' fp' m' g co' nw r h2 => ?_, fun C' fs dd G' H' fp' m' g co' nw ex h2 => ?_⟩
    · obtain ⟨hd, fs, rfl, h2⟩ := h2
      subst hd
      obtain ⟨G2, s3, e3, r3⟩ := s_makeP s2 g co' hf hA
      cases r
      exact ⟨rfl, q _ (.p (.ins C fs)) G2 H' cs1 ms1 s3 (e1.trans e3) r3 h2⟩
    · obtain ⟨s3, e3⟩ := s2.chgOut g hA hf
      exact x C' fs dd G' H' cs1 ms1 s3 (e1.trans e3) ex h2
  · exact h1.elim
theorem s_make0 {C : Addr} {R : RR} {Q : VK} (h : canE K Wx (wMake0 C R wr) σ H Q) : tMakeS C (spR K R) (L2.WE W0) (canA K Wx wr) σ H Q := by
  obtain ⟨A, G, cs, ms, ds, P, Xp, s, h, q, x⟩ := h
  refine ⟨A, G, cs, ms, ds, _, Xp, s, h, fun vs l G1 H1 cs1 ms1 s1 e1 r1 h1 => ?_, x⟩
  intro y dy hy hdy ne
  try dsimp only at h1
  split at h1
  · rename_i args e
    rw [allP_some e] at r1
    obtain ⟨s2, co, hf, hA⟩ := made_st (C := C) s1 hy hdy ne
    refine ⟨G1, y, [y], .ins C [], vs, args, _, _, rfl, s2.k.gh, co, RepDs.all r1, h1, fun v d G' H' fp' m' g co' nw r h2 => ?_, fun C' fs dd G' H' fp' m' g co' nw ex h2 => h2⟩
    obtain ⟨hd, fs, rfl, h2⟩ := h2
    subst hd
    obtain ⟨G2, s3, e3, r3⟩ := s_makeP s2 g co' hf hA
    cases r
    exact ⟨rfl, q _ (.p (.ins C fs)) G2 H' cs1 ms1 s3 (e1.trans e3) r3 h2⟩
  · exact h1.elim
theorem s_makeCc {C : Addr} {R : RR} {Q : VK} (h : canE K Wx (wMakeC C R wr) σ H Q) : tMakeS C (spR K R) (L2.WE Wx) (canA K Wx wr) σ H Q := by
  obtain ⟨A, G, cs, ms, ds, P, Xp, s, h, q, x⟩ := h
  refine ⟨A, G, cs, ms, ds, _, Xp, s, h, fun vs l G1 H1 cs1 ms1 s1 e1 r1 h1 => ?_, x⟩
  intro y dy hy hdy ne
  try dsimp only at h1
  split at h1
  · rename_i args e
    rw [allP_some e] at r1
    obtain ⟨s2, co, hf, hA⟩ := made_st (C := C) s1 hy hdy ne
    refine ⟨G1, y, [y], .ins C [], vs, args, _, _, rfl, s2.k.gh, co, RepDs.all r1, h1, fun v d G' H' fp' m' g co' nw r h2 => ?_, fun C' fs dd G' H' fp' m' g co' nw ex h2 => ?_⟩
    · obtain ⟨hd, h2⟩ := h2
      subst hd
      obtain ⟨s3, e3⟩ := s_makeC s2 g co' nw hf hA
      cases r
      refine ⟨rfl, q _ (.c ms1.length) G' H' _ _ s3 (e1.trans e3) ⟨y, ?_, rfl⟩ h2⟩
      rw [← s1.k.len]
      unfold io
      rw [List.map_append, List.getElem?_append_right (by rw [List.length_map]; exact Nat.le_refl _)]
      simp
    · obtain ⟨s3, e3⟩ := s2.chgOut g hA hf
      exact x C' fs dd G' H' cs1 ms1 s3 (e1.trans e3) ex h2
  · exact h1.elim
end
section
variable {X : Cx} {Wx : WX} {e : Expr} {es : List Expr} {pos : Pos} {wr : WA} {x : Str} {C : Addr} {p : Pos} {k : Nat} {ps : List Str} {R : RR}
theorem de_make (c : Mak X.prog X.w X.K X.mg X.base x C k ps (spR X.K R)) (hr : Room (k + 1) X.A) (hx : ∀ σ, PassesAt (L2.CX X.prog X.w) X σ (L2.WE Wx σ)) (ha : DA X Wx (e :: es) wr) (hg : Gl X x := by rfl) (hdb : (x == ("__debug__" : Str)) = false := by decide) (he : starEach (e :: es) X.env = (false, eval e X.env) :: starEach es X.env := by rfl) (hpl : (backTo pos (starEach es X.env)).any (·.1) = false := by rfl) :
    DE X Wx (.Call (.Name x p) (e :: es) [] pos) (wMake C R wr) := by
  obtain ⟨f, fd, m, a, b, c⟩ := c.ok
  exact PE.imp (pe_makeS m a hr hg b c hx ha hdb he hpl) fun _ _ _ => s_make
theorem de_makeC (c : Mak X.prog X.w X.K X.mg X.base x C k ps (spR X.K R)) (hr : Room (k + 1) X.A) (hx : ∀ σ, PassesAt (L2.CX X.prog X.w) X σ (L2.WE Wx σ)) (ha : DA X Wx (e :: es) wr) (hg : Gl X x := by rfl) (hdb : (x == ("__debug__" : Str)) = false := by decide) (he : starEach (e :: es) X.env = (false, eval e X.env) :: starEach es X.env := by rfl) (hpl : (backTo pos (starEach es X.env)).any (·.1) = false := by rfl) :
    DE X Wx (.Call (.Name x p) (e :: es) [] pos) (wMakeC C R wr) := by
  obtain ⟨f, fd, m, a, b, c⟩ := c.ok
  exact PE.imp (pe_makeS m a hr hg b c hx ha hdb he hpl) fun _ _ _ => s_makeCc
theorem de_make0 (c : Mak X.prog X.w X.K X.mg X.base x C k ps (spR X.K R)) (hr : Room (k + 1) X.A) (ha : DA X Wx (e :: es) wr) (hg : Gl X x := by rfl) (hdb : (x == ("__debug__" : Str)) = false := by decide) (he : starEach (e :: es) X.env = (false, eval e X.env) :: starEach es X.env := by rfl) (hpl : (backTo pos (starEach es X.env)).any (·.1) = false := by rfl) :
    DE X Wx (.Call (.Name x p) (e :: es) [] pos) (wMake0 C R wr) := by
  obtain ⟨f, fd, m, a, b, c⟩ := c.ok
  exact PE.imp (pe_makeS (E := L2.WE W0) m a hr hg b c (fun _ => pass0) ha hdb he hpl) fun _ _ _ => s_make0
end
end DL

set_option Elab.async false
set_option linter.all false
set_option maxRecDepth 100000
set_option maxHeartbeats 4000000
namespace DL
open PySem L2 PySem.Spec PyProof.Rows
/-! ### raise of an own error without fields -/
structure ExcF (K : Frg) (mg : Str → Option Value) (x : Str) (C : Addr) (bmB : List Value) : Prop where
  exc : PySem.W.excIn K C bmB "ValueError.__new__" = true
  mgC : mg x = some (.ref C)
  kp : PySem.W.keepIn K (.ref C) = true
  sub : PySem.W.subIn K (.ref C) (.type "BaseException") = some true
  ty : PySem.W.typeIn K (.ref C) = some (.type "type")
def wRaise (C : Addr) : WS := fun E ds ms => E.ex C [] ds ms
section
variable {X : Cx} {Wx : WX} {C : Addr} {bmB : List Value} {B newId initId : String} {x : Str} {p pos pos' : Pos}
theorem pmk_own0 (F : ExcBaseFacts B newId initId bmB) (q : PySem.W.excIn X.K C bmB newId = true) (gC : X.mg x = some (.ref C))
    (kC : PySem.W.keepIn X.K (.ref C) = true) (r : Raises X (.ref C)) (hg : Gl X x) (hdb : (x == ("__debug__" : Str)) = false) :
    PMk X (.Call (.Name x p) [] [] pos) (fun _ H Q => Q (.ref C) none H) := by
  intro pins s σ H Q I h
  refine wpAny_Call_Name_kw (ld_glob I hg gC ?_ hdb)
  refine PySem.W.callWith_K0 I.kIn kC ?_
  show wpAny _ _ (call (.ref C) []) _ _ _
  obtain ⟨bm, N, nm, qn, bs, hdct, sn, sub, ab, col, dd, k0, k1, k2, k3, k5, mN, hC, hN, hni, T⟩ := exc_obj I.kIn q
  refine wpAny_call_exc_subT F T hC hN hni (fun h' e hm => ?_) (by show 0 ≤ sizeLine; exact Nat.zero_le _)
  exact mk_of I hm r h (I.hok.gone hm.new)
theorem ds_raise (F : ExcF X.K X.mg x C [.type "ValueError", .type "Exception", .type "BaseException", .type "object"]) (hc : X.calm = true) (tk : Takes X Wx) (hg : Gl X x := by rfl) (hdb : (x == ("__debug__" : Str)) = false := by decide) :
    DS X Wx (.Raise (some (.Call (.Name x p) [] [] pos)) none pos') (wRaise C) := PS.imp (ps_raise hc tk (pmk_own0 PySem.F.excBase_ValueError F.exc F.mgC F.kp (raises_own F.sub F.ty) hg hdb)) fun D σ H h => by
  obtain ⟨A, G, cs, ms, ds, E, s, h, n, r, b, c, y⟩ := h
  exact y C [] none σ ds G H cs ms s (Ext.refl _ _) (.inl ⟨rfl, rfl⟩) h
end
/-! ### a number of the module -/
section
variable {X : Cx} {Wx : WX} {e : Expr} {we : WE}
theorem de_globX {x : Str} {i : Int} {pos : Pos} (hm : ∃ t, X.mg x = some (.int i t)) (hg : Gl X x := by rfl) (hd : (x == ("__debug__" : Str)) = false := by decide) : DE X Wx (.Name x pos) (wC (.int i)) := by
  obtain ⟨t, hm⟩ := hm
  exact de_globI hg hm hd
theorem de_globT {x y : Str} {pos : Pos} (hm : ∃ t, X.mg x = some (.str y t)) (hg : Gl X x := by rfl) (hd : (x == ("__debug__" : Str)) = false := by decide) : DE X Wx (.Name x pos) (wC (.str y)) := by
  obtain ⟨t, hm⟩ := hm
  exact de_globS hg hm hd
variable {pos : Pos}
/-- o[i] = e, o a list -/
theorem ds_subL {o i : Expr} {wo wi : WE} {tp : Pos} (he : DE X Wx e we) (ho : DE X Wx o wo) (hi : DE X Wx i wi) 
    (ha : ∀ v, assign (.Subscript o i tp) X.env v = (do let ov ← holding [v] (eval o X.env); let iv ← holding [v, ov] (eval i X.env); standAt tp; holding [v, ov, iv] (setItem ov iv v); release [v, ov, iv] []) := by intro _; rfl)
    (hs : swapsWithSole [.Subscript o i tp] e pos.line X.env = pure false := by rfl) (hw : swappedStores [.Subscript o i tp] e X.env = pure none := by rfl)
    (h1 : (assignEach [.Subscript o i tp] X.env).map (·.2) = [assign (.Subscript o i tp) X.env] := by rfl) : DS X Wx (.Assign [.Subscript o i tp] e pos) (wAsg we (wgSub wo wi)) :=
  ds_sub he ho hi (pg_sub ho hi set_list ha) hs hw h1
end
end DL

set_option Elab.async false
set_option linter.all false
set_option maxRecDepth 100000
set_option maxHeartbeats 4000000
namespace DL
open PySem L2 PySem.Spec PyProof.Rows
/-! ### raise of an own error with one field -/
def spX (C : Addr) (f : Str) : Sp := fun vs H Q _ => ∃ (a : Addr) (y : V), vs = [.ref a, y] ∧ H a = some (exo a C none) ∧ ∀ dx, H dx = none → dx ≠ a → Q .non (upd (upd H dx (exd dx [(f, y)])) a (exo a C (some dx)))
structure ExcI (P : Program) (w : World) (K : Frg) (mg : Str → Option Value) (base : Heap) (x : Str) (C : Addr) (f : Str) (k : Nat) : Prop where
  oex : OexC K C
  mgC : mg x = some (.ref C)
  init : ∃ fI fd, PySem.W.findIn K (.ref C) "__init__" = some (some (.ref fI)) ∧ PySem.W.typeIn K (.ref fI) = some (.type "function") ∧ FnOk P w K mg base (L2.CX P w) k fI fd [("self" : Str), f] (spX C f) ∧ Binds K fd [("self" : Str), f] []
theorem ExcI.mono {P : Program} {w : World} {K : Frg} {mg : Str → Option Value} {base : Heap} {x : Str} {C : Addr} {f : Str} {k j : Nat} (h : ExcI P w K mg base x C f k) (hj : k ≤ j) : ExcI P w K mg base x C f j := by
  obtain ⟨a, b, fI, fd, c, d, e, g⟩ := h
  exact ⟨a, b, fI, fd, c, d, e.mono hj, g⟩
/-- def __init__(self, f): self.f = f -/
theorem fn_exc {P : Program} {w : World} {K : Frg} {mg : Str → Option Value} {base : Heap} {name qual : Str} {params : Arguments} {body : List Stmt} {scope : Scope} {fI : Addr} {fd : FuncData} {C : Addr} {f : Str}
    (F : FunD K name qual params body scope [] [] fI fd) (S : FnScope [("self" : Str), f] [("self" : Str), f] scope) (T : OexC K C) (hno : PySem.W.findIn K (.ref C) f = some none)
    (hb : ∀ (cdv : Value) (A : Around) (outer : List Env) (s : Shared) (H : Hp) (E : XK), PSs (cxOf (L2.CX P w) P w K mg base [("self" : Str), f] qual scope fI cdv A outer s H E) body (tOst K f (tVar 0) (tVar 1))) :
    FnOk P w K mg base (L2.CX P w) 1 fI fd [("self" : Str), f] (spX C f) := by
  refine F.ok S (fun vs H Q E h => ?_) (fun cdv A outer s H vs Q E hr h => ⟨_, hb cdv A outer s H E, ?_⟩)
  · obtain ⟨a, y, rfl, _⟩ := h
    rfl
  · obtain ⟨a, y, rfl, ha, q⟩ := h
    exact ⟨y, rfl, .ref a, rfl, a, C, rfl, T, hno, .inl ⟨ha, fun dx h1 h2 => q dx h1 h2⟩⟩
def wRaiseI (C : Addr) (f : Str) (we : WE) : WS := fun E ds ms => wCons we wNil ds ms (fun l m => match l with | [.p v] => E.ex C [(f, v)] ds m | _ => False) (E.xp ds)
section
variable {X : Cx} {Wx : WX} {C : Addr} {x f : Str} {p pos pos' : Pos} {e : Expr} {we : WE} {k : Nat}
theorem ds_raiseI (I : ExcI X.prog X.w X.K X.mg X.base x C f k) (hr : Room (k + 1) X.A) (hc : X.calm = true) (tk : Takes X Wx) (he : DE X Wx e we) (hg : Gl X x := by rfl) (hdb : (x == ("__debug__" : Str)) = false := by decide)
    (hs : starEach (e :: []) X.env = (false, eval e X.env) :: starEach [] X.env := by rfl) (hpl : (backTo pos (starEach [] X.env)).any (·.1) = false := by rfl) :
    DS X Wx (.Raise (some (.Call (.Name x p) [e] [] pos)) none pos') (wRaiseI C f we) := by
  obtain ⟨T, gC, fI, fd, iC, tI, F1, hb⟩ := I
  have hx : Passes (L2.CX X.prog X.w) X (fun _ _ _ => False) := fun _ _ _ _ _ _ _ c => by
    obtain ⟨_, _, _, _, _, _, _, _, _, _, _, _, h⟩ := c
    exact h.elim
  refine PS.imp (ps_raise hc tk (pmk_oex T iC tI F1 hr hb .nil hx hg gC (da_cons he da_nil hs) hdb hs hpl)) fun D σ H h => ?_
  obtain ⟨A, G, cs, ms, ds, E, s, h, n, r, b, c, y⟩ := h
  refine ⟨A, G, cs, ms, ds, _, _, s, h, fun vs xs G1 H1 cs1 ms1 s1 e1 r1 h1 => ?_, y.at_⟩
  try dsimp only at h1
  split at h1
  · rename_i v
    cases r1 with
    | @cons u _ _ _ ru rr =>
      cases rr
      refine ⟨by show 1 ≤ 1000; decide, fun a ha => ⟨a, u, rfl, upd_same, fun dx hdx hne => ⟨rfl, dx, [(f, u)], upd_same, ?_, ?_, ?_⟩⟩⟩
      · rw [upd_ne hne, upd_same]
      · rw [upd_ne hne] at hdx
        exact hdx
      · rw [upd_ne hne] at hdx
        have eH : upd (L2.del (upd (upd (upd H1 a (exo a C none)) dx (exd dx [(f, u)])) a (exo a C (some dx))) a) dx (.xd [(f, u)]) = upd H1 dx (.xd [(f, u)]) := by
          funext z
          by_cases hz : z = dx
          · subst hz
            rw [upd_same, upd_same]
          · rw [upd_ne hz, upd_ne hz]
            by_cases hza : z = a
            · subst hza
              rw [del_same, ha]
            · rw [del_ne hza, upd_ne hza, upd_ne hz, upd_ne hza]
        rw [eH]
        exact y C [(f, v)] (some dx) σ ds G1 _ cs1 ms1 (s1.hide hdx _) e1 (.inr ⟨dx, _, rfl, upd_same, .cons ru .nil⟩) h1
  · exact h1.elim
end
end DL

set_option Elab.async false
set_option linter.all false
set_option maxRecDepth 100000
set_option maxHeartbeats 4000000
namespace DL
open PySem L2 PySem.Spec PyProof.Rows
/-! ### several clauses 'except x as n' -/
abbrev HdL := List (Value × (Nat × (Addr → Value → Option Addr → TS)))
def outAs (i : Nat) (D : Ends) : Ends where
  nx := fun σ H => D.nx (σ.set i none) H
  rt := D.rt
  bk := fun σ H => D.bk (σ.set i none) H
  ct := fun σ H => D.ct (σ.set i none) H
def wManyA (K : Frg) (Wout : WX) (D : Ends) : HdL → WX
  | [] => Wout
  | (c, i, ts) :: r => fun cls d σ H => ∃ b, PySem.W.exmOne K cls c = some b ∧ (b = true → ∀ a, H a = none → ts a cls d (outAs i D) (σ.set i (some (.ref a))) H) ∧ (b = false → wManyA K Wout D r cls d σ H)
inductive HdsA (X : Cx) : List ExceptHandler → HdL → Prop
  | nil : HdsA X [] []
  | cons {x n : Str} {i : Nat} {c : Value} {ts : Addr → Value → Option Addr → TS} {b0 : Stmt} {suite : List Stmt} {np pos' : Pos} {hds : List ExceptHandler} {l : HdL} (hc : Names X x c) (hi : X.N[i]? = some n) (hln : X.env.kindOf n = some .local)
      (hsu : ∀ (a : Addr) (oe : Obj) (cls : Value) (d : Option Addr) (pn : List (Addr × Obj)), Zc cls d oe → (∃ vs, oe.data = .fields vs) → PSs (X.suite a ((a, oe) :: pn)) (b0 :: suite) (ts a cls d)) (r : HdsA X hds l) :
      HdsA X (.ExceptHandler (some (.Name x np)) (some n) (b0 :: suite) pos' :: hds) ((c, i, ts) :: l)
section
variable {X : Cx} {body : List Stmt} {h0 : ExceptHandler} {hds : List ExceptHandler} {l : HdL} {pos : Pos} {tb : WX → TS} {Wout : WX}
theorem ps_try_manyA (hs : X.stack = X.env :: X.outer) (hf : X.env.frame = some X.env.locals) (hN : X.N.Nodup) (tk : Takes X Wout)
    (hb : ∀ (W : WX) (pn : List (Addr × Obj)) (xe : Value → Shared → Prop), Takes (X.tr pn xe) W → PassesOwn (model X.prog X.w) X.A X.env xe → PSs (X.tr pn xe) body (tb W))
    (hh : HdsA X (h0 :: hds) l) : PS X (.Try body (h0 :: hds) [] [] pos) (fun D σ H => tb (wManyA X.K Wout D l) D σ H) := by
  refine ⟨fun pins s σ H D I h => ?_⟩
  have ok := I.ok
  have hfr : X.A.frames = some (X.env :: X.outer) := by rw [ok.frames, hs]
  refine wpAny_Try_except ?_
  refine wpAny_mono ((hb (wManyA X.K Wout D l) (X.pn ++ pins) (fun e s₁ => wpAny (model X.prog X.w) X.A (noteFrame e X.env) (fun _ s₂ => wpAny (model X.prog X.w) X.A (setFlight e none) (fun _ s₃ =>
    wpAny (model X.prog X.w) X.A (handleBy e X.env (h0 :: hds)) (SP X pins D) X.xe s₃) X.xe s₂) X.xe s₁) (fun u s' xx => ?_) PassesOwn.looking).run [] s σ H D (I.toTry _) h) (fun f s1 hsp => ?_) (fun e s1 he => he)
  · obtain ⟨a, B, sI, pins', σ', H', cls, d, rfl, J', nb, up, sky, na, os, ag, w⟩ := xx
    have J : Inv X pins σ' H' sI := J'.ofTry ok
    have sky' : Sky B (X.env :: X.outer) a (Zc cls d) X.env.locals s'.heap := by rw [← hs]; exact sky
    show wpAny (model X.prog X.w) X.A (noteFrame (.ref a) X.env) _ _ _
    refine Sky.land Zc.steady hfr hf sky' fun h3 fl3 up3 => ?_
    have J3 : Inv X pins σ' H' { s' with heap := h3 } := J.landed nb fl3.1 (up.trans up3) os ag
    obtain ⟨oe3, vs3, he3, hz3, hd3⟩ := fl3.there
    have notFr : ∀ {h : Heap} {o : Obj} {vs : Array Value}, h.FunFrames B (X.env :: X.outer) → h.get? a = some o → o.data = .fields vs → a ∉ frs (X.env :: X.outer) := fun {h o vs} ff e dd hm => by
      obtain ⟨_, o', e', hnf⟩ := ff.mem hm
      rw [e] at e'; cases e'
      exact hnf _ dd
    have nfr := notFr fl3.2.2.1 he3 hd3
    have nL : a ≠ X.env.locals := fun z => nfr (List.mem_filterMap.mpr ⟨X.env, List.mem_cons_self, by rw [hf, z]⟩)
    have nF : a ∉ X.fs := fun hm => by
      obtain ⟨e, he, q⟩ := List.mem_filterMap.mp hm
      exact nfr (List.mem_filterMap.mpr ⟨e, List.mem_cons_of_mem _ he, q⟩)
    have S3 := J3.suite he3 hd3 na nL nF
    have go : ∀ {hds' : List ExceptHandler} {l' : HdL}, HdsA X hds' l' → wManyA X.K Wout D l' cls d σ' H' →
        wpAny (model X.prog X.w) X.A (handleBy (.ref a) X.env hds') (SP X pins D) X.xe { s' with heap := h3 } := by
      intro hds' l' hk
      induction hk with
      | nil =>
        intro w
        refine wpAny_handleBy_nil ?_
        obtain ⟨k1, k2, k3, oe, vs, T, oT, ts', he, hz, hd, h1, hr⟩ := id fl3
        unfold PySem.passOn
        refine wpAny_bind (wpAny_field he hd h1 ?_)
        rw [if_neg (show ¬ ((Value.ref T == Value.none) = true) from by simp)]
        have fin : wpAny (model X.prog X.w) X.A (setFlight (.ref a) X.env.frame) (fun _ s4 => wpAny (model X.prog X.w) X.A (throw (.ref a) : Sem Flow) (SP X pins D) X.xe s4) X.xe { s' with heap := h3 } := by
          rw [hf]
          refine HandSPX.setFlight_upZ fl3 fun h4 hh4 up4 => wpAny_throw (tk _ _ ?_)
          exact ⟨a, B, sI, pins, σ', H', cls, d, rfl, J, nb, (up.trans up3).trans up4, .inr (.inr (by rw [hs]; exact hh4)), na, os, ag, w⟩
        first
          | exact wpAny_bind (wpAny_pure (wpAny_bind fin))
          | exact wpAny_bind fin
      | @cons x n i c ts b0 suite np pos' hds2 l2 hc hi hln hsu r ih =>
        intro w
        obtain ⟨b, hb1, hyes, hno⟩ := w
        have hloc : Loc X.env.scope n := .inl hln
        refine wpAny_handleBy_cons (codeAny_handlers_test ?_) (by intro q; cases q)
        have LT : PySem.W.Looks (model X.prog X.w) h3 (typeOf (.ref a)) cls := fun A Q E s k q => wpAny_typeOf_ref (k _ _ he3) (by rw [hz3.1]; exact q)
        have LM := PySem.W.exm_one (M := model X.prog X.w) (J3.kIn) LT hb1
        have test : ∀ {Q : Value → Shared → Prop} {E : Value → Shared → Prop}, Q c { s' with heap := h3 } → wpAny (model X.prog X.w) (X.A.mark (some (.ref a))) (eval (.Name x np) X.env) Q E { s' with heap := h3 } := fun {Q E} q => by
          obtain ⟨hg, hdbg, hm | ⟨hm, hv, hnn⟩⟩ := hc
          · exact ld_glob (X := X.suite a ((a, oe3) :: (X.pn ++ pins))) S3 hg hm q hdbg
          · exact ld_blt (X := X.suite a ((a, oe3) :: (X.pn ++ pins))) S3 hg hm hv q hnn hdbg
        refine test (LM.here ?_)
        cases b with
        | true =>
          refine codeAny_handlers_suite_as ?_
          refine HandSPX.lands_againZ fl3 fun h4 fl4 up4 => ?_
          have J4 : Inv X pins σ' H' { s' with heap := h4 } := J.landed nb fl4.1 ((up.trans up3).trans up4) os ag
          obtain ⟨oe4, vs4, he4, hz4, hd4⟩ := fl4.there
          have S4 := J4.suite he4 hd4 na nL nF
          refine store_ok (X := X.suite a ((a, oe4) :: (X.pn ++ pins))) (v := .ref a) S4 hN hi hloc rfl (fun s5 S5 => ?_) (.inr hln)
          refine wpAny_mono ((hsu a oe4 cls d (X.pn ++ pins) hz4 ⟨_, hd4⟩).run [] s5 _ H' _ S5 (hyes rfl a na)) (fun f s6 hsp => ?_) (fun _ _ z => False.elim z)
          have end_ : ∀ {σ6 : L2.St} {H6 : Hp} {Q : Shared → Prop}, Inv (X.suite a ((a, oe4) :: (X.pn ++ pins))) [] σ6 H6 s6 → (∀ s7, Inv X pins (σ6.set i none) H6 s7 → Q s7) →
              wpAny (model X.prog X.w) X.A (do bindName X.env n .none; unbindBehindTheSuite X.env n pos') (fun _ s7 => Q s7) X.xe s6 := fun {σ6 H6 Q} S6 hq => gone_ok (S6.unsuite ok) hN hi hln hq
          cases f with
          | next =>
            obtain ⟨σ6, H6, S6, q6⟩ := hsp
            exact end_ S6 fun s7 J7 => ⟨_, _, J7, q6⟩
          | brk =>
            obtain ⟨σ6, H6, S6, q6⟩ := hsp
            exact end_ S6 fun s7 J7 => ⟨_, _, J7, q6⟩
          | cont =>
            obtain ⟨σ6, H6, S6, q6⟩ := hsp
            exact end_ S6 fun s7 J7 => ⟨_, _, J7, q6⟩
          | ret u =>
            obtain ⟨v6, σ6, H6, S6, r6, q6⟩ := hsp
            exact end_ S6 fun s7 J7 => ⟨_, _, _, J7, r6, q6⟩
        | false =>
          show wpAny _ X.A (handleBy (.ref a) X.env hds2) _ _ _
          exact ih (hno rfl)
    exact go hh w
  · cases f with
    | next =>
      obtain ⟨σ', H', J', q⟩ := hsp
      exact wpAny_execs_nil ⟨σ', H', J'.ofTry ok, q⟩
    | brk =>
      obtain ⟨σ', H', J', q⟩ := hsp
      exact ⟨σ', H', J'.ofTry ok, q⟩
    | cont =>
      obtain ⟨σ', H', J', q⟩ := hsp
      exact ⟨σ', H', J'.ofTry ok, q⟩
    | ret u =>
      obtain ⟨v, σ', H', J', r, q⟩ := hsp
      exact ⟨v, σ', H', J'.ofTry ok, r, q⟩
end
end DL

set_option Elab.async false
set_option linter.all false
set_option maxRecDepth 100000
set_option maxHeartbeats 4000000
namespace DL
open PySem PySem.Spec PySem.Calls PyProof.Rows PySem.W
/-! ### isinstance of a caught exception, with a dict or without -/
section
variable {prog : Program} {w : World} {A : Around} {E : Value → Shared → Prop} {s : Shared} {K : Frag} {x D : Addr} {ox : Obj}
theorem findObj_any {C : Addr} {od : Option Obj} {name : Str} {a g : Value} (hc : (clsIn K C).isSome = true) (ha : findIn K (.ref C) name = some (some a)) (hg : specialIn K a "__get__" = some (some g)) (ht : takesIn K a = some true) : findObj K C od name = some (.bind g a) := by
  cases od with
  | none => exact findObj_dataN hc ha hg ht
  | some od => exact findObj_data hc ha hg ht
theorem kin_classO {od : Option Obj} {Q : Option Value → Shared → Prop} (hga : findIn K (.ref D) "__getattribute__" = some (some (.builtin "BaseException.__getattribute__"))) (hgt : findIn K (.ref D) "__getattr__" = some none) (hsub : subIn K (.ref D) (.type "BaseException") = some true)
    (hdct : hasDictIn K D = true) (ha : findIn K (.ref D) "__class__" = some (some (.builtin "object.__class__")))
    (hn : specialIn K (.builtin "object.__class__") "__get__" = some (some (.builtin "getset_descriptor.__get__"))) (htk : takesIn K (.builtin "object.__class__") = some true) (hm : mroIn K D (.type "object") = some true)
    (X : K.In s.heap) (I : InstAt s.heap x ox D od) (h : Q (some (.ref D)) { s with toks := s.toks + 1 }) : wpAny (model prog w) A (getAttr? (.ref x) "__class__") Q E s := by
  have hf : findObj K D od "__class__" = some (.bind (.builtin "getset_descriptor.__get__") (.builtin "object.__class__")) := findObj_any (by obtain ⟨cd, hc, _⟩ := any_some hdct; rw [hc]; rfl) ha hn htk
  obtain ⟨hp, g, d, t, os⟩ := s
  have L0 := I.type (M := model prog w)
  have L1 := looks_findIn (M := model prog w) X hga
  have L2 := looks_findIn (M := model prog w) X hgt
  have L3 := looks_find (M := model prog w) X I hf
  have sub : Looks (model prog w) hp (isInstance (.ref x) (.type "BaseException")) true := L0.andThen (looks_subIn X hsub)
  have hx0 : (false && onTheHeap (Value.builtin "BaseException.__getattribute__")) = false := rfl
  have hx2 : (Value.builtin "BaseException.__getattribute__" == Value.builtin "object.__getattribute__") = false := by decide +kernel
  have hx1 : (onTheHeap (Value.ref D) && Value.builtin "BaseException.__getattribute__" == Value.builtin "object.__getattribute__") = false := by rw [hx2]; rfl
  unfold getAttr? getAttrBy? getAttrBy
  refine wpAny_bind (wpAny_mkText (wpAny_bind (wpAny_attempt (wpAny_holding (wpAny_bind (L0.at (wpAny_bind (L1.at ?_))))))))
  show wpAny _ _ (if (onTheHeap (Value.ref D) && Value.builtin "BaseException.__getattribute__" == Value.builtin "object.__getattribute__") = true then _ else _) _ _ _
  rw [hx1, if_neg Bool.false_ne_true]
  unfold getAttrByItsOwn hookBefore
  refine wpAny_bind ?_
  rw [if_pos (show onTheHeap (Value.ref D) = true from rfl)]
  refine L2.at ?_
  refine wpAny_bind (wpAny_attempt (wpAny_holding ?_))
  unfold callGetattribute
  rw [hx0, if_neg Bool.false_ne_true]
  unfold boundAndCalled
  rw [PySem.F.excAttr_ValueError.ga.bind (.ref x)]
  refine wpAny_bind (wpAny_pure ?_)
  show wpAny _ _ (call (.builtin "BaseException.__getattribute__") [.ref x, .str "__class__" t]) _ _ _
  refine wpAny_call (codeAny_call_builtin PySem.F.excAttr_ValueError.ga.plain PySem.F.entry_bexc_ga ?_)
  refine @check_slot (model prog w) _ _ ⟨hp, g, d, t + 1, os⟩ "BaseException.__getattribute__" "BaseException" "__getattribute__" (.ref x) [.str "__class__" t] [] _ (by decide +kernel) (by decide +kernel) sub (PySem.F.args_bexc_ga (.ref x) (.str "__class__" t)) ?_
  unfold Builtin.«object.__getattribute__»
  refine wpAny_bind (wpAny_of_eq (a := ((Value.ref x : Value), [Value.str "__class__" t])) (by first | rfl | (simp only [slotArgs]; rfl)) ?_)
  refine wpAny_bind (wpAny_pure (wpAny_bind (L0.at (wpAny_bind (L3.at ?_)))))
  show wpAny _ _ (holding [Value.builtin "object.__class__"] (call (.builtin "getset_descriptor.__get__") [.builtin "object.__class__", .ref x, .ref D]) >>= ret) _ _ _
  refine wpAny_bind (wpAny_holding (wpAny_call (class_get (s := ⟨hp, g, d, t + 1, os⟩) (ox := ox) (od := od) X I hm ?_)))
  refine wpAny_pure ?_
  show wpAny _ _ (handedOut (.ref D)) _ _ _
  rw [handedOut_of (v := .ref D) rfl]
  first
    | exact wpAny_pure (wpAny_pure h)
    | exact wpAny_pure h
    | exact wpAny_pure (wpAny_bind (wpAny_pure (wpAny_pure h)))
theorem kitx_excO {od : Option Obj} (C : L2.ExcC K D) : KitX K (.ref x) (.ref D) (fun h => InstAt h x ox D od) where
  ty := fun _ _ _ I => I.type
  it := fun _ _ X _ => by
    obtain ⟨cdD, hcD, _⟩ := any_some C.hd
    unfold clsIn at hcD
    split at hcD
    · rename_i c' d' cd' sl' ho
      intro A' Q' E' s' k q
      unfold isType loadHead
      exact wpAny_bind (wpAny_loadPart (k _ _ (X _ _ ho)) (wpAny_pure q))
    · cases hcD
  ne := (handS_kitx_exc (x := x) (ox := ox) C.hg C.hk C.hs C.hd C.ha C.hn C.ht C.hm).ne
  ca := fun X I k => kin_classO C.hg C.hk C.hs C.hd C.ha C.hn C.ht C.hm X I k
end
open L2
/-- isinstance(e, C), e the exception that the suite holds, of the class at D; d its dict -/
def rIsA (K : PySem.W.Frag) (a : Addr) (cls : Value) (d : Option Addr) (C : Addr) : List V → Hp → VK → Prop := fun xs H Q => ∃ (D : Addr) (b : Bool), xs = [.ref a, .ref C] ∧ cls = .ref D ∧ L2.ExcC K D ∧ (d = none ∨ ∃ dd fs, d = some dd ∧ H dd = some (.xd fs)) ∧ PySem.W.kitOne K (.ref D) (.ref C) = some b ∧ Q (.bl b) H
theorem call_isA {X : Cx} {a C : Addr} {oe : Obj} {cls : Value} {d : Option Addr} {pn : List (Addr × Obj)} (hz : Zc cls d oe) (hf : ∃ vs, oe.data = .fields vs) : CallR (X.suite a ((a, oe) :: pn)) (.builtin "isinstance") (rIsA X.K a cls d C) := by
  intro pins s σ H xs us Q I r h
  obtain ⟨D, b, rfl, rfl, hC, hd, e, q⟩ := h
  cases r with
  | cons rx rr =>
    cases rr with
    | cons rt rr =>
      cases rr
      cases rx
      cases rt
      obtain ⟨hget, _⟩ := I.pin (a, oe) (List.mem_append.mpr (.inl List.mem_cons_self))
      obtain ⟨vs, hv⟩ := hf
      have J : ∃ od, PySem.W.InstAt s.heap a oe D od := by
        rcases hd with rfl | ⟨dd, fs, rfl, ea⟩
        · obtain ⟨oc, od, oda, osl⟩ := oe
          obtain ⟨h1, h2⟩ := hz
          dsimp only at h1 h2 hv
          subst h1 h2 hv
          exact ⟨none, hget, rfl, rfl, trivial⟩
        · have hx : ObjOk X.prog X.w H s.heap dd (.xd fs) := I.hok dd _ ea
          obtain ⟨mA, hns, hr⟩ := hx
          obtain ⟨od, ho, hl⟩ := lookIn_ns hns
          exact ⟨some od, hget, hz.1, by unfold PySem.W.notCls; rw [hv] <;> rfl, by rw [hz.2]; exact ho⟩
      obtain ⟨od, J⟩ := J
      exact PySem.W.kia_one (kitx_excO hC) I.kIn J e (fun z => nomatch z) fun tk => ⟨.bl b, H, I.kept (t' := tk) fun _ _ z => z, rfl, q⟩
end DL

set_option Elab.async false
set_option linter.all false
set_option maxRecDepth 100000
set_option maxHeartbeats 4000000
namespace DL
open PySem L2 PySem.Spec PyProof.Rows
/-! ### try: .. except x as n: name = value if isinstance(n, L) else another -/
structure Cl where
  C : Addr
  i : Nat
  j : Nat
  v : List (Str × PD) → Option PD
def catchD : List Cl → Addr → List (Str × PD) → En → De → Mu → Prop
  | [], C, fs, E, ds, ms => E.ex C fs ds ms
  | c :: r, C, fs, E, ds, ms => if C = c.C then c.i < ds.length ∧ (match c.v fs with | some x => E.nx (((ds.set c.i none).set c.j (some (.p x))).set c.i none) ms | none => False) else catchD r C fs E ds ms
def wTry (known : List Addr) (cl : List Cl) (wb : WS) : WS := fun E ds ms => wb { E with ex := fun C fs ds' ms' => C ∈ known ∧ catchD cl C fs E ds' ms' } ds ms
/-- a clause's suite -/
def tsC (K : Frg) (L : Addr) (c : Cl) (a : Addr) (cls : Value) (d : Option Addr) : TS := fun D σ H => ∃ A G cs ms ds fs x Dc, cls = .ref Dc ∧ L2.ExcC K Dc ∧ PySem.W.kitOne K (.ref Dc) (.ref L) = some true ∧ Dc = c.C ∧
  St K A G H cs ms σ ds ∧ σ[c.i]? = some (some (.ref a)) ∧ ExAt K G H d fs ∧ c.v fs = some x ∧
  ∀ v G' H', St K A G' H' cs ms (σ.set c.j (some v)) (ds.set c.j (some (.p x))) → Ext cs G cs G' → D.nx (σ.set c.j (some v)) H'
inductive HdsD (X : Cx) (L : Addr) : List ExceptHandler → List Cl → Prop
  | nil : HdsD X L [] []
  | cons {x n : Str} {c : Cl} {b0 : Stmt} {suite : List Stmt} {np pos' : Pos} {hds : List ExceptHandler} {l : List Cl} (hc : Names X x (.ref c.C)) (hi : X.N[c.i]? = some n) (hln : X.env.kindOf n = some .local)
      (hsu : ∀ (a : Addr) (oe : Obj) (cls : Value) (d : Option Addr) (pn : List (Addr × Obj)), Zc cls d oe → (∃ vs, oe.data = .fields vs) → PSs (X.suite a ((a, oe) :: pn)) (b0 :: suite) (tsC X.K L c a cls d)) (r : HdsD X L hds l) :
      HdsD X L (.ExceptHandler (some (.Name x np)) (some n) (b0 :: suite) pos' :: hds) (c :: l)
def clA (K : Frg) (L : Addr) (l : List Cl) : HdL := l.map fun c => (.ref c.C, c.i, tsC K L c)
theorem HdsD.toA {X : Cx} {L : Addr} : ∀ {hds : List ExceptHandler} {l : List Cl}, HdsD X L hds l → HdsA X hds (clA X.K L l)
  | _, _, .nil => .nil
  | _, _, .cons hc hi hln hsu r => .cons hc hi hln hsu (HdsD.toA r)
section
variable {X : Cx} {Wx : WX} {L : Addr} {body : List Stmt} {h0 : ExceptHandler} {hds : List ExceptHandler} {l : List Cl} {pos : Pos} {wb : WS} {known : List Addr}
theorem s_catch {K : Frg} {A : Amb} {G : Hp} {cs : Cs} {D : Ends} {E : En} {C : Addr} {fs : List (Str × PD)} {dd : Option Addr} {σ' : L2.St} {ds' : De} {G' H' : Hp} {cs' : Cs} {ms' : Mu}
    (hk : L2.ExcC K C ∧ PySem.W.kitOne K (.ref C) (.ref L) = some true) (n : CoN K A cs G E.nx D.nx) (y : CoY K Wx A cs G E.ex) (s' : St K A G' H' cs' ms' σ' ds') (e' : Ext cs G cs' G') (ex : ExAt K G' H' dd fs) :
    ∀ l : List Cl, (∀ c ∈ l, PySem.W.exmOne K (.ref C) (.ref c.C) = some (decide (C = c.C))) → catchD l C fs E ds' ms' → wManyA K Wx D (clA K L l) (.ref C) dd σ' H'
  | [], _, h => y C fs dd σ' ds' G' H' cs' ms' s' e' ex h
  | c :: r, hx, h => by
    refine ⟨_, hx c (by simp), fun hb a ha => ?_, fun hb => ?_⟩
    · have hC : C = c.C := of_decide_eq_true hb
      unfold catchD at h
      rw [if_pos hC] at h
      obtain ⟨hl, h⟩ := h
      split at h
      · rename_i x ev
        have s1 : St K A G' H' cs' ms' (σ'.set c.i (some (.ref a))) (ds'.set c.i none) := s'.envs (s'.env.unset c.i)
        refine ⟨A, G', cs', ms', _, fs, x, C, rfl, hk.1, hk.2, hC, s1, List.getElem?_set_self (by rw [s'.env.1]; exact hl), ex, ev, fun v G2 H2 s2 e2 => ?_⟩
        exact n _ _ G2 H2 cs' ms' (s2.envs (s2.env.unset c.i)) (e'.trans e2) h
      · exact h.elim
    · have hC : ¬ C = c.C := of_decide_eq_false hb
      unfold catchD at h
      rw [if_neg hC] at h
      exact s_catch hk n y s' e' ex r (fun c' hc => hx c' (List.mem_cons_of_mem _ hc)) h
theorem ds_try (hs : X.stack = X.env :: X.outer) (hf : X.env.frame = some X.env.locals) (hN : X.N.Nodup) (tk : Takes X Wx) (known : List Addr)
    (hk : ∀ D ∈ known, L2.ExcC X.K D ∧ PySem.W.kitOne X.K (.ref D) (.ref L) = some true) (he : ∀ D ∈ known, ∀ c ∈ l, PySem.W.exmOne X.K (.ref D) (.ref c.C) = some (decide (D = c.C)))
    (hb : ∀ (W : WX) (pn : List (Addr × Obj)) (xe : Value → Shared → Prop), Takes (X.tr pn xe) W → PassesOwn (model X.prog X.w) X.A X.env xe → DSs (X.tr pn xe) W body wb)
    (hh : HdsD X L (h0 :: hds) l) : DS X Wx (.Try body (h0 :: hds) [] [] pos) (wTry known l wb) := by
  refine PS.imp (ps_try_manyA (tb := fun W => canS X.K W wb) hs hf hN tk hb hh.toA) fun D σ H h => ?_
  obtain ⟨A, G, cs, ms, ds, E, s, h, n, r, b, c, y⟩ := h
  refine ⟨A, G, cs, ms, ds, _, s, h, n, r, b, c, fun C fs dd σ' ds' G' H' cs' ms' s' e' ex h' => ?_⟩
  exact s_catch (hk C h'.1) n y s' e' ex l (he C h'.1) h'.2
end
end DL

set_option Elab.async false
set_option linter.all false
set_option maxRecDepth 100000
set_option maxHeartbeats 4000000
namespace DL
open PySem L2 PySem.Spec PyProof.Rows
section
variable {X : Cx} {L : Addr} {c : Cl} {a : Addr} {oe : Obj} {cls : Value} {d : Option Addr} {pn : List (Addr × Obj)} {n y Ln z z' f : Str} {p1 p2 p3 p4 p5 p6 p7 p8 p9 py : Pos} {k1 k2 k3 : Nat}
theorem su_str (hN : X.N.Nodup) (hz : Zc cls d oe) (hf : ∃ vs, oe.data = .fields vs) (hm : X.mg "isinstance" = none) (hL : X.mg Ln = some (.ref L)) (hv : ∀ fs, c.v fs = some (.str z)) (hi : X.N[c.i]? = some n := by rfl) (hj : X.N[c.j]? = some y := by rfl)
    (hn : X.env.scope.names.lookup n = some .local := by rfl) (hy : X.env.scope.names.lookup y = some .local := by rfl) (hg : Gl X "isinstance" := by rfl) (hgL : Gl X Ln := by rfl)
    (hd1 : (n == ("__debug__" : Str)) = false := by decide) (hd2 : (n == ("__classdict__" : Str)) = false := by decide) (hd3 : (Ln == ("__debug__" : Str)) = false := by decide)
    (hsw : swapsWith (.IfExp (.Call (.Name "isinstance" p1) [.Name n p2, .Name Ln p3] [] p4) (.Constant (.str z) k1 p5) (.Constant (.str z') k2 p6) p7) (some (.Name y py)) p8.line X.env = pure false := by rfl)
    (hs1 : starEach (Expr.Name n p2 :: [Expr.Name Ln p3]) X.env = (false, eval (Expr.Name n p2) X.env) :: starEach [Expr.Name Ln p3] X.env := by rfl) (hs2 : starEach (Expr.Name Ln p3 :: []) X.env = (false, eval (Expr.Name Ln p3) X.env) :: starEach [] X.env := by rfl)
    (hpl : (backTo p4 (starEach [Expr.Name Ln p3] X.env)).any (·.1) = false := by rfl) :
    PSs (X.suite a ((a, oe) :: pn)) [.Assign [.Name y py] (.IfExp (.Call (.Name "isinstance" p1) [.Name n p2, .Name Ln p3] [] p4) (.Constant (.str z) k1 p5) (.Constant (.str z') k2 p6) p7) p8] (tsC X.K L c a cls d) := by
  have e1 : PE (X.suite a ((a, oe) :: pn)) (.Name n p2) (tVar c.i) := pe_var hi (Or.inl hn) hd1 hd2
  have e2 : PE (X.suite a ((a, oe) :: pn)) (.Name Ln p3) (tC (.ref L)) := pe_glob (v := .ref L) hgL hL rfl hd3
  have e3 : PE (X.suite a ((a, oe) :: pn)) (.Call (.Name "isinstance" p1) [.Name n p2, .Name Ln p3] [] p4) _ := pe_callB (call_isA (C := L) hz hf) hg hm boot_isi (pa_cons e1 (pa_cons e2 pa_nil hs2) hs1) (by decide) (by decide) hs1 hpl
  refine PSs.imp (pss_one (ps_set hN hj (Or.inl hy) (pe_ifExp (pt_val e3 (by intro _; rfl)) pe_str pe_str) hsw (.inr hy))) fun D σ H h => ?_
  obtain ⟨A, G, cs, ms, ds, fs, x, Dc, rfl, hC, hk, hDc, s, hσ, ex, ev, q⟩ := h
  rw [hv] at ev
  cases ev
  have hd : d = none ∨ ∃ dd fs, d = some dd ∧ H dd = some (.xd fs) := by
    rcases ex with ⟨rfl, _⟩ | ⟨dd, fvs, rfl, h1, _⟩
    · exact .inl rfl
    · exact .inr ⟨dd, fvs, rfl, h1⟩
  refine ⟨.ref a, hσ, Dc, true, rfl, rfl, hC, hd, hk, true, rfl, ?_⟩
  exact q (.str z) G H (s.envs (s.env.set c.j (d := .p (.str z)) (.str z))) (Ext.refl _ _)
end
end DL

set_option Elab.async false
set_option linter.all false
set_option maxRecDepth 100000
set_option maxHeartbeats 4000000
namespace DL
open PySem L2 PySem.Spec PyProof.Rows
/-! ### sorted(list of plain data) -/
def PD.le (x y : PD) : Bool := PySem.W.dataLe false PD.py x y
def sortP (xs : List PD) : List PD := xs.mergeSort PD.le
structure SrtOk (xs : List PD) : Prop where
  ok : ∀ x ∈ xs, x.ok 20 = true
  al : PySem.W.AllAlike (xs.map PD.py)
  so : PySem.W.Sortable (xs.map PD.py)
  lb : xs.length ≤ big
def fSorted : FA := fun l m P => match l with | [x] => (match lsOf x m with | some xs => SrtOk xs ∧ P (.p (.lst (sortP xs))) m | none => False) | _ => False
def rSortD (K : Frg) : List V → Hp → VK → Prop := fun vs H Q => ∃ (a : Addr) (zs : List (V × PD)), vs = [V.ref a] ∧ SqL K H a (zs.map (·.1)) ∧ (∀ z ∈ zs, Dp K H z.1 z.2.py ∧ z.2.py.depth ≤ 20) ∧ PySem.W.AllAlike (zs.map fun z => z.2.py) ∧ PySem.W.Sortable (zs.map fun z => z.2.py) ∧
  ∀ p, H p = none → Q (.ref p) (upd H p (.lst ((zs.mergeSort (PySem.W.dataLe false fun z => z.2.py)).map (·.1))))
theorem each_of {R : Value → V × PD → Prop} : ∀ {zs : List (V × PD)} {us : List Value}, (∀ z ∈ zs, ∀ u, RelV z.1 u → R u z) → Vals (zs.map (·.1)) us → PySem.W.EachIs R us zs
  | [], us, _, h => by
    cases h
    exact .nil
  | z :: r, us, k, h => by
    cases h with
    | cons h1 h2 => exact .cons (k z (by simp) _ h1) (each_of (fun y hy => k y (List.mem_cons_of_mem _ hy)) h2)
theorem each_vals : ∀ {zs : List (V × PD)} {us : List Value}, PySem.W.EachIs (fun u z => RelV z.1 u) us zs → Vals (zs.map (·.1)) us
  | [], _, .nil => .nil
  | z :: r, _, .cons h t => .cons h (each_vals t)
section
variable {X : Cx} {K : Frg} {Wx : WX} {σ : L2.St} {H : Hp} {a b c e : Expr} {wa wb wc we : WE} {pos : Pos} {es : List Expr}
theorem cr_sortedD (hu : X.A.units + 64 < cLine) : CallR X (.builtin "sorted") (rSortD X.K) := by
  intro pins s σ H vs us Q I r h
  obtain ⟨a, zs, rfl, hs, hd, hal, hk, q⟩ := h
  obtain ⟨its, rv, hl, hz⟩ := I.list hs
  rw [Vals.ref1 r]
  have e : PySem.W.EachIs (fun u z => RelV z.1 u) its zs := each_of (fun _ _ _ h => h) rv
  have er : PySem.W.EachIs (fun v b => ∃ as, Reads s.heap v (b.2.py) as) its zs := each_of (fun z hm u hr => Dp.reads I _ _ _ (hd z hm).1 hr) rv
  refine PySem.W.sorted_data (enc := fun z : V × PD => z.2.py) (R := fun u z => RelV z.1 u) hl.isList e er hal hk (by rw [List.length_map] at hz; exact hz) (fun b hb => by have := (hd b hb).2; omega) fun out hlen heach => ?_
  obtain ⟨ep, he'⟩ := PyProof.Rows.sortedAll_at s.heap its out.toArray
  have hlen' : ((zs.mergeSort (PySem.W.dataLe false fun z => z.2.py)).map (·.1)).length ≤ sizeLine := by
    rw [List.length_map, List.length_mergeSort]
    rw [List.length_map] at hz
    exact hz
  exact ⟨.ref _, upd H (s.heap.objs.size + 1) (.lst ((zs.mergeSort (PySem.W.dataLe false fun z => z.2.py)).map (·.1))), I.laid (t' := s.toks) (fun _ _ => PyProof.Rows.sortedAll_old) (Nat.le_succ _) ⟨hlen', out, ep, each_vals heach, he'⟩, rfl, q _ (I.hok.fresh (Nat.le_succ _))⟩
theorem repA_zip {G : Hp} : ∀ {vs : List V} {xs : List PD}, RepA K G vs xs → (vs.zip xs).map (·.1) = vs ∧ (vs.zip xs).map (·.2) = xs ∧ ∀ z ∈ vs.zip xs, Rep K G z.1 z.2
  | _, _, .nil => ⟨rfl, rfl, fun _ h => by cases h⟩
  | _, _, .cons h t => by
    obtain ⟨h1, h2, h3⟩ := repA_zip t
    refine ⟨by simp [h1], by simp [h2], fun z hz => ?_⟩
    rcases List.mem_cons.mp hz with e | e
    · subst e; exact h
    · exact h3 z e
theorem repA_of {G : Hp} : ∀ {zs : List (V × PD)}, (∀ z ∈ zs, Rep K G z.1 z.2) → RepA K G (zs.map (·.1)) (zs.map (·.2))
  | [], _ => .nil
  | z :: r, h => .cons (h z (by simp)) (repA_of fun y hy => h y (List.mem_cons_of_mem _ hy))
theorem so_sorted : SCl K (rSortD K) fSorted := by
  intro A G H cs ms σ ds xs dx P Q s r h q
  unfold fSorted at h
  split at h
  · rename_i x
    split at h
    · rename_i ys e
      cases r with
      | @cons v _ _ _ r1 rr =>
        cases rr
        obtain ⟨p, vs, rfl, h1, h2⟩ := ls_of s r1 e
        obtain ⟨ok, h⟩ := h
        obtain ⟨z1, z2, z3⟩ := repA_zip h2
        have e2 : (vs.zip ys).map (fun z => z.2.py) = ys.map PD.py := by
          conv => rhs; rw [← z2]
          rw [List.map_map]
          rfl
        refine ⟨p, vs.zip ys, rfl, by rw [z1]; exact SqL.of h1, fun z hz => ?_, by rw [e2]; exact ok.al, by rw [e2]; exact ok.so, fun q' hq => ?_⟩
        · have hm : z.2 ∈ ys := by rw [← z2]; exact List.mem_map.mpr ⟨z, hz, rfl⟩
          exact ⟨((z3 z hz).mono s.k.gh).dp 20 (ok.ok _ hm), (ok_lay 20 _ (ok.ok _ hm)).2⟩
        · obtain ⟨s2, sg⟩ := s.pers hq (.lst (((vs.zip ys).mergeSort (PySem.W.dataLe false fun z => z.2.py)).map (·.1)))
          refine q _ (.p (.lst (sortP ys))) _ _ cs ms s2 ⟨List.prefix_refl _, sg⟩ (Rep.lst upd_same ?_) h
          have e3 : sortP ys = ((vs.zip ys).mergeSort (PySem.W.dataLe false fun z => z.2.py)).map (·.2) := by
            unfold sortP
            conv => lhs; rw [← z2]
            exact (List.map_mergeSort (f := fun z : V × PD => z.2) (s := PD.le) (r := PySem.W.dataLe false fun z : V × PD => z.2.py) fun _ _ _ _ => rfl).symm
          rw [e3]
          refine RepA.mono (repA_of fun z hz => z3 z ?_) sg
          exact (List.mergeSort_perm _ _).mem_iff.mp hz
    · exact h.elim
  · exact h.elim
theorem de_sorted {wr : WA} {p : Pos} (hu : X.A.units + 64 < cLine) (hm : X.mg "sorted" = none) (ha : DA X Wx [e] wr) (hg : Gl X "sorted" := by rfl) (he : starEach (e :: []) X.env = (false, eval e X.env) :: starEach [] X.env := by rfl) : DE X Wx (.Call (.Name "sorted" p) [e] [] pos) (wCB fSorted wr) :=
  de_cb (cr_sortedD hu) so_sorted hm (by rfl) ha hg (by decide) (by decide) he (by rfl)
/-! ### a comprehension of two walks -/
def Lc2I (ds : De) (vs vs1 : List Nat) (xs : List PD) (stab : Mu → Prop) (wg : WG) (wt : WT) (wi1 : WI) (wg1 : WG) (wt1 : WT) (we : WE) (m : Mu) (F : List PD → Mu → Prop) : Prop :=
  ∃ I : Nat → List PD → Mu → Prop, I 0 [] m ∧ (∀ i acc m', I i acc m' → stab m') ∧
    (∀ i x acc m', xs[i]? = some x → I i acc m' → wg (.p x) (wipeD ds vs) m' (fun ds2 m2 => wt ds2 m2 (fun k m3 => if k = true then wi1 ds2 m3 (fun ys stab1 m4 =>
      ∃ J : Nat → List PD → Mu → Prop, J 0 acc m4 ∧ (∀ j acc m', J j acc m' → stab1 m') ∧
        (∀ j y acc m', ys[j]? = some y → J j acc m' → wg1 (.p y) (wipeD ds2 vs1) m' (fun ds3 m5 => wt1 ds3 m5 (fun k m6 => if k = true then we ds3 m6 (fun z m7 => match z with | .p z => acc.length < big ∧ J (j + 1) (acc ++ [z]) m7 | .c _ => False) noX else J (j + 1) acc m6) noX)) ∧
        (∀ acc m', J ys.length acc m' → I (i + 1) acc m')) noX else I (i + 1) acc m3) noX)) ∧
    (∀ acc m', I xs.length acc m' → F acc m')
def wLc2 (vs vs1 : List Nat) (wi : WI) (wg : WG) (wt : WT) (wi1 : WI) (wg1 : WG) (wt1 : WT) (we : WE) : WE := fun ds ms P Xp => wi ds ms (fun xs stab m => Lc2I ds vs vs1 xs stab wg wt wi1 wg1 wt1 we m (fun acc m' => P (.p (.lst acc)) m')) Xp
theorem s_lc2 {wi wi1 : WI} {wg wg1 : WG} {wt wt1 : WT} {vs vs1 : List Nat} {Q : VK} (h : canE K Wx (wLc2 vs vs1 wi wg wt wi1 wg1 wt1 we) σ H Q) : tLc2 (canI K Wx wi) (canG K vs wg) (canT K Wx wt) (canI K Wx wi1) (canG K vs1 wg1) (canT K Wx wt1) (canE K Wx we) vs vs1 σ H Q := by
  obtain ⟨A, G, cs, ms, ds, P, Xp, s, h, q, x⟩ := h
  refine ⟨A, G, cs, ms, ds, _, Xp, s, h, fun J xs stab G1 H1 cs1 ms1 s1 e1 ok h1 => ?_, x⟩
  intro D hD
  obtain ⟨I, i0, ist, istep, iend⟩ := h1
  have hf1 : D ∉ foot cs1 := fun z => s1.k.hs D z hD
  have hG1 : G1 D = none := s1.k.gh.free hD
  -- the list stands, nothing of it is followed
  let Pv : Hp → (List PD → Mu → Prop) → Prop := fun H I => ∃ G' cs' ms' acc vacc, St K (now cs1 G1 H1) G' H cs' ms' σ ds ∧ Ext cs1 G1 cs' G' ∧ I acc ms' ∧ H D = some (.lst vacc) ∧ RepA K G' vacc acc ∧ D ∉ foot cs' ∧ G' D = none
  have back : ∀ {G' H' : Hp} {cs' : Cs} {ms' : Mu} {acc : List PD} {vacc : List V}, St K (now cs1 G1 H1) G' H' cs' ms' σ ds → H' D = some (.lst vacc) → D ∉ foot cs' → G' D = none →
      ∀ {G5 H5 : Hp} {cs5 : Cs} {ms5 : Mu} {σ5 : L2.St} {ds5 : De}, St K (now cs' G' H') G5 H5 cs5 ms5 σ5 ds5 → Ext cs' G' cs5 G5 → St K (now cs1 G1 H1) G5 H5 cs5 ms5 σ ds ∧ H5 D = some (.lst vacc) ∧ G5 D = none ∧ D ∉ foot cs5 := by
    intro G' H' cs' ms' acc vacc s' hDv hfn hGn G5 H5 cs5 ms5 σ5 ds5 s5 e5
    have hD' : H' D ≠ none := by rw [hDv]; exact fun z => nomatch z
    refine ⟨(s'.then_ s5).envs (s'.env.mono e5.pre e5.same), s5.hh D _ hfn hDv, (s5.out D hGn hD').1, fun z => ?_⟩
    rcases s5.own D z with q | q
    · exact hD' q
    · exact hfn q
  refine ⟨fun i n H => i ≤ xs.length ∧ n = xs.length - i ∧ Pv H (I i), ⟨_, Nat.zero_le _, rfl, G1, cs1, ms1, [], [], s1.here.hide hD _, Ext.refl _ _, i0, upd_same, .nil, hf1, hG1⟩, ?_⟩
  rintro i n H ⟨hi, rfl, G', cs', ms', acc, vacc, s', e', k, hDv, hra, hfn, hGn⟩
  by_cases hlt : i < xs.length
  · refine .inr ⟨ok.goes _ i G' H cs' ms' σ ds hlt s' e' (ist _ _ _ k), fun H' => Pv H' (I (i + 1)), fun H' h' => ⟨xs.length - (i + 1), by omega, by omega, rfl, h'⟩, fun x0 H2 yl => ?_⟩
    obtain ⟨G2, d, hd, s2, sg, r2⟩ := ok.yields (now cs' G' H) i G' H cs' ms' σ ds x0 H2 hlt s'.here e' (ist _ _ _ k) yl
    have e2 : Ext cs' G' cs' G2 := ⟨List.prefix_refl _, sg⟩
    refine ⟨now cs' G' H, G2, cs', ms', wipeD ds vs, .p d, _, s2.envs (s2.env.wipe vs), r2, istep i d acc ms' hd k, fun σ3 ds3 G3 H3 cs3 ms3 s3 e3 hw h3 => ⟨hw.trans (wipe_wipe fun _ z => z), ?_⟩⟩
    refine ⟨_, G3, cs3, ms3, ds3, _, noX, s3, h3, fun b G4 H4 cs4 ms4 s4 e4 h4 => ?_, CoX.no⟩
    cases b with
    | false =>
      have ee := (e2.trans e3).trans e4
      obtain ⟨t1, t2, t3, t4⟩ := back (acc := acc) s' hDv hfn hGn s4 ee
      exact ⟨G4, cs4, ms4, acc, vacc, t1, e'.trans ee, h4, t2, hra.mono ee.same, t4, t3⟩
    | true =>
      refine ⟨_, G4, cs4, ms4, ds3, _, noX, s4, h4, fun J1 ys stab1 G5 H5 cs5 ms5 s5 e5 ok1 h5 => ?_, CoX.no⟩
      obtain ⟨J, j0, jst, jstep, jend⟩ := h5
      have ee := ((e2.trans e3).trans e4).trans e5
      obtain ⟨t1, t2, t3, t4⟩ := back (acc := acc) s' hDv hfn hGn s5 ee
      have e5' : Ext cs1 G1 cs5 G5 := e'.trans ee
      -- the inner walk
      let Pj : Hp → (List PD → Mu → Prop) → Prop := fun H I => ∃ G' cs' ms' acc vacc, St K (now cs1 G1 H1) G' H cs' ms' σ ds ∧ St K (now cs1 G1 H1) G' H cs' ms' σ3 ds3 ∧ Ext cs5 G5 cs' G' ∧ I acc ms' ∧ H D = some (.lst vacc) ∧ RepA K G' vacc acc ∧ D ∉ foot cs' ∧ G' D = none
      refine ⟨fun j n H => j ≤ ys.length ∧ n = ys.length - j ∧ Pj H (J j), ⟨_, Nat.zero_le _, rfl, G5, cs5, ms5, acc, vacc, t1, t1.envs s5.env, Ext.refl _ _, j0, t2, hra.mono ee.same, t4, t3⟩, ?_⟩
      rintro j n H6 ⟨hj, rfl, G6, cs6, ms6, acc6, vacc6, s6, s6', e6, k6, hDv6, hra6, hfn6, hGn6⟩
      by_cases hlj : j < ys.length
      · refine .inr ⟨ok1.goes _ j G6 H6 cs6 ms6 σ3 ds3 hlj s6' e6 (jst _ _ _ k6), fun H' => Pj H' (J (j + 1)), fun H' h' => ⟨ys.length - (j + 1), by omega, by omega, rfl, h'⟩, fun y0 H7 yl1 => ?_⟩
        obtain ⟨G7, dy, hdy, s7, sg7, r7⟩ := ok1.yields (now cs6 G6 H6) j G6 H6 cs6 ms6 σ3 ds3 y0 H7 hlj s6'.here e6 (jst _ _ _ k6) yl1
        have e7 : Ext cs6 G6 cs6 G7 := ⟨List.prefix_refl _, sg7⟩
        refine ⟨now cs6 G6 H6, G7, cs6, ms6, wipeD ds3 vs1, .p dy, _, s7.envs (s7.env.wipe vs1), r7, jstep j dy acc6 ms6 hdy k6, fun σ8 ds8 G8 H8 cs8 ms8 s8 e8 hw8 h8 => ⟨hw8.trans (wipe_wipe fun _ z => z), ?_⟩⟩
        refine ⟨_, G8, cs8, ms8, ds8, _, noX, s8, h8, fun b G9 H9 cs9 ms9 s9 e9 h9 => ?_, CoX.no⟩
        cases b with
        | false =>
          have ee6 := (e7.trans e8).trans e9
          obtain ⟨u1, u2, u3, u4⟩ := back (acc := acc6) s6 hDv6 hfn6 hGn6 s9 ee6
          exact ⟨G9, cs9, ms9, acc6, vacc6, u1, u1.envs (s6'.env.mono ee6.pre ee6.same), e6.trans ee6, h9, u2, hra6.mono ee6.same, u4, u3⟩
        | true =>
          refine ⟨_, G9, cs9, ms9, ds8, _, noX, s9, h9, fun z dz G10 H10 cs10 ms10 s10 e10 r10 h10 => ?_, CoX.no⟩
          try dsimp only at h10
          split at h10
          · rename_i zz
            have ee6 := ((e7.trans e8).trans e9).trans e10
            obtain ⟨u1, u2, u3, u4⟩ := back (acc := acc6) s6 hDv6 hfn6 hGn6 s10 ee6
            have rr := hra6.mono ee6.same
            have v1 := u1.hid hD u3 u4 (.lst (vacc6 ++ [z]))
            exact ⟨vacc6, u2, by rw [rr.length]; exact Nat.lt_of_lt_of_le h10.1 (big_ok (Nat.le_refl _)), G10, cs10, ms10, acc6 ++ [zz], vacc6 ++ [z], v1, v1.envs (s6'.env.mono ee6.pre ee6.same), e6.trans ee6, h10.2, upd_same, rr.append (.cons r10 .nil), u4, u3⟩
          · exact h10.elim
      · have hje : j = ys.length := by omega
        subst hje
        exact .inl ⟨ok1.stops _ G6 H6 cs6 ms6 σ3 ds3 s6' e6 (jst _ _ _ k6), G6, cs6, ms6, acc6, vacc6, s6, e5'.trans e6, jend _ _ k6, hDv6, hra6, hfn6, hGn6⟩
  · have hie : i = xs.length := by omega
    subst hie
    refine .inl ⟨ok.stops _ G' H cs' ms' σ ds s' e' (ist _ _ _ k), ?_⟩
    obtain ⟨s2, sg⟩ := s'.keep (o := .lst vacc) hD hGn hfn hDv
    exact q _ (.p (.lst acc)) _ _ cs' ms' (s1.then_ s2) ((e1.trans e').trans ⟨List.prefix_refl _, sg⟩) (Rep.lst upd_same (hra.mono sg)) (iend _ _ k)
variable {elt tg iter tg1 iter1 : Expr} {ifs ifs1 : List Expr} {scope : Scope} {own : List (Str × Nat)} {wi wi1 : WI} {wg wg1 : WG} {wt wt1 : WT}
theorem de_lc2 (own : List (Str × Nat)) (vs1 : List Nat) (hc : X.calm = true) (hN : X.N.Nodup) (hi : DI X Wx tg iter wi) (ok : BlkOk X.N X.env.scope scope own)
    (hg : ∀ (s : Shared) (H : Hp) (C : Addr) (cl : List (Str × Addr)) (fp : List Addr), DG (BX X scope s H C cl fp) (own.map (·.2)) tg wg) (ht : ∀ (s : Shared) (H : Hp) (C : Addr) (cl : List (Str × Addr)) (fp : List Addr), PTs (BX X scope s H C cl fp) ifs (canT X.K Wx wt))
    (hi1 : ∀ (s : Shared) (H : Hp) (C : Addr) (cl : List (Str × Addr)) (fp : List Addr), DI (BX X scope s H C cl fp) Wx tg1 iter1 wi1)
    (hg1 : ∀ (s : Shared) (H : Hp) (C : Addr) (cl : List (Str × Addr)) (fp : List Addr), DG (BX X scope s H C cl fp) vs1 tg1 wg1) (ht1 : ∀ (s : Shared) (H : Hp) (C : Addr) (cl : List (Str × Addr)) (fp : List Addr), PTs (BX X scope s H C cl fp) ifs1 (canT X.K Wx wt1))
    (he : ∀ (s : Shared) (H : Hp) (C : Addr) (cl : List (Str × Addr)) (fp : List Addr), DE (BX X scope s H C cl fp) Wx elt we) (hv : ∀ i ∈ vs1, i ∈ own.map (·.2) := by decide) (hs : ∀ x, foldedSetIterable iter X.env x = pure x := by intro _; rfl) (hs1 : ∀ env x, foldedSetIterable iter1 env x = pure x := by intro _ _; rfl) :
    DE X Wx (.ListComp elt [⟨tg, iter, ifs, 0⟩, ⟨tg1, iter1, ifs1, 0⟩] scope pos) (wLc2 (own.map (·.2)) vs1 wi wg wt wi1 wg1 wt1 we) := PE.imp (pe_lc2 hc hN hi ok hv hg ht hi1 hg1 ht1 he hs hs1) fun _ _ _ => s_lc2
theorem ds_setLc2 {i : Nat} {y : Str} {py spos : Pos} (own : List (Str × Nat)) (vs1 : List Nat) (hc : X.calm = true) (hN : X.N.Nodup) (hi : DI X Wx tg iter wi) (ok : BlkOk X.N X.env.scope scope own)
    (hg : ∀ (s : Shared) (H : Hp) (C : Addr) (cl : List (Str × Addr)) (fp : List Addr), DG (BX X scope s H C cl fp) (own.map (·.2)) tg wg) (ht : ∀ (s : Shared) (H : Hp) (C : Addr) (cl : List (Str × Addr)) (fp : List Addr), PTs (BX X scope s H C cl fp) ifs (canT X.K Wx wt))
    (hi1 : ∀ (s : Shared) (H : Hp) (C : Addr) (cl : List (Str × Addr)) (fp : List Addr), DI (BX X scope s H C cl fp) Wx tg1 iter1 wi1)
    (hg1 : ∀ (s : Shared) (H : Hp) (C : Addr) (cl : List (Str × Addr)) (fp : List Addr), DG (BX X scope s H C cl fp) vs1 tg1 wg1) (ht1 : ∀ (s : Shared) (H : Hp) (C : Addr) (cl : List (Str × Addr)) (fp : List Addr), PTs (BX X scope s H C cl fp) ifs1 (canT X.K Wx wt1))
    (he : ∀ (s : Shared) (H : Hp) (C : Addr) (cl : List (Str × Addr)) (fp : List Addr), DE (BX X scope s H C cl fp) Wx elt we) (hv : ∀ i ∈ vs1, i ∈ own.map (·.2) := by decide) (hy : X.N[i]? = some y := by rfl) (hyl : X.env.scope.names.lookup y = some .local := by rfl)
    (hsw : swapsWith (.ListComp elt [⟨tg, iter, ifs, 0⟩, ⟨tg1, iter1, ifs1, 0⟩] scope pos) (some (.Name y py)) spos.line X.env = pure true := by exact sw_true rfl rfl rfl (by decide +kernel)) (hs : ∀ x, foldedSetIterable iter X.env x = pure x := by intro _; rfl) (hs1 : ∀ env x, foldedSetIterable iter1 env x = pure x := by intro _ _; rfl) :
    DS X Wx (.Assign [.Name y py] (.ListComp elt [⟨tg, iter, ifs, 0⟩, ⟨tg1, iter1, ifs1, 0⟩] scope pos) spos) (wSet i (wLc2 (own.map (·.2)) vs1 wi wg wt wi1 wg1 wt1 we)) := PS.imp (ps_setLc2 hc hN hy hyl hsw hi ok hv hg ht hi1 hg1 ht1 he hs hs1) fun D σ H h => by
  obtain ⟨A, G, cs, ms, ds, E, s, h, n, r, b, c, yy⟩ := h
  exact s_lc2 ⟨A, G, cs, ms, ds, _, _, s, h, fun v d G' H' cs' ms' s' e' r' h' => n _ _ G' H' cs' ms' (s'.envs (s'.env.set i r')) e' h', yy.at_⟩
end
end DL

set_option Elab.async false
set_option linter.all false
set_option maxRecDepth 100000
set_option maxHeartbeats 4000000
namespace DL
open PySem L2 PySem.Spec PyProof.Rows
/-- the ends as unknowns (else each step of the proof copies them) -/
theorem with_En {w : WS} {E0 : En} {ds : De} {ms : Mu} (h : ∀ E : En, (∀ d m, E0.nx d m → E.nx d m) → (∀ d m, E0.rt d m → E.rt d m) → (∀ d m, E0.bk d m → E.bk d m) → (∀ d m, E0.ct d m → E.ct d m) → (∀ C fs d m, E0.ex C fs d m → E.ex C fs d m) → w E ds ms) : w E0 ds ms :=
  h E0 (fun _ _ h => h) (fun _ _ h => h) (fun _ _ h => h) (fun _ _ h => h) fun _ _ _ _ h => h
/-! ### a list taken apart -/
def lstOf (d : D) (n : Nat) : Option (List PD) := match d with | .p (.lst xs) => if xs.length = n then some xs else none | _ => none
def wgLst (n : Nat) (gs : WGs) : WG := fun d ds ms N => match lstOf d n with | some xs => gs (xs.map D.p) ds ms N | none => False
theorem lstOf_some {d : D} {n : Nat} {xs : List PD} (h : lstOf d n = some xs) : d = .p (.lst xs) ∧ xs.length = n := by
  unfold lstOf at h
  split at h
  · split at h
    · cases h
      exact ⟨rfl, by assumption⟩
    · cases h
  · cases h
section
variable {X : Cx} {K : Frg} {Wx : WX} {σ : L2.St} {H : Hp} {es : List Expr} {pos : Pos}
theorem dg_lst {vs : List Nat} {gs : WGs} {n k : Nat} (hc : X.calm = true) (h : DGs X vs es gs) (hn : (assignEach es X.env).length = n := by rfl) (hst : (assignEach es X.env).findIdx? (·.1) = none := by rfl) : DG X vs (.Tuple es k pos) (wgLst n gs) := PG.imp (pg_unl hc h hn hst) fun v σ H Q h => by
  obtain ⟨A, G, cs, ms, ds, d, N, s, r, h, q⟩ := h
  unfold wgLst at h
  split at h
  · rename_i xs e
    obtain ⟨rfl, hl⟩ := lstOf_some e
    have z : Rep X.K G v (.lst xs) := r
    cases z with
    | @lst a vs' _ a1 a2 => exact ⟨a, vs', rfl, SqL.of (s.k.gh _ _ a1), by rw [a2.length]; exact hl, A, G, cs, ms, ds, _, _, s, RepDs.ofA a2, h, q⟩
  · exact h.elim
end
end DL

set_option Elab.async false
set_option linter.all false
set_option maxRecDepth 100000
set_option maxHeartbeats 4000000
namespace DL
open PySem L2 PySem.Spec PyProof.Rows
/-! ### lists of cells -/
def fIxC : F2 := fun x y m P => match x, y with
  | .c n, .p (.int i) => (match m[n]? with | some (.lstC ns) => (match L2.atI ns i with | some k => P (.c k) m | none => False) | _ => False)
  | _, _ => False
/-- these addresses are these cells -/
def RefsAt (i : List Addr) (as : List Addr) (ns : List Nat) : Prop := as.length = ns.length ∧ ∀ (j : Nat) n, ns[j]? = some n → ∃ a, as[j]? = some a ∧ i[n]? = some a
theorem RefsAt.mono {i i' : List Addr} {as : List Addr} {ns : List Nat} (h : RefsAt i as ns) (p : i <+: i') : RefsAt i' as ns := ⟨h.1, fun j n e => let ⟨a, e1, e2⟩ := h.2 j n e; ⟨a, e1, pre_get p e2⟩⟩
theorem RefsAt.snoc {i : List Addr} {as : List Addr} {ns : List Nat} {a : Addr} {n : Nat} (h : RefsAt i as ns) (e : i[n]? = some a) : RefsAt i (as ++ [a]) (ns ++ [n]) := by
  refine ⟨by rw [List.length_append, List.length_append, h.1]; rfl, fun j m q => ?_⟩
  by_cases hj : j < ns.length
  · rw [List.getElem?_append_left hj] at q
    obtain ⟨b, e1, e2⟩ := h.2 j m q
    exact ⟨b, by rw [List.getElem?_append_left (by rw [h.1]; exact hj)]; exact e1, e2⟩
  · have hj' : j = ns.length := by
      have := (List.getElem?_eq_some_iff.mp q).1
      rw [List.length_append, List.length_singleton] at this
      omega
    subst hj'
    rw [List.getElem?_append_right (Nat.le_refl _)] at q
    simp at q
    subst q
    refine ⟨a, ?_, e⟩
    rw [List.getElem?_append_right (by rw [h.1]; exact Nat.le_refl _), h.1]
    simp
section
variable {X : Cx} {K : Frg} {Wx : WX} {σ : L2.St} {H : Hp} {a b c e : Expr} {wa wb wc we : WE} {pos : Pos} {es : List Expr}
theorem atI_rel {α β : Type} {R : α → β → Prop} {xs : List α} {ys : List β} (hl : xs.length = ys.length) (h : ∀ (j : Nat) x, xs[j]? = some x → ∃ y, ys[j]? = some y ∧ R x y) {i : Int} {x : α} (e : L2.atI xs i = some x) : ∃ y, L2.atI ys i = some y ∧ R x y := by
  unfold L2.atI at e ⊢
  rw [← hl]
  cases q : L2.ixN xs.length i with
  | none => rw [q] at e; cases e
  | some j =>
    rw [q] at e
    exact h j x e
theorem so_ixC : SOp K (fun x y H Q => rIxL K x y H Q ∨ rIxT K x y H Q) fIxC := by
  intro A G H cs ms σ ds x y dx dy P Q s h1 h2 h q
  unfold fIxC at h
  split at h
  · rename_i n i
    have z : Rep K G y (.int i) := h2
    cases z
    split at h
    · rename_i ns en
      split at h
      · rename_i k ek
        obtain ⟨p, hp, rfl⟩ := h1
        obtain ⟨fp, hc⟩ := io_at hp
        obtain ⟨rfl, as, l1, l2, l3⟩ := s.k.cell n p fp _ hc en
        obtain ⟨ad, e1, e2⟩ := atI_rel (R := fun k ad => (io cs)[k]? = some ad) l2.symm l3 ek
        have e3 : L2.atI (as.map V.ref) i = some (.ref ad) := by
          unfold L2.atI at e1 ⊢
          rw [List.length_map]
          cases q : L2.ixN as.length i with
          | none => rw [q] at e1; cases e1
          | some j =>
            rw [q] at e1
            have e1 : as[j]? = some ad := e1
            show (as.map V.ref)[j]? = _
            rw [List.getElem?_map, e1]
            rfl
        exact .inl ⟨p, as.map V.ref, i, .ref ad, rfl, rfl, SqL.of l1, e3, q (.ref ad) (.c k) G H cs ms s (Ext.refl _ _) ⟨ad, e2, rfl⟩ h⟩
      · exact h.elim
    · exact h.elim
  · exact h.elim
theorem de_ixC (ha : DE X Wx a wa) (hb : DE X Wx b wb) (hs : PlainIx b := by exact fun _ _ => rfl) : DE X Wx (.Subscript a b pos) (wBin fIxC wa wb) := PE.imp (pe_ix (IxR.or ix_list ix_tup) ha hb hs) fun _ _ _ => s_bin so_ixC
/-! a comprehension of cells -/
def LcK (ds : De) (vs : List Nat) (xs : List PD) (stab : Mu → Prop) (wg : WG) (wt : WT) (we : WE) (m : Mu) (F : List Nat → Mu → Prop) : Prop :=
  xs.length ≤ big ∧ ∃ I : Nat → List Nat → Mu → Prop, I 0 [] m ∧ (∀ i acc m', I i acc m' → stab m') ∧
    (∀ i x acc m', xs[i]? = some x → I i acc m' → wg (.p x) (wipeD ds vs) m' (fun ds2 m2 => wt ds2 m2 (fun k m3 => if k = true then we ds2 m3 (fun y m4 => match y with | .c z => I (i + 1) (acc ++ [z]) m4 | .p _ => False) noX else I (i + 1) acc m3) noX)) ∧
    (∀ acc m', I xs.length acc m' → F acc m')
def wLcK (vs : List Nat) (wi : WI) (wg : WG) (wt : WT) (we : WE) : WE := fun ds ms P Xp => wi ds ms (fun xs stab m => LcK ds vs xs stab wg wt we m (fun acc m' => P (.c m'.length) (m' ++ [.lstC acc]))) Xp
theorem s_lcK {wi : WI} {wg : WG} {wt : WT} {vs : List Nat} {Q : VK} (h : canE K Wx (wLcK vs wi wg wt we) σ H Q) : tLc (canI K Wx wi) (canG K vs wg) (canT K Wx wt) (canE K Wx we) vs σ H Q := by
  obtain ⟨A, G, cs, ms, ds, P, Xp, s, h, q, x⟩ := h
  refine ⟨A, G, cs, ms, ds, _, Xp, s, h, fun J xs stab G1 H1 cs1 ms1 s1 e1 ok h1 => ?_, x⟩
  intro D hD
  obtain ⟨hbig, I, i0, ist, istep, iend⟩ := h1
  have hf1 : D ∉ foot cs1 := fun z => s1.k.hs D z hD
  have hG1 : G1 D = none := s1.k.gh.free hD
  refine lc_it (walkOf (now cs1 G1 H1) ok) (fun i H => ∃ G' cs' ms' acc as, St K (now cs1 G1 H1) G' H cs' ms' σ ds ∧ Ext cs1 G1 cs' G' ∧ I i acc ms' ∧ H D = some (.lst (as.map V.ref)) ∧ RefsAt (io cs') as acc ∧ acc.length ≤ i ∧ D ∉ foot cs' ∧ G' D = none)
    ⟨G1, cs1, ms1, [], [], s1.here.hide hD _, Ext.refl _ _, i0, upd_same, ⟨rfl, fun _ _ e => by simp at e⟩, Nat.le_refl _, hf1, hG1⟩ (fun i H' _ ⟨G', cs', ms', acc, as, s', e', k, _⟩ => ⟨G', cs', ms', σ, ds, s', e', ist _ _ _ k⟩) ?_ ?_
  · rintro i x H' H2 hi ⟨G', cs', ms', acc, as, s', e', k, hDv, hra, hlen, hfn, hGn⟩ yl
    obtain ⟨G2, d, hd, s2, sg, r2⟩ := ok.yields (now cs' G' H') i G' H' cs' ms' σ ds x H2 hi s'.here e' (ist _ _ _ k) yl
    have e2 : Ext cs' G' cs' G2 := ⟨List.prefix_refl _, sg⟩
    have at_ : ∀ {G5 H5 : Hp} {cs5 : Cs} {ms5 : Mu} {σ5 : L2.St} {ds5 : De}, St K (now cs' G' H') G5 H5 cs5 ms5 σ5 ds5 → Ext cs' G' cs5 G5 → St K (now cs1 G1 H1) G5 H5 cs5 ms5 σ ds ∧ H5 D = some (.lst (as.map V.ref)) ∧ G5 D = none ∧ D ∉ foot cs5 := by
      intro G5 H5 cs5 ms5 σ5 ds5 s5 e5
      have hD' : H' D ≠ none := by rw [hDv]; exact fun z => nomatch z
      refine ⟨(s'.then_ s5).envs (s'.env.mono e5.pre e5.same), s5.hh D _ hfn hDv, (s5.out D hGn hD').1, fun z => ?_⟩
      rcases s5.own D z with q | q
      · exact hD' q
      · exact hfn q
    refine ⟨now cs' G' H', G2, cs', ms', wipeD ds vs, .p d, _, s2.envs (s2.env.wipe vs), r2, istep i d acc ms' hd k, fun σ3 ds3 G3 H3 cs3 ms3 s3 e3 hw h3 => ⟨hw.trans (wipe_wipe fun _ z => z), ?_⟩⟩
    refine ⟨_, G3, cs3, ms3, ds3, _, noX, s3, h3, fun b G4 H4 cs4 ms4 s4 e4 h4 => ?_, CoX.no⟩
    cases b with
    | true =>
      refine ⟨_, G4, cs4, ms4, ds3, _, noX, s4, h4, fun y dy G5 H5 cs5 ms5 s5 e5 r5 h5 => ?_, CoX.no⟩
      try dsimp only at h5
      split at h5
      · rename_i z
        have ee := ((e2.trans e3).trans e4).trans e5
        obtain ⟨t1, t2, t3, t4⟩ := at_ s5 ee
        have rr := hra.mono ee.pre
        obtain ⟨ad, hz, rfl⟩ := r5
        refine ⟨as.map V.ref, t2, by rw [List.length_map, rr.1]; exact Nat.lt_of_le_of_lt hlen (Nat.lt_of_lt_of_le hi (big_ok hbig)), G5, cs5, ms5, acc ++ [z], as ++ [ad], t1.hid hD t3 t4 _, e'.trans ee, h5, by rw [upd_same, List.map_append]; rfl, rr.snoc hz, ?_, t4, t3⟩
        rw [List.length_append, List.length_singleton]
        exact Nat.succ_le_succ hlen
      · exact h5.elim
    | false =>
      have ee := (e2.trans e3).trans e4
      obtain ⟨t1, t2, t3, t4⟩ := at_ s4 ee
      exact ⟨G4, cs4, ms4, acc, as, t1, e'.trans ee, h4, t2, hra.mono ee.pre, Nat.le_succ_of_le hlen, t4, t3⟩
  · rintro H' ⟨G', cs', ms', acc, as, s', e', k, hDv, hra, hlen, hfn, hGn⟩
    have s2 := s'.adopt hD hGn hfn hDv (m := .lstC acc) ⟨rfl, as, hDv, hra.1, fun j n e => let ⟨b, e1, e2⟩ := hra.2 j n e; ⟨b, e1, pre_get (io_app _ _) e2⟩⟩
    refine q _ (.c ms'.length) _ _ _ _ (s1.then_ s2) ((e1.trans e').trans ⟨io_app _ _, Same.refl _⟩) ⟨D, ?_, rfl⟩ (iend _ _ k)
    rw [← s'.k.len]
    unfold io
    rw [List.map_append, List.getElem?_append_right (by rw [List.length_map]; exact Nat.le_refl _)]
    simp
variable {elt tg iter : Expr} {ifs : List Expr} {scope : Scope} {own : List (Str × Nat)} {wi : WI} {wg : WG} {wt : WT}
theorem de_lcK (own : List (Str × Nat)) (hc : X.calm = true) (hN : X.N.Nodup) (hi : DI X Wx tg iter wi) (ok : BlkOk X.N X.env.scope scope own)
    (hg : ∀ (s : Shared) (H : Hp) (C : Addr) (cl : List (Str × Addr)) (fp : List Addr), DG (BX X scope s H C cl fp) (own.map (·.2)) tg wg) (ht : ∀ (s : Shared) (H : Hp) (C : Addr) (cl : List (Str × Addr)) (fp : List Addr), PTs (BX X scope s H C cl fp) ifs (canT X.K Wx wt))
    (he : ∀ (s : Shared) (H : Hp) (C : Addr) (cl : List (Str × Addr)) (fp : List Addr), DE (BX X scope s H C cl fp) Wx elt we) (hs : ∀ x, foldedSetIterable iter X.env x = pure x := by intro _; rfl) :
    DE X Wx (.ListComp elt [⟨tg, iter, ifs, 0⟩] scope pos) (wLcK (own.map (·.2)) wi wg wt we) := PE.imp (pe_lc hc hN hi ok hg ht he hs) fun _ _ _ => s_lcK
theorem ds_setLcK {i : Nat} {y : Str} {py spos : Pos} (own : List (Str × Nat)) (hc : X.calm = true) (hN : X.N.Nodup) (hi : DI X Wx tg iter wi) (ok : BlkOk X.N X.env.scope scope own)
    (hg : ∀ (s : Shared) (H : Hp) (C : Addr) (cl : List (Str × Addr)) (fp : List Addr), DG (BX X scope s H C cl fp) (own.map (·.2)) tg wg) (ht : ∀ (s : Shared) (H : Hp) (C : Addr) (cl : List (Str × Addr)) (fp : List Addr), PTs (BX X scope s H C cl fp) ifs (canT X.K Wx wt))
    (he : ∀ (s : Shared) (H : Hp) (C : Addr) (cl : List (Str × Addr)) (fp : List Addr), DE (BX X scope s H C cl fp) Wx elt we) (hy : X.N[i]? = some y := by rfl) (hyl : X.env.scope.names.lookup y = some .local := by rfl)
    (hsw : swapsWith (.ListComp elt [⟨tg, iter, ifs, 0⟩] scope pos) (some (.Name y py)) spos.line X.env = pure true := by exact sw_true rfl rfl rfl (by decide +kernel)) (hs : ∀ x, foldedSetIterable iter X.env x = pure x := by intro _; rfl) :
    DS X Wx (.Assign [.Name y py] (.ListComp elt [⟨tg, iter, ifs, 0⟩] scope pos) spos) (wSet i (wLcK (own.map (·.2)) wi wg wt we)) := PS.imp (ps_setLc hc hN hy hyl hsw hi ok hg ht he hs) fun D σ H h => by
  obtain ⟨A, G, cs, ms, ds, E, s, h, n, r, b, c, yy⟩ := h
  exact s_lcK ⟨A, G, cs, ms, ds, _, _, s, h, fun v d G' H' cs' ms' s' e' r' h' => n _ _ G' H' cs' ms' (s'.envs (s'.env.set i r')) e' h', yy.at_⟩
end
end DL

set_option Elab.async false
set_option linter.all false
set_option maxRecDepth 100000
set_option maxHeartbeats 4000000
namespace DL
open PySem L2 PySem.Spec PyProof.Rows
/-! ### tuple * int, any small number -/
theorem tuple_mul1 (l : Addr) (items : Array Value) (n : Nat) (dd : Option Addr) (sl : Array (Option Value)) (x : Int) (u : Tok) (c0 : (decide (x < -(2 ^ 63)) || decide (x ≥ 2 ^ 63)) = false) (c1 : (items.isEmpty || x == 1) = true) :
    Meets (Builtin.«tuple.__mul__» ⟨[.ref l, .int x u], []⟩) (fun _ R s => s.heap.get? l = some { cls := .type "tuple", dict := dd, data := .seq items n, slots := sl } ∧
      R (.ok (.ret (Value.ref l))) s) :=
  .of_wp fun prog w A R s h => by
    obtain ⟨hp, g, d, tk, os⟩ := s
    obtain ⟨hl, h⟩ := h
    have f1 := AutoSeq1.idx_int
    wp_walk using wpAny_loadPart' hl
    repeat (first
      | (refine wpAny_ite_false (decide_eq_false (by rw [c0]; exact Bool.false_ne_true)) ?_; wp_walk using wpAny_loadPart' hl)
      | (refine wpAny_ite_true (decide_eq_true c1) ?_; wp_walk using wpAny_loadPart' hl))
    exact ⟨_, rfl, h⟩
theorem tuple_mul0 (l : Addr) (items : Array Value) (n : Nat) (dd : Option Addr) (sl : Array (Option Value)) (x : Int) (u : Tok) (c0 : (decide (x < -(2 ^ 63)) || decide (x ≥ 2 ^ 63)) = false) (c1 : (items.isEmpty || x == 1) = false) (c2 : (decide (x ≤ 0) || items.isEmpty) = true) :
    Meets (Builtin.«tuple.__mul__» ⟨[.ref l, .int x u], []⟩) (fun _ R s => s.heap.get? l = some { cls := .type "tuple", dict := dd, data := .seq items n, slots := sl } ∧
      R (.ok (.ret (Value.ref s.heap.objs.size))) { s with heap := s.heap.push { cls := Value.type "tuple", data := Data.seq #[] }, toks := s.toks }) :=
  .of_wp fun prog w A R s h => by
    obtain ⟨hp, g, d, tk, os⟩ := s
    obtain ⟨hl, h⟩ := h
    have f1 := AutoSeq1.idx_int
    wp_walk using wpAny_loadPart' hl
    repeat (first
      | (refine wpAny_ite_false (decide_eq_false (by rw [c0]; exact Bool.false_ne_true)) ?_; wp_walk using wpAny_loadPart' hl)
      | (refine wpAny_ite_false (decide_eq_false (by rw [c1]; exact Bool.false_ne_true)) ?_; wp_walk using wpAny_loadPart' hl)
      | (refine wpAny_ite_true (decide_eq_true c2) ?_; wp_walk using wpAny_loadPart' hl))
    exact ⟨_, rfl, h⟩
def rMulT1 (K : PySem.W.Frag) : R2 := fun x y H Q => ∃ l k xs, x = .ref l ∧ y = .int k ∧ SqT K H l xs ∧ (xs = [] ∨ k = 1) ∧ -1000 ≤ k ∧ k ≤ 1000 ∧ Q (.ref l) H
def rMulT0 (K : PySem.W.Frag) : R2 := fun x y H Q => ∃ l k xs, x = .ref l ∧ y = .int k ∧ SqT K H l xs ∧ xs ≠ [] ∧ -1000 ≤ k ∧ k ≤ 0 ∧ ∀ p, H p = none → Q (.ref p) (upd H p (.tup []))
section
variable {X : Cx} {K : Frg} {Wx : WX} {σ : L2.St} {H : Hp} {a b c e : Expr} {wa wb wc we : WE} {pos : Pos} {es : List Expr}
theorem op_mulT1 : OpR X (binaryOp .Mult) (rMulT1 X.K) := by
  intro pins s σ H x y v u Q I rx ry h
  obtain ⟨l, k, xs, rfl, rfl, hT, hne, h1, h2, q⟩ := h
  cases rx
  obtain ⟨t, rfl⟩ := ry
  obtain ⟨its, r, ⟨⟨cls, dd, data, sl⟩, ho, hc, n, hd⟩, hs⟩ := I.tuple hT
  simp only at hc hd
  subst hc hd
  have hle : its.length = xs.length := r.length.symm
  have c0 : (decide (k < -(2 ^ 63)) || decide (k ≥ 2 ^ 63)) = false := by
    rw [decide_eq_false (by omega), decide_eq_false (by omega)] <;> rfl
  have c1 : (its.toArray.isEmpty || k == 1) = true := by
    rcases hne with e | e
    · subst e
      have : its = [] := List.eq_nil_of_length_eq_zero hle
      subst this
      rfl
    · subst e
      simp
  refine wpAny_binaryOp_repeat_ref (T := "tuple") (U := "int") (by decide) ⟨_, ho, rfl⟩ (fun s' => typeIs_int s' k t) noFill_tuple_mul F.fills_int_mul F.slot_int_rmul repeat_tuple F.slot_int_index.lookup
    (call_meets F.slot_int_rmul (typeIs_int s k t) F.entry_int_rmul (F.args_int_rmul_2 _ _) (int_rmul_tuple k t l its.toArray n dd sl)
      ⟨ho, rfl, ⟨_, ho, rfl⟩, call_meets F.slot_tuple_mul ⟨_, ho, rfl⟩ F.entry_tuple_mul (F.args_tuple_mul_2 _ _) (tuple_mul1 l its.toArray n dd sl k t c0 c1) ⟨ho, ?_⟩⟩)
  exact ⟨.ref l, H, I, rfl, q⟩
theorem op_mulT0 : OpR X (binaryOp .Mult) (rMulT0 X.K) := by
  intro pins s σ H x y v u Q I rx ry h
  obtain ⟨l, k, xs, rfl, rfl, hT, hne, h1, h2, q⟩ := h
  cases rx
  obtain ⟨t, rfl⟩ := ry
  obtain ⟨its, r, ⟨⟨cls, dd, data, sl⟩, ho, hc, n, hd⟩, hs⟩ := I.tuple hT
  simp only at hc hd
  subst hc hd
  have hle : its.length = xs.length := r.length.symm
  have hi : its.toArray.isEmpty = false := by
    cases its with
    | nil => exact absurd (List.eq_nil_of_length_eq_zero hle.symm) hne
    | cons a b => rfl
  have c0 : (decide (k < -(2 ^ 63)) || decide (k ≥ 2 ^ 63)) = false := by
    rw [decide_eq_false (by omega), decide_eq_false (by omega)] <;> rfl
  have c1 : (its.toArray.isEmpty || k == 1) = false := by
    rw [hi, Bool.false_or]
    exact beq_eq_false_iff_ne.mpr (by omega)
  have c2 : (decide (k ≤ 0) || its.toArray.isEmpty) = true := by
    rw [decide_eq_true h2]
    rfl
  refine wpAny_binaryOp_repeat_ref (T := "tuple") (U := "int") (by decide) ⟨_, ho, rfl⟩ (fun s' => typeIs_int s' k t) noFill_tuple_mul F.fills_int_mul F.slot_int_rmul repeat_tuple F.slot_int_index.lookup
    (call_meets F.slot_int_rmul (typeIs_int s k t) F.entry_int_rmul (F.args_int_rmul_2 _ _) (int_rmul_tuple k t l its.toArray n dd sl)
      ⟨ho, rfl, ⟨_, ho, rfl⟩, call_meets F.slot_tuple_mul ⟨_, ho, rfl⟩ F.entry_tuple_mul (F.args_tuple_mul_2 _ _) (tuple_mul0 l its.toArray n dd sl k t c0 c1 c2) ⟨ho, ?_⟩⟩)
  refine ⟨.ref s.heap.objs.size, _, I.laid (t' := s.toks) (o := .tup []) (fun b ob q => Heap.get?_push_of_some _ q) (Nat.le_refl _) ?_, rfl, q _ (I.hok.fresh (Nat.le_refl _))⟩
  exact ⟨by decide, [], .nil, IsTup.new _ _⟩
/-- a tuple by a small number -/
def fMulT : F2 := fun x y m P => match x, y with
  | .p (.tup xs), .p (.int k) => -1000 ≤ k ∧ k ≤ 1000 ∧ xs.length ≤ 1000 ∧ P (.p (.tup (repP xs k))) m
  | _, _ => False
theorem so_mulT : SOp K (fun x y H Q => rMulT1 K x y H Q ∨ (rMulT0 K x y H Q ∨ rRepT K x y H Q)) fMulT := by
  intro A G H cs ms σ ds x y dx dy P Q s h1 h2 h q
  unfold fMulT at h
  split at h
  · rename_i xs k
    have z1 : Rep K G x (.tup xs) := h1
    have z2 : Rep K G y (.int k) := h2
    cases z2
    cases z1 with
    | @tup a vs _ a1 a2 =>
      obtain ⟨n1, n2, n3, h⟩ := h
      by_cases c1 : xs = [] ∨ k = 1
      · have e : repP xs k = xs := by
          rcases c1 with e | e
          · subst e
            simp [repP]
          · subst e
            show (List.replicate 1 xs).flatten = xs
            simp
        rw [e] at h
        refine .inl ⟨a, k, vs, rfl, rfl, same_sqT s.k.gh a1, ?_, n1, n2, q.ret s (.tup a1 a2) h⟩
        refine c1.imp (fun e => ?_) id
        subst e
        cases a2
        rfl
      · have hv : vs ≠ [] := fun e => by
          subst e
          cases a2
          exact c1 (.inl rfl)
        by_cases c2 : k ≤ 0
        · have e : repP xs k = [] := by
            unfold repP
            have : k.toNat = 0 := by omega
            rw [this]
            rfl
          rw [e] at h
          exact .inr (.inl ⟨a, k, vs, rfl, rfl, same_sqT s.k.gh a1, hv, n1, c2, fun p hp => q.tup s .nil h p hp⟩)
        · have hk : k ≠ 1 := fun e => c1 (.inr e)
          exact .inr (.inr ⟨a, k, vs, rfl, rfl, same_sqT s.k.gh a1, hv, by omega, n2, by rw [a2.length]; exact n3, fun p hp => q.tup s (rep_rep a2 k) h p hp⟩)
  · exact h.elim
theorem de_mulT (ha : DE X Wx a wa) (hb : DE X Wx b wb) : DE X Wx (.BinOp a .Mult b pos) (wBin fMulT wa wb) := de_op (OpR.or op_mulT1 (OpR.or op_mulT0 op_repT)) so_mulT ha hb
/-! ### max of a tuple -/
theorem max_rawT {prog : Program} {w : World} {A : Around} {E : Value → Shared → Prop} {s : Shared} {l : Addr} {its : List Value} {ns : List Int} {Q : Value → Shared → Prop} (hh : A.handled = none) (hl : s.heap.IsTuple l its.toArray) (hi : IntsAre its ns) (hne : 0 < ns.length)
    (h : ∀ h' tk M t', (∀ b o, s.heap.get? b = some o → h'.get? b = some o) → M ∈ ns → (∀ a, a ∈ ns → a ≤ M) → Q (.int M t') { s with heap := h', toks := tk }) : wpAny (model prog w) A (call (.builtin "max") [.ref l]) Q E s := by
  obtain ⟨xs, e⟩ := hi.allInts.items
  have hn : numsOf (intItems xs).toList = ns := by rw [← e]; exact hi.numsOf
  rw [nums_intItems] at hn
  subst hn
  rw [e] at hl
  have hsz : 0 < xs.size := by simpa using hne
  refine call_max_walk (iter_intTup hl fun s₂ e st hfp hlI => ?_)
  subst e
  refine ⟨_, _, _, _, _, _, _, rfl, Walks.tuple (A := A.in1) hh _ l hlI (intItems xs), st, hfp, by simpa [intItems] using hsz, CmpOf.ints_gt (numAt xs) (fun _ _ => intItems_at), fun v h' tk hP hk => ?_⟩
  have hv : (intItems xs)[argBest (fun i j => decide (numAt xs i > numAt xs j)) (xs.size - 1)]? = some v := by simpa [intItems] using hP
  obtain ⟨t, rfl⟩ := intItems_at hv
  obtain ⟨h1, h2⟩ := argBest_gt (numAt xs) (xs.size - 1)
  refine h h' tk _ t (old_keptT hk) ?_ fun a ha => ?_
  · rw [numAt_eq]; exact PySem.getD_mem (by rw [List.length_map, Array.length_toList]; omega)
  · obtain ⟨j, hj, rfl⟩ := PySem.mem_getD ha
    rw [List.length_map, Array.length_toList] at hj
    rw [← numAt_eq]; exact h2 j (by omega)
theorem call_maxT (hc : X.calm = true) : CallR X (.builtin "max") (fun vs H Q => ∃ (a : Addr) (ns : List Int), vs = [V.ref a] ∧ SqT X.K H a (ns.map V.int) ∧ 0 < ns.length ∧ ∀ m, m ∈ ns → (∀ y, y ∈ ns → y ≤ m) → Q (.int m) H) := by
  intro pins s σ H vs us Q I r h
  obtain ⟨a, ns, rfl, hs, hne, q⟩ := h
  obtain ⟨its, rv, hl, _⟩ := I.tuple hs
  cases r with
  | cons r1 rr =>
    cases rr
    cases r1
    exact max_rawT (I.ok.hd hc) (show s.heap.IsTuple a its.toArray from hl) rv.ints hne fun h' tk m t' hk h1 h2 => ⟨.int _, H, I.kept hk, ⟨_, rfl⟩, q m h1 h2⟩
def fMaxT : FA := fun l m P => match l with
  | [.p (.tup xs)] => (match allI xs with | some ns => ns ≠ [] ∧ P (.p (.int (maxI ns))) m | none => False)
  | _ => False
theorem so_maxT : SCl K (fun vs H Q => ∃ (a : Addr) (ns : List Int), vs = [V.ref a] ∧ SqT K H a (ns.map V.int) ∧ 0 < ns.length ∧ ∀ m, m ∈ ns → (∀ y, y ∈ ns → y ≤ m) → Q (.int m) H) fMaxT := by
  intro A G H cs ms σ ds xs dx P Q s r h q
  unfold fMaxT at h
  split at h
  · rename_i ys
    split at h
    · rename_i ns e
      cases r with
      | @cons v _ _ _ r1 rr =>
        cases rr
        have ey := allI_some e
        subst ey
        have z1 : Rep K G v (.tup (ns.map PD.int)) := r1
        cases z1 with
        | @tup a vs _ a1 a2 =>
          have ev := RepA.ints_inv a2
          subst ev
          refine ⟨a, ns, rfl, same_sqT s.k.gh a1, List.length_pos_iff.mpr h.1, fun m h1 h2 => ?_⟩
          have : m = maxI ns := Int.le_antisymm (maxI_ge h1) (h2 _ (maxI_mem h.1))
          rw [this]
          exact q.ret s (.int _) h.2
    · exact h.elim
  · exact h.elim
theorem de_maxT {wr : WA} {p : Pos} (hc : X.calm = true) (hm : X.mg "max" = none) (ha : DA X Wx (e :: es) wr) (hg : Gl X "max" := by rfl) (he : starEach (e :: es) X.env = (false, eval e X.env) :: starEach es X.env := by rfl) (hpl : (backTo pos (starEach es X.env)).any (·.1) = false := by rfl) : DE X Wx (.Call (.Name "max" p) (e :: es) [] pos) (wCB fMaxT wr) :=
  de_cb (call_maxT hc) so_maxT hm PyProof.Rows.boot_max ha hg (by decide) (by decide) he hpl
end
end DL

set_option Elab.async false
set_option linter.all false
set_option maxRecDepth 100000
set_option maxHeartbeats 4000000
/-! ### == and != by an own __eq__, whatever it answers -/
namespace DL
open PySem PySem.W PyProof.Rows PySem.Calls
section
variable {prog : Program} {w : World} {A : Around} {E : Value → Shared → Prop} {s : Shared} {K : PySem.W.Frag} {x C L f : Addr} {h₀ : Heap} {m : Str → Option Value} {ox : Obj} {od : Option Obj} {name : Str} {b tb : Value}
theorem ifBound_Kb {M : Model} {args : List Value} {id : String} {Q : Option Value → Shared → Prop} (X : K.In s.heap) (I : InstAt s.heap x ox C od) (hs : PySem.W.findIn K (.ref C) name = some (some (.builtin id))) (S : Slot "object" name id)
    (h : wpAny M A (call (.builtin id) (.ref x :: args)) (fun v => Q (some v)) E s) : wpAny M A (callSpecialIfBound? (.ref x) name args) Q E s := by
  simp only [callSpecialIfBound?, bindSpecialIfBound?]
  refine wpAny_holding (wpAny_bind (wpAny_bind (wpAny_bind (I.type.here ((looks_findIn X hs).here ?_)))))
  simp only [S.bind]
  refine wpAny_bind (wpAny_askSetting (wpAny_ite ?_))
  have fin : wpAny M A (call (.builtin id) ([.ref x] ++ args) >>= fun v => pure (some v)) Q E s :=
    wpAny_bind (wpAny_mono h (fun v s' h' => wpAny_pure h') fun _ _ h' => h')
  split
  · exact wpAny_bind (wpAny_pure (wpAny_pure fin))
  · exact wpAny_tryCatch (wpAny_bind (wpAny_pure (wpAny_pure fin)))
theorem objNe_K {Q : Fin → Shared → Prop} (X : K.In s.heap) (I : InstAt s.heap x ox C od) (hu : A.units < cLine) (hs : PySem.W.findIn K (.ref C) "__eq__" = some (some (.ref f))) (hf : PySem.W.isFn K (.ref f) = true)
    (hcall : wpAny (model prog w) A (call (.ref f) [.ref x, b]) (fun v s' => ∃ k, v = .bool k ∧ Q (.done (.ret (.bool (!k)))) s') E s) :
    wpAny (model prog w) A (Builtin.«object.__ne__» ⟨[.ref x, b], []⟩) Q E s := by
  unfold Builtin.«object.__ne__»
  repeat (first
    | with_reducible refine wpAny_cRoomFor hu ?_
    | (refine wpAny_bind (m := callSpecialIfBound? (.ref x) (Str.ofString "__eq__") [b])
        (ifBound_K X I hs hf (wpAny_mono hcall (fun v s' hv => by
          obtain ⟨k, rfl, hq⟩ := hv
          repeat (first | exact hq | exact wpAny_pure hq | exact wpAny_truthy_bool hq | (refine wpAny_bind (m := truthy (.bool _)) (wpAny_truthy_bool ?_)) | wp_step)) fun _ _ e => e)))
    | wp_step)
theorem ne_K {Q : Value → Shared → Prop} (hu : A.units + 1 < cLine) (fr : Fr h₀ L s.heap m) (X₀ : K.In h₀) (I : InstAt s.heap x ox C od) (hb : Looks (model prog w) s.heap (typeOf b) tb) (hn : notFirst K C tb = true)
    (hsn : PySem.W.findIn K (.ref C) "__ne__" = some (some (.builtin "object.__ne__"))) (hm : mroIn K C (.type "object") = some true) (hs : PySem.W.findIn K (.ref C) "__eq__" = some (some (.ref f))) (hf : PySem.W.isFn K (.ref f) = true)
    (h : wpAny (model prog w) A.in1 (call (.ref f) [.ref x, b]) (fun v s' => ∃ k, v = .bool k ∧ Q (.bool (!k)) s') E s) : wpAny (model prog w) A (richCompare .NotEq (.ref x) b) Q E s := by
  have X := X₀.keeps fr.keep
  have one : wpAny (model prog w) A (tryCompare (.ref x) "__ne__" b) (fun r s' => ∃ v, r = some v ∧ Q v s') E s := by
    unfold tryCompare
    refine wpAny_bind (ifBound_Kb X I hsn F.cmp_object.ne (wpAny_call (codeAny_call_builtin F.cmp_object.ne.plain F.cmpEntry_ne (check_slot F.cmpKind_ne F.cmpSplit_ne (I.type.andThen (looks_mroIn X hm)) (F.cmpArgs_ne _ _) ?_))))
    refine objNe_K (A := A.in1) X I (Nat.lt_of_le_of_lt (by simp [Around.in1, Around.units]) hu) hs hf (wpAny_mono h (fun v s' hv => ?_) fun _ _ e => e)
    obtain ⟨k, rfl, hq⟩ := hv
    first | exact ⟨k, rfl, wpAny_pure ⟨_, rfl, hq⟩⟩ | exact ⟨k, rfl, _, rfl, hq⟩
  unfold richCompare
  simp only [oneThing_ref]
  refine wpAny_holding (wpAny_bind (wpAny_cRoomFor (Nat.lt_of_succ_lt hu) ?_))
  rw [cmpInfo_NotEq]
  dsimp only
  refine wpAny_bind (I.type.here (wpAny_bind (hb.here ?_)))
  split
  · rename_i q
    have e : subIn K tb (.ref C) = some false := by
      rcases Bool.or_eq_true_iff.mp hn with e | e
      · rw [beq_iff_eq.mp e] at q; simp at q
      · exact beq_iff_eq.mp e
    refine wpAny_bind ((looks_subIn X e).here ?_)
    simp only [Bool.false_eq_true, if_false]
    refine wpAny_bind (wpAny_mono one (fun r s' z => ?_) fun _ _ e => e)
    obtain ⟨v, rfl, hq⟩ := z
    exact wpAny_pure hq
  · refine wpAny_bind (wpAny_pure ?_)
    simp only [Bool.false_eq_true, if_false]
    refine wpAny_bind (wpAny_mono one (fun r s' z => ?_) fun _ _ e => e)
    obtain ⟨v, rfl, hq⟩ := z
    exact wpAny_pure hq
end
end DL
namespace DL
open PySem L2 PySem.Spec PyProof.Rows
structure OwnE (P : Program) (w : World) (K : Frg) (mg : Str → Option Value) (base : Heap) (C : Addr) (k : Nat) (ps : List Str) (sp : Sp) : Prop where
  ok : ∃ f fd, FnOk P w K mg base (L2.CX P w) k f fd ps sp ∧ PySem.W.findIn K (.ref C) "__eq__" = some (some (.ref f)) ∧ PySem.W.isFn K (.ref f) = true ∧ Binds K fd ps []
  ne : PySem.W.findIn K (.ref C) "__ne__" = some (some (.builtin "object.__ne__"))
  ob : PySem.W.mroIn K C (.type "object") = some true
theorem OwnE.mono {P : Program} {w : World} {K : Frg} {mg : Str → Option Value} {base : Heap} {C : Addr} {k j : Nat} {ps : List Str} {sp : Sp} (h : OwnE P w K mg base C k ps sp) (hj : k ≤ j) : OwnE P w K mg base C j ps sp := by
  obtain ⟨f, fd, a, b⟩ := h.ok
  exact ⟨⟨f, fd, a.mono hj, b⟩, h.ne, h.ob⟩
/-- x == y, x != y, two instances of C -/
def rOwn (C : Addr) (sp : Sp) (g : Bool → Bool) : R2 := fun x y H Q => ∃ a b dx dy fs gs, x = .ref a ∧ y = .ref b ∧ H a = some (.ins C dx fs) ∧ H b = some (.ins C dy gs) ∧
  sp [.ref a, .ref b] H (fun v H' => ∃ k, v = .bl k ∧ Q (.bl (g k)) H') (fun _ _ _ => False)
section
variable {X : Cx} {C : Addr} {k : Nat} {ps : List Str} {sp : Sp}
theorem op_ownEq (o : OwnE X.prog X.w X.K X.mg X.base C k ps sp) (hr : Room k X.A) : OpR X (compareOp .Eq) (rOwn C sp id) := by
  intro pins s σ H x y v u Q I rx ry h
  obtain ⟨a, b, dx, dy, fs, gs, rfl, rfl, ha, hb, h⟩ := h
  obtain ⟨f, fd, F, hs, hf, bd⟩ := o.ok
  cases rx
  cases ry
  obtain ⟨mA, J, _⟩ := ins_get I.hok ha
  obtain ⟨mB, J', _⟩ := ins_get I.hok hb
  obtain ⟨od, J, _⟩ := J.look
  obtain ⟨od', J', _⟩ := J'.look
  obtain ⟨m, hF⟩ := I.fr
  show wpAny (model X.prog X.w) X.A (richCompare .Eq (.ref a) (.ref b)) (EP X pins σ Q) X.xe s
  refine PySem.W.cmp_K (op := .Eq) (tb := .ref C) hr.units0 hF I.ok.mod.kin J J'.type (by simp [PySem.W.notFirst]) hs hf ?_
  have r2 : Vals [V.ref a, V.ref b] [Value.ref a, Value.ref b] := .cons rfl (.cons rfl .nil)
  have hl : ([Value.ref a, Value.ref b] : List Value).length = ps.length := by rw [← r2.length]; exact F.len _ _ _ _ h
  refine wpAny_call (codeAny_mono (F.run X.A X.stack s H ⟨[.ref a, .ref b], []⟩ [.ref a, .ref b] [.ref a, .ref b] _ _ hr I.env0 (by
    have := bd s [.ref a, .ref b] I.kIn (by simpa using hl)
    simpa using this) r2 h) fun r s' hq => ?_)
  cases r with
  | error e =>
    obtain ⟨_, _, _, _, _, _, _, _, _, _, _, _, z⟩ := hq
    exact z.elim
  | ok fl =>
    cases fl with
    | ret w =>
      obtain ⟨z, H', I', rz, k, ez, q⟩ := I.after hq
      subst ez
      obtain rfl : w = Value.bool k := rz
      exact ⟨.bl k, H', I', rfl, q⟩
    | next => exact False.elim hq
    | brk => exact False.elim hq
    | cont => exact False.elim hq
theorem op_ownNe (o : OwnE X.prog X.w X.K X.mg X.base C k ps sp) (hr : Room (k + 1) X.A) : OpR X (compareOp .NotEq) (rOwn C sp fun k => !k) := by
  intro pins s σ H x y v u Q I rx ry h
  obtain ⟨a, b, dx, dy, fs, gs, rfl, rfl, ha, hb, h⟩ := h
  obtain ⟨f, fd, F, hs, hf, bd⟩ := o.ok
  cases rx
  cases ry
  obtain ⟨mA, J, _⟩ := ins_get I.hok ha
  obtain ⟨mB, J', _⟩ := ins_get I.hok hb
  obtain ⟨od, J, _⟩ := J.look
  obtain ⟨od', J', _⟩ := J'.look
  obtain ⟨m, hF⟩ := I.fr
  show wpAny (model X.prog X.w) X.A (richCompare .NotEq (.ref a) (.ref b)) (EP X pins σ Q) X.xe s
  refine ne_K (tb := .ref C) (by have := hr.un; omega) hF I.ok.mod.kin J J'.type (by simp [PySem.W.notFirst]) o.ne o.ob hs hf ?_
  have r2 : Vals [V.ref a, V.ref b] [Value.ref a, Value.ref b] := .cons rfl (.cons rfl .nil)
  have hl : ([Value.ref a, Value.ref b] : List Value).length = ps.length := by rw [← r2.length]; exact F.len _ _ _ _ h
  refine wpAny_call (codeAny_mono (F.run X.A.in1 X.stack s H ⟨[.ref a, .ref b], []⟩ [.ref a, .ref b] [.ref a, .ref b] _ _ hr.in1 I.env0.in1 (by
    have := bd s [.ref a, .ref b] I.kIn (by simpa using hl)
    simpa using this) r2 h) fun r s' hq => ?_)
  cases r with
  | error e =>
    obtain ⟨_, _, _, _, _, _, _, _, _, _, _, _, z⟩ := hq
    exact z.elim
  | ok fl =>
    cases fl with
    | ret w =>
      obtain ⟨z, H', I', rz, k, ez, q⟩ := I.after hq
      subst ez
      obtain rfl : w = Value.bool k := rz
      exact ⟨k, rfl, .bl (!k), H', I', rfl, q⟩
    | next => exact False.elim hq
    | brk => exact False.elim hq
    | cont => exact False.elim hq
end
/-- two instances that stay as they are -/
def fOwn2 (C : Addr) (R : RP) (g : Bool → Bool) : F2 := fun x y m P => match x, y with
  | .p (.ins C1 fs), .p (.ins C2 gs) => C1 = C ∧ C2 = C ∧ R [.ins C1 fs, .ins C2 gs] (fun v => ∃ k, v = .bl k ∧ P (.p (.bl (g k))) m) (fun _ _ => False)
  | _, _ => False
section
variable {X : Cx} {K : Frg} {Wx : WX} {σ : L2.St} {H : Hp} {a b : Expr} {wa wb : WE} {pos : Pos} {C : Addr} {k : Nat} {ps : List Str} {R : RP}
theorem so_own {g : Bool → Bool} : SOp K (rOwn C (spP K R) g) (fOwn2 C R g) := by
  intro A G H cs ms σ ds x y dx dy P Q s h1 h2 h q
  unfold fOwn2 at h
  split at h
  · rename_i C1 fs C2 gs
    obtain ⟨rfl, rfl, h⟩ := h
    have z1 : Rep K G x (.ins _ fs) := h1
    have z2 : Rep K G y (.ins _ gs) := h2
    cases z1 with
    | @ins a d1 _ f1 _ a1 a2 =>
      cases z2 with
      | @ins b d2 _ f2 _ b1 b2 =>
        refine ⟨a, b, d1, d2, f1, f2, rfl, rfl, s.k.gh _ _ a1, s.k.gh _ _ b1, G, _, _, _, s.k.gh, .cons (.ins a1 a2) (.cons (.ins b1 b2) .nil), h, fun v d G' H' gr r hk => ?_, fun _ _ _ _ _ _ _ z => z⟩
        obtain ⟨k, rfl, hP⟩ := hk
        cases r
        obtain ⟨s2, e2⟩ := s.grow gr
        exact ⟨k, rfl, q _ (.p (.bl (g k))) G' H' cs ms s2 e2 (.bl _) hP⟩
  · exact h.elim
theorem de_ownEq (o : OwnE X.prog X.w X.K X.mg X.base C k ps (spP X.K R)) (hr : Room k X.A) (ha : DE X Wx a wa) (hb : DE X Wx b wb) : DE X Wx (.Compare a [.Eq] [b] pos) (wBin (fOwn2 C R id) wa wb) := de_cmp (op_ownEq o hr) so_own ha hb (nomark _)
theorem de_ownNe (o : OwnE X.prog X.w X.K X.mg X.base C k ps (spP X.K R)) (hr : Room (k + 1) X.A) (ha : DE X Wx a wa) (hb : DE X Wx b wb) : DE X Wx (.Compare a [.NotEq] [b] pos) (wBin (fOwn2 C R fun k => !k) wa wb) := de_cmp (op_ownNe o hr) so_own ha hb (nomark _)
theorem dt_ownEq (o : OwnE X.prog X.w X.K X.mg X.base C k ps (spP X.K R)) (hr : Room k X.A) (ha : DE X Wx a wa) (hb : DE X Wx b wb) : DT X Wx (.Compare a [.Eq] [b] pos) (wTest (wBin (fOwn2 C R id) wa wb)) := dt_cmp (op_ownEq o hr) so_own ha hb (nomark _)
theorem dt_ownNe (o : OwnE X.prog X.w X.K X.mg X.base C k ps (spP X.K R)) (hr : Room (k + 1) X.A) (ha : DE X Wx a wa) (hb : DE X Wx b wb) : DT X Wx (.Compare a [.NotEq] [b] pos) (wTest (wBin (fOwn2 C R fun k => !k) wa wb)) := dt_cmp (op_ownNe o hr) so_own ha hb (nomark _)
end
end DL

set_option Elab.async false
set_option linter.all false
set_option maxRecDepth 100000
set_option maxHeartbeats 4000000
namespace DL
open PySem L2 PySem.Spec PyProof.Rows
/-! ### isinstance(e, C), C an own class -/
def isCNames : List String := ["NoneType", "bool", "int", "str", "tuple", "list"]
structure IsC (K : Frg) (C : Addr) : Prop where
  cl : Cls K C
  ha : PySem.W.findIn K (.ref C) "__class__" = some (some (.builtin "object.__class__"))
  hn : PySem.W.specialIn K (.builtin "object.__class__") "__get__" = some (some (.builtin "getset_descriptor.__get__"))
  ht : PySem.W.takesIn K (.builtin "object.__class__") = some true
  hm : PySem.W.mroIn K C (.type "object") = some true
  self : PySem.W.kitOne K (.ref C) (.ref C) = some true
  no : ∀ T ∈ isCNames, PySem.W.kitOne K (.type T) (.ref C) = some false
def fIsC (C : Addr) : F1 := fun x m P => match x with
  | .p (.ins C' _) => C' = C ∧ P (.p (.bl true)) m
  | x => match tyName x m with | some S => S ∈ isCNames ∧ P (.p (.bl false)) m | none => False
def wIsC (C : Addr) (we : WE) : WE := wUn (fIsC C) we
section
variable {X : Cx} {K : Frg} {Wx : WX} {σ : L2.St} {H : Hp} {e : Expr} {we : WE} {pos : Pos}
theorem de_isC {C : Addr} {x : Str} {p p2 : Pos} (hm : X.mg "isinstance" = none) (hmT : X.mg x = some (.ref C)) (hC : IsC X.K C) (he : DE X Wx e we) (hg : Gl X "isinstance" := by rfl) (hgT : Gl X x := by rfl)
    (hdb : (x == ("__debug__" : Str)) = false := by decide)
    (hs : starEach (e :: [Expr.Name x p2]) X.env = (false, eval e X.env) :: starEach [Expr.Name x p2] X.env := by rfl) (hs2 : starEach (Expr.Name x p2 :: []) X.env = (false, eval (Expr.Name x p2) X.env) :: starEach [] X.env := by rfl)
    (hpl : (backTo pos (starEach [Expr.Name x p2] X.env)).any (·.1) = false := by rfl) : DE X Wx (.Call (.Name "isinstance" p) [e, .Name x p2] [] pos) (wIsC C we) :=
  PE.imp (pe_callB call_isi hg hm boot_isi (pa_cons he (pa_cons (pe_glob (v := .ref C) (u := .ref C) hgT hmT rfl hdb) pa_nil hs2) hs) (by decide) (by decide) hs hpl) fun σ H Q h => by
  obtain ⟨A, G, cs, ms, ds, P, Xp, s, h, q, x⟩ := h
  refine ⟨A, G, cs, ms, ds, _, Xp, s, h, fun v d G1 H1 cs1 ms1 s1 e1 r1 h1 => ?_, x⟩
  unfold fIsC at h1
  try dsimp only at h1
  split at h1
  · rename_i C' fs
    obtain ⟨rfl, h1⟩ := h1
    have z : Rep X.K G1 v (.ins C' fs) := r1
    cases z with
    | @ins a d1 _ f1 _ a1 a2 =>
      exact ⟨.ref a, .ref C', .ref C', .ref C', true, rfl, .own C', .base (.ins (s1.k.gh _ _ a1) hC.cl hC.ha hC.hn hC.ht hC.hm), hC.self, (q.ext e1).ret s1 (.bl _) h1⟩
  · split at h1
    · rename_i S eS
      obtain ⟨hS, h1⟩ := h1
      exact ⟨v, .ref C, .type S, .ref C, false, rfl, .own C, ty_of s1 r1 eS, hC.no S hS, (q.ext e1).ret s1 (.bl _) h1⟩
    · exact h1.elim
/-! ### a property, read -/
structure PropE (P : Program) (w : World) (K : Frg) (mg : Str → Option Value) (base : Heap) (C : Addr) (f : Str) (k : Nat) (ps : List Str) (sp : Sp) : Prop where
  ok : ∃ p g fd, FnOk P w K mg base (L2.CX P w) k g fd ps sp ∧ PropOf K C f p g ∧ Binds K fd ps []
  cl : Cls K C
/-- e.f: the getter's promise -/
def wProp (C : Addr) (R : RP) (we : WE) : WE := fun ds ms P Xp => we ds ms (fun d m => match d with
  | .p (.ins C' fs) => C' = C ∧ R [.ins C' fs] (fun x => P (.p x) m) (fun _ _ => False)
  | _ => False) Xp
theorem s_prop {C : Addr} {R : RP} {Q : VK} (h : canE K Wx (wProp C R we) σ H Q) : tProp C (spP K R) [] (fun _ _ _ => False) (canE K Wx we) σ H Q := by
  obtain ⟨A, G, cs, ms, ds, P, Xp, s, h, q, x⟩ := h
  refine ⟨A, G, cs, ms, ds, _, Xp, s, h, fun v d G1 H1 cs1 ms1 s1 e1 r1 h1 => ?_, x⟩
  try dsimp only at h1
  split at h1
  · rename_i C' fs
    obtain ⟨rfl, h1⟩ := h1
    have z : Rep K G1 v (.ins C' fs) := r1
    cases z with
    | @ins a d1 _ f1 _ a1 a2 =>
      refine ⟨a, d1, f1, rfl, s1.k.gh _ _ a1, G1, _, _, _, s1.k.gh, .cons (.ins a1 a2) .nil, h1, fun v d G' H' gr r h2 => ?_, fun _ _ _ _ _ _ _ z => z⟩
      obtain ⟨s2, e2⟩ := s1.grow gr
      exact q v (.p d) G' H' cs1 ms1 s2 (e1.trans e2) r h2
  · exact h1.elim
theorem de_prop {C : Addr} {f : Str} {k : Nat} {ps : List Str} {R : RP} (o : PropE X.prog X.w X.K X.mg X.base C f k ps (spP X.K R)) (hr : Room (k + 1) X.A) (he : DE X Wx e we)
    (hb : attributeBase e f X.env (eval e X.env) = eval e X.env := by rfl) : DE X Wx (.Attribute e f pos) (wProp C R we) := by
  obtain ⟨p, g, fd, F, hp, bd⟩ := o.ok
  exact PE.imp (pe_prop he o.cl hp F hr bd .nil (fun pins σ H s e s' _ z => by
    obtain ⟨_, _, _, _, _, _, _, _, _, _, _, _, z⟩ := z
    exact z.elim) hb) fun _ _ _ => s_prop
/-! ### a, b, c = x, y, z -/
def wPar3 (i j l : Nat) (wa : WA) : WS := fun E ds ms => wa ds ms (fun xs m => match xs with | [x, y, z] => E.nx (((ds.set i (some x)).set j (some y)).set l (some z)) m | _ => False) (E.xp ds)
theorem ds_par3 {i j l : Nat} {x y z : Str} {a b c : Expr} {wa : WA} {px py pz pt : Pos} {kt k2 pt2} (hc : X.calm = true) (hN : X.N.Nodup) (ha : DA X Wx [a, b, c] wa) (hi : X.N[i]? = some x := by rfl) (hj : X.N[j]? = some y := by rfl) (hl : X.N[l]? = some z := by rfl)
    (hij : i ≠ j := by decide) (hil : i ≠ l := by decide) (hjl : j ≠ l := by decide)
    (hx : X.env.scope.names.lookup x = some .local := by rfl) (hy : X.env.scope.names.lookup y = some .local := by rfl) (hz : X.env.scope.names.lookup z = some .local := by rfl)
    (hw : swappedStores [.Tuple [.Name x px, .Name y py, .Name z pz] kt pt] (.Tuple [a, b, c] k2 pt2) X.env = pure (some [x, y, z]) := by rfl)
    (hs : swapsWithSole [.Tuple [.Name x px, .Name y py, .Name z pz] kt pt] (.Tuple [a, b, c] k2 pt2) pos.line X.env = pure false := by rfl) :
    DS X Wx (.Assign [.Tuple [.Name x px, .Name y py, .Name z pz] kt pt] (.Tuple [a, b, c] k2 pt2) pos) (wPar3 i j l wa) := PS.imp (ps_par3 hc hN hi hj hl hij hil hjl hx hy hz ha hw hs) fun D σ H h => by
  obtain ⟨A, G, cs, ms, ds, E, s, h, n, r, b', c, y⟩ := h
  refine ⟨A, G, cs, ms, ds, _, _, s, h, fun vs xs G' H' cs' ms' s' e' r' h' => ?_, y.at_⟩
  try dsimp only at h'
  split at h'
  · cases r' with
    | cons r1 rr =>
      cases rr with
      | cons r2 rr =>
        cases rr with
        | cons r3 rr =>
          cases rr
          exact ⟨_, _, _, rfl, n _ _ G' H' cs' ms' (s'.envs (((s'.env.set i r1).set j r2).set l r3)) e' h'⟩
  · exact h'.elim
end
end DL

set_option Elab.async false
set_option linter.all false
/-! rings of waits, in plain Lean: by depth and by breadth the same -/
namespace DL
abbrev Bar := Int × Int × Int × Int
def bOne (bs : List Bar) (i : Nat) : Int := (bs.getD i (0, 0, 0, 0)).1
def bOth (bs : List Bar) (i : Nat) : Int := (bs.getD i (0, 0, 0, 0)).2.1
def bMom (bs : List Bar) (i : Nat) : Int := (bs.getD i (0, 0, 0, 0)).2.2.1
def bRnd (bs : List Bar) (i : Nat) : Int := (bs.getD i (0, 0, 0, 0)).2.2.2
section
variable (bs : List Bar)
/-- a way of waits from a step to a step -/
def chain : Int → List Nat → Int → Prop
  | a, [], z => a = z
  | a, i :: r, z => i < bs.length ∧ bOne bs i = a ∧ chain (bOth bs i) r z
theorem chain_app : ∀ {a z : Int} {r t : List Nat}, chain bs a (r ++ t) z ↔ ∃ y, chain bs a r y ∧ chain bs y t z
  | a, z, [], t => by simp [chain]
  | a, z, i :: r, t => by
    simp only [List.cons_append, chain]
    rw [chain_app]
    constructor
    · rintro ⟨h1, h2, y, h3, h4⟩
      exact ⟨y, ⟨h1, h2, h3⟩, h4⟩
    · rintro ⟨y, ⟨h1, h2, h3⟩, h4⟩
      exact ⟨h1, h2, y, h3, h4⟩
theorem chain_snoc {a z : Int} {r : List Nat} {i : Nat} : chain bs a (r ++ [i]) z ↔ chain bs a r (bOne bs i) ∧ i < bs.length ∧ bOth bs i = z := by
  rw [chain_app]
  simp only [chain]
  constructor
  · rintro ⟨y, h1, h2, rfl, h3⟩
    exact ⟨h1, h2, h3⟩
  · rintro ⟨h1, h2, h3⟩
    exact ⟨_, h1, h2, rfl, h3⟩
theorem chain_fun {a y z : Int} : ∀ {a : Int} {r : List Nat}, chain bs a r y → chain bs a r z → y = z
  | a, [], h1, h2 => h1.symm.trans h2
  | a, i :: r, h1, h2 => chain_fun (a := a) h1.2.2 h2.2.2
theorem chain_mem : ∀ {a z : Int} {r : List Nat}, chain bs a r z → ∀ i ∈ r, i < bs.length
  | a, z, [], _, i, h => by cases h
  | a, z, j :: r, h, i, hi => by
    rcases List.mem_cons.mp hi with e | e
    · exact e ▸ h.1
    · exact chain_mem h.2.2 i e
/-- the begins and the ends of a way -/
theorem chain_ends : ∀ {a z : Int} {r : List Nat}, chain bs a r z → r.map (bOne bs) ++ [z] = a :: r.map (bOth bs)
  | a, z, [], h => by
    have h : a = z := h
    simp [h]
  | a, z, i :: r, h => by
    rw [List.map_cons, List.map_cons, List.cons_append, chain_ends h.2.2, h.2.1]
/-- a ring from a step on -/
structure Ring (a : Int) (r : List Nat) : Prop where
  ne : r ≠ []
  ch : chain bs a r a
  nd : (r.map (bOne bs)).Nodup
  lo : ∀ i ∈ r, a ≤ bOne bs i
def IsRing (r : List Nat) : Prop := ∃ a, Ring bs a r
theorem closed_ends {a : Int} {r : List Nat} (h : chain bs a r a) (hn : r ≠ []) : ∃ ds, r.map (bOne bs) = a :: ds ∧ r.map (bOth bs) = ds ++ [a] := by
  have e := chain_ends bs h
  match r, hn with
  | i :: r, _ =>
    rw [List.map_cons, List.cons_append] at e
    obtain ⟨e1, e2⟩ := List.cons.inj e
    exact ⟨r.map (bOne bs), by rw [List.map_cons, e1], by rw [← e2]⟩
theorem ends_nd {a : Int} {r : List Nat} (h : chain bs a r a) (hn : r ≠ []) : (r.map (bOne bs)).Nodup ↔ (r.map (bOth bs)).Nodup := by
  obtain ⟨ds, e1, e2⟩ := closed_ends bs h hn
  rw [e1, e2, List.nodup_cons, List.nodup_append]
  constructor
  · rintro ⟨h1, h2⟩
    exact ⟨h2, by simp, fun x hx y hy e => h1 (by have : y = a := (by simpa using hy); rw [← this, ← e]; exact hx)⟩
  · rintro ⟨h1, _, h3⟩
    exact ⟨fun hx => h3 a hx a (by simp) rfl, h1⟩
theorem ends_lo {a : Int} {r : List Nat} (h : chain bs a r a) (hn : r ≠ []) : (∀ i ∈ r, a ≤ bOne bs i) ↔ (∀ i ∈ r, a ≤ bOth bs i) := by
  obtain ⟨ds, e1, e2⟩ := closed_ends bs h hn
  have q1 : (∀ i ∈ r, a ≤ bOne bs i) ↔ ∀ x ∈ r.map (bOne bs), a ≤ x := by simp
  have q2 : (∀ i ∈ r, a ≤ bOth bs i) ↔ ∀ x ∈ r.map (bOth bs), a ≤ x := by simp
  rw [q1, q2, e1, e2]
  constructor
  · intro h x hx
    rcases List.mem_append.mp hx with z | z
    · exact h x (List.mem_cons_of_mem _ z)
    · have z : x = a := (by simpa using z)
      exact h x (by simp [z])
  · intro h x hx
    rcases List.mem_cons.mp hx with z | z
    · exact h x (by simp [z])
    · exact h x (List.mem_append_left _ z)
/-! by depth -/
def dfs : Nat → List Nat → List (List Nat)
  | 0, _ => []
  | n + 1, row =>
    if bOne bs (row.getD 0 0) = bOth bs (row.getLastD 0) then [row]
    else (List.range bs.length).flatMap fun i => if bOne bs i = bOth bs (row.getLastD 0) ∧ bOth bs i ∉ row.map (bOth bs) ∧ bOne bs (row.getD 0 0) ≤ bOth bs i then dfs n (row ++ [i]) else []
theorem last_of {a z : Int} {row : List Nat} (h : chain bs a row z) (hn : row ≠ []) : bOth bs (row.getLastD 0) = z := by
  obtain h0 | ⟨r, i, e⟩ := List.eq_nil_or_concat row
  · exact absurd h0 hn
  · rw [List.concat_eq_append] at e
    subst e
    rw [chain_snoc] at h
    simp only [List.getLastD_concat]
    exact h.2.2
theorem head_of {a z : Int} {row : List Nat} (h : chain bs a row z) (hn : row ≠ []) : bOne bs (row.getD 0 0) = a := by
  match row, hn with
  | i :: r, _ => exact h.2.1
theorem dfs_sound (a : Int) : ∀ (n : Nat) (row : List Nat) (z : Int), row ≠ [] → chain bs a row z → (row.map (bOth bs)).Nodup → (∀ i ∈ row, a ≤ bOth bs i) → ∀ r ∈ dfs bs n row, Ring bs a r ∧ row <+: r
  | 0, row, z, _, _, _, _, r, h => by cases h
  | n + 1, row, z, hn, hc, hd, hl, r, h => by
    unfold dfs at h
    rw [head_of bs hc hn, last_of bs hc hn] at h
    split at h
    · rename_i e
      subst e
      have : r = row := by simpa using h
      subst this
      exact ⟨⟨hn, hc, (ends_nd bs hc hn).mpr hd, (ends_lo bs hc hn).mpr hl⟩, List.prefix_refl _⟩
    · obtain ⟨i, hi, h⟩ := List.mem_flatMap.mp h
      split at h
      · rename_i q
        obtain ⟨q1, q2, q3⟩ := q
        have := dfs_sound a n (row ++ [i]) (bOth bs i) (by simp) ((chain_snoc bs).mpr ⟨q1 ▸ hc, List.mem_range.mp hi, rfl⟩)
          (by rw [List.map_append, List.nodup_append]; exact ⟨hd, by simp, fun x hx y hy e => q2 (by have : y = bOth bs i := (by simpa using hy); rw [← this, ← e]; exact hx)⟩)
          (fun j hj => (List.mem_append.mp hj).elim (hl j) fun z => (by have : j = i := (by simpa using z); exact this ▸ q3)) r h
        exact ⟨this.1, (List.prefix_append row [i]).trans this.2⟩
      · cases h
theorem dfs_full (a : Int) : ∀ (n : Nat) (row t : List Nat) (z : Int), row ≠ [] → chain bs a row z → Ring bs a (row ++ t) → t.length < n → row ++ t ∈ dfs bs n row
  | 0, row, t, z, _, _, _, h => by omega
  | n + 1, row, t, z, hn, hc, hr, ht => by
    have hnt : row ++ t ≠ [] := by simp [hn]
    have hd := (ends_nd bs hr.ch hnt).mp hr.nd
    have hl := (ends_lo bs hr.ch hnt).mp hr.lo
    rw [List.map_append, List.nodup_append] at hd
    unfold dfs
    rw [head_of bs hc hn, last_of bs hc hn]
    obtain ⟨y, c1, c2⟩ := (chain_app bs).mp hr.ch
    have ey := chain_fun bs (a := a) hc c1
    subst ey
    split
    · rename_i e
      subst e
      obtain h0 | ⟨u, i, e⟩ := List.eq_nil_or_concat t
      · subst h0
        simp
      · exfalso
        rw [List.concat_eq_append] at e
        subst e
        have h1 := ((chain_snoc bs).mp c2).2.2
        obtain h0 | ⟨w, j, e⟩ := List.eq_nil_or_concat row
        · exact hn h0
        · rw [List.concat_eq_append] at e
          subst e
          have h2 := ((chain_snoc bs).mp c1).2.2
          exact hd.2.2 (bOth bs j) (by simp) (bOth bs i) (by simp) (h2.trans h1.symm)
    · rename_i e
      match t, c2, hr, ht, hd, hl with
      | [], c2, _, _, _, _ => exact absurd (Eq.symm c2) e
      | i :: t, c2, hr, ht, hd, hl =>
        refine List.mem_flatMap.mpr ⟨i, List.mem_range.mpr c2.1, ?_⟩
        have h2 : bOth bs i ∉ row.map (bOth bs) := fun hx => hd.2.2 _ hx (bOth bs i) (by simp) rfl
        rw [if_pos ⟨c2.2.1, h2, hl i (by simp)⟩]
        have e2 : row ++ i :: t = (row ++ [i]) ++ t := by simp
        rw [e2]
        refine dfs_full a n (row ++ [i]) t (bOth bs i) (by simp) ((chain_snoc bs).mpr ⟨c2.2.1 ▸ hc, c2.1, rfl⟩) (e2 ▸ hr) ?_
        simpa using ht
theorem dfs_prefix : ∀ (n : Nat) (row r : List Nat), r ∈ dfs bs n row → row <+: r
  | 0, row, r, h => by cases h
  | n + 1, row, r, h => by
    unfold dfs at h
    split at h
    · have : r = row := by simpa using h
      exact this ▸ List.prefix_refl _
    · obtain ⟨i, hi, h⟩ := List.mem_flatMap.mp h
      split at h
      · exact (List.prefix_append row [i]).trans (dfs_prefix n _ r h)
      · cases h
theorem pre_snoc {row r : List Nat} {i j : Nat} (h1 : row ++ [i] <+: r) (h2 : row ++ [j] <+: r) : i = j := by
  obtain ⟨u, rfl⟩ := h1
  obtain ⟨w, e⟩ := h2
  simp at e
  exact e.1.symm
theorem nodup_flat {f : Nat → List (List Nat)} (n : Nat) (h1 : ∀ i, (f i).Nodup) (h2 : ∀ i j r, r ∈ f i → r ∈ f j → i = j) : ((List.range n).flatMap f).Nodup := by
  unfold List.Nodup
  rw [List.pairwise_flatMap]
  refine ⟨fun i _ => h1 i, List.Pairwise.imp (fun {i j} hij x hx y hy => ?_) (List.nodup_range (n := n))⟩
  intro e
  exact hij (h2 i j x hx (e ▸ hy))
theorem dfs_nodup : ∀ (n : Nat) (row : List Nat), (dfs bs n row).Nodup
  | 0, row => by unfold dfs; exact List.nodup_nil
  | n + 1, row => by
    unfold dfs
    split
    · simp
    · refine nodup_flat _ (fun i => ?_) (fun i j r hi hj => ?_)
      · split
        · exact dfs_nodup n _
        · exact List.nodup_nil
      · split at hi
        · split at hj
          · exact pre_snoc (dfs_prefix bs n _ r hi) (dfs_prefix bs n _ r hj)
          · cases hj
        · cases hi
def begun (S i : Nat) : List (List Nat) := if bOne bs i ≤ bOth bs i then dfs bs S [i] else []
def dAll (S : Nat) : List (List Nat) := (List.range bs.length).flatMap (begun bs S)
theorem dAll_nodup (S : Nat) : (dAll bs S).Nodup := by
  refine nodup_flat _ (fun i => ?_) (fun i j r hi hj => ?_)
  · unfold begun; split
    · exact dfs_nodup bs _ _
    · exact List.nodup_nil
  · unfold begun at hi hj
    split at hi
    · split at hj
      · exact pre_snoc (row := []) (dfs_prefix bs _ _ r hi) (dfs_prefix bs _ _ r hj)
      · cases hj
    · cases hi
/-- the steps are so many -/
def Steps (S : Nat) : Prop := ∀ b ∈ bs, 0 ≤ b.1 ∧ b.1 < S ∧ 0 ≤ b.2.1 ∧ b.2.1 < S
theorem bOne_mem {S : Nat} (h : Steps bs S) {i : Nat} (hi : i < bs.length) : 0 ≤ bOne bs i ∧ bOne bs i < S ∧ 0 ≤ bOth bs i ∧ bOth bs i < S := by
  unfold bOne bOth
  rw [List.getD_eq_getElem?_getD, List.getElem?_eq_getElem hi]
  exact h _ (List.getElem_mem hi)
theorem nd_len {S : Nat} {l : List Int} (hd : l.Nodup) (h : ∀ x ∈ l, 0 ≤ x ∧ x < S) : l.length ≤ S := by
  have := hd.length_le_of_subset (l₂ := (List.range S).map fun n : Nat => (n : Int)) fun x hx => by
    have := h x hx
    exact List.mem_map.mpr ⟨x.toNat, List.mem_range.mpr (by omega), by omega⟩
  simpa using this
theorem ring_len {S : Nat} (h : Steps bs S) {a : Int} {r : List Nat} (hr : Ring bs a r) : r.length ≤ S := by
  have := nd_len (S := S) hr.nd fun x hx => by
    obtain ⟨i, hi, rfl⟩ := List.mem_map.mp hx
    have := bOne_mem bs h (chain_mem bs hr.ch i hi)
    exact ⟨this.1, this.2.1⟩
  simpa using this
theorem mem_dAll {S : Nat} (h : Steps bs S) (r : List Nat) : r ∈ dAll bs S ↔ IsRing bs r := by
  unfold dAll begun
  rw [List.mem_flatMap]
  constructor
  · rintro ⟨i, hi, hr⟩
    split at hr
    · rename_i hle
      exact ⟨_, (dfs_sound bs (bOne bs i) S [i] (bOth bs i) (by simp) ⟨List.mem_range.mp hi, rfl, rfl⟩ (by simp) (fun j hj => by have : j = i := (by simpa using hj); exact this ▸ hle) r hr).1⟩
    · cases hr
  · rintro ⟨a, hr⟩
    match r, hr with
    | [], hr => exact absurd rfl hr.ne
    | i :: t, hr =>
      have hc := hr.ch
      refine ⟨i, List.mem_range.mpr hc.1, ?_⟩
      have e : bOne bs i = a := hc.2.1
      have hl := (ends_lo bs hr.ch (by simp)).mp hr.lo i (by simp)
      rw [if_pos (e ▸ hl)]
      have hlen := ring_len bs h hr
      rw [List.length_cons] at hlen
      exact dfs_full bs a S [i] t (bOth bs i) (by simp) ⟨hc.1, hc.2.1, rfl⟩ hr (by omega)
/-! by breadth -/
def bfsNext (row : List Nat) : List (List Nat) := (List.range bs.length).flatMap fun i => if bOne bs i = bOth bs (row.getLastD 0) ∧ bOne bs i ∉ row.map (bOne bs) then [row ++ [i]] else []
def bfsRows : Nat → List (List Nat)
  | 0 => (List.range bs.length).map fun i => [i]
  | n + 1 => (bfsRows n).flatMap (bfsNext bs)
def bfsGood (row : List Nat) : Bool := decide (bOth bs (row.getLastD 0) = bOne bs (row.getD 0 0)) && row.all fun i => decide (bOne bs (row.getD 0 0) ≤ bOne bs i)
def bAll (S : Nat) : List (List Nat) := (List.range S).flatMap fun k => (bfsRows bs k).filter (bfsGood bs)
theorem mem_bfsRows : ∀ (n : Nat) (r : List Nat), r ∈ bfsRows bs n ↔ r.length = n + 1 ∧ (∃ a z, chain bs a r z) ∧ (r.map (bOne bs)).Nodup
  | 0, r => by
    unfold bfsRows
    rw [List.mem_map]
    constructor
    · rintro ⟨i, hi, rfl⟩
      exact ⟨rfl, ⟨_, _, List.mem_range.mp hi, rfl, rfl⟩, by simp⟩
    · rintro ⟨h1, ⟨a, z, h2⟩, h3⟩
      match r, h1, h2 with
      | [i], _, h2 => exact ⟨i, List.mem_range.mpr h2.1, rfl⟩
  | n + 1, r => by
    unfold bfsRows
    rw [List.mem_flatMap]
    constructor
    · rintro ⟨row, h1, h2⟩
      obtain ⟨l1, ⟨a, z, l2⟩, l3⟩ := (mem_bfsRows n row).mp h1
      unfold bfsNext at h2
      obtain ⟨i, hi, h2⟩ := List.mem_flatMap.mp h2
      have hn : row ≠ [] := fun e => by rw [e] at l1; simp at l1
      split at h2
      · rename_i q
        have : r = row ++ [i] := by simpa using h2
        subst this
        rw [last_of bs l2 hn] at q
        refine ⟨by simp [l1], ⟨a, bOth bs i, (chain_snoc bs).mpr ⟨q.1 ▸ l2, List.mem_range.mp hi, rfl⟩⟩, ?_⟩
        rw [List.map_append, List.nodup_append]
        exact ⟨l3, by simp, fun x hx y hy e => q.2 (by have : y = bOne bs i := (by simpa using hy); rw [← this, ← e]; exact hx)⟩
      · cases h2
    · rintro ⟨h1, ⟨a, z, h2⟩, h3⟩
      obtain h0 | ⟨row, i, e⟩ := List.eq_nil_or_concat r
      · subst h0
        simp at h1
      · rw [List.concat_eq_append] at e
        subst e
        rw [chain_snoc] at h2
        rw [List.map_append, List.nodup_append] at h3
        have hl : row.length = n + 1 := by simpa using h1
        have hn : row ≠ [] := fun e => by rw [e] at hl; simp at hl
        refine ⟨row, (mem_bfsRows n row).mpr ⟨hl, ⟨a, _, h2.1⟩, h3.1⟩, ?_⟩
        unfold bfsNext
        refine List.mem_flatMap.mpr ⟨i, List.mem_range.mpr h2.2.1, ?_⟩
        rw [if_pos ⟨(last_of bs h2.1 hn).symm, fun hx => h3.2.2 _ hx (bOne bs i) (by simp) rfl⟩]
        simp
theorem bfsNext_pre {row r : List Nat} (h : r ∈ bfsNext bs row) : ∃ i, r = row ++ [i] := by
  unfold bfsNext at h
  obtain ⟨i, hi, h⟩ := List.mem_flatMap.mp h
  split at h
  · exact ⟨i, by simpa using h⟩
  · cases h
theorem bfsRows_nodup : ∀ n, (bfsRows bs n).Nodup
  | 0 => by
    unfold bfsRows
    unfold List.Nodup
    rw [List.pairwise_map]
    exact List.Pairwise.imp (fun h e => h (by simpa using e)) (List.nodup_range (n := bs.length))
  | n + 1 => by
    unfold bfsRows
    unfold List.Nodup
    rw [List.pairwise_flatMap]
    refine ⟨fun row _ => ?_, List.Pairwise.imp (fun {u w} huw x hx y hy e => ?_) (bfsRows_nodup n)⟩
    · unfold bfsNext
      refine nodup_flat _ (fun i => ?_) (fun i j r hi hj => ?_)
      · split <;> simp
      · split at hi
        · split at hj
          · have e1 : r = row ++ [i] := by simpa using hi
            have e2 : r = row ++ [j] := by simpa using hj
            have e3 := e1.symm.trans e2
            simpa using e3
          · cases hj
        · cases hi
    · obtain ⟨i, e1⟩ := bfsNext_pre bs hx
      obtain ⟨j, e2⟩ := bfsNext_pre bs hy
      rw [e1, e2] at e
      exact huw (List.append_inj_left' e rfl)
theorem bAll_nodup (S : Nat) : (bAll bs S).Nodup := by
  refine nodup_flat _ (fun i => List.Pairwise.filter _ (bfsRows_nodup bs i)) (fun i j r hi hj => ?_)
  have h1 := ((mem_bfsRows bs i r).mp (List.mem_filter.mp hi).1).1
  have h2 := ((mem_bfsRows bs j r).mp (List.mem_filter.mp hj).1).1
  omega
theorem mem_bAll {S : Nat} (h : Steps bs S) (r : List Nat) : r ∈ bAll bs S ↔ IsRing bs r := by
  unfold bAll
  rw [List.mem_flatMap]
  constructor
  · rintro ⟨k, hk, hr⟩
    obtain ⟨h1, h2⟩ := List.mem_filter.mp hr
    obtain ⟨l1, ⟨a, z, l2⟩, l3⟩ := (mem_bfsRows bs k r).mp h1
    have hn : r ≠ [] := fun e => by rw [e] at l1; simp at l1
    unfold bfsGood at h2
    rw [Bool.and_eq_true, decide_eq_true_eq, List.all_eq_true, last_of bs l2 hn, head_of bs l2 hn] at h2
    obtain ⟨e, h3⟩ := h2
    subst e
    exact ⟨z, hn, l2, l3, fun i hi => by simpa using h3 i hi⟩
  · rintro ⟨a, hr⟩
    have hlen := ring_len bs h hr
    have hpos : 0 < r.length := List.length_pos_iff.mpr hr.ne
    refine ⟨r.length - 1, List.mem_range.mpr (by omega), List.mem_filter.mpr ⟨(mem_bfsRows bs _ r).mpr ⟨by omega, ⟨a, a, hr.ch⟩, hr.nd⟩, ?_⟩⟩
    unfold bfsGood
    rw [Bool.and_eq_true, decide_eq_true_eq, List.all_eq_true, last_of bs hr.ch hr.ne, head_of bs hr.ch hr.ne]
    exact ⟨rfl, fun i hi => by simpa using hr.lo i hi⟩
theorem all_perm {S : Nat} (h : Steps bs S) : (dAll bs S).Perm (bAll bs S) := by
  rw [List.perm_ext_iff_of_nodup (dAll_nodup bs S) (bAll_nodup bs S)]
  exact fun r => (mem_dAll bs h r).trans (mem_bAll bs h r).symm
end
end DL

set_option Elab.async false
set_option linter.all false
set_option maxRecDepth 100000
set_option maxHeartbeats 4000000
/-! What the defs are to do: draws, loops. -/
namespace DL
open PySem L2
structure Ad where
  LoopError : Addr
  BadCosts : Addr
  BadDistance : Addr
  BadLimit : Addr
  BadLine : Addr
  BadMachines : Addr
  BadMove : Addr
  BadPlan : Addr
  BadSeen : Addr
  BadSteps : Addr
  BadTurns : Addr
  BadWaits : Addr
  Desk : Addr
  Lane : Addr
  Loop : Addr
  NotThere : Addr
  Reading : Addr
  Stuck : Addr
  TooMany : Addr
def tyOk (v : PD) : Bool := match v with | .ins _ _ => false | .fz _ => false | _ => true
def isFrom (v : PD) (lo hi : Int) : Bool := match v with | .int i => decide (lo ≤ i) && decide (i ≤ hi) | _ => false
def r_is_from (q : Ad) : RP := fun args P _ => match args with | [v, .int lo, .int hi] => tyOk v = true ∧ P (.bl (isFrom v lo hi)) | _ => False
def isStep (kinds : Int) (v : PD) : Bool := match v with | .tup [a, b] => isFrom a 0 (kinds - 1) && isFrom b 1 3 | _ => false
def isWait (many : Int) (v : PD) : Bool := match v with | .tup [a, b, c, d] => isFrom a 0 (many - 1) && (isFrom b 0 (many - 1) && (isFrom c 0 6 && isFrom d 0 3)) | _ => false
def r_is_step (q : Ad) : RP := fun args P _ => match args with | [.int k, v] => v.ok 20 = true ∧ P (.bl (isStep k v)) | _ => False
def r_is_wait (q : Ad) : RP := fun args P _ => match args with | [.int k, v] => v.ok 20 = true ∧ P (.bl (isWait k v)) | _ => False
structure Lp where
  counts : List Int
  rows : List (Int × Int)
  bars : List (Int × Int × Int × Int)
def rowP (r : Int × Int) : PD := .tup [.int r.1, .int r.2]
def barP (b : Int × Int × Int × Int) : PD := .tup [.int b.1, .int b.2.1, .int b.2.2.1, .int b.2.2.2]
def intsP (l : List Int) : PD := .tup (l.map .int)
def Lp.cP (l : Lp) : PD := intsP l.counts
def Lp.rP (l : Lp) : PD := .tup (l.rows.map rowP)
def Lp.bP (l : Lp) : PD := .tup (l.bars.map barP)
def Lp.fs (l : Lp) : List (Str × PD) := [(("counts" : Str), l.cP), (("rows" : Str), l.rP), (("bars" : Str), l.bP)]
def Lp.pd (q : Ad) (l : Lp) : PD := .ins q.Loop l.fs
structure Lp.Ok (l : Lp) : Prop where
  c1 : 1 ≤ l.counts.length
  c3 : l.counts.length ≤ 3
  cc : ∀ c ∈ l.counts, 1 ≤ c ∧ c ≤ 3
  s1 : 1 ≤ l.rows.length
  s5 : l.rows.length ≤ 5
  rr : ∀ r ∈ l.rows, 0 ≤ r.1 ∧ r.1 < l.counts.length ∧ 1 ≤ r.2 ∧ r.2 ≤ 3
  b10 : l.bars.length ≤ 10
  bb : ∀ b ∈ l.bars, 0 ≤ b.1 ∧ b.1 < l.rows.length ∧ 0 ≤ b.2.1 ∧ b.2.1 < l.rows.length ∧ 0 ≤ b.2.2.1 ∧ b.2.2.1 ≤ 6 ∧ 0 ≤ b.2.2.2 ∧ b.2.2.2 ≤ 3
  nd : l.bars.Nodup
/-- C(..) that raises nothing -/
def r_Loopz_initz (q : Ad) : RR := fun m args P _ => ∃ l : Lp, m = .ins q.Loop [] ∧ args = [l.cP, l.rP, l.bP] ∧ l.Ok ∧ P .non (.ins q.Loop (pf l.fs))
/-- a row of draws -/
def Row (m : M) : Prop := ∃ (cells : List Int) (i b s : Int), m = .lst [.lst (cells.map .int), .int i, .int b, .int s] ∧ 0 ≤ i ∧ 0 ≤ b ∧ 0 ≤ s ∧ s < 2147483647
def r__law_draws (q : Ad) : RN := fun args P _ => match args with | [.fz xs] => ∃ ns : List Int, xs = ns.map .int ∧ ∀ m, Row m → P m | _ => False
def r__law_pick (q : Ad) : RR := fun m args P _ => Row m ∧ match args with | [.int many] => 0 < many ∧ many < 1073741824 ∧ ∀ r m', 0 ≤ r → r < many → Row m' → P (.int r) m' | _ => False
structure Lp.Dr (most waits : Nat) (l : Lp) : Prop where
  ok : l.Ok
  c2 : l.counts.length ≤ 2
  cc : ∀ c ∈ l.counts, c ≤ 2
  ss : l.rows.length ≤ most
  rb : ∀ r ∈ l.rows, r.2 ≤ 2
  ws : l.bars.length ≤ waits
  bm : ∀ b ∈ l.bars, b.2.2.1 ≤ 3
  br : ∀ b ∈ l.bars, b.2.2.2 ≤ 2
def Lp.tp (l : Lp) : PD := .tup [l.cP, l.rP, l.bP]
def r__law_loop (q : Ad) : RR := fun m args P _ => Row m ∧ ∃ most waits : Nat, args = [.int most, .int waits] ∧ 1 ≤ most ∧ most ≤ 5 ∧ waits ≤ 10 ∧ ∀ (l : Lp) m', l.Dr most waits → Row m' → P l.tp m'
def r__law_made (q : Ad) : RP := fun args P _ => ∃ l : Lp, args = [l.tp] ∧ l.Ok ∧ P (l.pd q)
def r__law_up (q : Ad) : RP := fun args P _ => match args with | [.int a, .int b] => 0 < b ∧ b < 1073741824 ∧ P (.int (0 - (0 - a) / b)) | _ => False
end DL

set_option Elab.async false
set_option linter.all false
set_option maxRecDepth 100000
set_option maxHeartbeats 4000000
namespace DL
open PySem L2
/-! is_from -/
def w_is_from_1 (q : Ad) : WS := (wRet (wAndV (wIsT "int" (wVar 0)) (wAndV (wNotV (wIsT "bool" (wVar 0))) (wChain fLe fLe (wVar 1) (wVar 0) (wVar 2)))))
def w_is_from (q : Ad) : WS := (w_is_from_1 q)
abbrev n_is_from : List Str := ["value", "low", "high"]
/-! is_step -/
def w_is_step_1 (q : Ad) : WS := (wRet (wC (.bl false)))
def w_is_step_2 (q : Ad) : WS := (wRet (wCallP0 (r_is_from q) (wCons (wBin fIx (wVar 1) (wC (.int 1))) (wCons (wC (.int 1)) (wCons (wC (.int (3))) wNil)))))
def w_is_step_3 (q : Ad) : WS := (wSeq (wIfS (wTOr (wTNot (wTest (wIsT "tuple" (wVar 1)))) (wTOr (wTest (wBin fNe (wCB fLen (wCons (wVar 1) wNil)) (wC (.int 2)))) (wTNot (wTest (wCallP0 (r_is_from q) (wCons (wBin fIx (wVar 1) (wC (.int 0))) (wCons (wC (.int 0)) (wCons (wBin fSub (wVar 0) (wC (.int 1))) wNil)))))))) (w_is_step_1 q) wNext) (w_is_step_2 q))
def w_is_step (q : Ad) : WS := (w_is_step_3 q)
abbrev n_is_step : List Str := ["kinds", "value"]
/-! is_wait -/
def w_is_wait_1 (q : Ad) : WS := (wRet (wC (.bl false)))
def w_is_wait_2 (q : Ad) : WS := (wRet (wAndV (wCallP0 (r_is_from q) (wCons (wBin fIx (wVar 1) (wC (.int 2))) (wCons (wC (.int 0)) (wCons (wC (.int (6))) wNil)))) (wCallP0 (r_is_from q) (wCons (wBin fIx (wVar 1) (wC (.int 3))) (wCons (wC (.int 0)) (wCons (wC (.int (3))) wNil))))))
def w_is_wait_3 (q : Ad) : WS := (wSeq (wIfS (wTOr (wTNot (wTest (wIsT "tuple" (wVar 1)))) (wTOr (wTest (wBin fNe (wCB fLen (wCons (wVar 1) wNil)) (wC (.int 4)))) (wTNot (wTest (wCB fAll (wCons (wLc [2] (wiSeq (wSl (wVar 1) wNoPart (wPart (wC (.int 2))))) (wgName 2) wtYes (wCallP0 (r_is_from q) (wCons (wVar 2) (wCons (wC (.int 0)) (wCons (wBin fSub (wVar 0) (wC (.int 1))) wNil))))) wNil)))))) (w_is_wait_1 q) wNext) (w_is_wait_2 q))
def w_is_wait (q : Ad) : WS := (w_is_wait_3 q)
abbrev n_is_wait : List Str := ["many", "value", "one"]
/-! Loop.__init__ -/
def w_Loopz_initz_1 (q : Ad) : WS := wNever
def w_Loopz_initz_2 (q : Ad) : WS := wNever
def w_Loopz_initz_3 (q : Ad) : WS := wNever
def w_Loopz_initz_4 (q : Ad) : WS := wNever
def w_Loopz_initz_5 (q : Ad) : WS := (wIfS (wTNot (wTest (wCallP0 (r_is_step q) (wCons (wCB fLen (wCons (wVar 1) wNil)) (wCons (wVar 6) wNil))))) (w_Loopz_initz_4 q) wNext)
def w_Loopz_initz_6 (q : Ad) : WS := wNever
def w_Loopz_initz_7 (q : Ad) : WS := wNever
def w_Loopz_initz_8 (q : Ad) : WS := (wIfS (wTOr (wTNot (wTest (wCallP0 (r_is_wait q) (wCons (wCB fLen (wCons (wVar 2) wNil)) (wCons (wVar 7) wNil))))) (wTest (wBin (fIn false) (wVar 7) (wSl (wVar 3) wNoPart (wPart (wVar 5)))))) (w_Loopz_initz_7 q) wNext)
def w_Loopz_initz_9 (q : Ad) : WS := (wFldS q.Loop "bars" (wVar 0) (wVar 3))
def w_Loopz_initz_10 (q : Ad) : WS := (wSeq (wFldS q.Loop "rows" (wVar 0) (wVar 2)) (w_Loopz_initz_9 q))
def w_Loopz_initz_11 (q : Ad) : WS := (wSeq (wFldS q.Loop "counts" (wVar 0) (wVar 1)) (w_Loopz_initz_10 q))
def w_Loopz_initz_12 (q : Ad) : WS := (wSeq (wFor (wiEnum (wCons (wVar 3) wNil)) (wgTup 2 (wgCons (wgName 5) (wgCons (wgName 7) wgNil))) (w_Loopz_initz_8 q)) (w_Loopz_initz_11 q))
def w_Loopz_initz_13 (q : Ad) : WS := (wSeq (wIfS (wTOr (wTNot (wTest (wIsT "tuple" (wVar 3)))) (wTest (wBin fGt (wCB fLen (wCons (wVar 3) wNil)) (wC (.int (10)))))) (w_Loopz_initz_6 q) wNext) (w_Loopz_initz_12 q))
def w_Loopz_initz_14 (q : Ad) : WS := (wSeq (wFor (wiEnum (wCons (wVar 2) wNil)) (wgTup 2 (wgCons (wgName 5) (wgCons (wgName 6) wgNil))) (w_Loopz_initz_5 q)) (w_Loopz_initz_13 q))
def w_Loopz_initz_15 (q : Ad) : WS := (wSeq (wIfS (wTOr (wTNot (wTest (wIsT "tuple" (wVar 2)))) (wTNot (wTest (wChain fLe fLe (wC (.int 1)) (wCB fLen (wCons (wVar 2) wNil)) (wC (.int (5))))))) (w_Loopz_initz_3 q) wNext) (w_Loopz_initz_14 q))
def w_Loopz_initz_16 (q : Ad) : WS := (wSeq (wIfS (wTNot (wTest (wCB fAll (wCons (wLc [4] (wiSeq (wVar 1)) (wgName 4) wtYes (wCallP0 (r_is_from q) (wCons (wVar 4) (wCons (wC (.int 1)) (wCons (wC (.int (3))) wNil))))) wNil)))) (w_Loopz_initz_2 q) wNext) (w_Loopz_initz_15 q))
def w_Loopz_initz_17 (q : Ad) : WS := (wSeq (wIfS (wTOr (wTNot (wTest (wIsT "tuple" (wVar 1)))) (wTNot (wTest (wChain fLe fLe (wC (.int 1)) (wCB fLen (wCons (wVar 1) wNil)) (wC (.int (3))))))) (w_Loopz_initz_1 q) wNext) (w_Loopz_initz_16 q))
def w_Loopz_initz (q : Ad) : WS := (w_Loopz_initz_17 q)
abbrev n_Loopz_initz : List Str := ["self", "machines", "steps", "waits", "count", "index", "step", "wait"]
/-! _law_draws -/
def w__law_draws_1 (q : Ad) : WS := (wRet (wLstC (wCons (wCB fList (wCons (wVar 0) wNil)) (wCons (wC (.int 0)) (wCons (wC (.int 0)) (wCons (wC (.int 7)) wNil))))))
def w__law_draws (q : Ad) : WS := (w__law_draws_1 q)
abbrev n__law_draws : List Str := ["_law_script"]
/-! _law_pick -/
def w__law_pick_1 (q : Ad) : WS := (wAsg (wVar 2) (wgSub (wVar 0) (wC (.int 2))))
def w__law_pick_2 (q : Ad) : WS := (wAsg (wBin fMod (wCB fInt (wCons (wBin fAdd (wBin fAdd (wBin fMul (wBin fIx (wVar 0) (wC (.int 3))) (wC (.int 48271))) (wBin fMul (wVar 2) (wC (.int 69621)))) (wC (.int 11))) wNil)) (wC (.int 2147483647))) (wgSub (wVar 0) (wC (.int 3))))
def w__law_pick_3 (q : Ad) : WS := (wIfS (wTest (wBin fGe (wVar 2) (wBin fPow (wC (.int 10)) (wC (.int 18))))) (w__law_pick_1 q) (w__law_pick_2 q))
def w__law_pick_4 (q : Ad) : WS := (wSeq (wAsg (wBin fAdd (wBin fIx (wVar 0) (wC (.int 1))) (wC (.int 1))) (wgSub (wVar 0) (wC (.int 1)))) (w__law_pick_3 q))
def w__law_pick_5 (q : Ad) : WS := (wSeq (wSet 2 (wBin fIx (wBin fIx (wVar 0) (wC (.int 0))) (wBin fIx (wVar 0) (wC (.int 1))))) (w__law_pick_4 q))
def w__law_pick_6 (q : Ad) : WS := (wAsg (wBin fMod (wCB fInt (wCons (wBin fAdd (wBin fMul (wBin fIx (wVar 0) (wC (.int 3))) (wC (.int 48271))) (wC (.int 7))) wNil)) (wC (.int 2147483647))) (wgSub (wVar 0) (wC (.int 3))))
def w__law_pick_7 (q : Ad) : WS := (wIfS (wTest (wBin fLt (wBin fIx (wVar 0) (wC (.int 1))) (wCB fLen (wCons (wBin fIx (wVar 0) (wC (.int 0))) wNil)))) (w__law_pick_5 q) (w__law_pick_6 q))
def w__law_pick_8 (q : Ad) : WS := (wRet (wVar 3))
def w__law_pick_9 (q : Ad) : WS := (wSeq (wAsg (wBin fDiv (wBin fIx (wVar 0) (wC (.int 2))) (wVar 1)) (wgSub (wVar 0) (wC (.int 2)))) (w__law_pick_8 q))
def w__law_pick_10 (q : Ad) : WS := (wSeq (wSet 3 (wBin fMod (wCB fInt (wCons (wBin fIx (wVar 0) (wC (.int 2))) wNil)) (wVar 1))) (w__law_pick_9 q))
def w__law_pick_11 (q : Ad) : WS := (wRet (wBin fMod (wBin fMod (wCB fInt (wCons (wBin fMul (wBin fIx (wVar 0) (wC (.int 3))) (wC (.int 16807))) wNil)) (wC (.int 2147483629))) (wVar 1)))
def w__law_pick_12 (q : Ad) : WS := (wSeq (wIfS (wTest (wBin fGt (wBin fIx (wVar 0) (wC (.int 2))) (wC (.int 0)))) (w__law_pick_10 q) wNext) (w__law_pick_11 q))
def w__law_pick_13 (q : Ad) : WS := (wSeq (wIfS (wTest (wBin fEq (wBin fIx (wVar 0) (wC (.int 2))) (wC (.int 0)))) (w__law_pick_7 q) wNext) (w__law_pick_12 q))
def w__law_pick (q : Ad) : WS := (w__law_pick_13 q)
abbrev n__law_pick : List Str := ["_law_row", "_law_many", "_law_cell", "_law_found"]
/-! _law_loop -/
def w__law_loop_1 (q : Ad) : WS := (wSet 10 (wC (.int 1)))
def w__law_loop_2 (q : Ad) : WS := (wSet 7 (wBin fAdd (wVar 7) (wTup (wCons (wVar 11) wNil))))
def w__law_loop_3 (q : Ad) : WS := (wIfS (wTest (wBin (fIn true) (wVar 11) (wVar 7))) (w__law_loop_2 q) wNext)
def w__law_loop_4 (q : Ad) : WS := (wSeq (wSet 11 (wTup (wCons (wVar 8) (wCons (wVar 9) (wCons (wCallR0 (r__law_pick q) (wCons (wVar 0) (wCons (wC (.int 4)) wNil))) (wCons (wVar 10) wNil)))))) (w__law_loop_3 q))
def w__law_loop_5 (q : Ad) : WS := (wSeq (wIfS (wTAnd (wTest (wBin fGe (wVar 8) (wVar 9))) (wTAnd (wTest (wBin fEq (wVar 10) (wC (.int 0)))) (wTest (wBin fGt (wCallR0 (r__law_pick q) (wCons (wVar 0) (wCons (wC (.int 16)) wNil))) (wC (.int 0)))))) (w__law_loop_1 q) wNext) (w__law_loop_4 q))
def w__law_loop_6 (q : Ad) : WS := (wSeq (wSet 10 (wCB fMaxL (wCons (wC (.int 0)) (wCons (wBin fSub (wCallR0 (r__law_pick q) (wCons (wVar 0) (wCons (wC (.int 4)) wNil))) (wC (.int 1))) wNil)))) (w__law_loop_5 q))
def w__law_loop_7 (q : Ad) : WS := (wSeq (wPar 8 9 (wCons (wCallR0 (r__law_pick q) (wCons (wVar 0) (wCons (wCB fLen (wCons (wVar 6) wNil)) wNil))) (wCons (wCallR0 (r__law_pick q) (wCons (wVar 0) (wCons (wCB fLen (wCons (wVar 6) wNil)) wNil))) wNil))) (w__law_loop_6 q))
def w__law_loop_8 (q : Ad) : WS := (wRet (wTup (wCons (wVar 4) (wCons (wVar 6) (wCons (wVar 7) wNil)))))
def w__law_loop_9 (q : Ad) : WS := (wSeq (wFor (wiRng1 (wCons (wCallR0 (r__law_pick q) (wCons (wVar 0) (wCons (wBin fAdd (wVar 2) (wC (.int 1))) wNil))) wNil)) (wgName 5) (w__law_loop_7 q)) (w__law_loop_8 q))
def w__law_loop_10 (q : Ad) : WS := (wSeq (wSet 7 (wTup wNil)) (w__law_loop_9 q))
def w__law_loop_11 (q : Ad) : WS := (wSeq (wSet 6 (wCB fTuple (wCons (wLc [5] (wiRng1 (wCons (wBin fAdd (wC (.int 1)) (wCallR0 (r__law_pick q) (wCons (wVar 0) (wCons (wVar 1) wNil)))) wNil)) (wgName 5) wtYes (wTup (wCons (wCallR0 (r__law_pick q) (wCons (wVar 0) (wCons (wVar 3) wNil))) (wCons (wBin fAdd (wC (.int 1)) (wCB fMaxL (wCons (wC (.int 0)) (wCons (wBin fSub (wCallR0 (r__law_pick q) (wCons (wVar 0) (wCons (wC (.int 4)) wNil))) (wC (.int 2))) wNil)))) wNil)))) wNil))) (w__law_loop_10 q))
def w__law_loop_12 (q : Ad) : WS := (wSeq (wSet 4 (wCB fTuple (wCons (wLc [5] (wiRng1 (wCons (wVar 3) wNil)) (wgName 5) wtYes (wBin fAdd (wC (.int 1)) (wCB fMaxL (wCons (wC (.int 0)) (wCons (wBin fSub (wCallR0 (r__law_pick q) (wCons (wVar 0) (wCons (wC (.int 4)) wNil))) (wC (.int 2))) wNil))))) wNil))) (w__law_loop_11 q))
def w__law_loop_13 (q : Ad) : WS := (wSeq (wSet 3 (wBin fAdd (wC (.int 1)) (wCallR0 (r__law_pick q) (wCons (wVar 0) (wCons (wC (.int 2)) wNil))))) (w__law_loop_12 q))
def w__law_loop (q : Ad) : WS := (w__law_loop_13 q)
abbrev n__law_loop : List Str := ["_law_row", "_law_most", "_law_waits", "_law_kinds", "_law_machines", "_law_k", "_law_steps", "_law_found", "_law_one", "_law_other", "_law_rounds", "_law_wait"]
/-! _law_made -/
def w__law_made_1 (q : Ad) : WS := (wRet (wMake0 q.Loop (r_Loopz_initz q) (wCons (wBin fIx (wVar 0) (wC (.int 0))) (wCons (wBin fIx (wVar 0) (wC (.int 1))) (wCons (wBin fIx (wVar 0) (wC (.int 2))) wNil)))))
def w__law_made (q : Ad) : WS := (w__law_made_1 q)
abbrev n__law_made : List Str := ["_law_f"]
/-! _law_up -/
def w__law_up_1 (q : Ad) : WS := (wRet (wBin fSub (wC (.int 0)) (wBin fDiv (wBin fSub (wC (.int 0)) (wVar 0)) (wVar 1))))
def w__law_up (q : Ad) : WS := (w__law_up_1 q)
abbrev n__law_up : List Str := ["_law_one", "_law_other"]
end DL

set_option Elab.async false
set_option linter.all false
set_option maxRecDepth 100000
set_option maxHeartbeats 4000000
namespace DL
open PySem L2
/-! ### what the words come to, by cases -/
theorem kit_nt : kitB "NoneType" "tuple" = some false := by decide +kernel
theorem kit_bt : kitB "bool" "tuple" = some false := by decide +kernel
theorem kit_it : kitB "int" "tuple" = some false := by decide +kernel
theorem kit_st : kitB "str" "tuple" = some false := by decide +kernel
theorem kit_tt : kitB "tuple" "tuple" = some true := by decide +kernel
theorem kit_lt : kitB "list" "tuple" = some false := by decide +kernel
theorem kit_ni : kitB "NoneType" "int" = some false := by decide +kernel
theorem kit_bi : kitB "bool" "int" = some true := by decide +kernel
theorem kit_ii : kitB "int" "int" = some true := by decide +kernel
theorem kit_si : kitB "str" "int" = some false := by decide +kernel
theorem kit_ti : kitB "tuple" "int" = some false := by decide +kernel
theorem kit_li : kitB "list" "int" = some false := by decide +kernel
theorem kit_nb : kitB "NoneType" "bool" = some false := by decide +kernel
theorem kit_bb : kitB "bool" "bool" = some true := by decide +kernel
theorem kit_ib : kitB "int" "bool" = some false := by decide +kernel
theorem kit_sb : kitB "str" "bool" = some false := by decide +kernel
theorem kit_tb : kitB "tuple" "bool" = some false := by decide +kernel
theorem kit_lb : kitB "list" "bool" = some false := by decide +kernel
theorem atI_nat {α : Type} (xs : List α) (n : Nat) : L2.atI xs (n : Int) = xs[n]? := by
  unfold L2.atI L2.ixN
  by_cases h : n < xs.length
  · have h1 : (0 : Int) ≤ (n : Int) ∧ (n : Int) < xs.length := by omega
    simp [h1, h]
  · have h1 : ¬ ((n : Int) < xs.length) := by omega
    have h2 : ¬ ((n : Int) < 0) := by omega
    have e : xs[n]? = none := List.getElem?_eq_none (by omega)
    rw [e]
    simp [h1, h2]
theorem atI_zero {α : Type} (xs : List α) : L2.atI xs 0 = xs[0]? := atI_nat xs 0
theorem atI_one {α : Type} (xs : List α) : L2.atI xs 1 = xs[1]? := atI_nat xs 1
theorem atI_two {α : Type} (xs : List α) : L2.atI xs 2 = xs[2]? := atI_nat xs 2
theorem atI_three {α : Type} (xs : List α) : L2.atI xs 3 = xs[3]? := atI_nat xs 3
theorem atI_four {α : Type} (xs : List α) : L2.atI xs 4 = xs[4]? := atI_nat xs 4
theorem ok_int {n : Nat} {i : Int} : (PD.int i).ok n = true := by cases n <;> rfl
theorem ok_non {n : Nat} : PD.non.ok n = true := by cases n <;> rfl
theorem ok_bl {n : Nat} {b : Bool} : (PD.bl b).ok n = true := by cases n <;> rfl
theorem eqv_int {i j : Int} : PD.eqv (.int i) (.int j) = decide (i = j) := by
  show (i == j) = decide (i = j)
  rfl
theorem ix40 : L2.ixN (0 + 1 + 1 + 1 + 1) 0 = some 0 := by rfl
theorem ix41 : L2.ixN (0 + 1 + 1 + 1 + 1) 1 = some 1 := by rfl
theorem ix42 : L2.ixN (0 + 1 + 1 + 1 + 1) 2 = some 2 := by rfl
theorem ix43 : L2.ixN (0 + 1 + 1 + 1 + 1) 3 = some 3 := by rfl
section
variable {i j k : Int} {m : Mu} {P : PDn} {xs ys : List PD} {n : Nat} {y : D} {a b : Str} {c : Bool}
theorem fAdd_ii : fAdd (.p (.int i)) (.p (.int j)) m P = P (.p (.int (i + j))) m := rfl
theorem fAdd_tt : fAdd (.p (.tup xs)) (.p (.tup ys)) m P = (xs.length + ys.length ≤ big ∧ P (.p (.tup (xs ++ ys))) m) := rfl
theorem fAdd_ss : fAdd (.p (.str a)) (.p (.str b)) m P = (a.length + b.length ≤ big ∧ P (.p (.str (a ++ b))) m) := rfl
theorem fAdd_ll : fAdd (.p (.lst xs)) (.p (.lst ys)) m P = (xs.length + ys.length ≤ big ∧ P (.p (.lst (xs ++ ys))) m) := rfl
theorem fAdd_c : fAdd (.c n) y m P = (match lsOf (.c n) m, lsOf y m with | some xs, some ys => xs.length + ys.length ≤ big ∧ P (.p (.lst (xs ++ ys))) m | _, _ => False) := by
  cases y with
  | p x => cases x <;> rfl
  | c n => rfl
theorem fAdd_lc : fAdd (.p (.lst xs)) (.c n) m P = (match lsOf (.c n) m with | some ys => xs.length + ys.length ≤ big ∧ P (.p (.lst (xs ++ ys))) m | _ => False) := by
  unfold fAdd
  simp only [lsOf]
  cases m[n]? with
  | none => rfl
  | some c => cases c <;> rfl
theorem fMul_ii : fMul (.p (.int i)) (.p (.int j)) m P = (CMul i j ∧ P (.p (.int (i * j))) m) := rfl
theorem fMul_ti : fMul (.p (.tup xs)) (.p (.int k)) m P = (xs ≠ [] ∧ 2 ≤ k ∧ k ≤ 1000 ∧ xs.length ≤ 1000 ∧ P (.p (.tup (repP xs k))) m) := rfl
theorem fMul_li : fMul (.p (.lst xs)) (.p (.int k)) m P = (-(2 ^ 63) ≤ k ∧ k < 2 ^ 63 ∧ xs.length * k.toNat ≤ big ∧ P (.p (.lst (repP xs k))) m) := rfl
theorem fMul_ci : fMul (.c n) (.p (.int k)) m P = (match lsOf (.c n) m with | some xs => -(2 ^ 63) ≤ k ∧ k < 2 ^ 63 ∧ xs.length * k.toNat ≤ big ∧ P (.p (.lst (repP xs k))) m | none => False) := rfl
theorem fSub_ii : fSub (.p (.int i)) (.p (.int j)) m P = P (.p (.int (i - j))) m := rfl
theorem fDiv_ii : fDiv (.p (.int i)) (.p (.int j)) m P = (CDiv i j ∧ P (.p (.int (i / j))) m) := rfl
theorem fMod_ii : fMod (.p (.int i)) (.p (.int j)) m P = (0 < j ∧ P (.p (.int (i % j))) m) := rfl
theorem fPow_ii : fPow (.p (.int i)) (.p (.int j)) m P = (CPow i j ∧ P (.p (.int (i ^ j.toNat))) m) := rfl
theorem fLt_ii : fLt (.p (.int i)) (.p (.int j)) m P = P (.p (.bl (decide (i < j)))) m := rfl
theorem fLe_ii : fLe (.p (.int i)) (.p (.int j)) m P = P (.p (.bl (decide (i ≤ j)))) m := rfl
theorem fGt_ii : fGt (.p (.int i)) (.p (.int j)) m P = P (.p (.bl (decide (j < i)))) m := rfl
theorem fGe_ii : fGe (.p (.int i)) (.p (.int j)) m P = P (.p (.bl (decide (j ≤ i)))) m := rfl
theorem fNeg_i : fNeg (.p (.int i)) m P = P (.p (.int (-i))) m := rfl
theorem fLen_s : fLen [.p (.str a)] m P = (a.length ≤ big ∧ P (.p (.int a.length)) m) := rfl
theorem fLen_t : fLen [.p (.tup xs)] m P = P (.p (.int xs.length)) m := rfl
theorem fLen_l : fLen [.p (.lst xs)] m P = P (.p (.int xs.length)) m := rfl
theorem fLen_c : fLen [.c n] m P = (match sqOf (.c n) m with | some xs => P (.p (.int xs.length)) m | none => False) := rfl
theorem fMax_ii : fMaxL [.p (.int i), .p (.int j)] m P = P (.p (.int (max i j))) m := by
  show (True ∧ _) = _
  rw [true_and]
  rfl
theorem fMax_iii : fMaxL [.p (.int i), .p (.int j), .p (.int k)] m P = P (.p (.int (max i (max j k)))) m := by
  show (True ∧ _) = _
  rw [true_and]
  rfl
theorem fMax_l : fMaxL [.p (.lst xs)] m P = (match intsOf (.p (.lst xs)) m with | some ns => ns ≠ [] ∧ P (.p (.int (maxI ns))) m | none => False) := by
  show (True ∧ _) = _
  rw [true_and]
  rfl
theorem fMin_ii : fMin [.p (.int i), .p (.int j)] m P = P (.p (.int (min i j))) m := rfl
theorem fMin_t : fMin [.p (.tup xs)] m P = (match intsOf (.p (.tup xs)) m with | some ns => ns ≠ [] ∧ P (.p (.int (minI ns))) m | none => False) := rfl
theorem fMin_l : fMin [.p (.lst xs)] m P = (match intsOf (.p (.lst xs)) m with | some ns => ns ≠ [] ∧ P (.p (.int (minI ns))) m | none => False) := rfl
theorem fMin_c : fMin [.c n] m P = (match intsOf (.c n) m with | some ns => ns ≠ [] ∧ P (.p (.int (minI ns))) m | none => False) := rfl
theorem fInt_i : fInt [.p (.int i)] m P = P (.p (.int i)) m := rfl
theorem fInt_b : fInt [.p (.bl c)] m P = P (.p (.int (if c then 1 else 0))) m := rfl
theorem fInt_s : fInt [.p (.str a)] m P = (match PySem.intText? a with | some n => a.length ≤ 640 ∧ P (.p (.int n)) m | none => False) := rfl
end
/-! ### comprehensions, by what they give -/
theorem lc_fm {ds : De} {vs : List Nat} {xs : List PD} {stab : Mu → Prop} {wg : WG} {wt : WT} {we : WE} {m : Mu} {F : List PD → Mu → Prop} (f : PD → Option PD) (hb : xs.length ≤ big) (hs : stab m)
    (step : ∀ (i : Nat) x (J : PD → Mu → Prop) (N : Mu → Prop), xs[i]? = some x → (match f x with | some z => J z m | none => N m) →
      wg (.p x) (wipeD ds vs) m (fun ds2 m2 => wt ds2 m2 (fun k m3 => if k = true then we ds2 m3 (fun y m4 => match y with | .p z => J z m4 | .c _ => False) noX else N m3) noX))
    (fin : F (xs.filterMap f) m) : LcI ds vs xs stab wg wt we m F := by
  refine ⟨hb, fun i acc m' => m' = m ∧ acc = (xs.take i).filterMap f, ⟨rfl, by simp⟩, fun i acc m' h => h.1 ▸ hs, fun i x acc m' hx h => ?_, fun acc m' h => ?_⟩
  · obtain ⟨rfl, rfl⟩ := h
    have ht : xs.take (i + 1) = xs.take i ++ [x] := by
      rw [List.take_add_one, hx]
      rfl
    refine step i x (fun z m4 => m4 = m' ∧ (xs.take i).filterMap f ++ [z] = (xs.take (i + 1)).filterMap f) (fun m3 => m3 = m' ∧ (xs.take i).filterMap f = (xs.take (i + 1)).filterMap f) hx ?_
    cases e : f x with
    | some z => exact ⟨rfl, by rw [ht, List.filterMap_append]; simp [e]⟩
    | none => exact ⟨rfl, by rw [ht, List.filterMap_append]; simp [e]⟩
  · obtain ⟨rfl, rfl⟩ := h
    rw [List.take_length]
    exact fin
theorem lc_map {ds : De} {vs : List Nat} {xs : List PD} {stab : Mu → Prop} {wg : WG} {we : WE} {m : Mu} {F : List PD → Mu → Prop} (f : PD → PD) (hb : xs.length ≤ big) (hs : stab m)
    (step : ∀ (i : Nat) x (J : PD → Mu → Prop), xs[i]? = some x → J (f x) m → wg (.p x) (wipeD ds vs) m (fun ds2 m2 => we ds2 m2 (fun y m4 => match y with | .p z => J z m4 | .c _ => False) noX))
    (fin : F (xs.map f) m) : LcI ds vs xs stab wg wtYes we m F := by
  refine lc_fm (fun x => some (f x)) hb hs (fun i x J N hx h => ?_) (by rw [List.filterMap_eq_map']; exact fin)
  exact step i x J hx h
/-- each step may change the cells: what holds of them is kept, each item is such as asked -/
theorem lc_inv {ds : De} {vs : List Nat} {xs : List PD} {stab : Mu → Prop} {wg : WG} {we : WE} {m : Mu} {F : List PD → Mu → Prop} (Inv : Mu → Prop) (Z : PD → Prop) (hb : xs.length ≤ big) (h0 : Inv m) (hs : ∀ m, Inv m → stab m)
    (step : ∀ (i : Nat) x m' (J : PD → Mu → Prop), xs[i]? = some x → Inv m' → (∀ z m2, Z z → Inv m2 → J z m2) → wg (.p x) (wipeD ds vs) m' (fun ds2 m2 => we ds2 m2 (fun y m4 => match y with | .p z => J z m4 | .c _ => False) noX))
    (fin : ∀ acc m', acc.length = xs.length → (∀ z ∈ acc, Z z) → Inv m' → F acc m') : LcI ds vs xs stab wg wtYes we m F := by
  refine ⟨hb, fun i acc m' => acc.length = i ∧ (∀ z ∈ acc, Z z) ∧ Inv m', ⟨rfl, fun _ h => (nomatch h), h0⟩, fun i acc m' h => hs _ h.2.2, fun i x acc m' hx h => ?_, fun acc m' h => fin acc m' h.1 h.2.1 h.2.2⟩
  obtain ⟨h1, h2, h3⟩ := h
  refine step i x m' (fun z m2 => (acc ++ [z]).length = i + 1 ∧ (∀ y ∈ acc ++ [z], Z y) ∧ Inv m2) hx h3 fun z m2 hz hi => ⟨by rw [List.length_append, h1]; rfl, fun y hy => ?_, hi⟩
  rcases List.mem_append.mp hy with e | e
  · exact h2 y e
  · have : y = z := by simpa using e
    exact this ▸ hz
/-! ### equality of plain data -/
def PD.pl : Nat → PD → Bool
  | _, .non => true
  | _, .int _ => true
  | _, .str x => PySem.PyData.canLay0 (.str x)
  | n + 1, .tup xs => xs.all (PD.pl n)
  | n + 1, .lst xs => xs.all (PD.pl n)
  | _, _ => false
theorem pl_ok : ∀ (n : Nat) (x : PD), x.pl n = true → x.ok n = true
  | n, .non, _ => by simp [PD.ok]
  | n, .int _, _ => by simp [PD.ok]
  | n, .str x, h => by cases n <;> simpa [PD.pl, PD.ok] using h
  | 0, .tup xs, h => by simp [PD.pl] at h
  | 0, .lst xs, h => by simp [PD.pl] at h
  | n + 1, .tup xs, h => by
    have h' : ∀ x ∈ xs, x.pl n = true := by simpa [PD.pl] using h
    simp only [PD.ok, List.all_eq_true]
    exact fun x hx => pl_ok n x (h' x hx)
  | n + 1, .lst xs, h => by
    have h' : ∀ x ∈ xs, x.pl n = true := by simpa [PD.pl] using h
    simp only [PD.ok, List.all_eq_true]
    exact fun x hx => pl_ok n x (h' x hx)
  | n, .bl _, h => by cases n <;> simp [PD.pl] at h
  | n, .ins _ _, h => by cases n <;> simp [PD.pl] at h
  | n, .fz _, h => by cases n <;> simp [PD.pl] at h
mutual
theorem eqv_pl : ∀ (n : Nat) (x y : PD), x.pl n = true → y.pl n = true → (PyData.eqv x.py y.py = true ↔ x = y)
  | n, .non, y, _, h => by cases y <;> simp_all [PD.py, PyData.eqv, PD.pl]
  | n, .int i, y, _, h => by cases y <;> simp_all [PD.py, PyData.eqv, PD.pl]
  | n, .str i, y, _, h => by cases y <;> simp_all [PD.py, PyData.eqv, PD.pl]
  | n + 1, .tup xs, y, h1, h2 => by
    have h1' : ∀ x ∈ xs, x.pl n = true := by simpa [PD.pl] using h1
    cases y with
    | tup ys =>
      have h2' : ∀ x ∈ ys, x.pl n = true := by simpa [PD.pl] using h2
      simp only [PD.py, PyData.eqv, PD.tup.injEq]
      exact eqvs_pl n xs ys h1' h2'
    | _ => simp_all [PD.py, PyData.eqv, PD.pl]
  | n + 1, .lst xs, y, h1, h2 => by
    have h1' : ∀ x ∈ xs, x.pl n = true := by simpa [PD.pl] using h1
    cases y with
    | lst ys =>
      have h2' : ∀ x ∈ ys, x.pl n = true := by simpa [PD.pl] using h2
      simp only [PD.py, PyData.eqv, PD.lst.injEq]
      exact eqvs_pl n xs ys h1' h2'
    | _ => simp_all [PD.py, PyData.eqv, PD.pl]
  | 0, .tup xs, y, h, _ => by simp [PD.pl] at h
  | 0, .lst xs, y, h, _ => by simp [PD.pl] at h
  | n, .bl _, _, h, _ => by cases n <;> simp [PD.pl] at h
  | n, .ins _ _, _, h, _ => by cases n <;> simp [PD.pl] at h
  | n, .fz _, _, h, _ => by cases n <;> simp [PD.pl] at h
theorem eqvs_pl : ∀ (n : Nat) (xs ys : List PD), (∀ x ∈ xs, x.pl n = true) → (∀ y ∈ ys, y.pl n = true) → (PyData.eqvAll (PD.pys xs) (PD.pys ys) = true ↔ xs = ys)
  | n, [], [], _, _ => by simp [PD.pys, PyData.eqvAll]
  | n, [], y :: ys, _, _ => by simp [PD.pys, PyData.eqvAll]
  | n, x :: xs, [], _, _ => by simp [PD.pys, PyData.eqvAll]
  | n, x :: xs, y :: ys, h1, h2 => by
    simp only [PD.pys, PyData.eqvAll, Bool.and_eq_true, List.cons.injEq]
    rw [eqv_pl n x y (h1 x (by simp)) (h2 y (by simp)), eqvs_pl n xs ys (fun z hz => h1 z (List.mem_cons_of_mem _ hz)) (fun z hz => h2 z (List.mem_cons_of_mem _ hz))]
end
theorem PD.eqv_iff {x y : PD} {n : Nat} (h1 : x.pl n = true) (h2 : y.pl n = true) : PD.eqv x y = true ↔ x = y := eqv_pl n x y h1 h2
theorem pl_up : ∀ (n k : Nat) (x : PD), n ≤ k → x.pl n = true → x.pl k = true
  | n, k, .non, _, _ => by simp [PD.pl]
  | n, k, .int _, _, _ => by simp [PD.pl]
  | n, k, .str x, _, h => by cases n <;> cases k <;> simpa [PD.pl] using h
  | 0, k, .tup xs, _, h => by simp [PD.pl] at h
  | 0, k, .lst xs, _, h => by simp [PD.pl] at h
  | n + 1, 0, .tup xs, hk, h => by omega
  | n + 1, 0, .lst xs, hk, h => by omega
  | n + 1, k + 1, .tup xs, hk, h => by
    have h' : ∀ x ∈ xs, x.pl n = true := by simpa [PD.pl] using h
    simp only [PD.pl, List.all_eq_true]
    exact fun x hx => pl_up n k x (by omega) (h' x hx)
  | n + 1, k + 1, .lst xs, hk, h => by
    have h' : ∀ x ∈ xs, x.pl n = true := by simpa [PD.pl] using h
    simp only [PD.pl, List.all_eq_true]
    exact fun x hx => pl_up n k x (by omega) (h' x hx)
  | n, k, .bl _, _, h => by cases n <;> simp [PD.pl] at h
  | n, k, .ins _ _, _, h => by cases n <;> simp [PD.pl] at h
  | n, k, .fz _, _, h => by cases n <;> simp [PD.pl] at h
/-! ### is_from, is_step, is_wait -/
theorem z_is_from {q : Ad} (args : List PD) (P : PD → Prop) (Xp : RX) (h : r_is_from q args P Xp) : w_is_from q (enP P Xp) (entry n_is_from.length (args.map D.p)) [] := by
  unfold r_is_from at h
  split at h
  · rename_i v lo hi
    obtain ⟨ht, h⟩ := h
    cases v <;> simp_all only [w_is_from, w_is_from_1, wNext, wSeq, wBreak, wCont, wDrop, wRet, wSet, wPar, wIfS, wgName, wgNil, wgCons, wgTup, tupOf, wgSub, wAsg, putC, wAug, fAddI, fIxL, wAugS, wApp, wExt, putD, wFldS, wVar, dAt, wC, wBin, wUn, fSub_ii, fDiv_ii, fMod_ii, fPow_ii, fLt_ii, fLe_ii, fGt_ii, fGe_ii, fNeg_i, fAdd_ii, fAdd_tt, fAdd_ss, fAdd_ll, fAdd_c, fAdd_lc, fMul_ii, fMul_ti, fMul_li, fMul_ci, fMulC, lsOf, sqOf, wTest, wChain, wTAnd, wTOr, wTNot, wAndV, wOrV, wNotV, wIf, plOf, fEq, fNe, fIn, fIsN, fNotN, isNon, fFld, wFld, fIx, wNoPart, wPart, wSl, wNil, wCons, wStar, allP, allP_map, wTup, wLst, wLstC, wiSeq, wiRng1, wiRng2, wFor, wLc, wLcC, wtYes, wiEnum, wiZip, wCB, fLen_s, fLen_t, fLen_l, fLen_c, fMax_ii, fMax_iii, fMax_l, fMin_ii, fMin_t, fMin_l, fMin_c, fSum, fAll, fAny, fList, fListC, fTuple, fInt_i, fInt_b, fInt_s, fStr, sqF, fIsT, wIsT, tyName, kit_nt, kit_bt, kit_it, kit_st, kit_tt, kit_lt, kit_ni, kit_bi, kit_ii, kit_si, kit_ti, kit_li, kit_nb, kit_bb, kit_ib, kit_sb, kit_tb, kit_lb, wCallP0, wCallR0, wCallN0, wCallP, wCallR, wCallRf, wCallN, wMake, wMake0, wMakeC, wRaise, wNever, En.xp, enP, enR, enN, rtP, rtR, rtN, entry, List.map_cons, List.map_nil, List.cons_append, List.nil_append, List.append_nil, List.length_cons, List.length_nil, List.replicate, List.set_cons_zero, List.set_cons_succ, List.getElem?_cons_zero, List.getElem?_cons_succ, List.getElem?_nil, Option.getD_some, Option.getD_none, ite_true, ite_false, Bool.not_true, Bool.not_false, Bool.true_and, Bool.and_true, Bool.and_false, Bool.false_and, Bool.not_eq_true, Bool.false_eq_true, reduceIte, decide_eq_true_eq, atI_zero, atI_one, atI_two, atI_three, atI_four, wipeD, reduceCtorEq, ok_int, ok_non, ok_bl, eqv_int, ix40, ix41, ix42, ix43, Int.toNat_natCast, true_and, and_true, isFrom, tyOk]
    rename_i i
    by_cases h1 : lo ≤ i
    · simp only [h1, wNext, wSeq, wBreak, wCont, wDrop, wRet, wSet, wPar, wIfS, wgName, wgNil, wgCons, wgTup, tupOf, wgSub, wAsg, putC, wAug, fAddI, fIxL, wAugS, wApp, wExt, putD, wFldS, wVar, dAt, wC, wBin, wUn, fSub_ii, fDiv_ii, fMod_ii, fPow_ii, fLt_ii, fLe_ii, fGt_ii, fGe_ii, fNeg_i, fAdd_ii, fAdd_tt, fAdd_ss, fAdd_ll, fAdd_c, fAdd_lc, fMul_ii, fMul_ti, fMul_li, fMul_ci, fMulC, lsOf, sqOf, wTest, wChain, wTAnd, wTOr, wTNot, wAndV, wOrV, wNotV, wIf, plOf, fEq, fNe, fIn, fIsN, fNotN, isNon, fFld, wFld, fIx, wNoPart, wPart, wSl, wNil, wCons, wStar, allP, allP_map, wTup, wLst, wLstC, wiSeq, wiRng1, wiRng2, wFor, wLc, wLcC, wtYes, wiEnum, wiZip, wCB, fLen_s, fLen_t, fLen_l, fLen_c, fMax_ii, fMax_iii, fMax_l, fMin_ii, fMin_t, fMin_l, fMin_c, fSum, fAll, fAny, fList, fListC, fTuple, fInt_i, fInt_b, fInt_s, fStr, sqF, fIsT, wIsT, tyName, kit_nt, kit_bt, kit_it, kit_st, kit_tt, kit_lt, kit_ni, kit_bi, kit_ii, kit_si, kit_ti, kit_li, kit_nb, kit_bb, kit_ib, kit_sb, kit_tb, kit_lb, wCallP0, wCallR0, wCallN0, wCallP, wCallR, wCallRf, wCallN, wMake, wMake0, wMakeC, wRaise, wNever, En.xp, enP, enR, enN, rtP, rtR, rtN, entry, List.map_cons, List.map_nil, List.cons_append, List.nil_append, List.append_nil, List.length_cons, List.length_nil, List.replicate, List.set_cons_zero, List.set_cons_succ, List.getElem?_cons_zero, List.getElem?_cons_succ, List.getElem?_nil, Option.getD_some, Option.getD_none, ite_true, ite_false, Bool.not_true, Bool.not_false, Bool.true_and, Bool.and_true, Bool.and_false, Bool.false_and, Bool.not_eq_true, Bool.false_eq_true, reduceIte, decide_eq_true_eq, atI_zero, atI_one, atI_two, atI_three, atI_four, wipeD, reduceCtorEq, ok_int, ok_non, ok_bl, eqv_int, ix40, ix41, ix42, ix43, Int.toNat_natCast, true_and, and_true, decide_true] at h ⊢
      exact h
    · simp only [h1, wNext, wSeq, wBreak, wCont, wDrop, wRet, wSet, wPar, wIfS, wgName, wgNil, wgCons, wgTup, tupOf, wgSub, wAsg, putC, wAug, fAddI, fIxL, wAugS, wApp, wExt, putD, wFldS, wVar, dAt, wC, wBin, wUn, fSub_ii, fDiv_ii, fMod_ii, fPow_ii, fLt_ii, fLe_ii, fGt_ii, fGe_ii, fNeg_i, fAdd_ii, fAdd_tt, fAdd_ss, fAdd_ll, fAdd_c, fAdd_lc, fMul_ii, fMul_ti, fMul_li, fMul_ci, fMulC, lsOf, sqOf, wTest, wChain, wTAnd, wTOr, wTNot, wAndV, wOrV, wNotV, wIf, plOf, fEq, fNe, fIn, fIsN, fNotN, isNon, fFld, wFld, fIx, wNoPart, wPart, wSl, wNil, wCons, wStar, allP, allP_map, wTup, wLst, wLstC, wiSeq, wiRng1, wiRng2, wFor, wLc, wLcC, wtYes, wiEnum, wiZip, wCB, fLen_s, fLen_t, fLen_l, fLen_c, fMax_ii, fMax_iii, fMax_l, fMin_ii, fMin_t, fMin_l, fMin_c, fSum, fAll, fAny, fList, fListC, fTuple, fInt_i, fInt_b, fInt_s, fStr, sqF, fIsT, wIsT, tyName, kit_nt, kit_bt, kit_it, kit_st, kit_tt, kit_lt, kit_ni, kit_bi, kit_ii, kit_si, kit_ti, kit_li, kit_nb, kit_bb, kit_ib, kit_sb, kit_tb, kit_lb, wCallP0, wCallR0, wCallN0, wCallP, wCallR, wCallRf, wCallN, wMake, wMake0, wMakeC, wRaise, wNever, En.xp, enP, enR, enN, rtP, rtR, rtN, entry, List.map_cons, List.map_nil, List.cons_append, List.nil_append, List.append_nil, List.length_cons, List.length_nil, List.replicate, List.set_cons_zero, List.set_cons_succ, List.getElem?_cons_zero, List.getElem?_cons_succ, List.getElem?_nil, Option.getD_some, Option.getD_none, ite_true, ite_false, Bool.not_true, Bool.not_false, Bool.true_and, Bool.and_true, Bool.and_false, Bool.false_and, Bool.not_eq_true, Bool.false_eq_true, reduceIte, decide_eq_true_eq, atI_zero, atI_one, atI_two, atI_three, atI_four, wipeD, reduceCtorEq, ok_int, ok_non, ok_bl, eqv_int, ix40, ix41, ix42, ix43, Int.toNat_natCast, true_and, and_true, decide_false] at h ⊢
      exact h
  · exact h.elim
theorem ty_ok {v : PD} {n : Nat} (h : v.ok n = true) : tyOk v = true := by
  cases v <;> simp_all [PD.ok, tyOk]
theorem z_is_step {q : Ad} (args : List PD) (P : PD → Prop) (Xp : RX) (h : r_is_step q args P Xp) : w_is_step q (enP P Xp) (entry n_is_step.length (args.map D.p)) [] := by
  unfold r_is_step at h
  split at h
  · rename_i k v
    obtain ⟨ht, h⟩ := h
    cases v with
    | tup xs =>
      have hx : ∀ x ∈ xs, x.ok 19 = true := by simpa [PD.ok] using ht
      simp only [w_is_step, w_is_step_1, w_is_step_2, w_is_step_3, wNext, wSeq, wBreak, wCont, wDrop, wRet, wSet, wPar, wIfS, wgName, wgNil, wgCons, wgTup, tupOf, wgSub, wAsg, putC, wAug, fAddI, fIxL, wAugS, wApp, wExt, putD, wFldS, wVar, dAt, wC, wBin, wUn, fSub_ii, fDiv_ii, fMod_ii, fPow_ii, fLt_ii, fLe_ii, fGt_ii, fGe_ii, fNeg_i, fAdd_ii, fAdd_tt, fAdd_ss, fAdd_ll, fAdd_c, fAdd_lc, fMul_ii, fMul_ti, fMul_li, fMul_ci, fMulC, lsOf, sqOf, wTest, wChain, wTAnd, wTOr, wTNot, wAndV, wOrV, wNotV, wIf, plOf, fEq, fNe, fIn, fIsN, fNotN, isNon, fFld, wFld, fIx, wNoPart, wPart, wSl, wNil, wCons, wStar, allP, allP_map, wTup, wLst, wLstC, wiSeq, wiRng1, wiRng2, wFor, wLc, wLcC, wtYes, wiEnum, wiZip, wCB, fLen_s, fLen_t, fLen_l, fLen_c, fMax_ii, fMax_iii, fMax_l, fMin_ii, fMin_t, fMin_l, fMin_c, fSum, fAll, fAny, fList, fListC, fTuple, fInt_i, fInt_b, fInt_s, fStr, sqF, fIsT, wIsT, tyName, kit_nt, kit_bt, kit_it, kit_st, kit_tt, kit_lt, kit_ni, kit_bi, kit_ii, kit_si, kit_ti, kit_li, kit_nb, kit_bb, kit_ib, kit_sb, kit_tb, kit_lb, wCallP0, wCallR0, wCallN0, wCallP, wCallR, wCallRf, wCallN, wMake, wMake0, wMakeC, wRaise, wNever, En.xp, enP, enR, enN, rtP, rtR, rtN, entry, List.map_cons, List.map_nil, List.cons_append, List.nil_append, List.append_nil, List.length_cons, List.length_nil, List.replicate, List.set_cons_zero, List.set_cons_succ, List.getElem?_cons_zero, List.getElem?_cons_succ, List.getElem?_nil, Option.getD_some, Option.getD_none, ite_true, ite_false, Bool.not_true, Bool.not_false, Bool.true_and, Bool.and_true, Bool.and_false, Bool.false_and, Bool.not_eq_true, Bool.false_eq_true, reduceIte, decide_eq_true_eq, atI_zero, atI_one, atI_two, atI_three, atI_four, wipeD, reduceCtorEq, ok_int, ok_non, ok_bl, eqv_int, ix40, ix41, ix42, ix43, Int.toNat_natCast, true_and, and_true]
      match xs, hx, h with
      | [], _, h => simpa [isStep, PD.eqv, PD.py, PyData.eqv, PD.ok] using h
      | [a], _, h => simpa [isStep, PD.eqv, PD.py, PyData.eqv, PD.ok] using h
      | [a, b], hx, h =>
        have ha := ty_ok (hx a (by simp))
        have hb := ty_ok (hx b (by simp))
        simp [PD.eqv, PD.py, PyData.eqv, PD.ok, r_is_from, ha, hb, isStep, atI_one, atI_zero, L2.atI] at h ⊢
        cases e : isFrom a 0 (k - 1) <;> simp_all
      | a :: b :: c :: r, _, h =>
        simp [isStep, PD.eqv, PD.py, PyData.eqv, PD.ok] at h ⊢
        rw [if_neg (by omega)]
        exact h
    | ins C fs => cases ht
    | fz xs => cases ht
    | _ =>
      simp only [w_is_step, w_is_step_1, w_is_step_2, w_is_step_3, wNext, wSeq, wBreak, wCont, wDrop, wRet, wSet, wPar, wIfS, wgName, wgNil, wgCons, wgTup, tupOf, wgSub, wAsg, putC, wAug, fAddI, fIxL, wAugS, wApp, wExt, putD, wFldS, wVar, dAt, wC, wBin, wUn, fSub_ii, fDiv_ii, fMod_ii, fPow_ii, fLt_ii, fLe_ii, fGt_ii, fGe_ii, fNeg_i, fAdd_ii, fAdd_tt, fAdd_ss, fAdd_ll, fAdd_c, fAdd_lc, fMul_ii, fMul_ti, fMul_li, fMul_ci, fMulC, lsOf, sqOf, wTest, wChain, wTAnd, wTOr, wTNot, wAndV, wOrV, wNotV, wIf, plOf, fEq, fNe, fIn, fIsN, fNotN, isNon, fFld, wFld, fIx, wNoPart, wPart, wSl, wNil, wCons, wStar, allP, allP_map, wTup, wLst, wLstC, wiSeq, wiRng1, wiRng2, wFor, wLc, wLcC, wtYes, wiEnum, wiZip, wCB, fLen_s, fLen_t, fLen_l, fLen_c, fMax_ii, fMax_iii, fMax_l, fMin_ii, fMin_t, fMin_l, fMin_c, fSum, fAll, fAny, fList, fListC, fTuple, fInt_i, fInt_b, fInt_s, fStr, sqF, fIsT, wIsT, tyName, kit_nt, kit_bt, kit_it, kit_st, kit_tt, kit_lt, kit_ni, kit_bi, kit_ii, kit_si, kit_ti, kit_li, kit_nb, kit_bb, kit_ib, kit_sb, kit_tb, kit_lb, wCallP0, wCallR0, wCallN0, wCallP, wCallR, wCallRf, wCallN, wMake, wMake0, wMakeC, wRaise, wNever, En.xp, enP, enR, enN, rtP, rtR, rtN, entry, List.map_cons, List.map_nil, List.cons_append, List.nil_append, List.append_nil, List.length_cons, List.length_nil, List.replicate, List.set_cons_zero, List.set_cons_succ, List.getElem?_cons_zero, List.getElem?_cons_succ, List.getElem?_nil, Option.getD_some, Option.getD_none, ite_true, ite_false, Bool.not_true, Bool.not_false, Bool.true_and, Bool.and_true, Bool.and_false, Bool.false_and, Bool.not_eq_true, Bool.false_eq_true, reduceIte, decide_eq_true_eq, atI_zero, atI_one, atI_two, atI_three, atI_four, wipeD, reduceCtorEq, ok_int, ok_non, ok_bl, eqv_int, ix40, ix41, ix42, ix43, Int.toNat_natCast, true_and, and_true]
      exact h
  · exact h.elim
end DL

set_option Elab.async false
set_option linter.all false
set_option maxRecDepth 100000
set_option maxHeartbeats 4000000
namespace DL
open PySem L2
theorem six_lo (n : Nat) (k : Nat) : HT.sIx n k none = k := rfl
theorem six_nat (n k : Nat) (i : Nat) : HT.sIx n k (some (i : Int)) = min i n := by
  simp only [HT.sIx]
  split <;> omega
theorem cut_take (xs : List PD) (n : Nat) : cutP xs none (some (n : Int)) = xs.take n := by
  unfold cutP
  rw [six_lo, six_nat, Nat.sub_zero, List.drop_zero]
  by_cases h : n ≤ xs.length
  · rw [Nat.min_eq_left h]
  · rw [Nat.min_eq_right (by omega), List.take_of_length_le (Nat.le_refl _), List.take_of_length_le (by omega)]
theorem cut_drop (xs : List PD) (n : Nat) : cutP xs (some (n : Int)) none = xs.drop n := by
  unfold cutP
  rw [six_lo, six_nat]
  by_cases h : n ≤ xs.length
  · rw [Nat.min_eq_left h, List.take_of_length_le (by simp)]
  · rw [Nat.min_eq_right (by omega), List.drop_of_length_le (Nat.le_refl _), List.drop_of_length_le (by omega)]
    simp
theorem z_is_wait {q : Ad} (args : List PD) (P : PD → Prop) (Xp : RX) (h : r_is_wait q args P Xp) : w_is_wait q (enP P Xp) (entry n_is_wait.length (args.map D.p)) [] := by
  unfold r_is_wait at h
  split at h
  · rename_i k v
    obtain ⟨ht, h⟩ := h
    cases v with
    | tup xs =>
      have hx : ∀ x ∈ xs, x.ok 19 = true := by simpa [PD.ok] using ht
      simp only [w_is_wait, w_is_wait_1, w_is_wait_2, w_is_wait_3, wNext, wSeq, wBreak, wCont, wDrop, wRet, wSet, wPar, wIfS, wgName, wgNil, wgCons, wgTup, tupOf, wgSub, wAsg, putC, wAug, fAddI, fIxL, wAugS, wApp, wExt, putD, wFldS, wVar, dAt, wC, wBin, wUn, fSub_ii, fDiv_ii, fMod_ii, fPow_ii, fLt_ii, fLe_ii, fGt_ii, fGe_ii, fNeg_i, fAdd_ii, fAdd_tt, fAdd_ss, fAdd_ll, fAdd_c, fAdd_lc, fMul_ii, fMul_ti, fMul_li, fMul_ci, fMulC, lsOf, sqOf, wTest, wChain, wTAnd, wTOr, wTNot, wAndV, wOrV, wNotV, wIf, plOf, fEq, fNe, fIn, fIsN, fNotN, isNon, fFld, wFld, fIx, wNoPart, wPart, wSl, wNil, wCons, wStar, allP, allP_map, wTup, wLst, wLstC, wiSeq, wiRng1, wiRng2, wFor, wLc, wLcC, wtYes, wiEnum, wiZip, wCB, fLen_s, fLen_t, fLen_l, fLen_c, fMax_ii, fMax_iii, fMax_l, fMin_ii, fMin_t, fMin_l, fMin_c, fSum, fAll, fAny, fList, fListC, fTuple, fInt_i, fInt_b, fInt_s, fStr, sqF, fIsT, wIsT, tyName, kit_nt, kit_bt, kit_it, kit_st, kit_tt, kit_lt, kit_ni, kit_bi, kit_ii, kit_si, kit_ti, kit_li, kit_nb, kit_bb, kit_ib, kit_sb, kit_tb, kit_lb, wCallP0, wCallR0, wCallN0, wCallP, wCallR, wCallRf, wCallN, wMake, wMake0, wMakeC, wRaise, wNever, En.xp, enP, enR, enN, rtP, rtR, rtN, entry, List.map_cons, List.map_nil, List.cons_append, List.nil_append, List.append_nil, List.length_cons, List.length_nil, List.replicate, List.set_cons_zero, List.set_cons_succ, List.getElem?_cons_zero, List.getElem?_cons_succ, List.getElem?_nil, Option.getD_some, Option.getD_none, ite_true, ite_false, Bool.not_true, Bool.not_false, Bool.true_and, Bool.and_true, Bool.and_false, Bool.false_and, Bool.not_eq_true, Bool.false_eq_true, reduceIte, decide_eq_true_eq, atI_zero, atI_one, atI_two, atI_three, atI_four, wipeD, reduceCtorEq, ok_int, ok_non, ok_bl, eqv_int, ix40, ix41, ix42, ix43, Int.toNat_natCast, true_and, and_true]
      by_cases hl : xs.length = 4
      · match xs, hl, hx, h with
        | [a, b, c, d], _, hx, h =>
          have ha := ty_ok (hx a (by simp))
          have hb := ty_ok (hx b (by simp))
          have hc := ty_ok (hx c (by simp))
          have hd := ty_ok (hx d (by simp))
          have e4 : ((([a, b, c, d] : List PD).length : Int) = 4) := by rfl
          simp only [e4, wNext, wSeq, wBreak, wCont, wDrop, wRet, wSet, wPar, wIfS, wgName, wgNil, wgCons, wgTup, tupOf, wgSub, wAsg, putC, wAug, fAddI, fIxL, wAugS, wApp, wExt, putD, wFldS, wVar, dAt, wC, wBin, wUn, fSub_ii, fDiv_ii, fMod_ii, fPow_ii, fLt_ii, fLe_ii, fGt_ii, fGe_ii, fNeg_i, fAdd_ii, fAdd_tt, fAdd_ss, fAdd_ll, fAdd_c, fAdd_lc, fMul_ii, fMul_ti, fMul_li, fMul_ci, fMulC, lsOf, sqOf, wTest, wChain, wTAnd, wTOr, wTNot, wAndV, wOrV, wNotV, wIf, plOf, fEq, fNe, fIn, fIsN, fNotN, isNon, fFld, wFld, fIx, wNoPart, wPart, wSl, wNil, wCons, wStar, allP, allP_map, wTup, wLst, wLstC, wiSeq, wiRng1, wiRng2, wFor, wLc, wLcC, wtYes, wiEnum, wiZip, wCB, fLen_s, fLen_t, fLen_l, fLen_c, fMax_ii, fMax_iii, fMax_l, fMin_ii, fMin_t, fMin_l, fMin_c, fSum, fAll, fAny, fList, fListC, fTuple, fInt_i, fInt_b, fInt_s, fStr, sqF, fIsT, wIsT, tyName, kit_nt, kit_bt, kit_it, kit_st, kit_tt, kit_lt, kit_ni, kit_bi, kit_ii, kit_si, kit_ti, kit_li, kit_nb, kit_bb, kit_ib, kit_sb, kit_tb, kit_lb, wCallP0, wCallR0, wCallN0, wCallP, wCallR, wCallRf, wCallN, wMake, wMake0, wMakeC, wRaise, wNever, En.xp, enP, enR, enN, rtP, rtR, rtN, entry, List.map_cons, List.map_nil, List.cons_append, List.nil_append, List.append_nil, List.length_cons, List.length_nil, List.replicate, List.set_cons_zero, List.set_cons_succ, List.getElem?_cons_zero, List.getElem?_cons_succ, List.getElem?_nil, Option.getD_some, Option.getD_none, ite_true, ite_false, Bool.not_true, Bool.not_false, Bool.true_and, Bool.and_true, Bool.and_false, Bool.false_and, Bool.not_eq_true, Bool.false_eq_true, reduceIte, decide_eq_true_eq, atI_zero, atI_one, atI_two, atI_three, atI_four, wipeD, reduceCtorEq, ok_int, ok_non, ok_bl, eqv_int, ix40, ix41, ix42, ix43, Int.toNat_natCast, true_and, and_true, decide_true]
          have ec : cutP [a, b, c, d] none (some 2) = [a, b] := by rfl
          rw [ec]
          refine lc_map (fun x => .bl (isFrom x 0 (k - 1))) (by show 2 ≤ big; decide) trivial (fun i x J hx h => ?_) ?_
          · have hxt : tyOk x = true := by
              rcases i with _ | _ | i <;> simp at hx <;> subst hx <;> assumption
            simp only [r_is_from, hxt, wNext, wSeq, wBreak, wCont, wDrop, wRet, wSet, wPar, wIfS, wgName, wgNil, wgCons, wgTup, tupOf, wgSub, wAsg, putC, wAug, fAddI, fIxL, wAugS, wApp, wExt, putD, wFldS, wVar, dAt, wC, wBin, wUn, fSub_ii, fDiv_ii, fMod_ii, fPow_ii, fLt_ii, fLe_ii, fGt_ii, fGe_ii, fNeg_i, fAdd_ii, fAdd_tt, fAdd_ss, fAdd_ll, fAdd_c, fAdd_lc, fMul_ii, fMul_ti, fMul_li, fMul_ci, fMulC, lsOf, sqOf, wTest, wChain, wTAnd, wTOr, wTNot, wAndV, wOrV, wNotV, wIf, plOf, fEq, fNe, fIn, fIsN, fNotN, isNon, fFld, wFld, fIx, wNoPart, wPart, wSl, wNil, wCons, wStar, allP, allP_map, wTup, wLst, wLstC, wiSeq, wiRng1, wiRng2, wFor, wLc, wLcC, wtYes, wiEnum, wiZip, wCB, fLen_s, fLen_t, fLen_l, fLen_c, fMax_ii, fMax_iii, fMax_l, fMin_ii, fMin_t, fMin_l, fMin_c, fSum, fAll, fAny, fList, fListC, fTuple, fInt_i, fInt_b, fInt_s, fStr, sqF, fIsT, wIsT, tyName, kit_nt, kit_bt, kit_it, kit_st, kit_tt, kit_lt, kit_ni, kit_bi, kit_ii, kit_si, kit_ti, kit_li, kit_nb, kit_bb, kit_ib, kit_sb, kit_tb, kit_lb, wCallP0, wCallR0, wCallN0, wCallP, wCallR, wCallRf, wCallN, wMake, wMake0, wMakeC, wRaise, wNever, En.xp, enP, enR, enN, rtP, rtR, rtN, entry, List.map_cons, List.map_nil, List.cons_append, List.nil_append, List.append_nil, List.length_cons, List.length_nil, List.replicate, List.set_cons_zero, List.set_cons_succ, List.getElem?_cons_zero, List.getElem?_cons_succ, List.getElem?_nil, Option.getD_some, Option.getD_none, ite_true, ite_false, Bool.not_true, Bool.not_false, Bool.true_and, Bool.and_true, Bool.and_false, Bool.false_and, Bool.not_eq_true, Bool.false_eq_true, reduceIte, decide_eq_true_eq, atI_zero, atI_one, atI_two, atI_three, atI_four, wipeD, reduceCtorEq, ok_int, ok_non, ok_bl, eqv_int, ix40, ix41, ix42, ix43, Int.toNat_natCast, true_and, and_true, true_and]
            exact h
          · simp only [isWait] at h
            simp only [wNext, wSeq, wBreak, wCont, wDrop, wRet, wSet, wPar, wIfS, wgName, wgNil, wgCons, wgTup, tupOf, wgSub, wAsg, putC, wAug, fAddI, fIxL, wAugS, wApp, wExt, putD, wFldS, wVar, dAt, wC, wBin, wUn, fSub_ii, fDiv_ii, fMod_ii, fPow_ii, fLt_ii, fLe_ii, fGt_ii, fGe_ii, fNeg_i, fAdd_ii, fAdd_tt, fAdd_ss, fAdd_ll, fAdd_c, fAdd_lc, fMul_ii, fMul_ti, fMul_li, fMul_ci, fMulC, lsOf, sqOf, wTest, wChain, wTAnd, wTOr, wTNot, wAndV, wOrV, wNotV, wIf, plOf, fEq, fNe, fIn, fIsN, fNotN, isNon, fFld, wFld, fIx, wNoPart, wPart, wSl, wNil, wCons, wStar, allP, allP_map, wTup, wLst, wLstC, wiSeq, wiRng1, wiRng2, wFor, wLc, wLcC, wtYes, wiEnum, wiZip, wCB, fLen_s, fLen_t, fLen_l, fLen_c, fMax_ii, fMax_iii, fMax_l, fMin_ii, fMin_t, fMin_l, fMin_c, fSum, fAll, fAny, fList, fListC, fTuple, fInt_i, fInt_b, fInt_s, fStr, sqF, fIsT, wIsT, tyName, kit_nt, kit_bt, kit_it, kit_st, kit_tt, kit_lt, kit_ni, kit_bi, kit_ii, kit_si, kit_ti, kit_li, kit_nb, kit_bb, kit_ib, kit_sb, kit_tb, kit_lb, wCallP0, wCallR0, wCallN0, wCallP, wCallR, wCallRf, wCallN, wMake, wMake0, wMakeC, wRaise, wNever, En.xp, enP, enR, enN, rtP, rtR, rtN, entry, List.map_cons, List.map_nil, List.cons_append, List.nil_append, List.append_nil, List.length_cons, List.length_nil, List.replicate, List.set_cons_zero, List.set_cons_succ, List.getElem?_cons_zero, List.getElem?_cons_succ, List.getElem?_nil, Option.getD_some, Option.getD_none, ite_true, ite_false, Bool.not_true, Bool.not_false, Bool.true_and, Bool.and_true, Bool.and_false, Bool.false_and, Bool.not_eq_true, Bool.false_eq_true, reduceIte, decide_eq_true_eq, atI_zero, atI_one, atI_two, atI_three, atI_four, wipeD, reduceCtorEq, ok_int, ok_non, ok_bl, eqv_int, ix40, ix41, ix42, ix43, Int.toNat_natCast, true_and, and_true, allB, r_is_from, hc, hd, true_and, List.all_cons, List.all_nil, id]
            cases e1 : isFrom a 0 (k - 1) <;> cases e2 : isFrom b 0 (k - 1) <;> cases e3 : isFrom c 0 6 <;> simp_all
      · have e4 : ¬ ((xs.length : Int) = 4) := by omega
        simp only [e4, wNext, wSeq, wBreak, wCont, wDrop, wRet, wSet, wPar, wIfS, wgName, wgNil, wgCons, wgTup, tupOf, wgSub, wAsg, putC, wAug, fAddI, fIxL, wAugS, wApp, wExt, putD, wFldS, wVar, dAt, wC, wBin, wUn, fSub_ii, fDiv_ii, fMod_ii, fPow_ii, fLt_ii, fLe_ii, fGt_ii, fGe_ii, fNeg_i, fAdd_ii, fAdd_tt, fAdd_ss, fAdd_ll, fAdd_c, fAdd_lc, fMul_ii, fMul_ti, fMul_li, fMul_ci, fMulC, lsOf, sqOf, wTest, wChain, wTAnd, wTOr, wTNot, wAndV, wOrV, wNotV, wIf, plOf, fEq, fNe, fIn, fIsN, fNotN, isNon, fFld, wFld, fIx, wNoPart, wPart, wSl, wNil, wCons, wStar, allP, allP_map, wTup, wLst, wLstC, wiSeq, wiRng1, wiRng2, wFor, wLc, wLcC, wtYes, wiEnum, wiZip, wCB, fLen_s, fLen_t, fLen_l, fLen_c, fMax_ii, fMax_iii, fMax_l, fMin_ii, fMin_t, fMin_l, fMin_c, fSum, fAll, fAny, fList, fListC, fTuple, fInt_i, fInt_b, fInt_s, fStr, sqF, fIsT, wIsT, tyName, kit_nt, kit_bt, kit_it, kit_st, kit_tt, kit_lt, kit_ni, kit_bi, kit_ii, kit_si, kit_ti, kit_li, kit_nb, kit_bb, kit_ib, kit_sb, kit_tb, kit_lb, wCallP0, wCallR0, wCallN0, wCallP, wCallR, wCallRf, wCallN, wMake, wMake0, wMakeC, wRaise, wNever, En.xp, enP, enR, enN, rtP, rtR, rtN, entry, List.map_cons, List.map_nil, List.cons_append, List.nil_append, List.append_nil, List.length_cons, List.length_nil, List.replicate, List.set_cons_zero, List.set_cons_succ, List.getElem?_cons_zero, List.getElem?_cons_succ, List.getElem?_nil, Option.getD_some, Option.getD_none, ite_true, ite_false, Bool.not_true, Bool.not_false, Bool.true_and, Bool.and_true, Bool.and_false, Bool.false_and, Bool.not_eq_true, Bool.false_eq_true, reduceIte, decide_eq_true_eq, atI_zero, atI_one, atI_two, atI_three, atI_four, wipeD, reduceCtorEq, ok_int, ok_non, ok_bl, eqv_int, ix40, ix41, ix42, ix43, Int.toNat_natCast, true_and, and_true, decide_false]
        have : isWait k (.tup xs) = false := by
          unfold isWait
          split
          · rename_i e
            cases e
            exact absurd rfl hl
          · rfl
        rw [this] at h
        exact h
    | ins C fs => cases ht
    | fz xs => cases ht
    | _ =>
      simp only [w_is_wait, w_is_wait_1, w_is_wait_2, w_is_wait_3, wNext, wSeq, wBreak, wCont, wDrop, wRet, wSet, wPar, wIfS, wgName, wgNil, wgCons, wgTup, tupOf, wgSub, wAsg, putC, wAug, fAddI, fIxL, wAugS, wApp, wExt, putD, wFldS, wVar, dAt, wC, wBin, wUn, fSub_ii, fDiv_ii, fMod_ii, fPow_ii, fLt_ii, fLe_ii, fGt_ii, fGe_ii, fNeg_i, fAdd_ii, fAdd_tt, fAdd_ss, fAdd_ll, fAdd_c, fAdd_lc, fMul_ii, fMul_ti, fMul_li, fMul_ci, fMulC, lsOf, sqOf, wTest, wChain, wTAnd, wTOr, wTNot, wAndV, wOrV, wNotV, wIf, plOf, fEq, fNe, fIn, fIsN, fNotN, isNon, fFld, wFld, fIx, wNoPart, wPart, wSl, wNil, wCons, wStar, allP, allP_map, wTup, wLst, wLstC, wiSeq, wiRng1, wiRng2, wFor, wLc, wLcC, wtYes, wiEnum, wiZip, wCB, fLen_s, fLen_t, fLen_l, fLen_c, fMax_ii, fMax_iii, fMax_l, fMin_ii, fMin_t, fMin_l, fMin_c, fSum, fAll, fAny, fList, fListC, fTuple, fInt_i, fInt_b, fInt_s, fStr, sqF, fIsT, wIsT, tyName, kit_nt, kit_bt, kit_it, kit_st, kit_tt, kit_lt, kit_ni, kit_bi, kit_ii, kit_si, kit_ti, kit_li, kit_nb, kit_bb, kit_ib, kit_sb, kit_tb, kit_lb, wCallP0, wCallR0, wCallN0, wCallP, wCallR, wCallRf, wCallN, wMake, wMake0, wMakeC, wRaise, wNever, En.xp, enP, enR, enN, rtP, rtR, rtN, entry, List.map_cons, List.map_nil, List.cons_append, List.nil_append, List.append_nil, List.length_cons, List.length_nil, List.replicate, List.set_cons_zero, List.set_cons_succ, List.getElem?_cons_zero, List.getElem?_cons_succ, List.getElem?_nil, Option.getD_some, Option.getD_none, ite_true, ite_false, Bool.not_true, Bool.not_false, Bool.true_and, Bool.and_true, Bool.and_false, Bool.false_and, Bool.not_eq_true, Bool.false_eq_true, reduceIte, decide_eq_true_eq, atI_zero, atI_one, atI_two, atI_three, atI_four, wipeD, reduceCtorEq, ok_int, ok_non, ok_bl, eqv_int, ix40, ix41, ix42, ix43, Int.toNat_natCast, true_and, and_true]
      exact h
  · exact h.elim
end DL

set_option Elab.async false
set_option linter.all false
set_option maxRecDepth 100000
set_option maxHeartbeats 4000000
namespace DL
open PySem L2
theorem enumP_inv : ∀ {k : Nat} {xs : List PD} {i : Nat} {x : PD}, (enumP k xs)[i]? = some x → ∃ y, xs[i]? = some y ∧ x = .tup [.int ((k + i : Nat) : Int), y] := by
  intro k xs i x h
  have hi : i < xs.length := by
    rw [← enumP_len k xs]
    exact (List.getElem?_eq_some_iff.mp h).1
  have e := List.getElem?_eq_getElem hi
  exact ⟨_, e, by rw [enumP_get e] at h; exact (Option.some.inj h).symm⟩
theorem map_inv {α : Type} {f : α → PD} {l : List α} {i : Nat} {x : PD} (h : (l.map f)[i]? = some x) : ∃ y, l[i]? = some y ∧ x = f y := by
  rw [List.getElem?_map] at h
  cases e : l[i]? with
  | none => rw [e] at h; cases h
  | some y =>
    rw [e] at h
    exact ⟨y, rfl, (Option.some.inj h).symm⟩
theorem rng_inv {lo : Int} {n i : Nat} {x : PD} (h : (rng lo n)[i]? = some x) : i < n ∧ x = .int (lo + (i : Nat)) := by
  have hi : i < n := by
    have := (List.getElem?_eq_some_iff.mp h).1
    rwa [rng_len] at this
  exact ⟨hi, by rw [rng_get hi] at h; exact (Option.some.inj h).symm⟩
theorem barP_pl (b : Int × Int × Int × Int) : (barP b).pl 5 = true := by simp [barP, PD.pl]
theorem rowP_pl (b : Int × Int) : (rowP b).pl 5 = true := by simp [rowP, PD.pl]
theorem barP_inj {a b : Int × Int × Int × Int} (h : barP a = barP b) : a = b := by
  obtain ⟨a1, a2, a3, a4⟩ := a
  obtain ⟨b1, b2, b3, b4⟩ := b
  simp only [barP, PD.tup.injEq, List.cons.injEq, PD.int.injEq] at h
  simp [h]
theorem rowP_inj {a b : Int × Int} (h : rowP a = rowP b) : a = b := by
  obtain ⟨a1, a2⟩ := a
  obtain ⟨b1, b2⟩ := b
  simp only [rowP, PD.tup.injEq, List.cons.injEq, PD.int.injEq] at h
  simp [h]
theorem mapP_pl {α : Type} {f : α → PD} {n : Nat} (hf : ∀ a, (f a).pl n = true) (l : List α) : (PD.tup (l.map f)).pl (n + 1) = true := by
  simp [PD.pl, hf]
theorem mapL_pl {α : Type} {f : α → PD} {n : Nat} (hf : ∀ a, (f a).pl n = true) (l : List α) : (PD.lst (l.map f)).pl (n + 1) = true := by
  simp [PD.pl, hf]
theorem pl_ok30 {x : PD} {n : Nat} (h : x.pl n = true) (hn : n ≤ 30 := by decide) : x.ok 30 = true := pl_ok 30 x (pl_up n 30 x hn h)
theorem pl_ok20 {x : PD} {n : Nat} (h : x.pl n = true) (hn : n ≤ 20 := by decide) : x.ok 20 = true := pl_ok 20 x (pl_up n 20 x hn h)
theorem inP_iff {x : PD} {xs : List PD} {n : Nat} (h : x.pl n = true) (hs : ∀ y ∈ xs, y.pl n = true) : inP x xs = true ↔ x ∈ xs := by
  unfold inP
  rw [List.any_eq_true]
  constructor
  · rintro ⟨y, hy, e⟩
    rw [PD.eqv_iff (hs y hy) h] at e
    exact e ▸ hy
  · exact fun hx => ⟨x, hx, (PD.eqv_iff h h).mpr rfl⟩
theorem inP_false {x : PD} {xs : List PD} {n : Nat} (h : x.pl n = true) (hs : ∀ y ∈ xs, y.pl n = true) (hn : x ∉ xs) : inP x xs = false := by
  cases e : inP x xs with
  | false => rfl
  | true => exact absurd ((inP_iff h hs).mp e) hn
theorem str_cr : ¬ Str.ofString "counts" = Str.ofString "rows" := by decide +kernel
theorem str_cb : ¬ Str.ofString "counts" = Str.ofString "bars" := by decide +kernel
theorem str_rb : ¬ Str.ofString "rows" = Str.ofString "bars" := by decide +kernel
theorem z_Loopz_initz {q : Ad} (m : M) (args : List PD) (P : PD → M → Prop) (Xp : Addr → List (Str × PD) → M → Prop) (h : r_Loopz_initz q m args P Xp) : w_Loopz_initz q (enR P Xp) (entry n_Loopz_initz.length (.c 0 :: args.map D.p)) [m] := by
  obtain ⟨l, rfl, rfl, ok, h⟩ := h
  obtain ⟨c1, c3, cc, s1, s5, rr, b10, bb, nd⟩ := ok
  have hc : (1 : Int) ≤ (l.counts.map PD.int).length ∧ ((l.counts.map PD.int).length : Int) ≤ 3 := by rw [List.length_map]; omega
  have hr : (1 : Int) ≤ (l.rows.map rowP).length ∧ ((l.rows.map rowP).length : Int) ≤ 5 := by rw [List.length_map]; omega
  have hb : ¬ (10 : Int) < (l.bars.map barP).length := by rw [List.length_map]; omega
  simp only [w_Loopz_initz, w_Loopz_initz_17, wNext, wSeq, wBreak, wCont, wDrop, wRet, wSet, wPar, wIfS, wgName, wgNil, wgCons, wgTup, tupOf, wgSub, wAsg, putC, wAug, fAddI, fIxL, wAugS, wApp, wExt, putD, wFldS, wVar, dAt, wC, wBin, wUn, fSub_ii, fDiv_ii, fMod_ii, fPow_ii, fLt_ii, fLe_ii, fGt_ii, fGe_ii, fNeg_i, fAdd_ii, fAdd_tt, fAdd_ss, fAdd_ll, fAdd_c, fAdd_lc, fMul_ii, fMul_ti, fMul_li, fMul_ci, fMulC, lsOf, sqOf, wTest, wChain, wTAnd, wTOr, wTNot, wAndV, wOrV, wNotV, wIf, plOf, fEq, fNe, fIn, fIsN, fNotN, isNon, fFld, wFld, fIx, wNoPart, wPart, wSl, wNil, wCons, wStar, allP, allP_map, wTup, wLst, wLstC, wiSeq, wiRng1, wiRng2, wFor, wLc, wLcC, wtYes, wiEnum, wiZip, wCB, fLen_s, fLen_t, fLen_l, fLen_c, fMax_ii, fMax_iii, fMax_l, fMin_ii, fMin_t, fMin_l, fMin_c, fSum, fAll, fAny, fList, fListC, fTuple, fInt_i, fInt_b, fInt_s, fStr, sqF, fIsT, wIsT, tyName, kit_nt, kit_bt, kit_it, kit_st, kit_tt, kit_lt, kit_ni, kit_bi, kit_ii, kit_si, kit_ti, kit_li, kit_nb, kit_bb, kit_ib, kit_sb, kit_tb, kit_lb, wCallP0, wCallR0, wCallN0, wCallP, wCallR, wCallRf, wCallN, wMake, wMake0, wMakeC, wRaise, wNever, En.xp, enP, enR, enN, rtP, rtR, rtN, entry, List.map_cons, List.map_nil, List.cons_append, List.nil_append, List.append_nil, List.length_cons, List.length_nil, List.replicate, List.set_cons_zero, List.set_cons_succ, List.getElem?_cons_zero, List.getElem?_cons_succ, List.getElem?_nil, Option.getD_some, Option.getD_none, ite_true, ite_false, Bool.not_true, Bool.not_false, Bool.true_and, Bool.and_true, Bool.and_false, Bool.false_and, Bool.not_eq_true, Bool.false_eq_true, reduceIte, decide_eq_true_eq, atI_zero, atI_one, atI_two, atI_three, atI_four, wipeD, reduceCtorEq, ok_int, ok_non, ok_bl, eqv_int, ix40, ix41, ix42, ix43, Int.toNat_natCast, true_and, and_true, Lp.cP, Lp.rP, Lp.bP, intsP, n_Loopz_initz, hc.1, hc.2, decide_true]
  simp only [w_Loopz_initz_16, wNext, wSeq, wBreak, wCont, wDrop, wRet, wSet, wPar, wIfS, wgName, wgNil, wgCons, wgTup, tupOf, wgSub, wAsg, putC, wAug, fAddI, fIxL, wAugS, wApp, wExt, putD, wFldS, wVar, dAt, wC, wBin, wUn, fSub_ii, fDiv_ii, fMod_ii, fPow_ii, fLt_ii, fLe_ii, fGt_ii, fGe_ii, fNeg_i, fAdd_ii, fAdd_tt, fAdd_ss, fAdd_ll, fAdd_c, fAdd_lc, fMul_ii, fMul_ti, fMul_li, fMul_ci, fMulC, lsOf, sqOf, wTest, wChain, wTAnd, wTOr, wTNot, wAndV, wOrV, wNotV, wIf, plOf, fEq, fNe, fIn, fIsN, fNotN, isNon, fFld, wFld, fIx, wNoPart, wPart, wSl, wNil, wCons, wStar, allP, allP_map, wTup, wLst, wLstC, wiSeq, wiRng1, wiRng2, wFor, wLc, wLcC, wtYes, wiEnum, wiZip, wCB, fLen_s, fLen_t, fLen_l, fLen_c, fMax_ii, fMax_iii, fMax_l, fMin_ii, fMin_t, fMin_l, fMin_c, fSum, fAll, fAny, fList, fListC, fTuple, fInt_i, fInt_b, fInt_s, fStr, sqF, fIsT, wIsT, tyName, kit_nt, kit_bt, kit_it, kit_st, kit_tt, kit_lt, kit_ni, kit_bi, kit_ii, kit_si, kit_ti, kit_li, kit_nb, kit_bb, kit_ib, kit_sb, kit_tb, kit_lb, wCallP0, wCallR0, wCallN0, wCallP, wCallR, wCallRf, wCallN, wMake, wMake0, wMakeC, wRaise, wNever, En.xp, enP, enR, enN, rtP, rtR, rtN, entry, List.map_cons, List.map_nil, List.cons_append, List.nil_append, List.append_nil, List.length_cons, List.length_nil, List.replicate, List.set_cons_zero, List.set_cons_succ, List.getElem?_cons_zero, List.getElem?_cons_succ, List.getElem?_nil, Option.getD_some, Option.getD_none, ite_true, ite_false, Bool.not_true, Bool.not_false, Bool.true_and, Bool.and_true, Bool.and_false, Bool.false_and, Bool.not_eq_true, Bool.false_eq_true, reduceIte, decide_eq_true_eq, atI_zero, atI_one, atI_two, atI_three, atI_four, wipeD, reduceCtorEq, ok_int, ok_non, ok_bl, eqv_int, ix40, ix41, ix42, ix43, Int.toNat_natCast, true_and, and_true]
  refine lc_map (fun x => .bl (isFrom x 1 3)) (by simp [big]; omega) trivial (fun i x J hx h => ?_) ?_
  · obtain ⟨c, hc, rfl⟩ := map_inv hx
    simp only [r_is_from, tyOk, wNext, wSeq, wBreak, wCont, wDrop, wRet, wSet, wPar, wIfS, wgName, wgNil, wgCons, wgTup, tupOf, wgSub, wAsg, putC, wAug, fAddI, fIxL, wAugS, wApp, wExt, putD, wFldS, wVar, dAt, wC, wBin, wUn, fSub_ii, fDiv_ii, fMod_ii, fPow_ii, fLt_ii, fLe_ii, fGt_ii, fGe_ii, fNeg_i, fAdd_ii, fAdd_tt, fAdd_ss, fAdd_ll, fAdd_c, fAdd_lc, fMul_ii, fMul_ti, fMul_li, fMul_ci, fMulC, lsOf, sqOf, wTest, wChain, wTAnd, wTOr, wTNot, wAndV, wOrV, wNotV, wIf, plOf, fEq, fNe, fIn, fIsN, fNotN, isNon, fFld, wFld, fIx, wNoPart, wPart, wSl, wNil, wCons, wStar, allP, allP_map, wTup, wLst, wLstC, wiSeq, wiRng1, wiRng2, wFor, wLc, wLcC, wtYes, wiEnum, wiZip, wCB, fLen_s, fLen_t, fLen_l, fLen_c, fMax_ii, fMax_iii, fMax_l, fMin_ii, fMin_t, fMin_l, fMin_c, fSum, fAll, fAny, fList, fListC, fTuple, fInt_i, fInt_b, fInt_s, fStr, sqF, fIsT, wIsT, tyName, kit_nt, kit_bt, kit_it, kit_st, kit_tt, kit_lt, kit_ni, kit_bi, kit_ii, kit_si, kit_ti, kit_li, kit_nb, kit_bb, kit_ib, kit_sb, kit_tb, kit_lb, wCallP0, wCallR0, wCallN0, wCallP, wCallR, wCallRf, wCallN, wMake, wMake0, wMakeC, wRaise, wNever, En.xp, enP, enR, enN, rtP, rtR, rtN, entry, List.map_cons, List.map_nil, List.cons_append, List.nil_append, List.append_nil, List.length_cons, List.length_nil, List.replicate, List.set_cons_zero, List.set_cons_succ, List.getElem?_cons_zero, List.getElem?_cons_succ, List.getElem?_nil, Option.getD_some, Option.getD_none, ite_true, ite_false, Bool.not_true, Bool.not_false, Bool.true_and, Bool.and_true, Bool.and_false, Bool.false_and, Bool.not_eq_true, Bool.false_eq_true, reduceIte, decide_eq_true_eq, atI_zero, atI_one, atI_two, atI_three, atI_four, wipeD, reduceCtorEq, ok_int, ok_non, ok_bl, eqv_int, ix40, ix41, ix42, ix43, Int.toNat_natCast, true_and, and_true, true_and]
    exact h
  · have e : (l.counts.map PD.int).map (fun x => PD.bl (isFrom x 1 3)) = (l.counts.map fun _ => true).map PD.bl := by
      rw [List.map_map, List.map_map]
      refine List.map_congr_left fun c hc => ?_
      have := cc c hc
      simp [isFrom, this]
    simp only [e, wNext, wSeq, wBreak, wCont, wDrop, wRet, wSet, wPar, wIfS, wgName, wgNil, wgCons, wgTup, tupOf, wgSub, wAsg, putC, wAug, fAddI, fIxL, wAugS, wApp, wExt, putD, wFldS, wVar, dAt, wC, wBin, wUn, fSub_ii, fDiv_ii, fMod_ii, fPow_ii, fLt_ii, fLe_ii, fGt_ii, fGe_ii, fNeg_i, fAdd_ii, fAdd_tt, fAdd_ss, fAdd_ll, fAdd_c, fAdd_lc, fMul_ii, fMul_ti, fMul_li, fMul_ci, fMulC, lsOf, sqOf, wTest, wChain, wTAnd, wTOr, wTNot, wAndV, wOrV, wNotV, wIf, plOf, fEq, fNe, fIn, fIsN, fNotN, isNon, fFld, wFld, fIx, wNoPart, wPart, wSl, wNil, wCons, wStar, allP, allP_map, wTup, wLst, wLstC, wiSeq, wiRng1, wiRng2, wFor, wLc, wLcC, wtYes, wiEnum, wiZip, wCB, fLen_s, fLen_t, fLen_l, fLen_c, fMax_ii, fMax_iii, fMax_l, fMin_ii, fMin_t, fMin_l, fMin_c, fSum, fAll, fAny, fList, fListC, fTuple, fInt_i, fInt_b, fInt_s, fStr, sqF, fIsT, wIsT, tyName, kit_nt, kit_bt, kit_it, kit_st, kit_tt, kit_lt, kit_ni, kit_bi, kit_ii, kit_si, kit_ti, kit_li, kit_nb, kit_bb, kit_ib, kit_sb, kit_tb, kit_lb, wCallP0, wCallR0, wCallN0, wCallP, wCallR, wCallRf, wCallN, wMake, wMake0, wMakeC, wRaise, wNever, En.xp, enP, enR, enN, rtP, rtR, rtN, entry, List.map_cons, List.map_nil, List.cons_append, List.nil_append, List.append_nil, List.length_cons, List.length_nil, List.replicate, List.set_cons_zero, List.set_cons_succ, List.getElem?_cons_zero, List.getElem?_cons_succ, List.getElem?_nil, Option.getD_some, Option.getD_none, ite_true, ite_false, Bool.not_true, Bool.not_false, Bool.true_and, Bool.and_true, Bool.and_false, Bool.false_and, Bool.not_eq_true, Bool.false_eq_true, reduceIte, decide_eq_true_eq, atI_zero, atI_one, atI_two, atI_three, atI_four, wipeD, reduceCtorEq, ok_int, ok_non, ok_bl, eqv_int, ix40, ix41, ix42, ix43, Int.toNat_natCast, true_and, and_true, allB_map]
    have e2 : (l.counts.map fun _ => true).all id = true := by simp
    simp only [e2, wNext, wSeq, wBreak, wCont, wDrop, wRet, wSet, wPar, wIfS, wgName, wgNil, wgCons, wgTup, tupOf, wgSub, wAsg, putC, wAug, fAddI, fIxL, wAugS, wApp, wExt, putD, wFldS, wVar, dAt, wC, wBin, wUn, fSub_ii, fDiv_ii, fMod_ii, fPow_ii, fLt_ii, fLe_ii, fGt_ii, fGe_ii, fNeg_i, fAdd_ii, fAdd_tt, fAdd_ss, fAdd_ll, fAdd_c, fAdd_lc, fMul_ii, fMul_ti, fMul_li, fMul_ci, fMulC, lsOf, sqOf, wTest, wChain, wTAnd, wTOr, wTNot, wAndV, wOrV, wNotV, wIf, plOf, fEq, fNe, fIn, fIsN, fNotN, isNon, fFld, wFld, fIx, wNoPart, wPart, wSl, wNil, wCons, wStar, allP, allP_map, wTup, wLst, wLstC, wiSeq, wiRng1, wiRng2, wFor, wLc, wLcC, wtYes, wiEnum, wiZip, wCB, fLen_s, fLen_t, fLen_l, fLen_c, fMax_ii, fMax_iii, fMax_l, fMin_ii, fMin_t, fMin_l, fMin_c, fSum, fAll, fAny, fList, fListC, fTuple, fInt_i, fInt_b, fInt_s, fStr, sqF, fIsT, wIsT, tyName, kit_nt, kit_bt, kit_it, kit_st, kit_tt, kit_lt, kit_ni, kit_bi, kit_ii, kit_si, kit_ti, kit_li, kit_nb, kit_bb, kit_ib, kit_sb, kit_tb, kit_lb, wCallP0, wCallR0, wCallN0, wCallP, wCallR, wCallRf, wCallN, wMake, wMake0, wMakeC, wRaise, wNever, En.xp, enP, enR, enN, rtP, rtR, rtN, entry, List.map_cons, List.map_nil, List.cons_append, List.nil_append, List.append_nil, List.length_cons, List.length_nil, List.replicate, List.set_cons_zero, List.set_cons_succ, List.getElem?_cons_zero, List.getElem?_cons_succ, List.getElem?_nil, Option.getD_some, Option.getD_none, ite_true, ite_false, Bool.not_true, Bool.not_false, Bool.true_and, Bool.and_true, Bool.and_false, Bool.false_and, Bool.not_eq_true, Bool.false_eq_true, reduceIte, decide_eq_true_eq, atI_zero, atI_one, atI_two, atI_three, atI_four, wipeD, reduceCtorEq, ok_int, ok_non, ok_bl, eqv_int, ix40, ix41, ix42, ix43, Int.toNat_natCast, true_and, and_true, w_Loopz_initz_15, hr.1, hr.2, decide_true, w_Loopz_initz_14]
    refine ⟨fun i ds m => m = [.ins q.Loop []] ∧ ∃ a b, ds = [some (.c 0), some (.p (intsP l.counts)), some (.p l.rP), some (.p l.bP), none, a, b, none], ⟨rfl, _, _, rfl⟩, ?_, ?_, ?_⟩
    · rintro i _ _ ⟨rfl, a, b, rfl⟩
      trivial
    · rintro i x _ _ hx ⟨rfl, a, b, rfl⟩
      obtain ⟨y, hy, rfl⟩ := enumP_inv hx
      obtain ⟨r, hr, rfl⟩ := map_inv hy
      have hrr := rr r (List.mem_of_getElem? hr)
      have e3 : isStep ((l.counts.map PD.int).length : Int) (rowP r) = true := by
        rw [List.length_map]
        simp only [isStep, rowP, isFrom]
        simp
        omega
      simp only [wNext, wSeq, wBreak, wCont, wDrop, wRet, wSet, wPar, wIfS, wgName, wgNil, wgCons, wgTup, tupOf, wgSub, wAsg, putC, wAug, fAddI, fIxL, wAugS, wApp, wExt, putD, wFldS, wVar, dAt, wC, wBin, wUn, fSub_ii, fDiv_ii, fMod_ii, fPow_ii, fLt_ii, fLe_ii, fGt_ii, fGe_ii, fNeg_i, fAdd_ii, fAdd_tt, fAdd_ss, fAdd_ll, fAdd_c, fAdd_lc, fMul_ii, fMul_ti, fMul_li, fMul_ci, fMulC, lsOf, sqOf, wTest, wChain, wTAnd, wTOr, wTNot, wAndV, wOrV, wNotV, wIf, plOf, fEq, fNe, fIn, fIsN, fNotN, isNon, fFld, wFld, fIx, wNoPart, wPart, wSl, wNil, wCons, wStar, allP, allP_map, wTup, wLst, wLstC, wiSeq, wiRng1, wiRng2, wFor, wLc, wLcC, wtYes, wiEnum, wiZip, wCB, fLen_s, fLen_t, fLen_l, fLen_c, fMax_ii, fMax_iii, fMax_l, fMin_ii, fMin_t, fMin_l, fMin_c, fSum, fAll, fAny, fList, fListC, fTuple, fInt_i, fInt_b, fInt_s, fStr, sqF, fIsT, wIsT, tyName, kit_nt, kit_bt, kit_it, kit_st, kit_tt, kit_lt, kit_ni, kit_bi, kit_ii, kit_si, kit_ti, kit_li, kit_nb, kit_bb, kit_ib, kit_sb, kit_tb, kit_lb, wCallP0, wCallR0, wCallN0, wCallP, wCallR, wCallRf, wCallN, wMake, wMake0, wMakeC, wRaise, wNever, En.xp, enP, enR, enN, rtP, rtR, rtN, entry, List.map_cons, List.map_nil, List.cons_append, List.nil_append, List.append_nil, List.length_cons, List.length_nil, List.replicate, List.set_cons_zero, List.set_cons_succ, List.getElem?_cons_zero, List.getElem?_cons_succ, List.getElem?_nil, Option.getD_some, Option.getD_none, ite_true, ite_false, Bool.not_true, Bool.not_false, Bool.true_and, Bool.and_true, Bool.and_false, Bool.false_and, Bool.not_eq_true, Bool.false_eq_true, reduceIte, decide_eq_true_eq, atI_zero, atI_one, atI_two, atI_three, atI_four, wipeD, reduceCtorEq, ok_int, ok_non, ok_bl, eqv_int, ix40, ix41, ix42, ix43, Int.toNat_natCast, true_and, and_true, w_Loopz_initz_5, r_is_step, pl_ok20 (rowP_pl r), true_and, intsP, e3]
      first | exact ⟨rfl, _, _, rfl⟩ | exact ⟨_, _, rfl⟩
    · rintro _ _ ⟨rfl, a, b, rfl⟩
      simp only [w_Loopz_initz_13, wNext, wSeq, wBreak, wCont, wDrop, wRet, wSet, wPar, wIfS, wgName, wgNil, wgCons, wgTup, tupOf, wgSub, wAsg, putC, wAug, fAddI, fIxL, wAugS, wApp, wExt, putD, wFldS, wVar, dAt, wC, wBin, wUn, fSub_ii, fDiv_ii, fMod_ii, fPow_ii, fLt_ii, fLe_ii, fGt_ii, fGe_ii, fNeg_i, fAdd_ii, fAdd_tt, fAdd_ss, fAdd_ll, fAdd_c, fAdd_lc, fMul_ii, fMul_ti, fMul_li, fMul_ci, fMulC, lsOf, sqOf, wTest, wChain, wTAnd, wTOr, wTNot, wAndV, wOrV, wNotV, wIf, plOf, fEq, fNe, fIn, fIsN, fNotN, isNon, fFld, wFld, fIx, wNoPart, wPart, wSl, wNil, wCons, wStar, allP, allP_map, wTup, wLst, wLstC, wiSeq, wiRng1, wiRng2, wFor, wLc, wLcC, wtYes, wiEnum, wiZip, wCB, fLen_s, fLen_t, fLen_l, fLen_c, fMax_ii, fMax_iii, fMax_l, fMin_ii, fMin_t, fMin_l, fMin_c, fSum, fAll, fAny, fList, fListC, fTuple, fInt_i, fInt_b, fInt_s, fStr, sqF, fIsT, wIsT, tyName, kit_nt, kit_bt, kit_it, kit_st, kit_tt, kit_lt, kit_ni, kit_bi, kit_ii, kit_si, kit_ti, kit_li, kit_nb, kit_bb, kit_ib, kit_sb, kit_tb, kit_lb, wCallP0, wCallR0, wCallN0, wCallP, wCallR, wCallRf, wCallN, wMake, wMake0, wMakeC, wRaise, wNever, En.xp, enP, enR, enN, rtP, rtR, rtN, entry, List.map_cons, List.map_nil, List.cons_append, List.nil_append, List.append_nil, List.length_cons, List.length_nil, List.replicate, List.set_cons_zero, List.set_cons_succ, List.getElem?_cons_zero, List.getElem?_cons_succ, List.getElem?_nil, Option.getD_some, Option.getD_none, ite_true, ite_false, Bool.not_true, Bool.not_false, Bool.true_and, Bool.and_true, Bool.and_false, Bool.false_and, Bool.not_eq_true, Bool.false_eq_true, reduceIte, decide_eq_true_eq, atI_zero, atI_one, atI_two, atI_three, atI_four, wipeD, reduceCtorEq, ok_int, ok_non, ok_bl, eqv_int, ix40, ix41, ix42, ix43, Int.toNat_natCast, true_and, and_true, Lp.bP, hb, decide_false, w_Loopz_initz_12]
      refine ⟨fun i ds m => m = [.ins q.Loop []] ∧ ∃ a b c, ds = [some (.c 0), some (.p (intsP l.counts)), some (.p l.rP), some (.p l.bP), none, a, b, c], ⟨rfl, _, _, _, rfl⟩, ?_, ?_, ?_⟩
      · rintro i _ _ ⟨rfl, a, b, c, rfl⟩
        trivial
      · rintro i x _ _ hx ⟨rfl, a, b, c, rfl⟩
        obtain ⟨y, hy, rfl⟩ := enumP_inv hx
        obtain ⟨r, hr, rfl⟩ := map_inv hy
        have hrr := bb r (List.mem_of_getElem? hr)
        have e3 : isWait ((l.rows.map rowP).length : Int) (barP r) = true := by
          rw [List.length_map]
          simp only [isWait, barP, isFrom]
          simp
          omega
        have e4 : inP (barP r) ((l.bars.map barP).take i) = false := by
          refine inP_false (barP_pl r) (fun y hy => ?_) (fun hm => ?_)
          · obtain ⟨z, _, rfl⟩ := List.mem_map.mp (List.mem_of_mem_take hy)
            exact barP_pl z
          · rw [← List.map_take] at hm
            obtain ⟨z, hz, e⟩ := List.mem_map.mp hm
            have := barP_inj e
            subst this
            obtain ⟨j, hj⟩ := List.getElem?_of_mem hz
            rw [List.getElem?_take] at hj
            split at hj
            · rename_i hji
              have hi : i < l.bars.length := (List.getElem?_eq_some_iff.mp hr).1
              have := (List.getElem?_inj (i := j) (j := i) (by omega) nd).mp (hj.trans hr.symm)
              omega
            · cases hj
        simp only [wNext, wSeq, wBreak, wCont, wDrop, wRet, wSet, wPar, wIfS, wgName, wgNil, wgCons, wgTup, tupOf, wgSub, wAsg, putC, wAug, fAddI, fIxL, wAugS, wApp, wExt, putD, wFldS, wVar, dAt, wC, wBin, wUn, fSub_ii, fDiv_ii, fMod_ii, fPow_ii, fLt_ii, fLe_ii, fGt_ii, fGe_ii, fNeg_i, fAdd_ii, fAdd_tt, fAdd_ss, fAdd_ll, fAdd_c, fAdd_lc, fMul_ii, fMul_ti, fMul_li, fMul_ci, fMulC, lsOf, sqOf, wTest, wChain, wTAnd, wTOr, wTNot, wAndV, wOrV, wNotV, wIf, plOf, fEq, fNe, fIn, fIsN, fNotN, isNon, fFld, wFld, fIx, wNoPart, wPart, wSl, wNil, wCons, wStar, allP, allP_map, wTup, wLst, wLstC, wiSeq, wiRng1, wiRng2, wFor, wLc, wLcC, wtYes, wiEnum, wiZip, wCB, fLen_s, fLen_t, fLen_l, fLen_c, fMax_ii, fMax_iii, fMax_l, fMin_ii, fMin_t, fMin_l, fMin_c, fSum, fAll, fAny, fList, fListC, fTuple, fInt_i, fInt_b, fInt_s, fStr, sqF, fIsT, wIsT, tyName, kit_nt, kit_bt, kit_it, kit_st, kit_tt, kit_lt, kit_ni, kit_bi, kit_ii, kit_si, kit_ti, kit_li, kit_nb, kit_bb, kit_ib, kit_sb, kit_tb, kit_lb, wCallP0, wCallR0, wCallN0, wCallP, wCallR, wCallRf, wCallN, wMake, wMake0, wMakeC, wRaise, wNever, En.xp, enP, enR, enN, rtP, rtR, rtN, entry, List.map_cons, List.map_nil, List.cons_append, List.nil_append, List.append_nil, List.length_cons, List.length_nil, List.replicate, List.set_cons_zero, List.set_cons_succ, List.getElem?_cons_zero, List.getElem?_cons_succ, List.getElem?_nil, Option.getD_some, Option.getD_none, ite_true, ite_false, Bool.not_true, Bool.not_false, Bool.true_and, Bool.and_true, Bool.and_false, Bool.false_and, Bool.not_eq_true, Bool.false_eq_true, reduceIte, decide_eq_true_eq, atI_zero, atI_one, atI_two, atI_three, atI_four, wipeD, reduceCtorEq, ok_int, ok_non, ok_bl, eqv_int, ix40, ix41, ix42, ix43, Int.toNat_natCast, true_and, and_true, w_Loopz_initz_8, r_is_wait, pl_ok20 (barP_pl r), true_and, Lp.rP, e3, Nat.zero_add, cut_take, Lp.bP, pl_ok30 (barP_pl r), e4]
        refine ⟨?_, ?_⟩
        · have := pl_ok30 (mapL_pl barP_pl (l.bars.take i))
          rw [List.map_take] at this
          exact this
        · first | exact ⟨rfl, _, _, _, rfl⟩ | exact ⟨_, _, _, rfl⟩
      · rintro _ _ ⟨rfl, a, b, c, rfl⟩
        simp only [w_Loopz_initz_11, w_Loopz_initz_10, w_Loopz_initz_9, wNext, wSeq, wBreak, wCont, wDrop, wRet, wSet, wPar, wIfS, wgName, wgNil, wgCons, wgTup, tupOf, wgSub, wAsg, putC, wAug, fAddI, fIxL, wAugS, wApp, wExt, putD, wFldS, wVar, dAt, wC, wBin, wUn, fSub_ii, fDiv_ii, fMod_ii, fPow_ii, fLt_ii, fLe_ii, fGt_ii, fGe_ii, fNeg_i, fAdd_ii, fAdd_tt, fAdd_ss, fAdd_ll, fAdd_c, fAdd_lc, fMul_ii, fMul_ti, fMul_li, fMul_ci, fMulC, lsOf, sqOf, wTest, wChain, wTAnd, wTOr, wTNot, wAndV, wOrV, wNotV, wIf, plOf, fEq, fNe, fIn, fIsN, fNotN, isNon, fFld, wFld, fIx, wNoPart, wPart, wSl, wNil, wCons, wStar, allP, allP_map, wTup, wLst, wLstC, wiSeq, wiRng1, wiRng2, wFor, wLc, wLcC, wtYes, wiEnum, wiZip, wCB, fLen_s, fLen_t, fLen_l, fLen_c, fMax_ii, fMax_iii, fMax_l, fMin_ii, fMin_t, fMin_l, fMin_c, fSum, fAll, fAny, fList, fListC, fTuple, fInt_i, fInt_b, fInt_s, fStr, sqF, fIsT, wIsT, tyName, kit_nt, kit_bt, kit_it, kit_st, kit_tt, kit_lt, kit_ni, kit_bi, kit_ii, kit_si, kit_ti, kit_li, kit_nb, kit_bb, kit_ib, kit_sb, kit_tb, kit_lb, wCallP0, wCallR0, wCallN0, wCallP, wCallR, wCallRf, wCallN, wMake, wMake0, wMakeC, wRaise, wNever, En.xp, enP, enR, enN, rtP, rtR, rtN, entry, List.map_cons, List.map_nil, List.cons_append, List.nil_append, List.append_nil, List.length_cons, List.length_nil, List.replicate, List.set_cons_zero, List.set_cons_succ, List.getElem?_cons_zero, List.getElem?_cons_succ, List.getElem?_nil, Option.getD_some, Option.getD_none, ite_true, ite_false, Bool.not_true, Bool.not_false, Bool.true_and, Bool.and_true, Bool.and_false, Bool.false_and, Bool.not_eq_true, Bool.false_eq_true, reduceIte, decide_eq_true_eq, atI_zero, atI_one, atI_two, atI_three, atI_four, wipeD, reduceCtorEq, ok_int, ok_non, ok_bl, eqv_int, ix40, ix41, ix42, ix43, Int.toNat_natCast, true_and, and_true]
        simp only [if_neg str_cr, if_neg str_cb, if_neg str_rb, putD, wNext, wSeq, wBreak, wCont, wDrop, wRet, wSet, wPar, wIfS, wgName, wgNil, wgCons, wgTup, tupOf, wgSub, wAsg, putC, wAug, fAddI, fIxL, wAugS, wApp, wExt, putD, wFldS, wVar, dAt, wC, wBin, wUn, fSub_ii, fDiv_ii, fMod_ii, fPow_ii, fLt_ii, fLe_ii, fGt_ii, fGe_ii, fNeg_i, fAdd_ii, fAdd_tt, fAdd_ss, fAdd_ll, fAdd_c, fAdd_lc, fMul_ii, fMul_ti, fMul_li, fMul_ci, fMulC, lsOf, sqOf, wTest, wChain, wTAnd, wTOr, wTNot, wAndV, wOrV, wNotV, wIf, plOf, fEq, fNe, fIn, fIsN, fNotN, isNon, fFld, wFld, fIx, wNoPart, wPart, wSl, wNil, wCons, wStar, allP, allP_map, wTup, wLst, wLstC, wiSeq, wiRng1, wiRng2, wFor, wLc, wLcC, wtYes, wiEnum, wiZip, wCB, fLen_s, fLen_t, fLen_l, fLen_c, fMax_ii, fMax_iii, fMax_l, fMin_ii, fMin_t, fMin_l, fMin_c, fSum, fAll, fAny, fList, fListC, fTuple, fInt_i, fInt_b, fInt_s, fStr, sqF, fIsT, wIsT, tyName, kit_nt, kit_bt, kit_it, kit_st, kit_tt, kit_lt, kit_ni, kit_bi, kit_ii, kit_si, kit_ti, kit_li, kit_nb, kit_bb, kit_ib, kit_sb, kit_tb, kit_lb, wCallP0, wCallR0, wCallN0, wCallP, wCallR, wCallRf, wCallN, wMake, wMake0, wMakeC, wRaise, wNever, En.xp, enP, enR, enN, rtP, rtR, rtN, entry, List.map_cons, List.map_nil, List.cons_append, List.nil_append, List.append_nil, List.length_cons, List.length_nil, List.replicate, List.set_cons_zero, List.set_cons_succ, List.getElem?_cons_zero, List.getElem?_cons_succ, List.getElem?_nil, Option.getD_some, Option.getD_none, ite_true, ite_false, Bool.not_true, Bool.not_false, Bool.true_and, Bool.and_true, Bool.and_false, Bool.false_and, Bool.not_eq_true, Bool.false_eq_true, reduceIte, decide_eq_true_eq, atI_zero, atI_one, atI_two, atI_three, atI_four, wipeD, reduceCtorEq, ok_int, ok_non, ok_bl, eqv_int, ix40, ix41, ix42, ix43, Int.toNat_natCast, true_and, and_true, M.free, List.all_cons, List.all_nil]
        exact ⟨by decide, by decide, by decide, h⟩
end DL

set_option Elab.async false
set_option linter.all false
set_option maxRecDepth 100000
set_option maxHeartbeats 4000000
namespace DL
open PySem L2
theorem atI_some {α : Type} {xs : List α} {i : Int} (h0 : 0 ≤ i) (h1 : i < xs.length) : ∃ x, xs[i.toNat]? = some x ∧ L2.atI xs i = some x := by
  have e : i = ((i.toNat : Nat) : Int) := by omega
  have h : i.toNat < xs.length := by omega
  refine ⟨xs[i.toNat], List.getElem?_eq_getElem h, ?_⟩
  conv => lhs; rw [e, atI_nat]
  exact List.getElem?_eq_getElem h
theorem z__law_up {q : Ad} (args : List PD) (P : PD → Prop) (Xp : RX) (h : r__law_up q args P Xp) : w__law_up q (enP P Xp) (entry n__law_up.length (args.map D.p)) [] := by
  unfold r__law_up at h
  split at h
  · simp only [w__law_up, w__law_up_1, wNext, wSeq, wBreak, wCont, wDrop, wRet, wSet, wPar, wIfS, wgName, wgNil, wgCons, wgTup, tupOf, wgSub, wAsg, putC, wAug, fAddI, fIxL, wAugS, wApp, wExt, putD, wFldS, wVar, dAt, wC, wBin, wUn, fSub_ii, fDiv_ii, fMod_ii, fPow_ii, fLt_ii, fLe_ii, fGt_ii, fGe_ii, fNeg_i, fAdd_ii, fAdd_tt, fAdd_ss, fAdd_ll, fAdd_c, fAdd_lc, fMul_ii, fMul_ti, fMul_li, fMul_ci, fMulC, lsOf, sqOf, wTest, wChain, wTAnd, wTOr, wTNot, wAndV, wOrV, wNotV, wIf, plOf, fEq, fNe, fIn, fIsN, fNotN, isNon, fFld, wFld, fIx, wNoPart, wPart, wSl, wNil, wCons, wStar, allP, allP_map, wTup, wLst, wLstC, wiSeq, wiRng1, wiRng2, wFor, wLc, wLcC, wtYes, wiEnum, wiZip, wCB, fLen_s, fLen_t, fLen_l, fLen_c, fMax_ii, fMax_iii, fMax_l, fMin_ii, fMin_t, fMin_l, fMin_c, fSum, fAll, fAny, fList, fListC, fTuple, fInt_i, fInt_b, fInt_s, fStr, sqF, fIsT, wIsT, tyName, kit_nt, kit_bt, kit_it, kit_st, kit_tt, kit_lt, kit_ni, kit_bi, kit_ii, kit_si, kit_ti, kit_li, kit_nb, kit_bb, kit_ib, kit_sb, kit_tb, kit_lb, wCallP0, wCallR0, wCallN0, wCallP, wCallR, wCallRf, wCallN, wMake, wMake0, wMakeC, wRaise, wNever, En.xp, enP, enR, enN, rtP, rtR, rtN, entry, List.map_cons, List.map_nil, List.cons_append, List.nil_append, List.append_nil, List.length_cons, List.length_nil, List.replicate, List.set_cons_zero, List.set_cons_succ, List.getElem?_cons_zero, List.getElem?_cons_succ, List.getElem?_nil, Option.getD_some, Option.getD_none, ite_true, ite_false, Bool.not_true, Bool.not_false, Bool.true_and, Bool.and_true, Bool.and_false, Bool.false_and, Bool.not_eq_true, Bool.false_eq_true, reduceIte, decide_eq_true_eq, atI_zero, atI_one, atI_two, atI_three, atI_four, wipeD, reduceCtorEq, ok_int, ok_non, ok_bl, eqv_int, ix40, ix41, ix42, ix43, Int.toNat_natCast, true_and, and_true, n__law_up]
    exact ⟨⟨h.1, h.2.1⟩, h.2.2⟩
  · exact h.elim
theorem z__law_made {q : Ad} (args : List PD) (P : PD → Prop) (Xp : RX) (h : r__law_made q args P Xp) : w__law_made q (enP P Xp) (entry n__law_made.length (args.map D.p)) [] := by
  obtain ⟨l, rfl, ok, h⟩ := h
  simp only [w__law_made, w__law_made_1, wNext, wSeq, wBreak, wCont, wDrop, wRet, wSet, wPar, wIfS, wgName, wgNil, wgCons, wgTup, tupOf, wgSub, wAsg, putC, wAug, fAddI, fIxL, wAugS, wApp, wExt, putD, wFldS, wVar, dAt, wC, wBin, wUn, fSub_ii, fDiv_ii, fMod_ii, fPow_ii, fLt_ii, fLe_ii, fGt_ii, fGe_ii, fNeg_i, fAdd_ii, fAdd_tt, fAdd_ss, fAdd_ll, fAdd_c, fAdd_lc, fMul_ii, fMul_ti, fMul_li, fMul_ci, fMulC, lsOf, sqOf, wTest, wChain, wTAnd, wTOr, wTNot, wAndV, wOrV, wNotV, wIf, plOf, fEq, fNe, fIn, fIsN, fNotN, isNon, fFld, wFld, fIx, wNoPart, wPart, wSl, wNil, wCons, wStar, allP, allP_map, wTup, wLst, wLstC, wiSeq, wiRng1, wiRng2, wFor, wLc, wLcC, wtYes, wiEnum, wiZip, wCB, fLen_s, fLen_t, fLen_l, fLen_c, fMax_ii, fMax_iii, fMax_l, fMin_ii, fMin_t, fMin_l, fMin_c, fSum, fAll, fAny, fList, fListC, fTuple, fInt_i, fInt_b, fInt_s, fStr, sqF, fIsT, wIsT, tyName, kit_nt, kit_bt, kit_it, kit_st, kit_tt, kit_lt, kit_ni, kit_bi, kit_ii, kit_si, kit_ti, kit_li, kit_nb, kit_bb, kit_ib, kit_sb, kit_tb, kit_lb, wCallP0, wCallR0, wCallN0, wCallP, wCallR, wCallRf, wCallN, wMake, wMake0, wMakeC, wRaise, wNever, En.xp, enP, enR, enN, rtP, rtR, rtN, entry, List.map_cons, List.map_nil, List.cons_append, List.nil_append, List.append_nil, List.length_cons, List.length_nil, List.replicate, List.set_cons_zero, List.set_cons_succ, List.getElem?_cons_zero, List.getElem?_cons_succ, List.getElem?_nil, Option.getD_some, Option.getD_none, ite_true, ite_false, Bool.not_true, Bool.not_false, Bool.true_and, Bool.and_true, Bool.and_false, Bool.false_and, Bool.not_eq_true, Bool.false_eq_true, reduceIte, decide_eq_true_eq, atI_zero, atI_one, atI_two, atI_three, atI_four, wipeD, reduceCtorEq, ok_int, ok_non, ok_bl, eqv_int, ix40, ix41, ix42, ix43, Int.toNat_natCast, true_and, and_true, n__law_made, Lp.tp]
  exact ⟨l, rfl, rfl, ok, rfl, l.fs, rfl, h⟩
theorem z__law_draws {q : Ad} (args : List PD) (P : M → Prop) (Xp : RX) (h : r__law_draws q args P Xp) : w__law_draws q (enN P Xp) (entry n__law_draws.length (args.map D.p)) [] := by
  unfold r__law_draws at h
  split at h
  · obtain ⟨ns, rfl, h⟩ := h
    simp only [w__law_draws, w__law_draws_1, wNext, wSeq, wBreak, wCont, wDrop, wRet, wSet, wPar, wIfS, wgName, wgNil, wgCons, wgTup, tupOf, wgSub, wAsg, putC, wAug, fAddI, fIxL, wAugS, wApp, wExt, putD, wFldS, wVar, dAt, wC, wBin, wUn, fSub_ii, fDiv_ii, fMod_ii, fPow_ii, fLt_ii, fLe_ii, fGt_ii, fGe_ii, fNeg_i, fAdd_ii, fAdd_tt, fAdd_ss, fAdd_ll, fAdd_c, fAdd_lc, fMul_ii, fMul_ti, fMul_li, fMul_ci, fMulC, lsOf, sqOf, wTest, wChain, wTAnd, wTOr, wTNot, wAndV, wOrV, wNotV, wIf, plOf, fEq, fNe, fIn, fIsN, fNotN, isNon, fFld, wFld, fIx, wNoPart, wPart, wSl, wNil, wCons, wStar, allP, allP_map, wTup, wLst, wLstC, wiSeq, wiRng1, wiRng2, wFor, wLc, wLcC, wtYes, wiEnum, wiZip, wCB, fLen_s, fLen_t, fLen_l, fLen_c, fMax_ii, fMax_iii, fMax_l, fMin_ii, fMin_t, fMin_l, fMin_c, fSum, fAll, fAny, fList, fListC, fTuple, fInt_i, fInt_b, fInt_s, fStr, sqF, fIsT, wIsT, tyName, kit_nt, kit_bt, kit_it, kit_st, kit_tt, kit_lt, kit_ni, kit_bi, kit_ii, kit_si, kit_ti, kit_li, kit_nb, kit_bb, kit_ib, kit_sb, kit_tb, kit_lb, wCallP0, wCallR0, wCallN0, wCallP, wCallR, wCallRf, wCallN, wMake, wMake0, wMakeC, wRaise, wNever, En.xp, enP, enR, enN, rtP, rtR, rtN, entry, List.map_cons, List.map_nil, List.cons_append, List.nil_append, List.append_nil, List.length_cons, List.length_nil, List.replicate, List.set_cons_zero, List.set_cons_succ, List.getElem?_cons_zero, List.getElem?_cons_succ, List.getElem?_nil, Option.getD_some, Option.getD_none, ite_true, ite_false, Bool.not_true, Bool.not_false, Bool.true_and, Bool.and_true, Bool.and_false, Bool.false_and, Bool.not_eq_true, Bool.false_eq_true, reduceIte, decide_eq_true_eq, atI_zero, atI_one, atI_two, atI_three, atI_four, wipeD, reduceCtorEq, ok_int, ok_non, ok_bl, eqv_int, ix40, ix41, ix42, ix43, Int.toNat_natCast, true_and, and_true, n__law_draws]
    exact ⟨by decide, rfl, h _ ⟨ns, 0, 0, 7, rfl, by decide, by decide, by decide, by decide⟩⟩
  · exact h.elim
theorem z__law_pick {q : Ad} (m : M) (args : List PD) (P : PD → M → Prop) (Xp : Addr → List (Str × PD) → M → Prop) (h : r__law_pick q m args P Xp) : w__law_pick q (enR P Xp) (entry n__law_pick.length (.c 0 :: args.map D.p)) [m] := by
  obtain ⟨⟨cells, i, b, s, rfl, hi, hb, hs, hs2⟩, h⟩ := h
  split at h
  · rename_i many
    obtain ⟨m1, m2, h⟩ := h
    -- what stands behind the draw
    have tail : ∀ (i b s : Int) (x y : Option D), 0 ≤ i → 0 ≤ b → 0 ≤ s → s < 2147483647 → w__law_pick_12 q (enR P Xp) [some (.c 0), some (.p (.int many)), x, y] [.lst [.lst (cells.map .int), .int i, .int b, .int s]] := by
      intro i b s x y hi hb hs hs2
      simp only [w__law_pick_12, wNext, wSeq, wBreak, wCont, wDrop, wRet, wSet, wPar, wIfS, wgName, wgNil, wgCons, wgTup, tupOf, wgSub, wAsg, putC, wAug, fAddI, fIxL, wAugS, wApp, wExt, putD, wFldS, wVar, dAt, wC, wBin, wUn, fSub_ii, fDiv_ii, fMod_ii, fPow_ii, fLt_ii, fLe_ii, fGt_ii, fGe_ii, fNeg_i, fAdd_ii, fAdd_tt, fAdd_ss, fAdd_ll, fAdd_c, fAdd_lc, fMul_ii, fMul_ti, fMul_li, fMul_ci, fMulC, lsOf, sqOf, wTest, wChain, wTAnd, wTOr, wTNot, wAndV, wOrV, wNotV, wIf, plOf, fEq, fNe, fIn, fIsN, fNotN, isNon, fFld, wFld, fIx, wNoPart, wPart, wSl, wNil, wCons, wStar, allP, allP_map, wTup, wLst, wLstC, wiSeq, wiRng1, wiRng2, wFor, wLc, wLcC, wtYes, wiEnum, wiZip, wCB, fLen_s, fLen_t, fLen_l, fLen_c, fMax_ii, fMax_iii, fMax_l, fMin_ii, fMin_t, fMin_l, fMin_c, fSum, fAll, fAny, fList, fListC, fTuple, fInt_i, fInt_b, fInt_s, fStr, sqF, fIsT, wIsT, tyName, kit_nt, kit_bt, kit_it, kit_st, kit_tt, kit_lt, kit_ni, kit_bi, kit_ii, kit_si, kit_ti, kit_li, kit_nb, kit_bb, kit_ib, kit_sb, kit_tb, kit_lb, wCallP0, wCallR0, wCallN0, wCallP, wCallR, wCallRf, wCallN, wMake, wMake0, wMakeC, wRaise, wNever, En.xp, enP, enR, enN, rtP, rtR, rtN, entry, List.map_cons, List.map_nil, List.cons_append, List.nil_append, List.append_nil, List.length_cons, List.length_nil, List.replicate, List.set_cons_zero, List.set_cons_succ, List.getElem?_cons_zero, List.getElem?_cons_succ, List.getElem?_nil, Option.getD_some, Option.getD_none, ite_true, ite_false, Bool.not_true, Bool.not_false, Bool.true_and, Bool.and_true, Bool.and_false, Bool.false_and, Bool.not_eq_true, Bool.false_eq_true, reduceIte, decide_eq_true_eq, atI_zero, atI_one, atI_two, atI_three, atI_four, wipeD, reduceCtorEq, ok_int, ok_non, ok_bl, eqv_int, ix40, ix41, ix42, ix43, Int.toNat_natCast, true_and, and_true]
      by_cases h1 : 0 < b
      · simp only [h1, w__law_pick_10, w__law_pick_9, w__law_pick_8, wNext, wSeq, wBreak, wCont, wDrop, wRet, wSet, wPar, wIfS, wgName, wgNil, wgCons, wgTup, tupOf, wgSub, wAsg, putC, wAug, fAddI, fIxL, wAugS, wApp, wExt, putD, wFldS, wVar, dAt, wC, wBin, wUn, fSub_ii, fDiv_ii, fMod_ii, fPow_ii, fLt_ii, fLe_ii, fGt_ii, fGe_ii, fNeg_i, fAdd_ii, fAdd_tt, fAdd_ss, fAdd_ll, fAdd_c, fAdd_lc, fMul_ii, fMul_ti, fMul_li, fMul_ci, fMulC, lsOf, sqOf, wTest, wChain, wTAnd, wTOr, wTNot, wAndV, wOrV, wNotV, wIf, plOf, fEq, fNe, fIn, fIsN, fNotN, isNon, fFld, wFld, fIx, wNoPart, wPart, wSl, wNil, wCons, wStar, allP, allP_map, wTup, wLst, wLstC, wiSeq, wiRng1, wiRng2, wFor, wLc, wLcC, wtYes, wiEnum, wiZip, wCB, fLen_s, fLen_t, fLen_l, fLen_c, fMax_ii, fMax_iii, fMax_l, fMin_ii, fMin_t, fMin_l, fMin_c, fSum, fAll, fAny, fList, fListC, fTuple, fInt_i, fInt_b, fInt_s, fStr, sqF, fIsT, wIsT, tyName, kit_nt, kit_bt, kit_it, kit_st, kit_tt, kit_lt, kit_ni, kit_bi, kit_ii, kit_si, kit_ti, kit_li, kit_nb, kit_bb, kit_ib, kit_sb, kit_tb, kit_lb, wCallP0, wCallR0, wCallN0, wCallP, wCallR, wCallRf, wCallN, wMake, wMake0, wMakeC, wRaise, wNever, En.xp, enP, enR, enN, rtP, rtR, rtN, entry, List.map_cons, List.map_nil, List.cons_append, List.nil_append, List.append_nil, List.length_cons, List.length_nil, List.replicate, List.set_cons_zero, List.set_cons_succ, List.getElem?_cons_zero, List.getElem?_cons_succ, List.getElem?_nil, Option.getD_some, Option.getD_none, ite_true, ite_false, Bool.not_true, Bool.not_false, Bool.true_and, Bool.and_true, Bool.and_false, Bool.false_and, Bool.not_eq_true, Bool.false_eq_true, reduceIte, decide_eq_true_eq, atI_zero, atI_one, atI_two, atI_three, atI_four, wipeD, reduceCtorEq, ok_int, ok_non, ok_bl, eqv_int, ix40, ix41, ix42, ix43, Int.toNat_natCast, true_and, and_true, m1, true_and]
        refine ⟨⟨m1, m2⟩, rfl, h _ _ (Int.emod_nonneg _ (by omega)) (Int.emod_lt_of_pos _ m1) ⟨cells, i, b / many, s, rfl, hi, Int.ediv_nonneg hb (by omega), hs, hs2⟩⟩
      · simp only [h1, w__law_pick_11, wNext, wSeq, wBreak, wCont, wDrop, wRet, wSet, wPar, wIfS, wgName, wgNil, wgCons, wgTup, tupOf, wgSub, wAsg, putC, wAug, fAddI, fIxL, wAugS, wApp, wExt, putD, wFldS, wVar, dAt, wC, wBin, wUn, fSub_ii, fDiv_ii, fMod_ii, fPow_ii, fLt_ii, fLe_ii, fGt_ii, fGe_ii, fNeg_i, fAdd_ii, fAdd_tt, fAdd_ss, fAdd_ll, fAdd_c, fAdd_lc, fMul_ii, fMul_ti, fMul_li, fMul_ci, fMulC, lsOf, sqOf, wTest, wChain, wTAnd, wTOr, wTNot, wAndV, wOrV, wNotV, wIf, plOf, fEq, fNe, fIn, fIsN, fNotN, isNon, fFld, wFld, fIx, wNoPart, wPart, wSl, wNil, wCons, wStar, allP, allP_map, wTup, wLst, wLstC, wiSeq, wiRng1, wiRng2, wFor, wLc, wLcC, wtYes, wiEnum, wiZip, wCB, fLen_s, fLen_t, fLen_l, fLen_c, fMax_ii, fMax_iii, fMax_l, fMin_ii, fMin_t, fMin_l, fMin_c, fSum, fAll, fAny, fList, fListC, fTuple, fInt_i, fInt_b, fInt_s, fStr, sqF, fIsT, wIsT, tyName, kit_nt, kit_bt, kit_it, kit_st, kit_tt, kit_lt, kit_ni, kit_bi, kit_ii, kit_si, kit_ti, kit_li, kit_nb, kit_bb, kit_ib, kit_sb, kit_tb, kit_lb, wCallP0, wCallR0, wCallN0, wCallP, wCallR, wCallRf, wCallN, wMake, wMake0, wMakeC, wRaise, wNever, En.xp, enP, enR, enN, rtP, rtR, rtN, entry, List.map_cons, List.map_nil, List.cons_append, List.nil_append, List.append_nil, List.length_cons, List.length_nil, List.replicate, List.set_cons_zero, List.set_cons_succ, List.getElem?_cons_zero, List.getElem?_cons_succ, List.getElem?_nil, Option.getD_some, Option.getD_none, ite_true, ite_false, Bool.not_true, Bool.not_false, Bool.true_and, Bool.and_true, Bool.and_false, Bool.false_and, Bool.not_eq_true, Bool.false_eq_true, reduceIte, decide_eq_true_eq, atI_zero, atI_one, atI_two, atI_three, atI_four, wipeD, reduceCtorEq, ok_int, ok_non, ok_bl, eqv_int, ix40, ix41, ix42, ix43, Int.toNat_natCast, true_and, and_true, m1, true_and]
        refine ⟨.inr (by decide), by decide, rfl, h _ _ (Int.emod_nonneg _ (by omega)) (Int.emod_lt_of_pos _ m1) ⟨cells, i, b, s, rfl, hi, hb, hs, hs2⟩⟩
    simp only [w__law_pick, w__law_pick_13, wNext, wSeq, wBreak, wCont, wDrop, wRet, wSet, wPar, wIfS, wgName, wgNil, wgCons, wgTup, tupOf, wgSub, wAsg, putC, wAug, fAddI, fIxL, wAugS, wApp, wExt, putD, wFldS, wVar, dAt, wC, wBin, wUn, fSub_ii, fDiv_ii, fMod_ii, fPow_ii, fLt_ii, fLe_ii, fGt_ii, fGe_ii, fNeg_i, fAdd_ii, fAdd_tt, fAdd_ss, fAdd_ll, fAdd_c, fAdd_lc, fMul_ii, fMul_ti, fMul_li, fMul_ci, fMulC, lsOf, sqOf, wTest, wChain, wTAnd, wTOr, wTNot, wAndV, wOrV, wNotV, wIf, plOf, fEq, fNe, fIn, fIsN, fNotN, isNon, fFld, wFld, fIx, wNoPart, wPart, wSl, wNil, wCons, wStar, allP, allP_map, wTup, wLst, wLstC, wiSeq, wiRng1, wiRng2, wFor, wLc, wLcC, wtYes, wiEnum, wiZip, wCB, fLen_s, fLen_t, fLen_l, fLen_c, fMax_ii, fMax_iii, fMax_l, fMin_ii, fMin_t, fMin_l, fMin_c, fSum, fAll, fAny, fList, fListC, fTuple, fInt_i, fInt_b, fInt_s, fStr, sqF, fIsT, wIsT, tyName, kit_nt, kit_bt, kit_it, kit_st, kit_tt, kit_lt, kit_ni, kit_bi, kit_ii, kit_si, kit_ti, kit_li, kit_nb, kit_bb, kit_ib, kit_sb, kit_tb, kit_lb, wCallP0, wCallR0, wCallN0, wCallP, wCallR, wCallRf, wCallN, wMake, wMake0, wMakeC, wRaise, wNever, En.xp, enP, enR, enN, rtP, rtR, rtN, entry, List.map_cons, List.map_nil, List.cons_append, List.nil_append, List.append_nil, List.length_cons, List.length_nil, List.replicate, List.set_cons_zero, List.set_cons_succ, List.getElem?_cons_zero, List.getElem?_cons_succ, List.getElem?_nil, Option.getD_some, Option.getD_none, ite_true, ite_false, Bool.not_true, Bool.not_false, Bool.true_and, Bool.and_true, Bool.and_false, Bool.false_and, Bool.not_eq_true, Bool.false_eq_true, reduceIte, decide_eq_true_eq, atI_zero, atI_one, atI_two, atI_three, atI_four, wipeD, reduceCtorEq, ok_int, ok_non, ok_bl, eqv_int, ix40, ix41, ix42, ix43, Int.toNat_natCast, true_and, and_true, n__law_pick]
    by_cases hb0 : b = 0
    · simp only [hb0, w__law_pick_7, wNext, wSeq, wBreak, wCont, wDrop, wRet, wSet, wPar, wIfS, wgName, wgNil, wgCons, wgTup, tupOf, wgSub, wAsg, putC, wAug, fAddI, fIxL, wAugS, wApp, wExt, putD, wFldS, wVar, dAt, wC, wBin, wUn, fSub_ii, fDiv_ii, fMod_ii, fPow_ii, fLt_ii, fLe_ii, fGt_ii, fGe_ii, fNeg_i, fAdd_ii, fAdd_tt, fAdd_ss, fAdd_ll, fAdd_c, fAdd_lc, fMul_ii, fMul_ti, fMul_li, fMul_ci, fMulC, lsOf, sqOf, wTest, wChain, wTAnd, wTOr, wTNot, wAndV, wOrV, wNotV, wIf, plOf, fEq, fNe, fIn, fIsN, fNotN, isNon, fFld, wFld, fIx, wNoPart, wPart, wSl, wNil, wCons, wStar, allP, allP_map, wTup, wLst, wLstC, wiSeq, wiRng1, wiRng2, wFor, wLc, wLcC, wtYes, wiEnum, wiZip, wCB, fLen_s, fLen_t, fLen_l, fLen_c, fMax_ii, fMax_iii, fMax_l, fMin_ii, fMin_t, fMin_l, fMin_c, fSum, fAll, fAny, fList, fListC, fTuple, fInt_i, fInt_b, fInt_s, fStr, sqF, fIsT, wIsT, tyName, kit_nt, kit_bt, kit_it, kit_st, kit_tt, kit_lt, kit_ni, kit_bi, kit_ii, kit_si, kit_ti, kit_li, kit_nb, kit_bb, kit_ib, kit_sb, kit_tb, kit_lb, wCallP0, wCallR0, wCallN0, wCallP, wCallR, wCallRf, wCallN, wMake, wMake0, wMakeC, wRaise, wNever, En.xp, enP, enR, enN, rtP, rtR, rtN, entry, List.map_cons, List.map_nil, List.cons_append, List.nil_append, List.append_nil, List.length_cons, List.length_nil, List.replicate, List.set_cons_zero, List.set_cons_succ, List.getElem?_cons_zero, List.getElem?_cons_succ, List.getElem?_nil, Option.getD_some, Option.getD_none, ite_true, ite_false, Bool.not_true, Bool.not_false, Bool.true_and, Bool.and_true, Bool.and_false, Bool.false_and, Bool.not_eq_true, Bool.false_eq_true, reduceIte, decide_eq_true_eq, atI_zero, atI_one, atI_two, atI_three, atI_four, wipeD, reduceCtorEq, ok_int, ok_non, ok_bl, eqv_int, ix40, ix41, ix42, ix43, Int.toNat_natCast, true_and, and_true, List.length_map]
      by_cases hlt : i < cells.length
      · obtain ⟨c, hcell⟩ : ∃ c : Int, L2.atI (cells.map PD.int) i = some (.int c) := by
          obtain ⟨x, h1, h2⟩ := atI_some (xs := cells.map PD.int) hi (by rw [List.length_map]; exact hlt)
          obtain ⟨c, _, rfl⟩ := map_inv h1
          exact ⟨c, h2⟩
        simp only [hlt, w__law_pick_5, w__law_pick_4, w__law_pick_3, wNext, wSeq, wBreak, wCont, wDrop, wRet, wSet, wPar, wIfS, wgName, wgNil, wgCons, wgTup, tupOf, wgSub, wAsg, putC, wAug, fAddI, fIxL, wAugS, wApp, wExt, putD, wFldS, wVar, dAt, wC, wBin, wUn, fSub_ii, fDiv_ii, fMod_ii, fPow_ii, fLt_ii, fLe_ii, fGt_ii, fGe_ii, fNeg_i, fAdd_ii, fAdd_tt, fAdd_ss, fAdd_ll, fAdd_c, fAdd_lc, fMul_ii, fMul_ti, fMul_li, fMul_ci, fMulC, lsOf, sqOf, wTest, wChain, wTAnd, wTOr, wTNot, wAndV, wOrV, wNotV, wIf, plOf, fEq, fNe, fIn, fIsN, fNotN, isNon, fFld, wFld, fIx, wNoPart, wPart, wSl, wNil, wCons, wStar, allP, allP_map, wTup, wLst, wLstC, wiSeq, wiRng1, wiRng2, wFor, wLc, wLcC, wtYes, wiEnum, wiZip, wCB, fLen_s, fLen_t, fLen_l, fLen_c, fMax_ii, fMax_iii, fMax_l, fMin_ii, fMin_t, fMin_l, fMin_c, fSum, fAll, fAny, fList, fListC, fTuple, fInt_i, fInt_b, fInt_s, fStr, sqF, fIsT, wIsT, tyName, kit_nt, kit_bt, kit_it, kit_st, kit_tt, kit_lt, kit_ni, kit_bi, kit_ii, kit_si, kit_ti, kit_li, kit_nb, kit_bb, kit_ib, kit_sb, kit_tb, kit_lb, wCallP0, wCallR0, wCallN0, wCallP, wCallR, wCallRf, wCallN, wMake, wMake0, wMakeC, wRaise, wNever, En.xp, enP, enR, enN, rtP, rtR, rtN, entry, List.map_cons, List.map_nil, List.cons_append, List.nil_append, List.append_nil, List.length_cons, List.length_nil, List.replicate, List.set_cons_zero, List.set_cons_succ, List.getElem?_cons_zero, List.getElem?_cons_succ, List.getElem?_nil, Option.getD_some, Option.getD_none, ite_true, ite_false, Bool.not_true, Bool.not_false, Bool.true_and, Bool.and_true, Bool.and_false, Bool.false_and, Bool.not_eq_true, Bool.false_eq_true, reduceIte, decide_eq_true_eq, atI_zero, atI_one, atI_two, atI_three, atI_four, wipeD, reduceCtorEq, ok_int, ok_non, ok_bl, eqv_int, ix40, ix41, ix42, ix43, Int.toNat_natCast, true_and, and_true, hcell]
        refine ⟨⟨by decide, by decide, by decide⟩, ?_⟩
        by_cases hbig : (10 : Int) ^ Int.toNat 18 ≤ c
        · have h0 : 0 ≤ c := Int.le_trans (by decide) hbig
          simp only [hbig, w__law_pick_1, wNext, wSeq, wBreak, wCont, wDrop, wRet, wSet, wPar, wIfS, wgName, wgNil, wgCons, wgTup, tupOf, wgSub, wAsg, putC, wAug, fAddI, fIxL, wAugS, wApp, wExt, putD, wFldS, wVar, dAt, wC, wBin, wUn, fSub_ii, fDiv_ii, fMod_ii, fPow_ii, fLt_ii, fLe_ii, fGt_ii, fGe_ii, fNeg_i, fAdd_ii, fAdd_tt, fAdd_ss, fAdd_ll, fAdd_c, fAdd_lc, fMul_ii, fMul_ti, fMul_li, fMul_ci, fMulC, lsOf, sqOf, wTest, wChain, wTAnd, wTOr, wTNot, wAndV, wOrV, wNotV, wIf, plOf, fEq, fNe, fIn, fIsN, fNotN, isNon, fFld, wFld, fIx, wNoPart, wPart, wSl, wNil, wCons, wStar, allP, allP_map, wTup, wLst, wLstC, wiSeq, wiRng1, wiRng2, wFor, wLc, wLcC, wtYes, wiEnum, wiZip, wCB, fLen_s, fLen_t, fLen_l, fLen_c, fMax_ii, fMax_iii, fMax_l, fMin_ii, fMin_t, fMin_l, fMin_c, fSum, fAll, fAny, fList, fListC, fTuple, fInt_i, fInt_b, fInt_s, fStr, sqF, fIsT, wIsT, tyName, kit_nt, kit_bt, kit_it, kit_st, kit_tt, kit_lt, kit_ni, kit_bi, kit_ii, kit_si, kit_ti, kit_li, kit_nb, kit_bb, kit_ib, kit_sb, kit_tb, kit_lb, wCallP0, wCallR0, wCallN0, wCallP, wCallR, wCallRf, wCallN, wMake, wMake0, wMakeC, wRaise, wNever, En.xp, enP, enR, enN, rtP, rtR, rtN, entry, List.map_cons, List.map_nil, List.cons_append, List.nil_append, List.append_nil, List.length_cons, List.length_nil, List.replicate, List.set_cons_zero, List.set_cons_succ, List.getElem?_cons_zero, List.getElem?_cons_succ, List.getElem?_nil, Option.getD_some, Option.getD_none, ite_true, ite_false, Bool.not_true, Bool.not_false, Bool.true_and, Bool.and_true, Bool.and_false, Bool.false_and, Bool.not_eq_true, Bool.false_eq_true, reduceIte, decide_eq_true_eq, atI_zero, atI_one, atI_two, atI_three, atI_four, wipeD, reduceCtorEq, ok_int, ok_non, ok_bl, eqv_int, ix40, ix41, ix42, ix43, Int.toNat_natCast, true_and, and_true]
          exact tail _ _ _ _ _ (by omega) h0 hs hs2
        · simp only [hbig, w__law_pick_2, wNext, wSeq, wBreak, wCont, wDrop, wRet, wSet, wPar, wIfS, wgName, wgNil, wgCons, wgTup, tupOf, wgSub, wAsg, putC, wAug, fAddI, fIxL, wAugS, wApp, wExt, putD, wFldS, wVar, dAt, wC, wBin, wUn, fSub_ii, fDiv_ii, fMod_ii, fPow_ii, fLt_ii, fLe_ii, fGt_ii, fGe_ii, fNeg_i, fAdd_ii, fAdd_tt, fAdd_ss, fAdd_ll, fAdd_c, fAdd_lc, fMul_ii, fMul_ti, fMul_li, fMul_ci, fMulC, lsOf, sqOf, wTest, wChain, wTAnd, wTOr, wTNot, wAndV, wOrV, wNotV, wIf, plOf, fEq, fNe, fIn, fIsN, fNotN, isNon, fFld, wFld, fIx, wNoPart, wPart, wSl, wNil, wCons, wStar, allP, allP_map, wTup, wLst, wLstC, wiSeq, wiRng1, wiRng2, wFor, wLc, wLcC, wtYes, wiEnum, wiZip, wCB, fLen_s, fLen_t, fLen_l, fLen_c, fMax_ii, fMax_iii, fMax_l, fMin_ii, fMin_t, fMin_l, fMin_c, fSum, fAll, fAny, fList, fListC, fTuple, fInt_i, fInt_b, fInt_s, fStr, sqF, fIsT, wIsT, tyName, kit_nt, kit_bt, kit_it, kit_st, kit_tt, kit_lt, kit_ni, kit_bi, kit_ii, kit_si, kit_ti, kit_li, kit_nb, kit_bb, kit_ib, kit_sb, kit_tb, kit_lb, wCallP0, wCallR0, wCallN0, wCallP, wCallR, wCallRf, wCallN, wMake, wMake0, wMakeC, wRaise, wNever, En.xp, enP, enR, enN, rtP, rtR, rtN, entry, List.map_cons, List.map_nil, List.cons_append, List.nil_append, List.append_nil, List.length_cons, List.length_nil, List.replicate, List.set_cons_zero, List.set_cons_succ, List.getElem?_cons_zero, List.getElem?_cons_succ, List.getElem?_nil, Option.getD_some, Option.getD_none, ite_true, ite_false, Bool.not_true, Bool.not_false, Bool.true_and, Bool.and_true, Bool.and_false, Bool.false_and, Bool.not_eq_true, Bool.false_eq_true, reduceIte, decide_eq_true_eq, atI_zero, atI_one, atI_two, atI_three, atI_four, wipeD, reduceCtorEq, ok_int, ok_non, ok_bl, eqv_int, ix40, ix41, ix42, ix43, Int.toNat_natCast, true_and, and_true]
          refine ⟨.inr (by decide), .inr (by decide), by decide, ?_⟩
          exact tail _ _ _ _ _ (by omega) (by decide) (Int.emod_nonneg _ (by decide)) (Int.emod_lt_of_pos _ (by decide))
      · simp only [hlt, w__law_pick_6, wNext, wSeq, wBreak, wCont, wDrop, wRet, wSet, wPar, wIfS, wgName, wgNil, wgCons, wgTup, tupOf, wgSub, wAsg, putC, wAug, fAddI, fIxL, wAugS, wApp, wExt, putD, wFldS, wVar, dAt, wC, wBin, wUn, fSub_ii, fDiv_ii, fMod_ii, fPow_ii, fLt_ii, fLe_ii, fGt_ii, fGe_ii, fNeg_i, fAdd_ii, fAdd_tt, fAdd_ss, fAdd_ll, fAdd_c, fAdd_lc, fMul_ii, fMul_ti, fMul_li, fMul_ci, fMulC, lsOf, sqOf, wTest, wChain, wTAnd, wTOr, wTNot, wAndV, wOrV, wNotV, wIf, plOf, fEq, fNe, fIn, fIsN, fNotN, isNon, fFld, wFld, fIx, wNoPart, wPart, wSl, wNil, wCons, wStar, allP, allP_map, wTup, wLst, wLstC, wiSeq, wiRng1, wiRng2, wFor, wLc, wLcC, wtYes, wiEnum, wiZip, wCB, fLen_s, fLen_t, fLen_l, fLen_c, fMax_ii, fMax_iii, fMax_l, fMin_ii, fMin_t, fMin_l, fMin_c, fSum, fAll, fAny, fList, fListC, fTuple, fInt_i, fInt_b, fInt_s, fStr, sqF, fIsT, wIsT, tyName, kit_nt, kit_bt, kit_it, kit_st, kit_tt, kit_lt, kit_ni, kit_bi, kit_ii, kit_si, kit_ti, kit_li, kit_nb, kit_bb, kit_ib, kit_sb, kit_tb, kit_lb, wCallP0, wCallR0, wCallN0, wCallP, wCallR, wCallRf, wCallN, wMake, wMake0, wMakeC, wRaise, wNever, En.xp, enP, enR, enN, rtP, rtR, rtN, entry, List.map_cons, List.map_nil, List.cons_append, List.nil_append, List.append_nil, List.length_cons, List.length_nil, List.replicate, List.set_cons_zero, List.set_cons_succ, List.getElem?_cons_zero, List.getElem?_cons_succ, List.getElem?_nil, Option.getD_some, Option.getD_none, ite_true, ite_false, Bool.not_true, Bool.not_false, Bool.true_and, Bool.and_true, Bool.and_false, Bool.false_and, Bool.not_eq_true, Bool.false_eq_true, reduceIte, decide_eq_true_eq, atI_zero, atI_one, atI_two, atI_three, atI_four, wipeD, reduceCtorEq, ok_int, ok_non, ok_bl, eqv_int, ix40, ix41, ix42, ix43, Int.toNat_natCast, true_and, and_true]
        refine ⟨.inr (by decide), by decide, ?_⟩
        exact tail _ _ _ _ _ hi (by decide) (Int.emod_nonneg _ (by decide)) (Int.emod_lt_of_pos _ (by decide))
    · simp only [hb0, wNext, wSeq, wBreak, wCont, wDrop, wRet, wSet, wPar, wIfS, wgName, wgNil, wgCons, wgTup, tupOf, wgSub, wAsg, putC, wAug, fAddI, fIxL, wAugS, wApp, wExt, putD, wFldS, wVar, dAt, wC, wBin, wUn, fSub_ii, fDiv_ii, fMod_ii, fPow_ii, fLt_ii, fLe_ii, fGt_ii, fGe_ii, fNeg_i, fAdd_ii, fAdd_tt, fAdd_ss, fAdd_ll, fAdd_c, fAdd_lc, fMul_ii, fMul_ti, fMul_li, fMul_ci, fMulC, lsOf, sqOf, wTest, wChain, wTAnd, wTOr, wTNot, wAndV, wOrV, wNotV, wIf, plOf, fEq, fNe, fIn, fIsN, fNotN, isNon, fFld, wFld, fIx, wNoPart, wPart, wSl, wNil, wCons, wStar, allP, allP_map, wTup, wLst, wLstC, wiSeq, wiRng1, wiRng2, wFor, wLc, wLcC, wtYes, wiEnum, wiZip, wCB, fLen_s, fLen_t, fLen_l, fLen_c, fMax_ii, fMax_iii, fMax_l, fMin_ii, fMin_t, fMin_l, fMin_c, fSum, fAll, fAny, fList, fListC, fTuple, fInt_i, fInt_b, fInt_s, fStr, sqF, fIsT, wIsT, tyName, kit_nt, kit_bt, kit_it, kit_st, kit_tt, kit_lt, kit_ni, kit_bi, kit_ii, kit_si, kit_ti, kit_li, kit_nb, kit_bb, kit_ib, kit_sb, kit_tb, kit_lb, wCallP0, wCallR0, wCallN0, wCallP, wCallR, wCallRf, wCallN, wMake, wMake0, wMakeC, wRaise, wNever, En.xp, enP, enR, enN, rtP, rtR, rtN, entry, List.map_cons, List.map_nil, List.cons_append, List.nil_append, List.append_nil, List.length_cons, List.length_nil, List.replicate, List.set_cons_zero, List.set_cons_succ, List.getElem?_cons_zero, List.getElem?_cons_succ, List.getElem?_nil, Option.getD_some, Option.getD_none, ite_true, ite_false, Bool.not_true, Bool.not_false, Bool.true_and, Bool.and_true, Bool.and_false, Bool.false_and, Bool.not_eq_true, Bool.false_eq_true, reduceIte, decide_eq_true_eq, atI_zero, atI_one, atI_two, atI_three, atI_four, wipeD, reduceCtorEq, ok_int, ok_non, ok_bl, eqv_int, ix40, ix41, ix42, ix43, Int.toNat_natCast, true_and, and_true, decide_false]
      exact tail i b s _ _ hi hb hs hs2
  · exact h.elim
end DL

set_option Elab.async false
set_option linter.all false
set_option maxRecDepth 100000
set_option maxHeartbeats 4000000
namespace DL
open PySem L2
theorem row_free {m : M} (h : Row m) : m.free = true := by
  obtain ⟨cells, i, b, s, rfl, _⟩ := h
  rfl
theorem pick_i {q : Ad} {r : M} {many : Int} {P : PD → M → Prop} {Xp : Addr → List (Str × PD) → M → Prop} (hr : Row r) (h0 : 0 < many) (h1 : many < 1073741824) (h : ∀ k r', 0 ≤ k → k < many → Row r' → P (.int k) r') : r.free = true ∧ r__law_pick q r [.int many] P Xp :=
  ⟨row_free hr, hr, h0, h1, h⟩
theorem unmap {Z : PD → Prop} {α : Type} (f : α → PD) (g : α → Prop) (h : ∀ z, Z z → ∃ a, z = f a ∧ g a) : ∀ l : List PD, (∀ z ∈ l, Z z) → ∃ as : List α, l = as.map f ∧ ∀ a ∈ as, g a
  | [], _ => ⟨[], rfl, fun _ h => (nomatch h)⟩
  | z :: r, hz => by
    obtain ⟨as, e, k⟩ := unmap f g h r fun y hy => hz y (List.mem_cons_of_mem _ hy)
    obtain ⟨a, e2, k2⟩ := h z (hz z (by simp))
    refine ⟨a :: as, by rw [e, e2]; rfl, fun b hb => ?_⟩
    rcases List.mem_cons.mp hb with x | x
    · exact x ▸ k2
    · exact k b x
theorem okR_small {i : Int} (h0 : -1000 ≤ i) (h1 : i ≤ 100000) : okR i := by
  unfold okR
  omega
theorem z__law_loop {q : Ad} (m : M) (args : List PD) (P : PD → M → Prop) (Xp : Addr → List (Str × PD) → M → Prop) (h : r__law_loop q m args P Xp) : w__law_loop q (enR P Xp) (entry n__law_loop.length (.c 0 :: args.map D.p)) [m] := by
  obtain ⟨hr, most, waits, rfl, hm1, hm5, hw, h⟩ := h
  simp only [w__law_loop, w__law_loop_13, wNext, wSeq, wBreak, wCont, wDrop, wRet, wSet, wPar, wIfS, wgName, wgNil, wgCons, wgTup, tupOf, wgSub, wAsg, putC, wAug, fAddI, fIxL, wAugS, wApp, wExt, putD, wFldS, wVar, dAt, wC, wBin, wUn, fSub_ii, fDiv_ii, fMod_ii, fPow_ii, fLt_ii, fLe_ii, fGt_ii, fGe_ii, fNeg_i, fAdd_ii, fAdd_tt, fAdd_ss, fAdd_ll, fAdd_c, fAdd_lc, fMul_ii, fMul_ti, fMul_li, fMul_ci, fMulC, lsOf, sqOf, wTest, wChain, wTAnd, wTOr, wTNot, wAndV, wOrV, wNotV, wIf, plOf, fEq, fNe, fIn, fIsN, fNotN, isNon, fFld, wFld, fIx, wNoPart, wPart, wSl, wNil, wCons, wStar, allP, allP_map, wTup, wLst, wLstC, wiSeq, wiRng1, wiRng2, wFor, wLc, wLcC, wtYes, wiEnum, wiZip, wCB, fLen_s, fLen_t, fLen_l, fLen_c, fMax_ii, fMax_iii, fMax_l, fMin_ii, fMin_t, fMin_l, fMin_c, fSum, fAll, fAny, fList, fListC, fTuple, fInt_i, fInt_b, fInt_s, fStr, sqF, fIsT, wIsT, tyName, kit_nt, kit_bt, kit_it, kit_st, kit_tt, kit_lt, kit_ni, kit_bi, kit_ii, kit_si, kit_ti, kit_li, kit_nb, kit_bb, kit_ib, kit_sb, kit_tb, kit_lb, wCallP0, wCallR0, wCallN0, wCallP, wCallR, wCallRf, wCallN, wMake, wMake0, wMakeC, wRaise, wNever, En.xp, enP, enR, enN, rtP, rtR, rtN, entry, List.map_cons, List.map_nil, List.cons_append, List.nil_append, List.append_nil, List.length_cons, List.length_nil, List.replicate, List.set_cons_zero, List.set_cons_succ, List.getElem?_cons_zero, List.getElem?_cons_succ, List.getElem?_nil, Option.getD_some, Option.getD_none, ite_true, ite_false, Bool.not_true, Bool.not_false, Bool.true_and, Bool.and_true, Bool.and_false, Bool.false_and, Bool.not_eq_true, Bool.false_eq_true, reduceIte, decide_eq_true_eq, atI_zero, atI_one, atI_two, atI_three, atI_four, wipeD, reduceCtorEq, ok_int, ok_non, ok_bl, eqv_int, ix40, ix41, ix42, ix43, Int.toNat_natCast, true_and, and_true, n__law_loop]
  refine pick_i hr (by decide) (by decide) fun k1 r1 a1 b1 hr1 => ?_
  simp only [wNext, wSeq, wBreak, wCont, wDrop, wRet, wSet, wPar, wIfS, wgName, wgNil, wgCons, wgTup, tupOf, wgSub, wAsg, putC, wAug, fAddI, fIxL, wAugS, wApp, wExt, putD, wFldS, wVar, dAt, wC, wBin, wUn, fSub_ii, fDiv_ii, fMod_ii, fPow_ii, fLt_ii, fLe_ii, fGt_ii, fGe_ii, fNeg_i, fAdd_ii, fAdd_tt, fAdd_ss, fAdd_ll, fAdd_c, fAdd_lc, fMul_ii, fMul_ti, fMul_li, fMul_ci, fMulC, lsOf, sqOf, wTest, wChain, wTAnd, wTOr, wTNot, wAndV, wOrV, wNotV, wIf, plOf, fEq, fNe, fIn, fIsN, fNotN, isNon, fFld, wFld, fIx, wNoPart, wPart, wSl, wNil, wCons, wStar, allP, allP_map, wTup, wLst, wLstC, wiSeq, wiRng1, wiRng2, wFor, wLc, wLcC, wtYes, wiEnum, wiZip, wCB, fLen_s, fLen_t, fLen_l, fLen_c, fMax_ii, fMax_iii, fMax_l, fMin_ii, fMin_t, fMin_l, fMin_c, fSum, fAll, fAny, fList, fListC, fTuple, fInt_i, fInt_b, fInt_s, fStr, sqF, fIsT, wIsT, tyName, kit_nt, kit_bt, kit_it, kit_st, kit_tt, kit_lt, kit_ni, kit_bi, kit_ii, kit_si, kit_ti, kit_li, kit_nb, kit_bb, kit_ib, kit_sb, kit_tb, kit_lb, wCallP0, wCallR0, wCallN0, wCallP, wCallR, wCallRf, wCallN, wMake, wMake0, wMakeC, wRaise, wNever, En.xp, enP, enR, enN, rtP, rtR, rtN, entry, List.map_cons, List.map_nil, List.cons_append, List.nil_append, List.append_nil, List.length_cons, List.length_nil, List.replicate, List.set_cons_zero, List.set_cons_succ, List.getElem?_cons_zero, List.getElem?_cons_succ, List.getElem?_nil, Option.getD_some, Option.getD_none, ite_true, ite_false, Bool.not_true, Bool.not_false, Bool.true_and, Bool.and_true, Bool.and_false, Bool.false_and, Bool.not_eq_true, Bool.false_eq_true, reduceIte, decide_eq_true_eq, atI_zero, atI_one, atI_two, atI_three, atI_four, wipeD, reduceCtorEq, ok_int, ok_non, ok_bl, eqv_int, ix40, ix41, ix42, ix43, Int.toNat_natCast, true_and, and_true, w__law_loop_12]
  refine ⟨okR_small (by omega) (by omega), ?_⟩
  refine lc_inv (fun m => ∃ r, m = [r] ∧ Row r) (fun z => ∃ c : Int, z = .int c ∧ 1 ≤ c ∧ c ≤ 2) (by rw [rng_len]; unfold big; omega) ⟨_, rfl, hr1⟩ (fun _ _ => trivial) ?_ ?_
  · rintro i x _ J hx ⟨r2, rfl, hr2⟩ hJ
    try simp only [wNext, wSeq, wBreak, wCont, wDrop, wRet, wSet, wPar, wIfS, wgName, wgNil, wgCons, wgTup, tupOf, wgSub, wAsg, putC, wAug, fAddI, fIxL, wAugS, wApp, wExt, putD, wFldS, wVar, dAt, wC, wBin, wUn, fSub_ii, fDiv_ii, fMod_ii, fPow_ii, fLt_ii, fLe_ii, fGt_ii, fGe_ii, fNeg_i, fAdd_ii, fAdd_tt, fAdd_ss, fAdd_ll, fAdd_c, fAdd_lc, fMul_ii, fMul_ti, fMul_li, fMul_ci, fMulC, lsOf, sqOf, wTest, wChain, wTAnd, wTOr, wTNot, wAndV, wOrV, wNotV, wIf, plOf, fEq, fNe, fIn, fIsN, fNotN, isNon, fFld, wFld, fIx, wNoPart, wPart, wSl, wNil, wCons, wStar, allP, allP_map, wTup, wLst, wLstC, wiSeq, wiRng1, wiRng2, wFor, wLc, wLcC, wtYes, wiEnum, wiZip, wCB, fLen_s, fLen_t, fLen_l, fLen_c, fMax_ii, fMax_iii, fMax_l, fMin_ii, fMin_t, fMin_l, fMin_c, fSum, fAll, fAny, fList, fListC, fTuple, fInt_i, fInt_b, fInt_s, fStr, sqF, fIsT, wIsT, tyName, kit_nt, kit_bt, kit_it, kit_st, kit_tt, kit_lt, kit_ni, kit_bi, kit_ii, kit_si, kit_ti, kit_li, kit_nb, kit_bb, kit_ib, kit_sb, kit_tb, kit_lb, wCallP0, wCallR0, wCallN0, wCallP, wCallR, wCallRf, wCallN, wMake, wMake0, wMakeC, wRaise, wNever, En.xp, enP, enR, enN, rtP, rtR, rtN, entry, List.map_cons, List.map_nil, List.cons_append, List.nil_append, List.append_nil, List.length_cons, List.length_nil, List.replicate, List.set_cons_zero, List.set_cons_succ, List.getElem?_cons_zero, List.getElem?_cons_succ, List.getElem?_nil, Option.getD_some, Option.getD_none, ite_true, ite_false, Bool.not_true, Bool.not_false, Bool.true_and, Bool.and_true, Bool.and_false, Bool.false_and, Bool.not_eq_true, Bool.false_eq_true, reduceIte, decide_eq_true_eq, atI_zero, atI_one, atI_two, atI_three, atI_four, wipeD, reduceCtorEq, ok_int, ok_non, ok_bl, eqv_int, ix40, ix41, ix42, ix43, Int.toNat_natCast, true_and, and_true]
    refine pick_i hr2 (by decide) (by decide) fun k3 r3 a3 b3 hr3 => ?_
    try simp only [wNext, wSeq, wBreak, wCont, wDrop, wRet, wSet, wPar, wIfS, wgName, wgNil, wgCons, wgTup, tupOf, wgSub, wAsg, putC, wAug, fAddI, fIxL, wAugS, wApp, wExt, putD, wFldS, wVar, dAt, wC, wBin, wUn, fSub_ii, fDiv_ii, fMod_ii, fPow_ii, fLt_ii, fLe_ii, fGt_ii, fGe_ii, fNeg_i, fAdd_ii, fAdd_tt, fAdd_ss, fAdd_ll, fAdd_c, fAdd_lc, fMul_ii, fMul_ti, fMul_li, fMul_ci, fMulC, lsOf, sqOf, wTest, wChain, wTAnd, wTOr, wTNot, wAndV, wOrV, wNotV, wIf, plOf, fEq, fNe, fIn, fIsN, fNotN, isNon, fFld, wFld, fIx, wNoPart, wPart, wSl, wNil, wCons, wStar, allP, allP_map, wTup, wLst, wLstC, wiSeq, wiRng1, wiRng2, wFor, wLc, wLcC, wtYes, wiEnum, wiZip, wCB, fLen_s, fLen_t, fLen_l, fLen_c, fMax_ii, fMax_iii, fMax_l, fMin_ii, fMin_t, fMin_l, fMin_c, fSum, fAll, fAny, fList, fListC, fTuple, fInt_i, fInt_b, fInt_s, fStr, sqF, fIsT, wIsT, tyName, kit_nt, kit_bt, kit_it, kit_st, kit_tt, kit_lt, kit_ni, kit_bi, kit_ii, kit_si, kit_ti, kit_li, kit_nb, kit_bb, kit_ib, kit_sb, kit_tb, kit_lb, wCallP0, wCallR0, wCallN0, wCallP, wCallR, wCallRf, wCallN, wMake, wMake0, wMakeC, wRaise, wNever, En.xp, enP, enR, enN, rtP, rtR, rtN, entry, List.map_cons, List.map_nil, List.cons_append, List.nil_append, List.append_nil, List.length_cons, List.length_nil, List.replicate, List.set_cons_zero, List.set_cons_succ, List.getElem?_cons_zero, List.getElem?_cons_succ, List.getElem?_nil, Option.getD_some, Option.getD_none, ite_true, ite_false, Bool.not_true, Bool.not_false, Bool.true_and, Bool.and_true, Bool.and_false, Bool.false_and, Bool.not_eq_true, Bool.false_eq_true, reduceIte, decide_eq_true_eq, atI_zero, atI_one, atI_two, atI_three, atI_four, wipeD, reduceCtorEq, ok_int, ok_non, ok_bl, eqv_int, ix40, ix41, ix42, ix43, Int.toNat_natCast, true_and, and_true]
    exact hJ _ _ ⟨_, rfl, by omega, by omega⟩ ⟨_, rfl, hr3⟩
  · rintro acc _ hl hz ⟨r2, rfl, hr2⟩
    obtain ⟨counts, rfl, hc⟩ := unmap PD.int (fun c => 1 ≤ c ∧ c ≤ 2) (fun z ⟨c, e, k⟩ => ⟨c, e, k⟩) acc hz
    rw [List.length_map, rng_len] at hl
    simp only [wNext, wSeq, wBreak, wCont, wDrop, wRet, wSet, wPar, wIfS, wgName, wgNil, wgCons, wgTup, tupOf, wgSub, wAsg, putC, wAug, fAddI, fIxL, wAugS, wApp, wExt, putD, wFldS, wVar, dAt, wC, wBin, wUn, fSub_ii, fDiv_ii, fMod_ii, fPow_ii, fLt_ii, fLe_ii, fGt_ii, fGe_ii, fNeg_i, fAdd_ii, fAdd_tt, fAdd_ss, fAdd_ll, fAdd_c, fAdd_lc, fMul_ii, fMul_ti, fMul_li, fMul_ci, fMulC, lsOf, sqOf, wTest, wChain, wTAnd, wTOr, wTNot, wAndV, wOrV, wNotV, wIf, plOf, fEq, fNe, fIn, fIsN, fNotN, isNon, fFld, wFld, fIx, wNoPart, wPart, wSl, wNil, wCons, wStar, allP, allP_map, wTup, wLst, wLstC, wiSeq, wiRng1, wiRng2, wFor, wLc, wLcC, wtYes, wiEnum, wiZip, wCB, fLen_s, fLen_t, fLen_l, fLen_c, fMax_ii, fMax_iii, fMax_l, fMin_ii, fMin_t, fMin_l, fMin_c, fSum, fAll, fAny, fList, fListC, fTuple, fInt_i, fInt_b, fInt_s, fStr, sqF, fIsT, wIsT, tyName, kit_nt, kit_bt, kit_it, kit_st, kit_tt, kit_lt, kit_ni, kit_bi, kit_ii, kit_si, kit_ti, kit_li, kit_nb, kit_bb, kit_ib, kit_sb, kit_tb, kit_lb, wCallP0, wCallR0, wCallN0, wCallP, wCallR, wCallRf, wCallN, wMake, wMake0, wMakeC, wRaise, wNever, En.xp, enP, enR, enN, rtP, rtR, rtN, entry, List.map_cons, List.map_nil, List.cons_append, List.nil_append, List.append_nil, List.length_cons, List.length_nil, List.replicate, List.set_cons_zero, List.set_cons_succ, List.getElem?_cons_zero, List.getElem?_cons_succ, List.getElem?_nil, Option.getD_some, Option.getD_none, ite_true, ite_false, Bool.not_true, Bool.not_false, Bool.true_and, Bool.and_true, Bool.and_false, Bool.false_and, Bool.not_eq_true, Bool.false_eq_true, reduceIte, decide_eq_true_eq, atI_zero, atI_one, atI_two, atI_three, atI_four, wipeD, reduceCtorEq, ok_int, ok_non, ok_bl, eqv_int, ix40, ix41, ix42, ix43, Int.toNat_natCast, true_and, and_true, w__law_loop_11]
    refine pick_i hr2 (by omega) (by omega) fun k3 r3 a3 b3 hr3 => ?_
    try simp only [wNext, wSeq, wBreak, wCont, wDrop, wRet, wSet, wPar, wIfS, wgName, wgNil, wgCons, wgTup, tupOf, wgSub, wAsg, putC, wAug, fAddI, fIxL, wAugS, wApp, wExt, putD, wFldS, wVar, dAt, wC, wBin, wUn, fSub_ii, fDiv_ii, fMod_ii, fPow_ii, fLt_ii, fLe_ii, fGt_ii, fGe_ii, fNeg_i, fAdd_ii, fAdd_tt, fAdd_ss, fAdd_ll, fAdd_c, fAdd_lc, fMul_ii, fMul_ti, fMul_li, fMul_ci, fMulC, lsOf, sqOf, wTest, wChain, wTAnd, wTOr, wTNot, wAndV, wOrV, wNotV, wIf, plOf, fEq, fNe, fIn, fIsN, fNotN, isNon, fFld, wFld, fIx, wNoPart, wPart, wSl, wNil, wCons, wStar, allP, allP_map, wTup, wLst, wLstC, wiSeq, wiRng1, wiRng2, wFor, wLc, wLcC, wtYes, wiEnum, wiZip, wCB, fLen_s, fLen_t, fLen_l, fLen_c, fMax_ii, fMax_iii, fMax_l, fMin_ii, fMin_t, fMin_l, fMin_c, fSum, fAll, fAny, fList, fListC, fTuple, fInt_i, fInt_b, fInt_s, fStr, sqF, fIsT, wIsT, tyName, kit_nt, kit_bt, kit_it, kit_st, kit_tt, kit_lt, kit_ni, kit_bi, kit_ii, kit_si, kit_ti, kit_li, kit_nb, kit_bb, kit_ib, kit_sb, kit_tb, kit_lb, wCallP0, wCallR0, wCallN0, wCallP, wCallR, wCallRf, wCallN, wMake, wMake0, wMakeC, wRaise, wNever, En.xp, enP, enR, enN, rtP, rtR, rtN, entry, List.map_cons, List.map_nil, List.cons_append, List.nil_append, List.append_nil, List.length_cons, List.length_nil, List.replicate, List.set_cons_zero, List.set_cons_succ, List.getElem?_cons_zero, List.getElem?_cons_succ, List.getElem?_nil, Option.getD_some, Option.getD_none, ite_true, ite_false, Bool.not_true, Bool.not_false, Bool.true_and, Bool.and_true, Bool.and_false, Bool.false_and, Bool.not_eq_true, Bool.false_eq_true, reduceIte, decide_eq_true_eq, atI_zero, atI_one, atI_two, atI_three, atI_four, wipeD, reduceCtorEq, ok_int, ok_non, ok_bl, eqv_int, ix40, ix41, ix42, ix43, Int.toNat_natCast, true_and, and_true]
    refine ⟨okR_small (by omega) (by omega), ?_⟩
    refine lc_inv (fun m => ∃ r, m = [r] ∧ Row r) (fun z => ∃ c : Int × Int, z = rowP c ∧ 0 ≤ c.1 ∧ c.1 < counts.length ∧ 1 ≤ c.2 ∧ c.2 ≤ 2) (by rw [rng_len]; unfold big; omega) ⟨_, rfl, hr3⟩ (fun _ _ => trivial) ?_ ?_
    · rintro i x _ J hx ⟨r4, rfl, hr4⟩ hJ
      try simp only [wNext, wSeq, wBreak, wCont, wDrop, wRet, wSet, wPar, wIfS, wgName, wgNil, wgCons, wgTup, tupOf, wgSub, wAsg, putC, wAug, fAddI, fIxL, wAugS, wApp, wExt, putD, wFldS, wVar, dAt, wC, wBin, wUn, fSub_ii, fDiv_ii, fMod_ii, fPow_ii, fLt_ii, fLe_ii, fGt_ii, fGe_ii, fNeg_i, fAdd_ii, fAdd_tt, fAdd_ss, fAdd_ll, fAdd_c, fAdd_lc, fMul_ii, fMul_ti, fMul_li, fMul_ci, fMulC, lsOf, sqOf, wTest, wChain, wTAnd, wTOr, wTNot, wAndV, wOrV, wNotV, wIf, plOf, fEq, fNe, fIn, fIsN, fNotN, isNon, fFld, wFld, fIx, wNoPart, wPart, wSl, wNil, wCons, wStar, allP, allP_map, wTup, wLst, wLstC, wiSeq, wiRng1, wiRng2, wFor, wLc, wLcC, wtYes, wiEnum, wiZip, wCB, fLen_s, fLen_t, fLen_l, fLen_c, fMax_ii, fMax_iii, fMax_l, fMin_ii, fMin_t, fMin_l, fMin_c, fSum, fAll, fAny, fList, fListC, fTuple, fInt_i, fInt_b, fInt_s, fStr, sqF, fIsT, wIsT, tyName, kit_nt, kit_bt, kit_it, kit_st, kit_tt, kit_lt, kit_ni, kit_bi, kit_ii, kit_si, kit_ti, kit_li, kit_nb, kit_bb, kit_ib, kit_sb, kit_tb, kit_lb, wCallP0, wCallR0, wCallN0, wCallP, wCallR, wCallRf, wCallN, wMake, wMake0, wMakeC, wRaise, wNever, En.xp, enP, enR, enN, rtP, rtR, rtN, entry, List.map_cons, List.map_nil, List.cons_append, List.nil_append, List.append_nil, List.length_cons, List.length_nil, List.replicate, List.set_cons_zero, List.set_cons_succ, List.getElem?_cons_zero, List.getElem?_cons_succ, List.getElem?_nil, Option.getD_some, Option.getD_none, ite_true, ite_false, Bool.not_true, Bool.not_false, Bool.true_and, Bool.and_true, Bool.and_false, Bool.false_and, Bool.not_eq_true, Bool.false_eq_true, reduceIte, decide_eq_true_eq, atI_zero, atI_one, atI_two, atI_three, atI_four, wipeD, reduceCtorEq, ok_int, ok_non, ok_bl, eqv_int, ix40, ix41, ix42, ix43, Int.toNat_natCast, true_and, and_true]
      refine pick_i hr4 (by omega) (by omega) fun k5 r5 a5 b5 hr5 => ?_
      try simp only [wNext, wSeq, wBreak, wCont, wDrop, wRet, wSet, wPar, wIfS, wgName, wgNil, wgCons, wgTup, tupOf, wgSub, wAsg, putC, wAug, fAddI, fIxL, wAugS, wApp, wExt, putD, wFldS, wVar, dAt, wC, wBin, wUn, fSub_ii, fDiv_ii, fMod_ii, fPow_ii, fLt_ii, fLe_ii, fGt_ii, fGe_ii, fNeg_i, fAdd_ii, fAdd_tt, fAdd_ss, fAdd_ll, fAdd_c, fAdd_lc, fMul_ii, fMul_ti, fMul_li, fMul_ci, fMulC, lsOf, sqOf, wTest, wChain, wTAnd, wTOr, wTNot, wAndV, wOrV, wNotV, wIf, plOf, fEq, fNe, fIn, fIsN, fNotN, isNon, fFld, wFld, fIx, wNoPart, wPart, wSl, wNil, wCons, wStar, allP, allP_map, wTup, wLst, wLstC, wiSeq, wiRng1, wiRng2, wFor, wLc, wLcC, wtYes, wiEnum, wiZip, wCB, fLen_s, fLen_t, fLen_l, fLen_c, fMax_ii, fMax_iii, fMax_l, fMin_ii, fMin_t, fMin_l, fMin_c, fSum, fAll, fAny, fList, fListC, fTuple, fInt_i, fInt_b, fInt_s, fStr, sqF, fIsT, wIsT, tyName, kit_nt, kit_bt, kit_it, kit_st, kit_tt, kit_lt, kit_ni, kit_bi, kit_ii, kit_si, kit_ti, kit_li, kit_nb, kit_bb, kit_ib, kit_sb, kit_tb, kit_lb, wCallP0, wCallR0, wCallN0, wCallP, wCallR, wCallRf, wCallN, wMake, wMake0, wMakeC, wRaise, wNever, En.xp, enP, enR, enN, rtP, rtR, rtN, entry, List.map_cons, List.map_nil, List.cons_append, List.nil_append, List.append_nil, List.length_cons, List.length_nil, List.replicate, List.set_cons_zero, List.set_cons_succ, List.getElem?_cons_zero, List.getElem?_cons_succ, List.getElem?_nil, Option.getD_some, Option.getD_none, ite_true, ite_false, Bool.not_true, Bool.not_false, Bool.true_and, Bool.and_true, Bool.and_false, Bool.false_and, Bool.not_eq_true, Bool.false_eq_true, reduceIte, decide_eq_true_eq, atI_zero, atI_one, atI_two, atI_three, atI_four, wipeD, reduceCtorEq, ok_int, ok_non, ok_bl, eqv_int, ix40, ix41, ix42, ix43, Int.toNat_natCast, true_and, and_true]
      refine pick_i hr5 (by omega) (by omega) fun k6 r6 a6 b6 hr6 => ?_
      try simp only [wNext, wSeq, wBreak, wCont, wDrop, wRet, wSet, wPar, wIfS, wgName, wgNil, wgCons, wgTup, tupOf, wgSub, wAsg, putC, wAug, fAddI, fIxL, wAugS, wApp, wExt, putD, wFldS, wVar, dAt, wC, wBin, wUn, fSub_ii, fDiv_ii, fMod_ii, fPow_ii, fLt_ii, fLe_ii, fGt_ii, fGe_ii, fNeg_i, fAdd_ii, fAdd_tt, fAdd_ss, fAdd_ll, fAdd_c, fAdd_lc, fMul_ii, fMul_ti, fMul_li, fMul_ci, fMulC, lsOf, sqOf, wTest, wChain, wTAnd, wTOr, wTNot, wAndV, wOrV, wNotV, wIf, plOf, fEq, fNe, fIn, fIsN, fNotN, isNon, fFld, wFld, fIx, wNoPart, wPart, wSl, wNil, wCons, wStar, allP, allP_map, wTup, wLst, wLstC, wiSeq, wiRng1, wiRng2, wFor, wLc, wLcC, wtYes, wiEnum, wiZip, wCB, fLen_s, fLen_t, fLen_l, fLen_c, fMax_ii, fMax_iii, fMax_l, fMin_ii, fMin_t, fMin_l, fMin_c, fSum, fAll, fAny, fList, fListC, fTuple, fInt_i, fInt_b, fInt_s, fStr, sqF, fIsT, wIsT, tyName, kit_nt, kit_bt, kit_it, kit_st, kit_tt, kit_lt, kit_ni, kit_bi, kit_ii, kit_si, kit_ti, kit_li, kit_nb, kit_bb, kit_ib, kit_sb, kit_tb, kit_lb, wCallP0, wCallR0, wCallN0, wCallP, wCallR, wCallRf, wCallN, wMake, wMake0, wMakeC, wRaise, wNever, En.xp, enP, enR, enN, rtP, rtR, rtN, entry, List.map_cons, List.map_nil, List.cons_append, List.nil_append, List.append_nil, List.length_cons, List.length_nil, List.replicate, List.set_cons_zero, List.set_cons_succ, List.getElem?_cons_zero, List.getElem?_cons_succ, List.getElem?_nil, Option.getD_some, Option.getD_none, ite_true, ite_false, Bool.not_true, Bool.not_false, Bool.true_and, Bool.and_true, Bool.and_false, Bool.false_and, Bool.not_eq_true, Bool.false_eq_true, reduceIte, decide_eq_true_eq, atI_zero, atI_one, atI_two, atI_three, atI_four, wipeD, reduceCtorEq, ok_int, ok_non, ok_bl, eqv_int, ix40, ix41, ix42, ix43, Int.toNat_natCast, true_and, and_true]
      exact ⟨by decide, hJ _ _ ⟨(k5, 1 + max 0 (k6 - 2)), rfl, a5, by show k5 < _; omega, by show 1 ≤ 1 + max 0 (k6 - 2); omega, by show 1 + max 0 (k6 - 2) ≤ 2; omega⟩ ⟨_, rfl, hr6⟩⟩
    · rintro acc _ hl2 hz2 ⟨r4, rfl, hr4⟩
      obtain ⟨rows, rfl, hrw⟩ := unmap rowP (fun c => 0 ≤ c.1 ∧ c.1 < counts.length ∧ 1 ≤ c.2 ∧ c.2 ≤ 2) (fun z ⟨c, e, k⟩ => ⟨c, e, k⟩) acc hz2
      rw [List.length_map, rng_len] at hl2
      simp only [wNext, wSeq, wBreak, wCont, wDrop, wRet, wSet, wPar, wIfS, wgName, wgNil, wgCons, wgTup, tupOf, wgSub, wAsg, putC, wAug, fAddI, fIxL, wAugS, wApp, wExt, putD, wFldS, wVar, dAt, wC, wBin, wUn, fSub_ii, fDiv_ii, fMod_ii, fPow_ii, fLt_ii, fLe_ii, fGt_ii, fGe_ii, fNeg_i, fAdd_ii, fAdd_tt, fAdd_ss, fAdd_ll, fAdd_c, fAdd_lc, fMul_ii, fMul_ti, fMul_li, fMul_ci, fMulC, lsOf, sqOf, wTest, wChain, wTAnd, wTOr, wTNot, wAndV, wOrV, wNotV, wIf, plOf, fEq, fNe, fIn, fIsN, fNotN, isNon, fFld, wFld, fIx, wNoPart, wPart, wSl, wNil, wCons, wStar, allP, allP_map, wTup, wLst, wLstC, wiSeq, wiRng1, wiRng2, wFor, wLc, wLcC, wtYes, wiEnum, wiZip, wCB, fLen_s, fLen_t, fLen_l, fLen_c, fMax_ii, fMax_iii, fMax_l, fMin_ii, fMin_t, fMin_l, fMin_c, fSum, fAll, fAny, fList, fListC, fTuple, fInt_i, fInt_b, fInt_s, fStr, sqF, fIsT, wIsT, tyName, kit_nt, kit_bt, kit_it, kit_st, kit_tt, kit_lt, kit_ni, kit_bi, kit_ii, kit_si, kit_ti, kit_li, kit_nb, kit_bb, kit_ib, kit_sb, kit_tb, kit_lb, wCallP0, wCallR0, wCallN0, wCallP, wCallR, wCallRf, wCallN, wMake, wMake0, wMakeC, wRaise, wNever, En.xp, enP, enR, enN, rtP, rtR, rtN, entry, List.map_cons, List.map_nil, List.cons_append, List.nil_append, List.append_nil, List.length_cons, List.length_nil, List.replicate, List.set_cons_zero, List.set_cons_succ, List.getElem?_cons_zero, List.getElem?_cons_succ, List.getElem?_nil, Option.getD_some, Option.getD_none, ite_true, ite_false, Bool.not_true, Bool.not_false, Bool.true_and, Bool.and_true, Bool.and_false, Bool.false_and, Bool.not_eq_true, Bool.false_eq_true, reduceIte, decide_eq_true_eq, atI_zero, atI_one, atI_two, atI_three, atI_four, wipeD, reduceCtorEq, ok_int, ok_non, ok_bl, eqv_int, ix40, ix41, ix42, ix43, Int.toNat_natCast, true_and, and_true, w__law_loop_10, w__law_loop_9]
      refine ⟨by decide, ?_⟩
      refine pick_i hr4 (by omega) (by omega) fun k7 r7 a7 b7 hr7 => ?_
      try simp only [wNext, wSeq, wBreak, wCont, wDrop, wRet, wSet, wPar, wIfS, wgName, wgNil, wgCons, wgTup, tupOf, wgSub, wAsg, putC, wAug, fAddI, fIxL, wAugS, wApp, wExt, putD, wFldS, wVar, dAt, wC, wBin, wUn, fSub_ii, fDiv_ii, fMod_ii, fPow_ii, fLt_ii, fLe_ii, fGt_ii, fGe_ii, fNeg_i, fAdd_ii, fAdd_tt, fAdd_ss, fAdd_ll, fAdd_c, fAdd_lc, fMul_ii, fMul_ti, fMul_li, fMul_ci, fMulC, lsOf, sqOf, wTest, wChain, wTAnd, wTOr, wTNot, wAndV, wOrV, wNotV, wIf, plOf, fEq, fNe, fIn, fIsN, fNotN, isNon, fFld, wFld, fIx, wNoPart, wPart, wSl, wNil, wCons, wStar, allP, allP_map, wTup, wLst, wLstC, wiSeq, wiRng1, wiRng2, wFor, wLc, wLcC, wtYes, wiEnum, wiZip, wCB, fLen_s, fLen_t, fLen_l, fLen_c, fMax_ii, fMax_iii, fMax_l, fMin_ii, fMin_t, fMin_l, fMin_c, fSum, fAll, fAny, fList, fListC, fTuple, fInt_i, fInt_b, fInt_s, fStr, sqF, fIsT, wIsT, tyName, kit_nt, kit_bt, kit_it, kit_st, kit_tt, kit_lt, kit_ni, kit_bi, kit_ii, kit_si, kit_ti, kit_li, kit_nb, kit_bb, kit_ib, kit_sb, kit_tb, kit_lb, wCallP0, wCallR0, wCallN0, wCallP, wCallR, wCallRf, wCallN, wMake, wMake0, wMakeC, wRaise, wNever, En.xp, enP, enR, enN, rtP, rtR, rtN, entry, List.map_cons, List.map_nil, List.cons_append, List.nil_append, List.append_nil, List.length_cons, List.length_nil, List.replicate, List.set_cons_zero, List.set_cons_succ, List.getElem?_cons_zero, List.getElem?_cons_succ, List.getElem?_nil, Option.getD_some, Option.getD_none, ite_true, ite_false, Bool.not_true, Bool.not_false, Bool.true_and, Bool.and_true, Bool.and_false, Bool.false_and, Bool.not_eq_true, Bool.false_eq_true, reduceIte, decide_eq_true_eq, atI_zero, atI_one, atI_two, atI_three, atI_four, wipeD, reduceCtorEq, ok_int, ok_non, ok_bl, eqv_int, ix40, ix41, ix42, ix43, Int.toNat_natCast, true_and, and_true]
      refine ⟨okR_small (by omega) (by omega), ?_⟩
      refine ⟨fun i ds m => ∃ r, m = [r] ∧ Row r ∧ ∃ (bars : List (Int × Int × Int × Int)) (s5 s8 s9 s10 s11 : Option D), bars.length ≤ i ∧ bars.Nodup ∧
        (∀ b ∈ bars, 0 ≤ b.1 ∧ b.1 < rows.length ∧ 0 ≤ b.2.1 ∧ b.2.1 < rows.length ∧ 0 ≤ b.2.2.1 ∧ b.2.2.1 ≤ 3 ∧ 0 ≤ b.2.2.2 ∧ b.2.2.2 ≤ 2) ∧
        ds = [some (.c 0), some (.p (.int most)), some (.p (.int waits)), some (.p (.int (1 + k1))), some (.p (intsP counts)), s5, some (.p (.tup (rows.map rowP))), some (.p (.tup (bars.map barP))), s8, s9, s10, s11],
        ⟨_, rfl, hr7, [], _, _, _, _, _, Nat.le_refl _, List.nodup_nil, fun _ h => (nomatch h), rfl⟩, fun _ _ _ _ => trivial, ?_, ?_⟩
      · rintro i x _ _ hx ⟨r8, rfl, hr8, bars, s5, s8, s9, s10, s11, hbl, nd, hb, rfl⟩
        obtain ⟨hi, rfl⟩ := rng_inv hx
        simp only [wNext, wSeq, wBreak, wCont, wDrop, wRet, wSet, wPar, wIfS, wgName, wgNil, wgCons, wgTup, tupOf, wgSub, wAsg, putC, wAug, fAddI, fIxL, wAugS, wApp, wExt, putD, wFldS, wVar, dAt, wC, wBin, wUn, fSub_ii, fDiv_ii, fMod_ii, fPow_ii, fLt_ii, fLe_ii, fGt_ii, fGe_ii, fNeg_i, fAdd_ii, fAdd_tt, fAdd_ss, fAdd_ll, fAdd_c, fAdd_lc, fMul_ii, fMul_ti, fMul_li, fMul_ci, fMulC, lsOf, sqOf, wTest, wChain, wTAnd, wTOr, wTNot, wAndV, wOrV, wNotV, wIf, plOf, fEq, fNe, fIn, fIsN, fNotN, isNon, fFld, wFld, fIx, wNoPart, wPart, wSl, wNil, wCons, wStar, allP, allP_map, wTup, wLst, wLstC, wiSeq, wiRng1, wiRng2, wFor, wLc, wLcC, wtYes, wiEnum, wiZip, wCB, fLen_s, fLen_t, fLen_l, fLen_c, fMax_ii, fMax_iii, fMax_l, fMin_ii, fMin_t, fMin_l, fMin_c, fSum, fAll, fAny, fList, fListC, fTuple, fInt_i, fInt_b, fInt_s, fStr, sqF, fIsT, wIsT, tyName, kit_nt, kit_bt, kit_it, kit_st, kit_tt, kit_lt, kit_ni, kit_bi, kit_ii, kit_si, kit_ti, kit_li, kit_nb, kit_bb, kit_ib, kit_sb, kit_tb, kit_lb, wCallP0, wCallR0, wCallN0, wCallP, wCallR, wCallRf, wCallN, wMake, wMake0, wMakeC, wRaise, wNever, En.xp, enP, enR, enN, rtP, rtR, rtN, entry, List.map_cons, List.map_nil, List.cons_append, List.nil_append, List.append_nil, List.length_cons, List.length_nil, List.replicate, List.set_cons_zero, List.set_cons_succ, List.getElem?_cons_zero, List.getElem?_cons_succ, List.getElem?_nil, Option.getD_some, Option.getD_none, ite_true, ite_false, Bool.not_true, Bool.not_false, Bool.true_and, Bool.and_true, Bool.and_false, Bool.false_and, Bool.not_eq_true, Bool.false_eq_true, reduceIte, decide_eq_true_eq, atI_zero, atI_one, atI_two, atI_three, atI_four, wipeD, reduceCtorEq, ok_int, ok_non, ok_bl, eqv_int, ix40, ix41, ix42, ix43, Int.toNat_natCast, true_and, and_true, w__law_loop_7, List.length_map]
        refine pick_i hr8 (by omega) (by omega) fun k9 r9 a9 b9 hr9 => ?_
        try simp only [wNext, wSeq, wBreak, wCont, wDrop, wRet, wSet, wPar, wIfS, wgName, wgNil, wgCons, wgTup, tupOf, wgSub, wAsg, putC, wAug, fAddI, fIxL, wAugS, wApp, wExt, putD, wFldS, wVar, dAt, wC, wBin, wUn, fSub_ii, fDiv_ii, fMod_ii, fPow_ii, fLt_ii, fLe_ii, fGt_ii, fGe_ii, fNeg_i, fAdd_ii, fAdd_tt, fAdd_ss, fAdd_ll, fAdd_c, fAdd_lc, fMul_ii, fMul_ti, fMul_li, fMul_ci, fMulC, lsOf, sqOf, wTest, wChain, wTAnd, wTOr, wTNot, wAndV, wOrV, wNotV, wIf, plOf, fEq, fNe, fIn, fIsN, fNotN, isNon, fFld, wFld, fIx, wNoPart, wPart, wSl, wNil, wCons, wStar, allP, allP_map, wTup, wLst, wLstC, wiSeq, wiRng1, wiRng2, wFor, wLc, wLcC, wtYes, wiEnum, wiZip, wCB, fLen_s, fLen_t, fLen_l, fLen_c, fMax_ii, fMax_iii, fMax_l, fMin_ii, fMin_t, fMin_l, fMin_c, fSum, fAll, fAny, fList, fListC, fTuple, fInt_i, fInt_b, fInt_s, fStr, sqF, fIsT, wIsT, tyName, kit_nt, kit_bt, kit_it, kit_st, kit_tt, kit_lt, kit_ni, kit_bi, kit_ii, kit_si, kit_ti, kit_li, kit_nb, kit_bb, kit_ib, kit_sb, kit_tb, kit_lb, wCallP0, wCallR0, wCallN0, wCallP, wCallR, wCallRf, wCallN, wMake, wMake0, wMakeC, wRaise, wNever, En.xp, enP, enR, enN, rtP, rtR, rtN, entry, List.map_cons, List.map_nil, List.cons_append, List.nil_append, List.append_nil, List.length_cons, List.length_nil, List.replicate, List.set_cons_zero, List.set_cons_succ, List.getElem?_cons_zero, List.getElem?_cons_succ, List.getElem?_nil, Option.getD_some, Option.getD_none, ite_true, ite_false, Bool.not_true, Bool.not_false, Bool.true_and, Bool.and_true, Bool.and_false, Bool.false_and, Bool.not_eq_true, Bool.false_eq_true, reduceIte, decide_eq_true_eq, atI_zero, atI_one, atI_two, atI_three, atI_four, wipeD, reduceCtorEq, ok_int, ok_non, ok_bl, eqv_int, ix40, ix41, ix42, ix43, Int.toNat_natCast, true_and, and_true, List.length_map]
        refine pick_i hr9 (by omega) (by omega) fun k10 r10 a10 b10 hr10 => ?_
        simp only [wNext, wSeq, wBreak, wCont, wDrop, wRet, wSet, wPar, wIfS, wgName, wgNil, wgCons, wgTup, tupOf, wgSub, wAsg, putC, wAug, fAddI, fIxL, wAugS, wApp, wExt, putD, wFldS, wVar, dAt, wC, wBin, wUn, fSub_ii, fDiv_ii, fMod_ii, fPow_ii, fLt_ii, fLe_ii, fGt_ii, fGe_ii, fNeg_i, fAdd_ii, fAdd_tt, fAdd_ss, fAdd_ll, fAdd_c, fAdd_lc, fMul_ii, fMul_ti, fMul_li, fMul_ci, fMulC, lsOf, sqOf, wTest, wChain, wTAnd, wTOr, wTNot, wAndV, wOrV, wNotV, wIf, plOf, fEq, fNe, fIn, fIsN, fNotN, isNon, fFld, wFld, fIx, wNoPart, wPart, wSl, wNil, wCons, wStar, allP, allP_map, wTup, wLst, wLstC, wiSeq, wiRng1, wiRng2, wFor, wLc, wLcC, wtYes, wiEnum, wiZip, wCB, fLen_s, fLen_t, fLen_l, fLen_c, fMax_ii, fMax_iii, fMax_l, fMin_ii, fMin_t, fMin_l, fMin_c, fSum, fAll, fAny, fList, fListC, fTuple, fInt_i, fInt_b, fInt_s, fStr, sqF, fIsT, wIsT, tyName, kit_nt, kit_bt, kit_it, kit_st, kit_tt, kit_lt, kit_ni, kit_bi, kit_ii, kit_si, kit_ti, kit_li, kit_nb, kit_bb, kit_ib, kit_sb, kit_tb, kit_lb, wCallP0, wCallR0, wCallN0, wCallP, wCallR, wCallRf, wCallN, wMake, wMake0, wMakeC, wRaise, wNever, En.xp, enP, enR, enN, rtP, rtR, rtN, entry, List.map_cons, List.map_nil, List.cons_append, List.nil_append, List.append_nil, List.length_cons, List.length_nil, List.replicate, List.set_cons_zero, List.set_cons_succ, List.getElem?_cons_zero, List.getElem?_cons_succ, List.getElem?_nil, Option.getD_some, Option.getD_none, ite_true, ite_false, Bool.not_true, Bool.not_false, Bool.true_and, Bool.and_true, Bool.and_false, Bool.false_and, Bool.not_eq_true, Bool.false_eq_true, reduceIte, decide_eq_true_eq, atI_zero, atI_one, atI_two, atI_three, atI_four, wipeD, reduceCtorEq, ok_int, ok_non, ok_bl, eqv_int, ix40, ix41, ix42, ix43, Int.toNat_natCast, true_and, and_true, w__law_loop_6]
        refine pick_i hr10 (by omega) (by omega) fun k11 r11 a11 b11 hr11 => ?_
        simp only [wNext, wSeq, wBreak, wCont, wDrop, wRet, wSet, wPar, wIfS, wgName, wgNil, wgCons, wgTup, tupOf, wgSub, wAsg, putC, wAug, fAddI, fIxL, wAugS, wApp, wExt, putD, wFldS, wVar, dAt, wC, wBin, wUn, fSub_ii, fDiv_ii, fMod_ii, fPow_ii, fLt_ii, fLe_ii, fGt_ii, fGe_ii, fNeg_i, fAdd_ii, fAdd_tt, fAdd_ss, fAdd_ll, fAdd_c, fAdd_lc, fMul_ii, fMul_ti, fMul_li, fMul_ci, fMulC, lsOf, sqOf, wTest, wChain, wTAnd, wTOr, wTNot, wAndV, wOrV, wNotV, wIf, plOf, fEq, fNe, fIn, fIsN, fNotN, isNon, fFld, wFld, fIx, wNoPart, wPart, wSl, wNil, wCons, wStar, allP, allP_map, wTup, wLst, wLstC, wiSeq, wiRng1, wiRng2, wFor, wLc, wLcC, wtYes, wiEnum, wiZip, wCB, fLen_s, fLen_t, fLen_l, fLen_c, fMax_ii, fMax_iii, fMax_l, fMin_ii, fMin_t, fMin_l, fMin_c, fSum, fAll, fAny, fList, fListC, fTuple, fInt_i, fInt_b, fInt_s, fStr, sqF, fIsT, wIsT, tyName, kit_nt, kit_bt, kit_it, kit_st, kit_tt, kit_lt, kit_ni, kit_bi, kit_ii, kit_si, kit_ti, kit_li, kit_nb, kit_bb, kit_ib, kit_sb, kit_tb, kit_lb, wCallP0, wCallR0, wCallN0, wCallP, wCallR, wCallRf, wCallN, wMake, wMake0, wMakeC, wRaise, wNever, En.xp, enP, enR, enN, rtP, rtR, rtN, entry, List.map_cons, List.map_nil, List.cons_append, List.nil_append, List.append_nil, List.length_cons, List.length_nil, List.replicate, List.set_cons_zero, List.set_cons_succ, List.getElem?_cons_zero, List.getElem?_cons_succ, List.getElem?_nil, Option.getD_some, Option.getD_none, ite_true, ite_false, Bool.not_true, Bool.not_false, Bool.true_and, Bool.and_true, Bool.and_false, Bool.false_and, Bool.not_eq_true, Bool.false_eq_true, reduceIte, decide_eq_true_eq, atI_zero, atI_one, atI_two, atI_three, atI_four, wipeD, reduceCtorEq, ok_int, ok_non, ok_bl, eqv_int, ix40, ix41, ix42, ix43, Int.toNat_natCast, true_and, and_true, w__law_loop_5]
        -- behind the rounds
        have tail : ∀ (E : En) (rounds : Int) (r12 : M), Row r12 → 0 ≤ rounds → rounds ≤ 2 →
            (∀ ds m, (∃ r, m = [r] ∧ Row r ∧ ∃ (bars : List (Int × Int × Int × Int)) (s5 s8 s9 s10 s11 : Option D), bars.length ≤ i + 1 ∧ bars.Nodup ∧
              (∀ b ∈ bars, 0 ≤ b.1 ∧ b.1 < rows.length ∧ 0 ≤ b.2.1 ∧ b.2.1 < rows.length ∧ 0 ≤ b.2.2.1 ∧ b.2.2.1 ≤ 3 ∧ 0 ≤ b.2.2.2 ∧ b.2.2.2 ≤ 2) ∧
              ds = [some (.c 0), some (.p (.int most)), some (.p (.int waits)), some (.p (.int (1 + k1))), some (.p (intsP counts)), s5, some (.p (.tup (rows.map rowP))), some (.p (.tup (bars.map barP))), s8, s9, s10, s11]) → E.nx ds m) →
            w__law_loop_4 q E
            [some (.c 0), some (.p (.int most)), some (.p (.int waits)), some (.p (.int (1 + k1))), some (.p (intsP counts)), some (.p (.int (0 + (i : Nat)))), some (.p (.tup (rows.map rowP))), some (.p (.tup (bars.map barP))), some (.p (.int k9)), some (.p (.int k10)), some (.p (.int rounds)), s11] [r12] := by
          intro E rounds r12 hr12 h0 h2 nxt
          simp only [wNext, wSeq, wBreak, wCont, wDrop, wRet, wSet, wPar, wIfS, wgName, wgNil, wgCons, wgTup, tupOf, wgSub, wAsg, putC, wAug, fAddI, fIxL, wAugS, wApp, wExt, putD, wFldS, wVar, dAt, wC, wBin, wUn, fSub_ii, fDiv_ii, fMod_ii, fPow_ii, fLt_ii, fLe_ii, fGt_ii, fGe_ii, fNeg_i, fAdd_ii, fAdd_tt, fAdd_ss, fAdd_ll, fAdd_c, fAdd_lc, fMul_ii, fMul_ti, fMul_li, fMul_ci, fMulC, lsOf, sqOf, wTest, wChain, wTAnd, wTOr, wTNot, wAndV, wOrV, wNotV, wIf, plOf, fEq, fNe, fIn, fIsN, fNotN, isNon, fFld, wFld, fIx, wNoPart, wPart, wSl, wNil, wCons, wStar, allP, allP_map, wTup, wLst, wLstC, wiSeq, wiRng1, wiRng2, wFor, wLc, wLcC, wtYes, wiEnum, wiZip, wCB, fLen_s, fLen_t, fLen_l, fLen_c, fMax_ii, fMax_iii, fMax_l, fMin_ii, fMin_t, fMin_l, fMin_c, fSum, fAll, fAny, fList, fListC, fTuple, fInt_i, fInt_b, fInt_s, fStr, sqF, fIsT, wIsT, tyName, kit_nt, kit_bt, kit_it, kit_st, kit_tt, kit_lt, kit_ni, kit_bi, kit_ii, kit_si, kit_ti, kit_li, kit_nb, kit_bb, kit_ib, kit_sb, kit_tb, kit_lb, wCallP0, wCallR0, wCallN0, wCallP, wCallR, wCallRf, wCallN, wMake, wMake0, wMakeC, wRaise, wNever, En.xp, enP, enR, enN, rtP, rtR, rtN, entry, List.map_cons, List.map_nil, List.cons_append, List.nil_append, List.append_nil, List.length_cons, List.length_nil, List.replicate, List.set_cons_zero, List.set_cons_succ, List.getElem?_cons_zero, List.getElem?_cons_succ, List.getElem?_nil, Option.getD_some, Option.getD_none, ite_true, ite_false, Bool.not_true, Bool.not_false, Bool.true_and, Bool.and_true, Bool.and_false, Bool.false_and, Bool.not_eq_true, Bool.false_eq_true, reduceIte, decide_eq_true_eq, atI_zero, atI_one, atI_two, atI_three, atI_four, wipeD, reduceCtorEq, ok_int, ok_non, ok_bl, eqv_int, ix40, ix41, ix42, ix43, Int.toNat_natCast, true_and, and_true, w__law_loop_4]
          refine pick_i hr12 (by decide) (by decide) fun k13 r13 a13 b13 hr13 => ?_
          simp only [wNext, wSeq, wBreak, wCont, wDrop, wRet, wSet, wPar, wIfS, wgName, wgNil, wgCons, wgTup, tupOf, wgSub, wAsg, putC, wAug, fAddI, fIxL, wAugS, wApp, wExt, putD, wFldS, wVar, dAt, wC, wBin, wUn, fSub_ii, fDiv_ii, fMod_ii, fPow_ii, fLt_ii, fLe_ii, fGt_ii, fGe_ii, fNeg_i, fAdd_ii, fAdd_tt, fAdd_ss, fAdd_ll, fAdd_c, fAdd_lc, fMul_ii, fMul_ti, fMul_li, fMul_ci, fMulC, lsOf, sqOf, wTest, wChain, wTAnd, wTOr, wTNot, wAndV, wOrV, wNotV, wIf, plOf, fEq, fNe, fIn, fIsN, fNotN, isNon, fFld, wFld, fIx, wNoPart, wPart, wSl, wNil, wCons, wStar, allP, allP_map, wTup, wLst, wLstC, wiSeq, wiRng1, wiRng2, wFor, wLc, wLcC, wtYes, wiEnum, wiZip, wCB, fLen_s, fLen_t, fLen_l, fLen_c, fMax_ii, fMax_iii, fMax_l, fMin_ii, fMin_t, fMin_l, fMin_c, fSum, fAll, fAny, fList, fListC, fTuple, fInt_i, fInt_b, fInt_s, fStr, sqF, fIsT, wIsT, tyName, kit_nt, kit_bt, kit_it, kit_st, kit_tt, kit_lt, kit_ni, kit_bi, kit_ii, kit_si, kit_ti, kit_li, kit_nb, kit_bb, kit_ib, kit_sb, kit_tb, kit_lb, wCallP0, wCallR0, wCallN0, wCallP, wCallR, wCallRf, wCallN, wMake, wMake0, wMakeC, wRaise, wNever, En.xp, enP, enR, enN, rtP, rtR, rtN, entry, List.map_cons, List.map_nil, List.cons_append, List.nil_append, List.append_nil, List.length_cons, List.length_nil, List.replicate, List.set_cons_zero, List.set_cons_succ, List.getElem?_cons_zero, List.getElem?_cons_succ, List.getElem?_nil, Option.getD_some, Option.getD_none, ite_true, ite_false, Bool.not_true, Bool.not_false, Bool.true_and, Bool.and_true, Bool.and_false, Bool.false_and, Bool.not_eq_true, Bool.false_eq_true, reduceIte, decide_eq_true_eq, atI_zero, atI_one, atI_two, atI_three, atI_four, wipeD, reduceCtorEq, ok_int, ok_non, ok_bl, eqv_int, ix40, ix41, ix42, ix43, Int.toNat_natCast, true_and, and_true, w__law_loop_3]
          have e0 : PD.tup [.int k9, .int k10, .int k13, .int rounds] = barP (k9, k10, k13, rounds) := rfl
          have hpl : ∀ y ∈ bars.map barP, y.pl 5 = true := fun y hy => by
            obtain ⟨z, _, rfl⟩ := List.mem_map.mp hy
            exact barP_pl z
          rw [e0]
          refine ⟨by decide, pl_ok30 (barP_pl _), pl_ok30 (mapL_pl barP_pl bars), ?_⟩
          by_cases hin : (k9, k10, k13, rounds) ∈ bars
          · rw [(inP_iff (barP_pl _) hpl).mpr (List.mem_map_of_mem hin)]
            try simp only [wNext, wSeq, wBreak, wCont, wDrop, wRet, wSet, wPar, wIfS, wgName, wgNil, wgCons, wgTup, tupOf, wgSub, wAsg, putC, wAug, fAddI, fIxL, wAugS, wApp, wExt, putD, wFldS, wVar, dAt, wC, wBin, wUn, fSub_ii, fDiv_ii, fMod_ii, fPow_ii, fLt_ii, fLe_ii, fGt_ii, fGe_ii, fNeg_i, fAdd_ii, fAdd_tt, fAdd_ss, fAdd_ll, fAdd_c, fAdd_lc, fMul_ii, fMul_ti, fMul_li, fMul_ci, fMulC, lsOf, sqOf, wTest, wChain, wTAnd, wTOr, wTNot, wAndV, wOrV, wNotV, wIf, plOf, fEq, fNe, fIn, fIsN, fNotN, isNon, fFld, wFld, fIx, wNoPart, wPart, wSl, wNil, wCons, wStar, allP, allP_map, wTup, wLst, wLstC, wiSeq, wiRng1, wiRng2, wFor, wLc, wLcC, wtYes, wiEnum, wiZip, wCB, fLen_s, fLen_t, fLen_l, fLen_c, fMax_ii, fMax_iii, fMax_l, fMin_ii, fMin_t, fMin_l, fMin_c, fSum, fAll, fAny, fList, fListC, fTuple, fInt_i, fInt_b, fInt_s, fStr, sqF, fIsT, wIsT, tyName, kit_nt, kit_bt, kit_it, kit_st, kit_tt, kit_lt, kit_ni, kit_bi, kit_ii, kit_si, kit_ti, kit_li, kit_nb, kit_bb, kit_ib, kit_sb, kit_tb, kit_lb, wCallP0, wCallR0, wCallN0, wCallP, wCallR, wCallRf, wCallN, wMake, wMake0, wMakeC, wRaise, wNever, En.xp, enP, enR, enN, rtP, rtR, rtN, entry, List.map_cons, List.map_nil, List.cons_append, List.nil_append, List.append_nil, List.length_cons, List.length_nil, List.replicate, List.set_cons_zero, List.set_cons_succ, List.getElem?_cons_zero, List.getElem?_cons_succ, List.getElem?_nil, Option.getD_some, Option.getD_none, ite_true, ite_false, Bool.not_true, Bool.not_false, Bool.true_and, Bool.and_true, Bool.and_false, Bool.false_and, Bool.not_eq_true, Bool.false_eq_true, reduceIte, decide_eq_true_eq, atI_zero, atI_one, atI_two, atI_three, atI_four, wipeD, reduceCtorEq, ok_int, ok_non, ok_bl, eqv_int, ix40, ix41, ix42, ix43, Int.toNat_natCast, true_and, and_true]
            exact nxt _ _ ⟨_, rfl, hr13, bars, _, _, _, _, _, by omega, nd, hb, rfl⟩
          · rw [inP_false (barP_pl (k9, k10, k13, rounds)) hpl (fun hm => by
              obtain ⟨z, hz, e⟩ := List.mem_map.mp hm
              exact hin (barP_inj e ▸ hz))]
            simp only [wNext, wSeq, wBreak, wCont, wDrop, wRet, wSet, wPar, wIfS, wgName, wgNil, wgCons, wgTup, tupOf, wgSub, wAsg, putC, wAug, fAddI, fIxL, wAugS, wApp, wExt, putD, wFldS, wVar, dAt, wC, wBin, wUn, fSub_ii, fDiv_ii, fMod_ii, fPow_ii, fLt_ii, fLe_ii, fGt_ii, fGe_ii, fNeg_i, fAdd_ii, fAdd_tt, fAdd_ss, fAdd_ll, fAdd_c, fAdd_lc, fMul_ii, fMul_ti, fMul_li, fMul_ci, fMulC, lsOf, sqOf, wTest, wChain, wTAnd, wTOr, wTNot, wAndV, wOrV, wNotV, wIf, plOf, fEq, fNe, fIn, fIsN, fNotN, isNon, fFld, wFld, fIx, wNoPart, wPart, wSl, wNil, wCons, wStar, allP, allP_map, wTup, wLst, wLstC, wiSeq, wiRng1, wiRng2, wFor, wLc, wLcC, wtYes, wiEnum, wiZip, wCB, fLen_s, fLen_t, fLen_l, fLen_c, fMax_ii, fMax_iii, fMax_l, fMin_ii, fMin_t, fMin_l, fMin_c, fSum, fAll, fAny, fList, fListC, fTuple, fInt_i, fInt_b, fInt_s, fStr, sqF, fIsT, wIsT, tyName, kit_nt, kit_bt, kit_it, kit_st, kit_tt, kit_lt, kit_ni, kit_bi, kit_ii, kit_si, kit_ti, kit_li, kit_nb, kit_bb, kit_ib, kit_sb, kit_tb, kit_lb, wCallP0, wCallR0, wCallN0, wCallP, wCallR, wCallRf, wCallN, wMake, wMake0, wMakeC, wRaise, wNever, En.xp, enP, enR, enN, rtP, rtR, rtN, entry, List.map_cons, List.map_nil, List.cons_append, List.nil_append, List.append_nil, List.length_cons, List.length_nil, List.replicate, List.set_cons_zero, List.set_cons_succ, List.getElem?_cons_zero, List.getElem?_cons_succ, List.getElem?_nil, Option.getD_some, Option.getD_none, ite_true, ite_false, Bool.not_true, Bool.not_false, Bool.true_and, Bool.and_true, Bool.and_false, Bool.false_and, Bool.not_eq_true, Bool.false_eq_true, reduceIte, decide_eq_true_eq, atI_zero, atI_one, atI_two, atI_three, atI_four, wipeD, reduceCtorEq, ok_int, ok_non, ok_bl, eqv_int, ix40, ix41, ix42, ix43, Int.toNat_natCast, true_and, and_true, w__law_loop_2]
            refine ⟨by decide, by rw [List.length_map]; unfold big; omega, nxt _ _ ⟨_, rfl, hr13, bars ++ [(k9, k10, k13, rounds)], some (.p (.int (0 + (i : Nat)))), some (.p (.int k9)), some (.p (.int k10)), some (.p (.int rounds)), some (.p (barP (k9, k10, k13, rounds))), ?_, ?_, ?_, ?_⟩⟩
            · rw [List.length_append, List.length_singleton]
              omega
            · refine List.nodup_append.mpr ⟨nd, by simp, fun a ha b hb' e => ?_⟩
              have : b = (k9, k10, k13, rounds) := by simpa using hb'
              exact hin (this ▸ e ▸ ha)
            · intro b hb'
              rcases List.mem_append.mp hb' with z | z
              · exact hb b z
              · have : b = (k9, k10, k13, rounds) := by simpa using z
                subst this
                exact ⟨a9, b9, a10, b10, a13, by show k13 ≤ 3; omega, h0, h2⟩
            · rw [List.map_append]
              rfl
        by_cases c1 : k10 ≤ k9
        · by_cases c2 : max 0 (k11 - 1) = 0
          · simp only [if_pos c1, if_pos c2]
            refine pick_i hr11 (by decide) (by decide) fun k12 r12 a12 b12 hr12 => ?_
            try simp only [wNext, wSeq, wBreak, wCont, wDrop, wRet, wSet, wPar, wIfS, wgName, wgNil, wgCons, wgTup, tupOf, wgSub, wAsg, putC, wAug, fAddI, fIxL, wAugS, wApp, wExt, putD, wFldS, wVar, dAt, wC, wBin, wUn, fSub_ii, fDiv_ii, fMod_ii, fPow_ii, fLt_ii, fLe_ii, fGt_ii, fGe_ii, fNeg_i, fAdd_ii, fAdd_tt, fAdd_ss, fAdd_ll, fAdd_c, fAdd_lc, fMul_ii, fMul_ti, fMul_li, fMul_ci, fMulC, lsOf, sqOf, wTest, wChain, wTAnd, wTOr, wTNot, wAndV, wOrV, wNotV, wIf, plOf, fEq, fNe, fIn, fIsN, fNotN, isNon, fFld, wFld, fIx, wNoPart, wPart, wSl, wNil, wCons, wStar, allP, allP_map, wTup, wLst, wLstC, wiSeq, wiRng1, wiRng2, wFor, wLc, wLcC, wtYes, wiEnum, wiZip, wCB, fLen_s, fLen_t, fLen_l, fLen_c, fMax_ii, fMax_iii, fMax_l, fMin_ii, fMin_t, fMin_l, fMin_c, fSum, fAll, fAny, fList, fListC, fTuple, fInt_i, fInt_b, fInt_s, fStr, sqF, fIsT, wIsT, tyName, kit_nt, kit_bt, kit_it, kit_st, kit_tt, kit_lt, kit_ni, kit_bi, kit_ii, kit_si, kit_ti, kit_li, kit_nb, kit_bb, kit_ib, kit_sb, kit_tb, kit_lb, wCallP0, wCallR0, wCallN0, wCallP, wCallR, wCallRf, wCallN, wMake, wMake0, wMakeC, wRaise, wNever, En.xp, enP, enR, enN, rtP, rtR, rtN, entry, List.map_cons, List.map_nil, List.cons_append, List.nil_append, List.append_nil, List.length_cons, List.length_nil, List.replicate, List.set_cons_zero, List.set_cons_succ, List.getElem?_cons_zero, List.getElem?_cons_succ, List.getElem?_nil, Option.getD_some, Option.getD_none, ite_true, ite_false, Bool.not_true, Bool.not_false, Bool.true_and, Bool.and_true, Bool.and_false, Bool.false_and, Bool.not_eq_true, Bool.false_eq_true, reduceIte, decide_eq_true_eq, atI_zero, atI_one, atI_two, atI_three, atI_four, wipeD, reduceCtorEq, ok_int, ok_non, ok_bl, eqv_int, ix40, ix41, ix42, ix43, Int.toNat_natCast, true_and, and_true]
            by_cases c3 : 0 < k12
            · simp only [if_pos c3, w__law_loop_1, wNext, wSeq, wBreak, wCont, wDrop, wRet, wSet, wPar, wIfS, wgName, wgNil, wgCons, wgTup, tupOf, wgSub, wAsg, putC, wAug, fAddI, fIxL, wAugS, wApp, wExt, putD, wFldS, wVar, dAt, wC, wBin, wUn, fSub_ii, fDiv_ii, fMod_ii, fPow_ii, fLt_ii, fLe_ii, fGt_ii, fGe_ii, fNeg_i, fAdd_ii, fAdd_tt, fAdd_ss, fAdd_ll, fAdd_c, fAdd_lc, fMul_ii, fMul_ti, fMul_li, fMul_ci, fMulC, lsOf, sqOf, wTest, wChain, wTAnd, wTOr, wTNot, wAndV, wOrV, wNotV, wIf, plOf, fEq, fNe, fIn, fIsN, fNotN, isNon, fFld, wFld, fIx, wNoPart, wPart, wSl, wNil, wCons, wStar, allP, allP_map, wTup, wLst, wLstC, wiSeq, wiRng1, wiRng2, wFor, wLc, wLcC, wtYes, wiEnum, wiZip, wCB, fLen_s, fLen_t, fLen_l, fLen_c, fMax_ii, fMax_iii, fMax_l, fMin_ii, fMin_t, fMin_l, fMin_c, fSum, fAll, fAny, fList, fListC, fTuple, fInt_i, fInt_b, fInt_s, fStr, sqF, fIsT, wIsT, tyName, kit_nt, kit_bt, kit_it, kit_st, kit_tt, kit_lt, kit_ni, kit_bi, kit_ii, kit_si, kit_ti, kit_li, kit_nb, kit_bb, kit_ib, kit_sb, kit_tb, kit_lb, wCallP0, wCallR0, wCallN0, wCallP, wCallR, wCallRf, wCallN, wMake, wMake0, wMakeC, wRaise, wNever, En.xp, enP, enR, enN, rtP, rtR, rtN, entry, List.map_cons, List.map_nil, List.cons_append, List.nil_append, List.append_nil, List.length_cons, List.length_nil, List.replicate, List.set_cons_zero, List.set_cons_succ, List.getElem?_cons_zero, List.getElem?_cons_succ, List.getElem?_nil, Option.getD_some, Option.getD_none, ite_true, ite_false, Bool.not_true, Bool.not_false, Bool.true_and, Bool.and_true, Bool.and_false, Bool.false_and, Bool.not_eq_true, Bool.false_eq_true, reduceIte, decide_eq_true_eq, atI_zero, atI_one, atI_two, atI_three, atI_four, wipeD, reduceCtorEq, ok_int, ok_non, ok_bl, eqv_int, ix40, ix41, ix42, ix43, Int.toNat_natCast, true_and, and_true]
              exact tail _ _ _ hr12 (by decide) (by decide) fun _ _ k => k
            · simp only [if_neg c3]
              exact tail _ _ _ hr12 (by omega) (by omega) fun _ _ k => k
          · simp only [if_pos c1, if_neg c2]
            exact tail _ _ _ hr11 (by omega) (by omega) fun _ _ k => k
        · simp only [if_neg c1]
          exact tail _ _ _ hr11 (by omega) (by omega) fun _ _ k => k
      · rintro _ _ ⟨r8, rfl, hr8, bars, s5, s8, s9, s10, s11, hbl, nd, hb, rfl⟩
        rw [rng_len] at hbl
        simp only [wNext, wSeq, wBreak, wCont, wDrop, wRet, wSet, wPar, wIfS, wgName, wgNil, wgCons, wgTup, tupOf, wgSub, wAsg, putC, wAug, fAddI, fIxL, wAugS, wApp, wExt, putD, wFldS, wVar, dAt, wC, wBin, wUn, fSub_ii, fDiv_ii, fMod_ii, fPow_ii, fLt_ii, fLe_ii, fGt_ii, fGe_ii, fNeg_i, fAdd_ii, fAdd_tt, fAdd_ss, fAdd_ll, fAdd_c, fAdd_lc, fMul_ii, fMul_ti, fMul_li, fMul_ci, fMulC, lsOf, sqOf, wTest, wChain, wTAnd, wTOr, wTNot, wAndV, wOrV, wNotV, wIf, plOf, fEq, fNe, fIn, fIsN, fNotN, isNon, fFld, wFld, fIx, wNoPart, wPart, wSl, wNil, wCons, wStar, allP, allP_map, wTup, wLst, wLstC, wiSeq, wiRng1, wiRng2, wFor, wLc, wLcC, wtYes, wiEnum, wiZip, wCB, fLen_s, fLen_t, fLen_l, fLen_c, fMax_ii, fMax_iii, fMax_l, fMin_ii, fMin_t, fMin_l, fMin_c, fSum, fAll, fAny, fList, fListC, fTuple, fInt_i, fInt_b, fInt_s, fStr, sqF, fIsT, wIsT, tyName, kit_nt, kit_bt, kit_it, kit_st, kit_tt, kit_lt, kit_ni, kit_bi, kit_ii, kit_si, kit_ti, kit_li, kit_nb, kit_bb, kit_ib, kit_sb, kit_tb, kit_lb, wCallP0, wCallR0, wCallN0, wCallP, wCallR, wCallRf, wCallN, wMake, wMake0, wMakeC, wRaise, wNever, En.xp, enP, enR, enN, rtP, rtR, rtN, entry, List.map_cons, List.map_nil, List.cons_append, List.nil_append, List.append_nil, List.length_cons, List.length_nil, List.replicate, List.set_cons_zero, List.set_cons_succ, List.getElem?_cons_zero, List.getElem?_cons_succ, List.getElem?_nil, Option.getD_some, Option.getD_none, ite_true, ite_false, Bool.not_true, Bool.not_false, Bool.true_and, Bool.and_true, Bool.and_false, Bool.false_and, Bool.not_eq_true, Bool.false_eq_true, reduceIte, decide_eq_true_eq, atI_zero, atI_one, atI_two, atI_three, atI_four, wipeD, reduceCtorEq, ok_int, ok_non, ok_bl, eqv_int, ix40, ix41, ix42, ix43, Int.toNat_natCast, true_and, and_true, w__law_loop_8]
        refine ⟨by decide, row_free hr8, h ⟨counts, rows, bars⟩ _ ⟨⟨?_, ?_, ?_, ?_, ?_, ?_, ?_, ?_, nd⟩, ?_, ?_, ?_, ?_, ?_, ?_, ?_⟩ hr8⟩
        · show 1 ≤ counts.length; omega
        · show counts.length ≤ 3; omega
        · intro c hc'; have := hc c hc'; omega
        · show 1 ≤ rows.length; omega
        · show rows.length ≤ 5; omega
        · intro c hc'
          have := hrw c hc'
          show 0 ≤ c.1 ∧ c.1 < counts.length ∧ 1 ≤ c.2 ∧ c.2 ≤ 3
          omega
        · show bars.length ≤ 10; omega
        · intro b hb'
          have := hb b hb'
          show 0 ≤ b.1 ∧ b.1 < rows.length ∧ 0 ≤ b.2.1 ∧ b.2.1 < rows.length ∧ 0 ≤ b.2.2.1 ∧ b.2.2.1 ≤ 6 ∧ 0 ≤ b.2.2.2 ∧ b.2.2.2 ≤ 3
          omega
        · show counts.length ≤ 2; omega
        · intro c hc'; exact (hc c hc').2
        · show rows.length ≤ most; omega
        · intro c hc'; exact (hrw c hc').2.2.2
        · show bars.length ≤ waits; omega
        · intro b hb'; exact (hb b hb').2.2.2.2.2.1
        · intro b hb'; exact (hb b hb').2.2.2.2.2.2.2
end DL

set_option Elab.async false
set_option linter.all false
set_option maxRecDepth 100000
set_option maxHeartbeats 4000000
/-! plans: what the checks, open_rounds and held are to do -/
namespace DL
open PySem L2
def r_check_distance (q : Ad) : RP := fun args P Xp => match args with | [d] => tyOk d = true ∧ (if isFrom d 1 20 = true then P .non else Xp q.BadDistance []) | _ => False
def planOk (l : Lp) (plan : PD) : Bool := match plan with | .tup xs => decide (xs.length = l.rows.length) && xs.all (fun x => isFrom x 0 60) | _ => false
def chkPlan (q : Ad) (l : Lp) (plan d : PD) (P : Prop) (Xp : RX) : Prop := if planOk l plan = true then (if isFrom d 1 20 = true then P else Xp q.BadDistance []) else Xp q.BadPlan []
def r_check_plan (q : Ad) : RP := fun args P Xp => ∃ (l : Lp) (plan d : PD), args = [l.pd q, plan, d] ∧ plan.ok 20 = true ∧ tyOk d = true ∧ l.Ok ∧ chkPlan q l plan d (P .non) Xp
def ag (ms : List Int) (i : Int) : Int := ms.getD i.toNat 0
def endsOf (l : Lp) (ms : List Int) (k : Int) (s : Nat) : List Int := (l.bars.filter fun b => decide (b.1 = (s : Int))).map fun b => ag ms b.2.1 + k * b.2.2.2
def lastOf (l : Lp) (ms : List Int) (k : Int) (s : Nat) : Int := maxI (ag ms s :: endsOf l ms k s)
/-- how many i with a ≤ i < b stand at the place p of the round -/
def cnt (k p a b : Int) : Int := (((List.range (b - a).toNat).filter fun i : Nat => decide ((a + (i : Nat)) % k = p)).length : Nat)
def heldTo (l : Lp) (ms : List Int) (k : Int) (n : Nat) (p : Int) : Int := ((List.range n).map fun s => cnt k p (ag ms (s : Nat)) (lastOf l ms k s)).sum
def atAll (k : Int) (f : Int → Int) : List Int := (List.range k.toNat).map fun p => f (p : Nat)
def heldF (l : Lp) (ms : List Int) (k : Int) : List Int := atAll k (heldTo l ms k l.rows.length)
def openF (l : Lp) (ms : List Int) (k : Int) : Int := (maxI ((ms.zip l.rows).map fun x => x.1 + x.2.2) - minI ms + k - 1) / k
structure PlanIn (l : Lp) (ms : List Int) (k : Int) : Prop where
  ok : l.Ok
  len : ms.length = l.rows.length
  ms : ∀ m ∈ ms, 0 ≤ m ∧ m ≤ 60
  k1 : 1 ≤ k
  k20 : k ≤ 20
def r_open_rounds (q : Ad) : RP := fun args P Xp => ∃ (l : Lp) (plan d : PD), args = [l.pd q, plan, d] ∧ plan.ok 20 = true ∧ tyOk d = true ∧ l.Ok ∧ chkPlan q l plan d (∀ ms k, plan = intsP ms → d = .int k → P (.int (openF l ms k))) Xp
def r_held_of (q : Ad) : RP := fun args P _ => ∃ (l : Lp) (ms : List Int) (k : Int), args = [l.pd q, intsP ms, .int k] ∧ PlanIn l ms k ∧ P (.lst ((heldF l ms k).map .int))
def r_held (q : Ad) : RP := fun args P Xp => ∃ (l : Lp) (plan d : PD), args = [l.pd q, plan, d] ∧ plan.ok 20 = true ∧ tyOk d = true ∧ l.Ok ∧ chkPlan q l plan d (∀ ms k, plan = intsP ms → d = .int k → P (.lst ((heldF l ms k).map .int))) Xp
end DL

set_option Elab.async false
set_option linter.all false
set_option maxRecDepth 100000
set_option maxHeartbeats 4000000
namespace DL
open PySem L2
/-! check_distance -/
def w_check_distance_1 (q : Ad) : WS := (wRaise q.BadDistance)
def w_check_distance_2 (q : Ad) : WS := (wIfS (wTNot (wTest (wCallP0 (r_is_from q) (wCons (wVar 0) (wCons (wC (.int 1)) (wCons (wC (.int (20))) wNil)))))) (w_check_distance_1 q) wNext)
def w_check_distance (q : Ad) : WS := (w_check_distance_2 q)
abbrev n_check_distance : List Str := ["value"]
/-! check_plan -/
def w_check_plan_1 (q : Ad) : WS := (wRaise q.BadPlan)
def w_check_plan_2 (q : Ad) : WS := (wRaise q.BadPlan)
def w_check_plan_3 (q : Ad) : WS := (wDrop (wCallP (r_check_distance q) (wCons (wVar 2) wNil)))
def w_check_plan_4 (q : Ad) : WS := (wSeq (wIfS (wTNot (wTest (wCB fAll (wCons (wLc [3] (wiSeq (wVar 1)) (wgName 3) wtYes (wCallP0 (r_is_from q) (wCons (wVar 3) (wCons (wC (.int 0)) (wCons (wC (.int (60))) wNil))))) wNil)))) (w_check_plan_2 q) wNext) (w_check_plan_3 q))
def w_check_plan_5 (q : Ad) : WS := (wSeq (wIfS (wTOr (wTNot (wTest (wIsT "tuple" (wVar 1)))) (wTest (wBin fNe (wCB fLen (wCons (wVar 1) wNil)) (wCB fLen (wCons (wFld q.Loop "rows" (wVar 0)) wNil))))) (w_check_plan_1 q) wNext) (w_check_plan_4 q))
def w_check_plan (q : Ad) : WS := (w_check_plan_5 q)
abbrev n_check_plan : List Str := ["loop", "plan", "distance", "moment"]
/-! open_rounds -/
def w_open_rounds_1 (q : Ad) : WS := (wRet (wBin fDiv (wBin fSub (wBin fAdd (wBin fSub (wVar 3) (wCB fMin (wCons (wVar 1) wNil))) (wVar 2)) (wC (.int 1))) (wVar 2)))
def w_open_rounds_2 (q : Ad) : WS := (wSeq (wSet 3 (wCB fMaxL (wCons (wLc [4, 5, 6] (wiZip (wCons (wVar 1) (wCons (wFld q.Loop "rows" (wVar 0)) wNil))) (wgTup 2 (wgCons (wgName 4) (wgCons (wgTup 2 (wgCons (wgName 5) (wgCons (wgName 6) wgNil))) wgNil))) wtYes (wBin fAdd (wVar 4) (wVar 6))) wNil))) (w_open_rounds_1 q))
def w_open_rounds_3 (q : Ad) : WS := (wSeq (wDrop (wCallP (r_check_plan q) (wCons (wVar 0) (wCons (wVar 1) (wCons (wVar 2) wNil))))) (w_open_rounds_2 q))
def w_open_rounds (q : Ad) : WS := (w_open_rounds_3 q)
abbrev n_open_rounds : List Str := ["loop", "plan", "distance", "end", "moment", "machine", "busy"]
/-! held_of -/
def w_held_of_1 (q : Ad) : WS := (wAugS (wVar 3) (wBin fMod (wVar 7) (wVar 2)) fAddI (wC (.int 1)))
def w_held_of_2 (q : Ad) : WS := (wFor (wiRng2 (wCons (wVar 5) (wCons (wCB fMaxL (wCons (wLst (wCons (wVar 5) (wStar (wVar 6) wNil))) wNil)) wNil))) (wgName 7) (w_held_of_1 q))
def w_held_of_3 (q : Ad) : WS := (wSeq (wSet 6 (wLc [8, 9, 10, 11] (wiSeq (wFld q.Loop "bars" (wVar 0))) (wgTup 4 (wgCons (wgName 8) (wgCons (wgName 9) (wgCons (wgName 10) (wgCons (wgName 11) wgNil))))) (wTest (wBin fEq (wVar 8) (wVar 4))) (wBin fAdd (wBin fIx (wVar 1) (wVar 9)) (wBin fMul (wVar 2) (wVar 11))))) (w_held_of_2 q))
def w_held_of_4 (q : Ad) : WS := (wRet (wVar 3))
def w_held_of_5 (q : Ad) : WS := (wSeq (wFor (wiEnum (wCons (wVar 1) wNil)) (wgTup 2 (wgCons (wgName 4) (wgCons (wgName 5) wgNil))) (w_held_of_3 q)) (w_held_of_4 q))
def w_held_of_6 (q : Ad) : WS := (wSeq (wSet 3 (wBin fMulC (wLst (wCons (wC (.int 0)) wNil)) (wVar 2))) (w_held_of_5 q))
def w_held_of (q : Ad) : WS := (w_held_of_6 q)
abbrev n_held_of : List Str := ["loop", "plan", "distance", "found", "step", "moment", "ends", "at", "one", "other", "moments", "rounds"]
/-! held -/
def w_held_1 (q : Ad) : WS := (wRet (wCallP0 (r_held_of q) (wCons (wVar 0) (wCons (wVar 1) (wCons (wVar 2) wNil)))))
def w_held_2 (q : Ad) : WS := (wSeq (wDrop (wCallP (r_check_plan q) (wCons (wVar 0) (wCons (wVar 1) (wCons (wVar 2) wNil))))) (w_held_1 q))
def w_held (q : Ad) : WS := (w_held_2 q)
abbrev n_held : List Str := ["loop", "plan", "distance"]
end DL

set_option Elab.async false
set_option linter.all false
set_option maxRecDepth 100000
set_option maxHeartbeats 4000000
namespace DL
open PySem L2
theorem z_check_distance {q : Ad} (args : List PD) (P : PD → Prop) (Xp : RX) (h : r_check_distance q args P Xp) : w_check_distance q (enP P Xp) (entry n_check_distance.length (args.map D.p)) [] := by
  unfold r_check_distance at h
  split at h
  · rename_i d
    obtain ⟨ht, h⟩ := h
    simp only [w_check_distance, w_check_distance_2, w_check_distance_1, wNext, wSeq, wBreak, wCont, wDrop, wRet, wSet, wPar, wIfS, wgName, wgNil, wgCons, wgTup, tupOf, wgSub, wAsg, putC, wAug, fAddI, fIxL, wAugS, wApp, wExt, putD, wFldS, wVar, dAt, wC, wBin, wUn, fSub_ii, fDiv_ii, fMod_ii, fPow_ii, fLt_ii, fLe_ii, fGt_ii, fGe_ii, fNeg_i, fAdd_ii, fAdd_tt, fAdd_ss, fAdd_ll, fAdd_c, fAdd_lc, fMul_ii, fMul_ti, fMul_li, fMul_ci, fMulC, lsOf, sqOf, wTest, wChain, wTAnd, wTOr, wTNot, wAndV, wOrV, wNotV, wIf, plOf, fEq, fNe, fIn, fIsN, fNotN, isNon, fFld, wFld, fIx, wNoPart, wPart, wSl, wNil, wCons, wStar, allP, allP_map, wTup, wLst, wLstC, wiSeq, wiRng1, wiRng2, wFor, wLc, wLcC, wtYes, wiEnum, wiZip, wCB, fLen_s, fLen_t, fLen_l, fLen_c, fMax_ii, fMax_iii, fMax_l, fMin_ii, fMin_t, fMin_l, fMin_c, fSum, fAll, fAny, fList, fListC, fTuple, fInt_i, fInt_b, fInt_s, fStr, sqF, fIsT, wIsT, tyName, kit_nt, kit_bt, kit_it, kit_st, kit_tt, kit_lt, kit_ni, kit_bi, kit_ii, kit_si, kit_ti, kit_li, kit_nb, kit_bb, kit_ib, kit_sb, kit_tb, kit_lb, wCallP0, wCallR0, wCallN0, wCallP, wCallR, wCallRf, wCallN, wMake, wMake0, wMakeC, wRaise, wNever, En.xp, enP, enR, enN, rtP, rtR, rtN, entry, List.map_cons, List.map_nil, List.cons_append, List.nil_append, List.append_nil, List.length_cons, List.length_nil, List.replicate, List.set_cons_zero, List.set_cons_succ, List.getElem?_cons_zero, List.getElem?_cons_succ, List.getElem?_nil, Option.getD_some, Option.getD_none, ite_true, ite_false, Bool.not_true, Bool.not_false, Bool.true_and, Bool.and_true, Bool.and_false, Bool.false_and, Bool.not_eq_true, Bool.false_eq_true, reduceIte, decide_eq_true_eq, atI_zero, atI_one, atI_two, atI_three, atI_four, wipeD, reduceCtorEq, ok_int, ok_non, ok_bl, eqv_int, ix40, ix41, ix42, ix43, Int.toNat_natCast, true_and, and_true, n_check_distance, r_is_from, ht]
    cases e : isFrom d 1 20 <;> simp only [e, wNext, wSeq, wBreak, wCont, wDrop, wRet, wSet, wPar, wIfS, wgName, wgNil, wgCons, wgTup, tupOf, wgSub, wAsg, putC, wAug, fAddI, fIxL, wAugS, wApp, wExt, putD, wFldS, wVar, dAt, wC, wBin, wUn, fSub_ii, fDiv_ii, fMod_ii, fPow_ii, fLt_ii, fLe_ii, fGt_ii, fGe_ii, fNeg_i, fAdd_ii, fAdd_tt, fAdd_ss, fAdd_ll, fAdd_c, fAdd_lc, fMul_ii, fMul_ti, fMul_li, fMul_ci, fMulC, lsOf, sqOf, wTest, wChain, wTAnd, wTOr, wTNot, wAndV, wOrV, wNotV, wIf, plOf, fEq, fNe, fIn, fIsN, fNotN, isNon, fFld, wFld, fIx, wNoPart, wPart, wSl, wNil, wCons, wStar, allP, allP_map, wTup, wLst, wLstC, wiSeq, wiRng1, wiRng2, wFor, wLc, wLcC, wtYes, wiEnum, wiZip, wCB, fLen_s, fLen_t, fLen_l, fLen_c, fMax_ii, fMax_iii, fMax_l, fMin_ii, fMin_t, fMin_l, fMin_c, fSum, fAll, fAny, fList, fListC, fTuple, fInt_i, fInt_b, fInt_s, fStr, sqF, fIsT, wIsT, tyName, kit_nt, kit_bt, kit_it, kit_st, kit_tt, kit_lt, kit_ni, kit_bi, kit_ii, kit_si, kit_ti, kit_li, kit_nb, kit_bb, kit_ib, kit_sb, kit_tb, kit_lb, wCallP0, wCallR0, wCallN0, wCallP, wCallR, wCallRf, wCallN, wMake, wMake0, wMakeC, wRaise, wNever, En.xp, enP, enR, enN, rtP, rtR, rtN, entry, List.map_cons, List.map_nil, List.cons_append, List.nil_append, List.append_nil, List.length_cons, List.length_nil, List.replicate, List.set_cons_zero, List.set_cons_succ, List.getElem?_cons_zero, List.getElem?_cons_succ, List.getElem?_nil, Option.getD_some, Option.getD_none, ite_true, ite_false, Bool.not_true, Bool.not_false, Bool.true_and, Bool.and_true, Bool.and_false, Bool.false_and, Bool.not_eq_true, Bool.false_eq_true, reduceIte, decide_eq_true_eq, atI_zero, atI_one, atI_two, atI_three, atI_four, wipeD, reduceCtorEq, ok_int, ok_non, ok_bl, eqv_int, ix40, ix41, ix42, ix43, Int.toNat_natCast, true_and, and_true] at h ⊢ <;> exact h
  · exact h.elim
theorem b_rc : (Str.ofString "rows" == Str.ofString "counts") = false := by decide +kernel
theorem b_bc : (Str.ofString "bars" == Str.ofString "counts") = false := by decide +kernel
theorem b_br : (Str.ofString "bars" == Str.ofString "rows") = false := by decide +kernel
theorem lk_rows (l : Lp) : l.fs.lookup (Str.ofString "rows") = some l.rP := by
  simp [Lp.fs, List.lookup_cons, b_rc]
theorem lk_counts (l : Lp) : l.fs.lookup (Str.ofString "counts") = some l.cP := by
  simp [Lp.fs, List.lookup_cons]
theorem lk_bars (l : Lp) : l.fs.lookup (Str.ofString "bars") = some l.bP := by
  simp [Lp.fs, List.lookup_cons, b_bc, b_br]
theorem planOk_ints {l : Lp} {plan : PD} (h : planOk l plan = true) : ∃ ms : List Int, plan = intsP ms ∧ ms.length = l.rows.length ∧ ∀ m ∈ ms, 0 ≤ m ∧ m ≤ 60 := by
  unfold planOk at h
  split at h
  · rename_i xs
    rw [Bool.and_eq_true, decide_eq_true_eq, List.all_eq_true] at h
    obtain ⟨ms, rfl, hm⟩ := unmap (Z := fun x => isFrom x 0 60 = true) PD.int (fun m => 0 ≤ m ∧ m ≤ 60) (fun z hz => by
      cases z with
      | int i =>
        simp only [isFrom, Bool.and_eq_true, decide_eq_true_eq] at hz
        exact ⟨i, rfl, hz⟩
      | _ => simp [isFrom] at hz) xs h.2
    exact ⟨ms, rfl, by rw [← h.1, List.length_map], hm⟩
  · cases h
theorem z_check_plan {q : Ad} (args : List PD) (P : PD → Prop) (Xp : RX) (h : r_check_plan q args P Xp) : w_check_plan q (enP P Xp) (entry n_check_plan.length (args.map D.p)) [] := by
  obtain ⟨l, plan, d, rfl, hp, hd, ok, h⟩ := h
  unfold chkPlan at h
  simp only [w_check_plan, w_check_plan_5, w_check_plan_1, wNext, wSeq, wBreak, wCont, wDrop, wRet, wSet, wPar, wIfS, wgName, wgNil, wgCons, wgTup, tupOf, wgSub, wAsg, putC, wAug, fAddI, fIxL, wAugS, wApp, wExt, putD, wFldS, wVar, dAt, wC, wBin, wUn, fSub_ii, fDiv_ii, fMod_ii, fPow_ii, fLt_ii, fLe_ii, fGt_ii, fGe_ii, fNeg_i, fAdd_ii, fAdd_tt, fAdd_ss, fAdd_ll, fAdd_c, fAdd_lc, fMul_ii, fMul_ti, fMul_li, fMul_ci, fMulC, lsOf, sqOf, wTest, wChain, wTAnd, wTOr, wTNot, wAndV, wOrV, wNotV, wIf, plOf, fEq, fNe, fIn, fIsN, fNotN, isNon, fFld, wFld, fIx, wNoPart, wPart, wSl, wNil, wCons, wStar, allP, allP_map, wTup, wLst, wLstC, wiSeq, wiRng1, wiRng2, wFor, wLc, wLcC, wtYes, wiEnum, wiZip, wCB, fLen_s, fLen_t, fLen_l, fLen_c, fMax_ii, fMax_iii, fMax_l, fMin_ii, fMin_t, fMin_l, fMin_c, fSum, fAll, fAny, fList, fListC, fTuple, fInt_i, fInt_b, fInt_s, fStr, sqF, fIsT, wIsT, tyName, kit_nt, kit_bt, kit_it, kit_st, kit_tt, kit_lt, kit_ni, kit_bi, kit_ii, kit_si, kit_ti, kit_li, kit_nb, kit_bb, kit_ib, kit_sb, kit_tb, kit_lb, wCallP0, wCallR0, wCallN0, wCallP, wCallR, wCallRf, wCallN, wMake, wMake0, wMakeC, wRaise, wNever, En.xp, enP, enR, enN, rtP, rtR, rtN, entry, List.map_cons, List.map_nil, List.cons_append, List.nil_append, List.append_nil, List.length_cons, List.length_nil, List.replicate, List.set_cons_zero, List.set_cons_succ, List.getElem?_cons_zero, List.getElem?_cons_succ, List.getElem?_nil, Option.getD_some, Option.getD_none, ite_true, ite_false, Bool.not_true, Bool.not_false, Bool.true_and, Bool.and_true, Bool.and_false, Bool.false_and, Bool.not_eq_true, Bool.false_eq_true, reduceIte, decide_eq_true_eq, atI_zero, atI_one, atI_two, atI_three, atI_four, wipeD, reduceCtorEq, ok_int, ok_non, ok_bl, eqv_int, ix40, ix41, ix42, ix43, Int.toNat_natCast, true_and, and_true, n_check_plan]
  cases plan with
  | tup xs =>
    have hx : ∀ x ∈ xs, x.ok 19 = true := by simpa [PD.ok] using hp
    have e : Lp.pd q l = .ins q.Loop l.fs := rfl
    simp only [wNext, wSeq, wBreak, wCont, wDrop, wRet, wSet, wPar, wIfS, wgName, wgNil, wgCons, wgTup, tupOf, wgSub, wAsg, putC, wAug, fAddI, fIxL, wAugS, wApp, wExt, putD, wFldS, wVar, dAt, wC, wBin, wUn, fSub_ii, fDiv_ii, fMod_ii, fPow_ii, fLt_ii, fLe_ii, fGt_ii, fGe_ii, fNeg_i, fAdd_ii, fAdd_tt, fAdd_ss, fAdd_ll, fAdd_c, fAdd_lc, fMul_ii, fMul_ti, fMul_li, fMul_ci, fMulC, lsOf, sqOf, wTest, wChain, wTAnd, wTOr, wTNot, wAndV, wOrV, wNotV, wIf, plOf, fEq, fNe, fIn, fIsN, fNotN, isNon, fFld, wFld, fIx, wNoPart, wPart, wSl, wNil, wCons, wStar, allP, allP_map, wTup, wLst, wLstC, wiSeq, wiRng1, wiRng2, wFor, wLc, wLcC, wtYes, wiEnum, wiZip, wCB, fLen_s, fLen_t, fLen_l, fLen_c, fMax_ii, fMax_iii, fMax_l, fMin_ii, fMin_t, fMin_l, fMin_c, fSum, fAll, fAny, fList, fListC, fTuple, fInt_i, fInt_b, fInt_s, fStr, sqF, fIsT, wIsT, tyName, kit_nt, kit_bt, kit_it, kit_st, kit_tt, kit_lt, kit_ni, kit_bi, kit_ii, kit_si, kit_ti, kit_li, kit_nb, kit_bb, kit_ib, kit_sb, kit_tb, kit_lb, wCallP0, wCallR0, wCallN0, wCallP, wCallR, wCallRf, wCallN, wMake, wMake0, wMakeC, wRaise, wNever, En.xp, enP, enR, enN, rtP, rtR, rtN, entry, List.map_cons, List.map_nil, List.cons_append, List.nil_append, List.append_nil, List.length_cons, List.length_nil, List.replicate, List.set_cons_zero, List.set_cons_succ, List.getElem?_cons_zero, List.getElem?_cons_succ, List.getElem?_nil, Option.getD_some, Option.getD_none, ite_true, ite_false, Bool.not_true, Bool.not_false, Bool.true_and, Bool.and_true, Bool.and_false, Bool.false_and, Bool.not_eq_true, Bool.false_eq_true, reduceIte, decide_eq_true_eq, atI_zero, atI_one, atI_two, atI_three, atI_four, wipeD, reduceCtorEq, ok_int, ok_non, ok_bl, eqv_int, ix40, ix41, ix42, ix43, Int.toNat_natCast, true_and, and_true, e, lk_rows, Lp.rP]
    by_cases hl : xs.length = l.rows.length
    · have hl' : ((xs.length : Int) = ((l.rows.map rowP).length : Int)) := by rw [List.length_map]; omega
      simp only [hl', wNext, wSeq, wBreak, wCont, wDrop, wRet, wSet, wPar, wIfS, wgName, wgNil, wgCons, wgTup, tupOf, wgSub, wAsg, putC, wAug, fAddI, fIxL, wAugS, wApp, wExt, putD, wFldS, wVar, dAt, wC, wBin, wUn, fSub_ii, fDiv_ii, fMod_ii, fPow_ii, fLt_ii, fLe_ii, fGt_ii, fGe_ii, fNeg_i, fAdd_ii, fAdd_tt, fAdd_ss, fAdd_ll, fAdd_c, fAdd_lc, fMul_ii, fMul_ti, fMul_li, fMul_ci, fMulC, lsOf, sqOf, wTest, wChain, wTAnd, wTOr, wTNot, wAndV, wOrV, wNotV, wIf, plOf, fEq, fNe, fIn, fIsN, fNotN, isNon, fFld, wFld, fIx, wNoPart, wPart, wSl, wNil, wCons, wStar, allP, allP_map, wTup, wLst, wLstC, wiSeq, wiRng1, wiRng2, wFor, wLc, wLcC, wtYes, wiEnum, wiZip, wCB, fLen_s, fLen_t, fLen_l, fLen_c, fMax_ii, fMax_iii, fMax_l, fMin_ii, fMin_t, fMin_l, fMin_c, fSum, fAll, fAny, fList, fListC, fTuple, fInt_i, fInt_b, fInt_s, fStr, sqF, fIsT, wIsT, tyName, kit_nt, kit_bt, kit_it, kit_st, kit_tt, kit_lt, kit_ni, kit_bi, kit_ii, kit_si, kit_ti, kit_li, kit_nb, kit_bb, kit_ib, kit_sb, kit_tb, kit_lb, wCallP0, wCallR0, wCallN0, wCallP, wCallR, wCallRf, wCallN, wMake, wMake0, wMakeC, wRaise, wNever, En.xp, enP, enR, enN, rtP, rtR, rtN, entry, List.map_cons, List.map_nil, List.cons_append, List.nil_append, List.append_nil, List.length_cons, List.length_nil, List.replicate, List.set_cons_zero, List.set_cons_succ, List.getElem?_cons_zero, List.getElem?_cons_succ, List.getElem?_nil, Option.getD_some, Option.getD_none, ite_true, ite_false, Bool.not_true, Bool.not_false, Bool.true_and, Bool.and_true, Bool.and_false, Bool.false_and, Bool.not_eq_true, Bool.false_eq_true, reduceIte, decide_eq_true_eq, atI_zero, atI_one, atI_two, atI_three, atI_four, wipeD, reduceCtorEq, ok_int, ok_non, ok_bl, eqv_int, ix40, ix41, ix42, ix43, Int.toNat_natCast, true_and, and_true, decide_true, w_check_plan_4, w_check_plan_2]
      refine lc_map (fun x => .bl (isFrom x 0 60)) (by have := ok.s5; unfold big; omega) trivial (fun i x J hxi hJ => ?_) ?_
      · have := ty_ok (hx x (List.mem_of_getElem? hxi))
        simp only [wNext, wSeq, wBreak, wCont, wDrop, wRet, wSet, wPar, wIfS, wgName, wgNil, wgCons, wgTup, tupOf, wgSub, wAsg, putC, wAug, fAddI, fIxL, wAugS, wApp, wExt, putD, wFldS, wVar, dAt, wC, wBin, wUn, fSub_ii, fDiv_ii, fMod_ii, fPow_ii, fLt_ii, fLe_ii, fGt_ii, fGe_ii, fNeg_i, fAdd_ii, fAdd_tt, fAdd_ss, fAdd_ll, fAdd_c, fAdd_lc, fMul_ii, fMul_ti, fMul_li, fMul_ci, fMulC, lsOf, sqOf, wTest, wChain, wTAnd, wTOr, wTNot, wAndV, wOrV, wNotV, wIf, plOf, fEq, fNe, fIn, fIsN, fNotN, isNon, fFld, wFld, fIx, wNoPart, wPart, wSl, wNil, wCons, wStar, allP, allP_map, wTup, wLst, wLstC, wiSeq, wiRng1, wiRng2, wFor, wLc, wLcC, wtYes, wiEnum, wiZip, wCB, fLen_s, fLen_t, fLen_l, fLen_c, fMax_ii, fMax_iii, fMax_l, fMin_ii, fMin_t, fMin_l, fMin_c, fSum, fAll, fAny, fList, fListC, fTuple, fInt_i, fInt_b, fInt_s, fStr, sqF, fIsT, wIsT, tyName, kit_nt, kit_bt, kit_it, kit_st, kit_tt, kit_lt, kit_ni, kit_bi, kit_ii, kit_si, kit_ti, kit_li, kit_nb, kit_bb, kit_ib, kit_sb, kit_tb, kit_lb, wCallP0, wCallR0, wCallN0, wCallP, wCallR, wCallRf, wCallN, wMake, wMake0, wMakeC, wRaise, wNever, En.xp, enP, enR, enN, rtP, rtR, rtN, entry, List.map_cons, List.map_nil, List.cons_append, List.nil_append, List.append_nil, List.length_cons, List.length_nil, List.replicate, List.set_cons_zero, List.set_cons_succ, List.getElem?_cons_zero, List.getElem?_cons_succ, List.getElem?_nil, Option.getD_some, Option.getD_none, ite_true, ite_false, Bool.not_true, Bool.not_false, Bool.true_and, Bool.and_true, Bool.and_false, Bool.false_and, Bool.not_eq_true, Bool.false_eq_true, reduceIte, decide_eq_true_eq, atI_zero, atI_one, atI_two, atI_three, atI_four, wipeD, reduceCtorEq, ok_int, ok_non, ok_bl, eqv_int, ix40, ix41, ix42, ix43, Int.toNat_natCast, true_and, and_true, r_is_from, this]
        exact hJ
      · have e2 : xs.map (fun x => PD.bl (isFrom x 0 60)) = (xs.map fun x => isFrom x 0 60).map PD.bl := by rw [List.map_map]; rfl
        simp only [wNext, wSeq, wBreak, wCont, wDrop, wRet, wSet, wPar, wIfS, wgName, wgNil, wgCons, wgTup, tupOf, wgSub, wAsg, putC, wAug, fAddI, fIxL, wAugS, wApp, wExt, putD, wFldS, wVar, dAt, wC, wBin, wUn, fSub_ii, fDiv_ii, fMod_ii, fPow_ii, fLt_ii, fLe_ii, fGt_ii, fGe_ii, fNeg_i, fAdd_ii, fAdd_tt, fAdd_ss, fAdd_ll, fAdd_c, fAdd_lc, fMul_ii, fMul_ti, fMul_li, fMul_ci, fMulC, lsOf, sqOf, wTest, wChain, wTAnd, wTOr, wTNot, wAndV, wOrV, wNotV, wIf, plOf, fEq, fNe, fIn, fIsN, fNotN, isNon, fFld, wFld, fIx, wNoPart, wPart, wSl, wNil, wCons, wStar, allP, allP_map, wTup, wLst, wLstC, wiSeq, wiRng1, wiRng2, wFor, wLc, wLcC, wtYes, wiEnum, wiZip, wCB, fLen_s, fLen_t, fLen_l, fLen_c, fMax_ii, fMax_iii, fMax_l, fMin_ii, fMin_t, fMin_l, fMin_c, fSum, fAll, fAny, fList, fListC, fTuple, fInt_i, fInt_b, fInt_s, fStr, sqF, fIsT, wIsT, tyName, kit_nt, kit_bt, kit_it, kit_st, kit_tt, kit_lt, kit_ni, kit_bi, kit_ii, kit_si, kit_ti, kit_li, kit_nb, kit_bb, kit_ib, kit_sb, kit_tb, kit_lb, wCallP0, wCallR0, wCallN0, wCallP, wCallR, wCallRf, wCallN, wMake, wMake0, wMakeC, wRaise, wNever, En.xp, enP, enR, enN, rtP, rtR, rtN, entry, List.map_cons, List.map_nil, List.cons_append, List.nil_append, List.append_nil, List.length_cons, List.length_nil, List.replicate, List.set_cons_zero, List.set_cons_succ, List.getElem?_cons_zero, List.getElem?_cons_succ, List.getElem?_nil, Option.getD_some, Option.getD_none, ite_true, ite_false, Bool.not_true, Bool.not_false, Bool.true_and, Bool.and_true, Bool.and_false, Bool.false_and, Bool.not_eq_true, Bool.false_eq_true, reduceIte, decide_eq_true_eq, atI_zero, atI_one, atI_two, atI_three, atI_four, wipeD, reduceCtorEq, ok_int, ok_non, ok_bl, eqv_int, ix40, ix41, ix42, ix43, Int.toNat_natCast, true_and, and_true, e2, allB_map, w_check_plan_3, r_check_distance, hd]
        have e3 : (xs.map fun x => isFrom x 0 60).all id = planOk l (.tup xs) := by
          simp [planOk, hl, List.all_map]
        rw [e3]
        cases e4 : planOk l (.tup xs) <;> simp only [e4, wNext, wSeq, wBreak, wCont, wDrop, wRet, wSet, wPar, wIfS, wgName, wgNil, wgCons, wgTup, tupOf, wgSub, wAsg, putC, wAug, fAddI, fIxL, wAugS, wApp, wExt, putD, wFldS, wVar, dAt, wC, wBin, wUn, fSub_ii, fDiv_ii, fMod_ii, fPow_ii, fLt_ii, fLe_ii, fGt_ii, fGe_ii, fNeg_i, fAdd_ii, fAdd_tt, fAdd_ss, fAdd_ll, fAdd_c, fAdd_lc, fMul_ii, fMul_ti, fMul_li, fMul_ci, fMulC, lsOf, sqOf, wTest, wChain, wTAnd, wTOr, wTNot, wAndV, wOrV, wNotV, wIf, plOf, fEq, fNe, fIn, fIsN, fNotN, isNon, fFld, wFld, fIx, wNoPart, wPart, wSl, wNil, wCons, wStar, allP, allP_map, wTup, wLst, wLstC, wiSeq, wiRng1, wiRng2, wFor, wLc, wLcC, wtYes, wiEnum, wiZip, wCB, fLen_s, fLen_t, fLen_l, fLen_c, fMax_ii, fMax_iii, fMax_l, fMin_ii, fMin_t, fMin_l, fMin_c, fSum, fAll, fAny, fList, fListC, fTuple, fInt_i, fInt_b, fInt_s, fStr, sqF, fIsT, wIsT, tyName, kit_nt, kit_bt, kit_it, kit_st, kit_tt, kit_lt, kit_ni, kit_bi, kit_ii, kit_si, kit_ti, kit_li, kit_nb, kit_bb, kit_ib, kit_sb, kit_tb, kit_lb, wCallP0, wCallR0, wCallN0, wCallP, wCallR, wCallRf, wCallN, wMake, wMake0, wMakeC, wRaise, wNever, En.xp, enP, enR, enN, rtP, rtR, rtN, entry, List.map_cons, List.map_nil, List.cons_append, List.nil_append, List.append_nil, List.length_cons, List.length_nil, List.replicate, List.set_cons_zero, List.set_cons_succ, List.getElem?_cons_zero, List.getElem?_cons_succ, List.getElem?_nil, Option.getD_some, Option.getD_none, ite_true, ite_false, Bool.not_true, Bool.not_false, Bool.true_and, Bool.and_true, Bool.and_false, Bool.false_and, Bool.not_eq_true, Bool.false_eq_true, reduceIte, decide_eq_true_eq, atI_zero, atI_one, atI_two, atI_three, atI_four, wipeD, reduceCtorEq, ok_int, ok_non, ok_bl, eqv_int, ix40, ix41, ix42, ix43, Int.toNat_natCast, true_and, and_true] at h ⊢ <;> exact h
    · have hl' : ¬ ((xs.length : Int) = ((l.rows.map rowP).length : Int)) := by rw [List.length_map]; omega
      have e4 : planOk l (.tup xs) = false := by simp [planOk, hl]
      simp only [hl', wNext, wSeq, wBreak, wCont, wDrop, wRet, wSet, wPar, wIfS, wgName, wgNil, wgCons, wgTup, tupOf, wgSub, wAsg, putC, wAug, fAddI, fIxL, wAugS, wApp, wExt, putD, wFldS, wVar, dAt, wC, wBin, wUn, fSub_ii, fDiv_ii, fMod_ii, fPow_ii, fLt_ii, fLe_ii, fGt_ii, fGe_ii, fNeg_i, fAdd_ii, fAdd_tt, fAdd_ss, fAdd_ll, fAdd_c, fAdd_lc, fMul_ii, fMul_ti, fMul_li, fMul_ci, fMulC, lsOf, sqOf, wTest, wChain, wTAnd, wTOr, wTNot, wAndV, wOrV, wNotV, wIf, plOf, fEq, fNe, fIn, fIsN, fNotN, isNon, fFld, wFld, fIx, wNoPart, wPart, wSl, wNil, wCons, wStar, allP, allP_map, wTup, wLst, wLstC, wiSeq, wiRng1, wiRng2, wFor, wLc, wLcC, wtYes, wiEnum, wiZip, wCB, fLen_s, fLen_t, fLen_l, fLen_c, fMax_ii, fMax_iii, fMax_l, fMin_ii, fMin_t, fMin_l, fMin_c, fSum, fAll, fAny, fList, fListC, fTuple, fInt_i, fInt_b, fInt_s, fStr, sqF, fIsT, wIsT, tyName, kit_nt, kit_bt, kit_it, kit_st, kit_tt, kit_lt, kit_ni, kit_bi, kit_ii, kit_si, kit_ti, kit_li, kit_nb, kit_bb, kit_ib, kit_sb, kit_tb, kit_lb, wCallP0, wCallR0, wCallN0, wCallP, wCallR, wCallRf, wCallN, wMake, wMake0, wMakeC, wRaise, wNever, En.xp, enP, enR, enN, rtP, rtR, rtN, entry, List.map_cons, List.map_nil, List.cons_append, List.nil_append, List.append_nil, List.length_cons, List.length_nil, List.replicate, List.set_cons_zero, List.set_cons_succ, List.getElem?_cons_zero, List.getElem?_cons_succ, List.getElem?_nil, Option.getD_some, Option.getD_none, ite_true, ite_false, Bool.not_true, Bool.not_false, Bool.true_and, Bool.and_true, Bool.and_false, Bool.false_and, Bool.not_eq_true, Bool.false_eq_true, reduceIte, decide_eq_true_eq, atI_zero, atI_one, atI_two, atI_three, atI_four, wipeD, reduceCtorEq, ok_int, ok_non, ok_bl, eqv_int, ix40, ix41, ix42, ix43, Int.toNat_natCast, true_and, and_true, decide_false]
      simp only [e4, wNext, wSeq, wBreak, wCont, wDrop, wRet, wSet, wPar, wIfS, wgName, wgNil, wgCons, wgTup, tupOf, wgSub, wAsg, putC, wAug, fAddI, fIxL, wAugS, wApp, wExt, putD, wFldS, wVar, dAt, wC, wBin, wUn, fSub_ii, fDiv_ii, fMod_ii, fPow_ii, fLt_ii, fLe_ii, fGt_ii, fGe_ii, fNeg_i, fAdd_ii, fAdd_tt, fAdd_ss, fAdd_ll, fAdd_c, fAdd_lc, fMul_ii, fMul_ti, fMul_li, fMul_ci, fMulC, lsOf, sqOf, wTest, wChain, wTAnd, wTOr, wTNot, wAndV, wOrV, wNotV, wIf, plOf, fEq, fNe, fIn, fIsN, fNotN, isNon, fFld, wFld, fIx, wNoPart, wPart, wSl, wNil, wCons, wStar, allP, allP_map, wTup, wLst, wLstC, wiSeq, wiRng1, wiRng2, wFor, wLc, wLcC, wtYes, wiEnum, wiZip, wCB, fLen_s, fLen_t, fLen_l, fLen_c, fMax_ii, fMax_iii, fMax_l, fMin_ii, fMin_t, fMin_l, fMin_c, fSum, fAll, fAny, fList, fListC, fTuple, fInt_i, fInt_b, fInt_s, fStr, sqF, fIsT, wIsT, tyName, kit_nt, kit_bt, kit_it, kit_st, kit_tt, kit_lt, kit_ni, kit_bi, kit_ii, kit_si, kit_ti, kit_li, kit_nb, kit_bb, kit_ib, kit_sb, kit_tb, kit_lb, wCallP0, wCallR0, wCallN0, wCallP, wCallR, wCallRf, wCallN, wMake, wMake0, wMakeC, wRaise, wNever, En.xp, enP, enR, enN, rtP, rtR, rtN, entry, List.map_cons, List.map_nil, List.cons_append, List.nil_append, List.append_nil, List.length_cons, List.length_nil, List.replicate, List.set_cons_zero, List.set_cons_succ, List.getElem?_cons_zero, List.getElem?_cons_succ, List.getElem?_nil, Option.getD_some, Option.getD_none, ite_true, ite_false, Bool.not_true, Bool.not_false, Bool.true_and, Bool.and_true, Bool.and_false, Bool.false_and, Bool.not_eq_true, Bool.false_eq_true, reduceIte, decide_eq_true_eq, atI_zero, atI_one, atI_two, atI_three, atI_four, wipeD, reduceCtorEq, ok_int, ok_non, ok_bl, eqv_int, ix40, ix41, ix42, ix43, Int.toNat_natCast, true_and, and_true] at h
      exact h
  | ins C fs => cases hp
  | fz xs => cases hp
  | _ =>
    simp only [wNext, wSeq, wBreak, wCont, wDrop, wRet, wSet, wPar, wIfS, wgName, wgNil, wgCons, wgTup, tupOf, wgSub, wAsg, putC, wAug, fAddI, fIxL, wAugS, wApp, wExt, putD, wFldS, wVar, dAt, wC, wBin, wUn, fSub_ii, fDiv_ii, fMod_ii, fPow_ii, fLt_ii, fLe_ii, fGt_ii, fGe_ii, fNeg_i, fAdd_ii, fAdd_tt, fAdd_ss, fAdd_ll, fAdd_c, fAdd_lc, fMul_ii, fMul_ti, fMul_li, fMul_ci, fMulC, lsOf, sqOf, wTest, wChain, wTAnd, wTOr, wTNot, wAndV, wOrV, wNotV, wIf, plOf, fEq, fNe, fIn, fIsN, fNotN, isNon, fFld, wFld, fIx, wNoPart, wPart, wSl, wNil, wCons, wStar, allP, allP_map, wTup, wLst, wLstC, wiSeq, wiRng1, wiRng2, wFor, wLc, wLcC, wtYes, wiEnum, wiZip, wCB, fLen_s, fLen_t, fLen_l, fLen_c, fMax_ii, fMax_iii, fMax_l, fMin_ii, fMin_t, fMin_l, fMin_c, fSum, fAll, fAny, fList, fListC, fTuple, fInt_i, fInt_b, fInt_s, fStr, sqF, fIsT, wIsT, tyName, kit_nt, kit_bt, kit_it, kit_st, kit_tt, kit_lt, kit_ni, kit_bi, kit_ii, kit_si, kit_ti, kit_li, kit_nb, kit_bb, kit_ib, kit_sb, kit_tb, kit_lb, wCallP0, wCallR0, wCallN0, wCallP, wCallR, wCallRf, wCallN, wMake, wMake0, wMakeC, wRaise, wNever, En.xp, enP, enR, enN, rtP, rtR, rtN, entry, List.map_cons, List.map_nil, List.cons_append, List.nil_append, List.append_nil, List.length_cons, List.length_nil, List.replicate, List.set_cons_zero, List.set_cons_succ, List.getElem?_cons_zero, List.getElem?_cons_succ, List.getElem?_nil, Option.getD_some, Option.getD_none, ite_true, ite_false, Bool.not_true, Bool.not_false, Bool.true_and, Bool.and_true, Bool.and_false, Bool.false_and, Bool.not_eq_true, Bool.false_eq_true, reduceIte, decide_eq_true_eq, atI_zero, atI_one, atI_two, atI_three, atI_four, wipeD, reduceCtorEq, ok_int, ok_non, ok_bl, eqv_int, ix40, ix41, ix42, ix43, Int.toNat_natCast, true_and, and_true, planOk] at h ⊢
    exact h
end DL

set_option Elab.async false
set_option linter.all false
set_option maxRecDepth 100000
set_option maxHeartbeats 4000000
namespace DL
open PySem L2
theorem chk_imp {q : Ad} {l : Lp} {plan d : PD} {P P' : Prop} {Xp : RX} (ok : l.Ok) (h : chkPlan q l plan d P Xp) (k : ∀ ms d', plan = intsP ms → d = .int d' → PlanIn l ms d' → P → P') : chkPlan q l plan d P' Xp := by
  unfold chkPlan at h ⊢
  split
  · rename_i h1
    rw [if_pos h1] at h
    split
    · rename_i h2
      rw [if_pos h2] at h
      obtain ⟨ms, e, h3, h4⟩ := planOk_ints h1
      cases d with
      | int d' =>
        simp only [isFrom, Bool.and_eq_true, decide_eq_true_eq] at h2
        exact k ms d' e rfl ⟨ok, h3, h4, h2.1, h2.2⟩ h
      | _ => simp [isFrom] at h2
    · rename_i h2
      rw [if_neg h2] at h
      exact h
  · rename_i h1
    rw [if_neg h1] at h
    exact h
def fZip (x : PD) : PD := match x with | .tup [.int m, .tup [_, .int b]] => .int (m + b) | _ => .non
theorem zip_map : ∀ (ms : List Int) (rows : List (Int × Int)), (zipP (ms.map PD.int) (rows.map rowP)).map fZip = ((ms.zip rows).map fun x => x.1 + x.2.2).map PD.int
  | [], rows => by simp [zipP]
  | m :: ms, [] => by simp [zipP]
  | m :: ms, r :: rows => by
    simp only [List.map_cons, zipP, List.zip_cons_cons, zip_map ms rows]
    rfl
theorem zip_inv : ∀ {ms : List Int} {rows : List (Int × Int)} {i : Nat} {x : PD}, (zipP (ms.map PD.int) (rows.map rowP))[i]? = some x → ∃ m r, x = .tup [.int m, rowP r]
  | [], rows, i, x, h => by simp [zipP] at h
  | m :: ms, [], i, x, h => by simp [zipP] at h
  | m :: ms, r :: rows, 0, x, h => by
    simp [zipP] at h
    exact ⟨m, r, h.symm⟩
  | m :: ms, r :: rows, i + 1, x, h => by
    simp only [List.map_cons, zipP, List.getElem?_cons_succ] at h
    exact zip_inv h
theorem intsOf_lst (ns : List Int) (m : Mu) : intsOf (.p (.lst (ns.map PD.int))) m = some ns := by
  simp only [intsOf, sqOf, allI_map]
theorem intsOf_tup (ns : List Int) (m : Mu) : intsOf (.p (.tup (ns.map PD.int))) m = some ns := by
  simp only [intsOf, sqOf, allI_map]
theorem z_open_rounds {q : Ad} (args : List PD) (P : PD → Prop) (Xp : RX) (h : r_open_rounds q args P Xp) : w_open_rounds q (enP P Xp) (entry n_open_rounds.length (args.map D.p)) [] := by
  obtain ⟨l, plan, d, rfl, hp, hd, ok, h⟩ := h
  simp only [w_open_rounds, w_open_rounds_3, wNext, wSeq, wBreak, wCont, wDrop, wRet, wSet, wPar, wIfS, wgName, wgNil, wgCons, wgTup, tupOf, wgSub, wAsg, putC, wAug, fAddI, fIxL, wAugS, wApp, wExt, putD, wFldS, wVar, dAt, wC, wBin, wUn, fSub_ii, fDiv_ii, fMod_ii, fPow_ii, fLt_ii, fLe_ii, fGt_ii, fGe_ii, fNeg_i, fAdd_ii, fAdd_tt, fAdd_ss, fAdd_ll, fAdd_c, fAdd_lc, fMul_ii, fMul_ti, fMul_li, fMul_ci, fMulC, lsOf, sqOf, wTest, wChain, wTAnd, wTOr, wTNot, wAndV, wOrV, wNotV, wIf, plOf, fEq, fNe, fIn, fIsN, fNotN, isNon, fFld, wFld, fIx, wNoPart, wPart, wSl, wNil, wCons, wStar, allP, allP_map, wTup, wLst, wLstC, wiSeq, wiRng1, wiRng2, wFor, wLc, wLcC, wtYes, wiEnum, wiZip, wCB, fLen_s, fLen_t, fLen_l, fLen_c, fMax_ii, fMax_iii, fMax_l, fMin_ii, fMin_t, fMin_l, fMin_c, fSum, fAll, fAny, fList, fListC, fTuple, fInt_i, fInt_b, fInt_s, fStr, sqF, fIsT, wIsT, tyName, kit_nt, kit_bt, kit_it, kit_st, kit_tt, kit_lt, kit_ni, kit_bi, kit_ii, kit_si, kit_ti, kit_li, kit_nb, kit_bb, kit_ib, kit_sb, kit_tb, kit_lb, wCallP0, wCallR0, wCallN0, wCallP, wCallR, wCallRf, wCallN, wMake, wMake0, wMakeC, wRaise, wNever, En.xp, enP, enR, enN, rtP, rtR, rtN, entry, List.map_cons, List.map_nil, List.cons_append, List.nil_append, List.append_nil, List.length_cons, List.length_nil, List.replicate, List.set_cons_zero, List.set_cons_succ, List.getElem?_cons_zero, List.getElem?_cons_succ, List.getElem?_nil, Option.getD_some, Option.getD_none, ite_true, ite_false, Bool.not_true, Bool.not_false, Bool.true_and, Bool.and_true, Bool.and_false, Bool.false_and, Bool.not_eq_true, Bool.false_eq_true, reduceIte, decide_eq_true_eq, atI_zero, atI_one, atI_two, atI_three, atI_four, wipeD, reduceCtorEq, ok_int, ok_non, ok_bl, eqv_int, ix40, ix41, ix42, ix43, Int.toNat_natCast, true_and, and_true, n_open_rounds]
  refine ⟨l, plan, d, rfl, hp, hd, ok, chk_imp ok h fun ms k e1 e2 pin h => ?_⟩
  subst e1 e2
  have h := h ms k rfl rfl
  have e : Lp.pd q l = .ins q.Loop l.fs := rfl
  simp only [w_open_rounds_2, wNext, wSeq, wBreak, wCont, wDrop, wRet, wSet, wPar, wIfS, wgName, wgNil, wgCons, wgTup, tupOf, wgSub, wAsg, putC, wAug, fAddI, fIxL, wAugS, wApp, wExt, putD, wFldS, wVar, dAt, wC, wBin, wUn, fSub_ii, fDiv_ii, fMod_ii, fPow_ii, fLt_ii, fLe_ii, fGt_ii, fGe_ii, fNeg_i, fAdd_ii, fAdd_tt, fAdd_ss, fAdd_ll, fAdd_c, fAdd_lc, fMul_ii, fMul_ti, fMul_li, fMul_ci, fMulC, lsOf, sqOf, wTest, wChain, wTAnd, wTOr, wTNot, wAndV, wOrV, wNotV, wIf, plOf, fEq, fNe, fIn, fIsN, fNotN, isNon, fFld, wFld, fIx, wNoPart, wPart, wSl, wNil, wCons, wStar, allP, allP_map, wTup, wLst, wLstC, wiSeq, wiRng1, wiRng2, wFor, wLc, wLcC, wtYes, wiEnum, wiZip, wCB, fLen_s, fLen_t, fLen_l, fLen_c, fMax_ii, fMax_iii, fMax_l, fMin_ii, fMin_t, fMin_l, fMin_c, fSum, fAll, fAny, fList, fListC, fTuple, fInt_i, fInt_b, fInt_s, fStr, sqF, fIsT, wIsT, tyName, kit_nt, kit_bt, kit_it, kit_st, kit_tt, kit_lt, kit_ni, kit_bi, kit_ii, kit_si, kit_ti, kit_li, kit_nb, kit_bb, kit_ib, kit_sb, kit_tb, kit_lb, wCallP0, wCallR0, wCallN0, wCallP, wCallR, wCallRf, wCallN, wMake, wMake0, wMakeC, wRaise, wNever, En.xp, enP, enR, enN, rtP, rtR, rtN, entry, List.map_cons, List.map_nil, List.cons_append, List.nil_append, List.append_nil, List.length_cons, List.length_nil, List.replicate, List.set_cons_zero, List.set_cons_succ, List.getElem?_cons_zero, List.getElem?_cons_succ, List.getElem?_nil, Option.getD_some, Option.getD_none, ite_true, ite_false, Bool.not_true, Bool.not_false, Bool.true_and, Bool.and_true, Bool.and_false, Bool.false_and, Bool.not_eq_true, Bool.false_eq_true, reduceIte, decide_eq_true_eq, atI_zero, atI_one, atI_two, atI_three, atI_four, wipeD, reduceCtorEq, ok_int, ok_non, ok_bl, eqv_int, ix40, ix41, ix42, ix43, Int.toNat_natCast, true_and, and_true, e, lk_rows, Lp.rP, intsP]
  have hne : (ms.zip l.rows) ≠ [] := by
    intro z
    have h1 := congrArg List.length z
    rw [List.length_zip, List.length_nil] at h1
    have := pin.len
    have := ok.s1
    omega
  refine lc_map fZip (by rw [zipP_len, List.length_map, List.length_map]; have := ok.s5; unfold big; omega) trivial (fun i x J hx hJ => ?_) ?_
  · obtain ⟨m, r, rfl⟩ := zip_inv hx
    simp only [wNext, wSeq, wBreak, wCont, wDrop, wRet, wSet, wPar, wIfS, wgName, wgNil, wgCons, wgTup, tupOf, wgSub, wAsg, putC, wAug, fAddI, fIxL, wAugS, wApp, wExt, putD, wFldS, wVar, dAt, wC, wBin, wUn, fSub_ii, fDiv_ii, fMod_ii, fPow_ii, fLt_ii, fLe_ii, fGt_ii, fGe_ii, fNeg_i, fAdd_ii, fAdd_tt, fAdd_ss, fAdd_ll, fAdd_c, fAdd_lc, fMul_ii, fMul_ti, fMul_li, fMul_ci, fMulC, lsOf, sqOf, wTest, wChain, wTAnd, wTOr, wTNot, wAndV, wOrV, wNotV, wIf, plOf, fEq, fNe, fIn, fIsN, fNotN, isNon, fFld, wFld, fIx, wNoPart, wPart, wSl, wNil, wCons, wStar, allP, allP_map, wTup, wLst, wLstC, wiSeq, wiRng1, wiRng2, wFor, wLc, wLcC, wtYes, wiEnum, wiZip, wCB, fLen_s, fLen_t, fLen_l, fLen_c, fMax_ii, fMax_iii, fMax_l, fMin_ii, fMin_t, fMin_l, fMin_c, fSum, fAll, fAny, fList, fListC, fTuple, fInt_i, fInt_b, fInt_s, fStr, sqF, fIsT, wIsT, tyName, kit_nt, kit_bt, kit_it, kit_st, kit_tt, kit_lt, kit_ni, kit_bi, kit_ii, kit_si, kit_ti, kit_li, kit_nb, kit_bb, kit_ib, kit_sb, kit_tb, kit_lb, wCallP0, wCallR0, wCallN0, wCallP, wCallR, wCallRf, wCallN, wMake, wMake0, wMakeC, wRaise, wNever, En.xp, enP, enR, enN, rtP, rtR, rtN, entry, List.map_cons, List.map_nil, List.cons_append, List.nil_append, List.append_nil, List.length_cons, List.length_nil, List.replicate, List.set_cons_zero, List.set_cons_succ, List.getElem?_cons_zero, List.getElem?_cons_succ, List.getElem?_nil, Option.getD_some, Option.getD_none, ite_true, ite_false, Bool.not_true, Bool.not_false, Bool.true_and, Bool.and_true, Bool.and_false, Bool.false_and, Bool.not_eq_true, Bool.false_eq_true, reduceIte, decide_eq_true_eq, atI_zero, atI_one, atI_two, atI_three, atI_four, wipeD, reduceCtorEq, ok_int, ok_non, ok_bl, eqv_int, ix40, ix41, ix42, ix43, Int.toNat_natCast, true_and, and_true, rowP]
    exact hJ
  · rw [zip_map]
    have hk := pin.k1
    have hk2 := pin.k20
    simp only [wNext, wSeq, wBreak, wCont, wDrop, wRet, wSet, wPar, wIfS, wgName, wgNil, wgCons, wgTup, tupOf, wgSub, wAsg, putC, wAug, fAddI, fIxL, wAugS, wApp, wExt, putD, wFldS, wVar, dAt, wC, wBin, wUn, fSub_ii, fDiv_ii, fMod_ii, fPow_ii, fLt_ii, fLe_ii, fGt_ii, fGe_ii, fNeg_i, fAdd_ii, fAdd_tt, fAdd_ss, fAdd_ll, fAdd_c, fAdd_lc, fMul_ii, fMul_ti, fMul_li, fMul_ci, fMulC, lsOf, sqOf, wTest, wChain, wTAnd, wTOr, wTNot, wAndV, wOrV, wNotV, wIf, plOf, fEq, fNe, fIn, fIsN, fNotN, isNon, fFld, wFld, fIx, wNoPart, wPart, wSl, wNil, wCons, wStar, allP, allP_map, wTup, wLst, wLstC, wiSeq, wiRng1, wiRng2, wFor, wLc, wLcC, wtYes, wiEnum, wiZip, wCB, fLen_s, fLen_t, fLen_l, fLen_c, fMax_ii, fMax_iii, fMax_l, fMin_ii, fMin_t, fMin_l, fMin_c, fSum, fAll, fAny, fList, fListC, fTuple, fInt_i, fInt_b, fInt_s, fStr, sqF, fIsT, wIsT, tyName, kit_nt, kit_bt, kit_it, kit_st, kit_tt, kit_lt, kit_ni, kit_bi, kit_ii, kit_si, kit_ti, kit_li, kit_nb, kit_bb, kit_ib, kit_sb, kit_tb, kit_lb, wCallP0, wCallR0, wCallN0, wCallP, wCallR, wCallRf, wCallN, wMake, wMake0, wMakeC, wRaise, wNever, En.xp, enP, enR, enN, rtP, rtR, rtN, entry, List.map_cons, List.map_nil, List.cons_append, List.nil_append, List.append_nil, List.length_cons, List.length_nil, List.replicate, List.set_cons_zero, List.set_cons_succ, List.getElem?_cons_zero, List.getElem?_cons_succ, List.getElem?_nil, Option.getD_some, Option.getD_none, ite_true, ite_false, Bool.not_true, Bool.not_false, Bool.true_and, Bool.and_true, Bool.and_false, Bool.false_and, Bool.not_eq_true, Bool.false_eq_true, reduceIte, decide_eq_true_eq, atI_zero, atI_one, atI_two, atI_three, atI_four, wipeD, reduceCtorEq, ok_int, ok_non, ok_bl, eqv_int, ix40, ix41, ix42, ix43, Int.toNat_natCast, true_and, and_true, intsOf_lst, w_open_rounds_1, intsOf_tup]
    refine ⟨by simpa using hne, ?_, ⟨by omega, by omega⟩, h⟩
    intro z
    have := pin.len
    have := ok.s1
    rw [z, List.length_nil] at *
    omega
/-! ### held_of -/
theorem atAll_len (k : Int) (f : Int → Int) : (atAll k f).length = k.toNat := by simp [atAll]
theorem atAll_get {k : Int} (f : Int → Int) {j : Int} (h0 : 0 ≤ j) (h1 : j < k) : (atAll k f)[j.toNat]? = some (f j) := by
  unfold atAll
  rw [List.getElem?_map, List.getElem?_range (by omega)]
  have : ((j.toNat : Nat) : Int) = j := by omega
  simp [this]
theorem atAll_at {k : Int} (f : Int → Int) {j : Int} (h0 : 0 ≤ j) (h1 : j < k) : L2.atI ((atAll k f).map PD.int) j = some (.int (f j)) := by
  have e : j = ((j.toNat : Nat) : Int) := by omega
  conv => lhs; rw [e, atI_nat]
  rw [List.getElem?_map, atAll_get f h0 h1]
  rfl
theorem ixN_nn {n : Nat} {j : Int} (h0 : 0 ≤ j) (h1 : j < n) : L2.ixN n j = some j.toNat := by
  unfold L2.ixN
  rw [if_pos h0, if_pos h1]
theorem atAll_set {k : Int} (f : Int → Int) {j : Int} (v : Int) (h0 : 0 ≤ j) (h1 : j < k) : ((atAll k f).map PD.int).set j.toNat (.int v) = (atAll k fun p => if p = j then v else f p).map PD.int := by
  refine List.ext_getElem? fun i => ?_
  rw [List.getElem?_set]
  unfold atAll
  simp only [List.length_map, List.length_range, List.getElem?_map]
  by_cases hi : i < k.toNat
  · rw [List.getElem?_range hi]
    by_cases e : j.toNat = i
    · subst e
      have : ((j.toNat : Nat) : Int) = j := by omega
      simp [this]
      omega
    · have : ¬ ((i : Nat) : Int) = j := by omega
      simp [e, this]
  · have e : (List.range k.toNat)[i]? = none := List.getElem?_eq_none (by simp; omega)
    rw [e]
    by_cases e2 : j.toNat = i
    · omega
    · simp [e2]
theorem cnt_zero (k p a : Int) : cnt k p a a = 0 := by simp [cnt]
theorem cnt_succ (k p a : Int) (i : Nat) : cnt k p a (a + ((i + 1 : Nat) : Int)) = cnt k p a (a + (i : Nat)) + (if (a + (i : Nat)) % k = p then 1 else 0) := by
  unfold cnt
  have e1 : (a + ((i + 1 : Nat) : Int) - a).toNat = i + 1 := by omega
  have e2 : (a + ((i : Nat) : Int) - a).toNat = i := by omega
  rw [e1, e2, List.range_succ, List.filter_append, List.length_append]
  by_cases h : (a + (i : Nat)) % k = p
  · simp [h]
  · simp [h]
def fEnd (ms : List Int) (k : Int) (s : Int) (x : PD) : Option PD := match x with | .tup [.int a, .int o, _, .int r] => if a = s then some (.int (ag ms o + k * r)) else none | _ => none
theorem end_map (ms : List Int) (k : Int) (s : Nat) : ∀ bars : List (Int × Int × Int × Int), (bars.map barP).filterMap (fEnd ms k s) = ((bars.filter fun b => decide (b.1 = (s : Int))).map fun b => ag ms b.2.1 + k * b.2.2.2).map PD.int
  | [] => rfl
  | b :: r => by
    rw [List.map_cons, List.filterMap_cons, end_map ms k s r]
    by_cases h : b.1 = (s : Int)
    · simp [fEnd, barP, h]
    · simp [fEnd, barP, h]
theorem ag_at {ms : List Int} {i : Int} (h0 : 0 ≤ i) (h1 : i < ms.length) : L2.atI (ms.map PD.int) i = some (.int (ag ms i)) := by
  obtain ⟨x, e1, e2⟩ := atI_some (xs := ms) h0 h1
  have e : i = ((i.toNat : Nat) : Int) := by omega
  have e3 : L2.atI (ms.map PD.int) i = (ms.map PD.int)[i.toNat]? := by
    conv => lhs; rw [e, atI_nat]
  rw [e3, List.getElem?_map, e1]
  have : ag ms i = x := by
    unfold ag
    rw [List.getD_eq_getElem?_getD, e1]
    rfl
  rw [this]
  rfl
theorem ag_get {ms : List Int} {i : Nat} {m : Int} (h : ms[i]? = some m) : ag ms (i : Nat) = m := by
  unfold ag
  rw [Int.toNat_natCast, List.getD_eq_getElem?_getD, h]
  rfl
theorem ag_mem {ms : List Int} {i : Int} (h0 : 0 ≤ i) (h1 : i < ms.length) : ag ms i ∈ ms := by
  obtain ⟨x, e1, e2⟩ := atI_some (xs := ms) h0 h1
  have : ag ms i = x := by
    unfold ag
    rw [List.getD_eq_getElem?_getD, e1]
    rfl
  rw [this]
  exact List.mem_of_getElem? e1
theorem heldTo_succ (l : Lp) (ms : List Int) (k : Int) (n : Nat) (p : Int) : heldTo l ms k (n + 1) p = heldTo l ms k n p + cnt k p (ag ms (n : Nat)) (lastOf l ms k n) := by
  unfold heldTo
  rw [List.range_succ, List.map_append, List.sum_append]
  simp
theorem last_le {l : Lp} {ms : List Int} {k : Int} (pin : PlanIn l ms k) {s : Nat} (hs : s < ms.length) : ag ms (s : Nat) ≤ lastOf l ms k s ∧ lastOf l ms k s ≤ 120 := by
  refine ⟨maxI_ge (by simp), ?_⟩
  have hm := maxI_mem (ns := ag ms (s : Nat) :: endsOf l ms k s) (by simp)
  show maxI _ ≤ 120
  rcases List.mem_cons.mp hm with e | e
  · rw [e]
    have := pin.ms _ (ag_mem (ms := ms) (i := (s : Nat)) (by omega) (by omega))
    omega
  · obtain ⟨b, hb, e⟩ := List.mem_map.mp e
    have hb := (List.mem_filter.mp hb).1
    have hbb := pin.ok.bb b hb
    have h1 := pin.ms _ (ag_mem (ms := ms) (i := b.2.1) hbb.2.2.1 (by rw [pin.len]; exact hbb.2.2.2.1))
    have h2 : k * b.2.2.2 ≤ 20 * 3 := by
      have := pin.k20
      have := pin.k1
      calc k * b.2.2.2 ≤ 20 * b.2.2.2 := Int.mul_le_mul_of_nonneg_right (by omega) (by omega)
        _ ≤ 20 * 3 := by omega
    omega
theorem z_held_of {q : Ad} (args : List PD) (P : PD → Prop) (Xp : RX) (h : r_held_of q args P Xp) : w_held_of q (enP P Xp) (entry n_held_of.length (args.map D.p)) [] := by
  obtain ⟨l, ms, k, rfl, pin, h⟩ := h
  have hk := pin.k1
  have hk2 := pin.k20
  have e : Lp.pd q l = .ins q.Loop l.fs := rfl
  simp only [w_held_of, w_held_of_6, wNext, wSeq, wBreak, wCont, wDrop, wRet, wSet, wPar, wIfS, wgName, wgNil, wgCons, wgTup, tupOf, wgSub, wAsg, putC, wAug, fAddI, fIxL, wAugS, wApp, wExt, putD, wFldS, wVar, dAt, wC, wBin, wUn, fSub_ii, fDiv_ii, fMod_ii, fPow_ii, fLt_ii, fLe_ii, fGt_ii, fGe_ii, fNeg_i, fAdd_ii, fAdd_tt, fAdd_ss, fAdd_ll, fAdd_c, fAdd_lc, fMul_ii, fMul_ti, fMul_li, fMul_ci, fMulC, lsOf, sqOf, wTest, wChain, wTAnd, wTOr, wTNot, wAndV, wOrV, wNotV, wIf, plOf, fEq, fNe, fIn, fIsN, fNotN, isNon, fFld, wFld, fIx, wNoPart, wPart, wSl, wNil, wCons, wStar, allP, allP_map, wTup, wLst, wLstC, wiSeq, wiRng1, wiRng2, wFor, wLc, wLcC, wtYes, wiEnum, wiZip, wCB, fLen_s, fLen_t, fLen_l, fLen_c, fMax_ii, fMax_iii, fMax_l, fMin_ii, fMin_t, fMin_l, fMin_c, fSum, fAll, fAny, fList, fListC, fTuple, fInt_i, fInt_b, fInt_s, fStr, sqF, fIsT, wIsT, tyName, kit_nt, kit_bt, kit_it, kit_st, kit_tt, kit_lt, kit_ni, kit_bi, kit_ii, kit_si, kit_ti, kit_li, kit_nb, kit_bb, kit_ib, kit_sb, kit_tb, kit_lb, wCallP0, wCallR0, wCallN0, wCallP, wCallR, wCallRf, wCallN, wMake, wMake0, wMakeC, wRaise, wNever, En.xp, enP, enR, enN, rtP, rtR, rtN, entry, List.map_cons, List.map_nil, List.cons_append, List.nil_append, List.append_nil, List.length_cons, List.length_nil, List.replicate, List.set_cons_zero, List.set_cons_succ, List.getElem?_cons_zero, List.getElem?_cons_succ, List.getElem?_nil, Option.getD_some, Option.getD_none, ite_true, ite_false, Bool.not_true, Bool.not_false, Bool.true_and, Bool.and_true, Bool.and_false, Bool.false_and, Bool.not_eq_true, Bool.false_eq_true, reduceIte, decide_eq_true_eq, atI_zero, atI_one, atI_two, atI_three, atI_four, wipeD, reduceCtorEq, ok_int, ok_non, ok_bl, eqv_int, ix40, ix41, ix42, ix43, Int.toNat_natCast, true_and, and_true, n_held_of]
  refine ⟨by decide, by omega, by omega, by show (0 + 1) * k.toNat ≤ big; unfold big; omega, ?_⟩
  have e0 : repP [.int 0] k = (atAll k (heldTo l ms k 0)).map PD.int := by
    unfold repP atAll heldTo
    simp
    refine List.ext_getElem? fun i => ?_
    rw [List.getElem?_replicate]
    by_cases hi : i < k.toNat
    · simp [hi]
    · have : (List.range k.toNat)[i]? = none := List.getElem?_eq_none (by simp; omega)
      simp [hi, this]
  simp only [w_held_of_5, wNext, wSeq, wBreak, wCont, wDrop, wRet, wSet, wPar, wIfS, wgName, wgNil, wgCons, wgTup, tupOf, wgSub, wAsg, putC, wAug, fAddI, fIxL, wAugS, wApp, wExt, putD, wFldS, wVar, dAt, wC, wBin, wUn, fSub_ii, fDiv_ii, fMod_ii, fPow_ii, fLt_ii, fLe_ii, fGt_ii, fGe_ii, fNeg_i, fAdd_ii, fAdd_tt, fAdd_ss, fAdd_ll, fAdd_c, fAdd_lc, fMul_ii, fMul_ti, fMul_li, fMul_ci, fMulC, lsOf, sqOf, wTest, wChain, wTAnd, wTOr, wTNot, wAndV, wOrV, wNotV, wIf, plOf, fEq, fNe, fIn, fIsN, fNotN, isNon, fFld, wFld, fIx, wNoPart, wPart, wSl, wNil, wCons, wStar, allP, allP_map, wTup, wLst, wLstC, wiSeq, wiRng1, wiRng2, wFor, wLc, wLcC, wtYes, wiEnum, wiZip, wCB, fLen_s, fLen_t, fLen_l, fLen_c, fMax_ii, fMax_iii, fMax_l, fMin_ii, fMin_t, fMin_l, fMin_c, fSum, fAll, fAny, fList, fListC, fTuple, fInt_i, fInt_b, fInt_s, fStr, sqF, fIsT, wIsT, tyName, kit_nt, kit_bt, kit_it, kit_st, kit_tt, kit_lt, kit_ni, kit_bi, kit_ii, kit_si, kit_ti, kit_li, kit_nb, kit_bb, kit_ib, kit_sb, kit_tb, kit_lb, wCallP0, wCallR0, wCallN0, wCallP, wCallR, wCallRf, wCallN, wMake, wMake0, wMakeC, wRaise, wNever, En.xp, enP, enR, enN, rtP, rtR, rtN, entry, List.map_cons, List.map_nil, List.cons_append, List.nil_append, List.append_nil, List.length_cons, List.length_nil, List.replicate, List.set_cons_zero, List.set_cons_succ, List.getElem?_cons_zero, List.getElem?_cons_succ, List.getElem?_nil, Option.getD_some, Option.getD_none, ite_true, ite_false, Bool.not_true, Bool.not_false, Bool.true_and, Bool.and_true, Bool.and_false, Bool.false_and, Bool.not_eq_true, Bool.false_eq_true, reduceIte, decide_eq_true_eq, atI_zero, atI_one, atI_two, atI_three, atI_four, wipeD, reduceCtorEq, ok_int, ok_non, ok_bl, eqv_int, ix40, ix41, ix42, ix43, Int.toNat_natCast, true_and, and_true, intsP, e0]
  refine ⟨fun i ds m => m = [.lst ((atAll k (heldTo l ms k i)).map PD.int)] ∧ ∃ s4 s5 s6 s7, ds = [some (.p (l.pd q)), some (.p (intsP ms)), some (.p (.int k)), some (.c 0), s4, s5, s6, s7, none, none, none, none],
    ⟨rfl, _, _, _, _, rfl⟩, ?_, ?_, ?_⟩
  · rintro i _ _ ⟨rfl, s4, s5, s6, s7, rfl⟩
    trivial
  · rintro i x _ _ hx ⟨rfl, s4, s5, s6, s7, rfl⟩
    obtain ⟨y, hy, rfl⟩ := enumP_inv hx
    obtain ⟨m, hm, rfl⟩ := map_inv hy
    have hi : i < ms.length := (List.getElem?_eq_some_iff.mp hm).1
    have hag := ag_get hm
    simp only [wNext, wSeq, wBreak, wCont, wDrop, wRet, wSet, wPar, wIfS, wgName, wgNil, wgCons, wgTup, tupOf, wgSub, wAsg, putC, wAug, fAddI, fIxL, wAugS, wApp, wExt, putD, wFldS, wVar, dAt, wC, wBin, wUn, fSub_ii, fDiv_ii, fMod_ii, fPow_ii, fLt_ii, fLe_ii, fGt_ii, fGe_ii, fNeg_i, fAdd_ii, fAdd_tt, fAdd_ss, fAdd_ll, fAdd_c, fAdd_lc, fMul_ii, fMul_ti, fMul_li, fMul_ci, fMulC, lsOf, sqOf, wTest, wChain, wTAnd, wTOr, wTNot, wAndV, wOrV, wNotV, wIf, plOf, fEq, fNe, fIn, fIsN, fNotN, isNon, fFld, wFld, fIx, wNoPart, wPart, wSl, wNil, wCons, wStar, allP, allP_map, wTup, wLst, wLstC, wiSeq, wiRng1, wiRng2, wFor, wLc, wLcC, wtYes, wiEnum, wiZip, wCB, fLen_s, fLen_t, fLen_l, fLen_c, fMax_ii, fMax_iii, fMax_l, fMin_ii, fMin_t, fMin_l, fMin_c, fSum, fAll, fAny, fList, fListC, fTuple, fInt_i, fInt_b, fInt_s, fStr, sqF, fIsT, wIsT, tyName, kit_nt, kit_bt, kit_it, kit_st, kit_tt, kit_lt, kit_ni, kit_bi, kit_ii, kit_si, kit_ti, kit_li, kit_nb, kit_bb, kit_ib, kit_sb, kit_tb, kit_lb, wCallP0, wCallR0, wCallN0, wCallP, wCallR, wCallRf, wCallN, wMake, wMake0, wMakeC, wRaise, wNever, En.xp, enP, enR, enN, rtP, rtR, rtN, entry, List.map_cons, List.map_nil, List.cons_append, List.nil_append, List.append_nil, List.length_cons, List.length_nil, List.replicate, List.set_cons_zero, List.set_cons_succ, List.getElem?_cons_zero, List.getElem?_cons_succ, List.getElem?_nil, Option.getD_some, Option.getD_none, ite_true, ite_false, Bool.not_true, Bool.not_false, Bool.true_and, Bool.and_true, Bool.and_false, Bool.false_and, Bool.not_eq_true, Bool.false_eq_true, reduceIte, decide_eq_true_eq, atI_zero, atI_one, atI_two, atI_three, atI_four, wipeD, reduceCtorEq, ok_int, ok_non, ok_bl, eqv_int, ix40, ix41, ix42, ix43, Int.toNat_natCast, true_and, and_true, w_held_of_3, e, lk_bars, Lp.bP, Nat.zero_add]
    refine lc_fm (fEnd ms k i) (by rw [List.length_map]; have := pin.ok.b10; unfold big; omega) trivial (fun j x J N hx hJ => ?_) ?_
    · obtain ⟨b, hb, rfl⟩ := map_inv hx
      have hbb := pin.ok.bb b (List.mem_of_getElem? hb)
      simp only [wNext, wSeq, wBreak, wCont, wDrop, wRet, wSet, wPar, wIfS, wgName, wgNil, wgCons, wgTup, tupOf, wgSub, wAsg, putC, wAug, fAddI, fIxL, wAugS, wApp, wExt, putD, wFldS, wVar, dAt, wC, wBin, wUn, fSub_ii, fDiv_ii, fMod_ii, fPow_ii, fLt_ii, fLe_ii, fGt_ii, fGe_ii, fNeg_i, fAdd_ii, fAdd_tt, fAdd_ss, fAdd_ll, fAdd_c, fAdd_lc, fMul_ii, fMul_ti, fMul_li, fMul_ci, fMulC, lsOf, sqOf, wTest, wChain, wTAnd, wTOr, wTNot, wAndV, wOrV, wNotV, wIf, plOf, fEq, fNe, fIn, fIsN, fNotN, isNon, fFld, wFld, fIx, wNoPart, wPart, wSl, wNil, wCons, wStar, allP, allP_map, wTup, wLst, wLstC, wiSeq, wiRng1, wiRng2, wFor, wLc, wLcC, wtYes, wiEnum, wiZip, wCB, fLen_s, fLen_t, fLen_l, fLen_c, fMax_ii, fMax_iii, fMax_l, fMin_ii, fMin_t, fMin_l, fMin_c, fSum, fAll, fAny, fList, fListC, fTuple, fInt_i, fInt_b, fInt_s, fStr, sqF, fIsT, wIsT, tyName, kit_nt, kit_bt, kit_it, kit_st, kit_tt, kit_lt, kit_ni, kit_bi, kit_ii, kit_si, kit_ti, kit_li, kit_nb, kit_bb, kit_ib, kit_sb, kit_tb, kit_lb, wCallP0, wCallR0, wCallN0, wCallP, wCallR, wCallRf, wCallN, wMake, wMake0, wMakeC, wRaise, wNever, En.xp, enP, enR, enN, rtP, rtR, rtN, entry, List.map_cons, List.map_nil, List.cons_append, List.nil_append, List.append_nil, List.length_cons, List.length_nil, List.replicate, List.set_cons_zero, List.set_cons_succ, List.getElem?_cons_zero, List.getElem?_cons_succ, List.getElem?_nil, Option.getD_some, Option.getD_none, ite_true, ite_false, Bool.not_true, Bool.not_false, Bool.true_and, Bool.and_true, Bool.and_false, Bool.false_and, Bool.not_eq_true, Bool.false_eq_true, reduceIte, decide_eq_true_eq, atI_zero, atI_one, atI_two, atI_three, atI_four, wipeD, reduceCtorEq, ok_int, ok_non, ok_bl, eqv_int, ix40, ix41, ix42, ix43, Int.toNat_natCast, true_and, and_true, barP, intsP]
      by_cases hs : b.1 = (i : Int)
      · simp only [fEnd, barP, hs, if_true] at hJ
        simp only [hs, decide_true, wNext, wSeq, wBreak, wCont, wDrop, wRet, wSet, wPar, wIfS, wgName, wgNil, wgCons, wgTup, tupOf, wgSub, wAsg, putC, wAug, fAddI, fIxL, wAugS, wApp, wExt, putD, wFldS, wVar, dAt, wC, wBin, wUn, fSub_ii, fDiv_ii, fMod_ii, fPow_ii, fLt_ii, fLe_ii, fGt_ii, fGe_ii, fNeg_i, fAdd_ii, fAdd_tt, fAdd_ss, fAdd_ll, fAdd_c, fAdd_lc, fMul_ii, fMul_ti, fMul_li, fMul_ci, fMulC, lsOf, sqOf, wTest, wChain, wTAnd, wTOr, wTNot, wAndV, wOrV, wNotV, wIf, plOf, fEq, fNe, fIn, fIsN, fNotN, isNon, fFld, wFld, fIx, wNoPart, wPart, wSl, wNil, wCons, wStar, allP, allP_map, wTup, wLst, wLstC, wiSeq, wiRng1, wiRng2, wFor, wLc, wLcC, wtYes, wiEnum, wiZip, wCB, fLen_s, fLen_t, fLen_l, fLen_c, fMax_ii, fMax_iii, fMax_l, fMin_ii, fMin_t, fMin_l, fMin_c, fSum, fAll, fAny, fList, fListC, fTuple, fInt_i, fInt_b, fInt_s, fStr, sqF, fIsT, wIsT, tyName, kit_nt, kit_bt, kit_it, kit_st, kit_tt, kit_lt, kit_ni, kit_bi, kit_ii, kit_si, kit_ti, kit_li, kit_nb, kit_bb, kit_ib, kit_sb, kit_tb, kit_lb, wCallP0, wCallR0, wCallN0, wCallP, wCallR, wCallRf, wCallN, wMake, wMake0, wMakeC, wRaise, wNever, En.xp, enP, enR, enN, rtP, rtR, rtN, entry, List.map_cons, List.map_nil, List.cons_append, List.nil_append, List.append_nil, List.length_cons, List.length_nil, List.replicate, List.set_cons_zero, List.set_cons_succ, List.getElem?_cons_zero, List.getElem?_cons_succ, List.getElem?_nil, Option.getD_some, Option.getD_none, ite_true, ite_false, Bool.not_true, Bool.not_false, Bool.true_and, Bool.and_true, Bool.and_false, Bool.false_and, Bool.not_eq_true, Bool.false_eq_true, reduceIte, decide_eq_true_eq, atI_zero, atI_one, atI_two, atI_three, atI_four, wipeD, reduceCtorEq, ok_int, ok_non, ok_bl, eqv_int, ix40, ix41, ix42, ix43, Int.toNat_natCast, true_and, and_true, ag_at hbb.2.2.1 (by rw [pin.len]; exact hbb.2.2.2.1)]
        exact ⟨.inl ⟨by omega, by omega⟩, hJ⟩
      · simp only [fEnd, barP, hs, if_false] at hJ
        simp only [hs, decide_false, wNext, wSeq, wBreak, wCont, wDrop, wRet, wSet, wPar, wIfS, wgName, wgNil, wgCons, wgTup, tupOf, wgSub, wAsg, putC, wAug, fAddI, fIxL, wAugS, wApp, wExt, putD, wFldS, wVar, dAt, wC, wBin, wUn, fSub_ii, fDiv_ii, fMod_ii, fPow_ii, fLt_ii, fLe_ii, fGt_ii, fGe_ii, fNeg_i, fAdd_ii, fAdd_tt, fAdd_ss, fAdd_ll, fAdd_c, fAdd_lc, fMul_ii, fMul_ti, fMul_li, fMul_ci, fMulC, lsOf, sqOf, wTest, wChain, wTAnd, wTOr, wTNot, wAndV, wOrV, wNotV, wIf, plOf, fEq, fNe, fIn, fIsN, fNotN, isNon, fFld, wFld, fIx, wNoPart, wPart, wSl, wNil, wCons, wStar, allP, allP_map, wTup, wLst, wLstC, wiSeq, wiRng1, wiRng2, wFor, wLc, wLcC, wtYes, wiEnum, wiZip, wCB, fLen_s, fLen_t, fLen_l, fLen_c, fMax_ii, fMax_iii, fMax_l, fMin_ii, fMin_t, fMin_l, fMin_c, fSum, fAll, fAny, fList, fListC, fTuple, fInt_i, fInt_b, fInt_s, fStr, sqF, fIsT, wIsT, tyName, kit_nt, kit_bt, kit_it, kit_st, kit_tt, kit_lt, kit_ni, kit_bi, kit_ii, kit_si, kit_ti, kit_li, kit_nb, kit_bb, kit_ib, kit_sb, kit_tb, kit_lb, wCallP0, wCallR0, wCallN0, wCallP, wCallR, wCallRf, wCallN, wMake, wMake0, wMakeC, wRaise, wNever, En.xp, enP, enR, enN, rtP, rtR, rtN, entry, List.map_cons, List.map_nil, List.cons_append, List.nil_append, List.append_nil, List.length_cons, List.length_nil, List.replicate, List.set_cons_zero, List.set_cons_succ, List.getElem?_cons_zero, List.getElem?_cons_succ, List.getElem?_nil, Option.getD_some, Option.getD_none, ite_true, ite_false, Bool.not_true, Bool.not_false, Bool.true_and, Bool.and_true, Bool.and_false, Bool.false_and, Bool.not_eq_true, Bool.false_eq_true, reduceIte, decide_eq_true_eq, atI_zero, atI_one, atI_two, atI_three, atI_four, wipeD, reduceCtorEq, ok_int, ok_non, ok_bl, eqv_int, ix40, ix41, ix42, ix43, Int.toNat_natCast, true_and, and_true]
        exact hJ
    · rw [end_map]
      have hends : ((l.bars.filter fun b => decide (b.1 = (i : Int))).map fun b => ag ms b.2.1 + k * b.2.2.2) = endsOf l ms k i := rfl
      rw [hends]
      have hall : allP (D.p (PD.int m) :: (List.map D.p (List.map PD.int (endsOf l ms k i)))) = some ((m :: endsOf l ms k i).map PD.int) := by
        show (match allP (List.map D.p (List.map PD.int (endsOf l ms k i))) with | some xs => some (PD.int m :: xs) | none => none) = _
        rw [allP_map]
        rfl
      have hlen : ((m :: endsOf l ms k i).map PD.int).length ≤ big := by
        have h1 : (endsOf l ms k i).length ≤ l.bars.length := by
          unfold endsOf
          rw [List.length_map]
          exact List.length_filter_le _ _
        have := pin.ok.b10
        rw [List.length_map, List.length_cons]
        unfold big
        omega
      have hmax : maxI (m :: endsOf l ms k i) = lastOf l ms k i := by rw [← hag]; rfl
      have hll := last_le pin hi
      rw [hag] at hll
      have hmb := pin.ms m (List.mem_of_getElem? hm)
      simp only [wNext, wSeq, wBreak, wCont, wDrop, wRet, wSet, wPar, wIfS, wgName, wgNil, wgCons, wgTup, tupOf, wgSub, wAsg, putC, wAug, fAddI, fIxL, wAugS, wApp, wExt, putD, wFldS, wVar, dAt, wC, wBin, wUn, fSub_ii, fDiv_ii, fMod_ii, fPow_ii, fLt_ii, fLe_ii, fGt_ii, fGe_ii, fNeg_i, fAdd_ii, fAdd_tt, fAdd_ss, fAdd_ll, fAdd_c, fAdd_lc, fMul_ii, fMul_ti, fMul_li, fMul_ci, fMulC, lsOf, sqOf, wTest, wChain, wTAnd, wTOr, wTNot, wAndV, wOrV, wNotV, wIf, plOf, fEq, fNe, fIn, fIsN, fNotN, isNon, fFld, wFld, fIx, wNoPart, wPart, wSl, wNil, wCons, wStar, allP, allP_map, wTup, wLst, wLstC, wiSeq, wiRng1, wiRng2, wFor, wLc, wLcC, wtYes, wiEnum, wiZip, wCB, fLen_s, fLen_t, fLen_l, fLen_c, fMax_ii, fMax_iii, fMax_l, fMin_ii, fMin_t, fMin_l, fMin_c, fSum, fAll, fAny, fList, fListC, fTuple, fInt_i, fInt_b, fInt_s, fStr, sqF, fIsT, wIsT, tyName, kit_nt, kit_bt, kit_it, kit_st, kit_tt, kit_lt, kit_ni, kit_bi, kit_ii, kit_si, kit_ti, kit_li, kit_nb, kit_bb, kit_ib, kit_sb, kit_tb, kit_lb, wCallP0, wCallR0, wCallN0, wCallP, wCallR, wCallRf, wCallN, wMake, wMake0, wMakeC, wRaise, wNever, En.xp, enP, enR, enN, rtP, rtR, rtN, entry, List.map_cons, List.map_nil, List.cons_append, List.nil_append, List.append_nil, List.length_cons, List.length_nil, List.replicate, List.set_cons_zero, List.set_cons_succ, List.getElem?_cons_zero, List.getElem?_cons_succ, List.getElem?_nil, Option.getD_some, Option.getD_none, ite_true, ite_false, Bool.not_true, Bool.not_false, Bool.true_and, Bool.and_true, Bool.and_false, Bool.false_and, Bool.not_eq_true, Bool.false_eq_true, reduceIte, decide_eq_true_eq, atI_zero, atI_one, atI_two, atI_three, atI_four, wipeD, reduceCtorEq, ok_int, ok_non, ok_bl, eqv_int, ix40, ix41, ix42, ix43, Int.toNat_natCast, true_and, and_true, w_held_of_2]
      have hio : ∀ mm, intsOf (.p (.lst (PD.int m :: (endsOf l ms k i).map PD.int))) mm = some (m :: endsOf l ms k i) := fun mm => intsOf_lst (m :: endsOf l ms k i) mm
      simp only [hio, hmax]
      refine ⟨hlen, by simp, okR_small (by omega) (by omega), okR_small (by omega) (by omega), ?_⟩
      refine ⟨fun j ds mm => mm = [.lst ((atAll k fun p => heldTo l ms k i p + cnt k p m (m + (j : Nat))).map PD.int)] ∧ ∃ s7, ds = [some (.p (l.pd q)), some (.p (intsP ms)), some (.p (.int k)), some (.c 0), some (.p (.int i)), some (.p (.int m)), some (.p (.lst ((endsOf l ms k i).map PD.int))), s7, none, none, none, none],
        ⟨?_, _, rfl⟩, fun _ _ _ _ => trivial, ?_, ?_⟩
      · have : (fun p => heldTo l ms k i p + cnt k p m (m + ((0 : Nat) : Int))) = heldTo l ms k i := by
          funext p
          have e6 : m + ((0 : Nat) : Int) = m := by omega
          rw [e6, cnt_zero, Int.add_zero]
        rw [this]
      · rintro j x _ _ hx ⟨rfl, s7, rfl⟩
        obtain ⟨hj, rfl⟩ := rng_inv hx
        have h0 : 0 ≤ (m + (j : Nat)) % k := Int.emod_nonneg _ (by omega)
        have h1 : (m + (j : Nat)) % k < k := Int.emod_lt_of_pos _ (by omega)
        simp only [wNext, wSeq, wBreak, wCont, wDrop, wRet, wSet, wPar, wIfS, wgName, wgNil, wgCons, wgTup, tupOf, wgSub, wAsg, putC, wAug, fAddI, fIxL, wAugS, wApp, wExt, putD, wFldS, wVar, dAt, wC, wBin, wUn, fSub_ii, fDiv_ii, fMod_ii, fPow_ii, fLt_ii, fLe_ii, fGt_ii, fGe_ii, fNeg_i, fAdd_ii, fAdd_tt, fAdd_ss, fAdd_ll, fAdd_c, fAdd_lc, fMul_ii, fMul_ti, fMul_li, fMul_ci, fMulC, lsOf, sqOf, wTest, wChain, wTAnd, wTOr, wTNot, wAndV, wOrV, wNotV, wIf, plOf, fEq, fNe, fIn, fIsN, fNotN, isNon, fFld, wFld, fIx, wNoPart, wPart, wSl, wNil, wCons, wStar, allP, allP_map, wTup, wLst, wLstC, wiSeq, wiRng1, wiRng2, wFor, wLc, wLcC, wtYes, wiEnum, wiZip, wCB, fLen_s, fLen_t, fLen_l, fLen_c, fMax_ii, fMax_iii, fMax_l, fMin_ii, fMin_t, fMin_l, fMin_c, fSum, fAll, fAny, fList, fListC, fTuple, fInt_i, fInt_b, fInt_s, fStr, sqF, fIsT, wIsT, tyName, kit_nt, kit_bt, kit_it, kit_st, kit_tt, kit_lt, kit_ni, kit_bi, kit_ii, kit_si, kit_ti, kit_li, kit_nb, kit_bb, kit_ib, kit_sb, kit_tb, kit_lb, wCallP0, wCallR0, wCallN0, wCallP, wCallR, wCallRf, wCallN, wMake, wMake0, wMakeC, wRaise, wNever, En.xp, enP, enR, enN, rtP, rtR, rtN, entry, List.map_cons, List.map_nil, List.cons_append, List.nil_append, List.append_nil, List.length_cons, List.length_nil, List.replicate, List.set_cons_zero, List.set_cons_succ, List.getElem?_cons_zero, List.getElem?_cons_succ, List.getElem?_nil, Option.getD_some, Option.getD_none, ite_true, ite_false, Bool.not_true, Bool.not_false, Bool.true_and, Bool.and_true, Bool.and_false, Bool.false_and, Bool.not_eq_true, Bool.false_eq_true, reduceIte, decide_eq_true_eq, atI_zero, atI_one, atI_two, atI_three, atI_four, wipeD, reduceCtorEq, ok_int, ok_non, ok_bl, eqv_int, ix40, ix41, ix42, ix43, Int.toNat_natCast, true_and, and_true, w_held_of_1, atAll_at _ h0 h1]
        rw [ixN_nn (n := ((atAll k fun p => heldTo l ms k i p + cnt k p m (m + (j : Nat))).map PD.int).length) h0 (by rw [List.length_map, atAll_len]; omega)]
        simp only [wNext, wSeq, wBreak, wCont, wDrop, wRet, wSet, wPar, wIfS, wgName, wgNil, wgCons, wgTup, tupOf, wgSub, wAsg, putC, wAug, fAddI, fIxL, wAugS, wApp, wExt, putD, wFldS, wVar, dAt, wC, wBin, wUn, fSub_ii, fDiv_ii, fMod_ii, fPow_ii, fLt_ii, fLe_ii, fGt_ii, fGe_ii, fNeg_i, fAdd_ii, fAdd_tt, fAdd_ss, fAdd_ll, fAdd_c, fAdd_lc, fMul_ii, fMul_ti, fMul_li, fMul_ci, fMulC, lsOf, sqOf, wTest, wChain, wTAnd, wTOr, wTNot, wAndV, wOrV, wNotV, wIf, plOf, fEq, fNe, fIn, fIsN, fNotN, isNon, fFld, wFld, fIx, wNoPart, wPart, wSl, wNil, wCons, wStar, allP, allP_map, wTup, wLst, wLstC, wiSeq, wiRng1, wiRng2, wFor, wLc, wLcC, wtYes, wiEnum, wiZip, wCB, fLen_s, fLen_t, fLen_l, fLen_c, fMax_ii, fMax_iii, fMax_l, fMin_ii, fMin_t, fMin_l, fMin_c, fSum, fAll, fAny, fList, fListC, fTuple, fInt_i, fInt_b, fInt_s, fStr, sqF, fIsT, wIsT, tyName, kit_nt, kit_bt, kit_it, kit_st, kit_tt, kit_lt, kit_ni, kit_bi, kit_ii, kit_si, kit_ti, kit_li, kit_nb, kit_bb, kit_ib, kit_sb, kit_tb, kit_lb, wCallP0, wCallR0, wCallN0, wCallP, wCallR, wCallRf, wCallN, wMake, wMake0, wMakeC, wRaise, wNever, En.xp, enP, enR, enN, rtP, rtR, rtN, entry, List.map_cons, List.map_nil, List.cons_append, List.nil_append, List.append_nil, List.length_cons, List.length_nil, List.replicate, List.set_cons_zero, List.set_cons_succ, List.getElem?_cons_zero, List.getElem?_cons_succ, List.getElem?_nil, Option.getD_some, Option.getD_none, ite_true, ite_false, Bool.not_true, Bool.not_false, Bool.true_and, Bool.and_true, Bool.and_false, Bool.false_and, Bool.not_eq_true, Bool.false_eq_true, reduceIte, decide_eq_true_eq, atI_zero, atI_one, atI_two, atI_three, atI_four, wipeD, reduceCtorEq, ok_int, ok_non, ok_bl, eqv_int, ix40, ix41, ix42, ix43, Int.toNat_natCast, true_and, and_true, atAll_set _ _ h0 h1]
        refine ⟨by omega, ?_, _, rfl⟩
        have : (fun p => if p = (m + (j : Nat)) % k then heldTo l ms k i ((m + (j : Nat)) % k) + cnt k ((m + (j : Nat)) % k) m (m + (j : Nat)) + 1 else heldTo l ms k i p + cnt k p m (m + (j : Nat))) = fun p => heldTo l ms k i p + cnt k p m (m + ((j + 1 : Nat) : Int)) := by
          funext p
          rw [cnt_succ]
          by_cases hp : p = (m + (j : Nat)) % k
          · subst hp
            rw [if_pos rfl, if_pos rfl]
            omega
          · rw [if_neg hp, if_neg (Ne.symm hp)]
            omega
        rw [this]
      · rintro _ _ ⟨rfl, s7, rfl⟩
        refine ⟨?_, _, _, _, _, rfl⟩
        have : (fun p => heldTo l ms k i p + cnt k p m (m + ((rng m (lastOf l ms k i - m).toNat).length : Nat))) = heldTo l ms k (i + 1) := by
          funext p
          rw [heldTo_succ, rng_len, hag]
          have e6 : m + (((lastOf l ms k i - m).toNat : Nat) : Int) = lastOf l ms k i := by omega
          rw [e6]
        rw [this]
  · rintro _ _ ⟨rfl, s4, s5, s6, s7, rfl⟩
    simp only [enumP_len, List.length_map, w_held_of_4, wNext, wSeq, wBreak, wCont, wDrop, wRet, wSet, wPar, wIfS, wgName, wgNil, wgCons, wgTup, tupOf, wgSub, wAsg, putC, wAug, fAddI, fIxL, wAugS, wApp, wExt, putD, wFldS, wVar, dAt, wC, wBin, wUn, fSub_ii, fDiv_ii, fMod_ii, fPow_ii, fLt_ii, fLe_ii, fGt_ii, fGe_ii, fNeg_i, fAdd_ii, fAdd_tt, fAdd_ss, fAdd_ll, fAdd_c, fAdd_lc, fMul_ii, fMul_ti, fMul_li, fMul_ci, fMulC, lsOf, sqOf, wTest, wChain, wTAnd, wTOr, wTNot, wAndV, wOrV, wNotV, wIf, plOf, fEq, fNe, fIn, fIsN, fNotN, isNon, fFld, wFld, fIx, wNoPart, wPart, wSl, wNil, wCons, wStar, allP, allP_map, wTup, wLst, wLstC, wiSeq, wiRng1, wiRng2, wFor, wLc, wLcC, wtYes, wiEnum, wiZip, wCB, fLen_s, fLen_t, fLen_l, fLen_c, fMax_ii, fMax_iii, fMax_l, fMin_ii, fMin_t, fMin_l, fMin_c, fSum, fAll, fAny, fList, fListC, fTuple, fInt_i, fInt_b, fInt_s, fStr, sqF, fIsT, wIsT, tyName, kit_nt, kit_bt, kit_it, kit_st, kit_tt, kit_lt, kit_ni, kit_bi, kit_ii, kit_si, kit_ti, kit_li, kit_nb, kit_bb, kit_ib, kit_sb, kit_tb, kit_lb, wCallP0, wCallR0, wCallN0, wCallP, wCallR, wCallRf, wCallN, wMake, wMake0, wMakeC, wRaise, wNever, En.xp, enP, enR, enN, rtP, rtR, rtN, entry, List.map_cons, List.map_nil, List.cons_append, List.nil_append, List.append_nil, List.length_cons, List.length_nil, List.replicate, List.set_cons_zero, List.set_cons_succ, List.getElem?_cons_zero, List.getElem?_cons_succ, List.getElem?_nil, Option.getD_some, Option.getD_none, ite_true, ite_false, Bool.not_true, Bool.not_false, Bool.true_and, Bool.and_true, Bool.and_false, Bool.false_and, Bool.not_eq_true, Bool.false_eq_true, reduceIte, decide_eq_true_eq, atI_zero, atI_one, atI_two, atI_three, atI_four, wipeD, reduceCtorEq, ok_int, ok_non, ok_bl, eqv_int, ix40, ix41, ix42, ix43, Int.toNat_natCast, true_and, and_true]
    rw [pin.len]
    exact h
end DL

set_option Elab.async false
set_option linter.all false
set_option maxRecDepth 100000
set_option maxHeartbeats 4000000
namespace DL
open PySem L2
def r_law (q : Ad) : RP := fun args P _ => ∃ ns : List Int, args = [.fz (ns.map .int)] ∧ P (.bl true)
end DL

set_option Elab.async false
set_option linter.all false
set_option maxRecDepth 100000
set_option maxHeartbeats 4000000
/-! rings and bounds: what the defs are to do -/
namespace DL
open PySem L2
def ringP (r : List Nat) : PD := .tup (r.map fun i : Nat => .int i)
def rle (p q : List Nat) : Bool := decide ((p.map fun i : Nat => (i : Int)) ≤ q.map fun i : Nat => (i : Int))
def ringsN (l : Lp) : List (List Nat) := (dAll l.bars 6).mergeSort rle
def mSum (l : Lp) (r : List Nat) : Int := (r.map (bMom l.bars)).sum
def rSum (l : Lp) (r : List Nat) : Int := (r.map (bRnd l.bars)).sum
def stuckB (l : Lp) : Bool := (ringsN l).any fun r => decide (rSum l r = 0)
def upF (a b : Int) : Int := (a + b - 1) / b
def redF (a b : Int) : Int × Int := (a / (Int.gcd a b : Nat), b / (Int.gcd a b : Nat))
abbrev Slow := Int × Int × Option (List Nat)
def slowStep (l : Lp) (b : Slow) (r : List Nat) : Slow := if mSum l r * b.2.1 > b.1 * rSum l r then ((redF (mSum l r) (rSum l r)).1, (redF (mSum l r) (rSum l r)).2, some r) else b
def slowF (l : Lp) : Slow := (ringsN l).foldl (slowStep l) (0, 1, none)
def optP (r : Option (List Nat)) : PD := match r with | some r => ringP r | none => .non
def slowP (b : Slow) : PD := .tup [.int b.1, .int b.2.1, optP b.2.2]
def busyF (l : Lp) (k : Nat) : Int := ((l.rows.filter fun r => decide (r.1 = (k : Int))).map fun r => r.2).sum
def cntAt (l : Lp) (k : Nat) : Int := l.counts.getD k 1
abbrev Full := Option (Int × Int × Nat)
def fullStep (l : Lp) (b : Full) (k : Nat) : Full := match b with
  | none => some ((redF (busyF l k) (cntAt l k)).1, (redF (busyF l k) (cntAt l k)).2, k)
  | some x => if busyF l k * x.2.1 > x.1 * cntAt l k then some ((redF (busyF l k) (cntAt l k)).1, (redF (busyF l k) (cntAt l k)).2, k) else some x
def fullTo (l : Lp) (n : Nat) : Full := (List.range n).foldl (fullStep l) none
def fullF (l : Lp) : Int × Int × Nat := (fullTo l l.counts.length).getD (0, 1, 0)
def fullP (x : Int × Int × Nat) : PD := .tup [.int x.1, .int x.2.1, .int x.2.2]
def floorN (l : Lp) : Int := max 1 (max (upF (slowF l).1 (slowF l).2.1) (upF (fullF l).1 (fullF l).2.1))
def isIn (l : Lp) (r : List Nat) : Prop := ∀ i ∈ r, i < l.bars.length
/-! the defs -/
def r_ring_rows (q : Ad) (n : Nat) : RP := fun args P _ => match n with
  | 0 => False
  | n + 1 => ∃ (l : Lp) (row : List Nat), args = [l.pd q, .lst (row.map fun i : Nat => .int i)] ∧ l.Ok ∧ row ≠ [] ∧ (∃ a z, chain l.bars a row z) ∧ (row.map (bOth l.bars)).Nodup ∧ l.rows.length ≤ row.length + n ∧ n ≤ 5 ∧ row.length ≤ 10 ∧
      P (.lst ((dfs l.bars (n + 1) row).map ringP))
def r_begun (q : Ad) : RP := fun args P _ => ∃ (l : Lp) (i : Nat), args = [l.pd q, .int i] ∧ l.Ok ∧ i < l.bars.length ∧ P (.lst ((begun l.bars 6 i).map ringP))
def r_rings_of (q : Ad) : RP := fun args P _ => ∃ l : Lp, args = [l.pd q] ∧ l.Ok ∧ P (.lst ((ringsN l).map ringP))
def r_sums_of (q : Ad) : RP := fun args P _ => ∃ (l : Lp) (r : List Nat), args = [l.pd q, ringP r] ∧ l.Ok ∧ isIn l r ∧ r.length ≤ 100 ∧ P (.tup [.int (mSum l r), .int (rSum l r)])
def ringRow (l : Lp) (r : List Nat) : PD := .tup [ringP r, .int (mSum l r), .int (rSum l r)]
def r_rings (q : Ad) : RP := fun args P _ => ∃ l : Lp, args = [l.pd q] ∧ l.Ok ∧ P (.lst ((ringsN l).map (ringRow l)))
def r_check_loop (q : Ad) : RP := fun args P Xp => ∃ l : Lp, args = [l.pd q] ∧ l.Ok ∧ (if stuckB l = true then Xp q.Stuck [] else P .non)
def r_up (q : Ad) : RP := fun args P _ => match args with | [.int a, .int b] => 0 < b ∧ b < 1073741824 ∧ P (.int (upF a b)) | _ => False
def r_reduced (q : Ad) : RP := fun args P _ => match args with | [.int a, .int b] => 0 ≤ a ∧ 0 < b ∧ a < 1073741824 ∧ b < 1073741824 ∧ P (.tup [.int (redF a b).1, .int (redF a b).2]) | _ => False
def r_slowest_of (q : Ad) : RP := fun args P _ => ∃ l : Lp, args = [l.pd q] ∧ l.Ok ∧ stuckB l = false ∧ P (slowP (slowF l))
def r_slowest_ring (q : Ad) : RP := fun args P Xp => ∃ l : Lp, args = [l.pd q] ∧ l.Ok ∧ (if stuckB l = true then Xp q.Stuck [] else P (slowP (slowF l)))
def r_fullest_machine (q : Ad) : RP := fun args P _ => ∃ l : Lp, args = [l.pd q] ∧ l.Ok ∧ P (fullP (fullF l))
def r_floor_of (q : Ad) : RP := fun args P _ => ∃ l : Lp, args = [l.pd q] ∧ l.Ok ∧ stuckB l = false ∧ P (.int (floorN l))
def r_floor (q : Ad) : RP := fun args P Xp => ∃ l : Lp, args = [l.pd q] ∧ l.Ok ∧ (if stuckB l = true then Xp q.Stuck [] else P (.int (floorN l)))
def r__law_rings (q : Ad) : RP := fun args P _ => ∃ l : Lp, args = [l.tp] ∧ l.Ok ∧ P (.lst ((ringsN l).map ringP))
def r__law_sum (q : Ad) : RP := fun args P _ => ∃ (l : Lp) (r : List Nat), args = [l.tp, ringP r] ∧ l.Ok ∧ isIn l r ∧ r.length ≤ 100 ∧ P (.lst [.int (mSum l r), .int (rSum l r)])
def r__law_stuck (q : Ad) : RP := fun args P _ => ∃ l : Lp, args = [l.tp] ∧ l.Ok ∧ P (.bl (stuckB l))
def r__law_floor (q : Ad) : RP := fun args P _ => ∃ l : Lp, args = [l.tp] ∧ l.Ok ∧ stuckB l = false ∧ P (.int (floorN l))
end DL

set_option Elab.async false
set_option linter.all false
set_option maxRecDepth 100000
set_option maxHeartbeats 4000000
namespace DL
open PySem L2
/-! ring_rows -/
def w_ring_rows_1 (q : Ad) (n : Nat) : WS := (wRet (wLst (wCons (wCB fTuple (wCons (wVar 1) wNil)) wNil)))
def w_ring_rows_2 (q : Ad) (n : Nat) : WS := (wDrop (wExt (wVar 6) (wCallP0 (r_ring_rows q n) (wCons (wVar 0) (wCons (wLst (wStar (wVar 1) (wCons (wVar 5) wNil))) wNil)))))
def w_ring_rows_3 (q : Ad) (n : Nat) : WS := (wIfS (wTAnd (wTest (wBin fEq (wVar 7) (wVar 3))) (wTAnd (wTest (wBin (fIn true) (wVar 8) (wVar 4))) (wTest (wBin fGe (wVar 8) (wVar 2))))) (w_ring_rows_2 q n) wNext)
def w_ring_rows_4 (q : Ad) (n : Nat) : WS := (wRet (wVar 6))
def w_ring_rows_5 (q : Ad) (n : Nat) : WS := (wSeq (wFor (wiEnum (wCons (wFld q.Loop "bars" (wVar 0)) wNil)) (wgTup 2 (wgCons (wgName 5) (wgCons (wgTup 4 (wgCons (wgName 7) (wgCons (wgName 8) (wgCons (wgName 9) (wgCons (wgName 10) wgNil))))) wgNil))) (w_ring_rows_3 q n)) (w_ring_rows_4 q n))
def w_ring_rows_6 (q : Ad) (n : Nat) : WS := (wSeq (wSet 6 (wLstC wNil)) (w_ring_rows_5 q n))
def w_ring_rows_7 (q : Ad) (n : Nat) : WS := (wSeq (wSet 4 (wLc [5] (wiSeq (wVar 1)) (wgName 5) wtYes (wBin fIx (wBin fIx (wFld q.Loop "bars" (wVar 0)) (wVar 5)) (wC (.int 1))))) (w_ring_rows_6 q n))
def w_ring_rows_8 (q : Ad) (n : Nat) : WS := (wSeq (wIfS (wTest (wBin fEq (wVar 2) (wVar 3))) (w_ring_rows_1 q n) wNext) (w_ring_rows_7 q n))
def w_ring_rows_9 (q : Ad) (n : Nat) : WS := (wSeq (wPar 2 3 (wCons (wBin fIx (wBin fIx (wFld q.Loop "bars" (wVar 0)) (wBin fIx (wVar 1) (wC (.int 0)))) (wC (.int 0))) (wCons (wBin fIx (wBin fIx (wFld q.Loop "bars" (wVar 0)) (wBin fIx (wVar 1) (wUn fNeg (wC (.int 1))))) (wC (.int 1))) wNil))) (w_ring_rows_8 q n))
def w_ring_rows (q : Ad) (n : Nat) : WS := (w_ring_rows_9 q n)
abbrev n_ring_rows : List Str := ["loop", "row", "first", "last", "gone", "index", "found", "one", "other", "moments", "rounds"]
/-! begun -/
def w_begun_1 (q : Ad) : WS := (wRet (wIf (wTest (wBin fGe (wVar 3) (wVar 2))) (wCallP0 (r_ring_rows q 6) (wCons (wVar 0) (wCons (wLst (wCons (wVar 1) wNil)) wNil))) (wLst wNil)))
def w_begun_2 (q : Ad) : WS := (wSeq (wAsg (wBin fIx (wFld q.Loop "bars" (wVar 0)) (wVar 1)) (wgTup 4 (wgCons (wgName 2) (wgCons (wgName 3) (wgCons (wgName 4) (wgCons (wgName 5) wgNil)))))) (w_begun_1 q))
def w_begun (q : Ad) : WS := (w_begun_2 q)
abbrev n_begun : List Str := ["loop", "index", "one", "other", "moments", "rounds"]
/-! rings_of -/
def w_rings_of_1 (q : Ad) : WS := (wRet (wCB fSorted (wCons (wLc2 [1, 2] [2] (wiRng1 (wCons (wCB fLen (wCons (wFld q.Loop "bars" (wVar 0)) wNil)) wNil)) (wgName 1) wtYes (wiSeq (wCallP0 (r_begun q) (wCons (wVar 0) (wCons (wVar 1) wNil)))) (wgName 2) wtYes (wVar 2)) wNil)))
def w_rings_of (q : Ad) : WS := (w_rings_of_1 q)
abbrev n_rings_of : List Str := ["loop", "index", "ring"]
/-! sums_of -/
def w_sums_of_1 (q : Ad) : WS := (wRet (wTup (wCons (wCB fSum (wCons (wLc [2] (wiSeq (wVar 1)) (wgName 2) wtYes (wBin fIx (wBin fIx (wFld q.Loop "bars" (wVar 0)) (wVar 2)) (wC (.int 2)))) wNil)) (wCons (wCB fSum (wCons (wLc [2] (wiSeq (wVar 1)) (wgName 2) wtYes (wBin fIx (wBin fIx (wFld q.Loop "bars" (wVar 0)) (wVar 2)) (wC (.int 3)))) wNil)) wNil))))
def w_sums_of (q : Ad) : WS := (w_sums_of_1 q)
abbrev n_sums_of : List Str := ["loop", "ring", "index"]
/-! rings -/
def w_rings_1 (q : Ad) : WS := (wRet (wLc [1] (wiSeq (wCallP0 (r_rings_of q) (wCons (wVar 0) wNil))) (wgName 1) wtYes (wTup (wCons (wVar 1) (wStar (wCallP0 (r_sums_of q) (wCons (wVar 0) (wCons (wVar 1) wNil))) wNil)))))
def w_rings (q : Ad) : WS := (w_rings_1 q)
abbrev n_rings : List Str := ["loop", "ring"]
/-! check_loop -/
def w_check_loop_1 (q : Ad) : WS := (wRaise q.Stuck)
def w_check_loop_2 (q : Ad) : WS := (wIfS (wTest (wCB fAny (wCons (wLc [1] (wiSeq (wCallP0 (r_rings_of q) (wCons (wVar 0) wNil))) (wgName 1) wtYes (wBin fEq (wBin fIx (wCallP0 (r_sums_of q) (wCons (wVar 0) (wCons (wVar 1) wNil))) (wC (.int 1))) (wC (.int 0)))) wNil))) (w_check_loop_1 q) wNext)
def w_check_loop (q : Ad) : WS := (w_check_loop_2 q)
abbrev n_check_loop : List Str := ["loop", "ring"]
/-! up -/
def w_up_1 (q : Ad) : WS := (wRet (wBin fDiv (wBin fSub (wBin fAdd (wVar 0) (wVar 1)) (wC (.int 1))) (wVar 1)))
def w_up (q : Ad) : WS := (w_up_1 q)
abbrev n_up : List Str := ["one", "other"]
/-! reduced -/
def w_reduced_1 (q : Ad) : WS := (wPar 2 3 (wCons (wVar 3) (wCons (wBin fMod (wVar 2) (wVar 3)) wNil)))
def w_reduced_2 (q : Ad) : WS := (wRet (wTup (wCons (wBin fDiv (wVar 0) (wVar 2)) (wCons (wBin fDiv (wVar 1) (wVar 2)) wNil))))
def w_reduced_3 (q : Ad) : WS := (wSeq (wWhile (wTest (wBin fGt (wVar 3) (wC (.int 0)))) (w_reduced_1 q)) (w_reduced_2 q))
def w_reduced_4 (q : Ad) : WS := (wSeq (wPar 2 3 (wCons (wVar 0) (wCons (wVar 1) wNil))) (w_reduced_3 q))
def w_reduced (q : Ad) : WS := (w_reduced_4 q)
abbrev n_reduced : List Str := ["one", "other", "first", "second"]
/-! slowest_of -/
def w_slowest_of_1 (q : Ad) : WS := (wSet 1 (wTup (wStar (wCallP0 (r_reduced q) (wCons (wVar 3) (wCons (wVar 4) wNil))) (wCons (wVar 2) wNil))))
def w_slowest_of_2 (q : Ad) : WS := (wIfS (wTest (wBin fGt (wBin fMul (wVar 3) (wBin fIx (wVar 1) (wC (.int 1)))) (wBin fMul (wBin fIx (wVar 1) (wC (.int 0))) (wVar 4)))) (w_slowest_of_1 q) wNext)
def w_slowest_of_3 (q : Ad) : WS := (wSeq (wAsg (wCallP0 (r_sums_of q) (wCons (wVar 0) (wCons (wVar 2) wNil))) (wgTup 2 (wgCons (wgName 3) (wgCons (wgName 4) wgNil)))) (w_slowest_of_2 q))
def w_slowest_of_4 (q : Ad) : WS := (wRet (wVar 1))
def w_slowest_of_5 (q : Ad) : WS := (wSeq (wFor (wiSeq (wCallP0 (r_rings_of q) (wCons (wVar 0) wNil))) (wgName 2) (w_slowest_of_3 q)) (w_slowest_of_4 q))
def w_slowest_of_6 (q : Ad) : WS := (wSeq (wSet 1 (wTup (wCons (wC (.int 0)) (wCons (wC (.int 1)) (wCons (wC .non) wNil))))) (w_slowest_of_5 q))
def w_slowest_of (q : Ad) : WS := (w_slowest_of_6 q)
abbrev n_slowest_of : List Str := ["loop", "best", "ring", "moments", "rounds"]
/-! slowest_ring -/
def w_slowest_ring_1 (q : Ad) : WS := (wRet (wCallP0 (r_slowest_of q) (wCons (wVar 0) wNil)))
def w_slowest_ring_2 (q : Ad) : WS := (wSeq (wDrop (wCallP (r_check_loop q) (wCons (wVar 0) wNil))) (w_slowest_ring_1 q))
def w_slowest_ring (q : Ad) : WS := (w_slowest_ring_2 q)
abbrev n_slowest_ring : List Str := ["loop"]
/-! fullest_machine -/
def w_fullest_machine_1 (q : Ad) : WS := (wSet 1 (wTup (wStar (wCallP0 (r_reduced q) (wCons (wVar 4) (wCons (wVar 3) wNil))) (wCons (wVar 2) wNil))))
def w_fullest_machine_2 (q : Ad) : WS := (wIfS (wTOr (wTest (wBin fIsN (wVar 1) (wC .non))) (wTest (wBin fGt (wBin fMul (wVar 4) (wBin fIx (wVar 1) (wC (.int 1)))) (wBin fMul (wBin fIx (wVar 1) (wC (.int 0))) (wVar 3))))) (w_fullest_machine_1 q) wNext)
def w_fullest_machine_3 (q : Ad) : WS := (wSeq (wSet 4 (wCB fSum (wCons (wLc [5, 6] (wiSeq (wFld q.Loop "rows" (wVar 0))) (wgTup 2 (wgCons (wgName 5) (wgCons (wgName 6) wgNil))) (wTest (wBin fEq (wVar 5) (wVar 2))) (wVar 6)) wNil))) (w_fullest_machine_2 q))
def w_fullest_machine_4 (q : Ad) : WS := (wRet (wVar 1))
def w_fullest_machine_5 (q : Ad) : WS := (wSeq (wFor (wiEnum (wCons (wFld q.Loop "counts" (wVar 0)) wNil)) (wgTup 2 (wgCons (wgName 2) (wgCons (wgName 3) wgNil))) (w_fullest_machine_3 q)) (w_fullest_machine_4 q))
def w_fullest_machine_6 (q : Ad) : WS := (wSeq (wSet 1 (wC .non)) (w_fullest_machine_5 q))
def w_fullest_machine (q : Ad) : WS := (w_fullest_machine_6 q)
abbrev n_fullest_machine : List Str := ["loop", "best", "machine", "count", "busy", "kind", "moments"]
/-! floor_of -/
def w_floor_of_1 (q : Ad) : WS := (wRet (wCB fMaxL (wCons (wC (.int 1)) (wCons (wCallP0 (r_up q) (wCons (wBin fIx (wVar 1) (wC (.int 0))) (wCons (wBin fIx (wVar 1) (wC (.int 1))) wNil))) (wCons (wCallP0 (r_up q) (wCons (wBin fIx (wVar 2) (wC (.int 0))) (wCons (wBin fIx (wVar 2) (wC (.int 1))) wNil))) wNil)))))
def w_floor_of_2 (q : Ad) : WS := (wSeq (wPar 1 2 (wCons (wCallP0 (r_slowest_of q) (wCons (wVar 0) wNil)) (wCons (wCallP0 (r_fullest_machine q) (wCons (wVar 0) wNil)) wNil))) (w_floor_of_1 q))
def w_floor_of (q : Ad) : WS := (w_floor_of_2 q)
abbrev n_floor_of : List Str := ["loop", "ring", "machine"]
/-! floor -/
def w_floor_1 (q : Ad) : WS := (wRet (wCallP0 (r_floor_of q) (wCons (wVar 0) wNil)))
def w_floor_2 (q : Ad) : WS := (wSeq (wDrop (wCallP (r_check_loop q) (wCons (wVar 0) wNil))) (w_floor_1 q))
def w_floor (q : Ad) : WS := (w_floor_2 q)
abbrev n_floor : List Str := ["loop"]
/-! _law_rings -/
def w__law_rings_1 (q : Ad) : WS := (wDrop (wApp (wVar 1) (wVar 6)))
def w__law_rings_2 (q : Ad) : WS := (wDrop (wApp (wVar 5) (wBin fAdd (wVar 6) (wTup (wCons (wVar 3) wNil)))))
def w__law_rings_3 (q : Ad) : WS := (wIfS (wTAnd (wTest (wBin fEq (wBin fIx (wBin fIx (wBin fIx (wVar 0) (wC (.int 2))) (wVar 3)) (wC (.int 0))) (wBin fIx (wBin fIx (wBin fIx (wVar 0) (wC (.int 2))) (wBin fIx (wVar 6) (wUn fNeg (wC (.int 1))))) (wC (.int 1))))) (wTest (wBin (fIn true) (wBin fIx (wBin fIx (wBin fIx (wVar 0) (wC (.int 2))) (wVar 3)) (wC (.int 0))) (wVar 7)))) (w__law_rings_2 q) wNext)
def w__law_rings_4 (q : Ad) : WS := (wFor (wiRng1 (wCons (wCB fLen (wCons (wBin fIx (wVar 0) (wC (.int 2))) wNil)) wNil)) (wgName 3) (w__law_rings_3 q))
def w__law_rings_5 (q : Ad) : WS := (wSeq (wIfS (wTAnd (wTest (wBin fEq (wBin fIx (wBin fIx (wBin fIx (wVar 0) (wC (.int 2))) (wBin fIx (wVar 6) (wUn fNeg (wC (.int 1))))) (wC (.int 1))) (wBin fIx (wVar 7) (wC (.int 0))))) (wTest (wBin fEq (wCB fMin (wCons (wVar 7) wNil)) (wBin fIx (wVar 7) (wC (.int 0)))))) (w__law_rings_1 q) wNext) (w__law_rings_4 q))
def w__law_rings_6 (q : Ad) : WS := (wSeq (wSet 7 (wLc [3] (wiSeq (wVar 6)) (wgName 3) wtYes (wBin fIx (wBin fIx (wBin fIx (wVar 0) (wC (.int 2))) (wVar 3)) (wC (.int 0))))) (w__law_rings_5 q))
def w__law_rings_7 (q : Ad) : WS := (wSet 2 (wVar 5))
def w__law_rings_8 (q : Ad) : WS := (wSeq (wFor (wiSeq (wVar 2)) (wgName 6) (w__law_rings_6 q)) (w__law_rings_7 q))
def w__law_rings_9 (q : Ad) : WS := (wSeq (wSet 5 (wLstC wNil)) (w__law_rings_8 q))
def w__law_rings_10 (q : Ad) : WS := (wRet (wCB fSorted (wCons (wVar 1) wNil)))
def w__law_rings_11 (q : Ad) : WS := (wSeq (wFor (wiRng1 (wCons (wCB fLen (wCons (wBin fIx (wVar 0) (wC (.int 1))) wNil)) wNil)) (wgName 4) (w__law_rings_9 q)) (w__law_rings_10 q))
def w__law_rings_12 (q : Ad) : WS := (wSeq (wPar 1 2 (wCons (wLstC wNil) (wCons (wLc [3] (wiRng1 (wCons (wCB fLen (wCons (wBin fIx (wVar 0) (wC (.int 2))) wNil)) wNil)) (wgName 3) wtYes (wTup (wCons (wVar 3) wNil))) wNil))) (w__law_rings_11 q))
def w__law_rings (q : Ad) : WS := (w__law_rings_12 q)
abbrev n__law_rings : List Str := ["_law_f", "_law_found", "_law_rows", "_law_k", "_law_size", "_law_longer", "_law_ring", "_law_begins"]
/-! _law_sum -/
def w__law_sum_1 (q : Ad) : WS := (wRet (wLst (wCons (wCB fSum (wCons (wLc [2] (wiSeq (wVar 1)) (wgName 2) wtYes (wBin fIx (wBin fIx (wBin fIx (wVar 0) (wC (.int 2))) (wVar 2)) (wC (.int 2)))) wNil)) (wCons (wCB fSum (wCons (wLc [2] (wiSeq (wVar 1)) (wgName 2) wtYes (wBin fIx (wBin fIx (wBin fIx (wVar 0) (wC (.int 2))) (wVar 2)) (wC (.int 3)))) wNil)) wNil))))
def w__law_sum (q : Ad) : WS := (w__law_sum_1 q)
abbrev n__law_sum : List Str := ["_law_f", "_law_ring", "_law_k"]
/-! _law_stuck -/
def w__law_stuck_1 (q : Ad) : WS := (wRet (wBin fNe (wLc [1] (wiSeq (wCallP0 (r__law_rings q) (wCons (wVar 0) wNil))) (wgName 1) (wTest (wBin fEq (wBin fIx (wCallP0 (r__law_sum q) (wCons (wVar 0) (wCons (wVar 1) wNil))) (wC (.int 1))) (wC (.int 0)))) (wVar 1)) (wLst wNil)))
def w__law_stuck (q : Ad) : WS := (w__law_stuck_1 q)
abbrev n__law_stuck : List Str := ["_law_f", "_law_ring"]
/-! _law_floor -/
def w__law_floor_1 (q : Ad) : WS := (wSet 1 (wCB fMaxL (wCons (wVar 1) (wCons (wCallP0 (r__law_up q) (wCons (wVar 3) (wCons (wVar 4) wNil))) wNil))))
def w__law_floor_2 (q : Ad) : WS := (wIfS (wTest (wBin fGt (wVar 4) (wC (.int 0)))) (w__law_floor_1 q) wNext)
def w__law_floor_3 (q : Ad) : WS := (wSeq (wAsg (wCallP0 (r__law_sum q) (wCons (wVar 0) (wCons (wVar 2) wNil))) (wgLst 2 (wgCons (wgName 3) (wgCons (wgName 4) wgNil)))) (w__law_floor_2 q))
def w__law_floor_4 (q : Ad) : WS := (wSet 1 (wCB fMaxL (wCons (wVar 1) (wCons (wCallP0 (r__law_up q) (wCons (wCB fSum (wCons (wLc [6, 7] (wiSeq (wBin fIx (wVar 0) (wC (.int 1)))) (wgTup 2 (wgCons (wgName 6) (wgCons (wgName 7) wgNil))) (wTest (wBin fEq (wVar 6) (wVar 5))) (wVar 7)) wNil)) (wCons (wBin fIx (wBin fIx (wVar 0) (wC (.int 0))) (wVar 5)) wNil))) wNil))))
def w__law_floor_5 (q : Ad) : WS := (wRet (wVar 1))
def w__law_floor_6 (q : Ad) : WS := (wSeq (wFor (wiRng1 (wCons (wCB fLen (wCons (wBin fIx (wVar 0) (wC (.int 0))) wNil)) wNil)) (wgName 5) (w__law_floor_4 q)) (w__law_floor_5 q))
def w__law_floor_7 (q : Ad) : WS := (wSeq (wFor (wiSeq (wCallP0 (r__law_rings q) (wCons (wVar 0) wNil))) (wgName 2) (w__law_floor_3 q)) (w__law_floor_6 q))
def w__law_floor_8 (q : Ad) : WS := (wSeq (wSet 1 (wC (.int 1))) (w__law_floor_7 q))
def w__law_floor (q : Ad) : WS := (w__law_floor_8 q)
abbrev n__law_floor : List Str := ["_law_f", "_law_found", "_law_ring", "_law_moments", "_law_rounds", "_law_kind", "_law_own", "_law_busy"]
end DL

set_option Elab.async false
set_option linter.all false
set_option maxRecDepth 100000
set_option maxHeartbeats 4000000
namespace DL
open PySem L2
/-! ### rings: what the words come to -/
theorem atI_m1 {α : Type} (xs : List α) : L2.atI xs (-1) = xs.getLast? := by
  unfold L2.atI L2.ixN
  rw [if_neg (by omega)]
  by_cases h : xs = []
  · subst h; rfl
  · have hp : 0 < xs.length := List.length_pos_iff.mpr h
    rw [if_pos (by omega)]
    show xs[(-1 + (xs.length : Int)).toNat]? = _
    have : (-1 + (xs.length : Int)).toNat = xs.length - 1 := by omega
    rw [this, List.getLast?_eq_getElem?]
theorem gcd_step {x y : Int} (hx : 0 ≤ x) (hy : 0 ≤ y) : Int.gcd y (x % y) = Int.gcd x y := by
  obtain ⟨a, rfl⟩ := Int.eq_ofNat_of_zero_le hx
  obtain ⟨b, rfl⟩ := Int.eq_ofNat_of_zero_le hy
  show Nat.gcd (b : Int).natAbs ((a : Int) % (b : Int)).natAbs = Nat.gcd (a : Int).natAbs (b : Int).natAbs
  rw [← Int.natCast_emod, Int.natAbs_natCast, Int.natAbs_natCast, Int.natAbs_natCast, Nat.gcd_comm b, ← Nat.gcd_rec, Nat.gcd_comm]
theorem allP_snoc (xs : List PD) (y : PD) : allP (xs.map D.p ++ [.p y]) = some (xs ++ [y]) := by
  have := allP_map (xs ++ [y])
  rwa [List.map_append] at this
theorem allP_cons (xs : List PD) (y : PD) : allP (.p y :: xs.map D.p) = some (y :: xs) := allP_map (y :: xs)
abbrev natP (i : Nat) : PD := .int i
theorem row_head {row : List Nat} (h : row ≠ []) : (row.map natP)[0]? = some (.int (row.getD 0 0 : Nat)) := by
  match row, h with
  | i :: r, _ => rfl
theorem row_last {row : List Nat} (h : row ≠ []) : (row.map natP).getLast? = some (.int (row.getLastD 0 : Nat)) := by
  obtain h0 | ⟨r, i, e⟩ := List.eq_nil_or_concat row
  · exact absurd h0 h
  · rw [List.concat_eq_append] at e
    subst e
    simp
theorem bar_at {bs : List Bar} {i : Nat} (h : i < bs.length) : L2.atI (bs.map barP) (i : Int) = some (.tup [.int (bOne bs i), .int (bOth bs i), .int (bMom bs i), .int (bRnd bs i)]) := by
  rw [atI_nat, List.getElem?_map, List.getElem?_eq_getElem h]
  simp [barP, bOne, bOth, bMom, bRnd, List.getD_eq_getElem?_getD, List.getElem?_eq_getElem h]
theorem bar_get {bs : List Bar} {i : Nat} {b : Bar} (h : bs[i]? = some b) : barP b = .tup [.int (bOne bs i), .int (bOth bs i), .int (bMom bs i), .int (bRnd bs i)] := by
  simp [barP, bOne, bOth, bMom, bRnd, List.getD_eq_getElem?_getD, h]
theorem inP_ints (x : Int) (l : List Int) : inP (.int x) (l.map PD.int) = decide (x ∈ l) := by
  unfold inP
  rw [List.any_map]
  by_cases h : x ∈ l
  · simp only [h, decide_true, List.any_eq_true]
    exact ⟨x, h, by simp [eqv_int]⟩
  · simp only [h, decide_false]
    rw [List.any_eq_false]
    intro y hy e
    simp [eqv_int] at e
    exact h (e ▸ hy)
theorem ok_ints (l : List Int) : (PD.lst (l.map PD.int)).ok 30 = true := by simp [PD.ok, ok_int]
theorem steps_of {l : Lp} (ok : l.Ok) : Steps l.bars l.rows.length := fun b hb => by
  have := ok.bb b hb
  exact ⟨this.1, this.2.1, this.2.2.1, this.2.2.2.1⟩
theorem z_up {q : Ad} (args : List PD) (P : PD → Prop) (Xp : RX) (h : r_up q args P Xp) : w_up q (enP P Xp) (entry n_up.length (args.map D.p)) [] := by
  unfold r_up at h
  split at h
  · simp only [w_up, w_up_1, wNext, wSeq, wBreak, wCont, wDrop, wRet, wSet, wPar, wIfS, wgName, wgNil, wgCons, wgTup, tupOf, wgLst, lstOf, wgSub, wAsg, putC, wAug, fAddI, fIxL, wAugS, wApp, wExt, putD, wFldS, wVar, dAt, wC, wBin, wUn, fSub_ii, fDiv_ii, fMod_ii, fPow_ii, fLt_ii, fLe_ii, fGt_ii, fGe_ii, fNeg_i, fAdd_ii, fAdd_tt, fAdd_ss, fAdd_ll, fAdd_c, fAdd_lc, fMul_ii, fMul_ti, fMul_li, fMul_ci, fMulC, lsOf, sqOf, wTest, wChain, wTAnd, wTOr, wTNot, wAndV, wOrV, wNotV, wIf, plOf, fEq, fNe, fIn, fIsN, fNotN, isNon, fFld, wFld, fIx, wNoPart, wPart, wSl, wNil, wCons, wStar, allP, allP_map, wTup, wLst, wLstC, wiSeq, wiRng1, wiRng2, wFor, wLc, wLcC, wLc2, wtYes, wiEnum, wiZip, wCB, fLen_s, fLen_t, fLen_l, fLen_c, fMax_ii, fMax_iii, fMax_l, fMin_ii, fMin_t, fMin_l, fMin_c, fSum, fAll, fAny, fList, fListC, fTuple, fSorted, fInt_i, fInt_b, fInt_s, fStr, sqF, fIsT, wIsT, tyName, kit_nt, kit_bt, kit_it, kit_st, kit_tt, kit_lt, kit_ni, kit_bi, kit_ii, kit_si, kit_ti, kit_li, kit_nb, kit_bb, kit_ib, kit_sb, kit_tb, kit_lb, wCallP0, wCallR0, wCallN0, wCallP, wCallR, wCallRf, wCallN, wMake, wMake0, wMakeC, wRaise, wNever, En.xp, enP, enR, enN, rtP, rtR, rtN, entry, List.map_cons, List.map_nil, List.cons_append, List.nil_append, List.append_nil, List.length_cons, List.length_nil, List.replicate, List.set_cons_zero, List.set_cons_succ, List.getElem?_cons_zero, List.getElem?_cons_succ, List.getElem?_nil, Option.getD_some, Option.getD_none, ite_true, ite_false, Bool.not_true, Bool.not_false, Bool.true_and, Bool.and_true, Bool.and_false, Bool.false_and, Bool.not_eq_true, Bool.false_eq_true, reduceIte, decide_eq_true_eq, atI_zero, atI_one, atI_two, atI_three, atI_four, atI_m1, wipeD, reduceCtorEq, ok_int, ok_non, ok_bl, eqv_int, ix40, ix41, ix42, ix43, Int.toNat_natCast, true_and, and_true, n_up]
    exact ⟨⟨h.1, h.2.1⟩, h.2.2⟩
  · exact h.elim
theorem z_reduced {q : Ad} (args : List PD) (P : PD → Prop) (Xp : RX) (h : r_reduced q args P Xp) : w_reduced q (enP P Xp) (entry n_reduced.length (args.map D.p)) [] := by
  unfold r_reduced at h
  split at h
  · rename_i a b
    obtain ⟨ha, hb, ha2, hb2, h⟩ := h
    simp only [w_reduced, w_reduced_4, wNext, wSeq, wBreak, wCont, wDrop, wRet, wSet, wPar, wIfS, wgName, wgNil, wgCons, wgTup, tupOf, wgLst, lstOf, wgSub, wAsg, putC, wAug, fAddI, fIxL, wAugS, wApp, wExt, putD, wFldS, wVar, dAt, wC, wBin, wUn, fSub_ii, fDiv_ii, fMod_ii, fPow_ii, fLt_ii, fLe_ii, fGt_ii, fGe_ii, fNeg_i, fAdd_ii, fAdd_tt, fAdd_ss, fAdd_ll, fAdd_c, fAdd_lc, fMul_ii, fMul_ti, fMul_li, fMul_ci, fMulC, lsOf, sqOf, wTest, wChain, wTAnd, wTOr, wTNot, wAndV, wOrV, wNotV, wIf, plOf, fEq, fNe, fIn, fIsN, fNotN, isNon, fFld, wFld, fIx, wNoPart, wPart, wSl, wNil, wCons, wStar, allP, allP_map, wTup, wLst, wLstC, wiSeq, wiRng1, wiRng2, wFor, wLc, wLcC, wLc2, wtYes, wiEnum, wiZip, wCB, fLen_s, fLen_t, fLen_l, fLen_c, fMax_ii, fMax_iii, fMax_l, fMin_ii, fMin_t, fMin_l, fMin_c, fSum, fAll, fAny, fList, fListC, fTuple, fSorted, fInt_i, fInt_b, fInt_s, fStr, sqF, fIsT, wIsT, tyName, kit_nt, kit_bt, kit_it, kit_st, kit_tt, kit_lt, kit_ni, kit_bi, kit_ii, kit_si, kit_ti, kit_li, kit_nb, kit_bb, kit_ib, kit_sb, kit_tb, kit_lb, wCallP0, wCallR0, wCallN0, wCallP, wCallR, wCallRf, wCallN, wMake, wMake0, wMakeC, wRaise, wNever, En.xp, enP, enR, enN, rtP, rtR, rtN, entry, List.map_cons, List.map_nil, List.cons_append, List.nil_append, List.append_nil, List.length_cons, List.length_nil, List.replicate, List.set_cons_zero, List.set_cons_succ, List.getElem?_cons_zero, List.getElem?_cons_succ, List.getElem?_nil, Option.getD_some, Option.getD_none, ite_true, ite_false, Bool.not_true, Bool.not_false, Bool.true_and, Bool.and_true, Bool.and_false, Bool.false_and, Bool.not_eq_true, Bool.false_eq_true, reduceIte, decide_eq_true_eq, atI_zero, atI_one, atI_two, atI_three, atI_four, atI_m1, wipeD, reduceCtorEq, ok_int, ok_non, ok_bl, eqv_int, ix40, ix41, ix42, ix43, Int.toNat_natCast, true_and, and_true, n_reduced, w_reduced_3, wWhile]
    refine ⟨fun n ds m => m = [] ∧ ∃ x y : Int, 0 ≤ x ∧ 0 ≤ y ∧ y.toNat = n ∧ x < 1073741824 ∧ y < 1073741824 ∧ (0 < x ∨ 0 < y) ∧ Int.gcd x y = Int.gcd a b ∧ ds = [some (.p (.int a)), some (.p (.int b)), some (.p (.int x)), some (.p (.int y))],
      ⟨b.toNat, rfl, a, b, ha, by omega, rfl, ha2, hb2, .inr hb, rfl, rfl⟩, ?_⟩
    rintro n _ _ ⟨rfl, x, y, hx, hy, rfl, hx2, hy2, hxy, hg, rfl⟩
    simp only [wNext, wSeq, wBreak, wCont, wDrop, wRet, wSet, wPar, wIfS, wgName, wgNil, wgCons, wgTup, tupOf, wgLst, lstOf, wgSub, wAsg, putC, wAug, fAddI, fIxL, wAugS, wApp, wExt, putD, wFldS, wVar, dAt, wC, wBin, wUn, fSub_ii, fDiv_ii, fMod_ii, fPow_ii, fLt_ii, fLe_ii, fGt_ii, fGe_ii, fNeg_i, fAdd_ii, fAdd_tt, fAdd_ss, fAdd_ll, fAdd_c, fAdd_lc, fMul_ii, fMul_ti, fMul_li, fMul_ci, fMulC, lsOf, sqOf, wTest, wChain, wTAnd, wTOr, wTNot, wAndV, wOrV, wNotV, wIf, plOf, fEq, fNe, fIn, fIsN, fNotN, isNon, fFld, wFld, fIx, wNoPart, wPart, wSl, wNil, wCons, wStar, allP, allP_map, wTup, wLst, wLstC, wiSeq, wiRng1, wiRng2, wFor, wLc, wLcC, wLc2, wtYes, wiEnum, wiZip, wCB, fLen_s, fLen_t, fLen_l, fLen_c, fMax_ii, fMax_iii, fMax_l, fMin_ii, fMin_t, fMin_l, fMin_c, fSum, fAll, fAny, fList, fListC, fTuple, fSorted, fInt_i, fInt_b, fInt_s, fStr, sqF, fIsT, wIsT, tyName, kit_nt, kit_bt, kit_it, kit_st, kit_tt, kit_lt, kit_ni, kit_bi, kit_ii, kit_si, kit_ti, kit_li, kit_nb, kit_bb, kit_ib, kit_sb, kit_tb, kit_lb, wCallP0, wCallR0, wCallN0, wCallP, wCallR, wCallRf, wCallN, wMake, wMake0, wMakeC, wRaise, wNever, En.xp, enP, enR, enN, rtP, rtR, rtN, entry, List.map_cons, List.map_nil, List.cons_append, List.nil_append, List.append_nil, List.length_cons, List.length_nil, List.replicate, List.set_cons_zero, List.set_cons_succ, List.getElem?_cons_zero, List.getElem?_cons_succ, List.getElem?_nil, Option.getD_some, Option.getD_none, ite_true, ite_false, Bool.not_true, Bool.not_false, Bool.true_and, Bool.and_true, Bool.and_false, Bool.false_and, Bool.not_eq_true, Bool.false_eq_true, reduceIte, decide_eq_true_eq, atI_zero, atI_one, atI_two, atI_three, atI_four, atI_m1, wipeD, reduceCtorEq, ok_int, ok_non, ok_bl, eqv_int, ix40, ix41, ix42, ix43, Int.toNat_natCast, true_and, and_true]
    by_cases h0 : 0 < y
    · simp only [h0, decide_true, wNext, wSeq, wBreak, wCont, wDrop, wRet, wSet, wPar, wIfS, wgName, wgNil, wgCons, wgTup, tupOf, wgLst, lstOf, wgSub, wAsg, putC, wAug, fAddI, fIxL, wAugS, wApp, wExt, putD, wFldS, wVar, dAt, wC, wBin, wUn, fSub_ii, fDiv_ii, fMod_ii, fPow_ii, fLt_ii, fLe_ii, fGt_ii, fGe_ii, fNeg_i, fAdd_ii, fAdd_tt, fAdd_ss, fAdd_ll, fAdd_c, fAdd_lc, fMul_ii, fMul_ti, fMul_li, fMul_ci, fMulC, lsOf, sqOf, wTest, wChain, wTAnd, wTOr, wTNot, wAndV, wOrV, wNotV, wIf, plOf, fEq, fNe, fIn, fIsN, fNotN, isNon, fFld, wFld, fIx, wNoPart, wPart, wSl, wNil, wCons, wStar, allP, allP_map, wTup, wLst, wLstC, wiSeq, wiRng1, wiRng2, wFor, wLc, wLcC, wLc2, wtYes, wiEnum, wiZip, wCB, fLen_s, fLen_t, fLen_l, fLen_c, fMax_ii, fMax_iii, fMax_l, fMin_ii, fMin_t, fMin_l, fMin_c, fSum, fAll, fAny, fList, fListC, fTuple, fSorted, fInt_i, fInt_b, fInt_s, fStr, sqF, fIsT, wIsT, tyName, kit_nt, kit_bt, kit_it, kit_st, kit_tt, kit_lt, kit_ni, kit_bi, kit_ii, kit_si, kit_ti, kit_li, kit_nb, kit_bb, kit_ib, kit_sb, kit_tb, kit_lb, wCallP0, wCallR0, wCallN0, wCallP, wCallR, wCallRf, wCallN, wMake, wMake0, wMakeC, wRaise, wNever, En.xp, enP, enR, enN, rtP, rtR, rtN, entry, List.map_cons, List.map_nil, List.cons_append, List.nil_append, List.append_nil, List.length_cons, List.length_nil, List.replicate, List.set_cons_zero, List.set_cons_succ, List.getElem?_cons_zero, List.getElem?_cons_succ, List.getElem?_nil, Option.getD_some, Option.getD_none, ite_true, ite_false, Bool.not_true, Bool.not_false, Bool.true_and, Bool.and_true, Bool.and_false, Bool.false_and, Bool.not_eq_true, Bool.false_eq_true, reduceIte, decide_eq_true_eq, atI_zero, atI_one, atI_two, atI_three, atI_four, atI_m1, wipeD, reduceCtorEq, ok_int, ok_non, ok_bl, eqv_int, ix40, ix41, ix42, ix43, Int.toNat_natCast, true_and, and_true, w_reduced_1]
      refine ⟨(x % y).toNat, ?_, ?_⟩
      · have := Int.emod_lt_of_pos x h0
        have := Int.emod_nonneg x (by omega : y ≠ 0)
        omega
      · have h1 := Int.emod_lt_of_pos x h0
        have h2 := Int.emod_nonneg x (by omega : y ≠ 0)
        refine ⟨y, x % y, hy, h2, rfl, hy2, by omega, .inl h0, ?_, rfl⟩
        rw [← hg]
        exact gcd_step hx hy
    · have hy0 : y = 0 := by omega
      subst hy0
      have hx0 : 0 < x := by omega
      have e : (Int.gcd a b : Int) = x := by
        rw [← hg, Int.gcd_zero]
        omega
      simp only [h0, decide_false, wNext, wSeq, wBreak, wCont, wDrop, wRet, wSet, wPar, wIfS, wgName, wgNil, wgCons, wgTup, tupOf, wgLst, lstOf, wgSub, wAsg, putC, wAug, fAddI, fIxL, wAugS, wApp, wExt, putD, wFldS, wVar, dAt, wC, wBin, wUn, fSub_ii, fDiv_ii, fMod_ii, fPow_ii, fLt_ii, fLe_ii, fGt_ii, fGe_ii, fNeg_i, fAdd_ii, fAdd_tt, fAdd_ss, fAdd_ll, fAdd_c, fAdd_lc, fMul_ii, fMul_ti, fMul_li, fMul_ci, fMulC, lsOf, sqOf, wTest, wChain, wTAnd, wTOr, wTNot, wAndV, wOrV, wNotV, wIf, plOf, fEq, fNe, fIn, fIsN, fNotN, isNon, fFld, wFld, fIx, wNoPart, wPart, wSl, wNil, wCons, wStar, allP, allP_map, wTup, wLst, wLstC, wiSeq, wiRng1, wiRng2, wFor, wLc, wLcC, wLc2, wtYes, wiEnum, wiZip, wCB, fLen_s, fLen_t, fLen_l, fLen_c, fMax_ii, fMax_iii, fMax_l, fMin_ii, fMin_t, fMin_l, fMin_c, fSum, fAll, fAny, fList, fListC, fTuple, fSorted, fInt_i, fInt_b, fInt_s, fStr, sqF, fIsT, wIsT, tyName, kit_nt, kit_bt, kit_it, kit_st, kit_tt, kit_lt, kit_ni, kit_bi, kit_ii, kit_si, kit_ti, kit_li, kit_nb, kit_bb, kit_ib, kit_sb, kit_tb, kit_lb, wCallP0, wCallR0, wCallN0, wCallP, wCallR, wCallRf, wCallN, wMake, wMake0, wMakeC, wRaise, wNever, En.xp, enP, enR, enN, rtP, rtR, rtN, entry, List.map_cons, List.map_nil, List.cons_append, List.nil_append, List.append_nil, List.length_cons, List.length_nil, List.replicate, List.set_cons_zero, List.set_cons_succ, List.getElem?_cons_zero, List.getElem?_cons_succ, List.getElem?_nil, Option.getD_some, Option.getD_none, ite_true, ite_false, Bool.not_true, Bool.not_false, Bool.true_and, Bool.and_true, Bool.and_false, Bool.false_and, Bool.not_eq_true, Bool.false_eq_true, reduceIte, decide_eq_true_eq, atI_zero, atI_one, atI_two, atI_three, atI_four, atI_m1, wipeD, reduceCtorEq, ok_int, ok_non, ok_bl, eqv_int, ix40, ix41, ix42, ix43, Int.toNat_natCast, true_and, and_true, w_reduced_2]
      rw [redF, e] at h
      exact ⟨⟨hx0, hx2⟩, ⟨hx0, hx2⟩, by decide, h⟩
  · exact h.elim
end DL

set_option Elab.async false
set_option linter.all false
set_option maxRecDepth 100000
set_option maxHeartbeats 4000000
namespace DL
open PySem L2
theorem enP_pd (q : Ad) (l : Lp) : Lp.pd q l = .ins q.Loop l.fs := rfl
theorem dfs_len (bs : List Bar) (hb : bs.length ≤ 10) : ∀ (n : Nat) (row : List Nat), (dfs bs (n + 1) row).length ≤ 10 ^ n
  | 0, row => by
    unfold dfs
    split
    · simp
    · have : ∀ L : List Nat, (L.flatMap fun i => if bOne bs i = bOth bs (row.getLastD 0) ∧ bOth bs i ∉ row.map (bOth bs) ∧ bOne bs (row.getD 0 0) ≤ bOth bs i then dfs bs 0 (row ++ [i]) else []) = [] := by
        intro L
        rw [List.flatMap_eq_nil_iff]
        intro i _
        split <;> rfl
      rw [this]
      simp
  | n + 1, row => by
    unfold dfs
    split
    · exact Nat.one_le_pow _ _ (by omega)
    · have : ∀ L : List Nat, (L.flatMap fun i => if bOne bs i = bOth bs (row.getLastD 0) ∧ bOth bs i ∉ row.map (bOth bs) ∧ bOne bs (row.getD 0 0) ≤ bOth bs i then dfs bs (n + 1) (row ++ [i]) else []).length ≤ L.length * 10 ^ n := by
        intro L
        induction L with
        | nil => simp
        | cons i r ih =>
          rw [List.flatMap_cons, List.length_append, List.length_cons, Nat.add_mul, Nat.one_mul]
          have h1 : (if bOne bs i = bOth bs (row.getLastD 0) ∧ bOth bs i ∉ row.map (bOth bs) ∧ bOne bs (row.getD 0 0) ≤ bOth bs i then dfs bs (n + 1) (row ++ [i]) else []).length ≤ 10 ^ n := by
            split
            · exact dfs_len bs hb n _
            · simp
          omega
      refine Nat.le_trans (this _) ?_
      rw [List.length_range, Nat.pow_succ, Nat.mul_comm]
      exact Nat.mul_le_mul_left _ hb
/-- what the walk over the waits has found -/
def dfsTo (bs : List Bar) (n : Nat) (row : List Nat) (k : Nat) : List (List Nat) := (List.range k).flatMap fun i => if bOne bs i = bOth bs (row.getLastD 0) ∧ bOth bs i ∉ row.map (bOth bs) ∧ bOne bs (row.getD 0 0) ≤ bOth bs i then dfs bs n (row ++ [i]) else []
theorem dfsTo_succ (bs : List Bar) (n : Nat) (row : List Nat) (k : Nat) : dfsTo bs n row (k + 1) = dfsTo bs n row k ++ if bOne bs k = bOth bs (row.getLastD 0) ∧ bOth bs k ∉ row.map (bOth bs) ∧ bOne bs (row.getD 0 0) ≤ bOth bs k then dfs bs n (row ++ [k]) else [] := by
  unfold dfsTo
  rw [List.range_succ, List.flatMap_append]
  simp
theorem dfsTo_len (bs : List Bar) (hb : bs.length ≤ 10) (n : Nat) (row : List Nat) : ∀ k, (dfsTo bs (n + 1) row k).length ≤ k * 10 ^ n
  | 0 => by simp [dfsTo]
  | k + 1 => by
    rw [dfsTo_succ, List.length_append, Nat.add_mul, Nat.one_mul]
    have h0 := dfsTo_len bs hb n row k
    have h1 : (if bOne bs k = bOth bs (row.getLastD 0) ∧ bOth bs k ∉ row.map (bOth bs) ∧ bOne bs (row.getD 0 0) ≤ bOth bs k then dfs bs (n + 1) (row ++ [k]) else []).length ≤ 10 ^ n := by
      split
      · exact dfs_len bs hb n _
      · simp
    omega
theorem dfsTo_zero (bs : List Bar) (row : List Nat) (k : Nat) : dfsTo bs 0 row k = [] := by
  unfold dfsTo
  rw [List.flatMap_eq_nil_iff]
  intro i _
  split <;> rfl
theorem dfs_eq (bs : List Bar) (n : Nat) (row : List Nat) (h : ¬ bOne bs (row.getD 0 0) = bOth bs (row.getLastD 0)) : dfs bs (n + 1) row = dfsTo bs n row bs.length := by
  conv => lhs; unfold dfs
  rw [if_neg h]
  rfl
theorem z_ring_rows {q : Ad} (n : Nat) (args : List PD) (P : PD → Prop) (Xp : RX) (h : r_ring_rows q (n + 1) args P Xp) : w_ring_rows q n (enP P Xp) (entry n_ring_rows.length (args.map D.p)) [] := by
  obtain ⟨l, row, rfl, ok, hne, ⟨a, z, hc⟩, hnd, hlen, hn5, hr10, h⟩ := h
  have hh := head_of _ hc hne
  have hl := last_of _ hc hne
  have hm := chain_mem _ hc
  have hst := steps_of ok
  have hb10 := ok.b10
  have h0 : row.getD 0 0 < l.bars.length := hm _ (by match row, hne with | i :: r, _ => simp)
  have h1 : row.getLastD 0 < l.bars.length := by
    obtain h0 | ⟨r, i, e⟩ := List.eq_nil_or_concat row
    · exact absurd h0 hne
    · rw [List.concat_eq_append] at e
      subst e
      simp only [List.getLastD_concat]
      exact hm i (by simp)
  have hstk := fun b => bOne_mem l.bars hst (i := b)
  simp only [w_ring_rows, w_ring_rows_9, wNext, wSeq, wBreak, wCont, wDrop, wRet, wSet, wPar, wIfS, wgName, wgNil, wgCons, wgTup, tupOf, wgLst, lstOf, wgSub, wAsg, putC, wAug, fAddI, fIxL, wAugS, wApp, wExt, putD, wFldS, wVar, dAt, wC, wBin, wUn, fSub_ii, fDiv_ii, fMod_ii, fPow_ii, fLt_ii, fLe_ii, fGt_ii, fGe_ii, fNeg_i, fAdd_ii, fAdd_tt, fAdd_ss, fAdd_ll, fAdd_c, fAdd_lc, fMul_ii, fMul_ti, fMul_li, fMul_ci, fMulC, lsOf, sqOf, wTest, wChain, wTAnd, wTOr, wTNot, wAndV, wOrV, wNotV, wIf, plOf, fEq, fNe, fIn, fIsN, fNotN, isNon, fFld, wFld, fIx, wNoPart, wPart, wSl, wNil, wCons, wStar, allP, allP_map, wTup, wLst, wLstC, wiSeq, wiRng1, wiRng2, wFor, wLc, wLcC, wLc2, wtYes, wiEnum, wiZip, wCB, fLen_s, fLen_t, fLen_l, fLen_c, fMax_ii, fMax_iii, fMax_l, fMin_ii, fMin_t, fMin_l, fMin_c, fSum, fAll, fAny, fList, fListC, fTuple, fSorted, fInt_i, fInt_b, fInt_s, fStr, sqF, fIsT, wIsT, tyName, kit_nt, kit_bt, kit_it, kit_st, kit_tt, kit_lt, kit_ni, kit_bi, kit_ii, kit_si, kit_ti, kit_li, kit_nb, kit_bb, kit_ib, kit_sb, kit_tb, kit_lb, wCallP0, wCallR0, wCallN0, wCallP, wCallR, wCallRf, wCallN, wMake, wMake0, wMakeC, wRaise, wNever, En.xp, enP, enR, enN, rtP, rtR, rtN, entry, List.map_cons, List.map_nil, List.cons_append, List.nil_append, List.append_nil, List.length_cons, List.length_nil, List.replicate, List.set_cons_zero, List.set_cons_succ, List.getElem?_cons_zero, List.getElem?_cons_succ, List.getElem?_nil, Option.getD_some, Option.getD_none, ite_true, ite_false, Bool.not_true, Bool.not_false, Bool.true_and, Bool.and_true, Bool.and_false, Bool.false_and, Bool.not_eq_true, Bool.false_eq_true, reduceIte, decide_eq_true_eq, atI_zero, atI_one, atI_two, atI_three, atI_four, atI_m1, wipeD, reduceCtorEq, ok_int, ok_non, ok_bl, eqv_int, ix40, ix41, ix42, ix43, Int.toNat_natCast, true_and, and_true, n_ring_rows, enP_pd, lk_bars, Lp.bP, row_head hne, row_last hne, bar_at h0, bar_at h1]
  simp only [w_ring_rows_8, wNext, wSeq, wBreak, wCont, wDrop, wRet, wSet, wPar, wIfS, wgName, wgNil, wgCons, wgTup, tupOf, wgLst, lstOf, wgSub, wAsg, putC, wAug, fAddI, fIxL, wAugS, wApp, wExt, putD, wFldS, wVar, dAt, wC, wBin, wUn, fSub_ii, fDiv_ii, fMod_ii, fPow_ii, fLt_ii, fLe_ii, fGt_ii, fGe_ii, fNeg_i, fAdd_ii, fAdd_tt, fAdd_ss, fAdd_ll, fAdd_c, fAdd_lc, fMul_ii, fMul_ti, fMul_li, fMul_ci, fMulC, lsOf, sqOf, wTest, wChain, wTAnd, wTOr, wTNot, wAndV, wOrV, wNotV, wIf, plOf, fEq, fNe, fIn, fIsN, fNotN, isNon, fFld, wFld, fIx, wNoPart, wPart, wSl, wNil, wCons, wStar, allP, allP_map, wTup, wLst, wLstC, wiSeq, wiRng1, wiRng2, wFor, wLc, wLcC, wLc2, wtYes, wiEnum, wiZip, wCB, fLen_s, fLen_t, fLen_l, fLen_c, fMax_ii, fMax_iii, fMax_l, fMin_ii, fMin_t, fMin_l, fMin_c, fSum, fAll, fAny, fList, fListC, fTuple, fSorted, fInt_i, fInt_b, fInt_s, fStr, sqF, fIsT, wIsT, tyName, kit_nt, kit_bt, kit_it, kit_st, kit_tt, kit_lt, kit_ni, kit_bi, kit_ii, kit_si, kit_ti, kit_li, kit_nb, kit_bb, kit_ib, kit_sb, kit_tb, kit_lb, wCallP0, wCallR0, wCallN0, wCallP, wCallR, wCallRf, wCallN, wMake, wMake0, wMakeC, wRaise, wNever, En.xp, enP, enR, enN, rtP, rtR, rtN, entry, List.map_cons, List.map_nil, List.cons_append, List.nil_append, List.append_nil, List.length_cons, List.length_nil, List.replicate, List.set_cons_zero, List.set_cons_succ, List.getElem?_cons_zero, List.getElem?_cons_succ, List.getElem?_nil, Option.getD_some, Option.getD_none, ite_true, ite_false, Bool.not_true, Bool.not_false, Bool.true_and, Bool.and_true, Bool.and_false, Bool.false_and, Bool.not_eq_true, Bool.false_eq_true, reduceIte, decide_eq_true_eq, atI_zero, atI_one, atI_two, atI_three, atI_four, atI_m1, wipeD, reduceCtorEq, ok_int, ok_non, ok_bl, eqv_int, ix40, ix41, ix42, ix43, Int.toNat_natCast, true_and, and_true]
  by_cases e : bOne l.bars (row.getD 0 0) = bOth l.bars (row.getLastD 0)
  · simp only [e, decide_true, wNext, wSeq, wBreak, wCont, wDrop, wRet, wSet, wPar, wIfS, wgName, wgNil, wgCons, wgTup, tupOf, wgLst, lstOf, wgSub, wAsg, putC, wAug, fAddI, fIxL, wAugS, wApp, wExt, putD, wFldS, wVar, dAt, wC, wBin, wUn, fSub_ii, fDiv_ii, fMod_ii, fPow_ii, fLt_ii, fLe_ii, fGt_ii, fGe_ii, fNeg_i, fAdd_ii, fAdd_tt, fAdd_ss, fAdd_ll, fAdd_c, fAdd_lc, fMul_ii, fMul_ti, fMul_li, fMul_ci, fMulC, lsOf, sqOf, wTest, wChain, wTAnd, wTOr, wTNot, wAndV, wOrV, wNotV, wIf, plOf, fEq, fNe, fIn, fIsN, fNotN, isNon, fFld, wFld, fIx, wNoPart, wPart, wSl, wNil, wCons, wStar, allP, allP_map, wTup, wLst, wLstC, wiSeq, wiRng1, wiRng2, wFor, wLc, wLcC, wLc2, wtYes, wiEnum, wiZip, wCB, fLen_s, fLen_t, fLen_l, fLen_c, fMax_ii, fMax_iii, fMax_l, fMin_ii, fMin_t, fMin_l, fMin_c, fSum, fAll, fAny, fList, fListC, fTuple, fSorted, fInt_i, fInt_b, fInt_s, fStr, sqF, fIsT, wIsT, tyName, kit_nt, kit_bt, kit_it, kit_st, kit_tt, kit_lt, kit_ni, kit_bi, kit_ii, kit_si, kit_ti, kit_li, kit_nb, kit_bb, kit_ib, kit_sb, kit_tb, kit_lb, wCallP0, wCallR0, wCallN0, wCallP, wCallR, wCallRf, wCallN, wMake, wMake0, wMakeC, wRaise, wNever, En.xp, enP, enR, enN, rtP, rtR, rtN, entry, List.map_cons, List.map_nil, List.cons_append, List.nil_append, List.append_nil, List.length_cons, List.length_nil, List.replicate, List.set_cons_zero, List.set_cons_succ, List.getElem?_cons_zero, List.getElem?_cons_succ, List.getElem?_nil, Option.getD_some, Option.getD_none, ite_true, ite_false, Bool.not_true, Bool.not_false, Bool.true_and, Bool.and_true, Bool.and_false, Bool.false_and, Bool.not_eq_true, Bool.false_eq_true, reduceIte, decide_eq_true_eq, atI_zero, atI_one, atI_two, atI_three, atI_four, atI_m1, wipeD, reduceCtorEq, ok_int, ok_non, ok_bl, eqv_int, ix40, ix41, ix42, ix43, Int.toNat_natCast, true_and, and_true, w_ring_rows_1]
    have e2 : dfs l.bars (n + 1) row = [row] := by
      unfold dfs
      rw [if_pos e]
    rw [e2] at h
    exact ⟨by unfold big; omega, h⟩
  · simp only [e, decide_false, wNext, wSeq, wBreak, wCont, wDrop, wRet, wSet, wPar, wIfS, wgName, wgNil, wgCons, wgTup, tupOf, wgLst, lstOf, wgSub, wAsg, putC, wAug, fAddI, fIxL, wAugS, wApp, wExt, putD, wFldS, wVar, dAt, wC, wBin, wUn, fSub_ii, fDiv_ii, fMod_ii, fPow_ii, fLt_ii, fLe_ii, fGt_ii, fGe_ii, fNeg_i, fAdd_ii, fAdd_tt, fAdd_ss, fAdd_ll, fAdd_c, fAdd_lc, fMul_ii, fMul_ti, fMul_li, fMul_ci, fMulC, lsOf, sqOf, wTest, wChain, wTAnd, wTOr, wTNot, wAndV, wOrV, wNotV, wIf, plOf, fEq, fNe, fIn, fIsN, fNotN, isNon, fFld, wFld, fIx, wNoPart, wPart, wSl, wNil, wCons, wStar, allP, allP_map, wTup, wLst, wLstC, wiSeq, wiRng1, wiRng2, wFor, wLc, wLcC, wLc2, wtYes, wiEnum, wiZip, wCB, fLen_s, fLen_t, fLen_l, fLen_c, fMax_ii, fMax_iii, fMax_l, fMin_ii, fMin_t, fMin_l, fMin_c, fSum, fAll, fAny, fList, fListC, fTuple, fSorted, fInt_i, fInt_b, fInt_s, fStr, sqF, fIsT, wIsT, tyName, kit_nt, kit_bt, kit_it, kit_st, kit_tt, kit_lt, kit_ni, kit_bi, kit_ii, kit_si, kit_ti, kit_li, kit_nb, kit_bb, kit_ib, kit_sb, kit_tb, kit_lb, wCallP0, wCallR0, wCallN0, wCallP, wCallR, wCallRf, wCallN, wMake, wMake0, wMakeC, wRaise, wNever, En.xp, enP, enR, enN, rtP, rtR, rtN, entry, List.map_cons, List.map_nil, List.cons_append, List.nil_append, List.append_nil, List.length_cons, List.length_nil, List.replicate, List.set_cons_zero, List.set_cons_succ, List.getElem?_cons_zero, List.getElem?_cons_succ, List.getElem?_nil, Option.getD_some, Option.getD_none, ite_true, ite_false, Bool.not_true, Bool.not_false, Bool.true_and, Bool.and_true, Bool.and_false, Bool.false_and, Bool.not_eq_true, Bool.false_eq_true, reduceIte, decide_eq_true_eq, atI_zero, atI_one, atI_two, atI_three, atI_four, atI_m1, wipeD, reduceCtorEq, ok_int, ok_non, ok_bl, eqv_int, ix40, ix41, ix42, ix43, Int.toNat_natCast, true_and, and_true, w_ring_rows_7]
    rw [dfs_eq _ _ _ e] at h
    refine lc_map (fun x => match x with | .int i => .int (bOth l.bars i.toNat) | _ => .non) (by rw [List.length_map]; unfold big; omega) trivial (fun i x J hx hJ => ?_) ?_
    · obtain ⟨r, hr, rfl⟩ := map_inv hx
      have hrm := hm r (List.mem_of_getElem? hr)
      simp only [wNext, wSeq, wBreak, wCont, wDrop, wRet, wSet, wPar, wIfS, wgName, wgNil, wgCons, wgTup, tupOf, wgLst, lstOf, wgSub, wAsg, putC, wAug, fAddI, fIxL, wAugS, wApp, wExt, putD, wFldS, wVar, dAt, wC, wBin, wUn, fSub_ii, fDiv_ii, fMod_ii, fPow_ii, fLt_ii, fLe_ii, fGt_ii, fGe_ii, fNeg_i, fAdd_ii, fAdd_tt, fAdd_ss, fAdd_ll, fAdd_c, fAdd_lc, fMul_ii, fMul_ti, fMul_li, fMul_ci, fMulC, lsOf, sqOf, wTest, wChain, wTAnd, wTOr, wTNot, wAndV, wOrV, wNotV, wIf, plOf, fEq, fNe, fIn, fIsN, fNotN, isNon, fFld, wFld, fIx, wNoPart, wPart, wSl, wNil, wCons, wStar, allP, allP_map, wTup, wLst, wLstC, wiSeq, wiRng1, wiRng2, wFor, wLc, wLcC, wLc2, wtYes, wiEnum, wiZip, wCB, fLen_s, fLen_t, fLen_l, fLen_c, fMax_ii, fMax_iii, fMax_l, fMin_ii, fMin_t, fMin_l, fMin_c, fSum, fAll, fAny, fList, fListC, fTuple, fSorted, fInt_i, fInt_b, fInt_s, fStr, sqF, fIsT, wIsT, tyName, kit_nt, kit_bt, kit_it, kit_st, kit_tt, kit_lt, kit_ni, kit_bi, kit_ii, kit_si, kit_ti, kit_li, kit_nb, kit_bb, kit_ib, kit_sb, kit_tb, kit_lb, wCallP0, wCallR0, wCallN0, wCallP, wCallR, wCallRf, wCallN, wMake, wMake0, wMakeC, wRaise, wNever, En.xp, enP, enR, enN, rtP, rtR, rtN, entry, List.map_cons, List.map_nil, List.cons_append, List.nil_append, List.append_nil, List.length_cons, List.length_nil, List.replicate, List.set_cons_zero, List.set_cons_succ, List.getElem?_cons_zero, List.getElem?_cons_succ, List.getElem?_nil, Option.getD_some, Option.getD_none, ite_true, ite_false, Bool.not_true, Bool.not_false, Bool.true_and, Bool.and_true, Bool.and_false, Bool.false_and, Bool.not_eq_true, Bool.false_eq_true, reduceIte, decide_eq_true_eq, atI_zero, atI_one, atI_two, atI_three, atI_four, atI_m1, wipeD, reduceCtorEq, ok_int, ok_non, ok_bl, eqv_int, ix40, ix41, ix42, ix43, Int.toNat_natCast, true_and, and_true, enP_pd, lk_bars, Lp.bP, bar_at hrm]
      simpa using hJ
    · have eg : (row.map fun i : Nat => PD.int i).map (fun x => match x with | .int i => PD.int (bOth l.bars i.toNat) | _ => .non) = (row.map (bOth l.bars)).map PD.int := by
        rw [List.map_map, List.map_map]
        exact List.map_congr_left fun i _ => by simp
      simp only [eg, w_ring_rows_6, wNext, wSeq, wBreak, wCont, wDrop, wRet, wSet, wPar, wIfS, wgName, wgNil, wgCons, wgTup, tupOf, wgLst, lstOf, wgSub, wAsg, putC, wAug, fAddI, fIxL, wAugS, wApp, wExt, putD, wFldS, wVar, dAt, wC, wBin, wUn, fSub_ii, fDiv_ii, fMod_ii, fPow_ii, fLt_ii, fLe_ii, fGt_ii, fGe_ii, fNeg_i, fAdd_ii, fAdd_tt, fAdd_ss, fAdd_ll, fAdd_c, fAdd_lc, fMul_ii, fMul_ti, fMul_li, fMul_ci, fMulC, lsOf, sqOf, wTest, wChain, wTAnd, wTOr, wTNot, wAndV, wOrV, wNotV, wIf, plOf, fEq, fNe, fIn, fIsN, fNotN, isNon, fFld, wFld, fIx, wNoPart, wPart, wSl, wNil, wCons, wStar, allP, allP_map, wTup, wLst, wLstC, wiSeq, wiRng1, wiRng2, wFor, wLc, wLcC, wLc2, wtYes, wiEnum, wiZip, wCB, fLen_s, fLen_t, fLen_l, fLen_c, fMax_ii, fMax_iii, fMax_l, fMin_ii, fMin_t, fMin_l, fMin_c, fSum, fAll, fAny, fList, fListC, fTuple, fSorted, fInt_i, fInt_b, fInt_s, fStr, sqF, fIsT, wIsT, tyName, kit_nt, kit_bt, kit_it, kit_st, kit_tt, kit_lt, kit_ni, kit_bi, kit_ii, kit_si, kit_ti, kit_li, kit_nb, kit_bb, kit_ib, kit_sb, kit_tb, kit_lb, wCallP0, wCallR0, wCallN0, wCallP, wCallR, wCallRf, wCallN, wMake, wMake0, wMakeC, wRaise, wNever, En.xp, enP, enR, enN, rtP, rtR, rtN, entry, List.map_cons, List.map_nil, List.cons_append, List.nil_append, List.append_nil, List.length_cons, List.length_nil, List.replicate, List.set_cons_zero, List.set_cons_succ, List.getElem?_cons_zero, List.getElem?_cons_succ, List.getElem?_nil, Option.getD_some, Option.getD_none, ite_true, ite_false, Bool.not_true, Bool.not_false, Bool.true_and, Bool.and_true, Bool.and_false, Bool.false_and, Bool.not_eq_true, Bool.false_eq_true, reduceIte, decide_eq_true_eq, atI_zero, atI_one, atI_two, atI_three, atI_four, atI_m1, wipeD, reduceCtorEq, ok_int, ok_non, ok_bl, eqv_int, ix40, ix41, ix42, ix43, Int.toNat_natCast, true_and, and_true, w_ring_rows_5, enP_pd, lk_bars, Lp.bP]
      refine ⟨by decide, ?_⟩
      refine ⟨fun i ds m => m = [.lst ((dfsTo l.bars n row i).map ringP)] ∧ ∃ s5 s7 s8 s9 s10, ds = [some (.p (l.pd q)), some (.p (.lst (row.map natP))), some (.p (.int (bOne l.bars (row.getD 0 0)))), some (.p (.int (bOth l.bars (row.getLastD 0)))), some (.p (.lst ((row.map (bOth l.bars)).map PD.int))), s5, some (.c 0), s7, s8, s9, s10],
        ⟨rfl, _, _, _, _, _, rfl⟩, fun _ _ _ _ => trivial, ?_, ?_⟩
      · rintro i x _ _ hx ⟨rfl, s5, s7, s8, s9, s10, rfl⟩
        obtain ⟨y, hy, rfl⟩ := enumP_inv hx
        obtain ⟨b, hb, rfl⟩ := map_inv hy
        have hi : i < l.bars.length := (List.getElem?_eq_some_iff.mp hb).1
        have hno : ¬ (bOne l.bars i = bOth l.bars (row.getLastD 0) ∧ bOth l.bars i ∉ row.map (bOth l.bars) ∧ bOne l.bars (row.getD 0 0) ≤ bOth l.bars i) → dfsTo l.bars n row (i + 1) = dfsTo l.bars n row i := fun hh => by rw [dfsTo_succ, if_neg hh, List.append_nil]
        simp only [wNext, wSeq, wBreak, wCont, wDrop, wRet, wSet, wPar, wIfS, wgName, wgNil, wgCons, wgTup, tupOf, wgLst, lstOf, wgSub, wAsg, putC, wAug, fAddI, fIxL, wAugS, wApp, wExt, putD, wFldS, wVar, dAt, wC, wBin, wUn, fSub_ii, fDiv_ii, fMod_ii, fPow_ii, fLt_ii, fLe_ii, fGt_ii, fGe_ii, fNeg_i, fAdd_ii, fAdd_tt, fAdd_ss, fAdd_ll, fAdd_c, fAdd_lc, fMul_ii, fMul_ti, fMul_li, fMul_ci, fMulC, lsOf, sqOf, wTest, wChain, wTAnd, wTOr, wTNot, wAndV, wOrV, wNotV, wIf, plOf, fEq, fNe, fIn, fIsN, fNotN, isNon, fFld, wFld, fIx, wNoPart, wPart, wSl, wNil, wCons, wStar, allP, allP_map, wTup, wLst, wLstC, wiSeq, wiRng1, wiRng2, wFor, wLc, wLcC, wLc2, wtYes, wiEnum, wiZip, wCB, fLen_s, fLen_t, fLen_l, fLen_c, fMax_ii, fMax_iii, fMax_l, fMin_ii, fMin_t, fMin_l, fMin_c, fSum, fAll, fAny, fList, fListC, fTuple, fSorted, fInt_i, fInt_b, fInt_s, fStr, sqF, fIsT, wIsT, tyName, kit_nt, kit_bt, kit_it, kit_st, kit_tt, kit_lt, kit_ni, kit_bi, kit_ii, kit_si, kit_ti, kit_li, kit_nb, kit_bb, kit_ib, kit_sb, kit_tb, kit_lb, wCallP0, wCallR0, wCallN0, wCallP, wCallR, wCallRf, wCallN, wMake, wMake0, wMakeC, wRaise, wNever, En.xp, enP, enR, enN, rtP, rtR, rtN, entry, List.map_cons, List.map_nil, List.cons_append, List.nil_append, List.append_nil, List.length_cons, List.length_nil, List.replicate, List.set_cons_zero, List.set_cons_succ, List.getElem?_cons_zero, List.getElem?_cons_succ, List.getElem?_nil, Option.getD_some, Option.getD_none, ite_true, ite_false, Bool.not_true, Bool.not_false, Bool.true_and, Bool.and_true, Bool.and_false, Bool.false_and, Bool.not_eq_true, Bool.false_eq_true, reduceIte, decide_eq_true_eq, atI_zero, atI_one, atI_two, atI_three, atI_four, atI_m1, wipeD, reduceCtorEq, ok_int, ok_non, ok_bl, eqv_int, ix40, ix41, ix42, ix43, Int.toNat_natCast, true_and, and_true, bar_get hb, w_ring_rows_3, Nat.zero_add]
        by_cases c1 : bOne l.bars i = bOth l.bars (row.getLastD 0)
        · simp only [c1, decide_true, wNext, wSeq, wBreak, wCont, wDrop, wRet, wSet, wPar, wIfS, wgName, wgNil, wgCons, wgTup, tupOf, wgLst, lstOf, wgSub, wAsg, putC, wAug, fAddI, fIxL, wAugS, wApp, wExt, putD, wFldS, wVar, dAt, wC, wBin, wUn, fSub_ii, fDiv_ii, fMod_ii, fPow_ii, fLt_ii, fLe_ii, fGt_ii, fGe_ii, fNeg_i, fAdd_ii, fAdd_tt, fAdd_ss, fAdd_ll, fAdd_c, fAdd_lc, fMul_ii, fMul_ti, fMul_li, fMul_ci, fMulC, lsOf, sqOf, wTest, wChain, wTAnd, wTOr, wTNot, wAndV, wOrV, wNotV, wIf, plOf, fEq, fNe, fIn, fIsN, fNotN, isNon, fFld, wFld, fIx, wNoPart, wPart, wSl, wNil, wCons, wStar, allP, allP_map, wTup, wLst, wLstC, wiSeq, wiRng1, wiRng2, wFor, wLc, wLcC, wLc2, wtYes, wiEnum, wiZip, wCB, fLen_s, fLen_t, fLen_l, fLen_c, fMax_ii, fMax_iii, fMax_l, fMin_ii, fMin_t, fMin_l, fMin_c, fSum, fAll, fAny, fList, fListC, fTuple, fSorted, fInt_i, fInt_b, fInt_s, fStr, sqF, fIsT, wIsT, tyName, kit_nt, kit_bt, kit_it, kit_st, kit_tt, kit_lt, kit_ni, kit_bi, kit_ii, kit_si, kit_ti, kit_li, kit_nb, kit_bb, kit_ib, kit_sb, kit_tb, kit_lb, wCallP0, wCallR0, wCallN0, wCallP, wCallR, wCallRf, wCallN, wMake, wMake0, wMakeC, wRaise, wNever, En.xp, enP, enR, enN, rtP, rtR, rtN, entry, List.map_cons, List.map_nil, List.cons_append, List.nil_append, List.append_nil, List.length_cons, List.length_nil, List.replicate, List.set_cons_zero, List.set_cons_succ, List.getElem?_cons_zero, List.getElem?_cons_succ, List.getElem?_nil, Option.getD_some, Option.getD_none, ite_true, ite_false, Bool.not_true, Bool.not_false, Bool.true_and, Bool.and_true, Bool.and_false, Bool.false_and, Bool.not_eq_true, Bool.false_eq_true, reduceIte, decide_eq_true_eq, atI_zero, atI_one, atI_two, atI_three, atI_four, atI_m1, wipeD, reduceCtorEq, ok_int, ok_non, ok_bl, eqv_int, ix40, ix41, ix42, ix43, Int.toNat_natCast, true_and, and_true, inP_ints, ok_ints]
          by_cases c2 : bOth l.bars i ∈ row.map (bOth l.bars)
          · simp only [c2, decide_true, wNext, wSeq, wBreak, wCont, wDrop, wRet, wSet, wPar, wIfS, wgName, wgNil, wgCons, wgTup, tupOf, wgLst, lstOf, wgSub, wAsg, putC, wAug, fAddI, fIxL, wAugS, wApp, wExt, putD, wFldS, wVar, dAt, wC, wBin, wUn, fSub_ii, fDiv_ii, fMod_ii, fPow_ii, fLt_ii, fLe_ii, fGt_ii, fGe_ii, fNeg_i, fAdd_ii, fAdd_tt, fAdd_ss, fAdd_ll, fAdd_c, fAdd_lc, fMul_ii, fMul_ti, fMul_li, fMul_ci, fMulC, lsOf, sqOf, wTest, wChain, wTAnd, wTOr, wTNot, wAndV, wOrV, wNotV, wIf, plOf, fEq, fNe, fIn, fIsN, fNotN, isNon, fFld, wFld, fIx, wNoPart, wPart, wSl, wNil, wCons, wStar, allP, allP_map, wTup, wLst, wLstC, wiSeq, wiRng1, wiRng2, wFor, wLc, wLcC, wLc2, wtYes, wiEnum, wiZip, wCB, fLen_s, fLen_t, fLen_l, fLen_c, fMax_ii, fMax_iii, fMax_l, fMin_ii, fMin_t, fMin_l, fMin_c, fSum, fAll, fAny, fList, fListC, fTuple, fSorted, fInt_i, fInt_b, fInt_s, fStr, sqF, fIsT, wIsT, tyName, kit_nt, kit_bt, kit_it, kit_st, kit_tt, kit_lt, kit_ni, kit_bi, kit_ii, kit_si, kit_ti, kit_li, kit_nb, kit_bb, kit_ib, kit_sb, kit_tb, kit_lb, wCallP0, wCallR0, wCallN0, wCallP, wCallR, wCallRf, wCallN, wMake, wMake0, wMakeC, wRaise, wNever, En.xp, enP, enR, enN, rtP, rtR, rtN, entry, List.map_cons, List.map_nil, List.cons_append, List.nil_append, List.append_nil, List.length_cons, List.length_nil, List.replicate, List.set_cons_zero, List.set_cons_succ, List.getElem?_cons_zero, List.getElem?_cons_succ, List.getElem?_nil, Option.getD_some, Option.getD_none, ite_true, ite_false, Bool.not_true, Bool.not_false, Bool.true_and, Bool.and_true, Bool.and_false, Bool.false_and, Bool.not_eq_true, Bool.false_eq_true, reduceIte, decide_eq_true_eq, atI_zero, atI_one, atI_two, atI_three, atI_four, atI_m1, wipeD, reduceCtorEq, ok_int, ok_non, ok_bl, eqv_int, ix40, ix41, ix42, ix43, Int.toNat_natCast, true_and, and_true]
            rw [hno (fun z => z.2.1 c2)]
            exact ⟨rfl, _, _, _, _, _, rfl⟩
          · simp only [c2, decide_false, wNext, wSeq, wBreak, wCont, wDrop, wRet, wSet, wPar, wIfS, wgName, wgNil, wgCons, wgTup, tupOf, wgLst, lstOf, wgSub, wAsg, putC, wAug, fAddI, fIxL, wAugS, wApp, wExt, putD, wFldS, wVar, dAt, wC, wBin, wUn, fSub_ii, fDiv_ii, fMod_ii, fPow_ii, fLt_ii, fLe_ii, fGt_ii, fGe_ii, fNeg_i, fAdd_ii, fAdd_tt, fAdd_ss, fAdd_ll, fAdd_c, fAdd_lc, fMul_ii, fMul_ti, fMul_li, fMul_ci, fMulC, lsOf, sqOf, wTest, wChain, wTAnd, wTOr, wTNot, wAndV, wOrV, wNotV, wIf, plOf, fEq, fNe, fIn, fIsN, fNotN, isNon, fFld, wFld, fIx, wNoPart, wPart, wSl, wNil, wCons, wStar, allP, allP_map, wTup, wLst, wLstC, wiSeq, wiRng1, wiRng2, wFor, wLc, wLcC, wLc2, wtYes, wiEnum, wiZip, wCB, fLen_s, fLen_t, fLen_l, fLen_c, fMax_ii, fMax_iii, fMax_l, fMin_ii, fMin_t, fMin_l, fMin_c, fSum, fAll, fAny, fList, fListC, fTuple, fSorted, fInt_i, fInt_b, fInt_s, fStr, sqF, fIsT, wIsT, tyName, kit_nt, kit_bt, kit_it, kit_st, kit_tt, kit_lt, kit_ni, kit_bi, kit_ii, kit_si, kit_ti, kit_li, kit_nb, kit_bb, kit_ib, kit_sb, kit_tb, kit_lb, wCallP0, wCallR0, wCallN0, wCallP, wCallR, wCallRf, wCallN, wMake, wMake0, wMakeC, wRaise, wNever, En.xp, enP, enR, enN, rtP, rtR, rtN, entry, List.map_cons, List.map_nil, List.cons_append, List.nil_append, List.append_nil, List.length_cons, List.length_nil, List.replicate, List.set_cons_zero, List.set_cons_succ, List.getElem?_cons_zero, List.getElem?_cons_succ, List.getElem?_nil, Option.getD_some, Option.getD_none, ite_true, ite_false, Bool.not_true, Bool.not_false, Bool.true_and, Bool.and_true, Bool.and_false, Bool.false_and, Bool.not_eq_true, Bool.false_eq_true, reduceIte, decide_eq_true_eq, atI_zero, atI_one, atI_two, atI_three, atI_four, atI_m1, wipeD, reduceCtorEq, ok_int, ok_non, ok_bl, eqv_int, ix40, ix41, ix42, ix43, Int.toNat_natCast, true_and, and_true]
            by_cases c3 : bOne l.bars (row.getD 0 0) ≤ bOth l.bars i
            · simp only [c3, decide_true, wNext, wSeq, wBreak, wCont, wDrop, wRet, wSet, wPar, wIfS, wgName, wgNil, wgCons, wgTup, tupOf, wgLst, lstOf, wgSub, wAsg, putC, wAug, fAddI, fIxL, wAugS, wApp, wExt, putD, wFldS, wVar, dAt, wC, wBin, wUn, fSub_ii, fDiv_ii, fMod_ii, fPow_ii, fLt_ii, fLe_ii, fGt_ii, fGe_ii, fNeg_i, fAdd_ii, fAdd_tt, fAdd_ss, fAdd_ll, fAdd_c, fAdd_lc, fMul_ii, fMul_ti, fMul_li, fMul_ci, fMulC, lsOf, sqOf, wTest, wChain, wTAnd, wTOr, wTNot, wAndV, wOrV, wNotV, wIf, plOf, fEq, fNe, fIn, fIsN, fNotN, isNon, fFld, wFld, fIx, wNoPart, wPart, wSl, wNil, wCons, wStar, allP, allP_map, wTup, wLst, wLstC, wiSeq, wiRng1, wiRng2, wFor, wLc, wLcC, wLc2, wtYes, wiEnum, wiZip, wCB, fLen_s, fLen_t, fLen_l, fLen_c, fMax_ii, fMax_iii, fMax_l, fMin_ii, fMin_t, fMin_l, fMin_c, fSum, fAll, fAny, fList, fListC, fTuple, fSorted, fInt_i, fInt_b, fInt_s, fStr, sqF, fIsT, wIsT, tyName, kit_nt, kit_bt, kit_it, kit_st, kit_tt, kit_lt, kit_ni, kit_bi, kit_ii, kit_si, kit_ti, kit_li, kit_nb, kit_bb, kit_ib, kit_sb, kit_tb, kit_lb, wCallP0, wCallR0, wCallN0, wCallP, wCallR, wCallRf, wCallN, wMake, wMake0, wMakeC, wRaise, wNever, En.xp, enP, enR, enN, rtP, rtR, rtN, entry, List.map_cons, List.map_nil, List.cons_append, List.nil_append, List.append_nil, List.length_cons, List.length_nil, List.replicate, List.set_cons_zero, List.set_cons_succ, List.getElem?_cons_zero, List.getElem?_cons_succ, List.getElem?_nil, Option.getD_some, Option.getD_none, ite_true, ite_false, Bool.not_true, Bool.not_false, Bool.true_and, Bool.and_true, Bool.and_false, Bool.false_and, Bool.not_eq_true, Bool.false_eq_true, reduceIte, decide_eq_true_eq, atI_zero, atI_one, atI_two, atI_three, atI_four, atI_m1, wipeD, reduceCtorEq, ok_int, ok_non, ok_bl, eqv_int, ix40, ix41, ix42, ix43, Int.toNat_natCast, true_and, and_true, w_ring_rows_2]
              have hcs : chain l.bars a (row ++ [i]) (bOth l.bars i) := (chain_snoc _).mpr ⟨by rw [c1, hl]; exact hc, hi, rfl⟩
              have hnd2 : ((row ++ [i]).map (bOth l.bars)).Nodup := by
                rw [List.map_append, List.nodup_append]
                refine ⟨hnd, by simp, fun x hx y hy e => c2 ?_⟩
                have : y = bOth l.bars i := by simpa using hy
                rw [← this, ← e]
                exact hx
              have hln := nd_len hnd2 (S := l.rows.length) fun x hx => by
                obtain ⟨j, hj, rfl⟩ := List.mem_map.mp hx
                have := hstk j (chain_mem _ hcs j hj)
                omega
              rw [List.length_map, List.length_append, List.length_singleton] at hln
              have s5 := ok.s5
              match n, hlen, hn5 with
              | 0, hlen, _ => omega
              | n + 1, hlen, hn5 =>
                refine ⟨⟨_, rfl⟩, ?_⟩
                rw [allP_snoc]
                have e5 : row.map natP ++ [PD.int i] = (row ++ [i]).map natP := by simp
                have eh : (row ++ [i]).getD 0 0 = row.getD 0 0 := by match row, hne with | j :: r, _ => simp
                have hb1 := dfsTo_len l.bars hb10 n row i
                have hb2 := dfs_len l.bars hb10 n (row ++ [i])
                have hb3 : (i + 1) * 10 ^ n ≤ big := by
                  have : 10 ^ n ≤ 10 ^ 4 := Nat.pow_le_pow_right (by omega) (by omega)
                  calc (i + 1) * 10 ^ n ≤ 10 * 10 ^ 4 := Nat.mul_le_mul (by omega) this
                    _ ≤ big := by decide
                rw [Nat.add_mul, Nat.one_mul] at hb3
                refine ⟨by simp [big]; omega, l, row ++ [i], by rw [e5], ok, by simp, ⟨a, _, hcs⟩, hnd2, by simp; omega, by omega, by simp; omega, ?_⟩
                simp only [wNext, wSeq, wBreak, wCont, wDrop, wRet, wSet, wPar, wIfS, wgName, wgNil, wgCons, wgTup, tupOf, wgLst, lstOf, wgSub, wAsg, putC, wAug, fAddI, fIxL, wAugS, wApp, wExt, putD, wFldS, wVar, dAt, wC, wBin, wUn, fSub_ii, fDiv_ii, fMod_ii, fPow_ii, fLt_ii, fLe_ii, fGt_ii, fGe_ii, fNeg_i, fAdd_ii, fAdd_tt, fAdd_ss, fAdd_ll, fAdd_c, fAdd_lc, fMul_ii, fMul_ti, fMul_li, fMul_ci, fMulC, lsOf, sqOf, wTest, wChain, wTAnd, wTOr, wTNot, wAndV, wOrV, wNotV, wIf, plOf, fEq, fNe, fIn, fIsN, fNotN, isNon, fFld, wFld, fIx, wNoPart, wPart, wSl, wNil, wCons, wStar, allP, allP_map, wTup, wLst, wLstC, wiSeq, wiRng1, wiRng2, wFor, wLc, wLcC, wLc2, wtYes, wiEnum, wiZip, wCB, fLen_s, fLen_t, fLen_l, fLen_c, fMax_ii, fMax_iii, fMax_l, fMin_ii, fMin_t, fMin_l, fMin_c, fSum, fAll, fAny, fList, fListC, fTuple, fSorted, fInt_i, fInt_b, fInt_s, fStr, sqF, fIsT, wIsT, tyName, kit_nt, kit_bt, kit_it, kit_st, kit_tt, kit_lt, kit_ni, kit_bi, kit_ii, kit_si, kit_ti, kit_li, kit_nb, kit_bb, kit_ib, kit_sb, kit_tb, kit_lb, wCallP0, wCallR0, wCallN0, wCallP, wCallR, wCallRf, wCallN, wMake, wMake0, wMakeC, wRaise, wNever, En.xp, enP, enR, enN, rtP, rtR, rtN, entry, List.map_cons, List.map_nil, List.cons_append, List.nil_append, List.append_nil, List.length_cons, List.length_nil, List.replicate, List.set_cons_zero, List.set_cons_succ, List.getElem?_cons_zero, List.getElem?_cons_succ, List.getElem?_nil, Option.getD_some, Option.getD_none, ite_true, ite_false, Bool.not_true, Bool.not_false, Bool.true_and, Bool.and_true, Bool.and_false, Bool.false_and, Bool.not_eq_true, Bool.false_eq_true, reduceIte, decide_eq_true_eq, atI_zero, atI_one, atI_two, atI_three, atI_four, atI_m1, wipeD, reduceCtorEq, ok_int, ok_non, ok_bl, eqv_int, ix40, ix41, ix42, ix43, Int.toNat_natCast, true_and, and_true, List.length_map]
                refine ⟨by omega, ?_⟩
                rw [dfsTo_succ, if_pos ⟨c1, c2, c3⟩, List.map_append]
                exact ⟨rfl, _, _, _, _, _, rfl⟩
            · simp only [c3, decide_false, wNext, wSeq, wBreak, wCont, wDrop, wRet, wSet, wPar, wIfS, wgName, wgNil, wgCons, wgTup, tupOf, wgLst, lstOf, wgSub, wAsg, putC, wAug, fAddI, fIxL, wAugS, wApp, wExt, putD, wFldS, wVar, dAt, wC, wBin, wUn, fSub_ii, fDiv_ii, fMod_ii, fPow_ii, fLt_ii, fLe_ii, fGt_ii, fGe_ii, fNeg_i, fAdd_ii, fAdd_tt, fAdd_ss, fAdd_ll, fAdd_c, fAdd_lc, fMul_ii, fMul_ti, fMul_li, fMul_ci, fMulC, lsOf, sqOf, wTest, wChain, wTAnd, wTOr, wTNot, wAndV, wOrV, wNotV, wIf, plOf, fEq, fNe, fIn, fIsN, fNotN, isNon, fFld, wFld, fIx, wNoPart, wPart, wSl, wNil, wCons, wStar, allP, allP_map, wTup, wLst, wLstC, wiSeq, wiRng1, wiRng2, wFor, wLc, wLcC, wLc2, wtYes, wiEnum, wiZip, wCB, fLen_s, fLen_t, fLen_l, fLen_c, fMax_ii, fMax_iii, fMax_l, fMin_ii, fMin_t, fMin_l, fMin_c, fSum, fAll, fAny, fList, fListC, fTuple, fSorted, fInt_i, fInt_b, fInt_s, fStr, sqF, fIsT, wIsT, tyName, kit_nt, kit_bt, kit_it, kit_st, kit_tt, kit_lt, kit_ni, kit_bi, kit_ii, kit_si, kit_ti, kit_li, kit_nb, kit_bb, kit_ib, kit_sb, kit_tb, kit_lb, wCallP0, wCallR0, wCallN0, wCallP, wCallR, wCallRf, wCallN, wMake, wMake0, wMakeC, wRaise, wNever, En.xp, enP, enR, enN, rtP, rtR, rtN, entry, List.map_cons, List.map_nil, List.cons_append, List.nil_append, List.append_nil, List.length_cons, List.length_nil, List.replicate, List.set_cons_zero, List.set_cons_succ, List.getElem?_cons_zero, List.getElem?_cons_succ, List.getElem?_nil, Option.getD_some, Option.getD_none, ite_true, ite_false, Bool.not_true, Bool.not_false, Bool.true_and, Bool.and_true, Bool.and_false, Bool.false_and, Bool.not_eq_true, Bool.false_eq_true, reduceIte, decide_eq_true_eq, atI_zero, atI_one, atI_two, atI_three, atI_four, atI_m1, wipeD, reduceCtorEq, ok_int, ok_non, ok_bl, eqv_int, ix40, ix41, ix42, ix43, Int.toNat_natCast, true_and, and_true]
              rw [hno (fun z => c3 z.2.2)]
              exact ⟨rfl, _, _, _, _, _, rfl⟩
        · simp only [c1, decide_false, wNext, wSeq, wBreak, wCont, wDrop, wRet, wSet, wPar, wIfS, wgName, wgNil, wgCons, wgTup, tupOf, wgLst, lstOf, wgSub, wAsg, putC, wAug, fAddI, fIxL, wAugS, wApp, wExt, putD, wFldS, wVar, dAt, wC, wBin, wUn, fSub_ii, fDiv_ii, fMod_ii, fPow_ii, fLt_ii, fLe_ii, fGt_ii, fGe_ii, fNeg_i, fAdd_ii, fAdd_tt, fAdd_ss, fAdd_ll, fAdd_c, fAdd_lc, fMul_ii, fMul_ti, fMul_li, fMul_ci, fMulC, lsOf, sqOf, wTest, wChain, wTAnd, wTOr, wTNot, wAndV, wOrV, wNotV, wIf, plOf, fEq, fNe, fIn, fIsN, fNotN, isNon, fFld, wFld, fIx, wNoPart, wPart, wSl, wNil, wCons, wStar, allP, allP_map, wTup, wLst, wLstC, wiSeq, wiRng1, wiRng2, wFor, wLc, wLcC, wLc2, wtYes, wiEnum, wiZip, wCB, fLen_s, fLen_t, fLen_l, fLen_c, fMax_ii, fMax_iii, fMax_l, fMin_ii, fMin_t, fMin_l, fMin_c, fSum, fAll, fAny, fList, fListC, fTuple, fSorted, fInt_i, fInt_b, fInt_s, fStr, sqF, fIsT, wIsT, tyName, kit_nt, kit_bt, kit_it, kit_st, kit_tt, kit_lt, kit_ni, kit_bi, kit_ii, kit_si, kit_ti, kit_li, kit_nb, kit_bb, kit_ib, kit_sb, kit_tb, kit_lb, wCallP0, wCallR0, wCallN0, wCallP, wCallR, wCallRf, wCallN, wMake, wMake0, wMakeC, wRaise, wNever, En.xp, enP, enR, enN, rtP, rtR, rtN, entry, List.map_cons, List.map_nil, List.cons_append, List.nil_append, List.append_nil, List.length_cons, List.length_nil, List.replicate, List.set_cons_zero, List.set_cons_succ, List.getElem?_cons_zero, List.getElem?_cons_succ, List.getElem?_nil, Option.getD_some, Option.getD_none, ite_true, ite_false, Bool.not_true, Bool.not_false, Bool.true_and, Bool.and_true, Bool.and_false, Bool.false_and, Bool.not_eq_true, Bool.false_eq_true, reduceIte, decide_eq_true_eq, atI_zero, atI_one, atI_two, atI_three, atI_four, atI_m1, wipeD, reduceCtorEq, ok_int, ok_non, ok_bl, eqv_int, ix40, ix41, ix42, ix43, Int.toNat_natCast, true_and, and_true]
          rw [hno (fun z => c1 z.1)]
          exact ⟨rfl, _, _, _, _, _, rfl⟩
      · rintro _ _ ⟨rfl, s5, s7, s8, s9, s10, rfl⟩
        simp only [enumP_len, List.length_map, w_ring_rows_4, wNext, wSeq, wBreak, wCont, wDrop, wRet, wSet, wPar, wIfS, wgName, wgNil, wgCons, wgTup, tupOf, wgLst, lstOf, wgSub, wAsg, putC, wAug, fAddI, fIxL, wAugS, wApp, wExt, putD, wFldS, wVar, dAt, wC, wBin, wUn, fSub_ii, fDiv_ii, fMod_ii, fPow_ii, fLt_ii, fLe_ii, fGt_ii, fGe_ii, fNeg_i, fAdd_ii, fAdd_tt, fAdd_ss, fAdd_ll, fAdd_c, fAdd_lc, fMul_ii, fMul_ti, fMul_li, fMul_ci, fMulC, lsOf, sqOf, wTest, wChain, wTAnd, wTOr, wTNot, wAndV, wOrV, wNotV, wIf, plOf, fEq, fNe, fIn, fIsN, fNotN, isNon, fFld, wFld, fIx, wNoPart, wPart, wSl, wNil, wCons, wStar, allP, allP_map, wTup, wLst, wLstC, wiSeq, wiRng1, wiRng2, wFor, wLc, wLcC, wLc2, wtYes, wiEnum, wiZip, wCB, fLen_s, fLen_t, fLen_l, fLen_c, fMax_ii, fMax_iii, fMax_l, fMin_ii, fMin_t, fMin_l, fMin_c, fSum, fAll, fAny, fList, fListC, fTuple, fSorted, fInt_i, fInt_b, fInt_s, fStr, sqF, fIsT, wIsT, tyName, kit_nt, kit_bt, kit_it, kit_st, kit_tt, kit_lt, kit_ni, kit_bi, kit_ii, kit_si, kit_ti, kit_li, kit_nb, kit_bb, kit_ib, kit_sb, kit_tb, kit_lb, wCallP0, wCallR0, wCallN0, wCallP, wCallR, wCallRf, wCallN, wMake, wMake0, wMakeC, wRaise, wNever, En.xp, enP, enR, enN, rtP, rtR, rtN, entry, List.map_cons, List.map_nil, List.cons_append, List.nil_append, List.append_nil, List.length_cons, List.length_nil, List.replicate, List.set_cons_zero, List.set_cons_succ, List.getElem?_cons_zero, List.getElem?_cons_succ, List.getElem?_nil, Option.getD_some, Option.getD_none, ite_true, ite_false, Bool.not_true, Bool.not_false, Bool.true_and, Bool.and_true, Bool.and_false, Bool.false_and, Bool.not_eq_true, Bool.false_eq_true, reduceIte, decide_eq_true_eq, atI_zero, atI_one, atI_two, atI_three, atI_four, atI_m1, wipeD, reduceCtorEq, ok_int, ok_non, ok_bl, eqv_int, ix40, ix41, ix42, ix43, Int.toNat_natCast, true_and, and_true]
        exact h
end DL

set_option Elab.async false
set_option linter.all false
set_option maxRecDepth 100000
set_option maxHeartbeats 4000000
namespace DL
open PySem L2
theorem lc2_map {ds : De} {vs vs1 : List Nat} {xs : List PD} {stab : Mu → Prop} {wg wg1 : WG} {wi1 : WI} {we : WE} {m : Mu} {F : List PD → Mu → Prop} (f : PD → List PD) (g : PD → PD → PD) (hs : stab m)
    (hlen : (xs.flatMap fun x => (f x).map (g x)).length ≤ big)
    (step : ∀ (i : Nat) x (N : De → List PD → (Mu → Prop) → Mu → Prop), xs[i]? = some x →
      (∀ ds2 stab1, stab1 m → (∀ (j : Nat) y (J : PD → Mu → Prop), (f x)[j]? = some y → J (g x y) m → wg1 (.p y) (wipeD ds2 vs1) m (fun ds3 m5 => we ds3 m5 (fun z m7 => match z with | .p z => J z m7 | .c _ => False) noX)) → N ds2 (f x) stab1 m) →
      wg (.p x) (wipeD ds vs) m (fun ds2 m2 => wi1 ds2 m2 (fun ys stab1 m4 => N ds2 ys stab1 m4) noX))
    (fin : F (xs.flatMap fun x => (f x).map (g x)) m) : Lc2I ds vs vs1 xs stab wg wtYes wi1 wg1 wtYes we m F := by
  refine ⟨fun i acc m' => m' = m ∧ acc = (xs.take i).flatMap fun x => (f x).map (g x), ⟨rfl, by simp⟩, fun i acc m' h => h.1 ▸ hs, fun i x acc m' hx h => ?_, fun acc m' h => ?_⟩
  · obtain ⟨rfl, rfl⟩ := h
    have ht : xs.take (i + 1) = xs.take i ++ [x] := by
      rw [List.take_add_one, hx]
      rfl
    have hsub : ((xs.take i).flatMap fun x => (f x).map (g x)).length + (f x).length ≤ big := by
      refine Nat.le_trans ?_ hlen
      have h1 : ((xs.take (i + 1)).flatMap fun x => (f x).map (g x)).length ≤ (xs.flatMap fun x => (f x).map (g x)).length := by
        conv => rhs; rw [← List.take_append_drop (i + 1) xs]
        rw [List.flatMap_append, List.length_append]
        omega
      rw [ht, List.flatMap_append, List.length_append] at h1
      simp only [List.flatMap_cons, List.flatMap_nil, List.append_nil, List.length_map] at h1
      omega
    show wg (.p x) (wipeD ds vs) m' _
    refine step i x (fun ds2 ys stab1 m4 => ∃ J : Nat → List PD → Mu → Prop, J 0 ((xs.take i).flatMap fun x => (f x).map (g x)) m4 ∧ (∀ j acc m', J j acc m' → stab1 m') ∧ _ ∧ _) hx fun ds2 stab1 hst hstep => ?_
    refine ⟨fun j acc m4 => m4 = m' ∧ acc = ((xs.take i).flatMap fun x => (f x).map (g x)) ++ ((f x).take j).map (g x), ⟨rfl, by simp⟩, fun j acc m4 h => h.1 ▸ hst, fun j y acc m4 hy h => ?_, fun acc m4 h => ?_⟩
    · obtain ⟨rfl, rfl⟩ := h
      have hj : j < (f x).length := (List.getElem?_eq_some_iff.mp hy).1
      refine hstep j y (fun z m7 => _ ∧ (m7 = m4 ∧ _ = _)) hy ⟨?_, rfl, ?_⟩
      · rw [List.length_append, List.length_map, List.length_take]
        omega
      · rw [List.take_add_one, hy, List.map_append, ← List.append_assoc]
        rfl
    · obtain ⟨rfl, rfl⟩ := h
      refine ⟨rfl, ?_⟩
      rw [ht, List.flatMap_append, List.take_length]
      simp
  · obtain ⟨rfl, rfl⟩ := h
    rw [List.take_length]
    exact fin
end DL

set_option Elab.async false
set_option linter.all false
set_option maxRecDepth 100000
set_option maxHeartbeats 4000000
namespace DL
open PySem L2
/-! ### rings sorted -/
theorem pys_ints (l : List Int) : PD.pys (l.map PD.int) = l.map PyData.int := by
  rw [pys_map, List.map_map]
  rfl
theorem ringP_py (r : List Nat) : (ringP r).py = .tuple ((r.map fun i : Nat => (i : Int)).map PyData.int) := by
  have : (r.map fun i : Nat => PD.int i) = (r.map fun i : Nat => (i : Int)).map PD.int := by rw [List.map_map]; rfl
  simp only [ringP, PD.py, this, pys_ints]
theorem le_ring (p q : List Nat) : PD.le (ringP p) (ringP q) = rle p q := by
  unfold PD.le
  rw [PySem.W.dataLe_eq]
  show (!PySem.W.dataLt (ringP q).py (ringP p).py) = _
  rw [ringP_py, ringP_py, PySem.W.dataLt_tuple]
  show (!PySem.W.rowLt _ _) = _
  rw [PySem.W.dataLt_ints]
  unfold rle
  by_cases h : (q.map fun i : Nat => (i : Int)) < p.map fun i : Nat => (i : Int)
  · have h' : ¬ (p.map fun i : Nat => (i : Int)) ≤ q.map fun i : Nat => (i : Int) := fun r => List.not_lt.mpr r h
    simp [h, h']
  · have h' := List.not_lt.mp h
    simp [h, h']
theorem sortP_rings (rs : List (List Nat)) : sortP (rs.map ringP) = (rs.mergeSort rle).map ringP := by
  unfold sortP
  exact (List.map_mergeSort fun p _ q _ => (le_ring p q).symm).symm
theorem natmap_inj {p q : List Nat} (h : (p.map fun i : Nat => (i : Int)) = q.map fun i : Nat => (i : Int)) : p = q := (List.map_inj_right (fun a b e => Int.ofNat.inj e)).mp h
theorem rle_trans (a b c : List Nat) (h1 : rle a b = true) (h2 : rle b c = true) : rle a c = true := by
  simp only [rle, decide_eq_true_eq] at *
  exact List.le_trans h1 h2
theorem rle_total (a b : List Nat) : (rle a b || rle b a) = true := by
  simp only [rle, Bool.or_eq_true, decide_eq_true_eq]
  exact List.le_total _ _
theorem rle_anti (a b : List Nat) (h1 : rle a b = true) (h2 : rle b a = true) : a = b := by
  simp only [rle, decide_eq_true_eq] at *
  exact natmap_inj (List.le_antisymm h1 h2)
theorem rsort_perm {rs ts : List (List Nat)} (h : rs.Perm ts) : rs.mergeSort rle = ts.mergeSort rle :=
  List.Perm.eq_of_pairwise (fun a b _ _ h1 h2 => rle_anti a b h1 h2) (List.pairwise_mergeSort rle_trans rle_total rs) (List.pairwise_mergeSort rle_trans rle_total ts) (((List.mergeSort_perm rs rle).trans h).trans (List.mergeSort_perm ts rle).symm)
theorem ringP_pl (r : List Nat) : (ringP r).pl 5 = true := by simp [ringP, PD.pl]
theorem srt_rings {rs : List (List Nat)} (hn : ∀ r ∈ rs, r ≠ []) (hl : rs.length ≤ big) : SrtOk (rs.map ringP) := by
  refine ⟨fun x hx => ?_, ?_, .inl fun d hd => ?_, by rw [List.length_map]; exact hl⟩
  · obtain ⟨r, _, rfl⟩ := List.mem_map.mp hx
    exact pl_ok20 (ringP_pl r)
  · intro d hd d' hd'
    obtain ⟨x, hx, rfl⟩ := List.mem_map.mp hd
    obtain ⟨y, hy, rfl⟩ := List.mem_map.mp hd'
    obtain ⟨r, _, rfl⟩ := List.mem_map.mp hx
    obtain ⟨t, _, rfl⟩ := List.mem_map.mp hy
    rw [ringP_py, ringP_py]
    simp only [PySem.W.alike]
    exact PySem.W.alike_ints _ _
  · obtain ⟨x, hx, rfl⟩ := List.mem_map.mp hd
    obtain ⟨r, hr, rfl⟩ := List.mem_map.mp hx
    rw [ringP_py]
    match r, hn r hr with
    | i :: t, _ => exact ⟨_, _, rfl⟩
theorem steps6 {l : Lp} (ok : l.Ok) : Steps l.bars 6 := fun b hb => by
  have := steps_of ok b hb
  have := ok.s5
  omega
theorem steps5 {l : Lp} (ok : l.Ok) : Steps l.bars 5 := fun b hb => by
  have := steps_of ok b hb
  have := ok.s5
  omega
theorem dAll_len {l : Lp} (ok : l.Ok) : (dAll l.bars 6).length ≤ 100000 := by
  have hp : (dAll l.bars 6).Perm (dAll l.bars 5) := by
    rw [List.perm_ext_iff_of_nodup (dAll_nodup _ _) (dAll_nodup _ _)]
    exact fun r => (mem_dAll _ (steps6 ok) r).trans (mem_dAll _ (steps5 ok) r).symm
  rw [hp.length_eq]
  unfold dAll
  have : ∀ L : List Nat, (L.flatMap (begun l.bars 5)).length ≤ L.length * 10000 := by
    intro L
    induction L with
    | nil => simp
    | cons i r ih =>
      rw [List.flatMap_cons, List.length_append, List.length_cons]
      have h1 : (begun l.bars 5 i).length ≤ 10000 := by
        unfold begun
        split
        · exact dfs_len _ ok.b10 4 _
        · simp
      omega
  have h2 := this (List.range l.bars.length)
  have := ok.b10
  rw [List.length_range] at h2
  omega
theorem ring_ne {l : Lp} (ok : l.Ok) {r : List Nat} (h : r ∈ dAll l.bars 6) : r ≠ [] := by
  obtain ⟨a, hr⟩ := (mem_dAll _ (steps6 ok) r).mp h
  exact hr.ne
theorem mem_rings {l : Lp} (ok : l.Ok) {r : List Nat} : r ∈ ringsN l ↔ IsRing l.bars r := by
  unfold ringsN
  rw [(List.mergeSort_perm _ _).mem_iff, mem_dAll _ (steps6 ok)]
theorem rings_len {l : Lp} (ok : l.Ok) : (ringsN l).length ≤ 100000 := by
  unfold ringsN
  rw [List.length_mergeSort]
  exact dAll_len ok
theorem ring_in {l : Lp} (ok : l.Ok) {r : List Nat} (h : r ∈ ringsN l) : isIn l r ∧ r.length ≤ 100 := by
  obtain ⟨a, hr⟩ := (mem_rings ok).mp h
  refine ⟨chain_mem _ hr.ch, ?_⟩
  have := ring_len _ (steps5 ok) hr
  omega
/-! ### the defs -/
theorem z_begun {q : Ad} (args : List PD) (P : PD → Prop) (Xp : RX) (h : r_begun q args P Xp) : w_begun q (enP P Xp) (entry n_begun.length (args.map D.p)) [] := by
  obtain ⟨l, i, rfl, ok, hi, h⟩ := h
  simp only [w_begun, w_begun_2, wNext, wSeq, wBreak, wCont, wDrop, wRet, wSet, wPar, wIfS, wgName, wgNil, wgCons, wgTup, tupOf, wgLst, lstOf, wgSub, wAsg, putC, wAug, fAddI, fIxL, wAugS, wApp, wExt, putD, wFldS, wVar, dAt, wC, wBin, wUn, fSub_ii, fDiv_ii, fMod_ii, fPow_ii, fLt_ii, fLe_ii, fGt_ii, fGe_ii, fNeg_i, fAdd_ii, fAdd_tt, fAdd_ss, fAdd_ll, fAdd_c, fAdd_lc, fMul_ii, fMul_ti, fMul_li, fMul_ci, fMulC, lsOf, sqOf, wTest, wChain, wTAnd, wTOr, wTNot, wAndV, wOrV, wNotV, wIf, plOf, fEq, fNe, fIn, fIsN, fNotN, isNon, fFld, wFld, fIx, wNoPart, wPart, wSl, wNil, wCons, wStar, allP, allP_map, wTup, wLst, wLstC, wiSeq, wiRng1, wiRng2, wFor, wLc, wLcC, wLc2, wtYes, wiEnum, wiZip, wCB, fLen_s, fLen_t, fLen_l, fLen_c, fMax_ii, fMax_iii, fMax_l, fMin_ii, fMin_t, fMin_l, fMin_c, fSum, fAll, fAny, fList, fListC, fTuple, fSorted, fInt_i, fInt_b, fInt_s, fStr, sqF, fIsT, wIsT, tyName, kit_nt, kit_bt, kit_it, kit_st, kit_tt, kit_lt, kit_ni, kit_bi, kit_ii, kit_si, kit_ti, kit_li, kit_nb, kit_bb, kit_ib, kit_sb, kit_tb, kit_lb, wCallP0, wCallR0, wCallN0, wCallP, wCallR, wCallRf, wCallN, wMake, wMake0, wMakeC, wRaise, wNever, En.xp, enP, enR, enN, rtP, rtR, rtN, entry, List.map_cons, List.map_nil, List.cons_append, List.nil_append, List.append_nil, List.length_cons, List.length_nil, List.replicate, List.set_cons_zero, List.set_cons_succ, List.getElem?_cons_zero, List.getElem?_cons_succ, List.getElem?_nil, Option.getD_some, Option.getD_none, ite_true, ite_false, Bool.not_true, Bool.not_false, Bool.true_and, Bool.and_true, Bool.and_false, Bool.false_and, Bool.not_eq_true, Bool.false_eq_true, reduceIte, decide_eq_true_eq, atI_zero, atI_one, atI_two, atI_three, atI_four, atI_m1, wipeD, reduceCtorEq, ok_int, ok_non, ok_bl, eqv_int, ix40, ix41, ix42, ix43, Int.toNat_natCast, true_and, and_true, n_begun, enP_pd, lk_bars, Lp.bP, bar_at hi, w_begun_1]
  by_cases c : bOne l.bars i ≤ bOth l.bars i
  · simp only [c, decide_true, wNext, wSeq, wBreak, wCont, wDrop, wRet, wSet, wPar, wIfS, wgName, wgNil, wgCons, wgTup, tupOf, wgLst, lstOf, wgSub, wAsg, putC, wAug, fAddI, fIxL, wAugS, wApp, wExt, putD, wFldS, wVar, dAt, wC, wBin, wUn, fSub_ii, fDiv_ii, fMod_ii, fPow_ii, fLt_ii, fLe_ii, fGt_ii, fGe_ii, fNeg_i, fAdd_ii, fAdd_tt, fAdd_ss, fAdd_ll, fAdd_c, fAdd_lc, fMul_ii, fMul_ti, fMul_li, fMul_ci, fMulC, lsOf, sqOf, wTest, wChain, wTAnd, wTOr, wTNot, wAndV, wOrV, wNotV, wIf, plOf, fEq, fNe, fIn, fIsN, fNotN, isNon, fFld, wFld, fIx, wNoPart, wPart, wSl, wNil, wCons, wStar, allP, allP_map, wTup, wLst, wLstC, wiSeq, wiRng1, wiRng2, wFor, wLc, wLcC, wLc2, wtYes, wiEnum, wiZip, wCB, fLen_s, fLen_t, fLen_l, fLen_c, fMax_ii, fMax_iii, fMax_l, fMin_ii, fMin_t, fMin_l, fMin_c, fSum, fAll, fAny, fList, fListC, fTuple, fSorted, fInt_i, fInt_b, fInt_s, fStr, sqF, fIsT, wIsT, tyName, kit_nt, kit_bt, kit_it, kit_st, kit_tt, kit_lt, kit_ni, kit_bi, kit_ii, kit_si, kit_ti, kit_li, kit_nb, kit_bb, kit_ib, kit_sb, kit_tb, kit_lb, wCallP0, wCallR0, wCallN0, wCallP, wCallR, wCallRf, wCallN, wMake, wMake0, wMakeC, wRaise, wNever, En.xp, enP, enR, enN, rtP, rtR, rtN, entry, List.map_cons, List.map_nil, List.cons_append, List.nil_append, List.append_nil, List.length_cons, List.length_nil, List.replicate, List.set_cons_zero, List.set_cons_succ, List.getElem?_cons_zero, List.getElem?_cons_succ, List.getElem?_nil, Option.getD_some, Option.getD_none, ite_true, ite_false, Bool.not_true, Bool.not_false, Bool.true_and, Bool.and_true, Bool.and_false, Bool.false_and, Bool.not_eq_true, Bool.false_eq_true, reduceIte, decide_eq_true_eq, atI_zero, atI_one, atI_two, atI_three, atI_four, atI_m1, wipeD, reduceCtorEq, ok_int, ok_non, ok_bl, eqv_int, ix40, ix41, ix42, ix43, Int.toNat_natCast, true_and, and_true]
    unfold begun at h
    rw [if_pos c] at h
    have := ok.s5
    exact ⟨by decide, l, [i], rfl, ok, by simp, ⟨_, _, hi, rfl, rfl⟩, by simp, by simp; omega, Nat.le_refl _, by simp, h⟩
  · simp only [c, decide_false, wNext, wSeq, wBreak, wCont, wDrop, wRet, wSet, wPar, wIfS, wgName, wgNil, wgCons, wgTup, tupOf, wgLst, lstOf, wgSub, wAsg, putC, wAug, fAddI, fIxL, wAugS, wApp, wExt, putD, wFldS, wVar, dAt, wC, wBin, wUn, fSub_ii, fDiv_ii, fMod_ii, fPow_ii, fLt_ii, fLe_ii, fGt_ii, fGe_ii, fNeg_i, fAdd_ii, fAdd_tt, fAdd_ss, fAdd_ll, fAdd_c, fAdd_lc, fMul_ii, fMul_ti, fMul_li, fMul_ci, fMulC, lsOf, sqOf, wTest, wChain, wTAnd, wTOr, wTNot, wAndV, wOrV, wNotV, wIf, plOf, fEq, fNe, fIn, fIsN, fNotN, isNon, fFld, wFld, fIx, wNoPart, wPart, wSl, wNil, wCons, wStar, allP, allP_map, wTup, wLst, wLstC, wiSeq, wiRng1, wiRng2, wFor, wLc, wLcC, wLc2, wtYes, wiEnum, wiZip, wCB, fLen_s, fLen_t, fLen_l, fLen_c, fMax_ii, fMax_iii, fMax_l, fMin_ii, fMin_t, fMin_l, fMin_c, fSum, fAll, fAny, fList, fListC, fTuple, fSorted, fInt_i, fInt_b, fInt_s, fStr, sqF, fIsT, wIsT, tyName, kit_nt, kit_bt, kit_it, kit_st, kit_tt, kit_lt, kit_ni, kit_bi, kit_ii, kit_si, kit_ti, kit_li, kit_nb, kit_bb, kit_ib, kit_sb, kit_tb, kit_lb, wCallP0, wCallR0, wCallN0, wCallP, wCallR, wCallRf, wCallN, wMake, wMake0, wMakeC, wRaise, wNever, En.xp, enP, enR, enN, rtP, rtR, rtN, entry, List.map_cons, List.map_nil, List.cons_append, List.nil_append, List.append_nil, List.length_cons, List.length_nil, List.replicate, List.set_cons_zero, List.set_cons_succ, List.getElem?_cons_zero, List.getElem?_cons_succ, List.getElem?_nil, Option.getD_some, Option.getD_none, ite_true, ite_false, Bool.not_true, Bool.not_false, Bool.true_and, Bool.and_true, Bool.and_false, Bool.false_and, Bool.not_eq_true, Bool.false_eq_true, reduceIte, decide_eq_true_eq, atI_zero, atI_one, atI_two, atI_three, atI_four, atI_m1, wipeD, reduceCtorEq, ok_int, ok_non, ok_bl, eqv_int, ix40, ix41, ix42, ix43, Int.toNat_natCast, true_and, and_true]
    unfold begun at h
    rw [if_neg c] at h
    exact ⟨by decide, h⟩
theorem z_rings_of {q : Ad} (args : List PD) (P : PD → Prop) (Xp : RX) (h : r_rings_of q args P Xp) : w_rings_of q (enP P Xp) (entry n_rings_of.length (args.map D.p)) [] := by
  obtain ⟨l, rfl, ok, h⟩ := h
  have hb := ok.b10
  simp only [w_rings_of, w_rings_of_1, wNext, wSeq, wBreak, wCont, wDrop, wRet, wSet, wPar, wIfS, wgName, wgNil, wgCons, wgTup, tupOf, wgLst, lstOf, wgSub, wAsg, putC, wAug, fAddI, fIxL, wAugS, wApp, wExt, putD, wFldS, wVar, dAt, wC, wBin, wUn, fSub_ii, fDiv_ii, fMod_ii, fPow_ii, fLt_ii, fLe_ii, fGt_ii, fGe_ii, fNeg_i, fAdd_ii, fAdd_tt, fAdd_ss, fAdd_ll, fAdd_c, fAdd_lc, fMul_ii, fMul_ti, fMul_li, fMul_ci, fMulC, lsOf, sqOf, wTest, wChain, wTAnd, wTOr, wTNot, wAndV, wOrV, wNotV, wIf, plOf, fEq, fNe, fIn, fIsN, fNotN, isNon, fFld, wFld, fIx, wNoPart, wPart, wSl, wNil, wCons, wStar, allP, allP_map, wTup, wLst, wLstC, wiSeq, wiRng1, wiRng2, wFor, wLc, wLcC, wLc2, wtYes, wiEnum, wiZip, wCB, fLen_s, fLen_t, fLen_l, fLen_c, fMax_ii, fMax_iii, fMax_l, fMin_ii, fMin_t, fMin_l, fMin_c, fSum, fAll, fAny, fList, fListC, fTuple, fSorted, fInt_i, fInt_b, fInt_s, fStr, sqF, fIsT, wIsT, tyName, kit_nt, kit_bt, kit_it, kit_st, kit_tt, kit_lt, kit_ni, kit_bi, kit_ii, kit_si, kit_ti, kit_li, kit_nb, kit_bb, kit_ib, kit_sb, kit_tb, kit_lb, wCallP0, wCallR0, wCallN0, wCallP, wCallR, wCallRf, wCallN, wMake, wMake0, wMakeC, wRaise, wNever, En.xp, enP, enR, enN, rtP, rtR, rtN, entry, List.map_cons, List.map_nil, List.cons_append, List.nil_append, List.append_nil, List.length_cons, List.length_nil, List.replicate, List.set_cons_zero, List.set_cons_succ, List.getElem?_cons_zero, List.getElem?_cons_succ, List.getElem?_nil, Option.getD_some, Option.getD_none, ite_true, ite_false, Bool.not_true, Bool.not_false, Bool.true_and, Bool.and_true, Bool.and_false, Bool.false_and, Bool.not_eq_true, Bool.false_eq_true, reduceIte, decide_eq_true_eq, atI_zero, atI_one, atI_two, atI_three, atI_four, atI_m1, wipeD, reduceCtorEq, ok_int, ok_non, ok_bl, eqv_int, ix40, ix41, ix42, ix43, Int.toNat_natCast, true_and, and_true, n_rings_of, enP_pd, lk_bars, Lp.bP, List.length_map]
  refine ⟨okR_small (by omega) (by omega), ?_⟩
  have e : (rng 0 l.bars.length).flatMap (fun x => ((match x with | .int i => (begun l.bars 6 i.toNat).map ringP | _ => []) : List PD).map fun y => y) = (dAll l.bars 6).map ringP := by
    unfold rng dAll
    rw [List.map_flatMap, List.flatMap_map]
    congr 1
    funext i
    simp
  refine lc2_map (fun x => match x with | .int i => (begun l.bars 6 i.toNat).map ringP | _ => []) (fun _ y => y) trivial ?_ (fun i x N hx hN => ?_) ?_
  · rw [e, List.length_map]
    exact dAll_len ok
  · obtain ⟨hi, rfl⟩ := rng_inv hx
    simp only [wNext, wSeq, wBreak, wCont, wDrop, wRet, wSet, wPar, wIfS, wgName, wgNil, wgCons, wgTup, tupOf, wgLst, lstOf, wgSub, wAsg, putC, wAug, fAddI, fIxL, wAugS, wApp, wExt, putD, wFldS, wVar, dAt, wC, wBin, wUn, fSub_ii, fDiv_ii, fMod_ii, fPow_ii, fLt_ii, fLe_ii, fGt_ii, fGe_ii, fNeg_i, fAdd_ii, fAdd_tt, fAdd_ss, fAdd_ll, fAdd_c, fAdd_lc, fMul_ii, fMul_ti, fMul_li, fMul_ci, fMulC, lsOf, sqOf, wTest, wChain, wTAnd, wTOr, wTNot, wAndV, wOrV, wNotV, wIf, plOf, fEq, fNe, fIn, fIsN, fNotN, isNon, fFld, wFld, fIx, wNoPart, wPart, wSl, wNil, wCons, wStar, allP, allP_map, wTup, wLst, wLstC, wiSeq, wiRng1, wiRng2, wFor, wLc, wLcC, wLc2, wtYes, wiEnum, wiZip, wCB, fLen_s, fLen_t, fLen_l, fLen_c, fMax_ii, fMax_iii, fMax_l, fMin_ii, fMin_t, fMin_l, fMin_c, fSum, fAll, fAny, fList, fListC, fTuple, fSorted, fInt_i, fInt_b, fInt_s, fStr, sqF, fIsT, wIsT, tyName, kit_nt, kit_bt, kit_it, kit_st, kit_tt, kit_lt, kit_ni, kit_bi, kit_ii, kit_si, kit_ti, kit_li, kit_nb, kit_bb, kit_ib, kit_sb, kit_tb, kit_lb, wCallP0, wCallR0, wCallN0, wCallP, wCallR, wCallRf, wCallN, wMake, wMake0, wMakeC, wRaise, wNever, En.xp, enP, enR, enN, rtP, rtR, rtN, entry, List.map_cons, List.map_nil, List.cons_append, List.nil_append, List.append_nil, List.length_cons, List.length_nil, List.replicate, List.set_cons_zero, List.set_cons_succ, List.getElem?_cons_zero, List.getElem?_cons_succ, List.getElem?_nil, Option.getD_some, Option.getD_none, ite_true, ite_false, Bool.not_true, Bool.not_false, Bool.true_and, Bool.and_true, Bool.and_false, Bool.false_and, Bool.not_eq_true, Bool.false_eq_true, reduceIte, decide_eq_true_eq, atI_zero, atI_one, atI_two, atI_three, atI_four, atI_m1, wipeD, reduceCtorEq, ok_int, ok_non, ok_bl, eqv_int, ix40, ix41, ix42, ix43, Int.toNat_natCast, true_and, and_true, Int.zero_add]
    refine ⟨l, i, rfl, ok, hi, ?_⟩
    simp only [wNext, wSeq, wBreak, wCont, wDrop, wRet, wSet, wPar, wIfS, wgName, wgNil, wgCons, wgTup, tupOf, wgLst, lstOf, wgSub, wAsg, putC, wAug, fAddI, fIxL, wAugS, wApp, wExt, putD, wFldS, wVar, dAt, wC, wBin, wUn, fSub_ii, fDiv_ii, fMod_ii, fPow_ii, fLt_ii, fLe_ii, fGt_ii, fGe_ii, fNeg_i, fAdd_ii, fAdd_tt, fAdd_ss, fAdd_ll, fAdd_c, fAdd_lc, fMul_ii, fMul_ti, fMul_li, fMul_ci, fMulC, lsOf, sqOf, wTest, wChain, wTAnd, wTOr, wTNot, wAndV, wOrV, wNotV, wIf, plOf, fEq, fNe, fIn, fIsN, fNotN, isNon, fFld, wFld, fIx, wNoPart, wPart, wSl, wNil, wCons, wStar, allP, allP_map, wTup, wLst, wLstC, wiSeq, wiRng1, wiRng2, wFor, wLc, wLcC, wLc2, wtYes, wiEnum, wiZip, wCB, fLen_s, fLen_t, fLen_l, fLen_c, fMax_ii, fMax_iii, fMax_l, fMin_ii, fMin_t, fMin_l, fMin_c, fSum, fAll, fAny, fList, fListC, fTuple, fSorted, fInt_i, fInt_b, fInt_s, fStr, sqF, fIsT, wIsT, tyName, kit_nt, kit_bt, kit_it, kit_st, kit_tt, kit_lt, kit_ni, kit_bi, kit_ii, kit_si, kit_ti, kit_li, kit_nb, kit_bb, kit_ib, kit_sb, kit_tb, kit_lb, wCallP0, wCallR0, wCallN0, wCallP, wCallR, wCallRf, wCallN, wMake, wMake0, wMakeC, wRaise, wNever, En.xp, enP, enR, enN, rtP, rtR, rtN, entry, List.map_cons, List.map_nil, List.cons_append, List.nil_append, List.append_nil, List.length_cons, List.length_nil, List.replicate, List.set_cons_zero, List.set_cons_succ, List.getElem?_cons_zero, List.getElem?_cons_succ, List.getElem?_nil, Option.getD_some, Option.getD_none, ite_true, ite_false, Bool.not_true, Bool.not_false, Bool.true_and, Bool.and_true, Bool.and_false, Bool.false_and, Bool.not_eq_true, Bool.false_eq_true, reduceIte, decide_eq_true_eq, atI_zero, atI_one, atI_two, atI_three, atI_four, atI_m1, wipeD, reduceCtorEq, ok_int, ok_non, ok_bl, eqv_int, ix40, ix41, ix42, ix43, Int.toNat_natCast, true_and, and_true]
    simp only [Int.zero_add, Int.toNat_natCast] at hN
    refine hN _ _ trivial fun j y J hy hJ => ?_
    simp only [wNext, wSeq, wBreak, wCont, wDrop, wRet, wSet, wPar, wIfS, wgName, wgNil, wgCons, wgTup, tupOf, wgLst, lstOf, wgSub, wAsg, putC, wAug, fAddI, fIxL, wAugS, wApp, wExt, putD, wFldS, wVar, dAt, wC, wBin, wUn, fSub_ii, fDiv_ii, fMod_ii, fPow_ii, fLt_ii, fLe_ii, fGt_ii, fGe_ii, fNeg_i, fAdd_ii, fAdd_tt, fAdd_ss, fAdd_ll, fAdd_c, fAdd_lc, fMul_ii, fMul_ti, fMul_li, fMul_ci, fMulC, lsOf, sqOf, wTest, wChain, wTAnd, wTOr, wTNot, wAndV, wOrV, wNotV, wIf, plOf, fEq, fNe, fIn, fIsN, fNotN, isNon, fFld, wFld, fIx, wNoPart, wPart, wSl, wNil, wCons, wStar, allP, allP_map, wTup, wLst, wLstC, wiSeq, wiRng1, wiRng2, wFor, wLc, wLcC, wLc2, wtYes, wiEnum, wiZip, wCB, fLen_s, fLen_t, fLen_l, fLen_c, fMax_ii, fMax_iii, fMax_l, fMin_ii, fMin_t, fMin_l, fMin_c, fSum, fAll, fAny, fList, fListC, fTuple, fSorted, fInt_i, fInt_b, fInt_s, fStr, sqF, fIsT, wIsT, tyName, kit_nt, kit_bt, kit_it, kit_st, kit_tt, kit_lt, kit_ni, kit_bi, kit_ii, kit_si, kit_ti, kit_li, kit_nb, kit_bb, kit_ib, kit_sb, kit_tb, kit_lb, wCallP0, wCallR0, wCallN0, wCallP, wCallR, wCallRf, wCallN, wMake, wMake0, wMakeC, wRaise, wNever, En.xp, enP, enR, enN, rtP, rtR, rtN, entry, List.map_cons, List.map_nil, List.cons_append, List.nil_append, List.append_nil, List.length_cons, List.length_nil, List.replicate, List.set_cons_zero, List.set_cons_succ, List.getElem?_cons_zero, List.getElem?_cons_succ, List.getElem?_nil, Option.getD_some, Option.getD_none, ite_true, ite_false, Bool.not_true, Bool.not_false, Bool.true_and, Bool.and_true, Bool.and_false, Bool.false_and, Bool.not_eq_true, Bool.false_eq_true, reduceIte, decide_eq_true_eq, atI_zero, atI_one, atI_two, atI_three, atI_four, atI_m1, wipeD, reduceCtorEq, ok_int, ok_non, ok_bl, eqv_int, ix40, ix41, ix42, ix43, Int.toNat_natCast, true_and, and_true]
    exact hJ
  · rw [e]
    rw [sortP_rings]
    exact ⟨srt_rings (fun r hr => ring_ne ok hr) (dAll_len ok), h⟩
def ixF (f : Nat → Int) (x : PD) : PD := match x with | .int i => .int (f i.toNat) | _ => .non
theorem ixF_map (f : Nat → Int) (r : List Nat) : (r.map fun i : Nat => PD.int i).map (ixF f) = (r.map f).map PD.int := by
  rw [List.map_map, List.map_map]
  exact List.map_congr_left fun i _ => by simp [ixF]
theorem z_sums_of {q : Ad} (args : List PD) (P : PD → Prop) (Xp : RX) (h : r_sums_of q args P Xp) : w_sums_of q (enP P Xp) (entry n_sums_of.length (args.map D.p)) [] := by
  obtain ⟨l, r, rfl, ok, hr, hl, h⟩ := h
  simp only [w_sums_of, w_sums_of_1, wNext, wSeq, wBreak, wCont, wDrop, wRet, wSet, wPar, wIfS, wgName, wgNil, wgCons, wgTup, tupOf, wgLst, lstOf, wgSub, wAsg, putC, wAug, fAddI, fIxL, wAugS, wApp, wExt, putD, wFldS, wVar, dAt, wC, wBin, wUn, fSub_ii, fDiv_ii, fMod_ii, fPow_ii, fLt_ii, fLe_ii, fGt_ii, fGe_ii, fNeg_i, fAdd_ii, fAdd_tt, fAdd_ss, fAdd_ll, fAdd_c, fAdd_lc, fMul_ii, fMul_ti, fMul_li, fMul_ci, fMulC, lsOf, sqOf, wTest, wChain, wTAnd, wTOr, wTNot, wAndV, wOrV, wNotV, wIf, plOf, fEq, fNe, fIn, fIsN, fNotN, isNon, fFld, wFld, fIx, wNoPart, wPart, wSl, wNil, wCons, wStar, allP, allP_map, wTup, wLst, wLstC, wiSeq, wiRng1, wiRng2, wFor, wLc, wLcC, wLc2, wtYes, wiEnum, wiZip, wCB, fLen_s, fLen_t, fLen_l, fLen_c, fMax_ii, fMax_iii, fMax_l, fMin_ii, fMin_t, fMin_l, fMin_c, fSum, fAll, fAny, fList, fListC, fTuple, fSorted, fInt_i, fInt_b, fInt_s, fStr, sqF, fIsT, wIsT, tyName, kit_nt, kit_bt, kit_it, kit_st, kit_tt, kit_lt, kit_ni, kit_bi, kit_ii, kit_si, kit_ti, kit_li, kit_nb, kit_bb, kit_ib, kit_sb, kit_tb, kit_lb, wCallP0, wCallR0, wCallN0, wCallP, wCallR, wCallRf, wCallN, wMake, wMake0, wMakeC, wRaise, wNever, En.xp, enP, enR, enN, rtP, rtR, rtN, entry, List.map_cons, List.map_nil, List.cons_append, List.nil_append, List.append_nil, List.length_cons, List.length_nil, List.replicate, List.set_cons_zero, List.set_cons_succ, List.getElem?_cons_zero, List.getElem?_cons_succ, List.getElem?_nil, Option.getD_some, Option.getD_none, ite_true, ite_false, Bool.not_true, Bool.not_false, Bool.true_and, Bool.and_true, Bool.and_false, Bool.false_and, Bool.not_eq_true, Bool.false_eq_true, reduceIte, decide_eq_true_eq, atI_zero, atI_one, atI_two, atI_three, atI_four, atI_m1, wipeD, reduceCtorEq, ok_int, ok_non, ok_bl, eqv_int, ix40, ix41, ix42, ix43, Int.toNat_natCast, true_and, and_true, n_sums_of, ringP]
  refine lc_map (ixF (bMom l.bars)) (by rw [List.length_map]; unfold big; omega) trivial (fun i x J hx hJ => ?_) ?_
  · obtain ⟨k, hk, rfl⟩ := map_inv hx
    simp only [wNext, wSeq, wBreak, wCont, wDrop, wRet, wSet, wPar, wIfS, wgName, wgNil, wgCons, wgTup, tupOf, wgLst, lstOf, wgSub, wAsg, putC, wAug, fAddI, fIxL, wAugS, wApp, wExt, putD, wFldS, wVar, dAt, wC, wBin, wUn, fSub_ii, fDiv_ii, fMod_ii, fPow_ii, fLt_ii, fLe_ii, fGt_ii, fGe_ii, fNeg_i, fAdd_ii, fAdd_tt, fAdd_ss, fAdd_ll, fAdd_c, fAdd_lc, fMul_ii, fMul_ti, fMul_li, fMul_ci, fMulC, lsOf, sqOf, wTest, wChain, wTAnd, wTOr, wTNot, wAndV, wOrV, wNotV, wIf, plOf, fEq, fNe, fIn, fIsN, fNotN, isNon, fFld, wFld, fIx, wNoPart, wPart, wSl, wNil, wCons, wStar, allP, allP_map, wTup, wLst, wLstC, wiSeq, wiRng1, wiRng2, wFor, wLc, wLcC, wLc2, wtYes, wiEnum, wiZip, wCB, fLen_s, fLen_t, fLen_l, fLen_c, fMax_ii, fMax_iii, fMax_l, fMin_ii, fMin_t, fMin_l, fMin_c, fSum, fAll, fAny, fList, fListC, fTuple, fSorted, fInt_i, fInt_b, fInt_s, fStr, sqF, fIsT, wIsT, tyName, kit_nt, kit_bt, kit_it, kit_st, kit_tt, kit_lt, kit_ni, kit_bi, kit_ii, kit_si, kit_ti, kit_li, kit_nb, kit_bb, kit_ib, kit_sb, kit_tb, kit_lb, wCallP0, wCallR0, wCallN0, wCallP, wCallR, wCallRf, wCallN, wMake, wMake0, wMakeC, wRaise, wNever, En.xp, enP, enR, enN, rtP, rtR, rtN, entry, List.map_cons, List.map_nil, List.cons_append, List.nil_append, List.append_nil, List.length_cons, List.length_nil, List.replicate, List.set_cons_zero, List.set_cons_succ, List.getElem?_cons_zero, List.getElem?_cons_succ, List.getElem?_nil, Option.getD_some, Option.getD_none, ite_true, ite_false, Bool.not_true, Bool.not_false, Bool.true_and, Bool.and_true, Bool.and_false, Bool.false_and, Bool.not_eq_true, Bool.false_eq_true, reduceIte, decide_eq_true_eq, atI_zero, atI_one, atI_two, atI_three, atI_four, atI_m1, wipeD, reduceCtorEq, ok_int, ok_non, ok_bl, eqv_int, ix40, ix41, ix42, ix43, Int.toNat_natCast, true_and, and_true, enP_pd, lk_bars, Lp.bP, bar_at (hr k (List.mem_of_getElem? hk))]
    exact hJ
  · rw [ixF_map]
    simp only [wNext, wSeq, wBreak, wCont, wDrop, wRet, wSet, wPar, wIfS, wgName, wgNil, wgCons, wgTup, tupOf, wgLst, lstOf, wgSub, wAsg, putC, wAug, fAddI, fIxL, wAugS, wApp, wExt, putD, wFldS, wVar, dAt, wC, wBin, wUn, fSub_ii, fDiv_ii, fMod_ii, fPow_ii, fLt_ii, fLe_ii, fGt_ii, fGe_ii, fNeg_i, fAdd_ii, fAdd_tt, fAdd_ss, fAdd_ll, fAdd_c, fAdd_lc, fMul_ii, fMul_ti, fMul_li, fMul_ci, fMulC, lsOf, sqOf, wTest, wChain, wTAnd, wTOr, wTNot, wAndV, wOrV, wNotV, wIf, plOf, fEq, fNe, fIn, fIsN, fNotN, isNon, fFld, wFld, fIx, wNoPart, wPart, wSl, wNil, wCons, wStar, allP, allP_map, wTup, wLst, wLstC, wiSeq, wiRng1, wiRng2, wFor, wLc, wLcC, wLc2, wtYes, wiEnum, wiZip, wCB, fLen_s, fLen_t, fLen_l, fLen_c, fMax_ii, fMax_iii, fMax_l, fMin_ii, fMin_t, fMin_l, fMin_c, fSum, fAll, fAny, fList, fListC, fTuple, fSorted, fInt_i, fInt_b, fInt_s, fStr, sqF, fIsT, wIsT, tyName, kit_nt, kit_bt, kit_it, kit_st, kit_tt, kit_lt, kit_ni, kit_bi, kit_ii, kit_si, kit_ti, kit_li, kit_nb, kit_bb, kit_ib, kit_sb, kit_tb, kit_lb, wCallP0, wCallR0, wCallN0, wCallP, wCallR, wCallRf, wCallN, wMake, wMake0, wMakeC, wRaise, wNever, En.xp, enP, enR, enN, rtP, rtR, rtN, entry, List.map_cons, List.map_nil, List.cons_append, List.nil_append, List.append_nil, List.length_cons, List.length_nil, List.replicate, List.set_cons_zero, List.set_cons_succ, List.getElem?_cons_zero, List.getElem?_cons_succ, List.getElem?_nil, Option.getD_some, Option.getD_none, ite_true, ite_false, Bool.not_true, Bool.not_false, Bool.true_and, Bool.and_true, Bool.and_false, Bool.false_and, Bool.not_eq_true, Bool.false_eq_true, reduceIte, decide_eq_true_eq, atI_zero, atI_one, atI_two, atI_three, atI_four, atI_m1, wipeD, reduceCtorEq, ok_int, ok_non, ok_bl, eqv_int, ix40, ix41, ix42, ix43, Int.toNat_natCast, true_and, and_true, allI_map]
    refine lc_map (ixF (bRnd l.bars)) (by rw [List.length_map]; unfold big; omega) trivial (fun i x J hx hJ => ?_) ?_
    · obtain ⟨k, hk, rfl⟩ := map_inv hx
      simp only [wNext, wSeq, wBreak, wCont, wDrop, wRet, wSet, wPar, wIfS, wgName, wgNil, wgCons, wgTup, tupOf, wgLst, lstOf, wgSub, wAsg, putC, wAug, fAddI, fIxL, wAugS, wApp, wExt, putD, wFldS, wVar, dAt, wC, wBin, wUn, fSub_ii, fDiv_ii, fMod_ii, fPow_ii, fLt_ii, fLe_ii, fGt_ii, fGe_ii, fNeg_i, fAdd_ii, fAdd_tt, fAdd_ss, fAdd_ll, fAdd_c, fAdd_lc, fMul_ii, fMul_ti, fMul_li, fMul_ci, fMulC, lsOf, sqOf, wTest, wChain, wTAnd, wTOr, wTNot, wAndV, wOrV, wNotV, wIf, plOf, fEq, fNe, fIn, fIsN, fNotN, isNon, fFld, wFld, fIx, wNoPart, wPart, wSl, wNil, wCons, wStar, allP, allP_map, wTup, wLst, wLstC, wiSeq, wiRng1, wiRng2, wFor, wLc, wLcC, wLc2, wtYes, wiEnum, wiZip, wCB, fLen_s, fLen_t, fLen_l, fLen_c, fMax_ii, fMax_iii, fMax_l, fMin_ii, fMin_t, fMin_l, fMin_c, fSum, fAll, fAny, fList, fListC, fTuple, fSorted, fInt_i, fInt_b, fInt_s, fStr, sqF, fIsT, wIsT, tyName, kit_nt, kit_bt, kit_it, kit_st, kit_tt, kit_lt, kit_ni, kit_bi, kit_ii, kit_si, kit_ti, kit_li, kit_nb, kit_bb, kit_ib, kit_sb, kit_tb, kit_lb, wCallP0, wCallR0, wCallN0, wCallP, wCallR, wCallRf, wCallN, wMake, wMake0, wMakeC, wRaise, wNever, En.xp, enP, enR, enN, rtP, rtR, rtN, entry, List.map_cons, List.map_nil, List.cons_append, List.nil_append, List.append_nil, List.length_cons, List.length_nil, List.replicate, List.set_cons_zero, List.set_cons_succ, List.getElem?_cons_zero, List.getElem?_cons_succ, List.getElem?_nil, Option.getD_some, Option.getD_none, ite_true, ite_false, Bool.not_true, Bool.not_false, Bool.true_and, Bool.and_true, Bool.and_false, Bool.false_and, Bool.not_eq_true, Bool.false_eq_true, reduceIte, decide_eq_true_eq, atI_zero, atI_one, atI_two, atI_three, atI_four, atI_m1, wipeD, reduceCtorEq, ok_int, ok_non, ok_bl, eqv_int, ix40, ix41, ix42, ix43, Int.toNat_natCast, true_and, and_true, enP_pd, lk_bars, Lp.bP, bar_at (hr k (List.mem_of_getElem? hk))]
      exact hJ
    · rw [ixF_map]
      simp only [wNext, wSeq, wBreak, wCont, wDrop, wRet, wSet, wPar, wIfS, wgName, wgNil, wgCons, wgTup, tupOf, wgLst, lstOf, wgSub, wAsg, putC, wAug, fAddI, fIxL, wAugS, wApp, wExt, putD, wFldS, wVar, dAt, wC, wBin, wUn, fSub_ii, fDiv_ii, fMod_ii, fPow_ii, fLt_ii, fLe_ii, fGt_ii, fGe_ii, fNeg_i, fAdd_ii, fAdd_tt, fAdd_ss, fAdd_ll, fAdd_c, fAdd_lc, fMul_ii, fMul_ti, fMul_li, fMul_ci, fMulC, lsOf, sqOf, wTest, wChain, wTAnd, wTOr, wTNot, wAndV, wOrV, wNotV, wIf, plOf, fEq, fNe, fIn, fIsN, fNotN, isNon, fFld, wFld, fIx, wNoPart, wPart, wSl, wNil, wCons, wStar, allP, allP_map, wTup, wLst, wLstC, wiSeq, wiRng1, wiRng2, wFor, wLc, wLcC, wLc2, wtYes, wiEnum, wiZip, wCB, fLen_s, fLen_t, fLen_l, fLen_c, fMax_ii, fMax_iii, fMax_l, fMin_ii, fMin_t, fMin_l, fMin_c, fSum, fAll, fAny, fList, fListC, fTuple, fSorted, fInt_i, fInt_b, fInt_s, fStr, sqF, fIsT, wIsT, tyName, kit_nt, kit_bt, kit_it, kit_st, kit_tt, kit_lt, kit_ni, kit_bi, kit_ii, kit_si, kit_ti, kit_li, kit_nb, kit_bb, kit_ib, kit_sb, kit_tb, kit_lb, wCallP0, wCallR0, wCallN0, wCallP, wCallR, wCallRf, wCallN, wMake, wMake0, wMakeC, wRaise, wNever, En.xp, enP, enR, enN, rtP, rtR, rtN, entry, List.map_cons, List.map_nil, List.cons_append, List.nil_append, List.append_nil, List.length_cons, List.length_nil, List.replicate, List.set_cons_zero, List.set_cons_succ, List.getElem?_cons_zero, List.getElem?_cons_succ, List.getElem?_nil, Option.getD_some, Option.getD_none, ite_true, ite_false, Bool.not_true, Bool.not_false, Bool.true_and, Bool.and_true, Bool.and_false, Bool.false_and, Bool.not_eq_true, Bool.false_eq_true, reduceIte, decide_eq_true_eq, atI_zero, atI_one, atI_two, atI_three, atI_four, atI_m1, wipeD, reduceCtorEq, ok_int, ok_non, ok_bl, eqv_int, ix40, ix41, ix42, ix43, Int.toNat_natCast, true_and, and_true, allI_map, allP]
      exact ⟨by decide, h⟩
theorem z_rings {q : Ad} (args : List PD) (P : PD → Prop) (Xp : RX) (h : r_rings q args P Xp) : w_rings q (enP P Xp) (entry n_rings.length (args.map D.p)) [] := by
  obtain ⟨l, rfl, ok, h⟩ := h
  simp only [w_rings, w_rings_1, wNext, wSeq, wBreak, wCont, wDrop, wRet, wSet, wPar, wIfS, wgName, wgNil, wgCons, wgTup, tupOf, wgLst, lstOf, wgSub, wAsg, putC, wAug, fAddI, fIxL, wAugS, wApp, wExt, putD, wFldS, wVar, dAt, wC, wBin, wUn, fSub_ii, fDiv_ii, fMod_ii, fPow_ii, fLt_ii, fLe_ii, fGt_ii, fGe_ii, fNeg_i, fAdd_ii, fAdd_tt, fAdd_ss, fAdd_ll, fAdd_c, fAdd_lc, fMul_ii, fMul_ti, fMul_li, fMul_ci, fMulC, lsOf, sqOf, wTest, wChain, wTAnd, wTOr, wTNot, wAndV, wOrV, wNotV, wIf, plOf, fEq, fNe, fIn, fIsN, fNotN, isNon, fFld, wFld, fIx, wNoPart, wPart, wSl, wNil, wCons, wStar, allP, allP_map, wTup, wLst, wLstC, wiSeq, wiRng1, wiRng2, wFor, wLc, wLcC, wLc2, wtYes, wiEnum, wiZip, wCB, fLen_s, fLen_t, fLen_l, fLen_c, fMax_ii, fMax_iii, fMax_l, fMin_ii, fMin_t, fMin_l, fMin_c, fSum, fAll, fAny, fList, fListC, fTuple, fSorted, fInt_i, fInt_b, fInt_s, fStr, sqF, fIsT, wIsT, tyName, kit_nt, kit_bt, kit_it, kit_st, kit_tt, kit_lt, kit_ni, kit_bi, kit_ii, kit_si, kit_ti, kit_li, kit_nb, kit_bb, kit_ib, kit_sb, kit_tb, kit_lb, wCallP0, wCallR0, wCallN0, wCallP, wCallR, wCallRf, wCallN, wMake, wMake0, wMakeC, wRaise, wNever, En.xp, enP, enR, enN, rtP, rtR, rtN, entry, List.map_cons, List.map_nil, List.cons_append, List.nil_append, List.append_nil, List.length_cons, List.length_nil, List.replicate, List.set_cons_zero, List.set_cons_succ, List.getElem?_cons_zero, List.getElem?_cons_succ, List.getElem?_nil, Option.getD_some, Option.getD_none, ite_true, ite_false, Bool.not_true, Bool.not_false, Bool.true_and, Bool.and_true, Bool.and_false, Bool.false_and, Bool.not_eq_true, Bool.false_eq_true, reduceIte, decide_eq_true_eq, atI_zero, atI_one, atI_two, atI_three, atI_four, atI_m1, wipeD, reduceCtorEq, ok_int, ok_non, ok_bl, eqv_int, ix40, ix41, ix42, ix43, Int.toNat_natCast, true_and, and_true, n_rings]
  refine ⟨l, rfl, ok, ?_⟩
  simp only [wNext, wSeq, wBreak, wCont, wDrop, wRet, wSet, wPar, wIfS, wgName, wgNil, wgCons, wgTup, tupOf, wgLst, lstOf, wgSub, wAsg, putC, wAug, fAddI, fIxL, wAugS, wApp, wExt, putD, wFldS, wVar, dAt, wC, wBin, wUn, fSub_ii, fDiv_ii, fMod_ii, fPow_ii, fLt_ii, fLe_ii, fGt_ii, fGe_ii, fNeg_i, fAdd_ii, fAdd_tt, fAdd_ss, fAdd_ll, fAdd_c, fAdd_lc, fMul_ii, fMul_ti, fMul_li, fMul_ci, fMulC, lsOf, sqOf, wTest, wChain, wTAnd, wTOr, wTNot, wAndV, wOrV, wNotV, wIf, plOf, fEq, fNe, fIn, fIsN, fNotN, isNon, fFld, wFld, fIx, wNoPart, wPart, wSl, wNil, wCons, wStar, allP, allP_map, wTup, wLst, wLstC, wiSeq, wiRng1, wiRng2, wFor, wLc, wLcC, wLc2, wtYes, wiEnum, wiZip, wCB, fLen_s, fLen_t, fLen_l, fLen_c, fMax_ii, fMax_iii, fMax_l, fMin_ii, fMin_t, fMin_l, fMin_c, fSum, fAll, fAny, fList, fListC, fTuple, fSorted, fInt_i, fInt_b, fInt_s, fStr, sqF, fIsT, wIsT, tyName, kit_nt, kit_bt, kit_it, kit_st, kit_tt, kit_lt, kit_ni, kit_bi, kit_ii, kit_si, kit_ti, kit_li, kit_nb, kit_bb, kit_ib, kit_sb, kit_tb, kit_lb, wCallP0, wCallR0, wCallN0, wCallP, wCallR, wCallRf, wCallN, wMake, wMake0, wMakeC, wRaise, wNever, En.xp, enP, enR, enN, rtP, rtR, rtN, entry, List.map_cons, List.map_nil, List.cons_append, List.nil_append, List.append_nil, List.length_cons, List.length_nil, List.replicate, List.set_cons_zero, List.set_cons_succ, List.getElem?_cons_zero, List.getElem?_cons_succ, List.getElem?_nil, Option.getD_some, Option.getD_none, ite_true, ite_false, Bool.not_true, Bool.not_false, Bool.true_and, Bool.and_true, Bool.and_false, Bool.false_and, Bool.not_eq_true, Bool.false_eq_true, reduceIte, decide_eq_true_eq, atI_zero, atI_one, atI_two, atI_three, atI_four, atI_m1, wipeD, reduceCtorEq, ok_int, ok_non, ok_bl, eqv_int, ix40, ix41, ix42, ix43, Int.toNat_natCast, true_and, and_true]
  let R : List Nat → PD := ringRow l
  let g : PD → PD := fun x => match x with | .tup xs => R (xs.map fun y => match y with | .int i => i.toNat | _ => 0) | _ => .non
  have hg : ∀ r, g (ringP r) = ringRow l r := fun r => by
    show R _ = _
    rw [List.map_map]
    have : (r.map ((fun y => match y with | PD.int i => i.toNat | _ => 0) ∘ fun i : Nat => PD.int i)) = r := by
      conv => rhs; rw [← List.map_id r]
      exact List.map_congr_left fun i _ => by simp
    rw [this]
  refine lc_map g (by rw [List.length_map]; exact rings_len ok) trivial (fun i x J hx hJ => ?_) ?_
  · obtain ⟨r, hr, rfl⟩ := map_inv hx
    obtain ⟨h1, h2⟩ := ring_in ok (List.mem_of_getElem? hr)
    simp only [wNext, wSeq, wBreak, wCont, wDrop, wRet, wSet, wPar, wIfS, wgName, wgNil, wgCons, wgTup, tupOf, wgLst, lstOf, wgSub, wAsg, putC, wAug, fAddI, fIxL, wAugS, wApp, wExt, putD, wFldS, wVar, dAt, wC, wBin, wUn, fSub_ii, fDiv_ii, fMod_ii, fPow_ii, fLt_ii, fLe_ii, fGt_ii, fGe_ii, fNeg_i, fAdd_ii, fAdd_tt, fAdd_ss, fAdd_ll, fAdd_c, fAdd_lc, fMul_ii, fMul_ti, fMul_li, fMul_ci, fMulC, lsOf, sqOf, wTest, wChain, wTAnd, wTOr, wTNot, wAndV, wOrV, wNotV, wIf, plOf, fEq, fNe, fIn, fIsN, fNotN, isNon, fFld, wFld, fIx, wNoPart, wPart, wSl, wNil, wCons, wStar, allP, allP_map, wTup, wLst, wLstC, wiSeq, wiRng1, wiRng2, wFor, wLc, wLcC, wLc2, wtYes, wiEnum, wiZip, wCB, fLen_s, fLen_t, fLen_l, fLen_c, fMax_ii, fMax_iii, fMax_l, fMin_ii, fMin_t, fMin_l, fMin_c, fSum, fAll, fAny, fList, fListC, fTuple, fSorted, fInt_i, fInt_b, fInt_s, fStr, sqF, fIsT, wIsT, tyName, kit_nt, kit_bt, kit_it, kit_st, kit_tt, kit_lt, kit_ni, kit_bi, kit_ii, kit_si, kit_ti, kit_li, kit_nb, kit_bb, kit_ib, kit_sb, kit_tb, kit_lb, wCallP0, wCallR0, wCallN0, wCallP, wCallR, wCallRf, wCallN, wMake, wMake0, wMakeC, wRaise, wNever, En.xp, enP, enR, enN, rtP, rtR, rtN, entry, List.map_cons, List.map_nil, List.cons_append, List.nil_append, List.append_nil, List.length_cons, List.length_nil, List.replicate, List.set_cons_zero, List.set_cons_succ, List.getElem?_cons_zero, List.getElem?_cons_succ, List.getElem?_nil, Option.getD_some, Option.getD_none, ite_true, ite_false, Bool.not_true, Bool.not_false, Bool.true_and, Bool.and_true, Bool.and_false, Bool.false_and, Bool.not_eq_true, Bool.false_eq_true, reduceIte, decide_eq_true_eq, atI_zero, atI_one, atI_two, atI_three, atI_four, atI_m1, wipeD, reduceCtorEq, ok_int, ok_non, ok_bl, eqv_int, ix40, ix41, ix42, ix43, Int.toNat_natCast, true_and, and_true]
    refine ⟨l, r, rfl, ok, h1, h2, ?_⟩
    simp only [wNext, wSeq, wBreak, wCont, wDrop, wRet, wSet, wPar, wIfS, wgName, wgNil, wgCons, wgTup, tupOf, wgLst, lstOf, wgSub, wAsg, putC, wAug, fAddI, fIxL, wAugS, wApp, wExt, putD, wFldS, wVar, dAt, wC, wBin, wUn, fSub_ii, fDiv_ii, fMod_ii, fPow_ii, fLt_ii, fLe_ii, fGt_ii, fGe_ii, fNeg_i, fAdd_ii, fAdd_tt, fAdd_ss, fAdd_ll, fAdd_c, fAdd_lc, fMul_ii, fMul_ti, fMul_li, fMul_ci, fMulC, lsOf, sqOf, wTest, wChain, wTAnd, wTOr, wTNot, wAndV, wOrV, wNotV, wIf, plOf, fEq, fNe, fIn, fIsN, fNotN, isNon, fFld, wFld, fIx, wNoPart, wPart, wSl, wNil, wCons, wStar, allP, allP_map, wTup, wLst, wLstC, wiSeq, wiRng1, wiRng2, wFor, wLc, wLcC, wLc2, wtYes, wiEnum, wiZip, wCB, fLen_s, fLen_t, fLen_l, fLen_c, fMax_ii, fMax_iii, fMax_l, fMin_ii, fMin_t, fMin_l, fMin_c, fSum, fAll, fAny, fList, fListC, fTuple, fSorted, fInt_i, fInt_b, fInt_s, fStr, sqF, fIsT, wIsT, tyName, kit_nt, kit_bt, kit_it, kit_st, kit_tt, kit_lt, kit_ni, kit_bi, kit_ii, kit_si, kit_ti, kit_li, kit_nb, kit_bb, kit_ib, kit_sb, kit_tb, kit_lb, wCallP0, wCallR0, wCallN0, wCallP, wCallR, wCallRf, wCallN, wMake, wMake0, wMakeC, wRaise, wNever, En.xp, enP, enR, enN, rtP, rtR, rtN, entry, List.map_cons, List.map_nil, List.cons_append, List.nil_append, List.append_nil, List.length_cons, List.length_nil, List.replicate, List.set_cons_zero, List.set_cons_succ, List.getElem?_cons_zero, List.getElem?_cons_succ, List.getElem?_nil, Option.getD_some, Option.getD_none, ite_true, ite_false, Bool.not_true, Bool.not_false, Bool.true_and, Bool.and_true, Bool.and_false, Bool.false_and, Bool.not_eq_true, Bool.false_eq_true, reduceIte, decide_eq_true_eq, atI_zero, atI_one, atI_two, atI_three, atI_four, atI_m1, wipeD, reduceCtorEq, ok_int, ok_non, ok_bl, eqv_int, ix40, ix41, ix42, ix43, Int.toNat_natCast, true_and, and_true, allP]
    rw [hg] at hJ
    exact ⟨by decide, hJ⟩
  · have : ((ringsN l).map ringP).map g = (ringsN l).map (ringRow l) := by
      rw [List.map_map]
      exact List.map_congr_left fun r _ => hg r
    rw [this]
    exact h
theorem z_check_loop {q : Ad} (args : List PD) (P : PD → Prop) (Xp : RX) (h : r_check_loop q args P Xp) : w_check_loop q (enP P Xp) (entry n_check_loop.length (args.map D.p)) [] := by
  obtain ⟨l, rfl, ok, h⟩ := h
  simp only [w_check_loop, w_check_loop_2, wNext, wSeq, wBreak, wCont, wDrop, wRet, wSet, wPar, wIfS, wgName, wgNil, wgCons, wgTup, tupOf, wgLst, lstOf, wgSub, wAsg, putC, wAug, fAddI, fIxL, wAugS, wApp, wExt, putD, wFldS, wVar, dAt, wC, wBin, wUn, fSub_ii, fDiv_ii, fMod_ii, fPow_ii, fLt_ii, fLe_ii, fGt_ii, fGe_ii, fNeg_i, fAdd_ii, fAdd_tt, fAdd_ss, fAdd_ll, fAdd_c, fAdd_lc, fMul_ii, fMul_ti, fMul_li, fMul_ci, fMulC, lsOf, sqOf, wTest, wChain, wTAnd, wTOr, wTNot, wAndV, wOrV, wNotV, wIf, plOf, fEq, fNe, fIn, fIsN, fNotN, isNon, fFld, wFld, fIx, wNoPart, wPart, wSl, wNil, wCons, wStar, allP, allP_map, wTup, wLst, wLstC, wiSeq, wiRng1, wiRng2, wFor, wLc, wLcC, wLc2, wtYes, wiEnum, wiZip, wCB, fLen_s, fLen_t, fLen_l, fLen_c, fMax_ii, fMax_iii, fMax_l, fMin_ii, fMin_t, fMin_l, fMin_c, fSum, fAll, fAny, fList, fListC, fTuple, fSorted, fInt_i, fInt_b, fInt_s, fStr, sqF, fIsT, wIsT, tyName, kit_nt, kit_bt, kit_it, kit_st, kit_tt, kit_lt, kit_ni, kit_bi, kit_ii, kit_si, kit_ti, kit_li, kit_nb, kit_bb, kit_ib, kit_sb, kit_tb, kit_lb, wCallP0, wCallR0, wCallN0, wCallP, wCallR, wCallRf, wCallN, wMake, wMake0, wMakeC, wRaise, wNever, En.xp, enP, enR, enN, rtP, rtR, rtN, entry, List.map_cons, List.map_nil, List.cons_append, List.nil_append, List.append_nil, List.length_cons, List.length_nil, List.replicate, List.set_cons_zero, List.set_cons_succ, List.getElem?_cons_zero, List.getElem?_cons_succ, List.getElem?_nil, Option.getD_some, Option.getD_none, ite_true, ite_false, Bool.not_true, Bool.not_false, Bool.true_and, Bool.and_true, Bool.and_false, Bool.false_and, Bool.not_eq_true, Bool.false_eq_true, reduceIte, decide_eq_true_eq, atI_zero, atI_one, atI_two, atI_three, atI_four, atI_m1, wipeD, reduceCtorEq, ok_int, ok_non, ok_bl, eqv_int, ix40, ix41, ix42, ix43, Int.toNat_natCast, true_and, and_true, n_check_loop]
  refine ⟨l, rfl, ok, ?_⟩
  simp only [wNext, wSeq, wBreak, wCont, wDrop, wRet, wSet, wPar, wIfS, wgName, wgNil, wgCons, wgTup, tupOf, wgLst, lstOf, wgSub, wAsg, putC, wAug, fAddI, fIxL, wAugS, wApp, wExt, putD, wFldS, wVar, dAt, wC, wBin, wUn, fSub_ii, fDiv_ii, fMod_ii, fPow_ii, fLt_ii, fLe_ii, fGt_ii, fGe_ii, fNeg_i, fAdd_ii, fAdd_tt, fAdd_ss, fAdd_ll, fAdd_c, fAdd_lc, fMul_ii, fMul_ti, fMul_li, fMul_ci, fMulC, lsOf, sqOf, wTest, wChain, wTAnd, wTOr, wTNot, wAndV, wOrV, wNotV, wIf, plOf, fEq, fNe, fIn, fIsN, fNotN, isNon, fFld, wFld, fIx, wNoPart, wPart, wSl, wNil, wCons, wStar, allP, allP_map, wTup, wLst, wLstC, wiSeq, wiRng1, wiRng2, wFor, wLc, wLcC, wLc2, wtYes, wiEnum, wiZip, wCB, fLen_s, fLen_t, fLen_l, fLen_c, fMax_ii, fMax_iii, fMax_l, fMin_ii, fMin_t, fMin_l, fMin_c, fSum, fAll, fAny, fList, fListC, fTuple, fSorted, fInt_i, fInt_b, fInt_s, fStr, sqF, fIsT, wIsT, tyName, kit_nt, kit_bt, kit_it, kit_st, kit_tt, kit_lt, kit_ni, kit_bi, kit_ii, kit_si, kit_ti, kit_li, kit_nb, kit_bb, kit_ib, kit_sb, kit_tb, kit_lb, wCallP0, wCallR0, wCallN0, wCallP, wCallR, wCallRf, wCallN, wMake, wMake0, wMakeC, wRaise, wNever, En.xp, enP, enR, enN, rtP, rtR, rtN, entry, List.map_cons, List.map_nil, List.cons_append, List.nil_append, List.append_nil, List.length_cons, List.length_nil, List.replicate, List.set_cons_zero, List.set_cons_succ, List.getElem?_cons_zero, List.getElem?_cons_succ, List.getElem?_nil, Option.getD_some, Option.getD_none, ite_true, ite_false, Bool.not_true, Bool.not_false, Bool.true_and, Bool.and_true, Bool.and_false, Bool.false_and, Bool.not_eq_true, Bool.false_eq_true, reduceIte, decide_eq_true_eq, atI_zero, atI_one, atI_two, atI_three, atI_four, atI_m1, wipeD, reduceCtorEq, ok_int, ok_non, ok_bl, eqv_int, ix40, ix41, ix42, ix43, Int.toNat_natCast, true_and, and_true]
  let g : PD → PD := fun x => match x with | .tup xs => .bl (decide (rSum l (xs.map fun y => match y with | .int i => i.toNat | _ => 0) = 0)) | _ => .non
  have hg : ∀ r, g (ringP r) = .bl (decide (rSum l r = 0)) := fun r => by
    show PD.bl (decide (rSum l _ = 0)) = _
    rw [List.map_map]
    have : (r.map ((fun y => match y with | PD.int i => i.toNat | _ => 0) ∘ fun i : Nat => PD.int i)) = r := by
      conv => rhs; rw [← List.map_id r]
      exact List.map_congr_left fun i _ => by simp
    rw [this]
  refine lc_map g (by rw [List.length_map]; exact rings_len ok) trivial (fun i x J hx hJ => ?_) ?_
  · obtain ⟨r, hr, rfl⟩ := map_inv hx
    obtain ⟨h1, h2⟩ := ring_in ok (List.mem_of_getElem? hr)
    simp only [wNext, wSeq, wBreak, wCont, wDrop, wRet, wSet, wPar, wIfS, wgName, wgNil, wgCons, wgTup, tupOf, wgLst, lstOf, wgSub, wAsg, putC, wAug, fAddI, fIxL, wAugS, wApp, wExt, putD, wFldS, wVar, dAt, wC, wBin, wUn, fSub_ii, fDiv_ii, fMod_ii, fPow_ii, fLt_ii, fLe_ii, fGt_ii, fGe_ii, fNeg_i, fAdd_ii, fAdd_tt, fAdd_ss, fAdd_ll, fAdd_c, fAdd_lc, fMul_ii, fMul_ti, fMul_li, fMul_ci, fMulC, lsOf, sqOf, wTest, wChain, wTAnd, wTOr, wTNot, wAndV, wOrV, wNotV, wIf, plOf, fEq, fNe, fIn, fIsN, fNotN, isNon, fFld, wFld, fIx, wNoPart, wPart, wSl, wNil, wCons, wStar, allP, allP_map, wTup, wLst, wLstC, wiSeq, wiRng1, wiRng2, wFor, wLc, wLcC, wLc2, wtYes, wiEnum, wiZip, wCB, fLen_s, fLen_t, fLen_l, fLen_c, fMax_ii, fMax_iii, fMax_l, fMin_ii, fMin_t, fMin_l, fMin_c, fSum, fAll, fAny, fList, fListC, fTuple, fSorted, fInt_i, fInt_b, fInt_s, fStr, sqF, fIsT, wIsT, tyName, kit_nt, kit_bt, kit_it, kit_st, kit_tt, kit_lt, kit_ni, kit_bi, kit_ii, kit_si, kit_ti, kit_li, kit_nb, kit_bb, kit_ib, kit_sb, kit_tb, kit_lb, wCallP0, wCallR0, wCallN0, wCallP, wCallR, wCallRf, wCallN, wMake, wMake0, wMakeC, wRaise, wNever, En.xp, enP, enR, enN, rtP, rtR, rtN, entry, List.map_cons, List.map_nil, List.cons_append, List.nil_append, List.append_nil, List.length_cons, List.length_nil, List.replicate, List.set_cons_zero, List.set_cons_succ, List.getElem?_cons_zero, List.getElem?_cons_succ, List.getElem?_nil, Option.getD_some, Option.getD_none, ite_true, ite_false, Bool.not_true, Bool.not_false, Bool.true_and, Bool.and_true, Bool.and_false, Bool.false_and, Bool.not_eq_true, Bool.false_eq_true, reduceIte, decide_eq_true_eq, atI_zero, atI_one, atI_two, atI_three, atI_four, atI_m1, wipeD, reduceCtorEq, ok_int, ok_non, ok_bl, eqv_int, ix40, ix41, ix42, ix43, Int.toNat_natCast, true_and, and_true]
    refine ⟨l, r, rfl, ok, h1, h2, ?_⟩
    simp only [wNext, wSeq, wBreak, wCont, wDrop, wRet, wSet, wPar, wIfS, wgName, wgNil, wgCons, wgTup, tupOf, wgLst, lstOf, wgSub, wAsg, putC, wAug, fAddI, fIxL, wAugS, wApp, wExt, putD, wFldS, wVar, dAt, wC, wBin, wUn, fSub_ii, fDiv_ii, fMod_ii, fPow_ii, fLt_ii, fLe_ii, fGt_ii, fGe_ii, fNeg_i, fAdd_ii, fAdd_tt, fAdd_ss, fAdd_ll, fAdd_c, fAdd_lc, fMul_ii, fMul_ti, fMul_li, fMul_ci, fMulC, lsOf, sqOf, wTest, wChain, wTAnd, wTOr, wTNot, wAndV, wOrV, wNotV, wIf, plOf, fEq, fNe, fIn, fIsN, fNotN, isNon, fFld, wFld, fIx, wNoPart, wPart, wSl, wNil, wCons, wStar, allP, allP_map, wTup, wLst, wLstC, wiSeq, wiRng1, wiRng2, wFor, wLc, wLcC, wLc2, wtYes, wiEnum, wiZip, wCB, fLen_s, fLen_t, fLen_l, fLen_c, fMax_ii, fMax_iii, fMax_l, fMin_ii, fMin_t, fMin_l, fMin_c, fSum, fAll, fAny, fList, fListC, fTuple, fSorted, fInt_i, fInt_b, fInt_s, fStr, sqF, fIsT, wIsT, tyName, kit_nt, kit_bt, kit_it, kit_st, kit_tt, kit_lt, kit_ni, kit_bi, kit_ii, kit_si, kit_ti, kit_li, kit_nb, kit_bb, kit_ib, kit_sb, kit_tb, kit_lb, wCallP0, wCallR0, wCallN0, wCallP, wCallR, wCallRf, wCallN, wMake, wMake0, wMakeC, wRaise, wNever, En.xp, enP, enR, enN, rtP, rtR, rtN, entry, List.map_cons, List.map_nil, List.cons_append, List.nil_append, List.append_nil, List.length_cons, List.length_nil, List.replicate, List.set_cons_zero, List.set_cons_succ, List.getElem?_cons_zero, List.getElem?_cons_succ, List.getElem?_nil, Option.getD_some, Option.getD_none, ite_true, ite_false, Bool.not_true, Bool.not_false, Bool.true_and, Bool.and_true, Bool.and_false, Bool.false_and, Bool.not_eq_true, Bool.false_eq_true, reduceIte, decide_eq_true_eq, atI_zero, atI_one, atI_two, atI_three, atI_four, atI_m1, wipeD, reduceCtorEq, ok_int, ok_non, ok_bl, eqv_int, ix40, ix41, ix42, ix43, Int.toNat_natCast, true_and, and_true]
    rw [hg] at hJ
    exact hJ
  · have : ((ringsN l).map ringP).map g = ((ringsN l).map fun r => decide (rSum l r = 0)).map PD.bl := by
      rw [List.map_map, List.map_map]
      exact List.map_congr_left fun r _ => hg r
    rw [this]
    have e : ((ringsN l).map fun r => decide (rSum l r = 0)).any id = stuckB l := by
      unfold stuckB
      rw [List.any_map]
      rfl
    simp only [wNext, wSeq, wBreak, wCont, wDrop, wRet, wSet, wPar, wIfS, wgName, wgNil, wgCons, wgTup, tupOf, wgLst, lstOf, wgSub, wAsg, putC, wAug, fAddI, fIxL, wAugS, wApp, wExt, putD, wFldS, wVar, dAt, wC, wBin, wUn, fSub_ii, fDiv_ii, fMod_ii, fPow_ii, fLt_ii, fLe_ii, fGt_ii, fGe_ii, fNeg_i, fAdd_ii, fAdd_tt, fAdd_ss, fAdd_ll, fAdd_c, fAdd_lc, fMul_ii, fMul_ti, fMul_li, fMul_ci, fMulC, lsOf, sqOf, wTest, wChain, wTAnd, wTOr, wTNot, wAndV, wOrV, wNotV, wIf, plOf, fEq, fNe, fIn, fIsN, fNotN, isNon, fFld, wFld, fIx, wNoPart, wPart, wSl, wNil, wCons, wStar, allP, allP_map, wTup, wLst, wLstC, wiSeq, wiRng1, wiRng2, wFor, wLc, wLcC, wLc2, wtYes, wiEnum, wiZip, wCB, fLen_s, fLen_t, fLen_l, fLen_c, fMax_ii, fMax_iii, fMax_l, fMin_ii, fMin_t, fMin_l, fMin_c, fSum, fAll, fAny, fList, fListC, fTuple, fSorted, fInt_i, fInt_b, fInt_s, fStr, sqF, fIsT, wIsT, tyName, kit_nt, kit_bt, kit_it, kit_st, kit_tt, kit_lt, kit_ni, kit_bi, kit_ii, kit_si, kit_ti, kit_li, kit_nb, kit_bb, kit_ib, kit_sb, kit_tb, kit_lb, wCallP0, wCallR0, wCallN0, wCallP, wCallR, wCallRf, wCallN, wMake, wMake0, wMakeC, wRaise, wNever, En.xp, enP, enR, enN, rtP, rtR, rtN, entry, List.map_cons, List.map_nil, List.cons_append, List.nil_append, List.append_nil, List.length_cons, List.length_nil, List.replicate, List.set_cons_zero, List.set_cons_succ, List.getElem?_cons_zero, List.getElem?_cons_succ, List.getElem?_nil, Option.getD_some, Option.getD_none, ite_true, ite_false, Bool.not_true, Bool.not_false, Bool.true_and, Bool.and_true, Bool.and_false, Bool.false_and, Bool.not_eq_true, Bool.false_eq_true, reduceIte, decide_eq_true_eq, atI_zero, atI_one, atI_two, atI_three, atI_four, atI_m1, wipeD, reduceCtorEq, ok_int, ok_non, ok_bl, eqv_int, ix40, ix41, ix42, ix43, Int.toNat_natCast, true_and, and_true, allB_map, e]
    cases hs : stuckB l with
    | true =>
      rw [hs, if_pos rfl] at h
      simp only [w_check_loop_1, wNext, wSeq, wBreak, wCont, wDrop, wRet, wSet, wPar, wIfS, wgName, wgNil, wgCons, wgTup, tupOf, wgLst, lstOf, wgSub, wAsg, putC, wAug, fAddI, fIxL, wAugS, wApp, wExt, putD, wFldS, wVar, dAt, wC, wBin, wUn, fSub_ii, fDiv_ii, fMod_ii, fPow_ii, fLt_ii, fLe_ii, fGt_ii, fGe_ii, fNeg_i, fAdd_ii, fAdd_tt, fAdd_ss, fAdd_ll, fAdd_c, fAdd_lc, fMul_ii, fMul_ti, fMul_li, fMul_ci, fMulC, lsOf, sqOf, wTest, wChain, wTAnd, wTOr, wTNot, wAndV, wOrV, wNotV, wIf, plOf, fEq, fNe, fIn, fIsN, fNotN, isNon, fFld, wFld, fIx, wNoPart, wPart, wSl, wNil, wCons, wStar, allP, allP_map, wTup, wLst, wLstC, wiSeq, wiRng1, wiRng2, wFor, wLc, wLcC, wLc2, wtYes, wiEnum, wiZip, wCB, fLen_s, fLen_t, fLen_l, fLen_c, fMax_ii, fMax_iii, fMax_l, fMin_ii, fMin_t, fMin_l, fMin_c, fSum, fAll, fAny, fList, fListC, fTuple, fSorted, fInt_i, fInt_b, fInt_s, fStr, sqF, fIsT, wIsT, tyName, kit_nt, kit_bt, kit_it, kit_st, kit_tt, kit_lt, kit_ni, kit_bi, kit_ii, kit_si, kit_ti, kit_li, kit_nb, kit_bb, kit_ib, kit_sb, kit_tb, kit_lb, wCallP0, wCallR0, wCallN0, wCallP, wCallR, wCallRf, wCallN, wMake, wMake0, wMakeC, wRaise, wNever, En.xp, enP, enR, enN, rtP, rtR, rtN, entry, List.map_cons, List.map_nil, List.cons_append, List.nil_append, List.append_nil, List.length_cons, List.length_nil, List.replicate, List.set_cons_zero, List.set_cons_succ, List.getElem?_cons_zero, List.getElem?_cons_succ, List.getElem?_nil, Option.getD_some, Option.getD_none, ite_true, ite_false, Bool.not_true, Bool.not_false, Bool.true_and, Bool.and_true, Bool.and_false, Bool.false_and, Bool.not_eq_true, Bool.false_eq_true, reduceIte, decide_eq_true_eq, atI_zero, atI_one, atI_two, atI_three, atI_four, atI_m1, wipeD, reduceCtorEq, ok_int, ok_non, ok_bl, eqv_int, ix40, ix41, ix42, ix43, Int.toNat_natCast, true_and, and_true]
      exact h
    | false =>
      rw [hs, if_neg (by decide)] at h
      simp only [wNext, wSeq, wBreak, wCont, wDrop, wRet, wSet, wPar, wIfS, wgName, wgNil, wgCons, wgTup, tupOf, wgLst, lstOf, wgSub, wAsg, putC, wAug, fAddI, fIxL, wAugS, wApp, wExt, putD, wFldS, wVar, dAt, wC, wBin, wUn, fSub_ii, fDiv_ii, fMod_ii, fPow_ii, fLt_ii, fLe_ii, fGt_ii, fGe_ii, fNeg_i, fAdd_ii, fAdd_tt, fAdd_ss, fAdd_ll, fAdd_c, fAdd_lc, fMul_ii, fMul_ti, fMul_li, fMul_ci, fMulC, lsOf, sqOf, wTest, wChain, wTAnd, wTOr, wTNot, wAndV, wOrV, wNotV, wIf, plOf, fEq, fNe, fIn, fIsN, fNotN, isNon, fFld, wFld, fIx, wNoPart, wPart, wSl, wNil, wCons, wStar, allP, allP_map, wTup, wLst, wLstC, wiSeq, wiRng1, wiRng2, wFor, wLc, wLcC, wLc2, wtYes, wiEnum, wiZip, wCB, fLen_s, fLen_t, fLen_l, fLen_c, fMax_ii, fMax_iii, fMax_l, fMin_ii, fMin_t, fMin_l, fMin_c, fSum, fAll, fAny, fList, fListC, fTuple, fSorted, fInt_i, fInt_b, fInt_s, fStr, sqF, fIsT, wIsT, tyName, kit_nt, kit_bt, kit_it, kit_st, kit_tt, kit_lt, kit_ni, kit_bi, kit_ii, kit_si, kit_ti, kit_li, kit_nb, kit_bb, kit_ib, kit_sb, kit_tb, kit_lb, wCallP0, wCallR0, wCallN0, wCallP, wCallR, wCallRf, wCallN, wMake, wMake0, wMakeC, wRaise, wNever, En.xp, enP, enR, enN, rtP, rtR, rtN, entry, List.map_cons, List.map_nil, List.cons_append, List.nil_append, List.append_nil, List.length_cons, List.length_nil, List.replicate, List.set_cons_zero, List.set_cons_succ, List.getElem?_cons_zero, List.getElem?_cons_succ, List.getElem?_nil, Option.getD_some, Option.getD_none, ite_true, ite_false, Bool.not_true, Bool.not_false, Bool.true_and, Bool.and_true, Bool.and_false, Bool.false_and, Bool.not_eq_true, Bool.false_eq_true, reduceIte, decide_eq_true_eq, atI_zero, atI_one, atI_two, atI_three, atI_four, atI_m1, wipeD, reduceCtorEq, ok_int, ok_non, ok_bl, eqv_int, ix40, ix41, ix42, ix43, Int.toNat_natCast, true_and, and_true]
      exact h
end DL

set_option Elab.async false
set_option linter.all false
set_option maxRecDepth 100000
set_option maxHeartbeats 4000000
/-! a loop's ==; moved -/
namespace DL
open PySem L2
def Lp.same (l k : Lp) : Bool := decide (l.counts = k.counts) && (decide (l.rows = k.rows) && decide (l.bars = k.bars))
def r_Loopz_eqz (q : Ad) : RP := fun args P _ => ∃ l k : Lp, args = [l.pd q, k.pd q] ∧ l.Ok ∧ k.Ok ∧ P (.bl (l.same k))
def i01 (b : Bool) : Int := if b then 1 else 0
def mvd (s b : Int) (x : Int × Int × Int × Int) : Int := x.2.2.2 + b * i01 (decide (x.2.1 = s)) - b * i01 (decide (x.1 = s))
def mvB (s b : Int) (x : Int × Int × Int × Int) : Int × Int × Int × Int := (x.1, x.2.1, x.2.2.1, mvd s b x)
def movedL (l : Lp) (s b : Int) : Lp := ⟨l.counts, l.rows, l.bars.map (mvB s b)⟩
def mvOk (l : Lp) (s b : Int) : Bool := l.bars.all fun x => decide (0 ≤ mvd s b x) && decide (mvd s b x ≤ 3)
def iOf (v : PD) : Int := match v with | .int i => i | _ => 0
def movedO (l : Lp) (step by_ : PD) : Option Lp := if (isFrom step 0 (l.rows.length - 1) && isFrom by_ (-3) 3) = true then (if mvOk l (iOf step) (iOf by_) = true then some (movedL l (iOf step) (iOf by_)) else none) else none
def r_moved (q : Ad) : RP := fun args P Xp => ∃ (l : Lp) (step by_ : PD), args = [l.pd q, step, by_] ∧ l.Ok ∧ tyOk step = true ∧ tyOk by_ = true ∧ (match movedO l step by_ with | some k => P (k.pd q) | none => Xp q.BadMove [])
end DL

set_option Elab.async false
set_option linter.all false
set_option maxRecDepth 100000
set_option maxHeartbeats 4000000
namespace DL
open PySem L2
/-! Loop.__eq__ -/
def w_Loopz_eqz_1 (q : Ad) : WS := (wRet (wC (.bl false)))
def w_Loopz_eqz_2 (q : Ad) : WS := (wRet (wAndV (wBin fEq (wFld q.Loop "rows" (wVar 0)) (wFld q.Loop "rows" (wVar 1))) (wBin fEq (wFld q.Loop "bars" (wVar 0)) (wFld q.Loop "bars" (wVar 1)))))
def w_Loopz_eqz_3 (q : Ad) : WS := (wSeq (wIfS (wTOr (wTNot (wTest (wIsC q.Loop (wVar 1)))) (wTest (wBin fNe (wFld q.Loop "counts" (wVar 0)) (wFld q.Loop "counts" (wVar 1))))) (w_Loopz_eqz_1 q) wNext) (w_Loopz_eqz_2 q))
def w_Loopz_eqz (q : Ad) : WS := (w_Loopz_eqz_3 q)
abbrev n_Loopz_eqz : List Str := ["self", "other"]
/-! moved -/
def w_moved_1 (q : Ad) : WS := (wRaise q.BadMove)
def w_moved_2 (q : Ad) : WS := (wRaise q.BadMove)
def w_moved_3 (q : Ad) : WS := (wDrop (wApp (wVar 3) (wTup (wCons (wVar 4) (wCons (wVar 5) (wCons (wVar 6) (wCons (wVar 8) wNil)))))))
def w_moved_4 (q : Ad) : WS := (wSeq (wIfS (wTNot (wTest (wChain fLe fLe (wC (.int 0)) (wVar 8) (wC (.int (3)))))) (w_moved_2 q) wNext) (w_moved_3 q))
def w_moved_5 (q : Ad) : WS := (wSeq (wSet 8 (wBin fSub (wBin fAdd (wVar 7) (wBin fMul (wVar 2) (wCB fInt (wCons (wBin fEq (wVar 5) (wVar 1)) wNil)))) (wBin fMul (wVar 2) (wCB fInt (wCons (wBin fEq (wVar 4) (wVar 1)) wNil))))) (w_moved_4 q))
def w_moved_6 (q : Ad) : WS := (wRet (wMake0 q.Loop (r_Loopz_initz q) (wCons (wFld q.Loop "counts" (wVar 0)) (wCons (wFld q.Loop "rows" (wVar 0)) (wCons (wCB fTuple (wCons (wVar 3) wNil)) wNil)))))
def w_moved_7 (q : Ad) : WS := (wSeq (wFor (wiSeq (wFld q.Loop "bars" (wVar 0))) (wgTup 4 (wgCons (wgName 4) (wgCons (wgName 5) (wgCons (wgName 6) (wgCons (wgName 7) wgNil))))) (w_moved_5 q)) (w_moved_6 q))
def w_moved_8 (q : Ad) : WS := (wSeq (wSet 3 (wLstC wNil)) (w_moved_7 q))
def w_moved_9 (q : Ad) : WS := (wSeq (wIfS (wTOr (wTNot (wTest (wCallP0 (r_is_from q) (wCons (wVar 1) (wCons (wC (.int 0)) (wCons (wBin fSub (wCB fLen (wCons (wFld q.Loop "rows" (wVar 0)) wNil)) (wC (.int 1))) wNil)))))) (wTNot (wTest (wCallP0 (r_is_from q) (wCons (wVar 2) (wCons (wUn fNeg (wC (.int (3)))) (wCons (wC (.int (3))) wNil))))))) (w_moved_1 q) wNext) (w_moved_8 q))
def w_moved (q : Ad) : WS := (w_moved_9 q)
abbrev n_moved : List Str := ["loop", "step", "by", "found", "one", "other", "moments", "rounds", "later"]
end DL

set_option Elab.async false
set_option linter.all false
set_option maxRecDepth 100000
set_option maxHeartbeats 4000000
namespace DL
open PySem L2
/-! ### a loop's ==; moved -/
theorem cP_eqv (l k : Lp) : PD.eqv l.cP k.cP = decide (l.counts = k.counts) := by
  have h1 : ∀ l : Lp, l.cP.pl 6 = true := fun l => mapP_pl (n := 5) (fun _ => rfl) l.counts
  rw [Bool.eq_iff_iff, PD.eqv_iff (h1 l) (h1 k), decide_eq_true_eq]
  refine ⟨fun z => (List.map_inj_right (fun _ _ e => PD.int.inj e)).mp (PD.tup.inj z), fun z => ?_⟩
  unfold Lp.cP
  rw [z]
theorem rP_eqv (l k : Lp) : PD.eqv l.rP k.rP = decide (l.rows = k.rows) := by
  have h1 : ∀ l : Lp, l.rP.pl 6 = true := fun l => mapP_pl (n := 5) rowP_pl l.rows
  rw [Bool.eq_iff_iff, PD.eqv_iff (h1 l) (h1 k), decide_eq_true_eq]
  refine ⟨fun z => (List.map_inj_right (fun _ _ e => rowP_inj e)).mp (PD.tup.inj z), fun z => ?_⟩
  unfold Lp.rP
  rw [z]
theorem bP_eqv (l k : Lp) : PD.eqv l.bP k.bP = decide (l.bars = k.bars) := by
  have h1 : ∀ l : Lp, l.bP.pl 6 = true := fun l => mapP_pl (n := 5) barP_pl l.bars
  rw [Bool.eq_iff_iff, PD.eqv_iff (h1 l) (h1 k), decide_eq_true_eq]
  refine ⟨fun z => (List.map_inj_right (fun _ _ e => barP_inj e)).mp (PD.tup.inj z), fun z => ?_⟩
  unfold Lp.bP
  rw [z]
theorem cP_ok (l : Lp) : l.cP.ok 30 = true := pl_ok30 (n := 6) (mapP_pl (n := 5) (fun _ => rfl) l.counts)
theorem rP_ok (l : Lp) : l.rP.ok 30 = true := pl_ok30 (n := 6) (mapP_pl (n := 5) rowP_pl l.rows)
theorem bP_ok (l : Lp) : l.bP.ok 30 = true := pl_ok30 (n := 6) (mapP_pl (n := 5) barP_pl l.bars)
theorem z_Loopz_eqz {q : Ad} (args : List PD) (P : PD → Prop) (Xp : RX) (h : r_Loopz_eqz q args P Xp) : w_Loopz_eqz q (enP P Xp) (entry n_Loopz_eqz.length (args.map D.p)) [] := by
  obtain ⟨l, k, rfl, _, _, h⟩ := h
  have e : ∀ l : Lp, l.pd q = .ins q.Loop l.fs := fun _ => rfl
  simp only [w_Loopz_eqz, w_Loopz_eqz_3, wNext, wSeq, wBreak, wCont, wDrop, wRet, wSet, wPar, wIfS, wgName, wgNil, wgCons, wgTup, tupOf, wgLst, lstOf, wgSub, wAsg, putC, wAug, fAddI, fIxL, wAugS, wApp, wExt, putD, wFldS, wVar, dAt, wC, wBin, wUn, fSub_ii, fDiv_ii, fMod_ii, fPow_ii, fLt_ii, fLe_ii, fGt_ii, fGe_ii, fNeg_i, fAdd_ii, fAdd_tt, fAdd_ss, fAdd_ll, fAdd_c, fAdd_lc, fMul_ii, fMul_ti, fMul_li, fMul_ci, fMulC, lsOf, sqOf, wTest, wChain, wTAnd, wTOr, wTNot, wAndV, wOrV, wNotV, wIf, plOf, fEq, fNe, fIn, fIsN, fNotN, isNon, fFld, wFld, fIx, wNoPart, wPart, wSl, wNil, wCons, wStar, allP, allP_map, wTup, wLst, wLstC, wiSeq, wiRng1, wiRng2, wFor, wLc, wLcC, wLc2, wtYes, wiEnum, wiZip, wCB, fLen_s, fLen_t, fLen_l, fLen_c, fMax_ii, fMax_iii, fMax_l, fMin_ii, fMin_t, fMin_l, fMin_c, fSum, fAll, fAny, fList, fListC, fTuple, fSorted, fInt_i, fInt_b, fInt_s, fStr, sqF, fIsT, wIsT, tyName, kit_nt, kit_bt, kit_it, kit_st, kit_tt, kit_lt, kit_ni, kit_bi, kit_ii, kit_si, kit_ti, kit_li, kit_nb, kit_bb, kit_ib, kit_sb, kit_tb, kit_lb, wCallP0, wCallR0, wCallN0, wCallP, wCallR, wCallRf, wCallN, wMake, wMake0, wMakeC, wRaise, wNever, En.xp, enP, enR, enN, rtP, rtR, rtN, entry, List.map_cons, List.map_nil, List.cons_append, List.nil_append, List.append_nil, List.length_cons, List.length_nil, List.replicate, List.set_cons_zero, List.set_cons_succ, List.getElem?_cons_zero, List.getElem?_cons_succ, List.getElem?_nil, Option.getD_some, Option.getD_none, ite_true, ite_false, Bool.not_true, Bool.not_false, Bool.true_and, Bool.and_true, Bool.and_false, Bool.false_and, Bool.not_eq_true, Bool.false_eq_true, reduceIte, decide_eq_true_eq, atI_zero, atI_one, atI_two, atI_three, atI_four, atI_m1, wipeD, reduceCtorEq, ok_int, ok_non, ok_bl, eqv_int, ix40, ix41, ix42, ix43, Int.toNat_natCast, true_and, and_true, n_Loopz_eqz, e, wIsC, fIsC, lk_counts]
  refine ⟨cP_ok l, cP_ok k, ?_⟩
  rw [cP_eqv]
  by_cases hc : l.counts = k.counts
  · simp only [hc, decide_true, wNext, wSeq, wBreak, wCont, wDrop, wRet, wSet, wPar, wIfS, wgName, wgNil, wgCons, wgTup, tupOf, wgLst, lstOf, wgSub, wAsg, putC, wAug, fAddI, fIxL, wAugS, wApp, wExt, putD, wFldS, wVar, dAt, wC, wBin, wUn, fSub_ii, fDiv_ii, fMod_ii, fPow_ii, fLt_ii, fLe_ii, fGt_ii, fGe_ii, fNeg_i, fAdd_ii, fAdd_tt, fAdd_ss, fAdd_ll, fAdd_c, fAdd_lc, fMul_ii, fMul_ti, fMul_li, fMul_ci, fMulC, lsOf, sqOf, wTest, wChain, wTAnd, wTOr, wTNot, wAndV, wOrV, wNotV, wIf, plOf, fEq, fNe, fIn, fIsN, fNotN, isNon, fFld, wFld, fIx, wNoPart, wPart, wSl, wNil, wCons, wStar, allP, allP_map, wTup, wLst, wLstC, wiSeq, wiRng1, wiRng2, wFor, wLc, wLcC, wLc2, wtYes, wiEnum, wiZip, wCB, fLen_s, fLen_t, fLen_l, fLen_c, fMax_ii, fMax_iii, fMax_l, fMin_ii, fMin_t, fMin_l, fMin_c, fSum, fAll, fAny, fList, fListC, fTuple, fSorted, fInt_i, fInt_b, fInt_s, fStr, sqF, fIsT, wIsT, tyName, kit_nt, kit_bt, kit_it, kit_st, kit_tt, kit_lt, kit_ni, kit_bi, kit_ii, kit_si, kit_ti, kit_li, kit_nb, kit_bb, kit_ib, kit_sb, kit_tb, kit_lb, wCallP0, wCallR0, wCallN0, wCallP, wCallR, wCallRf, wCallN, wMake, wMake0, wMakeC, wRaise, wNever, En.xp, enP, enR, enN, rtP, rtR, rtN, entry, List.map_cons, List.map_nil, List.cons_append, List.nil_append, List.append_nil, List.length_cons, List.length_nil, List.replicate, List.set_cons_zero, List.set_cons_succ, List.getElem?_cons_zero, List.getElem?_cons_succ, List.getElem?_nil, Option.getD_some, Option.getD_none, ite_true, ite_false, Bool.not_true, Bool.not_false, Bool.true_and, Bool.and_true, Bool.and_false, Bool.false_and, Bool.not_eq_true, Bool.false_eq_true, reduceIte, decide_eq_true_eq, atI_zero, atI_one, atI_two, atI_three, atI_four, atI_m1, wipeD, reduceCtorEq, ok_int, ok_non, ok_bl, eqv_int, ix40, ix41, ix42, ix43, Int.toNat_natCast, true_and, and_true, w_Loopz_eqz_2, lk_rows]
    refine ⟨rP_ok l, rP_ok k, ?_⟩
    rw [rP_eqv]
    by_cases hr : l.rows = k.rows
    · simp only [hr, decide_true, wNext, wSeq, wBreak, wCont, wDrop, wRet, wSet, wPar, wIfS, wgName, wgNil, wgCons, wgTup, tupOf, wgLst, lstOf, wgSub, wAsg, putC, wAug, fAddI, fIxL, wAugS, wApp, wExt, putD, wFldS, wVar, dAt, wC, wBin, wUn, fSub_ii, fDiv_ii, fMod_ii, fPow_ii, fLt_ii, fLe_ii, fGt_ii, fGe_ii, fNeg_i, fAdd_ii, fAdd_tt, fAdd_ss, fAdd_ll, fAdd_c, fAdd_lc, fMul_ii, fMul_ti, fMul_li, fMul_ci, fMulC, lsOf, sqOf, wTest, wChain, wTAnd, wTOr, wTNot, wAndV, wOrV, wNotV, wIf, plOf, fEq, fNe, fIn, fIsN, fNotN, isNon, fFld, wFld, fIx, wNoPart, wPart, wSl, wNil, wCons, wStar, allP, allP_map, wTup, wLst, wLstC, wiSeq, wiRng1, wiRng2, wFor, wLc, wLcC, wLc2, wtYes, wiEnum, wiZip, wCB, fLen_s, fLen_t, fLen_l, fLen_c, fMax_ii, fMax_iii, fMax_l, fMin_ii, fMin_t, fMin_l, fMin_c, fSum, fAll, fAny, fList, fListC, fTuple, fSorted, fInt_i, fInt_b, fInt_s, fStr, sqF, fIsT, wIsT, tyName, kit_nt, kit_bt, kit_it, kit_st, kit_tt, kit_lt, kit_ni, kit_bi, kit_ii, kit_si, kit_ti, kit_li, kit_nb, kit_bb, kit_ib, kit_sb, kit_tb, kit_lb, wCallP0, wCallR0, wCallN0, wCallP, wCallR, wCallRf, wCallN, wMake, wMake0, wMakeC, wRaise, wNever, En.xp, enP, enR, enN, rtP, rtR, rtN, entry, List.map_cons, List.map_nil, List.cons_append, List.nil_append, List.append_nil, List.length_cons, List.length_nil, List.replicate, List.set_cons_zero, List.set_cons_succ, List.getElem?_cons_zero, List.getElem?_cons_succ, List.getElem?_nil, Option.getD_some, Option.getD_none, ite_true, ite_false, Bool.not_true, Bool.not_false, Bool.true_and, Bool.and_true, Bool.and_false, Bool.false_and, Bool.not_eq_true, Bool.false_eq_true, reduceIte, decide_eq_true_eq, atI_zero, atI_one, atI_two, atI_three, atI_four, atI_m1, wipeD, reduceCtorEq, ok_int, ok_non, ok_bl, eqv_int, ix40, ix41, ix42, ix43, Int.toNat_natCast, true_and, and_true, lk_bars]
      refine ⟨bP_ok l, bP_ok k, ?_⟩
      rw [bP_eqv]
      simpa [Lp.same, hc, hr] using h
    · simp only [hr, decide_false, wNext, wSeq, wBreak, wCont, wDrop, wRet, wSet, wPar, wIfS, wgName, wgNil, wgCons, wgTup, tupOf, wgLst, lstOf, wgSub, wAsg, putC, wAug, fAddI, fIxL, wAugS, wApp, wExt, putD, wFldS, wVar, dAt, wC, wBin, wUn, fSub_ii, fDiv_ii, fMod_ii, fPow_ii, fLt_ii, fLe_ii, fGt_ii, fGe_ii, fNeg_i, fAdd_ii, fAdd_tt, fAdd_ss, fAdd_ll, fAdd_c, fAdd_lc, fMul_ii, fMul_ti, fMul_li, fMul_ci, fMulC, lsOf, sqOf, wTest, wChain, wTAnd, wTOr, wTNot, wAndV, wOrV, wNotV, wIf, plOf, fEq, fNe, fIn, fIsN, fNotN, isNon, fFld, wFld, fIx, wNoPart, wPart, wSl, wNil, wCons, wStar, allP, allP_map, wTup, wLst, wLstC, wiSeq, wiRng1, wiRng2, wFor, wLc, wLcC, wLc2, wtYes, wiEnum, wiZip, wCB, fLen_s, fLen_t, fLen_l, fLen_c, fMax_ii, fMax_iii, fMax_l, fMin_ii, fMin_t, fMin_l, fMin_c, fSum, fAll, fAny, fList, fListC, fTuple, fSorted, fInt_i, fInt_b, fInt_s, fStr, sqF, fIsT, wIsT, tyName, kit_nt, kit_bt, kit_it, kit_st, kit_tt, kit_lt, kit_ni, kit_bi, kit_ii, kit_si, kit_ti, kit_li, kit_nb, kit_bb, kit_ib, kit_sb, kit_tb, kit_lb, wCallP0, wCallR0, wCallN0, wCallP, wCallR, wCallRf, wCallN, wMake, wMake0, wMakeC, wRaise, wNever, En.xp, enP, enR, enN, rtP, rtR, rtN, entry, List.map_cons, List.map_nil, List.cons_append, List.nil_append, List.append_nil, List.length_cons, List.length_nil, List.replicate, List.set_cons_zero, List.set_cons_succ, List.getElem?_cons_zero, List.getElem?_cons_succ, List.getElem?_nil, Option.getD_some, Option.getD_none, ite_true, ite_false, Bool.not_true, Bool.not_false, Bool.true_and, Bool.and_true, Bool.and_false, Bool.false_and, Bool.not_eq_true, Bool.false_eq_true, reduceIte, decide_eq_true_eq, atI_zero, atI_one, atI_two, atI_three, atI_four, atI_m1, wipeD, reduceCtorEq, ok_int, ok_non, ok_bl, eqv_int, ix40, ix41, ix42, ix43, Int.toNat_natCast, true_and, and_true]
      simpa [Lp.same, hc, hr] using h
  · simp only [hc, decide_false, wNext, wSeq, wBreak, wCont, wDrop, wRet, wSet, wPar, wIfS, wgName, wgNil, wgCons, wgTup, tupOf, wgLst, lstOf, wgSub, wAsg, putC, wAug, fAddI, fIxL, wAugS, wApp, wExt, putD, wFldS, wVar, dAt, wC, wBin, wUn, fSub_ii, fDiv_ii, fMod_ii, fPow_ii, fLt_ii, fLe_ii, fGt_ii, fGe_ii, fNeg_i, fAdd_ii, fAdd_tt, fAdd_ss, fAdd_ll, fAdd_c, fAdd_lc, fMul_ii, fMul_ti, fMul_li, fMul_ci, fMulC, lsOf, sqOf, wTest, wChain, wTAnd, wTOr, wTNot, wAndV, wOrV, wNotV, wIf, plOf, fEq, fNe, fIn, fIsN, fNotN, isNon, fFld, wFld, fIx, wNoPart, wPart, wSl, wNil, wCons, wStar, allP, allP_map, wTup, wLst, wLstC, wiSeq, wiRng1, wiRng2, wFor, wLc, wLcC, wLc2, wtYes, wiEnum, wiZip, wCB, fLen_s, fLen_t, fLen_l, fLen_c, fMax_ii, fMax_iii, fMax_l, fMin_ii, fMin_t, fMin_l, fMin_c, fSum, fAll, fAny, fList, fListC, fTuple, fSorted, fInt_i, fInt_b, fInt_s, fStr, sqF, fIsT, wIsT, tyName, kit_nt, kit_bt, kit_it, kit_st, kit_tt, kit_lt, kit_ni, kit_bi, kit_ii, kit_si, kit_ti, kit_li, kit_nb, kit_bb, kit_ib, kit_sb, kit_tb, kit_lb, wCallP0, wCallR0, wCallN0, wCallP, wCallR, wCallRf, wCallN, wMake, wMake0, wMakeC, wRaise, wNever, En.xp, enP, enR, enN, rtP, rtR, rtN, entry, List.map_cons, List.map_nil, List.cons_append, List.nil_append, List.append_nil, List.length_cons, List.length_nil, List.replicate, List.set_cons_zero, List.set_cons_succ, List.getElem?_cons_zero, List.getElem?_cons_succ, List.getElem?_nil, Option.getD_some, Option.getD_none, ite_true, ite_false, Bool.not_true, Bool.not_false, Bool.true_and, Bool.and_true, Bool.and_false, Bool.false_and, Bool.not_eq_true, Bool.false_eq_true, reduceIte, decide_eq_true_eq, atI_zero, atI_one, atI_two, atI_three, atI_four, atI_m1, wipeD, reduceCtorEq, ok_int, ok_non, ok_bl, eqv_int, ix40, ix41, ix42, ix43, Int.toNat_natCast, true_and, and_true, w_Loopz_eqz_1]
    simpa [Lp.same, hc] using h
theorem mvd_bd {l : Lp} (ok : l.Ok) {s b : Int} (hb : -3 ≤ b ∧ b ≤ 3) {x : Int × Int × Int × Int} (hx : x ∈ l.bars) : -6 ≤ mvd s b x ∧ mvd s b x ≤ 9 := by
  have := ok.bb x hx
  unfold mvd i01
  split <;> split <;> omega
theorem mvB_inj {s b : Int} {x y : Int × Int × Int × Int} (h : mvB s b x = mvB s b y) : x = y := by
  obtain ⟨x1, x2, x3, x4⟩ := x
  obtain ⟨y1, y2, y3, y4⟩ := y
  simp only [mvB, mvd, Prod.mk.injEq] at h
  obtain ⟨rfl, rfl, rfl, h⟩ := h
  have : x4 = y4 := by omega
  rw [this]
theorem movedL_ok {l : Lp} (ok : l.Ok) {s b : Int} (h : mvOk l s b = true) : (movedL l s b).Ok := by
  unfold mvOk at h
  rw [List.all_eq_true] at h
  refine ⟨ok.c1, ok.c3, ok.cc, ok.s1, ok.s5, ok.rr, by show (l.bars.map _).length ≤ 10; rw [List.length_map]; exact ok.b10, fun x hx => ?_, ?_⟩
  · obtain ⟨y, hy, rfl⟩ := List.mem_map.mp hx
    have h1 := h y hy
    simp only [Bool.and_eq_true, decide_eq_true_eq] at h1
    have h2 := ok.bb y hy
    exact ⟨h2.1, h2.2.1, h2.2.2.1, h2.2.2.2.1, h2.2.2.2.2.1, h2.2.2.2.2.2.1, h1.1, h1.2⟩
  · show (l.bars.map (mvB s b)).Nodup
    exact List.Pairwise.map _ (fun x y hxy e => hxy (mvB_inj e)) ok.nd
theorem z_moved {q : Ad} (args : List PD) (P : PD → Prop) (Xp : RX) (h : r_moved q args P Xp) : w_moved q (enP P Xp) (entry n_moved.length (args.map D.p)) [] := by
  obtain ⟨l, step, by_, rfl, ok, t1, t2, h⟩ := h
  have e : l.pd q = .ins q.Loop l.fs := rfl
  have s5 := ok.s5
  have b10 := ok.b10
  simp only [w_moved, w_moved_9, wNext, wSeq, wBreak, wCont, wDrop, wRet, wSet, wPar, wIfS, wgName, wgNil, wgCons, wgTup, tupOf, wgLst, lstOf, wgSub, wAsg, putC, wAug, fAddI, fIxL, wAugS, wApp, wExt, putD, wFldS, wVar, dAt, wC, wBin, wUn, fSub_ii, fDiv_ii, fMod_ii, fPow_ii, fLt_ii, fLe_ii, fGt_ii, fGe_ii, fNeg_i, fAdd_ii, fAdd_tt, fAdd_ss, fAdd_ll, fAdd_c, fAdd_lc, fMul_ii, fMul_ti, fMul_li, fMul_ci, fMulC, lsOf, sqOf, wTest, wChain, wTAnd, wTOr, wTNot, wAndV, wOrV, wNotV, wIf, plOf, fEq, fNe, fIn, fIsN, fNotN, isNon, fFld, wFld, fIx, wNoPart, wPart, wSl, wNil, wCons, wStar, allP, allP_map, wTup, wLst, wLstC, wiSeq, wiRng1, wiRng2, wFor, wLc, wLcC, wLc2, wtYes, wiEnum, wiZip, wCB, fLen_s, fLen_t, fLen_l, fLen_c, fMax_ii, fMax_iii, fMax_l, fMin_ii, fMin_t, fMin_l, fMin_c, fSum, fAll, fAny, fList, fListC, fTuple, fSorted, fInt_i, fInt_b, fInt_s, fStr, sqF, fIsT, wIsT, tyName, kit_nt, kit_bt, kit_it, kit_st, kit_tt, kit_lt, kit_ni, kit_bi, kit_ii, kit_si, kit_ti, kit_li, kit_nb, kit_bb, kit_ib, kit_sb, kit_tb, kit_lb, wCallP0, wCallR0, wCallN0, wCallP, wCallR, wCallRf, wCallN, wMake, wMake0, wMakeC, wRaise, wNever, En.xp, enP, enR, enN, rtP, rtR, rtN, entry, List.map_cons, List.map_nil, List.cons_append, List.nil_append, List.append_nil, List.length_cons, List.length_nil, List.replicate, List.set_cons_zero, List.set_cons_succ, List.getElem?_cons_zero, List.getElem?_cons_succ, List.getElem?_nil, Option.getD_some, Option.getD_none, ite_true, ite_false, Bool.not_true, Bool.not_false, Bool.true_and, Bool.and_true, Bool.and_false, Bool.false_and, Bool.not_eq_true, Bool.false_eq_true, reduceIte, decide_eq_true_eq, atI_zero, atI_one, atI_two, atI_three, atI_four, atI_m1, wipeD, reduceCtorEq, ok_int, ok_non, ok_bl, eqv_int, ix40, ix41, ix42, ix43, Int.toNat_natCast, true_and, and_true, n_moved, e, lk_rows, Lp.rP, r_is_from, List.length_map]
  unfold movedO at h
  refine ⟨t1, ?_⟩
  by_cases h1 : isFrom step 0 (l.rows.length - 1) = true
  · simp only [h1, wNext, wSeq, wBreak, wCont, wDrop, wRet, wSet, wPar, wIfS, wgName, wgNil, wgCons, wgTup, tupOf, wgLst, lstOf, wgSub, wAsg, putC, wAug, fAddI, fIxL, wAugS, wApp, wExt, putD, wFldS, wVar, dAt, wC, wBin, wUn, fSub_ii, fDiv_ii, fMod_ii, fPow_ii, fLt_ii, fLe_ii, fGt_ii, fGe_ii, fNeg_i, fAdd_ii, fAdd_tt, fAdd_ss, fAdd_ll, fAdd_c, fAdd_lc, fMul_ii, fMul_ti, fMul_li, fMul_ci, fMulC, lsOf, sqOf, wTest, wChain, wTAnd, wTOr, wTNot, wAndV, wOrV, wNotV, wIf, plOf, fEq, fNe, fIn, fIsN, fNotN, isNon, fFld, wFld, fIx, wNoPart, wPart, wSl, wNil, wCons, wStar, allP, allP_map, wTup, wLst, wLstC, wiSeq, wiRng1, wiRng2, wFor, wLc, wLcC, wLc2, wtYes, wiEnum, wiZip, wCB, fLen_s, fLen_t, fLen_l, fLen_c, fMax_ii, fMax_iii, fMax_l, fMin_ii, fMin_t, fMin_l, fMin_c, fSum, fAll, fAny, fList, fListC, fTuple, fSorted, fInt_i, fInt_b, fInt_s, fStr, sqF, fIsT, wIsT, tyName, kit_nt, kit_bt, kit_it, kit_st, kit_tt, kit_lt, kit_ni, kit_bi, kit_ii, kit_si, kit_ti, kit_li, kit_nb, kit_bb, kit_ib, kit_sb, kit_tb, kit_lb, wCallP0, wCallR0, wCallN0, wCallP, wCallR, wCallRf, wCallN, wMake, wMake0, wMakeC, wRaise, wNever, En.xp, enP, enR, enN, rtP, rtR, rtN, entry, List.map_cons, List.map_nil, List.cons_append, List.nil_append, List.append_nil, List.length_cons, List.length_nil, List.replicate, List.set_cons_zero, List.set_cons_succ, List.getElem?_cons_zero, List.getElem?_cons_succ, List.getElem?_nil, Option.getD_some, Option.getD_none, ite_true, ite_false, Bool.not_true, Bool.not_false, Bool.true_and, Bool.and_true, Bool.and_false, Bool.false_and, Bool.not_eq_true, Bool.false_eq_true, reduceIte, decide_eq_true_eq, atI_zero, atI_one, atI_two, atI_three, atI_four, atI_m1, wipeD, reduceCtorEq, ok_int, ok_non, ok_bl, eqv_int, ix40, ix41, ix42, ix43, Int.toNat_natCast, true_and, and_true]
    refine ⟨t2, ?_⟩
    by_cases h2 : isFrom by_ (-3) 3 = true
    · simp only [h2, wNext, wSeq, wBreak, wCont, wDrop, wRet, wSet, wPar, wIfS, wgName, wgNil, wgCons, wgTup, tupOf, wgLst, lstOf, wgSub, wAsg, putC, wAug, fAddI, fIxL, wAugS, wApp, wExt, putD, wFldS, wVar, dAt, wC, wBin, wUn, fSub_ii, fDiv_ii, fMod_ii, fPow_ii, fLt_ii, fLe_ii, fGt_ii, fGe_ii, fNeg_i, fAdd_ii, fAdd_tt, fAdd_ss, fAdd_ll, fAdd_c, fAdd_lc, fMul_ii, fMul_ti, fMul_li, fMul_ci, fMulC, lsOf, sqOf, wTest, wChain, wTAnd, wTOr, wTNot, wAndV, wOrV, wNotV, wIf, plOf, fEq, fNe, fIn, fIsN, fNotN, isNon, fFld, wFld, fIx, wNoPart, wPart, wSl, wNil, wCons, wStar, allP, allP_map, wTup, wLst, wLstC, wiSeq, wiRng1, wiRng2, wFor, wLc, wLcC, wLc2, wtYes, wiEnum, wiZip, wCB, fLen_s, fLen_t, fLen_l, fLen_c, fMax_ii, fMax_iii, fMax_l, fMin_ii, fMin_t, fMin_l, fMin_c, fSum, fAll, fAny, fList, fListC, fTuple, fSorted, fInt_i, fInt_b, fInt_s, fStr, sqF, fIsT, wIsT, tyName, kit_nt, kit_bt, kit_it, kit_st, kit_tt, kit_lt, kit_ni, kit_bi, kit_ii, kit_si, kit_ti, kit_li, kit_nb, kit_bb, kit_ib, kit_sb, kit_tb, kit_lb, wCallP0, wCallR0, wCallN0, wCallP, wCallR, wCallRf, wCallN, wMake, wMake0, wMakeC, wRaise, wNever, En.xp, enP, enR, enN, rtP, rtR, rtN, entry, List.map_cons, List.map_nil, List.cons_append, List.nil_append, List.append_nil, List.length_cons, List.length_nil, List.replicate, List.set_cons_zero, List.set_cons_succ, List.getElem?_cons_zero, List.getElem?_cons_succ, List.getElem?_nil, Option.getD_some, Option.getD_none, ite_true, ite_false, Bool.not_true, Bool.not_false, Bool.true_and, Bool.and_true, Bool.and_false, Bool.false_and, Bool.not_eq_true, Bool.false_eq_true, reduceIte, decide_eq_true_eq, atI_zero, atI_one, atI_two, atI_three, atI_four, atI_m1, wipeD, reduceCtorEq, ok_int, ok_non, ok_bl, eqv_int, ix40, ix41, ix42, ix43, Int.toNat_natCast, true_and, and_true, w_moved_8]
      simp only [h1, h2, Bool.and_true, if_true] at h
      obtain ⟨s, rfl⟩ : ∃ s, step = .int s := by cases step <;> simp_all [isFrom]
      obtain ⟨b, rfl⟩ : ∃ b, by_ = .int b := by cases by_ <;> simp_all [isFrom]
      simp only [isFrom, Bool.and_eq_true, decide_eq_true_eq] at h1 h2
      simp only [iOf] at h
      simp only [wNext, wSeq, wBreak, wCont, wDrop, wRet, wSet, wPar, wIfS, wgName, wgNil, wgCons, wgTup, tupOf, wgLst, lstOf, wgSub, wAsg, putC, wAug, fAddI, fIxL, wAugS, wApp, wExt, putD, wFldS, wVar, dAt, wC, wBin, wUn, fSub_ii, fDiv_ii, fMod_ii, fPow_ii, fLt_ii, fLe_ii, fGt_ii, fGe_ii, fNeg_i, fAdd_ii, fAdd_tt, fAdd_ss, fAdd_ll, fAdd_c, fAdd_lc, fMul_ii, fMul_ti, fMul_li, fMul_ci, fMulC, lsOf, sqOf, wTest, wChain, wTAnd, wTOr, wTNot, wAndV, wOrV, wNotV, wIf, plOf, fEq, fNe, fIn, fIsN, fNotN, isNon, fFld, wFld, fIx, wNoPart, wPart, wSl, wNil, wCons, wStar, allP, allP_map, wTup, wLst, wLstC, wiSeq, wiRng1, wiRng2, wFor, wLc, wLcC, wLc2, wtYes, wiEnum, wiZip, wCB, fLen_s, fLen_t, fLen_l, fLen_c, fMax_ii, fMax_iii, fMax_l, fMin_ii, fMin_t, fMin_l, fMin_c, fSum, fAll, fAny, fList, fListC, fTuple, fSorted, fInt_i, fInt_b, fInt_s, fStr, sqF, fIsT, wIsT, tyName, kit_nt, kit_bt, kit_it, kit_st, kit_tt, kit_lt, kit_ni, kit_bi, kit_ii, kit_si, kit_ti, kit_li, kit_nb, kit_bb, kit_ib, kit_sb, kit_tb, kit_lb, wCallP0, wCallR0, wCallN0, wCallP, wCallR, wCallRf, wCallN, wMake, wMake0, wMakeC, wRaise, wNever, En.xp, enP, enR, enN, rtP, rtR, rtN, entry, List.map_cons, List.map_nil, List.cons_append, List.nil_append, List.append_nil, List.length_cons, List.length_nil, List.replicate, List.set_cons_zero, List.set_cons_succ, List.getElem?_cons_zero, List.getElem?_cons_succ, List.getElem?_nil, Option.getD_some, Option.getD_none, ite_true, ite_false, Bool.not_true, Bool.not_false, Bool.true_and, Bool.and_true, Bool.and_false, Bool.false_and, Bool.not_eq_true, Bool.false_eq_true, reduceIte, decide_eq_true_eq, atI_zero, atI_one, atI_two, atI_three, atI_four, atI_m1, wipeD, reduceCtorEq, ok_int, ok_non, ok_bl, eqv_int, ix40, ix41, ix42, ix43, Int.toNat_natCast, true_and, and_true, w_moved_7, e, lk_bars, Lp.bP]
      refine ⟨Nat.zero_le _, ?_⟩
      refine ⟨fun i ds m => m = [.lst (((l.bars.take i).map (mvB s b)).map barP)] ∧ (∀ x ∈ l.bars.take i, 0 ≤ mvd s b x ∧ mvd s b x ≤ 3) ∧ ∃ s4 s5 s6 s7 s8, ds = [some (.p (l.pd q)), some (.p (.int s)), some (.p (.int b)), some (.c 0), s4, s5, s6, s7, s8],
        ⟨rfl, by simp, _, _, _, _, _, rfl⟩, ?_, ?_, ?_⟩
      · rintro i _ _ ⟨rfl, _, s4, s5, s6, s7, s8, rfl⟩
        trivial
      · rintro i x _ _ hx ⟨rfl, hb4, s4, s5, s6, s7, s8, rfl⟩
        obtain ⟨y, hy, rfl⟩ := map_inv hx
        have hyd := mvd_bd ok h2 (s := s) (List.mem_of_getElem? hy)
        change w_moved_5 q _ [some (.p (l.pd q)), some (.p (.int s)), some (.p (.int b)), some (.c 0), some (.p (.int y.1)), some (.p (.int y.2.1)), some (.p (.int y.2.2.1)), some (.p (.int y.2.2.2)), s8] _
        refine with_En fun E nx rt bk ct ex => ?_
        have ev : y.2.2.2 + b * (if y.2.1 = s then 1 else 0) - b * (if y.1 = s then 1 else 0) = mvd s b y := by
          unfold mvd i01
          simp only [decide_eq_true_eq]
        have cm : ∀ (p : Prop) [Decidable p], CMul b (if p then 1 else 0) := fun p _ => by split <;> exact .inl ⟨by omega, by omega⟩
        simp only [wNext, wSeq, wBreak, wCont, wDrop, wRet, wSet, wPar, wIfS, wgName, wgNil, wgCons, wgTup, tupOf, wgLst, lstOf, wgSub, wAsg, putC, wAug, fAddI, fIxL, wAugS, wApp, wExt, putD, wFldS, wVar, dAt, wC, wBin, wUn, fSub_ii, fDiv_ii, fMod_ii, fPow_ii, fLt_ii, fLe_ii, fGt_ii, fGe_ii, fNeg_i, fAdd_ii, fAdd_tt, fAdd_ss, fAdd_ll, fAdd_c, fAdd_lc, fMul_ii, fMul_ti, fMul_li, fMul_ci, fMulC, lsOf, sqOf, wTest, wChain, wTAnd, wTOr, wTNot, wAndV, wOrV, wNotV, wIf, plOf, fEq, fNe, fIn, fIsN, fNotN, isNon, fFld, wFld, fIx, wNoPart, wPart, wSl, wNil, wCons, wStar, allP, allP_map, wTup, wLst, wLstC, wiSeq, wiRng1, wiRng2, wFor, wLc, wLcC, wLc2, wtYes, wiEnum, wiZip, wCB, fLen_s, fLen_t, fLen_l, fLen_c, fMax_ii, fMax_iii, fMax_l, fMin_ii, fMin_t, fMin_l, fMin_c, fSum, fAll, fAny, fList, fListC, fTuple, fSorted, fInt_i, fInt_b, fInt_s, fStr, sqF, fIsT, wIsT, tyName, kit_nt, kit_bt, kit_it, kit_st, kit_tt, kit_lt, kit_ni, kit_bi, kit_ii, kit_si, kit_ti, kit_li, kit_nb, kit_bb, kit_ib, kit_sb, kit_tb, kit_lb, wCallP0, wCallR0, wCallN0, wCallP, wCallR, wCallRf, wCallN, wMake, wMake0, wMakeC, wRaise, wNever, En.xp, enP, enR, enN, rtP, rtR, rtN, entry, List.map_cons, List.map_nil, List.cons_append, List.nil_append, List.append_nil, List.length_cons, List.length_nil, List.replicate, List.set_cons_zero, List.set_cons_succ, List.getElem?_cons_zero, List.getElem?_cons_succ, List.getElem?_nil, Option.getD_some, Option.getD_none, ite_true, ite_false, Bool.not_true, Bool.not_false, Bool.true_and, Bool.and_true, Bool.and_false, Bool.false_and, Bool.not_eq_true, Bool.false_eq_true, reduceIte, decide_eq_true_eq, atI_zero, atI_one, atI_two, atI_three, atI_four, atI_m1, wipeD, reduceCtorEq, ok_int, ok_non, ok_bl, eqv_int, ix40, ix41, ix42, ix43, Int.toNat_natCast, true_and, and_true, w_moved_5, ev, w_moved_4]
        by_cases hv : 0 ≤ mvd s b y ∧ mvd s b y ≤ 3
        · simp only [hv.1, hv.2, decide_true, wNext, wSeq, wBreak, wCont, wDrop, wRet, wSet, wPar, wIfS, wgName, wgNil, wgCons, wgTup, tupOf, wgLst, lstOf, wgSub, wAsg, putC, wAug, fAddI, fIxL, wAugS, wApp, wExt, putD, wFldS, wVar, dAt, wC, wBin, wUn, fSub_ii, fDiv_ii, fMod_ii, fPow_ii, fLt_ii, fLe_ii, fGt_ii, fGe_ii, fNeg_i, fAdd_ii, fAdd_tt, fAdd_ss, fAdd_ll, fAdd_c, fAdd_lc, fMul_ii, fMul_ti, fMul_li, fMul_ci, fMulC, lsOf, sqOf, wTest, wChain, wTAnd, wTOr, wTNot, wAndV, wOrV, wNotV, wIf, plOf, fEq, fNe, fIn, fIsN, fNotN, isNon, fFld, wFld, fIx, wNoPart, wPart, wSl, wNil, wCons, wStar, allP, allP_map, wTup, wLst, wLstC, wiSeq, wiRng1, wiRng2, wFor, wLc, wLcC, wLc2, wtYes, wiEnum, wiZip, wCB, fLen_s, fLen_t, fLen_l, fLen_c, fMax_ii, fMax_iii, fMax_l, fMin_ii, fMin_t, fMin_l, fMin_c, fSum, fAll, fAny, fList, fListC, fTuple, fSorted, fInt_i, fInt_b, fInt_s, fStr, sqF, fIsT, wIsT, tyName, kit_nt, kit_bt, kit_it, kit_st, kit_tt, kit_lt, kit_ni, kit_bi, kit_ii, kit_si, kit_ti, kit_li, kit_nb, kit_bb, kit_ib, kit_sb, kit_tb, kit_lb, wCallP0, wCallR0, wCallN0, wCallP, wCallR, wCallRf, wCallN, wMake, wMake0, wMakeC, wRaise, wNever, En.xp, enP, enR, enN, rtP, rtR, rtN, entry, List.map_cons, List.map_nil, List.cons_append, List.nil_append, List.append_nil, List.length_cons, List.length_nil, List.replicate, List.set_cons_zero, List.set_cons_succ, List.getElem?_cons_zero, List.getElem?_cons_succ, List.getElem?_nil, Option.getD_some, Option.getD_none, ite_true, ite_false, Bool.not_true, Bool.not_false, Bool.true_and, Bool.and_true, Bool.and_false, Bool.false_and, Bool.not_eq_true, Bool.false_eq_true, reduceIte, decide_eq_true_eq, atI_zero, atI_one, atI_two, atI_three, atI_four, atI_m1, wipeD, reduceCtorEq, ok_int, ok_non, ok_bl, eqv_int, ix40, ix41, ix42, ix43, Int.toNat_natCast, true_and, and_true, w_moved_3]
          have e1 : l.bars.take (i + 1) = l.bars.take i ++ [y] := by rw [List.take_add_one, hy]; rfl
          have e2 : ((l.bars.take i).map (mvB s b)).map barP ++ [PD.tup [.int y.1, .int y.2.1, .int y.2.2.1, .int (mvd s b y)]] = ((l.bars.take (i + 1)).map (mvB s b)).map barP := by
            rw [e1, List.map_append, List.map_append]
            rfl
          refine ⟨cm _, cm _, ⟨_, rfl⟩, by decide, by rw [List.length_map, List.length_map, List.length_take]; unfold big; omega, ?_⟩
          · rw [e2]
            refine nx _ _ ⟨rfl, fun x hx => ?_, _, _, _, _, _, rfl⟩
            rw [e1] at hx
            rcases List.mem_append.mp hx with hx | hx
            · exact hb4 x hx
            · rw [List.mem_singleton] at hx
              rw [hx]
              exact hv
        · have hf : mvOk l s b = false := by
            rw [Bool.eq_false_iff]
            intro z
            unfold mvOk at z
            rw [List.all_eq_true] at z
            have := z y (List.mem_of_getElem? hy)
            simp only [Bool.and_eq_true, decide_eq_true_eq] at this
            exact hv this
          simp only [hf, Bool.false_eq_true, if_false] at h
          have hz : Xp q.BadMove [] := h
          by_cases h0 : 0 ≤ mvd s b y
          · have h3 : ¬ mvd s b y ≤ 3 := fun z => hv ⟨h0, z⟩
            simp only [h0, h3, decide_true, decide_false, wNext, wSeq, wBreak, wCont, wDrop, wRet, wSet, wPar, wIfS, wgName, wgNil, wgCons, wgTup, tupOf, wgLst, lstOf, wgSub, wAsg, putC, wAug, fAddI, fIxL, wAugS, wApp, wExt, putD, wFldS, wVar, dAt, wC, wBin, wUn, fSub_ii, fDiv_ii, fMod_ii, fPow_ii, fLt_ii, fLe_ii, fGt_ii, fGe_ii, fNeg_i, fAdd_ii, fAdd_tt, fAdd_ss, fAdd_ll, fAdd_c, fAdd_lc, fMul_ii, fMul_ti, fMul_li, fMul_ci, fMulC, lsOf, sqOf, wTest, wChain, wTAnd, wTOr, wTNot, wAndV, wOrV, wNotV, wIf, plOf, fEq, fNe, fIn, fIsN, fNotN, isNon, fFld, wFld, fIx, wNoPart, wPart, wSl, wNil, wCons, wStar, allP, allP_map, wTup, wLst, wLstC, wiSeq, wiRng1, wiRng2, wFor, wLc, wLcC, wLc2, wtYes, wiEnum, wiZip, wCB, fLen_s, fLen_t, fLen_l, fLen_c, fMax_ii, fMax_iii, fMax_l, fMin_ii, fMin_t, fMin_l, fMin_c, fSum, fAll, fAny, fList, fListC, fTuple, fSorted, fInt_i, fInt_b, fInt_s, fStr, sqF, fIsT, wIsT, tyName, kit_nt, kit_bt, kit_it, kit_st, kit_tt, kit_lt, kit_ni, kit_bi, kit_ii, kit_si, kit_ti, kit_li, kit_nb, kit_bb, kit_ib, kit_sb, kit_tb, kit_lb, wCallP0, wCallR0, wCallN0, wCallP, wCallR, wCallRf, wCallN, wMake, wMake0, wMakeC, wRaise, wNever, En.xp, enP, enR, enN, rtP, rtR, rtN, entry, List.map_cons, List.map_nil, List.cons_append, List.nil_append, List.append_nil, List.length_cons, List.length_nil, List.replicate, List.set_cons_zero, List.set_cons_succ, List.getElem?_cons_zero, List.getElem?_cons_succ, List.getElem?_nil, Option.getD_some, Option.getD_none, ite_true, ite_false, Bool.not_true, Bool.not_false, Bool.true_and, Bool.and_true, Bool.and_false, Bool.false_and, Bool.not_eq_true, Bool.false_eq_true, reduceIte, decide_eq_true_eq, atI_zero, atI_one, atI_two, atI_three, atI_four, atI_m1, wipeD, reduceCtorEq, ok_int, ok_non, ok_bl, eqv_int, ix40, ix41, ix42, ix43, Int.toNat_natCast, true_and, and_true, w_moved_2]
            exact ⟨cm _, cm _, ex _ _ _ _ hz⟩
          · simp only [h0, decide_false, wNext, wSeq, wBreak, wCont, wDrop, wRet, wSet, wPar, wIfS, wgName, wgNil, wgCons, wgTup, tupOf, wgLst, lstOf, wgSub, wAsg, putC, wAug, fAddI, fIxL, wAugS, wApp, wExt, putD, wFldS, wVar, dAt, wC, wBin, wUn, fSub_ii, fDiv_ii, fMod_ii, fPow_ii, fLt_ii, fLe_ii, fGt_ii, fGe_ii, fNeg_i, fAdd_ii, fAdd_tt, fAdd_ss, fAdd_ll, fAdd_c, fAdd_lc, fMul_ii, fMul_ti, fMul_li, fMul_ci, fMulC, lsOf, sqOf, wTest, wChain, wTAnd, wTOr, wTNot, wAndV, wOrV, wNotV, wIf, plOf, fEq, fNe, fIn, fIsN, fNotN, isNon, fFld, wFld, fIx, wNoPart, wPart, wSl, wNil, wCons, wStar, allP, allP_map, wTup, wLst, wLstC, wiSeq, wiRng1, wiRng2, wFor, wLc, wLcC, wLc2, wtYes, wiEnum, wiZip, wCB, fLen_s, fLen_t, fLen_l, fLen_c, fMax_ii, fMax_iii, fMax_l, fMin_ii, fMin_t, fMin_l, fMin_c, fSum, fAll, fAny, fList, fListC, fTuple, fSorted, fInt_i, fInt_b, fInt_s, fStr, sqF, fIsT, wIsT, tyName, kit_nt, kit_bt, kit_it, kit_st, kit_tt, kit_lt, kit_ni, kit_bi, kit_ii, kit_si, kit_ti, kit_li, kit_nb, kit_bb, kit_ib, kit_sb, kit_tb, kit_lb, wCallP0, wCallR0, wCallN0, wCallP, wCallR, wCallRf, wCallN, wMake, wMake0, wMakeC, wRaise, wNever, En.xp, enP, enR, enN, rtP, rtR, rtN, entry, List.map_cons, List.map_nil, List.cons_append, List.nil_append, List.append_nil, List.length_cons, List.length_nil, List.replicate, List.set_cons_zero, List.set_cons_succ, List.getElem?_cons_zero, List.getElem?_cons_succ, List.getElem?_nil, Option.getD_some, Option.getD_none, ite_true, ite_false, Bool.not_true, Bool.not_false, Bool.true_and, Bool.and_true, Bool.and_false, Bool.false_and, Bool.not_eq_true, Bool.false_eq_true, reduceIte, decide_eq_true_eq, atI_zero, atI_one, atI_two, atI_three, atI_four, atI_m1, wipeD, reduceCtorEq, ok_int, ok_non, ok_bl, eqv_int, ix40, ix41, ix42, ix43, Int.toNat_natCast, true_and, and_true, w_moved_2]
            exact ⟨cm _, cm _, ex _ _ _ _ hz⟩
      · rintro _ _ ⟨rfl, hb4, s4, s5, s6, s7, s8, rfl⟩
        simp only [List.length_map, List.take_length] at hb4 ⊢
        have hf : mvOk l s b = true := by
          unfold mvOk
          rw [List.all_eq_true]
          intro x hx
          simp only [Bool.and_eq_true, decide_eq_true_eq]
          exact hb4 x hx
        simp only [hf, if_true] at h
        simp only [wNext, wSeq, wBreak, wCont, wDrop, wRet, wSet, wPar, wIfS, wgName, wgNil, wgCons, wgTup, tupOf, wgLst, lstOf, wgSub, wAsg, putC, wAug, fAddI, fIxL, wAugS, wApp, wExt, putD, wFldS, wVar, dAt, wC, wBin, wUn, fSub_ii, fDiv_ii, fMod_ii, fPow_ii, fLt_ii, fLe_ii, fGt_ii, fGe_ii, fNeg_i, fAdd_ii, fAdd_tt, fAdd_ss, fAdd_ll, fAdd_c, fAdd_lc, fMul_ii, fMul_ti, fMul_li, fMul_ci, fMulC, lsOf, sqOf, wTest, wChain, wTAnd, wTOr, wTNot, wAndV, wOrV, wNotV, wIf, plOf, fEq, fNe, fIn, fIsN, fNotN, isNon, fFld, wFld, fIx, wNoPart, wPart, wSl, wNil, wCons, wStar, allP, allP_map, wTup, wLst, wLstC, wiSeq, wiRng1, wiRng2, wFor, wLc, wLcC, wLc2, wtYes, wiEnum, wiZip, wCB, fLen_s, fLen_t, fLen_l, fLen_c, fMax_ii, fMax_iii, fMax_l, fMin_ii, fMin_t, fMin_l, fMin_c, fSum, fAll, fAny, fList, fListC, fTuple, fSorted, fInt_i, fInt_b, fInt_s, fStr, sqF, fIsT, wIsT, tyName, kit_nt, kit_bt, kit_it, kit_st, kit_tt, kit_lt, kit_ni, kit_bi, kit_ii, kit_si, kit_ti, kit_li, kit_nb, kit_bb, kit_ib, kit_sb, kit_tb, kit_lb, wCallP0, wCallR0, wCallN0, wCallP, wCallR, wCallRf, wCallN, wMake, wMake0, wMakeC, wRaise, wNever, En.xp, enP, enR, enN, rtP, rtR, rtN, entry, List.map_cons, List.map_nil, List.cons_append, List.nil_append, List.append_nil, List.length_cons, List.length_nil, List.replicate, List.set_cons_zero, List.set_cons_succ, List.getElem?_cons_zero, List.getElem?_cons_succ, List.getElem?_nil, Option.getD_some, Option.getD_none, ite_true, ite_false, Bool.not_true, Bool.not_false, Bool.true_and, Bool.and_true, Bool.and_false, Bool.false_and, Bool.not_eq_true, Bool.false_eq_true, reduceIte, decide_eq_true_eq, atI_zero, atI_one, atI_two, atI_three, atI_four, atI_m1, wipeD, reduceCtorEq, ok_int, ok_non, ok_bl, eqv_int, ix40, ix41, ix42, ix43, Int.toNat_natCast, true_and, and_true, w_moved_6, e, lk_counts, lk_rows]
        refine ⟨movedL l s b, rfl, rfl, movedL_ok ok hf, rfl, _, rfl, h⟩
    · simp only [Bool.not_eq_true] at h2
      simp only [h2, wNext, wSeq, wBreak, wCont, wDrop, wRet, wSet, wPar, wIfS, wgName, wgNil, wgCons, wgTup, tupOf, wgLst, lstOf, wgSub, wAsg, putC, wAug, fAddI, fIxL, wAugS, wApp, wExt, putD, wFldS, wVar, dAt, wC, wBin, wUn, fSub_ii, fDiv_ii, fMod_ii, fPow_ii, fLt_ii, fLe_ii, fGt_ii, fGe_ii, fNeg_i, fAdd_ii, fAdd_tt, fAdd_ss, fAdd_ll, fAdd_c, fAdd_lc, fMul_ii, fMul_ti, fMul_li, fMul_ci, fMulC, lsOf, sqOf, wTest, wChain, wTAnd, wTOr, wTNot, wAndV, wOrV, wNotV, wIf, plOf, fEq, fNe, fIn, fIsN, fNotN, isNon, fFld, wFld, fIx, wNoPart, wPart, wSl, wNil, wCons, wStar, allP, allP_map, wTup, wLst, wLstC, wiSeq, wiRng1, wiRng2, wFor, wLc, wLcC, wLc2, wtYes, wiEnum, wiZip, wCB, fLen_s, fLen_t, fLen_l, fLen_c, fMax_ii, fMax_iii, fMax_l, fMin_ii, fMin_t, fMin_l, fMin_c, fSum, fAll, fAny, fList, fListC, fTuple, fSorted, fInt_i, fInt_b, fInt_s, fStr, sqF, fIsT, wIsT, tyName, kit_nt, kit_bt, kit_it, kit_st, kit_tt, kit_lt, kit_ni, kit_bi, kit_ii, kit_si, kit_ti, kit_li, kit_nb, kit_bb, kit_ib, kit_sb, kit_tb, kit_lb, wCallP0, wCallR0, wCallN0, wCallP, wCallR, wCallRf, wCallN, wMake, wMake0, wMakeC, wRaise, wNever, En.xp, enP, enR, enN, rtP, rtR, rtN, entry, List.map_cons, List.map_nil, List.cons_append, List.nil_append, List.append_nil, List.length_cons, List.length_nil, List.replicate, List.set_cons_zero, List.set_cons_succ, List.getElem?_cons_zero, List.getElem?_cons_succ, List.getElem?_nil, Option.getD_some, Option.getD_none, ite_true, ite_false, Bool.not_true, Bool.not_false, Bool.true_and, Bool.and_true, Bool.and_false, Bool.false_and, Bool.not_eq_true, Bool.false_eq_true, reduceIte, decide_eq_true_eq, atI_zero, atI_one, atI_two, atI_three, atI_four, atI_m1, wipeD, reduceCtorEq, ok_int, ok_non, ok_bl, eqv_int, ix40, ix41, ix42, ix43, Int.toNat_natCast, true_and, and_true, w_moved_1]
      simp only [h1, h2, Bool.and_false, Bool.false_eq_true, if_false] at h
      exact h
  · simp only [Bool.not_eq_true] at h1
    simp only [h1, wNext, wSeq, wBreak, wCont, wDrop, wRet, wSet, wPar, wIfS, wgName, wgNil, wgCons, wgTup, tupOf, wgLst, lstOf, wgSub, wAsg, putC, wAug, fAddI, fIxL, wAugS, wApp, wExt, putD, wFldS, wVar, dAt, wC, wBin, wUn, fSub_ii, fDiv_ii, fMod_ii, fPow_ii, fLt_ii, fLe_ii, fGt_ii, fGe_ii, fNeg_i, fAdd_ii, fAdd_tt, fAdd_ss, fAdd_ll, fAdd_c, fAdd_lc, fMul_ii, fMul_ti, fMul_li, fMul_ci, fMulC, lsOf, sqOf, wTest, wChain, wTAnd, wTOr, wTNot, wAndV, wOrV, wNotV, wIf, plOf, fEq, fNe, fIn, fIsN, fNotN, isNon, fFld, wFld, fIx, wNoPart, wPart, wSl, wNil, wCons, wStar, allP, allP_map, wTup, wLst, wLstC, wiSeq, wiRng1, wiRng2, wFor, wLc, wLcC, wLc2, wtYes, wiEnum, wiZip, wCB, fLen_s, fLen_t, fLen_l, fLen_c, fMax_ii, fMax_iii, fMax_l, fMin_ii, fMin_t, fMin_l, fMin_c, fSum, fAll, fAny, fList, fListC, fTuple, fSorted, fInt_i, fInt_b, fInt_s, fStr, sqF, fIsT, wIsT, tyName, kit_nt, kit_bt, kit_it, kit_st, kit_tt, kit_lt, kit_ni, kit_bi, kit_ii, kit_si, kit_ti, kit_li, kit_nb, kit_bb, kit_ib, kit_sb, kit_tb, kit_lb, wCallP0, wCallR0, wCallN0, wCallP, wCallR, wCallRf, wCallN, wMake, wMake0, wMakeC, wRaise, wNever, En.xp, enP, enR, enN, rtP, rtR, rtN, entry, List.map_cons, List.map_nil, List.cons_append, List.nil_append, List.append_nil, List.length_cons, List.length_nil, List.replicate, List.set_cons_zero, List.set_cons_succ, List.getElem?_cons_zero, List.getElem?_cons_succ, List.getElem?_nil, Option.getD_some, Option.getD_none, ite_true, ite_false, Bool.not_true, Bool.not_false, Bool.true_and, Bool.and_true, Bool.and_false, Bool.false_and, Bool.not_eq_true, Bool.false_eq_true, reduceIte, decide_eq_true_eq, atI_zero, atI_one, atI_two, atI_three, atI_four, atI_m1, wipeD, reduceCtorEq, ok_int, ok_non, ok_bl, eqv_int, ix40, ix41, ix42, ix43, Int.toNat_natCast, true_and, and_true, w_moved_1]
    simp only [h1, Bool.false_and, Bool.false_eq_true, if_false] at h
    exact h
end DL

set_option Elab.async false
set_option linter.all false
set_option maxRecDepth 100000
set_option maxHeartbeats 4000000
namespace DL
open PySem L2
def mvOut (q : Ad) (x : Option Lp) : PD := match x with | some k => k.pd q | none => .str "move"
def r__law_told_there (q : Ad) : RP := fun args P _ => ∃ (l : Lp) (step by_ : PD), args = [l.pd q, step, by_] ∧ l.Ok ∧ tyOk step = true ∧ tyOk by_ = true ∧ P (mvOut q (movedO l step by_))
end DL

set_option Elab.async false
set_option linter.all false
set_option maxRecDepth 100000
set_option maxHeartbeats 4000000
namespace DL
open PySem L2
/-! _law_told_there -/
def w__law_told_there_1 (q : Ad) : WS := (wSet 3 (wCallP (r_moved q) (wCons (wVar 0) (wCons (wVar 1) (wCons (wVar 2) wNil)))))
def cl__law_told_there_t0 (q : Ad) : List Cl := [⟨q.BadMove, 4, 3, fun _ => some (.str "move")⟩]
def w__law_told_there_2 (q : Ad) : WS := (wRet (wVar 3))
def w__law_told_there_3 (q : Ad) : WS := (wSeq (wTry [q.BadMove] (cl__law_told_there_t0 q) (w__law_told_there_1 q)) (w__law_told_there_2 q))
def w__law_told_there_4 (q : Ad) : WS := (wSeq (wSet 3 (wC .non)) (w__law_told_there_3 q))
def w__law_told_there (q : Ad) : WS := (w__law_told_there_4 q)
abbrev n__law_told_there : List Str := ["_law_loop_here", "_law_step", "_law_by", "_law_told_there_here", "e"]
/-! law -/
def w_law_1 (q : Ad) : WS := (wSet 11 (wBin fAdd (wVar 11) (wVar 6)))
def w_law_2 (q : Ad) : WS := (wSet 11 (wBin fSub (wVar 11) (wVar 6)))
def w_law_3 (q : Ad) : WS := (wIfS (wTAnd (wTest (wBin fNe (wVar 8) (wVar 9))) (wTest (wBin fEq (wVar 8) (wVar 5)))) (w_law_2 q) wNext)
def w_law_4 (q : Ad) : WS := (wSet 7 (wBin fAdd (wVar 7) (wTup (wCons (wTup (wCons (wVar 8) (wCons (wVar 9) (wCons (wVar 10) (wCons (wVar 11) wNil))))) wNil))))
def w_law_5 (q : Ad) : WS := (wSeq (wIfS (wTAnd (wTest (wBin fNe (wVar 8) (wVar 9))) (wTest (wBin fEq (wVar 9) (wVar 5)))) (w_law_1 q) (w_law_3 q)) (w_law_4 q))
def w_law_6 (q : Ad) : WS := (wRet (wC (.bl false)))
def w_law_7 (q : Ad) : WS := (wRet (wC (.bl false)))
def w_law_8 (q : Ad) : WS := (wRet (wC (.bl false)))
def w_law_9 (q : Ad) : WS := (wRet (wC (.bl false)))
def w_law_10 (q : Ad) : WS := (wIfS (wTest (wBin fNe (wCallP0 (r__law_told_there q) (wCons (wVar 4) (wCons (wVar 5) (wCons (wBin fIx (wLst (wCons (wC (.int 4)) (wCons (wUn fNeg (wC (.int 4))) (wCons (wC (.bl true)) (wCons (wC .non) wNil))))) (wCallR0 (r__law_pick q) (wCons (wVar 1) (wCons (wC (.int 4)) wNil)))) wNil)))) (wC (.str "move")))) (w_law_9 q) wNext)
def w_law_11 (q : Ad) : WS := (wSeq (wIfS (wTest (wBin fNe (wCallP0 (r__law_told_there q) (wCons (wVar 4) (wCons (wVar 14) (wCons (wC (.int 0)) wNil)))) (wC (.str "move")))) (w_law_8 q) wNext) (w_law_10 q))
def w_law_12 (q : Ad) : WS := (wSeq (wSet 14 (wBin fIx (wLst (wCons (wUn fNeg (wC (.int 1))) (wCons (wCB fLen (wCons (wBin fIx (wVar 3) (wC (.int 1))) wNil)) (wCons (wC (.bl true)) (wCons (wC .non) (wCons (wC (.str "0")) wNil)))))) (wCallR0 (r__law_pick q) (wCons (wVar 1) (wCons (wC (.int 5)) wNil))))) (w_law_11 q))
def w_law_13 (q : Ad) : WS := (wSeq (wIfS (wTAnd (wTest (wVar 12)) (wTest (wBin fNe (wCallP0 (r_rings q) (wCons (wVar 13) wNil)) (wCallP0 (r_rings q) (wCons (wVar 4) wNil))))) (w_law_7 q) wNext) (w_law_12 q))
def w_law_14 (q : Ad) : WS := (wSeq (wIfS (wTOr (wTAnd (wTest (wVar 12)) (wTest (wBin (fOwn2 q.Loop (r_Loopz_eqz q) (fun k => !k)) (wVar 13) (wMake0 q.Loop (r_Loopz_initz q) (wCons (wBin fIx (wVar 3) (wC (.int 0))) (wCons (wBin fIx (wVar 3) (wC (.int 1))) (wCons (wVar 7) wNil))))))) (wTAnd (wTNot (wTest (wVar 12))) (wTest (wBin fNe (wVar 13) (wC (.str "move")))))) (w_law_6 q) wNext) (w_law_13 q))
def w_law_15 (q : Ad) : WS := (wSeq (wSet 13 (wCallP0 (r__law_told_there q) (wCons (wVar 4) (wCons (wVar 5) (wCons (wVar 6) wNil))))) (w_law_14 q))
def w_law_16 (q : Ad) : WS := (wSeq (wSet 12 (wBin fEq (wLc [15] (wiSeq (wVar 7)) (wgName 15) (wTNot (wTest (wChain fLe fLe (wC (.int 0)) (wBin fIx (wVar 15) (wC (.int 3))) (wC (.int 3))))) (wVar 15)) (wLst wNil))) (w_law_15 q))
def w_law_17 (q : Ad) : WS := (wSeq (wFor (wiSeq (wBin fIx (wVar 3) (wC (.int 2)))) (wgTup 4 (wgCons (wgName 8) (wgCons (wgName 9) (wgCons (wgName 10) (wgCons (wgName 11) wgNil))))) (w_law_5 q)) (w_law_16 q))
def w_law_18 (q : Ad) : WS := (wSeq (wSet 7 (wTup wNil)) (w_law_17 q))
def w_law_19 (q : Ad) : WS := (wSeq (wPar3 4 5 6 (wCons (wCallP0 (r__law_made q) (wCons (wVar 3) wNil)) (wCons (wCallR0 (r__law_pick q) (wCons (wVar 1) (wCons (wCB fLen (wCons (wBin fIx (wVar 3) (wC (.int 1))) wNil)) wNil))) (wCons (wBin fSub (wCallR0 (r__law_pick q) (wCons (wVar 1) (wCons (wC (.int 7)) wNil))) (wC (.int 3))) wNil)))) (w_law_18 q))
def w_law_20 (q : Ad) : WS := (wSeq (wSet 3 (wCallR0 (r__law_loop q) (wCons (wVar 1) (wCons (wC (.int 5)) (wCons (wC (.int 6)) wNil))))) (w_law_19 q))
def w_law_21 (q : Ad) : WS := (wRet (wC (.bl true)))
def w_law_22 (q : Ad) : WS := (wSeq (wFor (wiRng1 (wCons (wC (.int 4)) wNil)) (wgName 2) (w_law_20 q)) (w_law_21 q))
def w_law_23 (q : Ad) : WS := (wSeq (wSet 1 (wCallN0 (r__law_draws q) (wCons (wVar 0) wNil))) (w_law_22 q))
def w_law (q : Ad) : WS := (w_law_23 q)
abbrev n_law : List Str := ["_law_script", "_law_row", "_law_turn", "_law_f", "_law_loop_here", "_law_step", "_law_by", "_law_waits", "_law_one", "_law_other", "_law_moments", "_law_rounds", "_law_good", "_law_found", "_law_wrong", "_law_wait"]
end DL

set_option Elab.async false
set_option linter.all false
set_option maxRecDepth 100000
set_option maxHeartbeats 4000000
namespace DL
open PySem L2
/-! ### rings stay when a step is moved -/
theorem one_mv (bs : List Bar) (s b : Int) : bOne (bs.map (mvB s b)) = bOne bs := by
  funext i
  unfold bOne
  rw [List.getD_eq_getElem?_getD, List.getD_eq_getElem?_getD, List.getElem?_map]
  cases bs[i]? <;> rfl
theorem oth_mv (bs : List Bar) (s b : Int) : bOth (bs.map (mvB s b)) = bOth bs := by
  funext i
  unfold bOth
  rw [List.getD_eq_getElem?_getD, List.getD_eq_getElem?_getD, List.getElem?_map]
  cases bs[i]? <;> rfl
theorem mom_mv (bs : List Bar) (s b : Int) : bMom (bs.map (mvB s b)) = bMom bs := by
  funext i
  unfold bMom
  rw [List.getD_eq_getElem?_getD, List.getD_eq_getElem?_getD, List.getElem?_map]
  cases bs[i]? <;> rfl
theorem rnd_mv (bs : List Bar) (s b : Int) {i : Nat} (hi : i < bs.length) : bRnd (bs.map (mvB s b)) i = bRnd bs i + b * i01 (decide (bOth bs i = s)) - b * i01 (decide (bOne bs i = s)) := by
  unfold bRnd bOth bOne
  rw [List.getD_eq_getElem?_getD, List.getD_eq_getElem?_getD, List.getElem?_map, List.getElem?_eq_getElem hi]
  rfl
theorem dfs_cong {bs cs : List Bar} (hl : cs.length = bs.length) (h1 : bOne cs = bOne bs) (h2 : bOth cs = bOth bs) : ∀ (n : Nat) (row : List Nat), dfs cs n row = dfs bs n row
  | 0, _ => rfl
  | n + 1, row => by
    unfold dfs
    rw [h1, h2, hl]
    simp only [dfs_cong hl h1 h2 n]
theorem dAll_cong {bs cs : List Bar} (hl : cs.length = bs.length) (h1 : bOne cs = bOne bs) (h2 : bOth cs = bOth bs) (S : Nat) : dAll cs S = dAll bs S := by
  have e : begun cs S = begun bs S := by
    funext i
    unfold begun
    rw [h1, h2, dfs_cong hl h1 h2]
  unfold dAll
  rw [hl, e]
theorem rings_mv (l : Lp) (s b : Int) : ringsN (movedL l s b) = ringsN l := by
  unfold ringsN
  rw [show dAll (movedL l s b).bars 6 = dAll l.bars 6 from dAll_cong (List.length_map _) (one_mv _ _ _) (oth_mv _ _ _) 6]
theorem rsum_lin (bs : List Bar) (s b : Int) : ∀ r : List Nat, (∀ i ∈ r, i < bs.length) → (r.map (bRnd (bs.map (mvB s b)))).sum = (r.map (bRnd bs)).sum + b * ((r.map (bOth bs)).map fun x => i01 (decide (x = s))).sum - b * ((r.map (bOne bs)).map fun x => i01 (decide (x = s))).sum
  | [], _ => by simp
  | i :: r, h => by
    simp only [List.map_cons, List.sum_cons]
    rw [rsum_lin bs s b r (fun j hj => h j (List.mem_cons_of_mem _ hj)), rnd_mv bs s b (h i List.mem_cons_self), Int.mul_add, Int.mul_add]
    omega
theorem rsum_mv {l : Lp} (ok : l.Ok) (s b : Int) {r : List Nat} (hr : r ∈ ringsN l) : rSum (movedL l s b) r = rSum l r := by
  obtain ⟨a, h⟩ := (mem_rings ok).mp hr
  obtain ⟨ds, e1, e2⟩ := closed_ends _ h.ch h.ne
  show (r.map (bRnd (l.bars.map (mvB s b)))).sum = (r.map (bRnd l.bars)).sum
  rw [rsum_lin l.bars s b r (ring_in ok hr).1, e1, e2]
  simp only [List.map_cons, List.map_append, List.map_nil, List.sum_cons, List.sum_append, List.sum_nil]
  rw [Int.add_zero, Int.add_comm (i01 _)]
  omega
theorem rows_mv {l : Lp} (ok : l.Ok) (s b : Int) : (ringsN (movedL l s b)).map (ringRow (movedL l s b)) = (ringsN l).map (ringRow l) := by
  rw [rings_mv]
  refine List.map_congr_left fun r hr => ?_
  unfold ringRow
  rw [rsum_mv ok s b hr]
  have : mSum (movedL l s b) r = mSum l r := by
    show (r.map (bMom (l.bars.map (mvB s b)))).sum = _
    rw [mom_mv]
    rfl
  rw [this]
theorem ringRow_pl (l : Lp) (r : List Nat) : (ringRow l r).pl 6 = true := by simp [ringRow, ringP, PD.pl]
theorem eqv_refl {x : PD} {n : Nat} (h : x.pl n = true) : PD.eqv x x = true := (PD.eqv_iff h h).mpr rfl
/-! ### the defs -/
theorem z__law_told_there {q : Ad} (args : List PD) (P : PD → Prop) (Xp : RX) (h : r__law_told_there q args P Xp) : w__law_told_there q (enP P Xp) (entry n__law_told_there.length (args.map D.p)) [] := by
  obtain ⟨l, step, by_, rfl, ok, t1, t2, h⟩ := h
  simp only [w__law_told_there, w__law_told_there_4, wNext, wSeq, wBreak, wCont, wDrop, wRet, wSet, wPar, wIfS, wgName, wgNil, wgCons, wgTup, tupOf, wgLst, lstOf, wgSub, wAsg, putC, wAug, fAddI, fIxL, wAugS, wApp, wExt, putD, wFldS, wVar, dAt, wC, wBin, wUn, fSub_ii, fDiv_ii, fMod_ii, fPow_ii, fLt_ii, fLe_ii, fGt_ii, fGe_ii, fNeg_i, fAdd_ii, fAdd_tt, fAdd_ss, fAdd_ll, fAdd_c, fAdd_lc, fMul_ii, fMul_ti, fMul_li, fMul_ci, fMulC, lsOf, sqOf, wTest, wChain, wTAnd, wTOr, wTNot, wAndV, wOrV, wNotV, wIf, plOf, fEq, fNe, fIn, fIsN, fNotN, isNon, fFld, wFld, fIx, wNoPart, wPart, wSl, wNil, wCons, wStar, allP, allP_map, wTup, wLst, wLstC, wiSeq, wiRng1, wiRng2, wFor, wLc, wLcC, wLc2, wtYes, wiEnum, wiZip, wCB, fLen_s, fLen_t, fLen_l, fLen_c, fMax_ii, fMax_iii, fMax_l, fMin_ii, fMin_t, fMin_l, fMin_c, fSum, fAll, fAny, fList, fListC, fTuple, fSorted, fInt_i, fInt_b, fInt_s, fStr, sqF, fIsT, wIsT, tyName, kit_nt, kit_bt, kit_it, kit_st, kit_tt, kit_lt, kit_ni, kit_bi, kit_ii, kit_si, kit_ti, kit_li, kit_nb, kit_bb, kit_ib, kit_sb, kit_tb, kit_lb, wCallP0, wCallR0, wCallN0, wCallP, wCallR, wCallRf, wCallN, wMake, wMake0, wMakeC, wRaise, wNever, En.xp, enP, enR, enN, rtP, rtR, rtN, entry, List.map_cons, List.map_nil, List.cons_append, List.nil_append, List.append_nil, List.length_cons, List.length_nil, List.replicate, List.set_cons_zero, List.set_cons_succ, List.getElem?_cons_zero, List.getElem?_cons_succ, List.getElem?_nil, Option.getD_some, Option.getD_none, ite_true, ite_false, Bool.not_true, Bool.not_false, Bool.true_and, Bool.and_true, Bool.and_false, Bool.false_and, Bool.not_eq_true, Bool.false_eq_true, reduceIte, decide_eq_true_eq, atI_zero, atI_one, atI_two, atI_three, atI_four, atI_m1, wipeD, reduceCtorEq, ok_int, ok_non, ok_bl, eqv_int, ix40, ix41, ix42, ix43, Int.toNat_natCast, true_and, and_true, n__law_told_there, w__law_told_there_3, wTry, w__law_told_there_1, w__law_told_there_2, cl__law_told_there_t0, catchD]
  refine ⟨l, step, by_, rfl, ok, t1, t2, ?_⟩
  cases hm : movedO l step by_ with
  | some k =>
    rw [hm] at h
    simp only [wNext, wSeq, wBreak, wCont, wDrop, wRet, wSet, wPar, wIfS, wgName, wgNil, wgCons, wgTup, tupOf, wgLst, lstOf, wgSub, wAsg, putC, wAug, fAddI, fIxL, wAugS, wApp, wExt, putD, wFldS, wVar, dAt, wC, wBin, wUn, fSub_ii, fDiv_ii, fMod_ii, fPow_ii, fLt_ii, fLe_ii, fGt_ii, fGe_ii, fNeg_i, fAdd_ii, fAdd_tt, fAdd_ss, fAdd_ll, fAdd_c, fAdd_lc, fMul_ii, fMul_ti, fMul_li, fMul_ci, fMulC, lsOf, sqOf, wTest, wChain, wTAnd, wTOr, wTNot, wAndV, wOrV, wNotV, wIf, plOf, fEq, fNe, fIn, fIsN, fNotN, isNon, fFld, wFld, fIx, wNoPart, wPart, wSl, wNil, wCons, wStar, allP, allP_map, wTup, wLst, wLstC, wiSeq, wiRng1, wiRng2, wFor, wLc, wLcC, wLc2, wtYes, wiEnum, wiZip, wCB, fLen_s, fLen_t, fLen_l, fLen_c, fMax_ii, fMax_iii, fMax_l, fMin_ii, fMin_t, fMin_l, fMin_c, fSum, fAll, fAny, fList, fListC, fTuple, fSorted, fInt_i, fInt_b, fInt_s, fStr, sqF, fIsT, wIsT, tyName, kit_nt, kit_bt, kit_it, kit_st, kit_tt, kit_lt, kit_ni, kit_bi, kit_ii, kit_si, kit_ti, kit_li, kit_nb, kit_bb, kit_ib, kit_sb, kit_tb, kit_lb, wCallP0, wCallR0, wCallN0, wCallP, wCallR, wCallRf, wCallN, wMake, wMake0, wMakeC, wRaise, wNever, En.xp, enP, enR, enN, rtP, rtR, rtN, entry, List.map_cons, List.map_nil, List.cons_append, List.nil_append, List.append_nil, List.length_cons, List.length_nil, List.replicate, List.set_cons_zero, List.set_cons_succ, List.getElem?_cons_zero, List.getElem?_cons_succ, List.getElem?_nil, Option.getD_some, Option.getD_none, ite_true, ite_false, Bool.not_true, Bool.not_false, Bool.true_and, Bool.and_true, Bool.and_false, Bool.false_and, Bool.not_eq_true, Bool.false_eq_true, reduceIte, decide_eq_true_eq, atI_zero, atI_one, atI_two, atI_three, atI_four, atI_m1, wipeD, reduceCtorEq, ok_int, ok_non, ok_bl, eqv_int, ix40, ix41, ix42, ix43, Int.toNat_natCast, true_and, and_true]
    exact h
  | none =>
    rw [hm] at h
    simp only [wNext, wSeq, wBreak, wCont, wDrop, wRet, wSet, wPar, wIfS, wgName, wgNil, wgCons, wgTup, tupOf, wgLst, lstOf, wgSub, wAsg, putC, wAug, fAddI, fIxL, wAugS, wApp, wExt, putD, wFldS, wVar, dAt, wC, wBin, wUn, fSub_ii, fDiv_ii, fMod_ii, fPow_ii, fLt_ii, fLe_ii, fGt_ii, fGe_ii, fNeg_i, fAdd_ii, fAdd_tt, fAdd_ss, fAdd_ll, fAdd_c, fAdd_lc, fMul_ii, fMul_ti, fMul_li, fMul_ci, fMulC, lsOf, sqOf, wTest, wChain, wTAnd, wTOr, wTNot, wAndV, wOrV, wNotV, wIf, plOf, fEq, fNe, fIn, fIsN, fNotN, isNon, fFld, wFld, fIx, wNoPart, wPart, wSl, wNil, wCons, wStar, allP, allP_map, wTup, wLst, wLstC, wiSeq, wiRng1, wiRng2, wFor, wLc, wLcC, wLc2, wtYes, wiEnum, wiZip, wCB, fLen_s, fLen_t, fLen_l, fLen_c, fMax_ii, fMax_iii, fMax_l, fMin_ii, fMin_t, fMin_l, fMin_c, fSum, fAll, fAny, fList, fListC, fTuple, fSorted, fInt_i, fInt_b, fInt_s, fStr, sqF, fIsT, wIsT, tyName, kit_nt, kit_bt, kit_it, kit_st, kit_tt, kit_lt, kit_ni, kit_bi, kit_ii, kit_si, kit_ti, kit_li, kit_nb, kit_bb, kit_ib, kit_sb, kit_tb, kit_lb, wCallP0, wCallR0, wCallN0, wCallP, wCallR, wCallRf, wCallN, wMake, wMake0, wMakeC, wRaise, wNever, En.xp, enP, enR, enN, rtP, rtR, rtN, entry, List.map_cons, List.map_nil, List.cons_append, List.nil_append, List.append_nil, List.length_cons, List.length_nil, List.replicate, List.set_cons_zero, List.set_cons_succ, List.getElem?_cons_zero, List.getElem?_cons_succ, List.getElem?_nil, Option.getD_some, Option.getD_none, ite_true, ite_false, Bool.not_true, Bool.not_false, Bool.true_and, Bool.and_true, Bool.and_false, Bool.false_and, Bool.not_eq_true, Bool.false_eq_true, reduceIte, decide_eq_true_eq, atI_zero, atI_one, atI_two, atI_three, atI_four, atI_m1, wipeD, reduceCtorEq, ok_int, ok_non, ok_bl, eqv_int, ix40, ix41, ix42, ix43, Int.toNat_natCast, true_and, and_true]
    exact ⟨by simp, by simp, h⟩
def badW (x : Bar) : Bool := !(decide (0 ≤ x.2.2.2) && decide (x.2.2.2 ≤ 3))
def fBad : PD → Option PD := fun v => match v with | .tup [_, _, _, .int r] => if 0 ≤ r ∧ r ≤ 3 then none else some v | _ => none
theorem fBad_bar (x : Bar) : fBad (barP x) = if badW x = true then some (barP x) else none := by
  unfold fBad barP badW
  by_cases h0 : 0 ≤ x.2.2.2 <;> by_cases h1 : x.2.2.2 ≤ 3 <;> simp [h0, h1]
theorem fBad_map : ∀ xs : List Bar, (xs.map barP).filterMap fBad = (xs.filter badW).map barP
  | [] => rfl
  | x :: xs => by
    rw [List.map_cons, List.filterMap_cons, fBad_bar, List.filter_cons]
    cases badW x
    · simp only [Bool.false_eq_true, if_false]
      exact fBad_map xs
    · simp only [if_true, List.map_cons]
      rw [fBad_map xs]
theorem bad_none (l : Lp) (s b : Int) : (((l.bars.map (mvB s b)).filter badW).map barP).isEmpty = mvOk l s b := by
  unfold mvOk
  rw [List.isEmpty_map, Bool.eq_iff_iff, List.isEmpty_iff, List.filter_eq_nil_iff, List.all_eq_true]
  constructor
  · intro h x hx
    have := h (mvB s b x) (List.mem_map_of_mem hx)
    unfold badW at this
    simp only [mvB] at this
    by_cases c0 : 0 ≤ mvd s b x <;> by_cases c1 : mvd s b x ≤ 3 <;> simp_all
  · intro h y hy
    obtain ⟨x, hx, rfl⟩ := List.mem_map.mp hy
    have := h x hx
    unfold badW
    simp only [mvB]
    by_cases c0 : 0 ≤ mvd s b x <;> by_cases c1 : mvd s b x ≤ 3 <;> simp_all
theorem movedO_in {l : Lp} {s b : Int} (h0 : 0 ≤ s) (h1 : s < l.rows.length) (b0 : -3 ≤ b) (b1 : b ≤ 3) : movedO l (.int s) (.int b) = if mvOk l s b = true then some (movedL l s b) else none := by
  unfold movedO
  have e1 : isFrom (.int s) 0 (l.rows.length - 1) = true := by
    simp only [isFrom, Bool.and_eq_true, decide_eq_true_eq]
    omega
  have e2 : isFrom (.int b) (-3) 3 = true := by
    simp only [isFrom, Bool.and_eq_true, decide_eq_true_eq]
    omega
  rw [e1, e2]
  rfl
theorem movedO_by {l : Lp} {x y : PD} (h : isFrom y (-3) 3 = false) : movedO l x y = none := by
  unfold movedO
  rw [h, Bool.and_false]
  rfl
theorem movedO_step {l : Lp} {x y : PD} (h : isFrom x 0 (l.rows.length - 1) = false) : movedO l x y = none := by
  unfold movedO
  rw [h, Bool.false_and]
  rfl
theorem eqv_nil (xs : List PD) : PD.eqv (.lst xs) (.lst []) = xs.isEmpty := by
  cases xs <;> simp [PD.eqv, PD.py, PD.pys, PyData.eqv, PyData.eqvAll]
theorem mv_if (x : Bar) (s b : Int) : mvd s b x = if x.1 ≠ x.2.1 ∧ x.2.1 = s then x.2.2.2 + b else if x.1 ≠ x.2.1 ∧ x.1 = s then x.2.2.2 - b else x.2.2.2 := by
  unfold mvd i01
  by_cases h1 : x.2.1 = s <;> by_cases h2 : x.1 = s <;> by_cases h3 : x.1 = x.2.1 <;> simp_all <;> omega
theorem z_law {q : Ad} (args : List PD) (P : PD → Prop) (Xp : RX) (h : r_law q args P Xp) : w_law q (enP P Xp) (entry n_law.length (args.map D.p)) [] := by
  obtain ⟨ns, rfl, h⟩ := h
  simp only [w_law, w_law_23, wNext, wSeq, wBreak, wCont, wDrop, wRet, wSet, wPar, wIfS, wgName, wgNil, wgCons, wgTup, tupOf, wgLst, lstOf, wgSub, wAsg, putC, wAug, fAddI, fIxL, wAugS, wApp, wExt, putD, wFldS, wVar, dAt, wC, wBin, wUn, fSub_ii, fDiv_ii, fMod_ii, fPow_ii, fLt_ii, fLe_ii, fGt_ii, fGe_ii, fNeg_i, fAdd_ii, fAdd_tt, fAdd_ss, fAdd_ll, fAdd_c, fAdd_lc, fMul_ii, fMul_ti, fMul_li, fMul_ci, fMulC, lsOf, sqOf, wTest, wChain, wTAnd, wTOr, wTNot, wAndV, wOrV, wNotV, wIf, plOf, fEq, fNe, fIn, fIsN, fNotN, isNon, fFld, wFld, fIx, wNoPart, wPart, wSl, wNil, wCons, wStar, allP, allP_map, wTup, wLst, wLstC, wiSeq, wiRng1, wiRng2, wFor, wLc, wLcC, wLc2, wtYes, wiEnum, wiZip, wCB, fLen_s, fLen_t, fLen_l, fLen_c, fMax_ii, fMax_iii, fMax_l, fMin_ii, fMin_t, fMin_l, fMin_c, fSum, fAll, fAny, fList, fListC, fTuple, fSorted, fInt_i, fInt_b, fInt_s, fStr, sqF, fIsT, wIsT, tyName, kit_nt, kit_bt, kit_it, kit_st, kit_tt, kit_lt, kit_ni, kit_bi, kit_ii, kit_si, kit_ti, kit_li, kit_nb, kit_bb, kit_ib, kit_sb, kit_tb, kit_lb, wCallP0, wCallR0, wCallN0, wCallP, wCallR, wCallRf, wCallN, wMake, wMake0, wMakeC, wRaise, wNever, En.xp, enP, enR, enN, rtP, rtR, rtN, entry, List.map_cons, List.map_nil, List.cons_append, List.nil_append, List.append_nil, List.length_cons, List.length_nil, List.replicate, List.set_cons_zero, List.set_cons_succ, List.getElem?_cons_zero, List.getElem?_cons_succ, List.getElem?_nil, Option.getD_some, Option.getD_none, ite_true, ite_false, Bool.not_true, Bool.not_false, Bool.true_and, Bool.and_true, Bool.and_false, Bool.false_and, Bool.not_eq_true, Bool.false_eq_true, reduceIte, decide_eq_true_eq, atI_zero, atI_one, atI_two, atI_three, atI_four, atI_m1, wipeD, reduceCtorEq, ok_int, ok_non, ok_bl, eqv_int, ix40, ix41, ix42, ix43, Int.toNat_natCast, true_and, and_true, n_law]
  refine ⟨ns, rfl, fun r0 hr0 => ?_⟩
  simp only [w_law_22, wNext, wSeq, wBreak, wCont, wDrop, wRet, wSet, wPar, wIfS, wgName, wgNil, wgCons, wgTup, tupOf, wgLst, lstOf, wgSub, wAsg, putC, wAug, fAddI, fIxL, wAugS, wApp, wExt, putD, wFldS, wVar, dAt, wC, wBin, wUn, fSub_ii, fDiv_ii, fMod_ii, fPow_ii, fLt_ii, fLe_ii, fGt_ii, fGe_ii, fNeg_i, fAdd_ii, fAdd_tt, fAdd_ss, fAdd_ll, fAdd_c, fAdd_lc, fMul_ii, fMul_ti, fMul_li, fMul_ci, fMulC, lsOf, sqOf, wTest, wChain, wTAnd, wTOr, wTNot, wAndV, wOrV, wNotV, wIf, plOf, fEq, fNe, fIn, fIsN, fNotN, isNon, fFld, wFld, fIx, wNoPart, wPart, wSl, wNil, wCons, wStar, allP, allP_map, wTup, wLst, wLstC, wiSeq, wiRng1, wiRng2, wFor, wLc, wLcC, wLc2, wtYes, wiEnum, wiZip, wCB, fLen_s, fLen_t, fLen_l, fLen_c, fMax_ii, fMax_iii, fMax_l, fMin_ii, fMin_t, fMin_l, fMin_c, fSum, fAll, fAny, fList, fListC, fTuple, fSorted, fInt_i, fInt_b, fInt_s, fStr, sqF, fIsT, wIsT, tyName, kit_nt, kit_bt, kit_it, kit_st, kit_tt, kit_lt, kit_ni, kit_bi, kit_ii, kit_si, kit_ti, kit_li, kit_nb, kit_bb, kit_ib, kit_sb, kit_tb, kit_lb, wCallP0, wCallR0, wCallN0, wCallP, wCallR, wCallRf, wCallN, wMake, wMake0, wMakeC, wRaise, wNever, En.xp, enP, enR, enN, rtP, rtR, rtN, entry, List.map_cons, List.map_nil, List.cons_append, List.nil_append, List.append_nil, List.length_cons, List.length_nil, List.replicate, List.set_cons_zero, List.set_cons_succ, List.getElem?_cons_zero, List.getElem?_cons_succ, List.getElem?_nil, Option.getD_some, Option.getD_none, ite_true, ite_false, Bool.not_true, Bool.not_false, Bool.true_and, Bool.and_true, Bool.and_false, Bool.false_and, Bool.not_eq_true, Bool.false_eq_true, reduceIte, decide_eq_true_eq, atI_zero, atI_one, atI_two, atI_three, atI_four, atI_m1, wipeD, reduceCtorEq, ok_int, ok_non, ok_bl, eqv_int, ix40, ix41, ix42, ix43, Int.toNat_natCast, true_and, and_true]
  refine ⟨okR_small (by decide) (by decide), ?_⟩
  refine ⟨fun i ds m => ∃ r, m = [r] ∧ Row r ∧ ∃ s2 s3 s4 s5 s6 s7 s8 s9 s10 s11 s12 s13 s14, ds = [some (.p (.fz (ns.map .int))), some (.c 0), s2, s3, s4, s5, s6, s7, s8, s9, s10, s11, s12, s13, s14, none],
    ⟨r0, rfl, hr0, _, _, _, _, _, _, _, _, _, _, _, _, _, rfl⟩, fun _ _ _ _ => trivial, ?_, ?_⟩
  · rintro i x _ _ hx ⟨r, rfl, hr, s2, s3, s4, s5, s6, s7, s8, s9, s10, s11, s12, s13, s14, rfl⟩
    obtain ⟨hi, rfl⟩ := rng_inv hx
    rw [Int.zero_add]
    change w_law_20 q _ [some (.p (.fz (ns.map .int))), some (.c 0), some (.p (.int (i : Nat))), s3, s4, s5, s6, s7, s8, s9, s10, s11, s12, s13, s14, none] _
    refine with_En fun E nx rt bk ct ex => ?_
    have nx2 : ∀ r, Row r → ∀ s2 s3 s4 s5 s6 s7 s8 s9 s10 s11 s12 s13 s14, E.nx [some (.p (.fz (ns.map .int))), some (.c 0), s2, s3, s4, s5, s6, s7, s8, s9, s10, s11, s12, s13, s14, none] [r] := fun r hr s2 s3 s4 s5 s6 s7 s8 s9 s10 s11 s12 s13 s14 => nx _ _ ⟨r, rfl, hr, _, _, _, _, _, _, _, _, _, _, _, _, _, rfl⟩
    clear nx rt bk ct ex h
    simp only [w_law_20, wNext, wSeq, wBreak, wCont, wDrop, wRet, wSet, wPar, wIfS, wgName, wgNil, wgCons, wgTup, tupOf, wgLst, lstOf, wgSub, wAsg, putC, wAug, fAddI, fIxL, wAugS, wApp, wExt, putD, wFldS, wVar, dAt, wC, wBin, wUn, fSub_ii, fDiv_ii, fMod_ii, fPow_ii, fLt_ii, fLe_ii, fGt_ii, fGe_ii, fNeg_i, fAdd_ii, fAdd_tt, fAdd_ss, fAdd_ll, fAdd_c, fAdd_lc, fMul_ii, fMul_ti, fMul_li, fMul_ci, fMulC, lsOf, sqOf, wTest, wChain, wTAnd, wTOr, wTNot, wAndV, wOrV, wNotV, wIf, plOf, fEq, fNe, fIn, fIsN, fNotN, isNon, fFld, wFld, fIx, wNoPart, wPart, wSl, wNil, wCons, wStar, allP, allP_map, wTup, wLst, wLstC, wiSeq, wiRng1, wiRng2, wFor, wLc, wLcC, wLc2, wtYes, wiEnum, wiZip, wCB, fLen_s, fLen_t, fLen_l, fLen_c, fMax_ii, fMax_iii, fMax_l, fMin_ii, fMin_t, fMin_l, fMin_c, fSum, fAll, fAny, fList, fListC, fTuple, fSorted, fInt_i, fInt_b, fInt_s, fStr, sqF, fIsT, wIsT, tyName, kit_nt, kit_bt, kit_it, kit_st, kit_tt, kit_lt, kit_ni, kit_bi, kit_ii, kit_si, kit_ti, kit_li, kit_nb, kit_bb, kit_ib, kit_sb, kit_tb, kit_lb, wCallP0, wCallR0, wCallN0, wCallP, wCallR, wCallRf, wCallN, wMake, wMake0, wMakeC, wRaise, wNever, En.xp, enP, enR, enN, rtP, rtR, rtN, entry, List.map_cons, List.map_nil, List.cons_append, List.nil_append, List.append_nil, List.length_cons, List.length_nil, List.replicate, List.set_cons_zero, List.set_cons_succ, List.getElem?_cons_zero, List.getElem?_cons_succ, List.getElem?_nil, Option.getD_some, Option.getD_none, ite_true, ite_false, Bool.not_true, Bool.not_false, Bool.true_and, Bool.and_true, Bool.and_false, Bool.false_and, Bool.not_eq_true, Bool.false_eq_true, reduceIte, decide_eq_true_eq, atI_zero, atI_one, atI_two, atI_three, atI_four, atI_m1, wipeD, reduceCtorEq, ok_int, ok_non, ok_bl, eqv_int, ix40, ix41, ix42, ix43, Int.toNat_natCast, true_and, and_true]
    refine ⟨row_free hr, hr, 5, 6, rfl, by decide, by decide, by decide, fun l r1 dr hr1 => ?_⟩
    have ok := dr.ok
    have b10 := ok.b10
    simp only [wNext, wSeq, wBreak, wCont, wDrop, wRet, wSet, wPar, wIfS, wgName, wgNil, wgCons, wgTup, tupOf, wgLst, lstOf, wgSub, wAsg, putC, wAug, fAddI, fIxL, wAugS, wApp, wExt, putD, wFldS, wVar, dAt, wC, wBin, wUn, fSub_ii, fDiv_ii, fMod_ii, fPow_ii, fLt_ii, fLe_ii, fGt_ii, fGe_ii, fNeg_i, fAdd_ii, fAdd_tt, fAdd_ss, fAdd_ll, fAdd_c, fAdd_lc, fMul_ii, fMul_ti, fMul_li, fMul_ci, fMulC, lsOf, sqOf, wTest, wChain, wTAnd, wTOr, wTNot, wAndV, wOrV, wNotV, wIf, plOf, fEq, fNe, fIn, fIsN, fNotN, isNon, fFld, wFld, fIx, wNoPart, wPart, wSl, wNil, wCons, wStar, allP, allP_map, wTup, wLst, wLstC, wiSeq, wiRng1, wiRng2, wFor, wLc, wLcC, wLc2, wtYes, wiEnum, wiZip, wCB, fLen_s, fLen_t, fLen_l, fLen_c, fMax_ii, fMax_iii, fMax_l, fMin_ii, fMin_t, fMin_l, fMin_c, fSum, fAll, fAny, fList, fListC, fTuple, fSorted, fInt_i, fInt_b, fInt_s, fStr, sqF, fIsT, wIsT, tyName, kit_nt, kit_bt, kit_it, kit_st, kit_tt, kit_lt, kit_ni, kit_bi, kit_ii, kit_si, kit_ti, kit_li, kit_nb, kit_bb, kit_ib, kit_sb, kit_tb, kit_lb, wCallP0, wCallR0, wCallN0, wCallP, wCallR, wCallRf, wCallN, wMake, wMake0, wMakeC, wRaise, wNever, En.xp, enP, enR, enN, rtP, rtR, rtN, entry, List.map_cons, List.map_nil, List.cons_append, List.nil_append, List.append_nil, List.length_cons, List.length_nil, List.replicate, List.set_cons_zero, List.set_cons_succ, List.getElem?_cons_zero, List.getElem?_cons_succ, List.getElem?_nil, Option.getD_some, Option.getD_none, ite_true, ite_false, Bool.not_true, Bool.not_false, Bool.true_and, Bool.and_true, Bool.and_false, Bool.false_and, Bool.not_eq_true, Bool.false_eq_true, reduceIte, decide_eq_true_eq, atI_zero, atI_one, atI_two, atI_three, atI_four, atI_m1, wipeD, reduceCtorEq, ok_int, ok_non, ok_bl, eqv_int, ix40, ix41, ix42, ix43, Int.toNat_natCast, true_and, and_true, w_law_19, wPar3]
    refine ⟨l, rfl, ok, ?_⟩
    simp only [wNext, wSeq, wBreak, wCont, wDrop, wRet, wSet, wPar, wIfS, wgName, wgNil, wgCons, wgTup, tupOf, wgLst, lstOf, wgSub, wAsg, putC, wAug, fAddI, fIxL, wAugS, wApp, wExt, putD, wFldS, wVar, dAt, wC, wBin, wUn, fSub_ii, fDiv_ii, fMod_ii, fPow_ii, fLt_ii, fLe_ii, fGt_ii, fGe_ii, fNeg_i, fAdd_ii, fAdd_tt, fAdd_ss, fAdd_ll, fAdd_c, fAdd_lc, fMul_ii, fMul_ti, fMul_li, fMul_ci, fMulC, lsOf, sqOf, wTest, wChain, wTAnd, wTOr, wTNot, wAndV, wOrV, wNotV, wIf, plOf, fEq, fNe, fIn, fIsN, fNotN, isNon, fFld, wFld, fIx, wNoPart, wPart, wSl, wNil, wCons, wStar, allP, allP_map, wTup, wLst, wLstC, wiSeq, wiRng1, wiRng2, wFor, wLc, wLcC, wLc2, wtYes, wiEnum, wiZip, wCB, fLen_s, fLen_t, fLen_l, fLen_c, fMax_ii, fMax_iii, fMax_l, fMin_ii, fMin_t, fMin_l, fMin_c, fSum, fAll, fAny, fList, fListC, fTuple, fSorted, fInt_i, fInt_b, fInt_s, fStr, sqF, fIsT, wIsT, tyName, kit_nt, kit_bt, kit_it, kit_st, kit_tt, kit_lt, kit_ni, kit_bi, kit_ii, kit_si, kit_ti, kit_li, kit_nb, kit_bb, kit_ib, kit_sb, kit_tb, kit_lb, wCallP0, wCallR0, wCallN0, wCallP, wCallR, wCallRf, wCallN, wMake, wMake0, wMakeC, wRaise, wNever, En.xp, enP, enR, enN, rtP, rtR, rtN, entry, List.map_cons, List.map_nil, List.cons_append, List.nil_append, List.append_nil, List.length_cons, List.length_nil, List.replicate, List.set_cons_zero, List.set_cons_succ, List.getElem?_cons_zero, List.getElem?_cons_succ, List.getElem?_nil, Option.getD_some, Option.getD_none, ite_true, ite_false, Bool.not_true, Bool.not_false, Bool.true_and, Bool.and_true, Bool.and_false, Bool.false_and, Bool.not_eq_true, Bool.false_eq_true, reduceIte, decide_eq_true_eq, atI_zero, atI_one, atI_two, atI_three, atI_four, atI_m1, wipeD, reduceCtorEq, ok_int, ok_non, ok_bl, eqv_int, ix40, ix41, ix42, ix43, Int.toNat_natCast, true_and, and_true, Lp.tp, Lp.rP, List.length_map]
    have s1 := ok.s1
    have s5 := ok.s5
    refine ⟨row_free hr1, hr1, by omega, by omega, fun sv r2 sv0 sv1 hr2 => ?_⟩
    simp only [wNext, wSeq, wBreak, wCont, wDrop, wRet, wSet, wPar, wIfS, wgName, wgNil, wgCons, wgTup, tupOf, wgLst, lstOf, wgSub, wAsg, putC, wAug, fAddI, fIxL, wAugS, wApp, wExt, putD, wFldS, wVar, dAt, wC, wBin, wUn, fSub_ii, fDiv_ii, fMod_ii, fPow_ii, fLt_ii, fLe_ii, fGt_ii, fGe_ii, fNeg_i, fAdd_ii, fAdd_tt, fAdd_ss, fAdd_ll, fAdd_c, fAdd_lc, fMul_ii, fMul_ti, fMul_li, fMul_ci, fMulC, lsOf, sqOf, wTest, wChain, wTAnd, wTOr, wTNot, wAndV, wOrV, wNotV, wIf, plOf, fEq, fNe, fIn, fIsN, fNotN, isNon, fFld, wFld, fIx, wNoPart, wPart, wSl, wNil, wCons, wStar, allP, allP_map, wTup, wLst, wLstC, wiSeq, wiRng1, wiRng2, wFor, wLc, wLcC, wLc2, wtYes, wiEnum, wiZip, wCB, fLen_s, fLen_t, fLen_l, fLen_c, fMax_ii, fMax_iii, fMax_l, fMin_ii, fMin_t, fMin_l, fMin_c, fSum, fAll, fAny, fList, fListC, fTuple, fSorted, fInt_i, fInt_b, fInt_s, fStr, sqF, fIsT, wIsT, tyName, kit_nt, kit_bt, kit_it, kit_st, kit_tt, kit_lt, kit_ni, kit_bi, kit_ii, kit_si, kit_ti, kit_li, kit_nb, kit_bb, kit_ib, kit_sb, kit_tb, kit_lb, wCallP0, wCallR0, wCallN0, wCallP, wCallR, wCallRf, wCallN, wMake, wMake0, wMakeC, wRaise, wNever, En.xp, enP, enR, enN, rtP, rtR, rtN, entry, List.map_cons, List.map_nil, List.cons_append, List.nil_append, List.append_nil, List.length_cons, List.length_nil, List.replicate, List.set_cons_zero, List.set_cons_succ, List.getElem?_cons_zero, List.getElem?_cons_succ, List.getElem?_nil, Option.getD_some, Option.getD_none, ite_true, ite_false, Bool.not_true, Bool.not_false, Bool.true_and, Bool.and_true, Bool.and_false, Bool.false_and, Bool.not_eq_true, Bool.false_eq_true, reduceIte, decide_eq_true_eq, atI_zero, atI_one, atI_two, atI_three, atI_four, atI_m1, wipeD, reduceCtorEq, ok_int, ok_non, ok_bl, eqv_int, ix40, ix41, ix42, ix43, Int.toNat_natCast, true_and, and_true]
    refine ⟨row_free hr2, hr2, by decide, by decide, fun bv r3 bv0 bv1 hr3 => ?_⟩
    simp only [wNext, wSeq, wBreak, wCont, wDrop, wRet, wSet, wPar, wIfS, wgName, wgNil, wgCons, wgTup, tupOf, wgLst, lstOf, wgSub, wAsg, putC, wAug, fAddI, fIxL, wAugS, wApp, wExt, putD, wFldS, wVar, dAt, wC, wBin, wUn, fSub_ii, fDiv_ii, fMod_ii, fPow_ii, fLt_ii, fLe_ii, fGt_ii, fGe_ii, fNeg_i, fAdd_ii, fAdd_tt, fAdd_ss, fAdd_ll, fAdd_c, fAdd_lc, fMul_ii, fMul_ti, fMul_li, fMul_ci, fMulC, lsOf, sqOf, wTest, wChain, wTAnd, wTOr, wTNot, wAndV, wOrV, wNotV, wIf, plOf, fEq, fNe, fIn, fIsN, fNotN, isNon, fFld, wFld, fIx, wNoPart, wPart, wSl, wNil, wCons, wStar, allP, allP_map, wTup, wLst, wLstC, wiSeq, wiRng1, wiRng2, wFor, wLc, wLcC, wLc2, wtYes, wiEnum, wiZip, wCB, fLen_s, fLen_t, fLen_l, fLen_c, fMax_ii, fMax_iii, fMax_l, fMin_ii, fMin_t, fMin_l, fMin_c, fSum, fAll, fAny, fList, fListC, fTuple, fSorted, fInt_i, fInt_b, fInt_s, fStr, sqF, fIsT, wIsT, tyName, kit_nt, kit_bt, kit_it, kit_st, kit_tt, kit_lt, kit_ni, kit_bi, kit_ii, kit_si, kit_ti, kit_li, kit_nb, kit_bb, kit_ib, kit_sb, kit_tb, kit_lb, wCallP0, wCallR0, wCallN0, wCallP, wCallR, wCallRf, wCallN, wMake, wMake0, wMakeC, wRaise, wNever, En.xp, enP, enR, enN, rtP, rtR, rtN, entry, List.map_cons, List.map_nil, List.cons_append, List.nil_append, List.append_nil, List.length_cons, List.length_nil, List.replicate, List.set_cons_zero, List.set_cons_succ, List.getElem?_cons_zero, List.getElem?_cons_succ, List.getElem?_nil, Option.getD_some, Option.getD_none, ite_true, ite_false, Bool.not_true, Bool.not_false, Bool.true_and, Bool.and_true, Bool.and_false, Bool.false_and, Bool.not_eq_true, Bool.false_eq_true, reduceIte, decide_eq_true_eq, atI_zero, atI_one, atI_two, atI_three, atI_four, atI_m1, wipeD, reduceCtorEq, ok_int, ok_non, ok_bl, eqv_int, ix40, ix41, ix42, ix43, Int.toNat_natCast, true_and, and_true]
    obtain ⟨v, hv⟩ : ∃ v, v = bv - 3 := ⟨_, rfl⟩
    have v0 : -3 ≤ v ∧ v ≤ 3 := by omega
    rw [← hv]
    have etp : PD.tup [l.cP, PD.tup (l.rows.map rowP), l.bP] = l.tp := rfl
    rw [etp]
    clear hv bv0 bv1
    have hmp : (PD.str (Str.ofString "move")).pl 3 = true := by decide +kernel
    have t10 : ∀ s7 s8 s9 s10 s11 s12 s13 s14 r4, Row r4 → w_law_10 q E [some (.p (.fz (ns.map .int))), some (.c 0), some (.p (.int (i : Nat))), some (.p l.tp), some (.p (l.pd q)), some (.p (.int sv)), some (.p (.int v)), s7, s8, s9, s10, s11, s12, s13, s14, none] [r4] := by
      intro s7 s8 s9 s10 s11 s12 s13 s14 r4 hr4
      simp only [w_law_10, wNext, wSeq, wBreak, wCont, wDrop, wRet, wSet, wPar, wIfS, wgName, wgNil, wgCons, wgTup, tupOf, wgLst, lstOf, wgSub, wAsg, putC, wAug, fAddI, fIxL, wAugS, wApp, wExt, putD, wFldS, wVar, dAt, wC, wBin, wUn, fSub_ii, fDiv_ii, fMod_ii, fPow_ii, fLt_ii, fLe_ii, fGt_ii, fGe_ii, fNeg_i, fAdd_ii, fAdd_tt, fAdd_ss, fAdd_ll, fAdd_c, fAdd_lc, fMul_ii, fMul_ti, fMul_li, fMul_ci, fMulC, lsOf, sqOf, wTest, wChain, wTAnd, wTOr, wTNot, wAndV, wOrV, wNotV, wIf, plOf, fEq, fNe, fIn, fIsN, fNotN, isNon, fFld, wFld, fIx, wNoPart, wPart, wSl, wNil, wCons, wStar, allP, allP_map, wTup, wLst, wLstC, wiSeq, wiRng1, wiRng2, wFor, wLc, wLcC, wLc2, wtYes, wiEnum, wiZip, wCB, fLen_s, fLen_t, fLen_l, fLen_c, fMax_ii, fMax_iii, fMax_l, fMin_ii, fMin_t, fMin_l, fMin_c, fSum, fAll, fAny, fList, fListC, fTuple, fSorted, fInt_i, fInt_b, fInt_s, fStr, sqF, fIsT, wIsT, tyName, kit_nt, kit_bt, kit_it, kit_st, kit_tt, kit_lt, kit_ni, kit_bi, kit_ii, kit_si, kit_ti, kit_li, kit_nb, kit_bb, kit_ib, kit_sb, kit_tb, kit_lb, wCallP0, wCallR0, wCallN0, wCallP, wCallR, wCallRf, wCallN, wMake, wMake0, wMakeC, wRaise, wNever, En.xp, enP, enR, enN, rtP, rtR, rtN, entry, List.map_cons, List.map_nil, List.cons_append, List.nil_append, List.append_nil, List.length_cons, List.length_nil, List.replicate, List.set_cons_zero, List.set_cons_succ, List.getElem?_cons_zero, List.getElem?_cons_succ, List.getElem?_nil, Option.getD_some, Option.getD_none, ite_true, ite_false, Bool.not_true, Bool.not_false, Bool.true_and, Bool.and_true, Bool.and_false, Bool.false_and, Bool.not_eq_true, Bool.false_eq_true, reduceIte, decide_eq_true_eq, atI_zero, atI_one, atI_two, atI_three, atI_four, atI_m1, wipeD, reduceCtorEq, ok_int, ok_non, ok_bl, eqv_int, ix40, ix41, ix42, ix43, Int.toNat_natCast, true_and, and_true]
      refine ⟨by decide, row_free hr4, hr4, by decide, by decide, fun p r5 p0 p1 hr5 => ?_⟩
      have hp : p = 0 ∨ p = 1 ∨ p = 2 ∨ p = 3 := by omega
      rcases hp with rfl | rfl | rfl | rfl
      all_goals
        simp only [wNext, wSeq, wBreak, wCont, wDrop, wRet, wSet, wPar, wIfS, wgName, wgNil, wgCons, wgTup, tupOf, wgLst, lstOf, wgSub, wAsg, putC, wAug, fAddI, fIxL, wAugS, wApp, wExt, putD, wFldS, wVar, dAt, wC, wBin, wUn, fSub_ii, fDiv_ii, fMod_ii, fPow_ii, fLt_ii, fLe_ii, fGt_ii, fGe_ii, fNeg_i, fAdd_ii, fAdd_tt, fAdd_ss, fAdd_ll, fAdd_c, fAdd_lc, fMul_ii, fMul_ti, fMul_li, fMul_ci, fMulC, lsOf, sqOf, wTest, wChain, wTAnd, wTOr, wTNot, wAndV, wOrV, wNotV, wIf, plOf, fEq, fNe, fIn, fIsN, fNotN, isNon, fFld, wFld, fIx, wNoPart, wPart, wSl, wNil, wCons, wStar, allP, allP_map, wTup, wLst, wLstC, wiSeq, wiRng1, wiRng2, wFor, wLc, wLcC, wLc2, wtYes, wiEnum, wiZip, wCB, fLen_s, fLen_t, fLen_l, fLen_c, fMax_ii, fMax_iii, fMax_l, fMin_ii, fMin_t, fMin_l, fMin_c, fSum, fAll, fAny, fList, fListC, fTuple, fSorted, fInt_i, fInt_b, fInt_s, fStr, sqF, fIsT, wIsT, tyName, kit_nt, kit_bt, kit_it, kit_st, kit_tt, kit_lt, kit_ni, kit_bi, kit_ii, kit_si, kit_ti, kit_li, kit_nb, kit_bb, kit_ib, kit_sb, kit_tb, kit_lb, wCallP0, wCallR0, wCallN0, wCallP, wCallR, wCallRf, wCallN, wMake, wMake0, wMakeC, wRaise, wNever, En.xp, enP, enR, enN, rtP, rtR, rtN, entry, List.map_cons, List.map_nil, List.cons_append, List.nil_append, List.append_nil, List.length_cons, List.length_nil, List.replicate, List.set_cons_zero, List.set_cons_succ, List.getElem?_cons_zero, List.getElem?_cons_succ, List.getElem?_nil, Option.getD_some, Option.getD_none, ite_true, ite_false, Bool.not_true, Bool.not_false, Bool.true_and, Bool.and_true, Bool.and_false, Bool.false_and, Bool.not_eq_true, Bool.false_eq_true, reduceIte, decide_eq_true_eq, atI_zero, atI_one, atI_two, atI_three, atI_four, atI_m1, wipeD, reduceCtorEq, ok_int, ok_non, ok_bl, eqv_int, ix40, ix41, ix42, ix43, Int.toNat_natCast, true_and, and_true]
        refine ⟨l, _, _, rfl, ok, rfl, rfl, ?_⟩
        rw [movedO_by]
        rotate_left
        · decide
        · simp only [mvOut, eqv_refl hmp, pl_ok30 hmp, wNext, wSeq, wBreak, wCont, wDrop, wRet, wSet, wPar, wIfS, wgName, wgNil, wgCons, wgTup, tupOf, wgLst, lstOf, wgSub, wAsg, putC, wAug, fAddI, fIxL, wAugS, wApp, wExt, putD, wFldS, wVar, dAt, wC, wBin, wUn, fSub_ii, fDiv_ii, fMod_ii, fPow_ii, fLt_ii, fLe_ii, fGt_ii, fGe_ii, fNeg_i, fAdd_ii, fAdd_tt, fAdd_ss, fAdd_ll, fAdd_c, fAdd_lc, fMul_ii, fMul_ti, fMul_li, fMul_ci, fMulC, lsOf, sqOf, wTest, wChain, wTAnd, wTOr, wTNot, wAndV, wOrV, wNotV, wIf, plOf, fEq, fNe, fIn, fIsN, fNotN, isNon, fFld, wFld, fIx, wNoPart, wPart, wSl, wNil, wCons, wStar, allP, allP_map, wTup, wLst, wLstC, wiSeq, wiRng1, wiRng2, wFor, wLc, wLcC, wLc2, wtYes, wiEnum, wiZip, wCB, fLen_s, fLen_t, fLen_l, fLen_c, fMax_ii, fMax_iii, fMax_l, fMin_ii, fMin_t, fMin_l, fMin_c, fSum, fAll, fAny, fList, fListC, fTuple, fSorted, fInt_i, fInt_b, fInt_s, fStr, sqF, fIsT, wIsT, tyName, kit_nt, kit_bt, kit_it, kit_st, kit_tt, kit_lt, kit_ni, kit_bi, kit_ii, kit_si, kit_ti, kit_li, kit_nb, kit_bb, kit_ib, kit_sb, kit_tb, kit_lb, wCallP0, wCallR0, wCallN0, wCallP, wCallR, wCallRf, wCallN, wMake, wMake0, wMakeC, wRaise, wNever, En.xp, enP, enR, enN, rtP, rtR, rtN, entry, List.map_cons, List.map_nil, List.cons_append, List.nil_append, List.append_nil, List.length_cons, List.length_nil, List.replicate, List.set_cons_zero, List.set_cons_succ, List.getElem?_cons_zero, List.getElem?_cons_succ, List.getElem?_nil, Option.getD_some, Option.getD_none, ite_true, ite_false, Bool.not_true, Bool.not_false, Bool.true_and, Bool.and_true, Bool.and_false, Bool.false_and, Bool.not_eq_true, Bool.false_eq_true, reduceIte, decide_eq_true_eq, atI_zero, atI_one, atI_two, atI_three, atI_four, atI_m1, wipeD, reduceCtorEq, ok_int, ok_non, ok_bl, eqv_int, ix40, ix41, ix42, ix43, Int.toNat_natCast, true_and, and_true]
          exact nx2 _ hr5 _ _ _ _ _ _ _ _ _ _ _ _ _
    have t12 : ∀ s7 s8 s9 s10 s11 s12 s13 s14, w_law_12 q E [some (.p (.fz (ns.map .int))), some (.c 0), some (.p (.int (i : Nat))), some (.p l.tp), some (.p (l.pd q)), some (.p (.int sv)), some (.p (.int v)), s7, s8, s9, s10, s11, s12, s13, s14, none] [r3] := by
      intro s7 s8 s9 s10 s11 s12 s13 s14
      simp only [w_law_12, wNext, wSeq, wBreak, wCont, wDrop, wRet, wSet, wPar, wIfS, wgName, wgNil, wgCons, wgTup, tupOf, wgLst, lstOf, wgSub, wAsg, putC, wAug, fAddI, fIxL, wAugS, wApp, wExt, putD, wFldS, wVar, dAt, wC, wBin, wUn, fSub_ii, fDiv_ii, fMod_ii, fPow_ii, fLt_ii, fLe_ii, fGt_ii, fGe_ii, fNeg_i, fAdd_ii, fAdd_tt, fAdd_ss, fAdd_ll, fAdd_c, fAdd_lc, fMul_ii, fMul_ti, fMul_li, fMul_ci, fMulC, lsOf, sqOf, wTest, wChain, wTAnd, wTOr, wTNot, wAndV, wOrV, wNotV, wIf, plOf, fEq, fNe, fIn, fIsN, fNotN, isNon, fFld, wFld, fIx, wNoPart, wPart, wSl, wNil, wCons, wStar, allP, allP_map, wTup, wLst, wLstC, wiSeq, wiRng1, wiRng2, wFor, wLc, wLcC, wLc2, wtYes, wiEnum, wiZip, wCB, fLen_s, fLen_t, fLen_l, fLen_c, fMax_ii, fMax_iii, fMax_l, fMin_ii, fMin_t, fMin_l, fMin_c, fSum, fAll, fAny, fList, fListC, fTuple, fSorted, fInt_i, fInt_b, fInt_s, fStr, sqF, fIsT, wIsT, tyName, kit_nt, kit_bt, kit_it, kit_st, kit_tt, kit_lt, kit_ni, kit_bi, kit_ii, kit_si, kit_ti, kit_li, kit_nb, kit_bb, kit_ib, kit_sb, kit_tb, kit_lb, wCallP0, wCallR0, wCallN0, wCallP, wCallR, wCallRf, wCallN, wMake, wMake0, wMakeC, wRaise, wNever, En.xp, enP, enR, enN, rtP, rtR, rtN, entry, List.map_cons, List.map_nil, List.cons_append, List.nil_append, List.append_nil, List.length_cons, List.length_nil, List.replicate, List.set_cons_zero, List.set_cons_succ, List.getElem?_cons_zero, List.getElem?_cons_succ, List.getElem?_nil, Option.getD_some, Option.getD_none, ite_true, ite_false, Bool.not_true, Bool.not_false, Bool.true_and, Bool.and_true, Bool.and_false, Bool.false_and, Bool.not_eq_true, Bool.false_eq_true, reduceIte, decide_eq_true_eq, atI_zero, atI_one, atI_two, atI_three, atI_four, atI_m1, wipeD, reduceCtorEq, ok_int, ok_non, ok_bl, eqv_int, ix40, ix41, ix42, ix43, Int.toNat_natCast, true_and, and_true, Lp.tp, Lp.rP, List.length_map]
      refine ⟨by decide, row_free hr3, hr3, by decide, by decide, fun p r4 p0 p1 hr4 => ?_⟩
      have hp : p = 0 ∨ p = 1 ∨ p = 2 ∨ p = 3 ∨ p = 4 := by omega
      rcases hp with rfl | rfl | rfl | rfl | rfl
      all_goals
        simp only [wNext, wSeq, wBreak, wCont, wDrop, wRet, wSet, wPar, wIfS, wgName, wgNil, wgCons, wgTup, tupOf, wgLst, lstOf, wgSub, wAsg, putC, wAug, fAddI, fIxL, wAugS, wApp, wExt, putD, wFldS, wVar, dAt, wC, wBin, wUn, fSub_ii, fDiv_ii, fMod_ii, fPow_ii, fLt_ii, fLe_ii, fGt_ii, fGe_ii, fNeg_i, fAdd_ii, fAdd_tt, fAdd_ss, fAdd_ll, fAdd_c, fAdd_lc, fMul_ii, fMul_ti, fMul_li, fMul_ci, fMulC, lsOf, sqOf, wTest, wChain, wTAnd, wTOr, wTNot, wAndV, wOrV, wNotV, wIf, plOf, fEq, fNe, fIn, fIsN, fNotN, isNon, fFld, wFld, fIx, wNoPart, wPart, wSl, wNil, wCons, wStar, allP, allP_map, wTup, wLst, wLstC, wiSeq, wiRng1, wiRng2, wFor, wLc, wLcC, wLc2, wtYes, wiEnum, wiZip, wCB, fLen_s, fLen_t, fLen_l, fLen_c, fMax_ii, fMax_iii, fMax_l, fMin_ii, fMin_t, fMin_l, fMin_c, fSum, fAll, fAny, fList, fListC, fTuple, fSorted, fInt_i, fInt_b, fInt_s, fStr, sqF, fIsT, wIsT, tyName, kit_nt, kit_bt, kit_it, kit_st, kit_tt, kit_lt, kit_ni, kit_bi, kit_ii, kit_si, kit_ti, kit_li, kit_nb, kit_bb, kit_ib, kit_sb, kit_tb, kit_lb, wCallP0, wCallR0, wCallN0, wCallP, wCallR, wCallRf, wCallN, wMake, wMake0, wMakeC, wRaise, wNever, En.xp, enP, enR, enN, rtP, rtR, rtN, entry, List.map_cons, List.map_nil, List.cons_append, List.nil_append, List.append_nil, List.length_cons, List.length_nil, List.replicate, List.set_cons_zero, List.set_cons_succ, List.getElem?_cons_zero, List.getElem?_cons_succ, List.getElem?_nil, Option.getD_some, Option.getD_none, ite_true, ite_false, Bool.not_true, Bool.not_false, Bool.true_and, Bool.and_true, Bool.and_false, Bool.false_and, Bool.not_eq_true, Bool.false_eq_true, reduceIte, decide_eq_true_eq, atI_zero, atI_one, atI_two, atI_three, atI_four, atI_m1, wipeD, reduceCtorEq, ok_int, ok_non, ok_bl, eqv_int, ix40, ix41, ix42, ix43, Int.toNat_natCast, true_and, and_true, w_law_11]
        refine ⟨l, _, _, rfl, ok, rfl, rfl, ?_⟩
        rw [movedO_step]
        rotate_left
        · first | (simp [isFrom]; done) | (simp [isFrom]; omega)
        · simp only [mvOut, eqv_refl hmp, pl_ok30 hmp, wNext, wSeq, wBreak, wCont, wDrop, wRet, wSet, wPar, wIfS, wgName, wgNil, wgCons, wgTup, tupOf, wgLst, lstOf, wgSub, wAsg, putC, wAug, fAddI, fIxL, wAugS, wApp, wExt, putD, wFldS, wVar, dAt, wC, wBin, wUn, fSub_ii, fDiv_ii, fMod_ii, fPow_ii, fLt_ii, fLe_ii, fGt_ii, fGe_ii, fNeg_i, fAdd_ii, fAdd_tt, fAdd_ss, fAdd_ll, fAdd_c, fAdd_lc, fMul_ii, fMul_ti, fMul_li, fMul_ci, fMulC, lsOf, sqOf, wTest, wChain, wTAnd, wTOr, wTNot, wAndV, wOrV, wNotV, wIf, plOf, fEq, fNe, fIn, fIsN, fNotN, isNon, fFld, wFld, fIx, wNoPart, wPart, wSl, wNil, wCons, wStar, allP, allP_map, wTup, wLst, wLstC, wiSeq, wiRng1, wiRng2, wFor, wLc, wLcC, wLc2, wtYes, wiEnum, wiZip, wCB, fLen_s, fLen_t, fLen_l, fLen_c, fMax_ii, fMax_iii, fMax_l, fMin_ii, fMin_t, fMin_l, fMin_c, fSum, fAll, fAny, fList, fListC, fTuple, fSorted, fInt_i, fInt_b, fInt_s, fStr, sqF, fIsT, wIsT, tyName, kit_nt, kit_bt, kit_it, kit_st, kit_tt, kit_lt, kit_ni, kit_bi, kit_ii, kit_si, kit_ti, kit_li, kit_nb, kit_bb, kit_ib, kit_sb, kit_tb, kit_lb, wCallP0, wCallR0, wCallN0, wCallP, wCallR, wCallRf, wCallN, wMake, wMake0, wMakeC, wRaise, wNever, En.xp, enP, enR, enN, rtP, rtR, rtN, entry, List.map_cons, List.map_nil, List.cons_append, List.nil_append, List.append_nil, List.length_cons, List.length_nil, List.replicate, List.set_cons_zero, List.set_cons_succ, List.getElem?_cons_zero, List.getElem?_cons_succ, List.getElem?_nil, Option.getD_some, Option.getD_none, ite_true, ite_false, Bool.not_true, Bool.not_false, Bool.true_and, Bool.and_true, Bool.and_false, Bool.false_and, Bool.not_eq_true, Bool.false_eq_true, reduceIte, decide_eq_true_eq, atI_zero, atI_one, atI_two, atI_three, atI_four, atI_m1, wipeD, reduceCtorEq, ok_int, ok_non, ok_bl, eqv_int, ix40, ix41, ix42, ix43, Int.toNat_natCast, true_and, and_true]
          exact t10 _ _ _ _ _ _ _ _ _ hr4
    have t13g : mvOk l sv v = true → ∀ s7 s8 s9 s10 s11 s14, w_law_13 q E [some (.p (.fz (ns.map .int))), some (.c 0), some (.p (.int (i : Nat))), some (.p l.tp), some (.p (l.pd q)), some (.p (.int sv)), some (.p (.int v)), s7, s8, s9, s10, s11, some (.p (.bl true)), some (.p ((movedL l sv v).pd q)), s14, none] [r3] := by
      intro hm s7 s8 s9 s10 s11 s14
      simp only [w_law_13, wNext, wSeq, wBreak, wCont, wDrop, wRet, wSet, wPar, wIfS, wgName, wgNil, wgCons, wgTup, tupOf, wgLst, lstOf, wgSub, wAsg, putC, wAug, fAddI, fIxL, wAugS, wApp, wExt, putD, wFldS, wVar, dAt, wC, wBin, wUn, fSub_ii, fDiv_ii, fMod_ii, fPow_ii, fLt_ii, fLe_ii, fGt_ii, fGe_ii, fNeg_i, fAdd_ii, fAdd_tt, fAdd_ss, fAdd_ll, fAdd_c, fAdd_lc, fMul_ii, fMul_ti, fMul_li, fMul_ci, fMulC, lsOf, sqOf, wTest, wChain, wTAnd, wTOr, wTNot, wAndV, wOrV, wNotV, wIf, plOf, fEq, fNe, fIn, fIsN, fNotN, isNon, fFld, wFld, fIx, wNoPart, wPart, wSl, wNil, wCons, wStar, allP, allP_map, wTup, wLst, wLstC, wiSeq, wiRng1, wiRng2, wFor, wLc, wLcC, wLc2, wtYes, wiEnum, wiZip, wCB, fLen_s, fLen_t, fLen_l, fLen_c, fMax_ii, fMax_iii, fMax_l, fMin_ii, fMin_t, fMin_l, fMin_c, fSum, fAll, fAny, fList, fListC, fTuple, fSorted, fInt_i, fInt_b, fInt_s, fStr, sqF, fIsT, wIsT, tyName, kit_nt, kit_bt, kit_it, kit_st, kit_tt, kit_lt, kit_ni, kit_bi, kit_ii, kit_si, kit_ti, kit_li, kit_nb, kit_bb, kit_ib, kit_sb, kit_tb, kit_lb, wCallP0, wCallR0, wCallN0, wCallP, wCallR, wCallRf, wCallN, wMake, wMake0, wMakeC, wRaise, wNever, En.xp, enP, enR, enN, rtP, rtR, rtN, entry, List.map_cons, List.map_nil, List.cons_append, List.nil_append, List.append_nil, List.length_cons, List.length_nil, List.replicate, List.set_cons_zero, List.set_cons_succ, List.getElem?_cons_zero, List.getElem?_cons_succ, List.getElem?_nil, Option.getD_some, Option.getD_none, ite_true, ite_false, Bool.not_true, Bool.not_false, Bool.true_and, Bool.and_true, Bool.and_false, Bool.false_and, Bool.not_eq_true, Bool.false_eq_true, reduceIte, decide_eq_true_eq, atI_zero, atI_one, atI_two, atI_three, atI_four, atI_m1, wipeD, reduceCtorEq, ok_int, ok_non, ok_bl, eqv_int, ix40, ix41, ix42, ix43, Int.toNat_natCast, true_and, and_true]
      refine ⟨movedL l sv v, rfl, movedL_ok ok hm, ?_⟩
      simp only [wNext, wSeq, wBreak, wCont, wDrop, wRet, wSet, wPar, wIfS, wgName, wgNil, wgCons, wgTup, tupOf, wgLst, lstOf, wgSub, wAsg, putC, wAug, fAddI, fIxL, wAugS, wApp, wExt, putD, wFldS, wVar, dAt, wC, wBin, wUn, fSub_ii, fDiv_ii, fMod_ii, fPow_ii, fLt_ii, fLe_ii, fGt_ii, fGe_ii, fNeg_i, fAdd_ii, fAdd_tt, fAdd_ss, fAdd_ll, fAdd_c, fAdd_lc, fMul_ii, fMul_ti, fMul_li, fMul_ci, fMulC, lsOf, sqOf, wTest, wChain, wTAnd, wTOr, wTNot, wAndV, wOrV, wNotV, wIf, plOf, fEq, fNe, fIn, fIsN, fNotN, isNon, fFld, wFld, fIx, wNoPart, wPart, wSl, wNil, wCons, wStar, allP, allP_map, wTup, wLst, wLstC, wiSeq, wiRng1, wiRng2, wFor, wLc, wLcC, wLc2, wtYes, wiEnum, wiZip, wCB, fLen_s, fLen_t, fLen_l, fLen_c, fMax_ii, fMax_iii, fMax_l, fMin_ii, fMin_t, fMin_l, fMin_c, fSum, fAll, fAny, fList, fListC, fTuple, fSorted, fInt_i, fInt_b, fInt_s, fStr, sqF, fIsT, wIsT, tyName, kit_nt, kit_bt, kit_it, kit_st, kit_tt, kit_lt, kit_ni, kit_bi, kit_ii, kit_si, kit_ti, kit_li, kit_nb, kit_bb, kit_ib, kit_sb, kit_tb, kit_lb, wCallP0, wCallR0, wCallN0, wCallP, wCallR, wCallRf, wCallN, wMake, wMake0, wMakeC, wRaise, wNever, En.xp, enP, enR, enN, rtP, rtR, rtN, entry, List.map_cons, List.map_nil, List.cons_append, List.nil_append, List.append_nil, List.length_cons, List.length_nil, List.replicate, List.set_cons_zero, List.set_cons_succ, List.getElem?_cons_zero, List.getElem?_cons_succ, List.getElem?_nil, Option.getD_some, Option.getD_none, ite_true, ite_false, Bool.not_true, Bool.not_false, Bool.true_and, Bool.and_true, Bool.and_false, Bool.false_and, Bool.not_eq_true, Bool.false_eq_true, reduceIte, decide_eq_true_eq, atI_zero, atI_one, atI_two, atI_three, atI_four, atI_m1, wipeD, reduceCtorEq, ok_int, ok_non, ok_bl, eqv_int, ix40, ix41, ix42, ix43, Int.toNat_natCast, true_and, and_true]
      refine ⟨l, rfl, ok, ?_⟩
      rw [rows_mv ok]
      have hpl : (PD.lst ((ringsN l).map (ringRow l))).pl 7 = true := mapL_pl (fun t => ringRow_pl l t) _
      simp only [eqv_refl hpl, pl_ok30 hpl, wNext, wSeq, wBreak, wCont, wDrop, wRet, wSet, wPar, wIfS, wgName, wgNil, wgCons, wgTup, tupOf, wgLst, lstOf, wgSub, wAsg, putC, wAug, fAddI, fIxL, wAugS, wApp, wExt, putD, wFldS, wVar, dAt, wC, wBin, wUn, fSub_ii, fDiv_ii, fMod_ii, fPow_ii, fLt_ii, fLe_ii, fGt_ii, fGe_ii, fNeg_i, fAdd_ii, fAdd_tt, fAdd_ss, fAdd_ll, fAdd_c, fAdd_lc, fMul_ii, fMul_ti, fMul_li, fMul_ci, fMulC, lsOf, sqOf, wTest, wChain, wTAnd, wTOr, wTNot, wAndV, wOrV, wNotV, wIf, plOf, fEq, fNe, fIn, fIsN, fNotN, isNon, fFld, wFld, fIx, wNoPart, wPart, wSl, wNil, wCons, wStar, allP, allP_map, wTup, wLst, wLstC, wiSeq, wiRng1, wiRng2, wFor, wLc, wLcC, wLc2, wtYes, wiEnum, wiZip, wCB, fLen_s, fLen_t, fLen_l, fLen_c, fMax_ii, fMax_iii, fMax_l, fMin_ii, fMin_t, fMin_l, fMin_c, fSum, fAll, fAny, fList, fListC, fTuple, fSorted, fInt_i, fInt_b, fInt_s, fStr, sqF, fIsT, wIsT, tyName, kit_nt, kit_bt, kit_it, kit_st, kit_tt, kit_lt, kit_ni, kit_bi, kit_ii, kit_si, kit_ti, kit_li, kit_nb, kit_bb, kit_ib, kit_sb, kit_tb, kit_lb, wCallP0, wCallR0, wCallN0, wCallP, wCallR, wCallRf, wCallN, wMake, wMake0, wMakeC, wRaise, wNever, En.xp, enP, enR, enN, rtP, rtR, rtN, entry, List.map_cons, List.map_nil, List.cons_append, List.nil_append, List.append_nil, List.length_cons, List.length_nil, List.replicate, List.set_cons_zero, List.set_cons_succ, List.getElem?_cons_zero, List.getElem?_cons_succ, List.getElem?_nil, Option.getD_some, Option.getD_none, ite_true, ite_false, Bool.not_true, Bool.not_false, Bool.true_and, Bool.and_true, Bool.and_false, Bool.false_and, Bool.not_eq_true, Bool.false_eq_true, reduceIte, decide_eq_true_eq, atI_zero, atI_one, atI_two, atI_three, atI_four, atI_m1, wipeD, reduceCtorEq, ok_int, ok_non, ok_bl, eqv_int, ix40, ix41, ix42, ix43, Int.toNat_natCast, true_and, and_true]
      exact t12 _ _ _ _ _ _ _ _
    have t13b : ∀ s7 s8 s9 s10 s11 s13 s14, w_law_13 q E [some (.p (.fz (ns.map .int))), some (.c 0), some (.p (.int (i : Nat))), some (.p l.tp), some (.p (l.pd q)), some (.p (.int sv)), some (.p (.int v)), s7, s8, s9, s10, s11, some (.p (.bl false)), s13, s14, none] [r3] := by
      intro s7 s8 s9 s10 s11 s13 s14
      simp only [w_law_13, wNext, wSeq, wBreak, wCont, wDrop, wRet, wSet, wPar, wIfS, wgName, wgNil, wgCons, wgTup, tupOf, wgLst, lstOf, wgSub, wAsg, putC, wAug, fAddI, fIxL, wAugS, wApp, wExt, putD, wFldS, wVar, dAt, wC, wBin, wUn, fSub_ii, fDiv_ii, fMod_ii, fPow_ii, fLt_ii, fLe_ii, fGt_ii, fGe_ii, fNeg_i, fAdd_ii, fAdd_tt, fAdd_ss, fAdd_ll, fAdd_c, fAdd_lc, fMul_ii, fMul_ti, fMul_li, fMul_ci, fMulC, lsOf, sqOf, wTest, wChain, wTAnd, wTOr, wTNot, wAndV, wOrV, wNotV, wIf, plOf, fEq, fNe, fIn, fIsN, fNotN, isNon, fFld, wFld, fIx, wNoPart, wPart, wSl, wNil, wCons, wStar, allP, allP_map, wTup, wLst, wLstC, wiSeq, wiRng1, wiRng2, wFor, wLc, wLcC, wLc2, wtYes, wiEnum, wiZip, wCB, fLen_s, fLen_t, fLen_l, fLen_c, fMax_ii, fMax_iii, fMax_l, fMin_ii, fMin_t, fMin_l, fMin_c, fSum, fAll, fAny, fList, fListC, fTuple, fSorted, fInt_i, fInt_b, fInt_s, fStr, sqF, fIsT, wIsT, tyName, kit_nt, kit_bt, kit_it, kit_st, kit_tt, kit_lt, kit_ni, kit_bi, kit_ii, kit_si, kit_ti, kit_li, kit_nb, kit_bb, kit_ib, kit_sb, kit_tb, kit_lb, wCallP0, wCallR0, wCallN0, wCallP, wCallR, wCallRf, wCallN, wMake, wMake0, wMakeC, wRaise, wNever, En.xp, enP, enR, enN, rtP, rtR, rtN, entry, List.map_cons, List.map_nil, List.cons_append, List.nil_append, List.append_nil, List.length_cons, List.length_nil, List.replicate, List.set_cons_zero, List.set_cons_succ, List.getElem?_cons_zero, List.getElem?_cons_succ, List.getElem?_nil, Option.getD_some, Option.getD_none, ite_true, ite_false, Bool.not_true, Bool.not_false, Bool.true_and, Bool.and_true, Bool.and_false, Bool.false_and, Bool.not_eq_true, Bool.false_eq_true, reduceIte, decide_eq_true_eq, atI_zero, atI_one, atI_two, atI_three, atI_four, atI_m1, wipeD, reduceCtorEq, ok_int, ok_non, ok_bl, eqv_int, ix40, ix41, ix42, ix43, Int.toNat_natCast, true_and, and_true]
      exact t12 _ _ _ _ _ _ _ _
    have tail : ∀ s8 s9 s10 s11, w_law_16 q E [some (.p (.fz (ns.map .int))), some (.c 0), some (.p (.int (i : Nat))), some (.p l.tp), some (.p (l.pd q)), some (.p (.int sv)), some (.p (.int v)), some (.p (movedL l sv v).bP), s8, s9, s10, s11, s12, s13, s14, none] [r3] := by
      intro s8 s9 s10 s11
      have hlen : ((movedL l sv v).bars.map barP).length ≤ big := by
        rw [List.length_map]
        show (l.bars.map _).length ≤ big
        rw [List.length_map]
        unfold big
        omega
      simp only [w_law_16, Lp.bP, wNext, wSeq, wBreak, wCont, wDrop, wRet, wSet, wPar, wIfS, wgName, wgNil, wgCons, wgTup, tupOf, wgLst, lstOf, wgSub, wAsg, putC, wAug, fAddI, fIxL, wAugS, wApp, wExt, putD, wFldS, wVar, dAt, wC, wBin, wUn, fSub_ii, fDiv_ii, fMod_ii, fPow_ii, fLt_ii, fLe_ii, fGt_ii, fGe_ii, fNeg_i, fAdd_ii, fAdd_tt, fAdd_ss, fAdd_ll, fAdd_c, fAdd_lc, fMul_ii, fMul_ti, fMul_li, fMul_ci, fMulC, lsOf, sqOf, wTest, wChain, wTAnd, wTOr, wTNot, wAndV, wOrV, wNotV, wIf, plOf, fEq, fNe, fIn, fIsN, fNotN, isNon, fFld, wFld, fIx, wNoPart, wPart, wSl, wNil, wCons, wStar, allP, allP_map, wTup, wLst, wLstC, wiSeq, wiRng1, wiRng2, wFor, wLc, wLcC, wLc2, wtYes, wiEnum, wiZip, wCB, fLen_s, fLen_t, fLen_l, fLen_c, fMax_ii, fMax_iii, fMax_l, fMin_ii, fMin_t, fMin_l, fMin_c, fSum, fAll, fAny, fList, fListC, fTuple, fSorted, fInt_i, fInt_b, fInt_s, fStr, sqF, fIsT, wIsT, tyName, kit_nt, kit_bt, kit_it, kit_st, kit_tt, kit_lt, kit_ni, kit_bi, kit_ii, kit_si, kit_ti, kit_li, kit_nb, kit_bb, kit_ib, kit_sb, kit_tb, kit_lb, wCallP0, wCallR0, wCallN0, wCallP, wCallR, wCallRf, wCallN, wMake, wMake0, wMakeC, wRaise, wNever, En.xp, enP, enR, enN, rtP, rtR, rtN, entry, List.map_cons, List.map_nil, List.cons_append, List.nil_append, List.append_nil, List.length_cons, List.length_nil, List.replicate, List.set_cons_zero, List.set_cons_succ, List.getElem?_cons_zero, List.getElem?_cons_succ, List.getElem?_nil, Option.getD_some, Option.getD_none, ite_true, ite_false, Bool.not_true, Bool.not_false, Bool.true_and, Bool.and_true, Bool.and_false, Bool.false_and, Bool.not_eq_true, Bool.false_eq_true, reduceIte, decide_eq_true_eq, atI_zero, atI_one, atI_two, atI_three, atI_four, atI_m1, wipeD, reduceCtorEq, ok_int, ok_non, ok_bl, eqv_int, ix40, ix41, ix42, ix43, Int.toNat_natCast, true_and, and_true]
      refine lc_fm fBad hlen trivial (fun j x J N hx hJ => ?_) ?_
      · obtain ⟨y, hy, rfl⟩ := map_inv hx
        rw [fBad_bar] at hJ
        simp only [barP, wNext, wSeq, wBreak, wCont, wDrop, wRet, wSet, wPar, wIfS, wgName, wgNil, wgCons, wgTup, tupOf, wgLst, lstOf, wgSub, wAsg, putC, wAug, fAddI, fIxL, wAugS, wApp, wExt, putD, wFldS, wVar, dAt, wC, wBin, wUn, fSub_ii, fDiv_ii, fMod_ii, fPow_ii, fLt_ii, fLe_ii, fGt_ii, fGe_ii, fNeg_i, fAdd_ii, fAdd_tt, fAdd_ss, fAdd_ll, fAdd_c, fAdd_lc, fMul_ii, fMul_ti, fMul_li, fMul_ci, fMulC, lsOf, sqOf, wTest, wChain, wTAnd, wTOr, wTNot, wAndV, wOrV, wNotV, wIf, plOf, fEq, fNe, fIn, fIsN, fNotN, isNon, fFld, wFld, fIx, wNoPart, wPart, wSl, wNil, wCons, wStar, allP, allP_map, wTup, wLst, wLstC, wiSeq, wiRng1, wiRng2, wFor, wLc, wLcC, wLc2, wtYes, wiEnum, wiZip, wCB, fLen_s, fLen_t, fLen_l, fLen_c, fMax_ii, fMax_iii, fMax_l, fMin_ii, fMin_t, fMin_l, fMin_c, fSum, fAll, fAny, fList, fListC, fTuple, fSorted, fInt_i, fInt_b, fInt_s, fStr, sqF, fIsT, wIsT, tyName, kit_nt, kit_bt, kit_it, kit_st, kit_tt, kit_lt, kit_ni, kit_bi, kit_ii, kit_si, kit_ti, kit_li, kit_nb, kit_bb, kit_ib, kit_sb, kit_tb, kit_lb, wCallP0, wCallR0, wCallN0, wCallP, wCallR, wCallRf, wCallN, wMake, wMake0, wMakeC, wRaise, wNever, En.xp, enP, enR, enN, rtP, rtR, rtN, entry, List.map_cons, List.map_nil, List.cons_append, List.nil_append, List.append_nil, List.length_cons, List.length_nil, List.replicate, List.set_cons_zero, List.set_cons_succ, List.getElem?_cons_zero, List.getElem?_cons_succ, List.getElem?_nil, Option.getD_some, Option.getD_none, ite_true, ite_false, Bool.not_true, Bool.not_false, Bool.true_and, Bool.and_true, Bool.and_false, Bool.false_and, Bool.not_eq_true, Bool.false_eq_true, reduceIte, decide_eq_true_eq, atI_zero, atI_one, atI_two, atI_three, atI_four, atI_m1, wipeD, reduceCtorEq, ok_int, ok_non, ok_bl, eqv_int, ix40, ix41, ix42, ix43, Int.toNat_natCast, true_and, and_true]
        unfold badW at hJ
        by_cases c0 : 0 ≤ y.2.2.2
        · by_cases c1 : y.2.2.2 ≤ 3
          · simp only [c0, c1, decide_true, wNext, wSeq, wBreak, wCont, wDrop, wRet, wSet, wPar, wIfS, wgName, wgNil, wgCons, wgTup, tupOf, wgLst, lstOf, wgSub, wAsg, putC, wAug, fAddI, fIxL, wAugS, wApp, wExt, putD, wFldS, wVar, dAt, wC, wBin, wUn, fSub_ii, fDiv_ii, fMod_ii, fPow_ii, fLt_ii, fLe_ii, fGt_ii, fGe_ii, fNeg_i, fAdd_ii, fAdd_tt, fAdd_ss, fAdd_ll, fAdd_c, fAdd_lc, fMul_ii, fMul_ti, fMul_li, fMul_ci, fMulC, lsOf, sqOf, wTest, wChain, wTAnd, wTOr, wTNot, wAndV, wOrV, wNotV, wIf, plOf, fEq, fNe, fIn, fIsN, fNotN, isNon, fFld, wFld, fIx, wNoPart, wPart, wSl, wNil, wCons, wStar, allP, allP_map, wTup, wLst, wLstC, wiSeq, wiRng1, wiRng2, wFor, wLc, wLcC, wLc2, wtYes, wiEnum, wiZip, wCB, fLen_s, fLen_t, fLen_l, fLen_c, fMax_ii, fMax_iii, fMax_l, fMin_ii, fMin_t, fMin_l, fMin_c, fSum, fAll, fAny, fList, fListC, fTuple, fSorted, fInt_i, fInt_b, fInt_s, fStr, sqF, fIsT, wIsT, tyName, kit_nt, kit_bt, kit_it, kit_st, kit_tt, kit_lt, kit_ni, kit_bi, kit_ii, kit_si, kit_ti, kit_li, kit_nb, kit_bb, kit_ib, kit_sb, kit_tb, kit_lb, wCallP0, wCallR0, wCallN0, wCallP, wCallR, wCallRf, wCallN, wMake, wMake0, wMakeC, wRaise, wNever, En.xp, enP, enR, enN, rtP, rtR, rtN, entry, List.map_cons, List.map_nil, List.cons_append, List.nil_append, List.append_nil, List.length_cons, List.length_nil, List.replicate, List.set_cons_zero, List.set_cons_succ, List.getElem?_cons_zero, List.getElem?_cons_succ, List.getElem?_nil, Option.getD_some, Option.getD_none, ite_true, ite_false, Bool.not_true, Bool.not_false, Bool.true_and, Bool.and_true, Bool.and_false, Bool.false_and, Bool.not_eq_true, Bool.false_eq_true, reduceIte, decide_eq_true_eq, atI_zero, atI_one, atI_two, atI_three, atI_four, atI_m1, wipeD, reduceCtorEq, ok_int, ok_non, ok_bl, eqv_int, ix40, ix41, ix42, ix43, Int.toNat_natCast, true_and, and_true] at hJ ⊢
            exact hJ
          · simp only [c0, c1, decide_true, decide_false, wNext, wSeq, wBreak, wCont, wDrop, wRet, wSet, wPar, wIfS, wgName, wgNil, wgCons, wgTup, tupOf, wgLst, lstOf, wgSub, wAsg, putC, wAug, fAddI, fIxL, wAugS, wApp, wExt, putD, wFldS, wVar, dAt, wC, wBin, wUn, fSub_ii, fDiv_ii, fMod_ii, fPow_ii, fLt_ii, fLe_ii, fGt_ii, fGe_ii, fNeg_i, fAdd_ii, fAdd_tt, fAdd_ss, fAdd_ll, fAdd_c, fAdd_lc, fMul_ii, fMul_ti, fMul_li, fMul_ci, fMulC, lsOf, sqOf, wTest, wChain, wTAnd, wTOr, wTNot, wAndV, wOrV, wNotV, wIf, plOf, fEq, fNe, fIn, fIsN, fNotN, isNon, fFld, wFld, fIx, wNoPart, wPart, wSl, wNil, wCons, wStar, allP, allP_map, wTup, wLst, wLstC, wiSeq, wiRng1, wiRng2, wFor, wLc, wLcC, wLc2, wtYes, wiEnum, wiZip, wCB, fLen_s, fLen_t, fLen_l, fLen_c, fMax_ii, fMax_iii, fMax_l, fMin_ii, fMin_t, fMin_l, fMin_c, fSum, fAll, fAny, fList, fListC, fTuple, fSorted, fInt_i, fInt_b, fInt_s, fStr, sqF, fIsT, wIsT, tyName, kit_nt, kit_bt, kit_it, kit_st, kit_tt, kit_lt, kit_ni, kit_bi, kit_ii, kit_si, kit_ti, kit_li, kit_nb, kit_bb, kit_ib, kit_sb, kit_tb, kit_lb, wCallP0, wCallR0, wCallN0, wCallP, wCallR, wCallRf, wCallN, wMake, wMake0, wMakeC, wRaise, wNever, En.xp, enP, enR, enN, rtP, rtR, rtN, entry, List.map_cons, List.map_nil, List.cons_append, List.nil_append, List.append_nil, List.length_cons, List.length_nil, List.replicate, List.set_cons_zero, List.set_cons_succ, List.getElem?_cons_zero, List.getElem?_cons_succ, List.getElem?_nil, Option.getD_some, Option.getD_none, ite_true, ite_false, Bool.not_true, Bool.not_false, Bool.true_and, Bool.and_true, Bool.and_false, Bool.false_and, Bool.not_eq_true, Bool.false_eq_true, reduceIte, decide_eq_true_eq, atI_zero, atI_one, atI_two, atI_three, atI_four, atI_m1, wipeD, reduceCtorEq, ok_int, ok_non, ok_bl, eqv_int, ix40, ix41, ix42, ix43, Int.toNat_natCast, true_and, and_true] at hJ ⊢
            exact hJ
        · simp only [c0, decide_false, wNext, wSeq, wBreak, wCont, wDrop, wRet, wSet, wPar, wIfS, wgName, wgNil, wgCons, wgTup, tupOf, wgLst, lstOf, wgSub, wAsg, putC, wAug, fAddI, fIxL, wAugS, wApp, wExt, putD, wFldS, wVar, dAt, wC, wBin, wUn, fSub_ii, fDiv_ii, fMod_ii, fPow_ii, fLt_ii, fLe_ii, fGt_ii, fGe_ii, fNeg_i, fAdd_ii, fAdd_tt, fAdd_ss, fAdd_ll, fAdd_c, fAdd_lc, fMul_ii, fMul_ti, fMul_li, fMul_ci, fMulC, lsOf, sqOf, wTest, wChain, wTAnd, wTOr, wTNot, wAndV, wOrV, wNotV, wIf, plOf, fEq, fNe, fIn, fIsN, fNotN, isNon, fFld, wFld, fIx, wNoPart, wPart, wSl, wNil, wCons, wStar, allP, allP_map, wTup, wLst, wLstC, wiSeq, wiRng1, wiRng2, wFor, wLc, wLcC, wLc2, wtYes, wiEnum, wiZip, wCB, fLen_s, fLen_t, fLen_l, fLen_c, fMax_ii, fMax_iii, fMax_l, fMin_ii, fMin_t, fMin_l, fMin_c, fSum, fAll, fAny, fList, fListC, fTuple, fSorted, fInt_i, fInt_b, fInt_s, fStr, sqF, fIsT, wIsT, tyName, kit_nt, kit_bt, kit_it, kit_st, kit_tt, kit_lt, kit_ni, kit_bi, kit_ii, kit_si, kit_ti, kit_li, kit_nb, kit_bb, kit_ib, kit_sb, kit_tb, kit_lb, wCallP0, wCallR0, wCallN0, wCallP, wCallR, wCallRf, wCallN, wMake, wMake0, wMakeC, wRaise, wNever, En.xp, enP, enR, enN, rtP, rtR, rtN, entry, List.map_cons, List.map_nil, List.cons_append, List.nil_append, List.append_nil, List.length_cons, List.length_nil, List.replicate, List.set_cons_zero, List.set_cons_succ, List.getElem?_cons_zero, List.getElem?_cons_succ, List.getElem?_nil, Option.getD_some, Option.getD_none, ite_true, ite_false, Bool.not_true, Bool.not_false, Bool.true_and, Bool.and_true, Bool.and_false, Bool.false_and, Bool.not_eq_true, Bool.false_eq_true, reduceIte, decide_eq_true_eq, atI_zero, atI_one, atI_two, atI_three, atI_four, atI_m1, wipeD, reduceCtorEq, ok_int, ok_non, ok_bl, eqv_int, ix40, ix41, ix42, ix43, Int.toNat_natCast, true_and, and_true] at hJ ⊢
          exact hJ
      · rw [fBad_map]
        have hpl : (PD.lst (((movedL l sv v).bars.filter badW).map barP)).pl 6 = true := mapL_pl (n := 5) barP_pl _
        have en : PD.eqv (.lst (((movedL l sv v).bars.filter badW).map barP)) (.lst []) = mvOk l sv v := (eqv_nil _).trans (bad_none l sv v)
        refine ⟨Nat.zero_le _, pl_ok30 hpl, by decide, ?_⟩
        rw [en]
        simp only [wNext, wSeq, wBreak, wCont, wDrop, wRet, wSet, wPar, wIfS, wgName, wgNil, wgCons, wgTup, tupOf, wgLst, lstOf, wgSub, wAsg, putC, wAug, fAddI, fIxL, wAugS, wApp, wExt, putD, wFldS, wVar, dAt, wC, wBin, wUn, fSub_ii, fDiv_ii, fMod_ii, fPow_ii, fLt_ii, fLe_ii, fGt_ii, fGe_ii, fNeg_i, fAdd_ii, fAdd_tt, fAdd_ss, fAdd_ll, fAdd_c, fAdd_lc, fMul_ii, fMul_ti, fMul_li, fMul_ci, fMulC, lsOf, sqOf, wTest, wChain, wTAnd, wTOr, wTNot, wAndV, wOrV, wNotV, wIf, plOf, fEq, fNe, fIn, fIsN, fNotN, isNon, fFld, wFld, fIx, wNoPart, wPart, wSl, wNil, wCons, wStar, allP, allP_map, wTup, wLst, wLstC, wiSeq, wiRng1, wiRng2, wFor, wLc, wLcC, wLc2, wtYes, wiEnum, wiZip, wCB, fLen_s, fLen_t, fLen_l, fLen_c, fMax_ii, fMax_iii, fMax_l, fMin_ii, fMin_t, fMin_l, fMin_c, fSum, fAll, fAny, fList, fListC, fTuple, fSorted, fInt_i, fInt_b, fInt_s, fStr, sqF, fIsT, wIsT, tyName, kit_nt, kit_bt, kit_it, kit_st, kit_tt, kit_lt, kit_ni, kit_bi, kit_ii, kit_si, kit_ti, kit_li, kit_nb, kit_bb, kit_ib, kit_sb, kit_tb, kit_lb, wCallP0, wCallR0, wCallN0, wCallP, wCallR, wCallRf, wCallN, wMake, wMake0, wMakeC, wRaise, wNever, En.xp, enP, enR, enN, rtP, rtR, rtN, entry, List.map_cons, List.map_nil, List.cons_append, List.nil_append, List.append_nil, List.length_cons, List.length_nil, List.replicate, List.set_cons_zero, List.set_cons_succ, List.getElem?_cons_zero, List.getElem?_cons_succ, List.getElem?_nil, Option.getD_some, Option.getD_none, ite_true, ite_false, Bool.not_true, Bool.not_false, Bool.true_and, Bool.and_true, Bool.and_false, Bool.false_and, Bool.not_eq_true, Bool.false_eq_true, reduceIte, decide_eq_true_eq, atI_zero, atI_one, atI_two, atI_three, atI_four, atI_m1, wipeD, reduceCtorEq, ok_int, ok_non, ok_bl, eqv_int, ix40, ix41, ix42, ix43, Int.toNat_natCast, true_and, and_true, w_law_15]
        refine ⟨l, _, _, rfl, ok, rfl, rfl, ?_⟩
        rw [movedO_in sv0 sv1 v0.1 v0.2]
        cases hm : mvOk l sv v with
        | true =>
          simp only [wNext, wSeq, wBreak, wCont, wDrop, wRet, wSet, wPar, wIfS, wgName, wgNil, wgCons, wgTup, tupOf, wgLst, lstOf, wgSub, wAsg, putC, wAug, fAddI, fIxL, wAugS, wApp, wExt, putD, wFldS, wVar, dAt, wC, wBin, wUn, fSub_ii, fDiv_ii, fMod_ii, fPow_ii, fLt_ii, fLe_ii, fGt_ii, fGe_ii, fNeg_i, fAdd_ii, fAdd_tt, fAdd_ss, fAdd_ll, fAdd_c, fAdd_lc, fMul_ii, fMul_ti, fMul_li, fMul_ci, fMulC, lsOf, sqOf, wTest, wChain, wTAnd, wTOr, wTNot, wAndV, wOrV, wNotV, wIf, plOf, fEq, fNe, fIn, fIsN, fNotN, isNon, fFld, wFld, fIx, wNoPart, wPart, wSl, wNil, wCons, wStar, allP, allP_map, wTup, wLst, wLstC, wiSeq, wiRng1, wiRng2, wFor, wLc, wLcC, wLc2, wtYes, wiEnum, wiZip, wCB, fLen_s, fLen_t, fLen_l, fLen_c, fMax_ii, fMax_iii, fMax_l, fMin_ii, fMin_t, fMin_l, fMin_c, fSum, fAll, fAny, fList, fListC, fTuple, fSorted, fInt_i, fInt_b, fInt_s, fStr, sqF, fIsT, wIsT, tyName, kit_nt, kit_bt, kit_it, kit_st, kit_tt, kit_lt, kit_ni, kit_bi, kit_ii, kit_si, kit_ti, kit_li, kit_nb, kit_bb, kit_ib, kit_sb, kit_tb, kit_lb, wCallP0, wCallR0, wCallN0, wCallP, wCallR, wCallRf, wCallN, wMake, wMake0, wMakeC, wRaise, wNever, En.xp, enP, enR, enN, rtP, rtR, rtN, entry, List.map_cons, List.map_nil, List.cons_append, List.nil_append, List.append_nil, List.length_cons, List.length_nil, List.replicate, List.set_cons_zero, List.set_cons_succ, List.getElem?_cons_zero, List.getElem?_cons_succ, List.getElem?_nil, Option.getD_some, Option.getD_none, ite_true, ite_false, Bool.not_true, Bool.not_false, Bool.true_and, Bool.and_true, Bool.and_false, Bool.false_and, Bool.not_eq_true, Bool.false_eq_true, reduceIte, decide_eq_true_eq, atI_zero, atI_one, atI_two, atI_three, atI_four, atI_m1, wipeD, reduceCtorEq, ok_int, ok_non, ok_bl, eqv_int, ix40, ix41, ix42, ix43, Int.toNat_natCast, true_and, and_true, mvOut, w_law_14, Lp.tp]
          refine ⟨movedL l sv v, rfl, rfl, movedL_ok ok hm, rfl, _, rfl, ?_⟩
          have e : (movedL l sv v).pd q = .ins q.Loop (movedL l sv v).fs := rfl
          simp only [e, fOwn2, wNext, wSeq, wBreak, wCont, wDrop, wRet, wSet, wPar, wIfS, wgName, wgNil, wgCons, wgTup, tupOf, wgLst, lstOf, wgSub, wAsg, putC, wAug, fAddI, fIxL, wAugS, wApp, wExt, putD, wFldS, wVar, dAt, wC, wBin, wUn, fSub_ii, fDiv_ii, fMod_ii, fPow_ii, fLt_ii, fLe_ii, fGt_ii, fGe_ii, fNeg_i, fAdd_ii, fAdd_tt, fAdd_ss, fAdd_ll, fAdd_c, fAdd_lc, fMul_ii, fMul_ti, fMul_li, fMul_ci, fMulC, lsOf, sqOf, wTest, wChain, wTAnd, wTOr, wTNot, wAndV, wOrV, wNotV, wIf, plOf, fEq, fNe, fIn, fIsN, fNotN, isNon, fFld, wFld, fIx, wNoPart, wPart, wSl, wNil, wCons, wStar, allP, allP_map, wTup, wLst, wLstC, wiSeq, wiRng1, wiRng2, wFor, wLc, wLcC, wLc2, wtYes, wiEnum, wiZip, wCB, fLen_s, fLen_t, fLen_l, fLen_c, fMax_ii, fMax_iii, fMax_l, fMin_ii, fMin_t, fMin_l, fMin_c, fSum, fAll, fAny, fList, fListC, fTuple, fSorted, fInt_i, fInt_b, fInt_s, fStr, sqF, fIsT, wIsT, tyName, kit_nt, kit_bt, kit_it, kit_st, kit_tt, kit_lt, kit_ni, kit_bi, kit_ii, kit_si, kit_ti, kit_li, kit_nb, kit_bb, kit_ib, kit_sb, kit_tb, kit_lb, wCallP0, wCallR0, wCallN0, wCallP, wCallR, wCallRf, wCallN, wMake, wMake0, wMakeC, wRaise, wNever, En.xp, enP, enR, enN, rtP, rtR, rtN, entry, List.map_cons, List.map_nil, List.cons_append, List.nil_append, List.append_nil, List.length_cons, List.length_nil, List.replicate, List.set_cons_zero, List.set_cons_succ, List.getElem?_cons_zero, List.getElem?_cons_succ, List.getElem?_nil, Option.getD_some, Option.getD_none, ite_true, ite_false, Bool.not_true, Bool.not_false, Bool.true_and, Bool.and_true, Bool.and_false, Bool.false_and, Bool.not_eq_true, Bool.false_eq_true, reduceIte, decide_eq_true_eq, atI_zero, atI_one, atI_two, atI_three, atI_four, atI_m1, wipeD, reduceCtorEq, ok_int, ok_non, ok_bl, eqv_int, ix40, ix41, ix42, ix43, Int.toNat_natCast, true_and, and_true]
          refine ⟨_, _, rfl, movedL_ok ok hm, movedL_ok ok hm, ?_⟩
          have es : ((movedL l sv v).same (movedL l sv v)) = true := by simp [Lp.same]
          rw [es]
          refine ⟨true, rfl, ?_⟩
          exact t13g hm _ _ _ _ _ _
        | false =>
          simp only [wNext, wSeq, wBreak, wCont, wDrop, wRet, wSet, wPar, wIfS, wgName, wgNil, wgCons, wgTup, tupOf, wgLst, lstOf, wgSub, wAsg, putC, wAug, fAddI, fIxL, wAugS, wApp, wExt, putD, wFldS, wVar, dAt, wC, wBin, wUn, fSub_ii, fDiv_ii, fMod_ii, fPow_ii, fLt_ii, fLe_ii, fGt_ii, fGe_ii, fNeg_i, fAdd_ii, fAdd_tt, fAdd_ss, fAdd_ll, fAdd_c, fAdd_lc, fMul_ii, fMul_ti, fMul_li, fMul_ci, fMulC, lsOf, sqOf, wTest, wChain, wTAnd, wTOr, wTNot, wAndV, wOrV, wNotV, wIf, plOf, fEq, fNe, fIn, fIsN, fNotN, isNon, fFld, wFld, fIx, wNoPart, wPart, wSl, wNil, wCons, wStar, allP, allP_map, wTup, wLst, wLstC, wiSeq, wiRng1, wiRng2, wFor, wLc, wLcC, wLc2, wtYes, wiEnum, wiZip, wCB, fLen_s, fLen_t, fLen_l, fLen_c, fMax_ii, fMax_iii, fMax_l, fMin_ii, fMin_t, fMin_l, fMin_c, fSum, fAll, fAny, fList, fListC, fTuple, fSorted, fInt_i, fInt_b, fInt_s, fStr, sqF, fIsT, wIsT, tyName, kit_nt, kit_bt, kit_it, kit_st, kit_tt, kit_lt, kit_ni, kit_bi, kit_ii, kit_si, kit_ti, kit_li, kit_nb, kit_bb, kit_ib, kit_sb, kit_tb, kit_lb, wCallP0, wCallR0, wCallN0, wCallP, wCallR, wCallRf, wCallN, wMake, wMake0, wMakeC, wRaise, wNever, En.xp, enP, enR, enN, rtP, rtR, rtN, entry, List.map_cons, List.map_nil, List.cons_append, List.nil_append, List.append_nil, List.length_cons, List.length_nil, List.replicate, List.set_cons_zero, List.set_cons_succ, List.getElem?_cons_zero, List.getElem?_cons_succ, List.getElem?_nil, Option.getD_some, Option.getD_none, ite_true, ite_false, Bool.not_true, Bool.not_false, Bool.true_and, Bool.and_true, Bool.and_false, Bool.false_and, Bool.not_eq_true, Bool.false_eq_true, reduceIte, decide_eq_true_eq, atI_zero, atI_one, atI_two, atI_three, atI_four, atI_m1, wipeD, reduceCtorEq, ok_int, ok_non, ok_bl, eqv_int, ix40, ix41, ix42, ix43, Int.toNat_natCast, true_and, and_true, mvOut, w_law_14, eqv_refl hmp, pl_ok30 hmp]
          exact t13b _ _ _ _ _ _ _
    simp only [w_law_18, wNext, wSeq, wBreak, wCont, wDrop, wRet, wSet, wPar, wIfS, wgName, wgNil, wgCons, wgTup, tupOf, wgLst, lstOf, wgSub, wAsg, putC, wAug, fAddI, fIxL, wAugS, wApp, wExt, putD, wFldS, wVar, dAt, wC, wBin, wUn, fSub_ii, fDiv_ii, fMod_ii, fPow_ii, fLt_ii, fLe_ii, fGt_ii, fGe_ii, fNeg_i, fAdd_ii, fAdd_tt, fAdd_ss, fAdd_ll, fAdd_c, fAdd_lc, fMul_ii, fMul_ti, fMul_li, fMul_ci, fMulC, lsOf, sqOf, wTest, wChain, wTAnd, wTOr, wTNot, wAndV, wOrV, wNotV, wIf, plOf, fEq, fNe, fIn, fIsN, fNotN, isNon, fFld, wFld, fIx, wNoPart, wPart, wSl, wNil, wCons, wStar, allP, allP_map, wTup, wLst, wLstC, wiSeq, wiRng1, wiRng2, wFor, wLc, wLcC, wLc2, wtYes, wiEnum, wiZip, wCB, fLen_s, fLen_t, fLen_l, fLen_c, fMax_ii, fMax_iii, fMax_l, fMin_ii, fMin_t, fMin_l, fMin_c, fSum, fAll, fAny, fList, fListC, fTuple, fSorted, fInt_i, fInt_b, fInt_s, fStr, sqF, fIsT, wIsT, tyName, kit_nt, kit_bt, kit_it, kit_st, kit_tt, kit_lt, kit_ni, kit_bi, kit_ii, kit_si, kit_ti, kit_li, kit_nb, kit_bb, kit_ib, kit_sb, kit_tb, kit_lb, wCallP0, wCallR0, wCallN0, wCallP, wCallR, wCallRf, wCallN, wMake, wMake0, wMakeC, wRaise, wNever, En.xp, enP, enR, enN, rtP, rtR, rtN, entry, List.map_cons, List.map_nil, List.cons_append, List.nil_append, List.append_nil, List.length_cons, List.length_nil, List.replicate, List.set_cons_zero, List.set_cons_succ, List.getElem?_cons_zero, List.getElem?_cons_succ, List.getElem?_nil, Option.getD_some, Option.getD_none, ite_true, ite_false, Bool.not_true, Bool.not_false, Bool.true_and, Bool.and_true, Bool.and_false, Bool.false_and, Bool.not_eq_true, Bool.false_eq_true, reduceIte, decide_eq_true_eq, atI_zero, atI_one, atI_two, atI_three, atI_four, atI_m1, wipeD, reduceCtorEq, ok_int, ok_non, ok_bl, eqv_int, ix40, ix41, ix42, ix43, Int.toNat_natCast, true_and, and_true, w_law_17, Lp.tp, Lp.bP]
    refine ⟨Nat.zero_le _, ?_⟩
    refine ⟨fun j ds m => m = [r3] ∧ ∃ s8 s9 s10 s11, ds = [some (.p (.fz (ns.map .int))), some (.c 0), some (.p (.int (i : Nat))), some (.p l.tp), some (.p (l.pd q)), some (.p (.int sv)), some (.p (.int v)), some (.p (.tup (((l.bars.take j).map (mvB sv v)).map barP))), s8, s9, s10, s11, s12, s13, s14, none],
      ⟨rfl, _, _, _, _, rfl⟩, fun _ _ _ _ => trivial, ?_, ?_⟩
    · rintro j x _ _ hx ⟨rfl, s8, s9, s10, s11, rfl⟩
      obtain ⟨y, hy, rfl⟩ := map_inv hx
      change w_law_5 q _ [some (.p (.fz (ns.map .int))), some (.c 0), some (.p (.int (i : Nat))), some (.p l.tp), some (.p (l.pd q)), some (.p (.int sv)), some (.p (.int v)), some (.p (.tup (((l.bars.take j).map (mvB sv v)).map barP))), some (.p (.int y.1)), some (.p (.int y.2.1)), some (.p (.int y.2.2.1)), some (.p (.int y.2.2.2)), s12, s13, s14, none] _
      refine with_En fun E2 nx rt bk ct ex => ?_
      have e1 : l.bars.take (j + 1) = l.bars.take j ++ [y] := by rw [List.take_add_one, hy]; rfl
      have e2 : ((l.bars.take j).map (mvB sv v)).map barP ++ [PD.tup [.int y.1, .int y.2.1, .int y.2.2.1, .int (mvd sv v y)]] = ((l.bars.take (j + 1)).map (mvB sv v)).map barP := by
        rw [e1, List.map_append, List.map_append]
        rfl
      have nx3 : ∀ s11, E2.nx [some (.p (.fz (ns.map .int))), some (.c 0), some (.p (.int (i : Nat))), some (.p l.tp), some (.p (l.pd q)), some (.p (.int sv)), some (.p (.int v)), some (.p (.tup (((l.bars.take (j + 1)).map (mvB sv v)).map barP))), some (.p (.int y.1)), some (.p (.int y.2.1)), some (.p (.int y.2.2.1)), s11, s12, s13, s14, none] [r3] := fun s11 => nx _ _ ⟨rfl, _, _, _, _, rfl⟩
      clear nx rt bk ct ex
      have last : w_law_4 q E2 [some (.p (.fz (ns.map .int))), some (.c 0), some (.p (.int (i : Nat))), some (.p l.tp), some (.p (l.pd q)), some (.p (.int sv)), some (.p (.int v)), some (.p (.tup (((l.bars.take j).map (mvB sv v)).map barP))), some (.p (.int y.1)), some (.p (.int y.2.1)), some (.p (.int y.2.2.1)), some (.p (.int (mvd sv v y))), s12, s13, s14, none] [r3] := by
        simp only [w_law_4, wNext, wSeq, wBreak, wCont, wDrop, wRet, wSet, wPar, wIfS, wgName, wgNil, wgCons, wgTup, tupOf, wgLst, lstOf, wgSub, wAsg, putC, wAug, fAddI, fIxL, wAugS, wApp, wExt, putD, wFldS, wVar, dAt, wC, wBin, wUn, fSub_ii, fDiv_ii, fMod_ii, fPow_ii, fLt_ii, fLe_ii, fGt_ii, fGe_ii, fNeg_i, fAdd_ii, fAdd_tt, fAdd_ss, fAdd_ll, fAdd_c, fAdd_lc, fMul_ii, fMul_ti, fMul_li, fMul_ci, fMulC, lsOf, sqOf, wTest, wChain, wTAnd, wTOr, wTNot, wAndV, wOrV, wNotV, wIf, plOf, fEq, fNe, fIn, fIsN, fNotN, isNon, fFld, wFld, fIx, wNoPart, wPart, wSl, wNil, wCons, wStar, allP, allP_map, wTup, wLst, wLstC, wiSeq, wiRng1, wiRng2, wFor, wLc, wLcC, wLc2, wtYes, wiEnum, wiZip, wCB, fLen_s, fLen_t, fLen_l, fLen_c, fMax_ii, fMax_iii, fMax_l, fMin_ii, fMin_t, fMin_l, fMin_c, fSum, fAll, fAny, fList, fListC, fTuple, fSorted, fInt_i, fInt_b, fInt_s, fStr, sqF, fIsT, wIsT, tyName, kit_nt, kit_bt, kit_it, kit_st, kit_tt, kit_lt, kit_ni, kit_bi, kit_ii, kit_si, kit_ti, kit_li, kit_nb, kit_bb, kit_ib, kit_sb, kit_tb, kit_lb, wCallP0, wCallR0, wCallN0, wCallP, wCallR, wCallRf, wCallN, wMake, wMake0, wMakeC, wRaise, wNever, En.xp, enP, enR, enN, rtP, rtR, rtN, entry, List.map_cons, List.map_nil, List.cons_append, List.nil_append, List.append_nil, List.length_cons, List.length_nil, List.replicate, List.set_cons_zero, List.set_cons_succ, List.getElem?_cons_zero, List.getElem?_cons_succ, List.getElem?_nil, Option.getD_some, Option.getD_none, ite_true, ite_false, Bool.not_true, Bool.not_false, Bool.true_and, Bool.and_true, Bool.and_false, Bool.false_and, Bool.not_eq_true, Bool.false_eq_true, reduceIte, decide_eq_true_eq, atI_zero, atI_one, atI_two, atI_three, atI_four, atI_m1, wipeD, reduceCtorEq, ok_int, ok_non, ok_bl, eqv_int, ix40, ix41, ix42, ix43, Int.toNat_natCast, true_and, and_true, e2]
        exact ⟨by decide, by decide, by rw [List.length_map, List.length_map, List.length_take]; unfold big; omega, nx3 _⟩
      have em := mv_if y sv v
      by_cases c0 : y.1 = y.2.1
      · rw [if_neg fun z => z.1 c0, if_neg fun z => z.1 c0] at em
        rw [em, c0] at last
        simp only [w_law_5, wNext, wSeq, wBreak, wCont, wDrop, wRet, wSet, wPar, wIfS, wgName, wgNil, wgCons, wgTup, tupOf, wgLst, lstOf, wgSub, wAsg, putC, wAug, fAddI, fIxL, wAugS, wApp, wExt, putD, wFldS, wVar, dAt, wC, wBin, wUn, fSub_ii, fDiv_ii, fMod_ii, fPow_ii, fLt_ii, fLe_ii, fGt_ii, fGe_ii, fNeg_i, fAdd_ii, fAdd_tt, fAdd_ss, fAdd_ll, fAdd_c, fAdd_lc, fMul_ii, fMul_ti, fMul_li, fMul_ci, fMulC, lsOf, sqOf, wTest, wChain, wTAnd, wTOr, wTNot, wAndV, wOrV, wNotV, wIf, plOf, fEq, fNe, fIn, fIsN, fNotN, isNon, fFld, wFld, fIx, wNoPart, wPart, wSl, wNil, wCons, wStar, allP, allP_map, wTup, wLst, wLstC, wiSeq, wiRng1, wiRng2, wFor, wLc, wLcC, wLc2, wtYes, wiEnum, wiZip, wCB, fLen_s, fLen_t, fLen_l, fLen_c, fMax_ii, fMax_iii, fMax_l, fMin_ii, fMin_t, fMin_l, fMin_c, fSum, fAll, fAny, fList, fListC, fTuple, fSorted, fInt_i, fInt_b, fInt_s, fStr, sqF, fIsT, wIsT, tyName, kit_nt, kit_bt, kit_it, kit_st, kit_tt, kit_lt, kit_ni, kit_bi, kit_ii, kit_si, kit_ti, kit_li, kit_nb, kit_bb, kit_ib, kit_sb, kit_tb, kit_lb, wCallP0, wCallR0, wCallN0, wCallP, wCallR, wCallRf, wCallN, wMake, wMake0, wMakeC, wRaise, wNever, En.xp, enP, enR, enN, rtP, rtR, rtN, entry, List.map_cons, List.map_nil, List.cons_append, List.nil_append, List.append_nil, List.length_cons, List.length_nil, List.replicate, List.set_cons_zero, List.set_cons_succ, List.getElem?_cons_zero, List.getElem?_cons_succ, List.getElem?_nil, Option.getD_some, Option.getD_none, ite_true, ite_false, Bool.not_true, Bool.not_false, Bool.true_and, Bool.and_true, Bool.and_false, Bool.false_and, Bool.not_eq_true, Bool.false_eq_true, reduceIte, decide_eq_true_eq, atI_zero, atI_one, atI_two, atI_three, atI_four, atI_m1, wipeD, reduceCtorEq, ok_int, ok_non, ok_bl, eqv_int, ix40, ix41, ix42, ix43, Int.toNat_natCast, true_and, and_true, c0, decide_true, w_law_3]
        exact last
      · by_cases c1 : y.2.1 = sv
        · have c0' : ¬ y.1 = sv := fun z => c0 (z.trans c1.symm)
          rw [if_pos ⟨c0, c1⟩] at em
          rw [em, c1] at last
          simp only [w_law_5, wNext, wSeq, wBreak, wCont, wDrop, wRet, wSet, wPar, wIfS, wgName, wgNil, wgCons, wgTup, tupOf, wgLst, lstOf, wgSub, wAsg, putC, wAug, fAddI, fIxL, wAugS, wApp, wExt, putD, wFldS, wVar, dAt, wC, wBin, wUn, fSub_ii, fDiv_ii, fMod_ii, fPow_ii, fLt_ii, fLe_ii, fGt_ii, fGe_ii, fNeg_i, fAdd_ii, fAdd_tt, fAdd_ss, fAdd_ll, fAdd_c, fAdd_lc, fMul_ii, fMul_ti, fMul_li, fMul_ci, fMulC, lsOf, sqOf, wTest, wChain, wTAnd, wTOr, wTNot, wAndV, wOrV, wNotV, wIf, plOf, fEq, fNe, fIn, fIsN, fNotN, isNon, fFld, wFld, fIx, wNoPart, wPart, wSl, wNil, wCons, wStar, allP, allP_map, wTup, wLst, wLstC, wiSeq, wiRng1, wiRng2, wFor, wLc, wLcC, wLc2, wtYes, wiEnum, wiZip, wCB, fLen_s, fLen_t, fLen_l, fLen_c, fMax_ii, fMax_iii, fMax_l, fMin_ii, fMin_t, fMin_l, fMin_c, fSum, fAll, fAny, fList, fListC, fTuple, fSorted, fInt_i, fInt_b, fInt_s, fStr, sqF, fIsT, wIsT, tyName, kit_nt, kit_bt, kit_it, kit_st, kit_tt, kit_lt, kit_ni, kit_bi, kit_ii, kit_si, kit_ti, kit_li, kit_nb, kit_bb, kit_ib, kit_sb, kit_tb, kit_lb, wCallP0, wCallR0, wCallN0, wCallP, wCallR, wCallRf, wCallN, wMake, wMake0, wMakeC, wRaise, wNever, En.xp, enP, enR, enN, rtP, rtR, rtN, entry, List.map_cons, List.map_nil, List.cons_append, List.nil_append, List.append_nil, List.length_cons, List.length_nil, List.replicate, List.set_cons_zero, List.set_cons_succ, List.getElem?_cons_zero, List.getElem?_cons_succ, List.getElem?_nil, Option.getD_some, Option.getD_none, ite_true, ite_false, Bool.not_true, Bool.not_false, Bool.true_and, Bool.and_true, Bool.and_false, Bool.false_and, Bool.not_eq_true, Bool.false_eq_true, reduceIte, decide_eq_true_eq, atI_zero, atI_one, atI_two, atI_three, atI_four, atI_m1, wipeD, reduceCtorEq, ok_int, ok_non, ok_bl, eqv_int, ix40, ix41, ix42, ix43, Int.toNat_natCast, true_and, and_true, c0, c0', c1, decide_true, decide_false, w_law_1]
          exact last
        · by_cases c2 : y.1 = sv
          · have c0' : ¬ sv = y.2.1 := fun z => c1 z.symm
            rw [if_neg fun z => c1 z.2, if_pos ⟨c0, c2⟩] at em
            rw [em, c2] at last
            simp only [w_law_5, wNext, wSeq, wBreak, wCont, wDrop, wRet, wSet, wPar, wIfS, wgName, wgNil, wgCons, wgTup, tupOf, wgLst, lstOf, wgSub, wAsg, putC, wAug, fAddI, fIxL, wAugS, wApp, wExt, putD, wFldS, wVar, dAt, wC, wBin, wUn, fSub_ii, fDiv_ii, fMod_ii, fPow_ii, fLt_ii, fLe_ii, fGt_ii, fGe_ii, fNeg_i, fAdd_ii, fAdd_tt, fAdd_ss, fAdd_ll, fAdd_c, fAdd_lc, fMul_ii, fMul_ti, fMul_li, fMul_ci, fMulC, lsOf, sqOf, wTest, wChain, wTAnd, wTOr, wTNot, wAndV, wOrV, wNotV, wIf, plOf, fEq, fNe, fIn, fIsN, fNotN, isNon, fFld, wFld, fIx, wNoPart, wPart, wSl, wNil, wCons, wStar, allP, allP_map, wTup, wLst, wLstC, wiSeq, wiRng1, wiRng2, wFor, wLc, wLcC, wLc2, wtYes, wiEnum, wiZip, wCB, fLen_s, fLen_t, fLen_l, fLen_c, fMax_ii, fMax_iii, fMax_l, fMin_ii, fMin_t, fMin_l, fMin_c, fSum, fAll, fAny, fList, fListC, fTuple, fSorted, fInt_i, fInt_b, fInt_s, fStr, sqF, fIsT, wIsT, tyName, kit_nt, kit_bt, kit_it, kit_st, kit_tt, kit_lt, kit_ni, kit_bi, kit_ii, kit_si, kit_ti, kit_li, kit_nb, kit_bb, kit_ib, kit_sb, kit_tb, kit_lb, wCallP0, wCallR0, wCallN0, wCallP, wCallR, wCallRf, wCallN, wMake, wMake0, wMakeC, wRaise, wNever, En.xp, enP, enR, enN, rtP, rtR, rtN, entry, List.map_cons, List.map_nil, List.cons_append, List.nil_append, List.append_nil, List.length_cons, List.length_nil, List.replicate, List.set_cons_zero, List.set_cons_succ, List.getElem?_cons_zero, List.getElem?_cons_succ, List.getElem?_nil, Option.getD_some, Option.getD_none, ite_true, ite_false, Bool.not_true, Bool.not_false, Bool.true_and, Bool.and_true, Bool.and_false, Bool.false_and, Bool.not_eq_true, Bool.false_eq_true, reduceIte, decide_eq_true_eq, atI_zero, atI_one, atI_two, atI_three, atI_four, atI_m1, wipeD, reduceCtorEq, ok_int, ok_non, ok_bl, eqv_int, ix40, ix41, ix42, ix43, Int.toNat_natCast, true_and, and_true, c0, c0', c1, c2, decide_true, decide_false, w_law_3, w_law_2]
            exact last
          · rw [if_neg fun z => c1 z.2, if_neg fun z => c2 z.2] at em
            rw [em] at last
            simp only [w_law_5, wNext, wSeq, wBreak, wCont, wDrop, wRet, wSet, wPar, wIfS, wgName, wgNil, wgCons, wgTup, tupOf, wgLst, lstOf, wgSub, wAsg, putC, wAug, fAddI, fIxL, wAugS, wApp, wExt, putD, wFldS, wVar, dAt, wC, wBin, wUn, fSub_ii, fDiv_ii, fMod_ii, fPow_ii, fLt_ii, fLe_ii, fGt_ii, fGe_ii, fNeg_i, fAdd_ii, fAdd_tt, fAdd_ss, fAdd_ll, fAdd_c, fAdd_lc, fMul_ii, fMul_ti, fMul_li, fMul_ci, fMulC, lsOf, sqOf, wTest, wChain, wTAnd, wTOr, wTNot, wAndV, wOrV, wNotV, wIf, plOf, fEq, fNe, fIn, fIsN, fNotN, isNon, fFld, wFld, fIx, wNoPart, wPart, wSl, wNil, wCons, wStar, allP, allP_map, wTup, wLst, wLstC, wiSeq, wiRng1, wiRng2, wFor, wLc, wLcC, wLc2, wtYes, wiEnum, wiZip, wCB, fLen_s, fLen_t, fLen_l, fLen_c, fMax_ii, fMax_iii, fMax_l, fMin_ii, fMin_t, fMin_l, fMin_c, fSum, fAll, fAny, fList, fListC, fTuple, fSorted, fInt_i, fInt_b, fInt_s, fStr, sqF, fIsT, wIsT, tyName, kit_nt, kit_bt, kit_it, kit_st, kit_tt, kit_lt, kit_ni, kit_bi, kit_ii, kit_si, kit_ti, kit_li, kit_nb, kit_bb, kit_ib, kit_sb, kit_tb, kit_lb, wCallP0, wCallR0, wCallN0, wCallP, wCallR, wCallRf, wCallN, wMake, wMake0, wMakeC, wRaise, wNever, En.xp, enP, enR, enN, rtP, rtR, rtN, entry, List.map_cons, List.map_nil, List.cons_append, List.nil_append, List.append_nil, List.length_cons, List.length_nil, List.replicate, List.set_cons_zero, List.set_cons_succ, List.getElem?_cons_zero, List.getElem?_cons_succ, List.getElem?_nil, Option.getD_some, Option.getD_none, ite_true, ite_false, Bool.not_true, Bool.not_false, Bool.true_and, Bool.and_true, Bool.and_false, Bool.false_and, Bool.not_eq_true, Bool.false_eq_true, reduceIte, decide_eq_true_eq, atI_zero, atI_one, atI_two, atI_three, atI_four, atI_m1, wipeD, reduceCtorEq, ok_int, ok_non, ok_bl, eqv_int, ix40, ix41, ix42, ix43, Int.toNat_natCast, true_and, and_true, c0, c1, c2, decide_true, decide_false, w_law_3]
            exact last
    · rintro _ _ ⟨rfl, s8, s9, s10, s11, rfl⟩
      simp only [List.length_map, List.take_length]
      exact tail _ _ _ _
  · rintro _ _ ⟨r, rfl, hr, s2, s3, s4, s5, s6, s7, s8, s9, s10, s11, s12, s13, s14, rfl⟩
    simp only [wNext, wSeq, wBreak, wCont, wDrop, wRet, wSet, wPar, wIfS, wgName, wgNil, wgCons, wgTup, tupOf, wgLst, lstOf, wgSub, wAsg, putC, wAug, fAddI, fIxL, wAugS, wApp, wExt, putD, wFldS, wVar, dAt, wC, wBin, wUn, fSub_ii, fDiv_ii, fMod_ii, fPow_ii, fLt_ii, fLe_ii, fGt_ii, fGe_ii, fNeg_i, fAdd_ii, fAdd_tt, fAdd_ss, fAdd_ll, fAdd_c, fAdd_lc, fMul_ii, fMul_ti, fMul_li, fMul_ci, fMulC, lsOf, sqOf, wTest, wChain, wTAnd, wTOr, wTNot, wAndV, wOrV, wNotV, wIf, plOf, fEq, fNe, fIn, fIsN, fNotN, isNon, fFld, wFld, fIx, wNoPart, wPart, wSl, wNil, wCons, wStar, allP, allP_map, wTup, wLst, wLstC, wiSeq, wiRng1, wiRng2, wFor, wLc, wLcC, wLc2, wtYes, wiEnum, wiZip, wCB, fLen_s, fLen_t, fLen_l, fLen_c, fMax_ii, fMax_iii, fMax_l, fMin_ii, fMin_t, fMin_l, fMin_c, fSum, fAll, fAny, fList, fListC, fTuple, fSorted, fInt_i, fInt_b, fInt_s, fStr, sqF, fIsT, wIsT, tyName, kit_nt, kit_bt, kit_it, kit_st, kit_tt, kit_lt, kit_ni, kit_bi, kit_ii, kit_si, kit_ti, kit_li, kit_nb, kit_bb, kit_ib, kit_sb, kit_tb, kit_lb, wCallP0, wCallR0, wCallN0, wCallP, wCallR, wCallRf, wCallN, wMake, wMake0, wMakeC, wRaise, wNever, En.xp, enP, enR, enN, rtP, rtR, rtN, entry, List.map_cons, List.map_nil, List.cons_append, List.nil_append, List.append_nil, List.length_cons, List.length_nil, List.replicate, List.set_cons_zero, List.set_cons_succ, List.getElem?_cons_zero, List.getElem?_cons_succ, List.getElem?_nil, Option.getD_some, Option.getD_none, ite_true, ite_false, Bool.not_true, Bool.not_false, Bool.true_and, Bool.and_true, Bool.and_false, Bool.false_and, Bool.not_eq_true, Bool.false_eq_true, reduceIte, decide_eq_true_eq, atI_zero, atI_one, atI_two, atI_three, atI_four, atI_m1, wipeD, reduceCtorEq, ok_int, ok_non, ok_bl, eqv_int, ix40, ix41, ix42, ix43, Int.toNat_natCast, true_and, and_true, w_law_21]
    exact h
end DL

set_option Elab.async false
set_option linter.all false
set_option maxRecDepth 100000
set_option maxHeartbeats 4000000
namespace DL
open PySem L2 PySem.Spec PyProof.Rows
def CXa (P : Program) : CXT := fun outer H s E e s' => ∃ w, L2.CX P w outer H s E e s'
theorem anyw {P : Program} {w : World} {K : Frg} {mg : Str → Option Value} {base : Heap} {k : Nat} {f : Addr} {fd : FuncData} {ps : List Str} {sp : Sp} (F : FnOk P w K mg base (L2.CX P w) k f fd ps sp) : FnOk P w K mg base (CXa P) k f fd ps sp :=
  ⟨F.len, fun A outer s H args us vs Q E hr he hb hv hs => codeAny_mono (F.run A outer s H args us vs Q E hr he hb hv hs) fun r s' h => by
    cases r with
    | error e => exact ⟨w, h⟩
    | ok fl =>
      cases fl with
      | ret u => exact h
      | next => exact h
      | brk => exact h
      | cont => exact h⟩
theorem no_cx {P : Program} (H : Hp) (s : Shared) (e : Value) (s' : Shared) (h : CXa P [] H s (fun _ _ _ => False) e s') : False := by
  obtain ⟨w, _, _, _, _, _, _, _, _, _, _, _, _, h⟩ := h
  exact h
/-- the law's own call -/
theorem walk_w {l : PySem.W.OpenLaw} {n k : Nat} {q : Program} {loose : List Str} {XP : (Str → Option Value) → Heap → Prop} {YP : World → Heap → Prop} {d : DefRec} {x : Str}
    (hn : l.most = some n) (hn2 : n ≤ sizeLine) (hdf : d.params.defaults = []) (hr : Room k callerA)
    (F : ∀ (w : World) (mg : Str → Option Value) (fa : Addr) (h : Heap), YP w h → h.Ns mainGlobals mg → mg d.name = some (.ref fa) →
      ∃ (K : Frg) (fd : FuncData) (q : Ad), K.In h ∧ (∀ (s : Shared) (u : Value), BindsTo s fd ⟨[u], []⟩ [(x, u)]) ∧
        ∀ base : Heap, K.In base → base.Ns mainGlobals mg → FnOk l.prog w K mg base (L2.CX l.prog w) k fa fd [x] (spP K (r_law q))) :
    PySem.W.WalkO q loose XP YP l.row.toRowW d [] (fun f vs => PySem.call f vs) := by
  refine walk_ofE (x := x) (CX := CXa l.prog) hn hn2 hdf hr (fun w mg fa h Y G hm => ?_) no_cx
  obtain ⟨K, fd, q, a, b, c⟩ := F w mg fa h Y G hm
  refine ⟨K, fd, _, a, b, fun H ad ns hl _ hS => ?_, fun base h1 h2 => anyw (c base h1 h2)⟩
  refine ⟨H, [.fz (ns.map .int)], fun z => z = .bl true, fun _ _ => False, Same.refl H, .cons (.fz hS (RepA.ints ns)) .nil, ⟨ns, rfl, rfl⟩, fun v dd G' H' g r e => ?_, fun _ _ _ _ _ _ _ h => h⟩
  subst e
  cases r
  rfl
end DL

set_option Elab.async false
set_option linter.all false
set_option maxRecDepth 100000
set_option maxHeartbeats 4000000
namespace DL
open PySem L2 PySem.Spec PyProof.Rows
/-! ### the head's hook with further facts -/
abbrev AlX : Type := Bool × He.AlD
abbrev XFact : Type := Frg → Bool
def obsX (ex : List XFact) (fa : List He.Fa) (fn : List He.DefD) (K : Frg) : AlX := (ex.all fun g => g K, He.obsD fa fn K)
def valX (fn : List He.DefD) : AlX := (true, He.valD fn)
def obsXG (n : Nat) (ex : List XFact) (fa : List He.Fa) (fn : List He.DefD) (g : Addr → Option Obj) : AlX := obsX ex fa fn (He.frG g (He.asD g n))
def SaysX (ex : List XFact) (fa : List He.Fa) (fn : List He.DefD) (K : Frg) : Prop := obsX ex fa fn K = valX fn
def hookX (n : Nat) (ex : List XFact) (fa : List He.Fa) (fn : List He.DefD) : PySem.W.Hook where
  α := AlX
  obs := fun s => obsXG n ex fa fn s.heap.get?
  val := fun _ => valX fn
  says := fun _ h => ∃ K : Frg, K.In h ∧ SaysX ex fa fn K
  of := fun _ _ e => ⟨_, He.frG_in, e⟩
  keeps := fun _ _ _ ⟨K, hK, c⟩ k => ⟨K, PySem.W.Frag.In.keeps hK k, c⟩
theorem obsXG_eq {n : Nat} {ex : List XFact} {fa : List He.Fa} {fn : List He.DefD} {g : Addr → Option Obj} {s : Shared} (h : ∀ a, g a = s.heap.get? a) : obsXG n ex fa fn g = (hookX n ex fa fn).obs s := by
  have e : g = s.heap.get? := funext h
  rw [e] <;> rfl
section
variable {ex : List XFact} {fa : List He.Fa} {fn : List He.DefD} {K : Frg}
theorem SaysX.d (c : SaysX ex fa fn K) : He.SaysD fa fn K := congrArg (fun z : AlX => z.2) c
theorem SaysX.x (c : SaysX ex fa fn K) (i : Nat) {g : XFact} (h : ex[i]? = some g := by rfl) : g K = true := by
  have c1 : (ex.all fun g => g K) = true := congrArg (fun z : AlX => z.1) c
  exact List.all_eq_true.mp c1 g (List.mem_of_getElem? h)
end
/-- an error's class, asked by isinstance -/
def excCB (x : Str) : XFact := fun K => decide (PySem.W.findIn K (.ref (He.ga K x)) "__getattribute__" = some (some (.builtin "BaseException.__getattribute__"))) && (decide (PySem.W.findIn K (.ref (He.ga K x)) "__getattr__" = some none) &&
  (decide (PySem.W.subIn K (.ref (He.ga K x)) (.type "BaseException") = some true) && (PySem.W.hasDictIn K (He.ga K x) && (decide (PySem.W.findIn K (.ref (He.ga K x)) "__class__" = some (some (.builtin "object.__class__"))) &&
  (decide (PySem.W.specialIn K (.builtin "object.__class__") "__get__" = some (some (.builtin "getset_descriptor.__get__"))) && (decide (PySem.W.takesIn K (.builtin "object.__class__") = some true) && decide (PySem.W.mroIn K (He.ga K x) (.type "object") = some true)))))))
theorem excCB_ok {K : Frg} {x : Str} (h : excCB x K = true) : L2.ExcC K (He.ga K x) := by
  unfold excCB at h
  simp only [Bool.and_eq_true, decide_eq_true_eq] at h
  obtain ⟨h1, h2, h3, h4, h5, h6, h7, h8⟩ := h
  exact ⟨h1, h2, h3, h4, h5, h6, h7, h8⟩
def kitCB (x y : Str) : XFact := fun K => decide (PySem.W.kitOne K (.ref (He.ga K x)) (.ref (He.ga K y)) = some true)
theorem kitCB_ok {K : Frg} {x y : Str} (h : kitCB x y K = true) : PySem.W.kitOne K (.ref (He.ga K x)) (.ref (He.ga K y)) = some true := of_decide_eq_true h
def exmCB (x y : Str) (b : Bool) : XFact := fun K => decide (PySem.W.exmOne K (.ref (He.ga K x)) (.ref (He.ga K y)) = some b)
theorem exmCB_ok {K : Frg} {x y : Str} {b : Bool} (h : exmCB x y b K = true) : PySem.W.exmOne K (.ref (He.ga K x)) (.ref (He.ga K y)) = some b := of_decide_eq_true h
/-- all names stand for different objects -/
def ndB (xs : List Str) : XFact := fun K => decide (xs.map (He.ga K)).Nodup
theorem ndB_ok {K : Frg} {xs : List Str} (h : ndB xs K = true) : (xs.map (He.ga K)).Nodup := of_decide_eq_true h
/-- two names stand for different objects -/
def neB (x y : Str) : XFact := fun K => decide (He.ga K x ≠ He.ga K y)
theorem neB_ok {K : Frg} {x y : Str} (h : neB x y K = true) : He.ga K x ≠ He.ga K y := of_decide_eq_true h
theorem exm_eq {K : Frg} {x : Str} (h : exmCB x x true K = true) : PySem.W.exmOne K (.ref (He.ga K x)) (.ref (He.ga K x)) = some (decide (He.ga K x = He.ga K x)) := by
  rw [exmCB_ok h]
  simp
theorem exm_ne {K : Frg} {x y : Str} (h : exmCB x y false K = true) (h2 : neB x y K = true) : PySem.W.exmOne K (.ref (He.ga K x)) (.ref (He.ga K y)) = some (decide (He.ga K x = He.ga K y)) := by
  rw [exmCB_ok h]
  simp [neB_ok h2]
/-- an error's class with its own __init__ -/
def oexB (x : Str) : XFact := fun K => (match K.lookup (He.ga K x) with
  | some ⟨.type t, _, .cls cd, sl⟩ => (match sl.toList with
    | [_, _, _, _, some (.builtin n), _] => decide (t = "type") && (decide (n = "ValueError.__new__") && (decide (cd.mro.head? = some (.ref (He.ga K x))) && (PySem.HandSPX.refsVE cd.mro.tail && (cd.hasDict && !cd.hasDel))))
    | _ => false)
  | _ => false) && (decide (PySem.W.findIn K (.ref (He.ga K x)) "__setattr__" = some (some (.builtin "object.__setattr__"))) && (decide (PySem.W.subIn K (.ref (He.ga K x)) (.type "BaseException") = some true) &&
  (decide (PySem.W.typeIn K (.ref (He.ga K x)) = some (.type "type")) && PySem.W.keepIn K (.ref (He.ga K x)))))
theorem oexB_ok {K : Frg} {x : Str} (h : oexB x K = true) : OexC K (He.ga K x) := by
  unfold oexB at h
  obtain ⟨h1, h2⟩ := He.ba h
  simp only [Bool.and_eq_true, decide_eq_true_eq] at h2
  obtain ⟨h3, h4, h5, h6⟩ := h2
  refine ⟨?_, h3, h4, h5, h6⟩
  split at h1
  · rename_i t od cd sl e
    split at h1
    · rename_i k0 k1 k2 k3 n k5 es
      simp only [Bool.and_eq_true, decide_eq_true_eq, Bool.not_eq_true'] at h1
      obtain ⟨rfl, rfl, hm, hr, hd, hl⟩ := h1
      obtain ⟨nm, bs, mro, ns, qn, hdc, sn, sub, ab, col, del⟩ := cd
      dsimp only at hm hr hd hl
      subst hd hl
      cases mro with
      | nil => cases hm
      | cons m r =>
        have : m = .ref (He.ga K x) := Option.some.inj hm
        subst this
        obtain ⟨l⟩ := sl
        have es' : l = [k0, k1, k2, k3, some (.builtin "ValueError.__new__"), k5] := es
        subst es'
        exact ⟨nm, qn, ns, bs, r, sn, sub, ab, col, od, k0, k1, k2, k3, k5, e, hr⟩
    · cases h1
  · cases h1
end DL

set_option Elab.async false
set_option linter.all false
set_option maxRecDepth 100000
set_option maxHeartbeats 4000000
namespace DL
open PySem L2 PySem.Spec PyProof.Rows
/-! ### further facts: an own class asked by isinstance; an own __eq__ -/
def isCB (x : Str) : XFact := fun K => decide (PySem.W.findIn K (.ref (He.ga K x)) "__class__" = some (some (.builtin "object.__class__"))) && (decide (PySem.W.specialIn K (.builtin "object.__class__") "__get__" = some (some (.builtin "getset_descriptor.__get__"))) &&
  (decide (PySem.W.takesIn K (.builtin "object.__class__") = some true) && (decide (PySem.W.mroIn K (He.ga K x) (.type "object") = some true) && (decide (PySem.W.kitOne K (.ref (He.ga K x)) (.ref (He.ga K x)) = some true) &&
  isCNames.all fun T => decide (PySem.W.kitOne K (.type T) (.ref (He.ga K x)) = some false)))))
theorem isCB_ok {K : Frg} {x : Str} (h : isCB x K = true) (c : Cls K (He.ga K x)) : IsC K (He.ga K x) := by
  unfold isCB at h
  simp only [Bool.and_eq_true, decide_eq_true_eq, List.all_eq_true] at h
  obtain ⟨h1, h2, h3, h4, h5, h6⟩ := h
  exact ⟨c, h1, h2, h3, h4, h5, h6⟩
def OeC (K : Frg) (C : Addr) : Prop := PySem.W.findIn K (.ref C) "__eq__" = some (some (.ref (He.ma K C "__eq__"))) ∧ PySem.W.isFn K (.ref (He.ma K C "__eq__")) = true ∧
  PySem.W.findIn K (.ref C) "__ne__" = some (some (.builtin "object.__ne__")) ∧ PySem.W.mroIn K C (.type "object") = some true
def oeB (x : Str) : XFact := fun K => decide (PySem.W.findIn K (.ref (He.ga K x)) "__eq__" = some (some (.ref (He.ma K (He.ga K x) "__eq__")))) && (PySem.W.isFn K (.ref (He.ma K (He.ga K x) "__eq__")) &&
  (decide (PySem.W.findIn K (.ref (He.ga K x)) "__ne__" = some (some (.builtin "object.__ne__"))) && decide (PySem.W.mroIn K (He.ga K x) (.type "object") = some true)))
theorem oeB_ok {K : Frg} {x : Str} (h : oeB x K = true) : OeC K (He.ga K x) := by
  unfold oeB at h
  simp only [Bool.and_eq_true, decide_eq_true_eq] at h
  exact h
end DL

set_option Elab.async false
set_option linter.all false
set_option maxRecDepth 100000
set_option maxHeartbeats 4000000
namespace DL
open PySem L2 PySem.Spec PyProof.Rows
def top (i : Nat) : Stmt := PySem.Challenge.pw_looplanes_k11_steps_moved.main.body.getD i (.Pass ⟨0, 0, 0, 0⟩)
abbrev s_is_from : Stmt := top 20
abbrev s_is_step : Stmt := top 21
abbrev s_is_wait : Stmt := top 22
abbrev s_Loopz_initz : Stmt := inClass (top 23) 0
abbrev s_Loopz_eqz : Stmt := inClass (top 23) 4
abbrev s__law_draws : Stmt := top 28
abbrev s__law_pick : Stmt := top 29
abbrev s__law_loop : Stmt := top 30
abbrev s__law_made : Stmt := top 31
abbrev s_ring_rows : Stmt := top 7
abbrev s_begun : Stmt := top 9
abbrev s_rings_of : Stmt := top 8
abbrev s_sums_of : Stmt := top 10
abbrev s_rings : Stmt := top 11
abbrev s_moved : Stmt := top 26
abbrev s__law_told_there : Stmt := top 32
abbrev s_law : Stmt := top 33
structure Fx (K : Frg) (mg : Str → Option Value) (q : Ad) : Prop where
  c_Loop : Cls K q.Loop
  g_MOST_BUSY : ∃ t, mg "MOST_BUSY" = some (.int (3) t)
  g_MOST_BY : ∃ t, mg "MOST_BY" = some (.int (3) t)
  g_MOST_COUNT : ∃ t, mg "MOST_COUNT" = some (.int (3) t)
  g_MOST_KINDS : ∃ t, mg "MOST_KINDS" = some (.int (3) t)
  g_MOST_ROUNDS : ∃ t, mg "MOST_ROUNDS" = some (.int (3) t)
  g_MOST_STEPS : ∃ t, mg "MOST_STEPS" = some (.int (5) t)
  g_MOST_WAIT : ∃ t, mg "MOST_WAIT" = some (.int (6) t)
  g_MOST_WAITS : ∃ t, mg "MOST_WAITS" = some (.int (10) t)
  e_BadMove : ExcF K mg "BadMove" q.BadMove [.type "ValueError", .type "Exception", .type "BaseException", .type "object"]
  xc_BadMove : L2.ExcC K q.BadMove ∧ PySem.W.kitOne K (.ref q.BadMove) (.ref q.LoopError) = some true
  xm_BadMove_BadMove : PySem.W.exmOne K (.ref q.BadMove) (.ref q.BadMove) = some (decide (q.BadMove = q.BadMove))
  f_all : mg "all" = none
  f_bool : mg "bool" = none
  f_enumerate : mg "enumerate" = none
  f_int : mg "int" = none
  f_isinstance : mg "isinstance" = none
  f_len : mg "len" = none
  f_list : mg "list" = none
  f_max : mg "max" = none
  f_range : mg "range" = none
  f_sorted : mg "sorted" = none
  f_sum : mg "sum" = none
  f_tuple : mg "tuple" = none
  m_BadMove : mg "BadMove" = some (.ref q.BadMove)
  m_Loop : mg "Loop" = some (.ref q.Loop)
  m_LoopError : mg "LoopError" = some (.ref q.LoopError)
  ic_Loop : IsC K q.Loop
  k_Loop : mg "Loop" = some (.ref q.Loop) ∧ Mk K q.Loop (He.ma K q.Loop "__init__")
  n_Loop_bars : NoAttr K q.Loop "bars"
  n_Loop_counts : NoAttr K q.Loop "counts"
  n_Loop_rows : NoAttr K q.Loop "rows"
  oe_Loop : OeC K q.Loop
section
variable {P : Program} {w : World} {K : Frg} {mg : Str → Option Value} {base : Heap} {q : Ad} {f : Addr} {fd : FuncData}
theorem sc_is_from : FnScope n_is_from ["value", "low", "high"] (defScope s_is_from) := ⟨rfl, rfl, rfl, by decide +kernel, rfl, by decide +kernel, by decide +kernel⟩
theorem b_is_from (F : Fx K mg q) : BodyOk P w K mg base n_is_from "is_from" (defScope s_is_from) f (1 - 1) (defBody s_is_from) (w_is_from q) := by
  intro cdv A outer s H E hr
  have hN : List.Nodup n_is_from := sc_is_from.nd
  have hu : (A.deeper (envOfC "is_from" (defScope s_is_from) s.heap.objs.size f cdv)).units + 64 < cLine := hr.units
  have hu1 : (A.deeper (envOfC "is_from" (defScope s_is_from) s.heap.objs.size f cdv)).units + 65 < cLine := by have := hr.un; omega
  have tk : Takes (cxOf (L2.CX P w) P w K mg base n_is_from "is_from" (defScope s_is_from) f cdv A outer s H E) (fun cls d _ H => E cls d H) := takes_of rfl rfl rfl rfl
  have hx : ∀ σ, PassesAt (L2.CX P w) (cxOf (L2.CX P w) P w K mg base n_is_from "is_from" (defScope s_is_from) f cdv A outer s H E) σ (L2.WE (fun cls d _ H => E cls d H) σ) := fun σ => passAt tk σ
  have hp : PassesOwn (model P w) (cxOf (L2.CX P w) P w K mg base n_is_from "is_from" (defScope s_is_from) f cdv A outer s H E).A (cxOf (L2.CX P w) P w K mg base n_is_from "is_from" (defScope s_is_from) f cdv A outer s H E).env (cxOf (L2.CX P w) P w K mg base n_is_from "is_from" (defScope s_is_from) f cdv A outer s H E).xe := passes_of rfl
  unfold w_is_from
  unfold w_is_from_1
  refine dss_one ?_
  refine ds_ret ?_
  refine de_and ?_ ?_
  · refine de_isT "int" F.f_isinstance F.f_int ?_
    exact (dv 0)
  · refine de_and ?_ ?_
    · refine de_not ?_
      refine de_isT "bool" F.f_isinstance F.f_bool ?_
      exact (dv 0)
    · refine de_one ?_
      refine de_chain op_le so_le op_le so_le ?_ ?_ ?_
      · exact (dv 1)
      · exact (dv 0)
      · exact (dv 2)
theorem f_is_from (Fd : FunD K "is_from" "is_from" (defArgs s_is_from) (defBody s_is_from) (defScope s_is_from) [] [] f fd) (F : Fx K mg q) : FnOk P w K mg base (L2.CX P w) 1 f fd ["value", "low", "high"] (spP K (r_is_from q)) :=
  fn_p _ Fd sc_is_from (by
    intro args P Xp h
    first
      | (unfold r_is_from at h; split at h <;> first | rfl | exact h.elim)
      | (obtain ⟨_, rfl, _⟩ := h; rfl)
      | (obtain ⟨_, _, rfl, _⟩ := h; rfl)
      | (obtain ⟨_, _, _, rfl, _⟩ := h; rfl)
      | (obtain ⟨_, _, _, _, rfl, _⟩ := h; rfl)) (b_is_from F) z_is_from
theorem kk_is_from (Fd : FunD K "is_from" "is_from" (defArgs s_is_from) (defBody s_is_from) (defScope s_is_from) [] [] f fd) (hm : mg "is_from" = some (.ref f)) (F : Fx K mg q) : Cal P w K mg base "is_from" 1 ["value", "low", "high"] (spP K (r_is_from q)) :=
  cal Fd (f_is_from Fd F) hm (fun _ _ _ _ _ _ us hl => match us, hl with | [_, _, _], _ => rfl)
theorem sc_is_step : FnScope n_is_step ["kinds", "value"] (defScope s_is_step) := ⟨rfl, rfl, rfl, by decide +kernel, rfl, by decide +kernel, by decide +kernel⟩
theorem b_is_step (F : Fx K mg q) (k_is_from : Cal P w K mg base "is_from" 1 ["value", "low", "high"] (spP K (r_is_from q))) : BodyOk P w K mg base n_is_step "is_step" (defScope s_is_step) f (2 - 1) (defBody s_is_step) (w_is_step q) := by
  intro cdv A outer s H E hr
  have hN : List.Nodup n_is_step := sc_is_step.nd
  have hu : (A.deeper (envOfC "is_step" (defScope s_is_step) s.heap.objs.size f cdv)).units + 64 < cLine := hr.units
  have hu1 : (A.deeper (envOfC "is_step" (defScope s_is_step) s.heap.objs.size f cdv)).units + 65 < cLine := by have := hr.un; omega
  have tk : Takes (cxOf (L2.CX P w) P w K mg base n_is_step "is_step" (defScope s_is_step) f cdv A outer s H E) (fun cls d _ H => E cls d H) := takes_of rfl rfl rfl rfl
  have hx : ∀ σ, PassesAt (L2.CX P w) (cxOf (L2.CX P w) P w K mg base n_is_step "is_step" (defScope s_is_step) f cdv A outer s H E) σ (L2.WE (fun cls d _ H => E cls d H) σ) := fun σ => passAt tk σ
  have hp : PassesOwn (model P w) (cxOf (L2.CX P w) P w K mg base n_is_step "is_step" (defScope s_is_step) f cdv A outer s H E).A (cxOf (L2.CX P w) P w K mg base n_is_step "is_step" (defScope s_is_step) f cdv A outer s H E).env (cxOf (L2.CX P w) P w K mg base n_is_step "is_step" (defScope s_is_step) f cdv A outer s H E).xe := passes_of rfl
  unfold w_is_step
  unfold w_is_step_3
  refine dss_cons ?_ ?_
  · refine ds_if ?_ ?_ ?_
    · refine dt_w ?_
      refine dw_or ?_ ?_
      · refine dt_not ?_
        refine dt_val ?_
        refine de_isT "tuple" F.f_isinstance F.f_tuple ?_
        exact (dv 1)
      · refine dw_or ?_ ?_
        · refine dt_ne hu ?_ ?_
          · refine de_len F.f_len ?_
            refine da_cons ?_ ?_
            · exact (dv 1)
            · exact da_nil
          · exact de_int
        · refine dw_or1 ?_
          refine dt_not ?_
          refine dt_val ?_
          refine de_callP0 k_is_from (hr.mono (by decide)) ?_
          refine da_cons ?_ ?_
          · refine de_ix ?_ ?_
            · exact (dv 1)
            · exact de_int
          · refine da_cons ?_ ?_
            · exact de_int
            · refine da_cons ?_ ?_
              · refine de_sub ?_ ?_
                · exact (dv 0)
                · exact de_int
              · exact da_nil
    · unfold w_is_step_1
      refine dss_one ?_
      refine ds_ret ?_
      exact de_bl
    · exact dss_nil
  · unfold w_is_step_2
    refine dss_one ?_
    refine ds_ret ?_
    refine de_callP0 k_is_from (hr.mono (by decide)) ?_
    refine da_cons ?_ ?_
    · refine de_ix ?_ ?_
      · exact (dv 1)
      · exact de_int
    · refine da_cons ?_ ?_
      · exact de_int
      · refine da_cons ?_ ?_
        · exact de_globX F.g_MOST_BUSY
        · exact da_nil
theorem f_is_step (Fd : FunD K "is_step" "is_step" (defArgs s_is_step) (defBody s_is_step) (defScope s_is_step) [] [] f fd) (F : Fx K mg q) (k_is_from : Cal P w K mg base "is_from" 1 ["value", "low", "high"] (spP K (r_is_from q))) : FnOk P w K mg base (L2.CX P w) 2 f fd ["kinds", "value"] (spP K (r_is_step q)) :=
  fn_p _ Fd sc_is_step (by
    intro args P Xp h
    first
      | (unfold r_is_step at h; split at h <;> first | rfl | exact h.elim)
      | (obtain ⟨_, rfl, _⟩ := h; rfl)
      | (obtain ⟨_, _, rfl, _⟩ := h; rfl)
      | (obtain ⟨_, _, _, rfl, _⟩ := h; rfl)
      | (obtain ⟨_, _, _, _, rfl, _⟩ := h; rfl)) (b_is_step F k_is_from) z_is_step
theorem kk_is_step (Fd : FunD K "is_step" "is_step" (defArgs s_is_step) (defBody s_is_step) (defScope s_is_step) [] [] f fd) (hm : mg "is_step" = some (.ref f)) (F : Fx K mg q) (k_is_from : Cal P w K mg base "is_from" 1 ["value", "low", "high"] (spP K (r_is_from q))) : Cal P w K mg base "is_step" 2 ["kinds", "value"] (spP K (r_is_step q)) :=
  cal Fd (f_is_step Fd F k_is_from) hm (fun _ _ _ _ _ _ us hl => match us, hl with | [_, _], _ => rfl)
theorem sc_is_wait : FnScope n_is_wait ["many", "value"] (defScope s_is_wait) := ⟨rfl, rfl, rfl, by decide +kernel, rfl, by decide +kernel, by decide +kernel⟩
theorem b_is_wait (F : Fx K mg q) (k_is_from : Cal P w K mg base "is_from" 1 ["value", "low", "high"] (spP K (r_is_from q))) : BodyOk P w K mg base n_is_wait "is_wait" (defScope s_is_wait) f (2 - 1) (defBody s_is_wait) (w_is_wait q) := by
  intro cdv A outer s H E hr
  have hN : List.Nodup n_is_wait := sc_is_wait.nd
  have hu : (A.deeper (envOfC "is_wait" (defScope s_is_wait) s.heap.objs.size f cdv)).units + 64 < cLine := hr.units
  have hu1 : (A.deeper (envOfC "is_wait" (defScope s_is_wait) s.heap.objs.size f cdv)).units + 65 < cLine := by have := hr.un; omega
  have tk : Takes (cxOf (L2.CX P w) P w K mg base n_is_wait "is_wait" (defScope s_is_wait) f cdv A outer s H E) (fun cls d _ H => E cls d H) := takes_of rfl rfl rfl rfl
  have hx : ∀ σ, PassesAt (L2.CX P w) (cxOf (L2.CX P w) P w K mg base n_is_wait "is_wait" (defScope s_is_wait) f cdv A outer s H E) σ (L2.WE (fun cls d _ H => E cls d H) σ) := fun σ => passAt tk σ
  have hp : PassesOwn (model P w) (cxOf (L2.CX P w) P w K mg base n_is_wait "is_wait" (defScope s_is_wait) f cdv A outer s H E).A (cxOf (L2.CX P w) P w K mg base n_is_wait "is_wait" (defScope s_is_wait) f cdv A outer s H E).env (cxOf (L2.CX P w) P w K mg base n_is_wait "is_wait" (defScope s_is_wait) f cdv A outer s H E).xe := passes_of rfl
  unfold w_is_wait
  unfold w_is_wait_3
  refine dss_cons ?_ ?_
  · refine ds_if ?_ ?_ ?_
    · refine dt_w ?_
      refine dw_or ?_ ?_
      · refine dt_not ?_
        refine dt_val ?_
        refine de_isT "tuple" F.f_isinstance F.f_tuple ?_
        exact (dv 1)
      · refine dw_or ?_ ?_
        · refine dt_ne hu ?_ ?_
          · refine de_len F.f_len ?_
            refine da_cons ?_ ?_
            · exact (dv 1)
            · exact da_nil
          · exact de_int
        · refine dw_or1 ?_
          refine dt_not ?_
          refine dt_val ?_
          refine de_all rfl F.f_all ?_
          refine da_cons ?_ ?_
          · refine de_lc [("one", 2)] rfl hN ?_ (by show BlkOk n_is_wait (defScope s_is_wait) _ _; exact ⟨rfl, by decide +kernel, by decide +kernel, by decide +kernel, by decide +kernel⟩) ?_ ?_ ?_
            · refine di_seq ?_
              refine de_sl ?_ ?_ ?_
              · exact (dv 1)
              · exact do_none
              · refine do_some ?_
                exact de_int
            · intro _ _ _ _ _
              exact dg_name hN
            · intro _ _ _ _ _
              exact dts_nil
            · intro _ _ _ _ _
              refine de_callP0 k_is_from (hr.mono (by decide)) ?_
              refine da_cons ?_ ?_
              · exact (dv 2)
              · refine da_cons ?_ ?_
                · exact de_int
                · refine da_cons ?_ ?_
                  · refine de_sub ?_ ?_
                    · exact (dv 0)
                    · exact de_int
                  · exact da_nil
          · exact da_nil
    · unfold w_is_wait_1
      refine dss_one ?_
      refine ds_ret ?_
      exact de_bl
    · exact dss_nil
  · unfold w_is_wait_2
    refine dss_one ?_
    refine ds_ret ?_
    refine de_and ?_ ?_
    · refine de_callP0 k_is_from (hr.mono (by decide)) ?_
      refine da_cons ?_ ?_
      · refine de_ix ?_ ?_
        · exact (dv 1)
        · exact de_int
      · refine da_cons ?_ ?_
        · exact de_int
        · refine da_cons ?_ ?_
          · exact de_globX F.g_MOST_WAIT
          · exact da_nil
    · refine de_one ?_
      refine de_callP0 k_is_from (hr.mono (by decide)) ?_
      refine da_cons ?_ ?_
      · refine de_ix ?_ ?_
        · exact (dv 1)
        · exact de_int
      · refine da_cons ?_ ?_
        · exact de_int
        · refine da_cons ?_ ?_
          · exact de_globX F.g_MOST_ROUNDS
          · exact da_nil
theorem f_is_wait (Fd : FunD K "is_wait" "is_wait" (defArgs s_is_wait) (defBody s_is_wait) (defScope s_is_wait) [] [] f fd) (F : Fx K mg q) (k_is_from : Cal P w K mg base "is_from" 1 ["value", "low", "high"] (spP K (r_is_from q))) : FnOk P w K mg base (L2.CX P w) 2 f fd ["many", "value"] (spP K (r_is_wait q)) :=
  fn_p _ Fd sc_is_wait (by
    intro args P Xp h
    first
      | (unfold r_is_wait at h; split at h <;> first | rfl | exact h.elim)
      | (obtain ⟨_, rfl, _⟩ := h; rfl)
      | (obtain ⟨_, _, rfl, _⟩ := h; rfl)
      | (obtain ⟨_, _, _, rfl, _⟩ := h; rfl)
      | (obtain ⟨_, _, _, _, rfl, _⟩ := h; rfl)) (b_is_wait F k_is_from) z_is_wait
theorem kk_is_wait (Fd : FunD K "is_wait" "is_wait" (defArgs s_is_wait) (defBody s_is_wait) (defScope s_is_wait) [] [] f fd) (hm : mg "is_wait" = some (.ref f)) (F : Fx K mg q) (k_is_from : Cal P w K mg base "is_from" 1 ["value", "low", "high"] (spP K (r_is_from q))) : Cal P w K mg base "is_wait" 2 ["many", "value"] (spP K (r_is_wait q)) :=
  cal Fd (f_is_wait Fd F k_is_from) hm (fun _ _ _ _ _ _ us hl => match us, hl with | [_, _], _ => rfl)
theorem sc_Loopz_initz : FnScope n_Loopz_initz ["self", "machines", "steps", "waits"] (defScope s_Loopz_initz) := ⟨rfl, rfl, rfl, by decide +kernel, rfl, by decide +kernel, by decide +kernel⟩
theorem b_Loopz_initz (F : Fx K mg q) (k_is_from : Cal P w K mg base "is_from" 1 ["value", "low", "high"] (spP K (r_is_from q))) (k_is_step : Cal P w K mg base "is_step" 2 ["kinds", "value"] (spP K (r_is_step q))) (k_is_wait : Cal P w K mg base "is_wait" 2 ["many", "value"] (spP K (r_is_wait q))) : BodyOk P w K mg base n_Loopz_initz "Loop.__init__" (defScope s_Loopz_initz) f (3 - 1) (defBody s_Loopz_initz) (w_Loopz_initz q) := by
  intro cdv A outer s H E hr
  have hN : List.Nodup n_Loopz_initz := sc_Loopz_initz.nd
  have hu : (A.deeper (envOfC "Loop.__init__" (defScope s_Loopz_initz) s.heap.objs.size f cdv)).units + 64 < cLine := hr.units
  have hu1 : (A.deeper (envOfC "Loop.__init__" (defScope s_Loopz_initz) s.heap.objs.size f cdv)).units + 65 < cLine := by have := hr.un; omega
  have tk : Takes (cxOf (L2.CX P w) P w K mg base n_Loopz_initz "Loop.__init__" (defScope s_Loopz_initz) f cdv A outer s H E) (fun cls d _ H => E cls d H) := takes_of rfl rfl rfl rfl
  have hx : ∀ σ, PassesAt (L2.CX P w) (cxOf (L2.CX P w) P w K mg base n_Loopz_initz "Loop.__init__" (defScope s_Loopz_initz) f cdv A outer s H E) σ (L2.WE (fun cls d _ H => E cls d H) σ) := fun σ => passAt tk σ
  have hp : PassesOwn (model P w) (cxOf (L2.CX P w) P w K mg base n_Loopz_initz "Loop.__init__" (defScope s_Loopz_initz) f cdv A outer s H E).A (cxOf (L2.CX P w) P w K mg base n_Loopz_initz "Loop.__init__" (defScope s_Loopz_initz) f cdv A outer s H E).env (cxOf (L2.CX P w) P w K mg base n_Loopz_initz "Loop.__init__" (defScope s_Loopz_initz) f cdv A outer s H E).xe := passes_of rfl
  unfold w_Loopz_initz
  unfold w_Loopz_initz_17
  refine dss_cons ?_ ?_
  · refine ds_if ?_ ?_ ?_
    · refine dt_w ?_
      refine dw_or ?_ ?_
      · refine dt_not ?_
        refine dt_val ?_
        refine de_isT "tuple" F.f_isinstance F.f_tuple ?_
        exact (dv 1)
      · refine dw_or1 ?_
        refine dt_not ?_
        refine dt_chain op_le so_le op_le so_le ?_ ?_ ?_
        · exact de_int
        · refine de_len F.f_len ?_
          refine da_cons ?_ ?_
          · exact (dv 1)
          · exact da_nil
        · exact de_globX F.g_MOST_KINDS
    · unfold w_Loopz_initz_1
      refine dss_one ?_
      exact ds_never
    · exact dss_nil
  · unfold w_Loopz_initz_16
    refine dss_cons ?_ ?_
    · refine ds_if ?_ ?_ ?_
      · refine dt_not ?_
        refine dt_val ?_
        refine de_all rfl F.f_all ?_
        refine da_cons ?_ ?_
        · refine de_lc [("count", 4)] rfl hN ?_ (by show BlkOk n_Loopz_initz (defScope s_Loopz_initz) _ _; exact ⟨rfl, by decide +kernel, by decide +kernel, by decide +kernel, by decide +kernel⟩) ?_ ?_ ?_
          · refine di_seq ?_
            exact (dv 1)
          · intro _ _ _ _ _
            exact dg_name hN
          · intro _ _ _ _ _
            exact dts_nil
          · intro _ _ _ _ _
            refine de_callP0 k_is_from (hr.mono (by decide)) ?_
            refine da_cons ?_ ?_
            · exact (dv 4)
            · refine da_cons ?_ ?_
              · exact de_int
              · refine da_cons ?_ ?_
                · exact de_globX F.g_MOST_COUNT
                · exact da_nil
        · exact da_nil
      · unfold w_Loopz_initz_2
        refine dss_one ?_
        exact ds_never
      · exact dss_nil
    · unfold w_Loopz_initz_15
      refine dss_cons ?_ ?_
      · refine ds_if ?_ ?_ ?_
        · refine dt_w ?_
          refine dw_or ?_ ?_
          · refine dt_not ?_
            refine dt_val ?_
            refine de_isT "tuple" F.f_isinstance F.f_tuple ?_
            exact (dv 2)
          · refine dw_or1 ?_
            refine dt_not ?_
            refine dt_chain op_le so_le op_le so_le ?_ ?_ ?_
            · exact de_int
            · refine de_len F.f_len ?_
              refine da_cons ?_ ?_
              · exact (dv 2)
              · exact da_nil
            · exact de_globX F.g_MOST_STEPS
        · unfold w_Loopz_initz_3
          refine dss_one ?_
          exact ds_never
        · exact dss_nil
      · unfold w_Loopz_initz_14
        refine dss_cons ?_ ?_
        · refine ds_for (vs := [5, 6]) hp rfl ?_ ?_ ?_
          · refine di_enum F.f_enumerate ?_
            refine da_cons ?_ ?_
            · exact (dv 2)
            · exact da_nil
          · refine dg_tup rfl ?_
            refine dgs_cons ?_ ?_
            · exact dg_name hN
            · refine dgs_cons ?_ ?_
              · exact dg_name hN
              · exact dgs_nil
          · unfold w_Loopz_initz_5
            refine dss_one ?_
            refine ds_if ?_ ?_ ?_
            · refine dt_not ?_
              refine dt_val ?_
              refine de_callP0 k_is_step (hr.mono (by decide)) ?_
              refine da_cons ?_ ?_
              · refine de_len F.f_len ?_
                refine da_cons ?_ ?_
                · exact (dv 1)
                · exact da_nil
              · refine da_cons ?_ ?_
                · exact (dv 6)
                · exact da_nil
            · unfold w_Loopz_initz_4
              refine dss_one ?_
              exact ds_never
            · exact dss_nil
        · unfold w_Loopz_initz_13
          refine dss_cons ?_ ?_
          · refine ds_if ?_ ?_ ?_
            · refine dt_w ?_
              refine dw_or ?_ ?_
              · refine dt_not ?_
                refine dt_val ?_
                refine de_isT "tuple" F.f_isinstance F.f_tuple ?_
                exact (dv 3)
              · refine dw_or1 ?_
                refine dt_gt ?_ ?_
                · refine de_len F.f_len ?_
                  refine da_cons ?_ ?_
                  · exact (dv 3)
                  · exact da_nil
                · exact de_globX F.g_MOST_WAITS
            · unfold w_Loopz_initz_6
              refine dss_one ?_
              exact ds_never
            · exact dss_nil
          · unfold w_Loopz_initz_12
            refine dss_cons ?_ ?_
            · refine ds_for (vs := [5, 7]) hp rfl ?_ ?_ ?_
              · refine di_enum F.f_enumerate ?_
                refine da_cons ?_ ?_
                · exact (dv 3)
                · exact da_nil
              · refine dg_tup rfl ?_
                refine dgs_cons ?_ ?_
                · exact dg_name hN
                · refine dgs_cons ?_ ?_
                  · exact dg_name hN
                  · exact dgs_nil
              · unfold w_Loopz_initz_8
                refine dss_one ?_
                refine ds_if ?_ ?_ ?_
                · refine dt_w ?_
                  refine dw_or ?_ ?_
                  · refine dt_not ?_
                    refine dt_val ?_
                    refine de_callP0 k_is_wait (hr.mono (by decide)) ?_
                    refine da_cons ?_ ?_
                    · refine de_len F.f_len ?_
                      refine da_cons ?_ ?_
                      · exact (dv 2)
                      · exact da_nil
                    · refine da_cons ?_ ?_
                      · exact (dv 7)
                      · exact da_nil
                  · refine dw_or1 ?_
                    refine dt_in hu1 ?_ ?_
                    · exact (dv 7)
                    · refine de_sl ?_ ?_ ?_
                      · exact (dv 3)
                      · exact do_none
                      · refine do_some ?_
                        exact (dv 5)
                · unfold w_Loopz_initz_7
                  refine dss_one ?_
                  exact ds_never
                · exact dss_nil
            · unfold w_Loopz_initz_11
              refine dss_cons ?_ ?_
              · refine ds_fld F.c_Loop F.n_Loop_counts ?_ ?_
                · exact (dv 0)
                · exact (dv 1)
              · unfold w_Loopz_initz_10
                refine dss_cons ?_ ?_
                · refine ds_fld F.c_Loop F.n_Loop_rows ?_ ?_
                  · exact (dv 0)
                  · exact (dv 2)
                · unfold w_Loopz_initz_9
                  refine dss_one ?_
                  refine ds_fld F.c_Loop F.n_Loop_bars ?_ ?_
                  · exact (dv 0)
                  · exact (dv 3)
theorem f_Loopz_initz (Fd : FunD K "__init__" "Loop.__init__" (defArgs s_Loopz_initz) (defBody s_Loopz_initz) (defScope s_Loopz_initz) [] [] f fd) (F : Fx K mg q) (k_is_from : Cal P w K mg base "is_from" 1 ["value", "low", "high"] (spP K (r_is_from q))) (k_is_step : Cal P w K mg base "is_step" 2 ["kinds", "value"] (spP K (r_is_step q))) (k_is_wait : Cal P w K mg base "is_wait" 2 ["many", "value"] (spP K (r_is_wait q))) : FnOk P w K mg base (L2.CX P w) 3 f fd ["self", "machines", "steps", "waits"] (spR K (r_Loopz_initz q)) :=
  fn_r _ Fd sc_Loopz_initz (by
    intro m args P Xp h
    first
      | (obtain ⟨_, h⟩ := h; split at h <;> first | rfl | exact h.elim)
      | (obtain ⟨_, rfl, _⟩ := h; rfl)
      | (obtain ⟨_, _, rfl, _⟩ := h; rfl)
      | (obtain ⟨_, _, _, rfl, _⟩ := h; rfl)
      | (obtain ⟨_, _, _, _, rfl, _⟩ := h; rfl)) (b_Loopz_initz F k_is_from k_is_step k_is_wait) z_Loopz_initz
theorem kk_Loop (Fd : FunD K "__init__" "Loop.__init__" (defArgs s_Loopz_initz) (defBody s_Loopz_initz) (defScope s_Loopz_initz) [] [] (He.ma K q.Loop "__init__") fd) (F : Fx K mg q) (k_is_from : Cal P w K mg base "is_from" 1 ["value", "low", "high"] (spP K (r_is_from q))) (k_is_step : Cal P w K mg base "is_step" 2 ["kinds", "value"] (spP K (r_is_step q))) (k_is_wait : Cal P w K mg base "is_wait" 2 ["many", "value"] (spP K (r_is_wait q))) : Mak P w K mg base "Loop" q.Loop 3 ["self", "machines", "steps", "waits"] (spR K (r_Loopz_initz q)) :=
  ⟨_, fd, F.k_Loop.2, f_Loopz_initz Fd F k_is_from k_is_step k_is_wait, F.k_Loop.1, Fd.bindsN (fun _ _ _ _ _ _ us hl => match us, hl with | [_, _, _, _], _ => rfl)⟩
theorem sc_Loopz_eqz : FnScope n_Loopz_eqz ["self", "other"] (defScope s_Loopz_eqz) := ⟨rfl, rfl, rfl, by decide +kernel, rfl, by decide +kernel, by decide +kernel⟩
theorem b_Loopz_eqz (F : Fx K mg q) : BodyOk P w K mg base n_Loopz_eqz "Loop.__eq__" (defScope s_Loopz_eqz) f (1 - 1) (defBody s_Loopz_eqz) (w_Loopz_eqz q) := by
  intro cdv A outer s H E hr
  have hN : List.Nodup n_Loopz_eqz := sc_Loopz_eqz.nd
  have hu : (A.deeper (envOfC "Loop.__eq__" (defScope s_Loopz_eqz) s.heap.objs.size f cdv)).units + 64 < cLine := hr.units
  have hu1 : (A.deeper (envOfC "Loop.__eq__" (defScope s_Loopz_eqz) s.heap.objs.size f cdv)).units + 65 < cLine := by have := hr.un; omega
  have tk : Takes (cxOf (L2.CX P w) P w K mg base n_Loopz_eqz "Loop.__eq__" (defScope s_Loopz_eqz) f cdv A outer s H E) (fun cls d _ H => E cls d H) := takes_of rfl rfl rfl rfl
  have hx : ∀ σ, PassesAt (L2.CX P w) (cxOf (L2.CX P w) P w K mg base n_Loopz_eqz "Loop.__eq__" (defScope s_Loopz_eqz) f cdv A outer s H E) σ (L2.WE (fun cls d _ H => E cls d H) σ) := fun σ => passAt tk σ
  have hp : PassesOwn (model P w) (cxOf (L2.CX P w) P w K mg base n_Loopz_eqz "Loop.__eq__" (defScope s_Loopz_eqz) f cdv A outer s H E).A (cxOf (L2.CX P w) P w K mg base n_Loopz_eqz "Loop.__eq__" (defScope s_Loopz_eqz) f cdv A outer s H E).env (cxOf (L2.CX P w) P w K mg base n_Loopz_eqz "Loop.__eq__" (defScope s_Loopz_eqz) f cdv A outer s H E).xe := passes_of rfl
  unfold w_Loopz_eqz
  unfold w_Loopz_eqz_3
  refine dss_cons ?_ ?_
  · refine ds_if ?_ ?_ ?_
    · refine dt_w ?_
      refine dw_or ?_ ?_
      · refine dt_not ?_
        refine dt_val ?_
        refine de_isC F.f_isinstance F.m_Loop F.ic_Loop ?_
        exact (dv 1)
      · refine dw_or1 ?_
        refine dt_ne hu ?_ ?_
        · refine de_fld F.c_Loop F.n_Loop_counts ?_
          exact (dv 0)
        · refine de_fld F.c_Loop F.n_Loop_counts ?_
          exact (dv 1)
    · unfold w_Loopz_eqz_1
      refine dss_one ?_
      refine ds_ret ?_
      exact de_bl
    · exact dss_nil
  · unfold w_Loopz_eqz_2
    refine dss_one ?_
    refine ds_ret ?_
    refine de_and ?_ ?_
    · refine de_eq hu ?_ ?_
      · refine de_fld F.c_Loop F.n_Loop_rows ?_
        exact (dv 0)
      · refine de_fld F.c_Loop F.n_Loop_rows ?_
        exact (dv 1)
    · refine de_one ?_
      refine de_eq hu ?_ ?_
      · refine de_fld F.c_Loop F.n_Loop_bars ?_
        exact (dv 0)
      · refine de_fld F.c_Loop F.n_Loop_bars ?_
        exact (dv 1)
theorem f_Loopz_eqz (Fd : FunD K "__eq__" "Loop.__eq__" (defArgs s_Loopz_eqz) (defBody s_Loopz_eqz) (defScope s_Loopz_eqz) [] [] f fd) (F : Fx K mg q) : FnOk P w K mg base (L2.CX P w) 1 f fd ["self", "other"] (spP K (r_Loopz_eqz q)) :=
  fn_p _ Fd sc_Loopz_eqz (by
    intro args P Xp h
    first
      | (unfold r_Loopz_eqz at h; split at h <;> first | rfl | exact h.elim)
      | (obtain ⟨_, rfl, _⟩ := h; rfl)
      | (obtain ⟨_, _, rfl, _⟩ := h; rfl)
      | (obtain ⟨_, _, _, rfl, _⟩ := h; rfl)
      | (obtain ⟨_, _, _, _, rfl, _⟩ := h; rfl)) (b_Loopz_eqz F) z_Loopz_eqz
theorem kk_Loopz_eqz (Fd : FunD K "__eq__" "Loop.__eq__" (defArgs s_Loopz_eqz) (defBody s_Loopz_eqz) (defScope s_Loopz_eqz) [] [] (He.ma K q.Loop "__eq__") fd) (F : Fx K mg q) : OwnE P w K mg base q.Loop 1 ["self", "other"] (spP K (r_Loopz_eqz q)) :=
  ⟨⟨_, fd, f_Loopz_eqz Fd F, F.oe_Loop.1, F.oe_Loop.2.1, Fd.bindsN (fun _ _ _ _ _ _ us hl => match us, hl with | [_, _], _ => rfl)⟩, F.oe_Loop.2.2.1, F.oe_Loop.2.2.2⟩
theorem sc__law_draws : FnScope n__law_draws ["_law_script"] (defScope s__law_draws) := ⟨rfl, rfl, rfl, by decide +kernel, rfl, by decide +kernel, by decide +kernel⟩
theorem b__law_draws (F : Fx K mg q) : BodyOk P w K mg base n__law_draws "_law_draws" (defScope s__law_draws) f (1 - 1) (defBody s__law_draws) (w__law_draws q) := by
  intro cdv A outer s H E hr
  have hN : List.Nodup n__law_draws := sc__law_draws.nd
  have hu : (A.deeper (envOfC "_law_draws" (defScope s__law_draws) s.heap.objs.size f cdv)).units + 64 < cLine := hr.units
  have hu1 : (A.deeper (envOfC "_law_draws" (defScope s__law_draws) s.heap.objs.size f cdv)).units + 65 < cLine := by have := hr.un; omega
  have tk : Takes (cxOf (L2.CX P w) P w K mg base n__law_draws "_law_draws" (defScope s__law_draws) f cdv A outer s H E) (fun cls d _ H => E cls d H) := takes_of rfl rfl rfl rfl
  have hx : ∀ σ, PassesAt (L2.CX P w) (cxOf (L2.CX P w) P w K mg base n__law_draws "_law_draws" (defScope s__law_draws) f cdv A outer s H E) σ (L2.WE (fun cls d _ H => E cls d H) σ) := fun σ => passAt tk σ
  have hp : PassesOwn (model P w) (cxOf (L2.CX P w) P w K mg base n__law_draws "_law_draws" (defScope s__law_draws) f cdv A outer s H E).A (cxOf (L2.CX P w) P w K mg base n__law_draws "_law_draws" (defScope s__law_draws) f cdv A outer s H E).env (cxOf (L2.CX P w) P w K mg base n__law_draws "_law_draws" (defScope s__law_draws) f cdv A outer s H E).xe := passes_of rfl
  unfold w__law_draws
  unfold w__law_draws_1
  refine dss_one ?_
  refine ds_ret ?_
  refine de_lstC ?_
  refine da_cons ?_ ?_
  · refine de_list F.f_list ?_
    refine da_cons ?_ ?_
    · exact (dv 0)
    · exact da_nil
  · refine da_cons ?_ ?_
    · exact de_int
    · refine da_cons ?_ ?_
      · exact de_int
      · refine da_cons ?_ ?_
        · exact de_int
        · exact da_nil
theorem f__law_draws (Fd : FunD K "_law_draws" "_law_draws" (defArgs s__law_draws) (defBody s__law_draws) (defScope s__law_draws) [] [] f fd) (F : Fx K mg q) : FnOk P w K mg base (L2.CX P w) 1 f fd ["_law_script"] (spN K (r__law_draws q)) :=
  fn_n _ Fd sc__law_draws (by
    intro args P Xp h
    first
      | (unfold r__law_draws at h; split at h <;> first | rfl | exact h.elim)
      | (obtain ⟨_, rfl, _⟩ := h; rfl)
      | (obtain ⟨_, _, rfl, _⟩ := h; rfl)
      | (obtain ⟨_, _, _, rfl, _⟩ := h; rfl)
      | (obtain ⟨_, _, _, _, rfl, _⟩ := h; rfl)) (b__law_draws F) z__law_draws
theorem kk__law_draws (Fd : FunD K "_law_draws" "_law_draws" (defArgs s__law_draws) (defBody s__law_draws) (defScope s__law_draws) [] [] f fd) (hm : mg "_law_draws" = some (.ref f)) (F : Fx K mg q) : Cal P w K mg base "_law_draws" 1 ["_law_script"] (spN K (r__law_draws q)) :=
  cal Fd (f__law_draws Fd F) hm (fun _ _ _ _ _ _ us hl => match us, hl with | [_], _ => rfl)
theorem sc__law_pick : FnScope n__law_pick ["_law_row", "_law_many"] (defScope s__law_pick) := ⟨rfl, rfl, rfl, by decide +kernel, rfl, by decide +kernel, by decide +kernel⟩
theorem b__law_pick (F : Fx K mg q) : BodyOk P w K mg base n__law_pick "_law_pick" (defScope s__law_pick) f (1 - 1) (defBody s__law_pick) (w__law_pick q) := by
  intro cdv A outer s H E hr
  have hN : List.Nodup n__law_pick := sc__law_pick.nd
  have hu : (A.deeper (envOfC "_law_pick" (defScope s__law_pick) s.heap.objs.size f cdv)).units + 64 < cLine := hr.units
  have hu1 : (A.deeper (envOfC "_law_pick" (defScope s__law_pick) s.heap.objs.size f cdv)).units + 65 < cLine := by have := hr.un; omega
  have tk : Takes (cxOf (L2.CX P w) P w K mg base n__law_pick "_law_pick" (defScope s__law_pick) f cdv A outer s H E) (fun cls d _ H => E cls d H) := takes_of rfl rfl rfl rfl
  have hx : ∀ σ, PassesAt (L2.CX P w) (cxOf (L2.CX P w) P w K mg base n__law_pick "_law_pick" (defScope s__law_pick) f cdv A outer s H E) σ (L2.WE (fun cls d _ H => E cls d H) σ) := fun σ => passAt tk σ
  have hp : PassesOwn (model P w) (cxOf (L2.CX P w) P w K mg base n__law_pick "_law_pick" (defScope s__law_pick) f cdv A outer s H E).A (cxOf (L2.CX P w) P w K mg base n__law_pick "_law_pick" (defScope s__law_pick) f cdv A outer s H E).env (cxOf (L2.CX P w) P w K mg base n__law_pick "_law_pick" (defScope s__law_pick) f cdv A outer s H E).xe := passes_of rfl
  unfold w__law_pick
  unfold w__law_pick_13
  refine dss_cons ?_ ?_
  · refine ds_if ?_ ?_ ?_
    · refine dt_eq hu ?_ ?_
      · refine de_ix ?_ ?_
        · exact (dv 0)
        · exact de_int
      · exact de_int
    · unfold w__law_pick_7
      refine dss_one ?_
      refine ds_if ?_ ?_ ?_
      · refine dt_lt ?_ ?_
        · refine de_ix ?_ ?_
          · exact (dv 0)
          · exact de_int
        · refine de_len F.f_len ?_
          refine da_cons ?_ ?_
          · refine de_ix ?_ ?_
            · exact (dv 0)
            · exact de_int
          · exact da_nil
      · unfold w__law_pick_5
        refine dss_cons ?_ ?_
        · refine ds_set (i := 2) hN ?_
          refine de_ix ?_ ?_
          · refine de_ix ?_ ?_
            · exact (dv 0)
            · exact de_int
          · refine de_ix ?_ ?_
            · exact (dv 0)
            · exact de_int
        · unfold w__law_pick_4
          refine dss_cons ?_ ?_
          · refine ds_subL ?_ ?_ ?_
            · refine de_add ?_ ?_
              · refine de_ix ?_ ?_
                · exact (dv 0)
                · exact de_int
              · exact de_int
            · exact (dv 0)
            · exact de_int
          · unfold w__law_pick_3
            refine dss_one ?_
            refine ds_if ?_ ?_ ?_
            · refine dt_ge ?_ ?_
              · exact (dv 2)
              · refine de_pow ?_ ?_
                · exact de_int
                · exact de_int
            · unfold w__law_pick_1
              refine dss_one ?_
              refine ds_subL ?_ ?_ ?_
              · exact (dv 2)
              · exact (dv 0)
              · exact de_int
            · unfold w__law_pick_2
              refine dss_one ?_
              refine ds_subL ?_ ?_ ?_
              · refine de_mod ?_ ?_
                · refine de_cint F.f_int ?_
                  refine da_cons ?_ ?_
                  · refine de_add ?_ ?_
                    · refine de_add ?_ ?_
                      · refine de_mul ?_ ?_
                        · refine de_ix ?_ ?_
                          · exact (dv 0)
                          · exact de_int
                        · exact de_int
                      · refine de_mul ?_ ?_
                        · exact (dv 2)
                        · exact de_int
                    · exact de_int
                  · exact da_nil
                · exact de_int
              · exact (dv 0)
              · exact de_int
      · unfold w__law_pick_6
        refine dss_one ?_
        refine ds_subL ?_ ?_ ?_
        · refine de_mod ?_ ?_
          · refine de_cint F.f_int ?_
            refine da_cons ?_ ?_
            · refine de_add ?_ ?_
              · refine de_mul ?_ ?_
                · refine de_ix ?_ ?_
                  · exact (dv 0)
                  · exact de_int
                · exact de_int
              · exact de_int
            · exact da_nil
          · exact de_int
        · exact (dv 0)
        · exact de_int
    · exact dss_nil
  · unfold w__law_pick_12
    refine dss_cons ?_ ?_
    · refine ds_if ?_ ?_ ?_
      · refine dt_gt ?_ ?_
        · refine de_ix ?_ ?_
          · exact (dv 0)
          · exact de_int
        · exact de_int
      · unfold w__law_pick_10
        refine dss_cons ?_ ?_
        · refine ds_set (i := 3) hN ?_
          refine de_mod ?_ ?_
          · refine de_cint F.f_int ?_
            refine da_cons ?_ ?_
            · refine de_ix ?_ ?_
              · exact (dv 0)
              · exact de_int
            · exact da_nil
          · exact (dv 1)
        · unfold w__law_pick_9
          refine dss_cons ?_ ?_
          · refine ds_subL ?_ ?_ ?_
            · refine de_div ?_ ?_
              · refine de_ix ?_ ?_
                · exact (dv 0)
                · exact de_int
              · exact (dv 1)
            · exact (dv 0)
            · exact de_int
          · unfold w__law_pick_8
            refine dss_one ?_
            refine ds_ret ?_
            exact (dv 3)
      · exact dss_nil
    · unfold w__law_pick_11
      refine dss_one ?_
      refine ds_ret ?_
      refine de_mod ?_ ?_
      · refine de_mod ?_ ?_
        · refine de_cint F.f_int ?_
          refine da_cons ?_ ?_
          · refine de_mul ?_ ?_
            · refine de_ix ?_ ?_
              · exact (dv 0)
              · exact de_int
            · exact de_int
          · exact da_nil
        · exact de_int
      · exact (dv 1)
theorem f__law_pick (Fd : FunD K "_law_pick" "_law_pick" (defArgs s__law_pick) (defBody s__law_pick) (defScope s__law_pick) [] [] f fd) (F : Fx K mg q) : FnOk P w K mg base (L2.CX P w) 1 f fd ["_law_row", "_law_many"] (spR K (r__law_pick q)) :=
  fn_r _ Fd sc__law_pick (by
    intro m args P Xp h
    first
      | (obtain ⟨_, h⟩ := h; split at h <;> first | rfl | exact h.elim)
      | (obtain ⟨_, rfl, _⟩ := h; rfl)
      | (obtain ⟨_, _, rfl, _⟩ := h; rfl)
      | (obtain ⟨_, _, _, rfl, _⟩ := h; rfl)
      | (obtain ⟨_, _, _, _, rfl, _⟩ := h; rfl)) (b__law_pick F) z__law_pick
theorem kk__law_pick (Fd : FunD K "_law_pick" "_law_pick" (defArgs s__law_pick) (defBody s__law_pick) (defScope s__law_pick) [] [] f fd) (hm : mg "_law_pick" = some (.ref f)) (F : Fx K mg q) : Cal P w K mg base "_law_pick" 1 ["_law_row", "_law_many"] (spR K (r__law_pick q)) :=
  cal Fd (f__law_pick Fd F) hm (fun _ _ _ _ _ _ us hl => match us, hl with | [_, _], _ => rfl)
theorem sc__law_loop : FnScope n__law_loop ["_law_row", "_law_most", "_law_waits"] (defScope s__law_loop) := ⟨rfl, rfl, rfl, by decide +kernel, rfl, by decide +kernel, by decide +kernel⟩
theorem b__law_loop (F : Fx K mg q) (k__law_pick : Cal P w K mg base "_law_pick" 1 ["_law_row", "_law_many"] (spR K (r__law_pick q))) : BodyOk P w K mg base n__law_loop "_law_loop" (defScope s__law_loop) f (2 - 1) (defBody s__law_loop) (w__law_loop q) := by
  intro cdv A outer s H E hr
  have hN : List.Nodup n__law_loop := sc__law_loop.nd
  have hu : (A.deeper (envOfC "_law_loop" (defScope s__law_loop) s.heap.objs.size f cdv)).units + 64 < cLine := hr.units
  have hu1 : (A.deeper (envOfC "_law_loop" (defScope s__law_loop) s.heap.objs.size f cdv)).units + 65 < cLine := by have := hr.un; omega
  have tk : Takes (cxOf (L2.CX P w) P w K mg base n__law_loop "_law_loop" (defScope s__law_loop) f cdv A outer s H E) (fun cls d _ H => E cls d H) := takes_of rfl rfl rfl rfl
  have hx : ∀ σ, PassesAt (L2.CX P w) (cxOf (L2.CX P w) P w K mg base n__law_loop "_law_loop" (defScope s__law_loop) f cdv A outer s H E) σ (L2.WE (fun cls d _ H => E cls d H) σ) := fun σ => passAt tk σ
  have hp : PassesOwn (model P w) (cxOf (L2.CX P w) P w K mg base n__law_loop "_law_loop" (defScope s__law_loop) f cdv A outer s H E).A (cxOf (L2.CX P w) P w K mg base n__law_loop "_law_loop" (defScope s__law_loop) f cdv A outer s H E).env (cxOf (L2.CX P w) P w K mg base n__law_loop "_law_loop" (defScope s__law_loop) f cdv A outer s H E).xe := passes_of rfl
  unfold w__law_loop
  unfold w__law_loop_13
  refine dss_cons ?_ ?_
  · refine ds_set (i := 3) hN ?_
    refine de_add ?_ ?_
    · exact de_int
    · refine de_callR0 k__law_pick (hr.mono (by decide)) ?_
      refine da_cons ?_ ?_
      · exact (dv 0)
      · refine da_cons ?_ ?_
        · exact de_int
        · exact da_nil
  · unfold w__law_loop_12
    refine dss_cons ?_ ?_
    · refine ds_set (i := 4) hN ?_
      refine de_tuple F.f_tuple ?_
      refine da_cons ?_ ?_
      · refine de_lc [("_law_k", 5)] rfl hN ?_ (by show BlkOk n__law_loop (defScope s__law_loop) _ _; exact ⟨rfl, by decide +kernel, by decide +kernel, by decide +kernel, by decide +kernel⟩) ?_ ?_ ?_
        · refine di_rng1 F.f_range ?_
          refine da_cons ?_ ?_
          · exact (dv 3)
          · exact da_nil
        · intro _ _ _ _ _
          exact dg_name hN
        · intro _ _ _ _ _
          exact dts_nil
        · intro _ _ _ _ _
          refine de_add ?_ ?_
          · exact de_int
          · refine de_max rfl F.f_max ?_
            refine da_cons ?_ ?_
            · exact de_int
            · refine da_cons ?_ ?_
              · refine de_sub ?_ ?_
                · refine de_callR0 k__law_pick (hr.mono (by decide)) ?_
                  refine da_cons ?_ ?_
                  · exact (dv 0)
                  · refine da_cons ?_ ?_
                    · exact de_int
                    · exact da_nil
                · exact de_int
              · exact da_nil
      · exact da_nil
    · unfold w__law_loop_11
      refine dss_cons ?_ ?_
      · refine ds_set (i := 6) hN ?_
        refine de_tuple F.f_tuple ?_
        refine da_cons ?_ ?_
        · refine de_lc [("_law_k", 5)] rfl hN ?_ (by show BlkOk n__law_loop (defScope s__law_loop) _ _; exact ⟨rfl, by decide +kernel, by decide +kernel, by decide +kernel, by decide +kernel⟩) ?_ ?_ ?_
          · refine di_rng1 F.f_range ?_
            refine da_cons ?_ ?_
            · refine de_add ?_ ?_
              · exact de_int
              · refine de_callR0 k__law_pick (hr.mono (by decide)) ?_
                refine da_cons ?_ ?_
                · exact (dv 0)
                · refine da_cons ?_ ?_
                  · exact (dv 1)
                  · exact da_nil
            · exact da_nil
          · intro _ _ _ _ _
            exact dg_name hN
          · intro _ _ _ _ _
            exact dts_nil
          · intro _ _ _ _ _
            refine de_tup ?_
            refine da_cons ?_ ?_
            · refine de_callR0 k__law_pick (hr.mono (by decide)) ?_
              refine da_cons ?_ ?_
              · exact (dv 0)
              · refine da_cons ?_ ?_
                · exact (dv 3)
                · exact da_nil
            · refine da_cons ?_ ?_
              · refine de_add ?_ ?_
                · exact de_int
                · refine de_max rfl F.f_max ?_
                  refine da_cons ?_ ?_
                  · exact de_int
                  · refine da_cons ?_ ?_
                    · refine de_sub ?_ ?_
                      · refine de_callR0 k__law_pick (hr.mono (by decide)) ?_
                        refine da_cons ?_ ?_
                        · exact (dv 0)
                        · refine da_cons ?_ ?_
                          · exact de_int
                          · exact da_nil
                      · exact de_int
                    · exact da_nil
              · exact da_nil
        · exact da_nil
      · unfold w__law_loop_10
        refine dss_cons ?_ ?_
        · refine ds_set (i := 7) hN ?_
          refine de_tup ?_
          exact da_nil
        · unfold w__law_loop_9
          refine dss_cons ?_ ?_
          · refine ds_for (vs := [5]) hp rfl ?_ ?_ ?_
            · refine di_rng1 F.f_range ?_
              refine da_cons ?_ ?_
              · refine de_callR0 k__law_pick (hr.mono (by decide)) ?_
                refine da_cons ?_ ?_
                · exact (dv 0)
                · refine da_cons ?_ ?_
                  · refine de_add ?_ ?_
                    · exact (dv 2)
                    · exact de_int
                  · exact da_nil
              · exact da_nil
            · exact dg_name hN
            · unfold w__law_loop_7
              refine dss_cons ?_ ?_
              · refine ds_par (i := 8) (j := 9) rfl hN ?_
                refine da_cons ?_ ?_
                · refine de_callR0 k__law_pick (hr.mono (by decide)) ?_
                  refine da_cons ?_ ?_
                  · exact (dv 0)
                  · refine da_cons ?_ ?_
                    · refine de_len F.f_len ?_
                      refine da_cons ?_ ?_
                      · exact (dv 6)
                      · exact da_nil
                    · exact da_nil
                · refine da_cons ?_ ?_
                  · refine de_callR0 k__law_pick (hr.mono (by decide)) ?_
                    refine da_cons ?_ ?_
                    · exact (dv 0)
                    · refine da_cons ?_ ?_
                      · refine de_len F.f_len ?_
                        refine da_cons ?_ ?_
                        · exact (dv 6)
                        · exact da_nil
                      · exact da_nil
                  · exact da_nil
              · unfold w__law_loop_6
                refine dss_cons ?_ ?_
                · refine ds_set (i := 10) hN ?_
                  refine de_max rfl F.f_max ?_
                  refine da_cons ?_ ?_
                  · exact de_int
                  · refine da_cons ?_ ?_
                    · refine de_sub ?_ ?_
                      · refine de_callR0 k__law_pick (hr.mono (by decide)) ?_
                        refine da_cons ?_ ?_
                        · exact (dv 0)
                        · refine da_cons ?_ ?_
                          · exact de_int
                          · exact da_nil
                      · exact de_int
                    · exact da_nil
                · unfold w__law_loop_5
                  refine dss_cons ?_ ?_
                  · refine ds_if ?_ ?_ ?_
                    · refine dt_w ?_
                      refine dw_and ?_ ?_
                      · refine dt_ge ?_ ?_
                        · exact (dv 8)
                        · exact (dv 9)
                      · refine dw_and ?_ ?_
                        · refine dt_eq hu ?_ ?_
                          · exact (dv 10)
                          · exact de_int
                        · refine dw_and1 ?_
                          refine dt_gt ?_ ?_
                          · refine de_callR0 k__law_pick (hr.mono (by decide)) ?_
                            refine da_cons ?_ ?_
                            · exact (dv 0)
                            · refine da_cons ?_ ?_
                              · exact de_int
                              · exact da_nil
                          · exact de_int
                    · unfold w__law_loop_1
                      refine dss_one ?_
                      refine ds_set (i := 10) hN ?_
                      exact de_int
                    · exact dss_nil
                  · unfold w__law_loop_4
                    refine dss_cons ?_ ?_
                    · refine ds_set (i := 11) hN ?_
                      refine de_tup ?_
                      refine da_cons ?_ ?_
                      · exact (dv 8)
                      · refine da_cons ?_ ?_
                        · exact (dv 9)
                        · refine da_cons ?_ ?_
                          · refine de_callR0 k__law_pick (hr.mono (by decide)) ?_
                            refine da_cons ?_ ?_
                            · exact (dv 0)
                            · refine da_cons ?_ ?_
                              · exact de_int
                              · exact da_nil
                          · refine da_cons ?_ ?_
                            · exact (dv 10)
                            · exact da_nil
                    · unfold w__law_loop_3
                      refine dss_one ?_
                      refine ds_if ?_ ?_ ?_
                      · refine dt_notIn hu1 ?_ ?_
                        · exact (dv 11)
                        · exact (dv 7)
                      · unfold w__law_loop_2
                        refine dss_one ?_
                        refine ds_set (i := 7) hN ?_
                        refine de_add ?_ ?_
                        · exact (dv 7)
                        · refine de_tup ?_
                          refine da_cons ?_ ?_
                          · exact (dv 11)
                          · exact da_nil
                      · exact dss_nil
          · unfold w__law_loop_8
            refine dss_one ?_
            refine ds_ret ?_
            refine de_tup ?_
            refine da_cons ?_ ?_
            · exact (dv 4)
            · refine da_cons ?_ ?_
              · exact (dv 6)
              · refine da_cons ?_ ?_
                · exact (dv 7)
                · exact da_nil
theorem f__law_loop (Fd : FunD K "_law_loop" "_law_loop" (defArgs s__law_loop) (defBody s__law_loop) (defScope s__law_loop) [] [] f fd) (F : Fx K mg q) (k__law_pick : Cal P w K mg base "_law_pick" 1 ["_law_row", "_law_many"] (spR K (r__law_pick q))) : FnOk P w K mg base (L2.CX P w) 2 f fd ["_law_row", "_law_most", "_law_waits"] (spR K (r__law_loop q)) :=
  fn_r _ Fd sc__law_loop (by
    intro m args P Xp h
    first
      | (obtain ⟨_, h⟩ := h; split at h <;> first | rfl | exact h.elim)
      | (obtain ⟨_, rfl, _⟩ := h; rfl)
      | (obtain ⟨_, _, rfl, _⟩ := h; rfl)
      | (obtain ⟨_, _, _, rfl, _⟩ := h; rfl)
      | (obtain ⟨_, _, _, _, rfl, _⟩ := h; rfl)) (b__law_loop F k__law_pick) z__law_loop
theorem kk__law_loop (Fd : FunD K "_law_loop" "_law_loop" (defArgs s__law_loop) (defBody s__law_loop) (defScope s__law_loop) [] [] f fd) (hm : mg "_law_loop" = some (.ref f)) (F : Fx K mg q) (k__law_pick : Cal P w K mg base "_law_pick" 1 ["_law_row", "_law_many"] (spR K (r__law_pick q))) : Cal P w K mg base "_law_loop" 2 ["_law_row", "_law_most", "_law_waits"] (spR K (r__law_loop q)) :=
  cal Fd (f__law_loop Fd F k__law_pick) hm (fun _ _ _ _ _ _ us hl => match us, hl with | [_, _, _], _ => rfl)
theorem sc__law_made : FnScope n__law_made ["_law_f"] (defScope s__law_made) := ⟨rfl, rfl, rfl, by decide +kernel, rfl, by decide +kernel, by decide +kernel⟩
theorem b__law_made (F : Fx K mg q) (k_Loop : Mak P w K mg base "Loop" q.Loop 3 ["self", "machines", "steps", "waits"] (spR K (r_Loopz_initz q))) : BodyOk P w K mg base n__law_made "_law_made" (defScope s__law_made) f (5 - 1) (defBody s__law_made) (w__law_made q) := by
  intro cdv A outer s H E hr
  have hN : List.Nodup n__law_made := sc__law_made.nd
  have hu : (A.deeper (envOfC "_law_made" (defScope s__law_made) s.heap.objs.size f cdv)).units + 64 < cLine := hr.units
  have hu1 : (A.deeper (envOfC "_law_made" (defScope s__law_made) s.heap.objs.size f cdv)).units + 65 < cLine := by have := hr.un; omega
  have tk : Takes (cxOf (L2.CX P w) P w K mg base n__law_made "_law_made" (defScope s__law_made) f cdv A outer s H E) (fun cls d _ H => E cls d H) := takes_of rfl rfl rfl rfl
  have hx : ∀ σ, PassesAt (L2.CX P w) (cxOf (L2.CX P w) P w K mg base n__law_made "_law_made" (defScope s__law_made) f cdv A outer s H E) σ (L2.WE (fun cls d _ H => E cls d H) σ) := fun σ => passAt tk σ
  have hp : PassesOwn (model P w) (cxOf (L2.CX P w) P w K mg base n__law_made "_law_made" (defScope s__law_made) f cdv A outer s H E).A (cxOf (L2.CX P w) P w K mg base n__law_made "_law_made" (defScope s__law_made) f cdv A outer s H E).env (cxOf (L2.CX P w) P w K mg base n__law_made "_law_made" (defScope s__law_made) f cdv A outer s H E).xe := passes_of rfl
  unfold w__law_made
  unfold w__law_made_1
  refine dss_one ?_
  refine ds_ret ?_
  refine de_make0 k_Loop (hr.mono (by decide)) ?_
  refine da_cons ?_ ?_
  · refine de_ix ?_ ?_
    · exact (dv 0)
    · exact de_int
  · refine da_cons ?_ ?_
    · refine de_ix ?_ ?_
      · exact (dv 0)
      · exact de_int
    · refine da_cons ?_ ?_
      · refine de_ix ?_ ?_
        · exact (dv 0)
        · exact de_int
      · exact da_nil
theorem f__law_made (Fd : FunD K "_law_made" "_law_made" (defArgs s__law_made) (defBody s__law_made) (defScope s__law_made) [] [] f fd) (F : Fx K mg q) (k_Loop : Mak P w K mg base "Loop" q.Loop 3 ["self", "machines", "steps", "waits"] (spR K (r_Loopz_initz q))) : FnOk P w K mg base (L2.CX P w) 5 f fd ["_law_f"] (spP K (r__law_made q)) :=
  fn_p _ Fd sc__law_made (by
    intro args P Xp h
    first
      | (unfold r__law_made at h; split at h <;> first | rfl | exact h.elim)
      | (obtain ⟨_, rfl, _⟩ := h; rfl)
      | (obtain ⟨_, _, rfl, _⟩ := h; rfl)
      | (obtain ⟨_, _, _, rfl, _⟩ := h; rfl)
      | (obtain ⟨_, _, _, _, rfl, _⟩ := h; rfl)) (b__law_made F k_Loop) z__law_made
theorem kk__law_made (Fd : FunD K "_law_made" "_law_made" (defArgs s__law_made) (defBody s__law_made) (defScope s__law_made) [] [] f fd) (hm : mg "_law_made" = some (.ref f)) (F : Fx K mg q) (k_Loop : Mak P w K mg base "Loop" q.Loop 3 ["self", "machines", "steps", "waits"] (spR K (r_Loopz_initz q))) : Cal P w K mg base "_law_made" 5 ["_law_f"] (spP K (r__law_made q)) :=
  cal Fd (f__law_made Fd F k_Loop) hm (fun _ _ _ _ _ _ us hl => match us, hl with | [_], _ => rfl)
theorem sc_ring_rows : FnScope n_ring_rows ["loop", "row"] (defScope s_ring_rows) := ⟨rfl, rfl, rfl, by decide +kernel, rfl, by decide +kernel, by decide +kernel⟩
theorem b_ring_rows (F : Fx K mg q) (n : Nat) (k_ring_rows : Cal P w K mg base "ring_rows" (1 + n) ["loop", "row"] (spP K (r_ring_rows q n))) : BodyOk P w K mg base n_ring_rows "ring_rows" (defScope s_ring_rows) f (1 + n) (defBody s_ring_rows) (w_ring_rows q n) := by
  intro cdv A outer s H E hr
  have hN : List.Nodup n_ring_rows := sc_ring_rows.nd
  have hu : (A.deeper (envOfC "ring_rows" (defScope s_ring_rows) s.heap.objs.size f cdv)).units + 64 < cLine := hr.units
  have hu1 : (A.deeper (envOfC "ring_rows" (defScope s_ring_rows) s.heap.objs.size f cdv)).units + 65 < cLine := by have := hr.un; omega
  have tk : Takes (cxOf (L2.CX P w) P w K mg base n_ring_rows "ring_rows" (defScope s_ring_rows) f cdv A outer s H E) (fun cls d _ H => E cls d H) := takes_of rfl rfl rfl rfl
  have hx : ∀ σ, PassesAt (L2.CX P w) (cxOf (L2.CX P w) P w K mg base n_ring_rows "ring_rows" (defScope s_ring_rows) f cdv A outer s H E) σ (L2.WE (fun cls d _ H => E cls d H) σ) := fun σ => passAt tk σ
  have hp : PassesOwn (model P w) (cxOf (L2.CX P w) P w K mg base n_ring_rows "ring_rows" (defScope s_ring_rows) f cdv A outer s H E).A (cxOf (L2.CX P w) P w K mg base n_ring_rows "ring_rows" (defScope s_ring_rows) f cdv A outer s H E).env (cxOf (L2.CX P w) P w K mg base n_ring_rows "ring_rows" (defScope s_ring_rows) f cdv A outer s H E).xe := passes_of rfl
  unfold w_ring_rows
  unfold w_ring_rows_9
  refine dss_cons ?_ ?_
  · refine ds_par (i := 2) (j := 3) rfl hN ?_
    refine da_cons ?_ ?_
    · refine de_ix ?_ ?_
      · refine de_ix ?_ ?_
        · refine de_fld F.c_Loop F.n_Loop_bars ?_
          exact (dv 0)
        · refine de_ix ?_ ?_
          · exact (dv 1)
          · exact de_int
      · exact de_int
    · refine da_cons ?_ ?_
      · refine de_ix ?_ ?_
        · refine de_ix ?_ ?_
          · refine de_fld F.c_Loop F.n_Loop_bars ?_
            exact (dv 0)
          · refine de_ix ?_ ?_
            · exact (dv 1)
            · refine de_neg ?_
              exact de_int
        · exact de_int
      · exact da_nil
  · unfold w_ring_rows_8
    refine dss_cons ?_ ?_
    · refine ds_if ?_ ?_ ?_
      · refine dt_eq hu ?_ ?_
        · exact (dv 2)
        · exact (dv 3)
      · unfold w_ring_rows_1
        refine dss_one ?_
        refine ds_ret ?_
        refine de_lst ?_
        refine da_cons ?_ ?_
        · refine de_tuple F.f_tuple ?_
          refine da_cons ?_ ?_
          · exact (dv 1)
          · exact da_nil
        · exact da_nil
      · exact dss_nil
    · unfold w_ring_rows_7
      refine dss_cons ?_ ?_
      · refine ds_setLc (i := 4) [("index", 5)] rfl hN ?_ (by show BlkOk n_ring_rows (defScope s_ring_rows) _ _; exact ⟨rfl, by decide +kernel, by decide +kernel, by decide +kernel, by decide +kernel⟩) ?_ ?_ ?_
        · refine di_seq ?_
          exact (dv 1)
        · intro _ _ _ _ _
          exact dg_name hN
        · intro _ _ _ _ _
          exact dts_nil
        · intro _ _ _ _ _
          refine de_ix ?_ ?_
          · refine de_ix ?_ ?_
            · refine de_fld F.c_Loop F.n_Loop_bars ?_
              exact (dv 0)
            · exact (dv 5)
          · exact de_int
      · unfold w_ring_rows_6
        refine dss_cons ?_ ?_
        · refine ds_set (i := 6) hN ?_
          refine de_lstC ?_
          exact da_nil
        · unfold w_ring_rows_5
          refine dss_cons ?_ ?_
          · refine ds_for (vs := [5, 7, 8, 9, 10]) hp rfl ?_ ?_ ?_
            · refine di_enum F.f_enumerate ?_
              refine da_cons ?_ ?_
              · refine de_fld F.c_Loop F.n_Loop_bars ?_
                exact (dv 0)
              · exact da_nil
            · refine dg_tup rfl ?_
              refine dgs_cons ?_ ?_
              · exact dg_name hN
              · refine dgs_cons ?_ ?_
                · refine dg_tup rfl ?_
                  refine dgs_cons ?_ ?_
                  · exact dg_name hN
                  · refine dgs_cons ?_ ?_
                    · exact dg_name hN
                    · refine dgs_cons ?_ ?_
                      · exact dg_name hN
                      · refine dgs_cons ?_ ?_
                        · exact dg_name hN
                        · exact dgs_nil
                · exact dgs_nil
            · unfold w_ring_rows_3
              refine dss_one ?_
              refine ds_if ?_ ?_ ?_
              · refine dt_w ?_
                refine dw_and ?_ ?_
                · refine dt_eq hu ?_ ?_
                  · exact (dv 7)
                  · exact (dv 3)
                · refine dw_and ?_ ?_
                  · refine dt_notIn hu1 ?_ ?_
                    · exact (dv 8)
                    · exact (dv 4)
                  · refine dw_and1 ?_
                    refine dt_ge ?_ ?_
                    · exact (dv 8)
                    · exact (dv 2)
              · unfold w_ring_rows_2
                refine dss_one ?_
                refine ds_expr ?_
                refine de_ext ?_ ?_
                · exact (dv 6)
                · refine de_callP0 k_ring_rows (hr.mono (by omega)) ?_
                  refine da_cons ?_ ?_
                  · exact (dv 0)
                  · refine da_cons ?_ ?_
                    · refine de_lst ?_
                      refine da_star ?_ ?_
                      · exact (dv 1)
                      · refine da_cons ?_ ?_
                        · exact (dv 5)
                        · exact da_nil
                    · exact da_nil
              · exact dss_nil
          · unfold w_ring_rows_4
            refine dss_one ?_
            refine ds_ret ?_
            exact (dv 6)
theorem nv_ring_rows : BodyOk P w K mg base n_ring_rows "ring_rows" (defScope s_ring_rows) f (1 - 1) (defBody s_ring_rows) wNever := by
  intro cdv A outer s H E hr
  exact dss_never
theorem f_ring_rows (Fd : FunD K "ring_rows" "ring_rows" (defArgs s_ring_rows) (defBody s_ring_rows) (defScope s_ring_rows) [] [] f fd) (hm : mg "ring_rows" = some (.ref f)) (F : Fx K mg q) : ∀ n, FnOk P w K mg base (L2.CX P w) (1 + n) f fd ["loop", "row"] (spP K (r_ring_rows q n))
  | 0 => fn_p _ Fd sc_ring_rows (fun _ _ _ h => h.elim) nv_ring_rows (fun _ _ _ h => h.elim)
  | n + 1 => fn_p _ Fd sc_ring_rows (by
    intro args P Xp h
    first
      | (unfold r_ring_rows at h; split at h <;> first | rfl | exact h.elim)
      | (obtain ⟨_, rfl, _⟩ := h; rfl)
      | (obtain ⟨_, _, rfl, _⟩ := h; rfl)
      | (obtain ⟨_, _, _, rfl, _⟩ := h; rfl)
      | (obtain ⟨_, _, _, _, rfl, _⟩ := h; rfl)) (b_ring_rows F n (cal Fd (f_ring_rows Fd hm F n) hm (fun _ _ _ _ _ _ us hl => match us, hl with | [_, _], _ => rfl))) (z_ring_rows n)
theorem kk_ring_rows (Fd : FunD K "ring_rows" "ring_rows" (defArgs s_ring_rows) (defBody s_ring_rows) (defScope s_ring_rows) [] [] f fd) (hm : mg "ring_rows" = some (.ref f)) (F : Fx K mg q) : Cal P w K mg base "ring_rows" 7 ["loop", "row"] (spP K (r_ring_rows q 6)) :=
  cal Fd (f_ring_rows Fd hm F 6) hm (fun _ _ _ _ _ _ us hl => match us, hl with | [_, _], _ => rfl)
theorem sc_begun : FnScope n_begun ["loop", "index"] (defScope s_begun) := ⟨rfl, rfl, rfl, by decide +kernel, rfl, by decide +kernel, by decide +kernel⟩
theorem b_begun (F : Fx K mg q) (k_ring_rows : Cal P w K mg base "ring_rows" 7 ["loop", "row"] (spP K (r_ring_rows q 6))) : BodyOk P w K mg base n_begun "begun" (defScope s_begun) f (8 - 1) (defBody s_begun) (w_begun q) := by
  intro cdv A outer s H E hr
  have hN : List.Nodup n_begun := sc_begun.nd
  have hu : (A.deeper (envOfC "begun" (defScope s_begun) s.heap.objs.size f cdv)).units + 64 < cLine := hr.units
  have hu1 : (A.deeper (envOfC "begun" (defScope s_begun) s.heap.objs.size f cdv)).units + 65 < cLine := by have := hr.un; omega
  have tk : Takes (cxOf (L2.CX P w) P w K mg base n_begun "begun" (defScope s_begun) f cdv A outer s H E) (fun cls d _ H => E cls d H) := takes_of rfl rfl rfl rfl
  have hx : ∀ σ, PassesAt (L2.CX P w) (cxOf (L2.CX P w) P w K mg base n_begun "begun" (defScope s_begun) f cdv A outer s H E) σ (L2.WE (fun cls d _ H => E cls d H) σ) := fun σ => passAt tk σ
  have hp : PassesOwn (model P w) (cxOf (L2.CX P w) P w K mg base n_begun "begun" (defScope s_begun) f cdv A outer s H E).A (cxOf (L2.CX P w) P w K mg base n_begun "begun" (defScope s_begun) f cdv A outer s H E).env (cxOf (L2.CX P w) P w K mg base n_begun "begun" (defScope s_begun) f cdv A outer s H E).xe := passes_of rfl
  unfold w_begun
  unfold w_begun_2
  refine dss_cons ?_ ?_
  · refine ds_asg (vs := [2, 3, 4, 5]) ?_ ?_
    · refine de_ix ?_ ?_
      · refine de_fld F.c_Loop F.n_Loop_bars ?_
        exact (dv 0)
      · exact (dv 1)
    · refine dg_tup rfl ?_
      refine dgs_cons ?_ ?_
      · exact dg_name hN
      · refine dgs_cons ?_ ?_
        · exact dg_name hN
        · refine dgs_cons ?_ ?_
          · exact dg_name hN
          · refine dgs_cons ?_ ?_
            · exact dg_name hN
            · exact dgs_nil
  · unfold w_begun_1
    refine dss_one ?_
    refine ds_ret ?_
    refine de_if ?_ ?_ ?_
    · refine dt_ge ?_ ?_
      · exact (dv 3)
      · exact (dv 2)
    · refine de_callP0 k_ring_rows (hr.mono (by decide)) ?_
      refine da_cons ?_ ?_
      · exact (dv 0)
      · refine da_cons ?_ ?_
        · refine de_lst ?_
          refine da_cons ?_ ?_
          · exact (dv 1)
          · exact da_nil
        · exact da_nil
    · refine de_lst ?_
      exact da_nil
theorem f_begun (Fd : FunD K "begun" "begun" (defArgs s_begun) (defBody s_begun) (defScope s_begun) [] [] f fd) (F : Fx K mg q) (k_ring_rows : Cal P w K mg base "ring_rows" 7 ["loop", "row"] (spP K (r_ring_rows q 6))) : FnOk P w K mg base (L2.CX P w) 8 f fd ["loop", "index"] (spP K (r_begun q)) :=
  fn_p _ Fd sc_begun (by
    intro args P Xp h
    first
      | (unfold r_begun at h; split at h <;> first | rfl | exact h.elim)
      | (obtain ⟨_, rfl, _⟩ := h; rfl)
      | (obtain ⟨_, _, rfl, _⟩ := h; rfl)
      | (obtain ⟨_, _, _, rfl, _⟩ := h; rfl)
      | (obtain ⟨_, _, _, _, rfl, _⟩ := h; rfl)) (b_begun F k_ring_rows) z_begun
theorem kk_begun (Fd : FunD K "begun" "begun" (defArgs s_begun) (defBody s_begun) (defScope s_begun) [] [] f fd) (hm : mg "begun" = some (.ref f)) (F : Fx K mg q) (k_ring_rows : Cal P w K mg base "ring_rows" 7 ["loop", "row"] (spP K (r_ring_rows q 6))) : Cal P w K mg base "begun" 8 ["loop", "index"] (spP K (r_begun q)) :=
  cal Fd (f_begun Fd F k_ring_rows) hm (fun _ _ _ _ _ _ us hl => match us, hl with | [_, _], _ => rfl)
theorem sc_rings_of : FnScope n_rings_of ["loop"] (defScope s_rings_of) := ⟨rfl, rfl, rfl, by decide +kernel, rfl, by decide +kernel, by decide +kernel⟩
theorem b_rings_of (F : Fx K mg q) (k_begun : Cal P w K mg base "begun" 8 ["loop", "index"] (spP K (r_begun q))) : BodyOk P w K mg base n_rings_of "rings_of" (defScope s_rings_of) f (9 - 1) (defBody s_rings_of) (w_rings_of q) := by
  intro cdv A outer s H E hr
  have hN : List.Nodup n_rings_of := sc_rings_of.nd
  have hu : (A.deeper (envOfC "rings_of" (defScope s_rings_of) s.heap.objs.size f cdv)).units + 64 < cLine := hr.units
  have hu1 : (A.deeper (envOfC "rings_of" (defScope s_rings_of) s.heap.objs.size f cdv)).units + 65 < cLine := by have := hr.un; omega
  have tk : Takes (cxOf (L2.CX P w) P w K mg base n_rings_of "rings_of" (defScope s_rings_of) f cdv A outer s H E) (fun cls d _ H => E cls d H) := takes_of rfl rfl rfl rfl
  have hx : ∀ σ, PassesAt (L2.CX P w) (cxOf (L2.CX P w) P w K mg base n_rings_of "rings_of" (defScope s_rings_of) f cdv A outer s H E) σ (L2.WE (fun cls d _ H => E cls d H) σ) := fun σ => passAt tk σ
  have hp : PassesOwn (model P w) (cxOf (L2.CX P w) P w K mg base n_rings_of "rings_of" (defScope s_rings_of) f cdv A outer s H E).A (cxOf (L2.CX P w) P w K mg base n_rings_of "rings_of" (defScope s_rings_of) f cdv A outer s H E).env (cxOf (L2.CX P w) P w K mg base n_rings_of "rings_of" (defScope s_rings_of) f cdv A outer s H E).xe := passes_of rfl
  unfold w_rings_of
  unfold w_rings_of_1
  refine dss_one ?_
  refine ds_ret ?_
  refine de_sorted hu F.f_sorted ?_
  refine da_cons ?_ ?_
  · refine de_lc2 [("index", 1), ("ring", 2)] [2] rfl hN ?_ (by show BlkOk n_rings_of (defScope s_rings_of) _ _; exact ⟨rfl, by decide +kernel, by decide +kernel, by decide +kernel, by decide +kernel⟩) ?_ ?_ ?_ ?_ ?_ (fun _ _ _ _ _ => (dv 2))
    · refine di_rng1 F.f_range ?_
      refine da_cons ?_ ?_
      · refine de_len F.f_len ?_
        refine da_cons ?_ ?_
        · refine de_fld F.c_Loop F.n_Loop_bars ?_
          exact (dv 0)
        · exact da_nil
      · exact da_nil
    · intro _ _ _ _ _
      exact dg_name hN
    · intro _ _ _ _ _
      exact dts_nil
    · intro _ _ _ _ _
      refine di_seq ?_
      refine de_callP0 k_begun (hr.mono (by decide)) ?_
      refine da_cons ?_ ?_
      · exact (dv 0)
      · refine da_cons ?_ ?_
        · exact (dv 1)
        · exact da_nil
    · intro _ _ _ _ _
      exact dg_name hN
    · intro _ _ _ _ _
      exact dts_nil
  · exact da_nil
theorem f_rings_of (Fd : FunD K "rings_of" "rings_of" (defArgs s_rings_of) (defBody s_rings_of) (defScope s_rings_of) [] [] f fd) (F : Fx K mg q) (k_begun : Cal P w K mg base "begun" 8 ["loop", "index"] (spP K (r_begun q))) : FnOk P w K mg base (L2.CX P w) 9 f fd ["loop"] (spP K (r_rings_of q)) :=
  fn_p _ Fd sc_rings_of (by
    intro args P Xp h
    first
      | (unfold r_rings_of at h; split at h <;> first | rfl | exact h.elim)
      | (obtain ⟨_, rfl, _⟩ := h; rfl)
      | (obtain ⟨_, _, rfl, _⟩ := h; rfl)
      | (obtain ⟨_, _, _, rfl, _⟩ := h; rfl)
      | (obtain ⟨_, _, _, _, rfl, _⟩ := h; rfl)) (b_rings_of F k_begun) z_rings_of
theorem kk_rings_of (Fd : FunD K "rings_of" "rings_of" (defArgs s_rings_of) (defBody s_rings_of) (defScope s_rings_of) [] [] f fd) (hm : mg "rings_of" = some (.ref f)) (F : Fx K mg q) (k_begun : Cal P w K mg base "begun" 8 ["loop", "index"] (spP K (r_begun q))) : Cal P w K mg base "rings_of" 9 ["loop"] (spP K (r_rings_of q)) :=
  cal Fd (f_rings_of Fd F k_begun) hm (fun _ _ _ _ _ _ us hl => match us, hl with | [_], _ => rfl)
theorem sc_sums_of : FnScope n_sums_of ["loop", "ring"] (defScope s_sums_of) := ⟨rfl, rfl, rfl, by decide +kernel, rfl, by decide +kernel, by decide +kernel⟩
theorem b_sums_of (F : Fx K mg q) : BodyOk P w K mg base n_sums_of "sums_of" (defScope s_sums_of) f (1 - 1) (defBody s_sums_of) (w_sums_of q) := by
  intro cdv A outer s H E hr
  have hN : List.Nodup n_sums_of := sc_sums_of.nd
  have hu : (A.deeper (envOfC "sums_of" (defScope s_sums_of) s.heap.objs.size f cdv)).units + 64 < cLine := hr.units
  have hu1 : (A.deeper (envOfC "sums_of" (defScope s_sums_of) s.heap.objs.size f cdv)).units + 65 < cLine := by have := hr.un; omega
  have tk : Takes (cxOf (L2.CX P w) P w K mg base n_sums_of "sums_of" (defScope s_sums_of) f cdv A outer s H E) (fun cls d _ H => E cls d H) := takes_of rfl rfl rfl rfl
  have hx : ∀ σ, PassesAt (L2.CX P w) (cxOf (L2.CX P w) P w K mg base n_sums_of "sums_of" (defScope s_sums_of) f cdv A outer s H E) σ (L2.WE (fun cls d _ H => E cls d H) σ) := fun σ => passAt tk σ
  have hp : PassesOwn (model P w) (cxOf (L2.CX P w) P w K mg base n_sums_of "sums_of" (defScope s_sums_of) f cdv A outer s H E).A (cxOf (L2.CX P w) P w K mg base n_sums_of "sums_of" (defScope s_sums_of) f cdv A outer s H E).env (cxOf (L2.CX P w) P w K mg base n_sums_of "sums_of" (defScope s_sums_of) f cdv A outer s H E).xe := passes_of rfl
  unfold w_sums_of
  unfold w_sums_of_1
  refine dss_one ?_
  refine ds_ret ?_
  refine de_tup ?_
  refine da_cons ?_ ?_
  · refine de_sum rfl F.f_sum ?_
    refine da_cons ?_ ?_
    · refine de_lc [("index", 2)] rfl hN ?_ (by show BlkOk n_sums_of (defScope s_sums_of) _ _; exact ⟨rfl, by decide +kernel, by decide +kernel, by decide +kernel, by decide +kernel⟩) ?_ ?_ ?_
      · refine di_seq ?_
        exact (dv 1)
      · intro _ _ _ _ _
        exact dg_name hN
      · intro _ _ _ _ _
        exact dts_nil
      · intro _ _ _ _ _
        refine de_ix ?_ ?_
        · refine de_ix ?_ ?_
          · refine de_fld F.c_Loop F.n_Loop_bars ?_
            exact (dv 0)
          · exact (dv 2)
        · exact de_int
    · exact da_nil
  · refine da_cons ?_ ?_
    · refine de_sum rfl F.f_sum ?_
      refine da_cons ?_ ?_
      · refine de_lc [("index", 2)] rfl hN ?_ (by show BlkOk n_sums_of (defScope s_sums_of) _ _; exact ⟨rfl, by decide +kernel, by decide +kernel, by decide +kernel, by decide +kernel⟩) ?_ ?_ ?_
        · refine di_seq ?_
          exact (dv 1)
        · intro _ _ _ _ _
          exact dg_name hN
        · intro _ _ _ _ _
          exact dts_nil
        · intro _ _ _ _ _
          refine de_ix ?_ ?_
          · refine de_ix ?_ ?_
            · refine de_fld F.c_Loop F.n_Loop_bars ?_
              exact (dv 0)
            · exact (dv 2)
          · exact de_int
      · exact da_nil
    · exact da_nil
theorem f_sums_of (Fd : FunD K "sums_of" "sums_of" (defArgs s_sums_of) (defBody s_sums_of) (defScope s_sums_of) [] [] f fd) (F : Fx K mg q) : FnOk P w K mg base (L2.CX P w) 1 f fd ["loop", "ring"] (spP K (r_sums_of q)) :=
  fn_p _ Fd sc_sums_of (by
    intro args P Xp h
    first
      | (unfold r_sums_of at h; split at h <;> first | rfl | exact h.elim)
      | (obtain ⟨_, rfl, _⟩ := h; rfl)
      | (obtain ⟨_, _, rfl, _⟩ := h; rfl)
      | (obtain ⟨_, _, _, rfl, _⟩ := h; rfl)
      | (obtain ⟨_, _, _, _, rfl, _⟩ := h; rfl)) (b_sums_of F) z_sums_of
theorem kk_sums_of (Fd : FunD K "sums_of" "sums_of" (defArgs s_sums_of) (defBody s_sums_of) (defScope s_sums_of) [] [] f fd) (hm : mg "sums_of" = some (.ref f)) (F : Fx K mg q) : Cal P w K mg base "sums_of" 1 ["loop", "ring"] (spP K (r_sums_of q)) :=
  cal Fd (f_sums_of Fd F) hm (fun _ _ _ _ _ _ us hl => match us, hl with | [_, _], _ => rfl)
theorem sc_rings : FnScope n_rings ["loop"] (defScope s_rings) := ⟨rfl, rfl, rfl, by decide +kernel, rfl, by decide +kernel, by decide +kernel⟩
theorem b_rings (F : Fx K mg q) (k_rings_of : Cal P w K mg base "rings_of" 9 ["loop"] (spP K (r_rings_of q))) (k_sums_of : Cal P w K mg base "sums_of" 1 ["loop", "ring"] (spP K (r_sums_of q))) : BodyOk P w K mg base n_rings "rings" (defScope s_rings) f (10 - 1) (defBody s_rings) (w_rings q) := by
  intro cdv A outer s H E hr
  have hN : List.Nodup n_rings := sc_rings.nd
  have hu : (A.deeper (envOfC "rings" (defScope s_rings) s.heap.objs.size f cdv)).units + 64 < cLine := hr.units
  have hu1 : (A.deeper (envOfC "rings" (defScope s_rings) s.heap.objs.size f cdv)).units + 65 < cLine := by have := hr.un; omega
  have tk : Takes (cxOf (L2.CX P w) P w K mg base n_rings "rings" (defScope s_rings) f cdv A outer s H E) (fun cls d _ H => E cls d H) := takes_of rfl rfl rfl rfl
  have hx : ∀ σ, PassesAt (L2.CX P w) (cxOf (L2.CX P w) P w K mg base n_rings "rings" (defScope s_rings) f cdv A outer s H E) σ (L2.WE (fun cls d _ H => E cls d H) σ) := fun σ => passAt tk σ
  have hp : PassesOwn (model P w) (cxOf (L2.CX P w) P w K mg base n_rings "rings" (defScope s_rings) f cdv A outer s H E).A (cxOf (L2.CX P w) P w K mg base n_rings "rings" (defScope s_rings) f cdv A outer s H E).env (cxOf (L2.CX P w) P w K mg base n_rings "rings" (defScope s_rings) f cdv A outer s H E).xe := passes_of rfl
  unfold w_rings
  unfold w_rings_1
  refine dss_one ?_
  refine ds_ret ?_
  refine de_lc [("ring", 1)] rfl hN ?_ (by show BlkOk n_rings (defScope s_rings) _ _; exact ⟨rfl, by decide +kernel, by decide +kernel, by decide +kernel, by decide +kernel⟩) ?_ ?_ ?_
  · refine di_seq ?_
    refine de_callP0 k_rings_of (hr.mono (by decide)) ?_
    refine da_cons ?_ ?_
    · exact (dv 0)
    · exact da_nil
  · intro _ _ _ _ _
    exact dg_name hN
  · intro _ _ _ _ _
    exact dts_nil
  · intro _ _ _ _ _
    refine de_tup ?_
    refine da_cons ?_ ?_
    · exact (dv 1)
    · refine da_star ?_ ?_
      · refine de_callP0 k_sums_of (hr.mono (by decide)) ?_
        refine da_cons ?_ ?_
        · exact (dv 0)
        · refine da_cons ?_ ?_
          · exact (dv 1)
          · exact da_nil
      · exact da_nil
theorem f_rings (Fd : FunD K "rings" "rings" (defArgs s_rings) (defBody s_rings) (defScope s_rings) [] [] f fd) (F : Fx K mg q) (k_rings_of : Cal P w K mg base "rings_of" 9 ["loop"] (spP K (r_rings_of q))) (k_sums_of : Cal P w K mg base "sums_of" 1 ["loop", "ring"] (spP K (r_sums_of q))) : FnOk P w K mg base (L2.CX P w) 10 f fd ["loop"] (spP K (r_rings q)) :=
  fn_p _ Fd sc_rings (by
    intro args P Xp h
    first
      | (unfold r_rings at h; split at h <;> first | rfl | exact h.elim)
      | (obtain ⟨_, rfl, _⟩ := h; rfl)
      | (obtain ⟨_, _, rfl, _⟩ := h; rfl)
      | (obtain ⟨_, _, _, rfl, _⟩ := h; rfl)
      | (obtain ⟨_, _, _, _, rfl, _⟩ := h; rfl)) (b_rings F k_rings_of k_sums_of) z_rings
theorem kk_rings (Fd : FunD K "rings" "rings" (defArgs s_rings) (defBody s_rings) (defScope s_rings) [] [] f fd) (hm : mg "rings" = some (.ref f)) (F : Fx K mg q) (k_rings_of : Cal P w K mg base "rings_of" 9 ["loop"] (spP K (r_rings_of q))) (k_sums_of : Cal P w K mg base "sums_of" 1 ["loop", "ring"] (spP K (r_sums_of q))) : Cal P w K mg base "rings" 10 ["loop"] (spP K (r_rings q)) :=
  cal Fd (f_rings Fd F k_rings_of k_sums_of) hm (fun _ _ _ _ _ _ us hl => match us, hl with | [_], _ => rfl)
theorem sc_moved : FnScope n_moved ["loop", "step", "by"] (defScope s_moved) := ⟨rfl, rfl, rfl, by decide +kernel, rfl, by decide +kernel, by decide +kernel⟩
theorem b_moved (F : Fx K mg q) (k_is_from : Cal P w K mg base "is_from" 1 ["value", "low", "high"] (spP K (r_is_from q))) (k_Loop : Mak P w K mg base "Loop" q.Loop 3 ["self", "machines", "steps", "waits"] (spR K (r_Loopz_initz q))) : BodyOk P w K mg base n_moved "moved" (defScope s_moved) f (5 - 1) (defBody s_moved) (w_moved q) := by
  intro cdv A outer s H E hr
  have hN : List.Nodup n_moved := sc_moved.nd
  have hu : (A.deeper (envOfC "moved" (defScope s_moved) s.heap.objs.size f cdv)).units + 64 < cLine := hr.units
  have hu1 : (A.deeper (envOfC "moved" (defScope s_moved) s.heap.objs.size f cdv)).units + 65 < cLine := by have := hr.un; omega
  have tk : Takes (cxOf (L2.CX P w) P w K mg base n_moved "moved" (defScope s_moved) f cdv A outer s H E) (fun cls d _ H => E cls d H) := takes_of rfl rfl rfl rfl
  have hx : ∀ σ, PassesAt (L2.CX P w) (cxOf (L2.CX P w) P w K mg base n_moved "moved" (defScope s_moved) f cdv A outer s H E) σ (L2.WE (fun cls d _ H => E cls d H) σ) := fun σ => passAt tk σ
  have hp : PassesOwn (model P w) (cxOf (L2.CX P w) P w K mg base n_moved "moved" (defScope s_moved) f cdv A outer s H E).A (cxOf (L2.CX P w) P w K mg base n_moved "moved" (defScope s_moved) f cdv A outer s H E).env (cxOf (L2.CX P w) P w K mg base n_moved "moved" (defScope s_moved) f cdv A outer s H E).xe := passes_of rfl
  unfold w_moved
  unfold w_moved_9
  refine dss_cons ?_ ?_
  · refine ds_if ?_ ?_ ?_
    · refine dt_w ?_
      refine dw_or ?_ ?_
      · refine dt_not ?_
        refine dt_val ?_
        refine de_callP0 k_is_from (hr.mono (by decide)) ?_
        refine da_cons ?_ ?_
        · exact (dv 1)
        · refine da_cons ?_ ?_
          · exact de_int
          · refine da_cons ?_ ?_
            · refine de_sub ?_ ?_
              · refine de_len F.f_len ?_
                refine da_cons ?_ ?_
                · refine de_fld F.c_Loop F.n_Loop_rows ?_
                  exact (dv 0)
                · exact da_nil
              · exact de_int
            · exact da_nil
      · refine dw_or1 ?_
        refine dt_not ?_
        refine dt_val ?_
        refine de_callP0 k_is_from (hr.mono (by decide)) ?_
        refine da_cons ?_ ?_
        · exact (dv 2)
        · refine da_cons ?_ ?_
          · refine de_neg ?_
            exact de_globX F.g_MOST_BY
          · refine da_cons ?_ ?_
            · exact de_globX F.g_MOST_BY
            · exact da_nil
    · unfold w_moved_1
      refine dss_one ?_
      exact ds_raise F.e_BadMove rfl tk
    · exact dss_nil
  · unfold w_moved_8
    refine dss_cons ?_ ?_
    · refine ds_set (i := 3) hN ?_
      refine de_lstC ?_
      exact da_nil
    · unfold w_moved_7
      refine dss_cons ?_ ?_
      · refine ds_for (vs := [4, 5, 6, 7]) hp rfl ?_ ?_ ?_
        · refine di_seq ?_
          refine de_fld F.c_Loop F.n_Loop_bars ?_
          exact (dv 0)
        · refine dg_tup rfl ?_
          refine dgs_cons ?_ ?_
          · exact dg_name hN
          · refine dgs_cons ?_ ?_
            · exact dg_name hN
            · refine dgs_cons ?_ ?_
              · exact dg_name hN
              · refine dgs_cons ?_ ?_
                · exact dg_name hN
                · exact dgs_nil
        · unfold w_moved_5
          refine dss_cons ?_ ?_
          · refine ds_set (i := 8) hN ?_
            refine de_sub ?_ ?_
            · refine de_add ?_ ?_
              · exact (dv 7)
              · refine de_mul ?_ ?_
                · exact (dv 2)
                · refine de_cint F.f_int ?_
                  refine da_cons ?_ ?_
                  · refine de_eq hu ?_ ?_
                    · exact (dv 5)
                    · exact (dv 1)
                  · exact da_nil
            · refine de_mul ?_ ?_
              · exact (dv 2)
              · refine de_cint F.f_int ?_
                refine da_cons ?_ ?_
                · refine de_eq hu ?_ ?_
                  · exact (dv 4)
                  · exact (dv 1)
                · exact da_nil
          · unfold w_moved_4
            refine dss_cons ?_ ?_
            · refine ds_if ?_ ?_ ?_
              · refine dt_not ?_
                refine dt_chain op_le so_le op_le so_le ?_ ?_ ?_
                · exact de_int
                · exact (dv 8)
                · exact de_globX F.g_MOST_ROUNDS
              · unfold w_moved_2
                refine dss_one ?_
                exact ds_raise F.e_BadMove rfl tk
              · exact dss_nil
            · unfold w_moved_3
              refine dss_one ?_
              refine ds_expr ?_
              refine de_app ?_ ?_
              · exact (dv 3)
              · refine de_tup ?_
                refine da_cons ?_ ?_
                · exact (dv 4)
                · refine da_cons ?_ ?_
                  · exact (dv 5)
                  · refine da_cons ?_ ?_
                    · exact (dv 6)
                    · refine da_cons ?_ ?_
                      · exact (dv 8)
                      · exact da_nil
      · unfold w_moved_6
        refine dss_one ?_
        refine ds_ret ?_
        refine de_make0 k_Loop (hr.mono (by decide)) ?_
        refine da_cons ?_ ?_
        · refine de_fld F.c_Loop F.n_Loop_counts ?_
          exact (dv 0)
        · refine da_cons ?_ ?_
          · refine de_fld F.c_Loop F.n_Loop_rows ?_
            exact (dv 0)
          · refine da_cons ?_ ?_
            · refine de_tuple F.f_tuple ?_
              refine da_cons ?_ ?_
              · exact (dv 3)
              · exact da_nil
            · exact da_nil
theorem f_moved (Fd : FunD K "moved" "moved" (defArgs s_moved) (defBody s_moved) (defScope s_moved) [] [] f fd) (F : Fx K mg q) (k_is_from : Cal P w K mg base "is_from" 1 ["value", "low", "high"] (spP K (r_is_from q))) (k_Loop : Mak P w K mg base "Loop" q.Loop 3 ["self", "machines", "steps", "waits"] (spR K (r_Loopz_initz q))) : FnOk P w K mg base (L2.CX P w) 5 f fd ["loop", "step", "by"] (spP K (r_moved q)) :=
  fn_p _ Fd sc_moved (by
    intro args P Xp h
    first
      | (unfold r_moved at h; split at h <;> first | rfl | exact h.elim)
      | (obtain ⟨_, rfl, _⟩ := h; rfl)
      | (obtain ⟨_, _, rfl, _⟩ := h; rfl)
      | (obtain ⟨_, _, _, rfl, _⟩ := h; rfl)
      | (obtain ⟨_, _, _, _, rfl, _⟩ := h; rfl)) (b_moved F k_is_from k_Loop) z_moved
theorem kk_moved (Fd : FunD K "moved" "moved" (defArgs s_moved) (defBody s_moved) (defScope s_moved) [] [] f fd) (hm : mg "moved" = some (.ref f)) (F : Fx K mg q) (k_is_from : Cal P w K mg base "is_from" 1 ["value", "low", "high"] (spP K (r_is_from q))) (k_Loop : Mak P w K mg base "Loop" q.Loop 3 ["self", "machines", "steps", "waits"] (spR K (r_Loopz_initz q))) : Cal P w K mg base "moved" 5 ["loop", "step", "by"] (spP K (r_moved q)) :=
  cal Fd (f_moved Fd F k_is_from k_Loop) hm (fun _ _ _ _ _ _ us hl => match us, hl with | [_, _, _], _ => rfl)
theorem sc__law_told_there : FnScope n__law_told_there ["_law_loop_here", "_law_step", "_law_by"] (defScope s__law_told_there) := ⟨rfl, rfl, rfl, by decide +kernel, rfl, by decide +kernel, by decide +kernel⟩
theorem hk__law_told_there_t0 (F : Fx K mg q) : ∀ D ∈ ([q.BadMove] : List Addr), L2.ExcC K D ∧ PySem.W.kitOne K (.ref D) (.ref q.LoopError) = some true := by
  intro D hD
  simp only [List.mem_cons, List.not_mem_nil, or_false] at hD
  subst hD
  · exact F.xc_BadMove
theorem he__law_told_there_t0 (F : Fx K mg q) : ∀ D ∈ ([q.BadMove] : List Addr), ∀ c ∈ cl__law_told_there_t0 q, PySem.W.exmOne K (.ref D) (.ref c.C) = some (decide (D = c.C)) := by
  intro D hD c hc
  simp only [cl__law_told_there_t0, List.mem_cons, List.not_mem_nil, or_false] at hD hc
  subst hD
  · subst hc
    exact F.xm_BadMove_BadMove
theorem b__law_told_there (F : Fx K mg q) (k_moved : Cal P w K mg base "moved" 5 ["loop", "step", "by"] (spP K (r_moved q))) : BodyOk P w K mg base n__law_told_there "_law_told_there" (defScope s__law_told_there) f (6 - 1) (defBody s__law_told_there) (w__law_told_there q) := by
  intro cdv A outer s H E hr
  have hN : List.Nodup n__law_told_there := sc__law_told_there.nd
  have hu : (A.deeper (envOfC "_law_told_there" (defScope s__law_told_there) s.heap.objs.size f cdv)).units + 64 < cLine := hr.units
  have hu1 : (A.deeper (envOfC "_law_told_there" (defScope s__law_told_there) s.heap.objs.size f cdv)).units + 65 < cLine := by have := hr.un; omega
  have tk : Takes (cxOf (L2.CX P w) P w K mg base n__law_told_there "_law_told_there" (defScope s__law_told_there) f cdv A outer s H E) (fun cls d _ H => E cls d H) := takes_of rfl rfl rfl rfl
  have hx : ∀ σ, PassesAt (L2.CX P w) (cxOf (L2.CX P w) P w K mg base n__law_told_there "_law_told_there" (defScope s__law_told_there) f cdv A outer s H E) σ (L2.WE (fun cls d _ H => E cls d H) σ) := fun σ => passAt tk σ
  have hp : PassesOwn (model P w) (cxOf (L2.CX P w) P w K mg base n__law_told_there "_law_told_there" (defScope s__law_told_there) f cdv A outer s H E).A (cxOf (L2.CX P w) P w K mg base n__law_told_there "_law_told_there" (defScope s__law_told_there) f cdv A outer s H E).env (cxOf (L2.CX P w) P w K mg base n__law_told_there "_law_told_there" (defScope s__law_told_there) f cdv A outer s H E).xe := passes_of rfl
  unfold w__law_told_there
  unfold w__law_told_there_4
  refine dss_cons ?_ ?_
  · refine ds_set (i := 3) hN ?_
    exact de_non
  · unfold w__law_told_there_3
    refine dss_cons ?_ ?_
    · refine ds_try rfl rfl hN tk [q.BadMove] (hk__law_told_there_t0 F) (he__law_told_there_t0 F) ?_ ?_
      · intro W pn xe tk hp
        have hx : ∀ σ, PassesAt (L2.CX P w) _ σ (L2.WE W σ) := fun σ => passAt tk σ
        unfold w__law_told_there_1
        refine dss_one ?_
        refine ds_set (i := 3) hN ?_
        refine de_callP k_moved (hr.mono (by decide)) hx ?_
        refine da_cons ?_ ?_
        · exact (dv 0)
        · refine da_cons ?_ ?_
          · exact (dv 1)
          · refine da_cons ?_ ?_
            · exact (dv 2)
            · exact da_nil
      · unfold cl__law_told_there_t0
        refine HdsD.cons ⟨rfl, by decide, .inl F.m_BadMove⟩ rfl rfl (fun a oe cls d pn hz hf => ?_) ?_
        · exact su_str hN hz hf F.f_isinstance F.m_LoopError (fun _ => rfl)
        exact HdsD.nil
    · unfold w__law_told_there_2
      refine dss_one ?_
      refine ds_ret ?_
      exact (dv 3)
theorem f__law_told_there (Fd : FunD K "_law_told_there" "_law_told_there" (defArgs s__law_told_there) (defBody s__law_told_there) (defScope s__law_told_there) [] [] f fd) (F : Fx K mg q) (k_moved : Cal P w K mg base "moved" 5 ["loop", "step", "by"] (spP K (r_moved q))) : FnOk P w K mg base (L2.CX P w) 6 f fd ["_law_loop_here", "_law_step", "_law_by"] (spP K (r__law_told_there q)) :=
  fn_p _ Fd sc__law_told_there (by
    intro args P Xp h
    first
      | (unfold r__law_told_there at h; split at h <;> first | rfl | exact h.elim)
      | (obtain ⟨_, rfl, _⟩ := h; rfl)
      | (obtain ⟨_, _, rfl, _⟩ := h; rfl)
      | (obtain ⟨_, _, _, rfl, _⟩ := h; rfl)
      | (obtain ⟨_, _, _, _, rfl, _⟩ := h; rfl)) (b__law_told_there F k_moved) z__law_told_there
theorem kk__law_told_there (Fd : FunD K "_law_told_there" "_law_told_there" (defArgs s__law_told_there) (defBody s__law_told_there) (defScope s__law_told_there) [] [] f fd) (hm : mg "_law_told_there" = some (.ref f)) (F : Fx K mg q) (k_moved : Cal P w K mg base "moved" 5 ["loop", "step", "by"] (spP K (r_moved q))) : Cal P w K mg base "_law_told_there" 6 ["_law_loop_here", "_law_step", "_law_by"] (spP K (r__law_told_there q)) :=
  cal Fd (f__law_told_there Fd F k_moved) hm (fun _ _ _ _ _ _ us hl => match us, hl with | [_, _, _], _ => rfl)
theorem sc_law : FnScope n_law ["_law_script"] (defScope s_law) := ⟨rfl, rfl, rfl, by decide +kernel, rfl, by decide +kernel, by decide +kernel⟩
theorem b_law (F : Fx K mg q) (k__law_draws : Cal P w K mg base "_law_draws" 1 ["_law_script"] (spN K (r__law_draws q))) (k__law_loop : Cal P w K mg base "_law_loop" 2 ["_law_row", "_law_most", "_law_waits"] (spR K (r__law_loop q))) (k__law_pick : Cal P w K mg base "_law_pick" 1 ["_law_row", "_law_many"] (spR K (r__law_pick q))) (k__law_made : Cal P w K mg base "_law_made" 5 ["_law_f"] (spP K (r__law_made q))) (k__law_told_there : Cal P w K mg base "_law_told_there" 6 ["_law_loop_here", "_law_step", "_law_by"] (spP K (r__law_told_there q))) (k_Loop : Mak P w K mg base "Loop" q.Loop 3 ["self", "machines", "steps", "waits"] (spR K (r_Loopz_initz q))) (k_Loopz_eqz : OwnE P w K mg base q.Loop 1 ["self", "other"] (spP K (r_Loopz_eqz q))) (k_rings : Cal P w K mg base "rings" 10 ["loop"] (spP K (r_rings q))) : BodyOk P w K mg base n_law "law" (defScope s_law) f (11 - 1) (defBody s_law) (w_law q) := by
  intro cdv A outer s H E hr
  have hN : List.Nodup n_law := sc_law.nd
  have hu : (A.deeper (envOfC "law" (defScope s_law) s.heap.objs.size f cdv)).units + 64 < cLine := hr.units
  have hu1 : (A.deeper (envOfC "law" (defScope s_law) s.heap.objs.size f cdv)).units + 65 < cLine := by have := hr.un; omega
  have tk : Takes (cxOf (L2.CX P w) P w K mg base n_law "law" (defScope s_law) f cdv A outer s H E) (fun cls d _ H => E cls d H) := takes_of rfl rfl rfl rfl
  have hx : ∀ σ, PassesAt (L2.CX P w) (cxOf (L2.CX P w) P w K mg base n_law "law" (defScope s_law) f cdv A outer s H E) σ (L2.WE (fun cls d _ H => E cls d H) σ) := fun σ => passAt tk σ
  have hp : PassesOwn (model P w) (cxOf (L2.CX P w) P w K mg base n_law "law" (defScope s_law) f cdv A outer s H E).A (cxOf (L2.CX P w) P w K mg base n_law "law" (defScope s_law) f cdv A outer s H E).env (cxOf (L2.CX P w) P w K mg base n_law "law" (defScope s_law) f cdv A outer s H E).xe := passes_of rfl
  unfold w_law
  unfold w_law_23
  refine dss_cons ?_ ?_
  · refine ds_set (i := 1) hN ?_
    refine de_callN0 k__law_draws (hr.mono (by decide)) ?_
    refine da_cons ?_ ?_
    · exact (dv 0)
    · exact da_nil
  · unfold w_law_22
    refine dss_cons ?_ ?_
    · refine ds_for (vs := [2]) hp rfl ?_ ?_ ?_
      · refine di_rng1 F.f_range ?_
        refine da_cons ?_ ?_
        · exact de_int
        · exact da_nil
      · exact dg_name hN
      · unfold w_law_20
        refine dss_cons ?_ ?_
        · refine ds_set (i := 3) hN ?_
          refine de_callR0 k__law_loop (hr.mono (by decide)) ?_
          refine da_cons ?_ ?_
          · exact (dv 1)
          · refine da_cons ?_ ?_
            · exact de_int
            · refine da_cons ?_ ?_
              · exact de_int
              · exact da_nil
        · unfold w_law_19
          refine dss_cons ?_ ?_
          · refine ds_par3 (i := 4) (j := 5) (l := 6) rfl hN ?_
            refine da_cons ?_ ?_
            · refine de_callP0 k__law_made (hr.mono (by decide)) ?_
              refine da_cons ?_ ?_
              · exact (dv 3)
              · exact da_nil
            · refine da_cons ?_ ?_
              · refine de_callR0 k__law_pick (hr.mono (by decide)) ?_
                refine da_cons ?_ ?_
                · exact (dv 1)
                · refine da_cons ?_ ?_
                  · refine de_len F.f_len ?_
                    refine da_cons ?_ ?_
                    · refine de_ix ?_ ?_
                      · exact (dv 3)
                      · exact de_int
                    · exact da_nil
                  · exact da_nil
              · refine da_cons ?_ ?_
                · refine de_sub ?_ ?_
                  · refine de_callR0 k__law_pick (hr.mono (by decide)) ?_
                    refine da_cons ?_ ?_
                    · exact (dv 1)
                    · refine da_cons ?_ ?_
                      · exact de_int
                      · exact da_nil
                  · exact de_int
                · exact da_nil
          · unfold w_law_18
            refine dss_cons ?_ ?_
            · refine ds_set (i := 7) hN ?_
              refine de_tup ?_
              exact da_nil
            · unfold w_law_17
              refine dss_cons ?_ ?_
              · refine ds_for (vs := [8, 9, 10, 11]) hp rfl ?_ ?_ ?_
                · refine di_seq ?_
                  refine de_ix ?_ ?_
                  · exact (dv 3)
                  · exact de_int
                · refine dg_tup rfl ?_
                  refine dgs_cons ?_ ?_
                  · exact dg_name hN
                  · refine dgs_cons ?_ ?_
                    · exact dg_name hN
                    · refine dgs_cons ?_ ?_
                      · exact dg_name hN
                      · refine dgs_cons ?_ ?_
                        · exact dg_name hN
                        · exact dgs_nil
                · unfold w_law_5
                  refine dss_cons ?_ ?_
                  · refine ds_if ?_ ?_ ?_
                    · refine dt_w ?_
                      refine dw_and ?_ ?_
                      · refine dt_ne hu ?_ ?_
                        · exact (dv 8)
                        · exact (dv 9)
                      · refine dw_and1 ?_
                        refine dt_eq hu ?_ ?_
                        · exact (dv 9)
                        · exact (dv 5)
                    · unfold w_law_1
                      refine dss_one ?_
                      refine ds_set (i := 11) hN ?_
                      refine de_add ?_ ?_
                      · exact (dv 11)
                      · exact (dv 6)
                    · unfold w_law_3
                      refine dss_one ?_
                      refine ds_if ?_ ?_ ?_
                      · refine dt_w ?_
                        refine dw_and ?_ ?_
                        · refine dt_ne hu ?_ ?_
                          · exact (dv 8)
                          · exact (dv 9)
                        · refine dw_and1 ?_
                          refine dt_eq hu ?_ ?_
                          · exact (dv 8)
                          · exact (dv 5)
                      · unfold w_law_2
                        refine dss_one ?_
                        refine ds_set (i := 11) hN ?_
                        refine de_sub ?_ ?_
                        · exact (dv 11)
                        · exact (dv 6)
                      · exact dss_nil
                  · unfold w_law_4
                    refine dss_one ?_
                    refine ds_set (i := 7) hN ?_
                    refine de_add ?_ ?_
                    · exact (dv 7)
                    · refine de_tup ?_
                      refine da_cons ?_ ?_
                      · refine de_tup ?_
                        refine da_cons ?_ ?_
                        · exact (dv 8)
                        · refine da_cons ?_ ?_
                          · exact (dv 9)
                          · refine da_cons ?_ ?_
                            · exact (dv 10)
                            · refine da_cons ?_ ?_
                              · exact (dv 11)
                              · exact da_nil
                      · exact da_nil
              · unfold w_law_16
                refine dss_cons ?_ ?_
                · refine ds_set (i := 12) hN ?_
                  refine de_eq hu ?_ ?_
                  · refine de_lc [("_law_wait", 15)] rfl hN ?_ (by show BlkOk n_law (defScope s_law) _ _; exact ⟨rfl, by decide +kernel, by decide +kernel, by decide +kernel, by decide +kernel⟩) ?_ ?_ (fun _ _ _ _ _ => (dv 15))
                    · refine di_seq ?_
                      exact (dv 7)
                    · intro _ _ _ _ _
                      exact dg_name hN
                    · intro _ _ _ _ _
                      refine dts_one ?_
                      refine dt_not ?_
                      refine dt_chain op_le so_le op_le so_le ?_ ?_ ?_
                      · exact de_int
                      · refine de_ix ?_ ?_
                        · exact (dv 15)
                        · exact de_int
                      · exact de_int
                  · refine de_lst ?_
                    exact da_nil
                · unfold w_law_15
                  refine dss_cons ?_ ?_
                  · refine ds_set (i := 13) hN ?_
                    refine de_callP0 k__law_told_there (hr.mono (by decide)) ?_
                    refine da_cons ?_ ?_
                    · exact (dv 4)
                    · refine da_cons ?_ ?_
                      · exact (dv 5)
                      · refine da_cons ?_ ?_
                        · exact (dv 6)
                        · exact da_nil
                  · unfold w_law_14
                    refine dss_cons ?_ ?_
                    · refine ds_if ?_ ?_ ?_
                      · refine dt_w ?_
                        refine dw_or ?_ ?_
                        · refine dt_w ?_
                          refine dw_and ?_ ?_
                          · refine dt_val ?_
                            exact (dv 12)
                          · refine dw_and1 ?_
                            refine dt_ownNe k_Loopz_eqz (hr.mono (by decide)) ?_ ?_
                            · exact (dv 13)
                            · refine de_make0 k_Loop (hr.mono (by decide)) ?_
                              refine da_cons ?_ ?_
                              · refine de_ix ?_ ?_
                                · exact (dv 3)
                                · exact de_int
                              · refine da_cons ?_ ?_
                                · refine de_ix ?_ ?_
                                  · exact (dv 3)
                                  · exact de_int
                                · refine da_cons ?_ ?_
                                  · exact (dv 7)
                                  · exact da_nil
                        · refine dw_or1 ?_
                          refine dt_w ?_
                          refine dw_and ?_ ?_
                          · refine dt_not ?_
                            refine dt_val ?_
                            exact (dv 12)
                          · refine dw_and1 ?_
                            refine dt_ne hu ?_ ?_
                            · exact (dv 13)
                            · exact de_str
                      · unfold w_law_6
                        refine dss_one ?_
                        refine ds_ret ?_
                        exact de_bl
                      · exact dss_nil
                    · unfold w_law_13
                      refine dss_cons ?_ ?_
                      · refine ds_if ?_ ?_ ?_
                        · refine dt_w ?_
                          refine dw_and ?_ ?_
                          · refine dt_val ?_
                            exact (dv 12)
                          · refine dw_and1 ?_
                            refine dt_ne hu ?_ ?_
                            · refine de_callP0 k_rings (hr.mono (by decide)) ?_
                              refine da_cons ?_ ?_
                              · exact (dv 13)
                              · exact da_nil
                            · refine de_callP0 k_rings (hr.mono (by decide)) ?_
                              refine da_cons ?_ ?_
                              · exact (dv 4)
                              · exact da_nil
                        · unfold w_law_7
                          refine dss_one ?_
                          refine ds_ret ?_
                          exact de_bl
                        · exact dss_nil
                      · unfold w_law_12
                        refine dss_cons ?_ ?_
                        · refine ds_set (i := 14) hN ?_
                          refine de_ix ?_ ?_
                          · refine de_lst ?_
                            refine da_cons ?_ ?_
                            · refine de_neg ?_
                              exact de_int
                            · refine da_cons ?_ ?_
                              · refine de_len F.f_len ?_
                                refine da_cons ?_ ?_
                                · refine de_ix ?_ ?_
                                  · exact (dv 3)
                                  · exact de_int
                                · exact da_nil
                              · refine da_cons ?_ ?_
                                · exact de_bl
                                · refine da_cons ?_ ?_
                                  · exact de_non
                                  · refine da_cons ?_ ?_
                                    · exact de_str
                                    · exact da_nil
                          · refine de_callR0 k__law_pick (hr.mono (by decide)) ?_
                            refine da_cons ?_ ?_
                            · exact (dv 1)
                            · refine da_cons ?_ ?_
                              · exact de_int
                              · exact da_nil
                        · unfold w_law_11
                          refine dss_cons ?_ ?_
                          · refine ds_if ?_ ?_ ?_
                            · refine dt_ne hu ?_ ?_
                              · refine de_callP0 k__law_told_there (hr.mono (by decide)) ?_
                                refine da_cons ?_ ?_
                                · exact (dv 4)
                                · refine da_cons ?_ ?_
                                  · exact (dv 14)
                                  · refine da_cons ?_ ?_
                                    · exact de_int
                                    · exact da_nil
                              · exact de_str
                            · unfold w_law_8
                              refine dss_one ?_
                              refine ds_ret ?_
                              exact de_bl
                            · exact dss_nil
                          · unfold w_law_10
                            refine dss_one ?_
                            refine ds_if ?_ ?_ ?_
                            · refine dt_ne hu ?_ ?_
                              · refine de_callP0 k__law_told_there (hr.mono (by decide)) ?_
                                refine da_cons ?_ ?_
                                · exact (dv 4)
                                · refine da_cons ?_ ?_
                                  · exact (dv 5)
                                  · refine da_cons ?_ ?_
                                    · refine de_ix ?_ ?_
                                      · refine de_lst ?_
                                        refine da_cons ?_ ?_
                                        · exact de_int
                                        · refine da_cons ?_ ?_
                                          · refine de_neg ?_
                                            exact de_int
                                          · refine da_cons ?_ ?_
                                            · exact de_bl
                                            · refine da_cons ?_ ?_
                                              · exact de_non
                                              · exact da_nil
                                      · refine de_callR0 k__law_pick (hr.mono (by decide)) ?_
                                        refine da_cons ?_ ?_
                                        · exact (dv 1)
                                        · refine da_cons ?_ ?_
                                          · exact de_int
                                          · exact da_nil
                                    · exact da_nil
                              · exact de_str
                            · unfold w_law_9
                              refine dss_one ?_
                              refine ds_ret ?_
                              exact de_bl
                            · exact dss_nil
    · unfold w_law_21
      refine dss_one ?_
      refine ds_ret ?_
      exact de_bl
theorem f_law (Fd : FunD K "law" "law" (defArgs s_law) (defBody s_law) (defScope s_law) [] [] f fd) (F : Fx K mg q) (k__law_draws : Cal P w K mg base "_law_draws" 1 ["_law_script"] (spN K (r__law_draws q))) (k__law_loop : Cal P w K mg base "_law_loop" 2 ["_law_row", "_law_most", "_law_waits"] (spR K (r__law_loop q))) (k__law_pick : Cal P w K mg base "_law_pick" 1 ["_law_row", "_law_many"] (spR K (r__law_pick q))) (k__law_made : Cal P w K mg base "_law_made" 5 ["_law_f"] (spP K (r__law_made q))) (k__law_told_there : Cal P w K mg base "_law_told_there" 6 ["_law_loop_here", "_law_step", "_law_by"] (spP K (r__law_told_there q))) (k_Loop : Mak P w K mg base "Loop" q.Loop 3 ["self", "machines", "steps", "waits"] (spR K (r_Loopz_initz q))) (k_Loopz_eqz : OwnE P w K mg base q.Loop 1 ["self", "other"] (spP K (r_Loopz_eqz q))) (k_rings : Cal P w K mg base "rings" 10 ["loop"] (spP K (r_rings q))) : FnOk P w K mg base (L2.CX P w) 11 f fd ["_law_script"] (spP K (r_law q)) :=
  fn_p _ Fd sc_law (by
    intro args P Xp h
    first
      | (unfold r_law at h; split at h <;> first | rfl | exact h.elim)
      | (obtain ⟨_, rfl, _⟩ := h; rfl)
      | (obtain ⟨_, _, rfl, _⟩ := h; rfl)
      | (obtain ⟨_, _, _, rfl, _⟩ := h; rfl)
      | (obtain ⟨_, _, _, _, rfl, _⟩ := h; rfl)) (b_law F k__law_draws k__law_loop k__law_pick k__law_made k__law_told_there k_Loop k_Loopz_eqz k_rings) z_law
end
end DL

set_option Elab.async false
set_option linter.all false
set_option maxRecDepth 100000
set_option maxHeartbeats 4000000

namespace DL
open PySem L2 PySem.Spec PyProof.Rows
def d_is_from : He.DefD := ⟨("is_from", none), "is_from", "is_from", defArgs s_is_from, defBody s_is_from, defScope s_is_from, [], []⟩
def d_is_step : He.DefD := ⟨("is_step", none), "is_step", "is_step", defArgs s_is_step, defBody s_is_step, defScope s_is_step, [], []⟩
def d_is_wait : He.DefD := ⟨("is_wait", none), "is_wait", "is_wait", defArgs s_is_wait, defBody s_is_wait, defScope s_is_wait, [], []⟩
def d_Loopz_initz : He.DefD := ⟨("Loop", some "__init__"), "__init__", "Loop.__init__", defArgs s_Loopz_initz, defBody s_Loopz_initz, defScope s_Loopz_initz, [], []⟩
def d_Loopz_eqz : He.DefD := ⟨("Loop", some "__eq__"), "__eq__", "Loop.__eq__", defArgs s_Loopz_eqz, defBody s_Loopz_eqz, defScope s_Loopz_eqz, [], []⟩
def d__law_draws : He.DefD := ⟨("_law_draws", none), "_law_draws", "_law_draws", defArgs s__law_draws, defBody s__law_draws, defScope s__law_draws, [], []⟩
def d__law_pick : He.DefD := ⟨("_law_pick", none), "_law_pick", "_law_pick", defArgs s__law_pick, defBody s__law_pick, defScope s__law_pick, [], []⟩
def d__law_loop : He.DefD := ⟨("_law_loop", none), "_law_loop", "_law_loop", defArgs s__law_loop, defBody s__law_loop, defScope s__law_loop, [], []⟩
def d__law_made : He.DefD := ⟨("_law_made", none), "_law_made", "_law_made", defArgs s__law_made, defBody s__law_made, defScope s__law_made, [], []⟩
def d_ring_rows : He.DefD := ⟨("ring_rows", none), "ring_rows", "ring_rows", defArgs s_ring_rows, defBody s_ring_rows, defScope s_ring_rows, [], []⟩
def d_begun : He.DefD := ⟨("begun", none), "begun", "begun", defArgs s_begun, defBody s_begun, defScope s_begun, [], []⟩
def d_rings_of : He.DefD := ⟨("rings_of", none), "rings_of", "rings_of", defArgs s_rings_of, defBody s_rings_of, defScope s_rings_of, [], []⟩
def d_sums_of : He.DefD := ⟨("sums_of", none), "sums_of", "sums_of", defArgs s_sums_of, defBody s_sums_of, defScope s_sums_of, [], []⟩
def d_rings : He.DefD := ⟨("rings", none), "rings", "rings", defArgs s_rings, defBody s_rings, defScope s_rings, [], []⟩
def d_moved : He.DefD := ⟨("moved", none), "moved", "moved", defArgs s_moved, defBody s_moved, defScope s_moved, [], []⟩
def d__law_told_there : He.DefD := ⟨("_law_told_there", none), "_law_told_there", "_law_told_there", defArgs s__law_told_there, defBody s__law_told_there, defScope s__law_told_there, [], []⟩
def d_law : He.DefD := ⟨("law", none), "law", "law", defArgs s_law, defBody s_law, defScope s_law, [], []⟩
def fn : List He.DefD := [d_is_from, d_is_step, d_is_wait, d_Loopz_initz, d_Loopz_eqz, d__law_draws, d__law_pick, d__law_loop, d__law_made, d_ring_rows, d_begun, d_rings_of, d_sums_of, d_rings, d_moved, d__law_told_there, d_law]
def fa_0 : List He.Fa := [.cls "Loop", .int "MOST_BUSY" (3), .int "MOST_BY" (3), .int "MOST_COUNT" (3), .int "MOST_KINDS" (3), .int "MOST_ROUNDS" (3), .int "MOST_STEPS" (5), .int "MOST_WAIT" (6), .int "MOST_WAITS" (10), .exc "BadMove", .glo "BadMove", .free "all", .free "bool", .free "enumerate", .free "int", .free "isinstance", .free "len", .free "list", .free "max", .free "range", .free "sorted", .free "sum", .free "tuple", .glo "Loop", .glo "LoopError"]
def fa_1 : List He.Fa := [.mkr "Loop", .noat "Loop" "bars", .noat "Loop" "counts", .noat "Loop" "rows", .glo "is_from", .glo "is_step", .glo "is_wait", .glo "_law_draws", .glo "_law_pick", .glo "_law_loop", .glo "_law_made", .glo "ring_rows", .glo "begun", .glo "rings_of", .glo "sums_of", .glo "rings", .glo "moved", .glo "_law_told_there", .glo "law"]
def fa : List He.Fa := fa_0 ++ fa_1
def adr (K : Frg) : Ad := ⟨He.ga K "LoopError", He.ga K "BadCosts", He.ga K "BadDistance", He.ga K "BadLimit", He.ga K "BadLine", He.ga K "BadMachines", He.ga K "BadMove", He.ga K "BadPlan", He.ga K "BadSeen", He.ga K "BadSteps", He.ga K "BadTurns", He.ga K "BadWaits", He.ga K "Desk", He.ga K "Lane", He.ga K "Loop", He.ga K "NotThere", He.ga K "Reading", He.ga K "Stuck", He.ga K "TooMany"⟩
abbrev Ro : PySem.W.OpenRow := PySem.W.OpenLaw.row PySem.Challenge.rw_looplanes_k11_steps_moved
def ex : List XFact := [excCB "BadMove", kitCB "BadMove" "LoopError", exmCB "BadMove" "BadMove" true, isCB "Loop", oeB "Loop"]
abbrev hk : PySem.W.Hook := hookX 6 ex fa fn
def ob (s : PySem.W.SharedT) : AlX := obsXG 6 ex fa fn (HandSHeadRun.getT s)
theorem ob_eq (s : PySem.W.SharedT) : ob s = hk.obs s.abs := obsXG_eq (HandSHeadRun.getT_eq s)
def loose_0 : List Str := ["LoopError", "BadMachines", "BadMove", "BadSteps", "BadWaits", "ring_rows", "rings_of", "begun", "sums_of", "rings", "MOST_KINDS", "MOST_COUNT", "MOST_STEPS", "MOST_BUSY", "MOST_WAITS", "MOST_WAIT", "MOST_ROUNDS", "is_from", "is_step", "is_wait", "Loop", "MOST_BY", "moved", "_law_draws", "_law_pick", "_law_loop", "_law_made", "_law_told_there"]
def loose : List Str := loose_0
theorem run (w : World) : HandSHeadRun.RunEq Ro (PySem.W.view Ro.prog [33]) hk ob 3000 loose w := by
  intro os
  kernel_rfl
theorem facts {P : Program} {w : World} {K : Frg} {h : Heap} {mg : Str → Option Value} {f : Addr} (X : K.In h) (G : h.Ns mainGlobals mg) (hfa : mg ("law" : Str) = some (.ref f)) (cx : SaysX ex fa fn K) :
    ∃ fd : FuncData, (∀ (s : Shared) (v : Value), BindsTo s fd ⟨[v], []⟩ [("_law_script", v)]) ∧ ∀ base : Heap, K.In base → base.Ns mainGlobals mg → FnOk P w K mg base (L2.CX P w) 11 f fd ["_law_script"] (spP K (r_law (adr K))) := by
  have c := cx.d
  obtain ⟨fd_is_from, F_is_from⟩ := c.def_ 0 (d := d_is_from) rfl
  obtain ⟨fd_is_step, F_is_step⟩ := c.def_ 1 (d := d_is_step) rfl
  obtain ⟨fd_is_wait, F_is_wait⟩ := c.def_ 2 (d := d_is_wait) rfl
  obtain ⟨fd_Loopz_initz, F_Loopz_initz⟩ := c.def_ 3 (d := d_Loopz_initz) rfl
  obtain ⟨fd_Loopz_eqz, F_Loopz_eqz⟩ := c.def_ 4 (d := d_Loopz_eqz) rfl
  obtain ⟨fd__law_draws, F__law_draws⟩ := c.def_ 5 (d := d__law_draws) rfl
  obtain ⟨fd__law_pick, F__law_pick⟩ := c.def_ 6 (d := d__law_pick) rfl
  obtain ⟨fd__law_loop, F__law_loop⟩ := c.def_ 7 (d := d__law_loop) rfl
  obtain ⟨fd__law_made, F__law_made⟩ := c.def_ 8 (d := d__law_made) rfl
  obtain ⟨fd_ring_rows, F_ring_rows⟩ := c.def_ 9 (d := d_ring_rows) rfl
  obtain ⟨fd_begun, F_begun⟩ := c.def_ 10 (d := d_begun) rfl
  obtain ⟨fd_rings_of, F_rings_of⟩ := c.def_ 11 (d := d_rings_of) rfl
  obtain ⟨fd_sums_of, F_sums_of⟩ := c.def_ 12 (d := d_sums_of) rfl
  obtain ⟨fd_rings, F_rings⟩ := c.def_ 13 (d := d_rings) rfl
  obtain ⟨fd_moved, F_moved⟩ := c.def_ 14 (d := d_moved) rfl
  obtain ⟨fd__law_told_there, F__law_told_there⟩ := c.def_ 15 (d := d__law_told_there) rfl
  obtain ⟨fd_law, F_law⟩ := c.def_ 16 (d := d_law) rfl
  have e := hfa.symm.trans (He.glo_ok X G (c.fact 43 rfl))
  cases e
  have fx : Fx K mg (adr K) := {
    c_Loop := He.cls_ok (c.fact 0 rfl)
    g_MOST_BUSY := He.int_ok X G (c.fact 1 rfl)
    g_MOST_BY := He.int_ok X G (c.fact 2 rfl)
    g_MOST_COUNT := He.int_ok X G (c.fact 3 rfl)
    g_MOST_KINDS := He.int_ok X G (c.fact 4 rfl)
    g_MOST_ROUNDS := He.int_ok X G (c.fact 5 rfl)
    g_MOST_STEPS := He.int_ok X G (c.fact 6 rfl)
    g_MOST_WAIT := He.int_ok X G (c.fact 7 rfl)
    g_MOST_WAITS := He.int_ok X G (c.fact 8 rfl)
    e_BadMove := have z := He.exc_ok (c.fact 9 rfl); ⟨z.1, He.glo_ok X G (c.fact 10 rfl), z.2.1, z.2.2.1, z.2.2.2⟩
    xc_BadMove := ⟨excCB_ok (cx.x 0), kitCB_ok (cx.x 1)⟩
    xm_BadMove_BadMove := exm_eq (cx.x 2)
    f_all := He.free_ok X G (c.fact 11 rfl)
    f_bool := He.free_ok X G (c.fact 12 rfl)
    f_enumerate := He.free_ok X G (c.fact 13 rfl)
    f_int := He.free_ok X G (c.fact 14 rfl)
    f_isinstance := He.free_ok X G (c.fact 15 rfl)
    f_len := He.free_ok X G (c.fact 16 rfl)
    f_list := He.free_ok X G (c.fact 17 rfl)
    f_max := He.free_ok X G (c.fact 18 rfl)
    f_range := He.free_ok X G (c.fact 19 rfl)
    f_sorted := He.free_ok X G (c.fact 20 rfl)
    f_sum := He.free_ok X G (c.fact 21 rfl)
    f_tuple := He.free_ok X G (c.fact 22 rfl)
    m_BadMove := He.glo_ok X G (c.fact 10 rfl)
    m_Loop := He.glo_ok X G (c.fact 23 rfl)
    m_LoopError := He.glo_ok X G (c.fact 24 rfl)
    ic_Loop := isCB_ok (cx.x 3) (He.cls_ok (c.fact 0 rfl))
    k_Loop := ⟨He.glo_ok X G (c.fact 23 rfl), He.mkr_ok (c.fact 25 rfl)⟩
    n_Loop_bars := He.noat_ok (c.fact 26 rfl)
    n_Loop_counts := He.noat_ok (c.fact 27 rfl)
    n_Loop_rows := He.noat_ok (c.fact 28 rfl)
    oe_Loop := oeB_ok (cx.x 4) }
  refine ⟨fd_law, fun s v => FunD.bindsA (ps := ["_law_script"]) F_law (fun _ _ _ _ _ _ us hl => match us, hl with | [_], _ => rfl) s [v] rfl, fun base _ _ => ?_⟩
  have x_is_from := kk_is_from (P := P) (w := w) (base := base) (q := adr K) F_is_from (He.glo_ok X G (c.fact 29 rfl)) fx
  have x_is_step := kk_is_step (P := P) (w := w) (base := base) (q := adr K) F_is_step (He.glo_ok X G (c.fact 30 rfl)) fx x_is_from
  have x_is_wait := kk_is_wait (P := P) (w := w) (base := base) (q := adr K) F_is_wait (He.glo_ok X G (c.fact 31 rfl)) fx x_is_from
  have x_Loop := kk_Loop (P := P) (w := w) (base := base) (q := adr K) F_Loopz_initz fx x_is_from x_is_step x_is_wait
  have x_Loopz_eqz := kk_Loopz_eqz (P := P) (w := w) (base := base) (q := adr K) F_Loopz_eqz fx
  have x__law_draws := kk__law_draws (P := P) (w := w) (base := base) (q := adr K) F__law_draws (He.glo_ok X G (c.fact 32 rfl)) fx
  have x__law_pick := kk__law_pick (P := P) (w := w) (base := base) (q := adr K) F__law_pick (He.glo_ok X G (c.fact 33 rfl)) fx
  have x__law_loop := kk__law_loop (P := P) (w := w) (base := base) (q := adr K) F__law_loop (He.glo_ok X G (c.fact 34 rfl)) fx x__law_pick
  have x__law_made := kk__law_made (P := P) (w := w) (base := base) (q := adr K) F__law_made (He.glo_ok X G (c.fact 35 rfl)) fx x_Loop
  have x_ring_rows := kk_ring_rows (P := P) (w := w) (base := base) (q := adr K) F_ring_rows (He.glo_ok X G (c.fact 36 rfl)) fx
  have x_begun := kk_begun (P := P) (w := w) (base := base) (q := adr K) F_begun (He.glo_ok X G (c.fact 37 rfl)) fx x_ring_rows
  have x_rings_of := kk_rings_of (P := P) (w := w) (base := base) (q := adr K) F_rings_of (He.glo_ok X G (c.fact 38 rfl)) fx x_begun
  have x_sums_of := kk_sums_of (P := P) (w := w) (base := base) (q := adr K) F_sums_of (He.glo_ok X G (c.fact 39 rfl)) fx
  have x_rings := kk_rings (P := P) (w := w) (base := base) (q := adr K) F_rings (He.glo_ok X G (c.fact 40 rfl)) fx x_rings_of x_sums_of
  have x_moved := kk_moved (P := P) (w := w) (base := base) (q := adr K) F_moved (He.glo_ok X G (c.fact 41 rfl)) fx x_is_from x_Loop
  have x__law_told_there := kk__law_told_there (P := P) (w := w) (base := base) (q := adr K) F__law_told_there (He.glo_ok X G (c.fact 42 rfl)) fx x_moved
  exact f_law F_law fx x__law_draws x__law_loop x__law_pick x__law_made x__law_told_there x_Loop x_Loopz_eqz x_rings
end DL
open PySem PySem.W PySem.Calls PyProof.Rows
theorem PySem.Challenge.cw_looplanes_k11_steps_moved_holds : PySem.Challenge.rw_looplanes_k11_steps_moved.Holds := by
  w_on; o_law
  refine HandSHeadRun.head_any (r := OpenLaw.row PySem.Challenge.rw_looplanes_k11_steps_moved) (q := view (OpenLaw.row PySem.Challenge.rw_looplanes_k11_steps_moved).prog [33]) (H := DL.hk) (ob := DL.ob) (M := 3000) (loose := DL.loose) (d := HandSHeadRun.topDef (OpenLaw.row PySem.Challenge.rw_looplanes_k11_steps_moved).prog 33) (kwd := []) DL.ob_eq
    (by kernel_rfl) (fun s => by kernel_rfl) DL.run (by kernel_rfl) (by kernel_rfl) (by kernel_rfl) (by rfl) (by first | assumption | decide +kernel) (by decide +kernel) ⟨rfl, rfl, rfl, rfl, rfl, by decide +kernel⟩ ?hw ?hc
  case hw => w_witness2
  case hc =>
    refine DL.walk_w (l := PySem.Challenge.rw_looplanes_k11_steps_moved) (n := 63) (k := 11) (x := "_law_script") rfl (by decide) (by kernel_rfl) ⟨rfl, by decide, by decide⟩ ?F
    intro w mg fa h Y G hmg0
    obtain ⟨K, KX, c⟩ := Y
    have hmg : mg ("law" : PySem.Str) = some (.ref fa) := by
      have e : (HandSHeadRun.topDef (OpenLaw.row PySem.Challenge.rw_looplanes_k11_steps_moved).prog 33).name = ("law" : PySem.Str) := by kernel_rfl
      rw [← e]
      exact hmg0
    obtain ⟨fd, hb, hF⟩ := DL.facts (P := (PySem.Challenge.rw_looplanes_k11_steps_moved).prog) (w := w) KX G hmg c
    exact ⟨K, fd, DL.adr K, KX, hb, hF⟩
