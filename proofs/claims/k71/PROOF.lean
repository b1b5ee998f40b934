import PyProof.Rows.All
import Wide.All
import OpenK.AllK
import Wide.FinOn
import HandS.ForMost
import HandS.Deep
import HandS.Wide
import HandS.Conv
import HandS.MakeKwOnly
import HandS.Property
import HandS.Exc
import HandS.ExcOwn
import HandS.ExcIs
import HandS.TryOnly
import HandS.CallSlots
import HandS.RaiseMore
import HandS.Small
import HandS.WordsExc
import HandS.FStr
import KE.KDictKeyed
import KE.KDictLaw
import HandS.TupAny
import HandS.IsInst
import HandS.Style
import PyProof.ReprRoads
import PySem.Challenge.RW_armwarrant_k71_unknown_arms_and_forks
import PyProof.StrLawsRepr
set_option Elab.async false
set_option linter.all false
set_option maxRecDepth 100000
set_option maxHeartbeats 4000000
/-! DL: a layer of plain data over HandS. -/
namespace DL
open PySem L2

/-! ### data, cells, stores -/
inductive D where
  | non
  | bl (b : Bool)
  | int (i : Int)
  | str (s : Str)
  | tup (ds : List D)
  | lst (ds : List D)
  | dct (kvs : List (NestedKey × D))
  | ins (C : Addr) (fs : List (Str × D))
  | ref (n : Nat)
  | adr (a : Addr)
inductive Cell where
  | lst (ds : List D)
  | dct (kvs : List (NestedKey × D))
  | ins (C : Addr) (fs : List (Str × D))
abbrev Sto := List Cell
abbrev Dv := List (Option D)

/-! ### keys -/
section
variable (K : PySem.W.Frag) (H : Hp)
mutual
inductive NkV : NestedKey → V → Prop
  | non : NkV .none .non
  | bl {b i} : i = (if b = true then 1 else 0) → NkV (.num i) (.bl b)
  | int (i) : NkV (.num i) (.int i)
  | text (x) : NkV (.text x) (.str x)
  | tup {a vs ks} : SqT K H a vs → NkVs ks vs → NkV (.tup ks) (.ref a)
inductive NkVs : List NestedKey → List V → Prop
  | nil : NkVs [] []
  | cons {k v ks vs} : NkV k v → NkVs ks vs → NkVs (k :: ks) (v :: vs)
end
end

/-- a dict whose keys are nested tuples, at a -/
def dkO (P : Program) (w : World) (a : Addr) (xs : List (NestedKey × Addr × Value)) : HO := .ext fun h =>
  (a == sysModules) = false ∧ xs.length ≤ sizeLine ∧ ∃ o es ep, h.get? a = some o ∧ o.ExactDict ∧ o.data = .dict es ep ∧ es.toList = xs.map (entryOfKey (nestedKind P w)) ∧ (xs.map (·.1)).Nodup

def KRel (K : PySem.W.Frag) (H : Hp) (p : NestedKey × V) (q : NestedKey × Addr × Value) : Prop :=
  p.1 = q.1 ∧ RelV p.2 q.2.2 ∧ NkV K H q.1 (.ref q.2.1) ∧ q.1.depth ≤ 8
def DkAt (P : Program) (w : World) (K : PySem.W.Frag) (H : Hp) (a : Addr) (kvs : List (NestedKey × V)) : Prop :=
  ∃ xs, H a = some (dkO P w a xs) ∧ Paired (KRel K H) kvs xs

/-! ### what a value stands for -/
section
variable (P : Program) (w : World) (K : PySem.W.Frag)
/-- a list that nobody writes any more -/
def LsF (ρ : List Addr) (H : Hp) (a : Addr) (vs : List V) : Prop :=
  (H a = some (.lst vs) ∧ a ∉ ρ) ∨ (∃ o, H a = some (.frz o (.lst vs))) ∨
    ∃ (o : Obj) (its : Array Value) (n : Nat), K.lookup a = some o ∧ o.cls = .type "list" ∧ o.dict = none ∧ o.data = .seq its n ∧ its.size ≤ sizeLine ∧ Vals vs its.toList
mutual
inductive Rep (ρ : List Addr) (H : Hp) : V → D → Prop
  | non : Rep ρ H .non .non
  | bl (b) : Rep ρ H (.bl b) (.bl b)
  | int (i) : Rep ρ H (.int i) (.int i)
  | str (s) : Rep ρ H (.str s) (.str s)
  | tup {a vs ds} : SqT K H a vs → Reps ρ H vs ds → Rep ρ H (.ref a) (.tup ds)
  | lst {a vs ds} : LsF K ρ H a vs → Reps ρ H vs ds → Rep ρ H (.ref a) (.lst ds)
  | dct {a kvs es} : a ∉ ρ → DkAt P w K H a kvs → kvs.map (·.1) = es.map (·.1) → Reps ρ H (kvs.map (·.2)) (es.map (·.2)) → Rep ρ H (.ref a) (.dct es)
  | ins {a C dx fs gs} : a ∉ ρ → H a = some (.ins C dx fs) → fs.map (·.1) = gs.map (·.1) → Reps ρ H (fs.map (·.2)) (gs.map (·.2)) → Rep ρ H (.ref a) (.ins C gs)
  | ref {n a} : ρ[n]? = some a → Rep ρ H (.ref a) (.ref n)
  | adr (a) : Rep ρ H (.ref a) (.adr a)
inductive Reps (ρ : List Addr) (H : Hp) : List V → List D → Prop
  | nil : Reps ρ H [] []
  | cons {v vs d ds} : Rep ρ H v d → Reps ρ H vs ds → Reps ρ H (v :: vs) (d :: ds)
end
def CellAt (ρ : List Addr) (H : Hp) (a : Addr) : Cell → Prop
  | .lst ds => ∃ vs, H a = some (.lst vs) ∧ Reps P w K ρ H vs ds
  | .dct es => ∃ kvs, DkAt P w K H a kvs ∧ kvs.map (·.1) = es.map (·.1) ∧ Reps P w K ρ H (kvs.map (·.2)) (es.map (·.2))
  | .ins C gs => ∃ dx fs, H a = some (.ins C dx fs) ∧ fs.map (·.1) = gs.map (·.1) ∧ Reps P w K ρ H (fs.map (·.2)) (gs.map (·.2))
structure StR (ρ : List Addr) (H : Hp) (θ : Sto) : Prop where
  nd : ρ.Nodup
  len : ρ.length = θ.length
  at_ : ∀ (n : Nat) (a : Addr) (c : Cell), ρ[n]? = some a → θ[n]? = some c → CellAt P w K ρ H a c
def Sl (ρ : List Addr) (H : Hp) (σ : L2.St) (δ : Dv) : Prop :=
  σ.length = δ.length ∧ ∀ (i : Nat) (d : D), δ[i]? = some (some d) → ∃ v, σ[i]? = some (some v) ∧ Rep P w K ρ H v d
end

/-- from one state on to a later one -/
structure Ext (ρ : List Addr) (H : Hp) (ρ' : List Addr) (H' : Hp) : Prop where
  more : ∃ m, ρ' = ρ ++ m ∧ ∀ b ∈ m, H b = none
  keep : ∀ b o, H b = some o → b ∉ ρ → H' b = some o
  tups : ∀ b xs, H b = some (.tup xs) → H' b = some (.tup xs)
  frzs : ∀ b o u, H b = some (.frz o u) → H' b = some (.frz o u)
  there : ∀ b, H' b = none → H b = none

section
variable {P : Program} {w : World} {K : PySem.W.Frag} {ρ ρ' ρ1 ρ2 : List Addr} {H H' H1 H2 : Hp} {a : Addr} {vs : List V}
theorem Ext.refl (ρ : List Addr) (H : Hp) : Ext ρ H ρ H := ⟨⟨[], by simp, by simp⟩, fun _ _ h _ => h, fun _ _ h => h, fun _ _ _ h => h, fun _ h => h⟩
theorem Ext.trans (e1 : Ext ρ H ρ1 H1) (e2 : Ext ρ1 H1 ρ2 H2) : Ext ρ H ρ2 H2 := by
  obtain ⟨m1, rfl, h1⟩ := e1.more
  obtain ⟨m2, rfl, h2⟩ := e2.more
  refine ⟨⟨m1 ++ m2, by rw [List.append_assoc], fun b hb => ?_⟩, fun b o h hb => ?_, fun b xs h => e2.tups b xs (e1.tups b xs h), fun b o u h => e2.frzs b o u (e1.frzs b o u h), fun b h => e1.there b (e2.there b h)⟩
  · rcases List.mem_append.mp hb with hb | hb
    · exact h1 b hb
    · exact e1.there b (h2 b hb)
  · refine e2.keep b o (e1.keep b o h hb) fun q => ?_
    rcases List.mem_append.mp q with q | q
    · exact hb q
    · rw [h1 b q] at h; cases h
theorem Ext.new {p : Addr} {o : HO} (hp : H p = none) : Ext ρ H ρ (upd H p o) :=
  ⟨⟨[], by simp, by simp⟩, fun b u h _ => by rw [upd_ne (ne_of_none h hp)]; exact h, fun b u h => by rw [upd_ne (ne_of_none h hp)]; exact h, fun b o u h => by rw [upd_ne (ne_of_none h hp)]; exact h,
    fun b h => by
      by_cases e : b = p
      · rw [e]; exact hp
      · rw [upd_ne e] at h; exact h⟩
theorem Ext.newCell {p : Addr} {o : HO} (hp : H p = none) : Ext ρ H (ρ ++ [p]) (upd H p o) :=
  ⟨⟨[p], rfl, fun b hb => by rw [List.mem_singleton] at hb; rw [hb]; exact hp⟩, (Ext.new (ρ := ρ) (o := o) hp).keep, (Ext.new (ρ := ρ) (o := o) hp).tups, (Ext.new (ρ := ρ) (o := o) hp).frzs, (Ext.new (ρ := ρ) (o := o) hp).there⟩
/-- a cell is written -/
theorem Ext.put {p : Addr} {o u : HO} (hp : H p = some u) (hm : p ∈ ρ) (ht : ∀ xs, u ≠ .tup xs) (hf : ∀ o x, u ≠ .frz o x) : Ext ρ H ρ (upd H p o) := by
  refine ⟨⟨[], by simp, by simp⟩, fun b v h hb => ?_, fun b v h => ?_, fun b v x h => ?_, fun b h => ?_⟩
  · rw [upd_ne (fun e => hb (by rw [e]; exact hm))]; exact h
  · rw [upd_ne (fun e => by subst e; rw [hp] at h; exact ht v (Option.some.inj h))]; exact h
  · rw [upd_ne (fun e => by subst e; rw [hp] at h; exact hf v x (Option.some.inj h))]; exact h
  · by_cases e : b = p
    · subst e; rw [upd_same] at h; cases h
    · rw [upd_ne e] at h; exact h
theorem Ext.sqt (e : Ext ρ H ρ' H') (h : SqT K H a vs) : SqT K H' a vs := by
  rcases h with (h | ⟨o, h⟩) | h
  · exact .inl (.inl (e.tups _ _ h))
  · exact .inl (.inr ⟨o, e.frzs _ _ _ h⟩)
  · exact .inr h
theorem Ext.notMem (e : Ext ρ H ρ' H') {o : HO} (h : H a = some o) (hn : a ∉ ρ) : a ∉ ρ' := by
  obtain ⟨m, rfl, hm⟩ := e.more
  intro q
  rcases List.mem_append.mp q with q | q
  · exact hn q
  · rw [hm a q] at h; cases h
theorem Ext.lsf (e : Ext ρ H ρ' H') (h : LsF K ρ H a vs) : LsF K ρ' H' a vs := by
  rcases h with ⟨h, hn⟩ | ⟨o, h⟩ | h
  · exact .inl ⟨e.keep _ _ h hn, e.notMem h hn⟩
  · exact .inr (.inl ⟨o, e.frzs _ _ _ h⟩)
  · exact .inr (.inr h)
theorem LsF.sq (h : LsF K ρ H a vs) : SqL K H a vs := by
  rcases h with ⟨h, hn⟩ | ⟨o, h⟩ | h
  · exact .inl (.inl h)
  · exact .inl (.inr ⟨o, h⟩)
  · exact .inr h
mutual
theorem NkV.ext (e : Ext ρ H ρ' H') : ∀ {k : NestedKey} {v : V}, NkV K H k v → NkV K H' k v
  | _, _, .non => .non
  | _, _, .bl h => .bl h
  | _, _, .int i => .int i
  | _, _, .text x => .text x
  | _, _, .tup h hs => .tup (e.sqt h) (NkVs.ext e hs)
theorem NkVs.ext (e : Ext ρ H ρ' H') : ∀ {ks : List NestedKey} {vs : List V}, NkVs K H ks vs → NkVs K H' ks vs
  | _, _, .nil => .nil
  | _, _, .cons h hs => .cons (NkV.ext e h) (NkVs.ext e hs)
end
theorem KRel.ext (e : Ext ρ H ρ' H') {p q} (h : KRel K H p q) : KRel K H' p q := ⟨h.1, h.2.1, h.2.2.1.ext e, h.2.2.2⟩
theorem DkAt.ext {kvs} (e : Ext ρ H ρ' H') (h : DkAt P w K H a kvs) (ha : H' a = H a) : DkAt P w K H' a kvs := by
  obtain ⟨xs, h1, h2⟩ := h
  exact ⟨xs, ha.trans h1, Paired.mapP h2 fun _ _ q => q.ext e⟩
theorem DkAt.ext' {kvs} (e : Ext ρ H ρ' H') (h : DkAt P w K H a kvs) (hn : a ∉ ρ) : DkAt P w K H' a kvs := by
  obtain ⟨xs, h1, h2⟩ := id h
  exact h.ext e ((e.keep _ _ h1 hn).trans h1.symm)
mutual
theorem Rep.ext (e : Ext ρ H ρ' H') : ∀ {v : V} {d : D}, Rep P w K ρ H v d → Rep P w K ρ' H' v d
  | _, _, .non => .non
  | _, _, .bl b => .bl b
  | _, _, .int i => .int i
  | _, _, .str s => .str s
  | _, _, .tup h hs => .tup (e.sqt h) (Reps.ext e hs)
  | _, _, .lst h hs => .lst (e.lsf h) (Reps.ext e hs)
  | _, _, .dct hn h hk hs => .dct (by obtain ⟨xs, h1, _⟩ := h; exact e.notMem h1 hn) (h.ext' e hn) hk (Reps.ext e hs)
  | _, _, .ins hn h hk hs => .ins (e.notMem h hn) (e.keep _ _ h hn) hk (Reps.ext e hs)
  | _, _, .ref h => .ref (by
      obtain ⟨m, q, _⟩ := e.more
      rw [q, List.getElem?_append_left (List.getElem?_eq_some_iff.mp h).1]
      exact h)
  | _, _, .adr a => .adr a
theorem Reps.ext (e : Ext ρ H ρ' H') : ∀ {vs : List V} {ds : List D}, Reps P w K ρ H vs ds → Reps P w K ρ' H' vs ds
  | _, _, .nil => .nil
  | _, _, .cons h hs => .cons (Rep.ext e h) (Reps.ext e hs)
end
theorem Reps.length : ∀ {vs : List V} {ds : List D}, Reps P w K ρ H vs ds → vs.length = ds.length
  | _, _, .nil => rfl
  | _, _, .cons _ hs => by simp [Reps.length hs]
theorem Reps.get : ∀ {vs : List V} {ds : List D} {i : Nat} {d : D}, Reps P w K ρ H vs ds → ds[i]? = some d → ∃ v, vs[i]? = some v ∧ Rep P w K ρ H v d
  | _, _, _, _, .nil, e => by simp at e
  | _, _, 0, _, .cons h _, e => by simp at e; subst e; exact ⟨_, rfl, h⟩
  | _, _, i + 1, _, .cons _ hs, e => by simpa using Reps.get (i := i) hs (by simpa using e)
theorem Reps.append : ∀ {vs us : List V} {ds es : List D}, Reps P w K ρ H vs ds → Reps P w K ρ H us es → Reps P w K ρ H (vs ++ us) (ds ++ es)
  | _, _, _, _, .nil, s => s
  | _, _, _, _, .cons h hs, s => .cons h (Reps.append hs s)
theorem Reps.set {v : V} {d : D} (r : Rep P w K ρ H v d) : ∀ {vs : List V} {ds : List D} (i : Nat), Reps P w K ρ H vs ds → Reps P w K ρ H (vs.set i v) (ds.set i d)
  | _, _, _, .nil => .nil
  | _, _, 0, .cons _ hs => .cons r hs
  | _, _, i + 1, .cons h hs => .cons h (Reps.set r i hs)
theorem Reps.take : ∀ {vs : List V} {ds : List D} (n : Nat), Reps P w K ρ H vs ds → Reps P w K ρ H (vs.take n) (ds.take n)
  | _, _, 0, _ => .nil
  | _, _, _ + 1, .nil => .nil
  | _, _, n + 1, .cons h hs => .cons h (Reps.take n hs)
theorem Reps.drop : ∀ {vs : List V} {ds : List D} (n : Nat), Reps P w K ρ H vs ds → Reps P w K ρ H (vs.drop n) (ds.drop n)
  | _, _, 0, r => r
  | _, _, _ + 1, .nil => .nil
  | _, _, n + 1, .cons _ hs => Reps.drop n hs
theorem Reps.dropLast : ∀ {vs : List V} {ds : List D}, Reps P w K ρ H vs ds → Reps P w K ρ H vs.dropLast ds.dropLast
  | _, _, .nil => .nil
  | _, _, .cons _ .nil => .nil
  | _, _, .cons h (.cons h2 hs) => .cons h (Reps.dropLast (.cons h2 hs))
theorem CellAt.ext {c : Cell} (e : Ext ρ H ρ' H') (h : CellAt P w K ρ H a c) (ha : H' a = H a) : CellAt P w K ρ' H' a c := by
  cases c with
  | lst ds => obtain ⟨vs, h1, h2⟩ := h; exact ⟨vs, ha.trans h1, h2.ext e⟩
  | dct es => obtain ⟨kvs, h1, hk, h2⟩ := h; exact ⟨kvs, h1.ext e ha, hk, h2.ext e⟩
  | ins C gs => obtain ⟨dx, fs, h1, hk, h2⟩ := h; exact ⟨dx, fs, ha.trans h1, hk, h2.ext e⟩
theorem CellAt.some {c : Cell} (h : CellAt P w K ρ H a c) : ∃ o, H a = Option.some o ∧ (∀ xs, o ≠ .tup xs) ∧ ∀ q x, o ≠ .frz q x := by
  cases c with
  | lst ds => obtain ⟨vs, h1, h2⟩ := h; exact ⟨_, h1, (fun _ q => nomatch q), fun _ _ q => nomatch q⟩
  | dct es => obtain ⟨kvs, ⟨xs, h1, _⟩, hk, h2⟩ := h; exact ⟨_, h1, (fun _ q => nomatch q), fun _ _ q => nomatch q⟩
  | ins C gs => obtain ⟨dx, fs, h1, hk, h2⟩ := h; exact ⟨_, h1, (fun _ q => nomatch q), fun _ _ q => nomatch q⟩
theorem StR.cellOf {θ : Sto} (s : StR P w K ρ H θ) (hm : a ∈ ρ) : ∃ (n : Nat) (c : Cell), ρ[n]? = some a ∧ θ[n]? = some c ∧ CellAt P w K ρ H a c := by
  obtain ⟨n, hn⟩ := List.mem_iff_getElem?.mp hm
  have hl : n < θ.length := by rw [← s.len]; exact (List.getElem?_eq_some_iff.mp hn).1
  have hc : θ[n]? = Option.some θ[n] := List.getElem?_eq_getElem hl
  exact ⟨n, θ[n], hn, hc, s.at_ n a _ hn hc⟩
theorem StR.tracked {θ : Sto} (s : StR P w K ρ H θ) (hm : a ∈ ρ) : ∃ o, H a = some o := by
  obtain ⟨n, c, _, _, h⟩ := s.cellOf hm
  obtain ⟨o, h1, _⟩ := h.some
  exact ⟨o, h1⟩
theorem StR.ext {θ : Sto} (e : Ext ρ H ρ H') (s : StR P w K ρ H θ) (ha : ∀ b ∈ ρ, H' b = H b) : StR P w K ρ H' θ :=
  ⟨s.nd, s.len, fun n a c h1 h2 => (s.at_ n a c h1 h2).ext e (ha a (List.mem_of_getElem? h1))⟩
theorem StR.new {θ : Sto} {p : Addr} {o : HO} (s : StR P w K ρ H θ) (hp : H p = none) : StR P w K ρ (upd H p o) θ :=
  s.ext (Ext.new hp) fun b hb => upd_ne fun e => by
    obtain ⟨u, hu⟩ := s.tracked hb
    rw [e, hp] at hu; cases hu
theorem StR.newCell {θ : Sto} {p : Addr} {o : HO} {c : Cell} (s : StR P w K ρ H θ) (hp : H p = none) (hc : CellAt P w K (ρ ++ [p]) (upd H p o) p c) : StR P w K (ρ ++ [p]) (upd H p o) (θ ++ [c]) := by
  have hn : p ∉ ρ := fun q => by
    obtain ⟨u, hu⟩ := s.tracked q
    rw [hp] at hu; cases hu
  refine ⟨?_, by simp [s.len], fun n a c' h1 h2 => ?_⟩
  · rw [List.nodup_append]
    exact ⟨s.nd, by simp, fun b hb d hd => by rw [List.mem_singleton] at hd; rw [hd]; exact fun e => hn (e ▸ hb)⟩
  · by_cases hlt : n < ρ.length
    · rw [List.getElem?_append_left hlt] at h1
      rw [List.getElem?_append_left (by rw [← s.len]; exact hlt)] at h2
      refine (s.at_ n a c' h1 h2).ext (Ext.newCell hp) (upd_ne fun e => ?_)
      exact hn (e ▸ List.mem_of_getElem? h1)
    · rw [List.getElem?_append_right (by omega)] at h1
      rw [List.getElem?_append_right (by rw [← s.len]; omega), ← s.len] at h2
      rcases hz : n - ρ.length with _ | j
      · rw [hz] at h1 h2
        simp at h1 h2
        rw [← h1, ← h2]
        exact hc
      · rw [hz] at h1; simp at h1
theorem StR.put {θ : Sto} {n : Nat} {o : HO} {c c0 : Cell} (s : StR P w K ρ H θ) (h1 : ρ[n]? = some a) (h2 : θ[n]? = some c0) (hc : Ext ρ H ρ (upd H a o) → CellAt P w K ρ (upd H a o) a c) :
    Ext ρ H ρ (upd H a o) ∧ StR P w K ρ (upd H a o) (θ.set n c) := by
  obtain ⟨u, hu, ht, hf⟩ := (s.at_ n a c0 h1 h2).some
  have e : Ext ρ H ρ (upd H a o) := Ext.put hu (List.mem_of_getElem? h1) ht hf
  refine ⟨e, s.nd, by simp [s.len], fun m b c' q1 q2 => ?_⟩
  by_cases hm : m = n
  · subst hm
    rw [h1] at q1; cases q1
    rw [List.getElem?_set_self (List.getElem?_eq_some_iff.mp h2).1] at q2
    cases q2
    exact hc e
  · rw [List.getElem?_set_ne (Ne.symm hm)] at q2
    refine (s.at_ m b c' q1 q2).ext e (upd_ne fun z => hm ?_)
    subst z
    obtain ⟨l1, e1⟩ := List.getElem?_eq_some_iff.mp q1
    obtain ⟨l2, e2⟩ := List.getElem?_eq_some_iff.mp h1
    exact (List.getElem_inj s.nd).mp (e1.trans e2.symm)
theorem Sl.ext {σ : L2.St} {δ : Dv} (e : Ext ρ H ρ' H') (s : Sl P w K ρ H σ δ) : Sl P w K ρ' H' σ δ :=
  ⟨s.1, fun i d h => by obtain ⟨v, h1, h2⟩ := s.2 i d h; exact ⟨v, h1, h2.ext e⟩⟩
theorem Sl.set {σ : L2.St} {δ : Dv} {v : V} {d : D} (s : Sl P w K ρ H σ δ) (i : Nat) (r : Rep P w K ρ H v d) : Sl P w K ρ H (σ.set i (some v)) (δ.set i (some d)) := by
  refine ⟨by simp [s.1], fun j d' h => ?_⟩
  by_cases hj : j = i
  · subst hj
    have hl : j < δ.length := by
      have := (List.getElem?_eq_some_iff.mp h).1
      simpa using this
    rw [List.getElem?_set_self hl] at h
    cases h
    exact ⟨v, List.getElem?_set_self (by rw [s.1]; exact hl), r⟩
  · rw [List.getElem?_set_ne (Ne.symm hj)] at h
    obtain ⟨v', h1, h2⟩ := s.2 j d' h
    exact ⟨v', by rw [List.getElem?_set_ne (Ne.symm hj)]; exact h1, h2⟩
theorem Sl.start {N : List Str} {vs : List V} {ds : List D} (r : Reps P w K ρ H vs ds) : Sl P w K ρ H (L2.start N vs) (ds.map some ++ List.replicate (N.length - ds.length) none) := by
  unfold L2.start
  have hl := r.length
  refine ⟨by simp [hl], fun i d h => ?_⟩
  by_cases hi : i < ds.length
  · rw [List.getElem?_append_left (by simpa using hi), List.getElem?_map] at h
    cases q : ds[i]? with
    | none => rw [q] at h; cases h
    | some d' =>
      rw [q] at h
      cases h
      obtain ⟨v, h1, h2⟩ := r.get q
      exact ⟨v, by rw [List.getElem?_append_left (by simp [hl, hi]), List.getElem?_map, h1]; rfl, h2⟩
  · rw [List.getElem?_append_right (by simp; omega), List.getElem?_replicate] at h
    split at h <;> cases h
end
end DL

set_option Elab.async false
set_option linter.all false
set_option maxRecDepth 100000
set_option maxHeartbeats 4000000
namespace DL
open PySem L2

/-! ### the mirrors' shapes -/
abbrev F := Dv → Sto → Option (D × Sto)
abbrev FT := Dv → Sto → Option (Bool × Sto)
abbrev FA := Dv → Sto → Option (List D × Sto)

def RE (P : Program) (w : World) (K : PySem.W.Frag) (t : TE) (f : F) : Prop := ∀ (σ : L2.St) (H : Hp) (ρ : List Addr) (δ : Dv) (θ : Sto) (d : D) (θ' : Sto) (Q : VK), Sl P w K ρ H σ δ → StR P w K ρ H θ → f δ θ = some (d, θ') →
  (∀ v H' ρ', Ext ρ H ρ' H' → StR P w K ρ' H' θ' → Rep P w K ρ' H' v d → Q v H') → t σ H Q
def RT (P : Program) (w : World) (K : PySem.W.Frag) (t : TT) (f : FT) : Prop := ∀ (σ : L2.St) (H : Hp) (ρ : List Addr) (δ : Dv) (θ : Sto) (b : Bool) (θ' : Sto) (Q : Bool → Hp → Prop), Sl P w K ρ H σ δ → StR P w K ρ H θ → f δ θ = some (b, θ') →
  (∀ H' ρ', Ext ρ H ρ' H' → StR P w K ρ' H' θ' → Q b H') → t σ H Q
def RA (P : Program) (w : World) (K : PySem.W.Frag) (t : TA) (f : FA) : Prop := ∀ (σ : L2.St) (H : Hp) (ρ : List Addr) (δ : Dv) (θ : Sto) (ds : List D) (θ' : Sto) (Q : List V → Hp → Prop), Sl P w K ρ H σ δ → StR P w K ρ H θ → f δ θ = some (ds, θ') →
  (∀ vs H' ρ', Ext ρ H ρ' H' → StR P w K ρ' H' θ' → Reps P w K ρ' H' vs ds → Q vs H') → t σ H Q
structure DE (X : Cx) (e : Expr) (f : F) : Prop where
  ex : ∃ t, PE X e t ∧ RE X.prog X.w X.K t f
structure DT (X : Cx) (e : Expr) (f : FT) : Prop where
  ex : ∃ t, PT X e t ∧ RT X.prog X.w X.K t f
structure DW (X : Cx) (e : Expr) (f : FT) : Prop where
  ex : ∃ t, PW X e t ∧ RT X.prog X.w X.K t f
structure DA (X : Cx) (es : List Expr) (f : FA) : Prop where
  ex : ∃ t, PA X es t ∧ RA X.prog X.w X.K t f

/-- g of the outcome, the store going along -/
def bd {α β : Type} (x : Option (α × Sto)) (g : α → Sto → Option (β × Sto)) : Option (β × Sto) := match x with
  | some (a, θ) => g a θ
  | none => none
theorem bd_some {α β : Type} {x : Option (α × Sto)} {g : α → Sto → Option (β × Sto)} {r : β × Sto} (h : bd x g = some r) : ∃ a θ, x = some (a, θ) ∧ g a θ = some r := by
  unfold bd at h
  split at h
  · rename_i a θ; exact ⟨a, θ, rfl, h⟩
  · cases h
@[simp] theorem bd_mk {α β : Type} (a : α) (θ : Sto) (g : α → Sto → Option (β × Sto)) : bd (some (a, θ)) g = g a θ := rfl
@[simp] theorem bd_none {α β : Type} (g : α → Sto → Option (β × Sto)) : bd (none : Option (α × Sto)) g = none := rfl
/-- a value or nothing, the store as it is -/
def wth {α : Type} (x : Option α) (θ : Sto) : Option (α × Sto) := match x with
  | some a => some (a, θ)
  | none => none
theorem wth_some {α : Type} {x : Option α} {θ θ' : Sto} {a : α} (h : wth x θ = some (a, θ')) : x = some a ∧ θ' = θ := by
  unfold wth at h
  split at h
  · cases h; exact ⟨rfl, rfl⟩
  · cases h
@[simp] theorem wth_mk {α : Type} (a : α) (θ : Sto) : wth (some a) θ = some (a, θ) := rfl
@[simp] theorem wth_none {α : Type} (θ : Sto) : wth (none : Option α) θ = none := rfl

/-! ### names, constants -/
def fVar (i : Nat) : F := fun δ θ => match δ[i]? with
  | some (some d) => some (d, θ)
  | _ => none
def fC (d : D) : F := fun _ θ => some (d, θ)
section
variable {X : Cx} {e a b c : Expr} {es : List Expr} {pos : Pos} {f fa fb fc : F} {ft fu : FT} {fs : FA}
theorem de_var (i : Nat) {x : Str} (hN : X.N[i]? = some x := by rfl) (hv : Vis X.env.scope x := by first | exact Or.inl rfl | exact Or.inr (Or.inl rfl) | exact Or.inr (Or.inr rfl)) (hd : (x == ("__debug__" : Str)) = false := by decide)
    (hcd : (x == ("__classdict__" : Str)) = false := by decide) : DE X (.Name x pos) (fVar i) := by
  refine ⟨_, pe_var (i := i) hN hv hd hcd, fun σ H ρ δ θ d θ' Q hs hθ h q => ?_⟩
  unfold fVar at h
  split at h
  · rename_i d' hd'
    cases h
    obtain ⟨v, h1, h2⟩ := hs.2 i _ hd'
    exact ⟨v, h1, q v H ρ (Ext.refl _ _) hθ h2⟩
  · cases h
theorem re_c {P w K} {v : V} {d : D} (hr : ∀ ρ H, Rep P w K ρ H v d) : RE P w K (tC v) (fC d) := fun σ H ρ δ θ d' θ' Q hs hθ h q => by
  unfold fC at h
  cases h
  exact q v H ρ (Ext.refl _ _) hθ (hr _ _)
theorem de_int {i j} : DE X (.Constant (.int i) j pos) (fC (.int i)) := ⟨_, pe_int, re_c fun _ _ => .int i⟩
theorem de_bl {b j} : DE X (.Constant (.bool b) j pos) (fC (.bl b)) := ⟨_, pe_bl, re_c fun _ _ => .bl b⟩
theorem de_non {j} : DE X (.Constant .none j pos) (fC .non) := ⟨_, pe_non, re_c fun _ _ => .non⟩
theorem de_str {x j} : DE X (.Constant (.str x) j pos) (fC (.str x)) := ⟨_, pe_str, re_c fun _ _ => .str x⟩
/-- a module's constant that is an int, a text .. -/
theorem de_glob {x : Str} {v : V} {u : Value} {d : D} (hg : Gl X x) (hm : X.mg x = some u) (r : RelV v u) (hr : ∀ ρ H, Rep X.prog X.w X.K ρ H v d) (hd : (x == ("__debug__" : Str)) = false := by decide) : DE X (.Name x pos) (fC d) :=
  ⟨_, pe_glob hg hm r hd, re_c hr⟩

/-! ### argument lists, displays -/
def aNil : FA := fun _ θ => some ([], θ)
def aCons (f : F) (fs : FA) : FA := fun δ θ => bd (f δ θ) fun d θ1 => bd (fs δ θ1) fun ds θ2 => some (d :: ds, θ2)
theorem da_nil : DA X [] aNil := ⟨_, pa_nil, fun σ H ρ δ θ ds θ' Q hs hθ h q => by
  unfold aNil at h
  cases h
  exact q [] H ρ (Ext.refl _ _) hθ .nil⟩
theorem da_cons (ha : DE X e f) (hr : DA X es fs) (hs : starEach (e :: es) X.env = (false, eval e X.env) :: starEach es X.env := by rfl) : DA X (e :: es) (aCons f fs) := by
  obtain ⟨t, h1, h2⟩ := ha.ex
  obtain ⟨u, h3, h4⟩ := hr.ex
  refine ⟨_, pa_cons h1 h3 hs, fun σ H ρ δ θ ds θ' Q hs hθ h q => ?_⟩
  obtain ⟨d, θ1, e1, h⟩ := bd_some h
  obtain ⟨ds', θ2, e2, h⟩ := bd_some h
  cases h
  refine h2 σ H ρ δ θ d θ1 _ hs hθ e1 fun v H1 ρ1 x1 s1 r1 => ?_
  refine h4 σ H1 ρ1 δ θ1 ds' _ _ (hs.ext x1) s1 e2 fun vs H2 ρ2 x2 s2 r2 => ?_
  exact q _ H2 ρ2 (x1.trans x2) s2 (.cons (r1.ext x2) r2)
def fTup (fs : FA) : F := fun δ θ => bd (fs δ θ) fun ds θ1 => if ds.length ≤ 10000 then some (.tup ds, θ1) else none
def fLst (fs : FA) : F := fun δ θ => bd (fs δ θ) fun ds θ1 => if ds.length ≤ 10000 then some (.lst ds, θ1) else none
/-- a list that will be written -/
def fLstM (fs : FA) : F := fun δ θ => bd (fs δ θ) fun ds θ1 => if ds.length ≤ 10000 then some (.ref θ1.length, θ1 ++ [.lst ds]) else none
theorem szl {n : Nat} (h : n ≤ 100000) : n ≤ sizeLine := Nat.le_trans h (by decide)
theorem szl' {n : Nat} (h : n ≤ 100000) : n < sizeLine := Nat.lt_of_le_of_lt h (by decide)
theorem upd_ref {P w K} {ρ : List Addr} {H : Hp} {θ : Sto} {p : Addr} {o : HO} {c : Cell} (s : StR P w K ρ H θ) (hp : H p = none) (hc : Ext ρ H (ρ ++ [p]) (upd H p o) → CellAt P w K (ρ ++ [p]) (upd H p o) p c) :
    Ext ρ H (ρ ++ [p]) (upd H p o) ∧ StR P w K (ρ ++ [p]) (upd H p o) (θ ++ [c]) ∧ Rep P w K (ρ ++ [p]) (upd H p o) (.ref p) (.ref θ.length) :=
  ⟨Ext.newCell hp, s.newCell hp (hc (Ext.newCell hp)), .ref (by rw [← s.len, List.getElem?_append_right (Nat.le_refl _)]; simp)⟩
theorem de_tup {k} (ha : DA X es fs) : DE X (.Tuple es k pos) (fTup fs) := by
  obtain ⟨t, h1, h2⟩ := ha.ex
  refine ⟨_, pe_tup h1, fun σ H ρ δ θ d θ' Q hs hθ h q => ?_⟩
  obtain ⟨ds, θ1, e1, h⟩ := bd_some h
  split at h
  · rename_i hl
    cases h
    refine h2 σ H ρ δ θ ds θ' _ hs hθ e1 fun vs H1 ρ1 x1 s1 r1 => ⟨by rw [r1.length]; exact szl (Nat.le_trans hl (by decide)), fun p hp => ?_⟩
    exact q _ _ ρ1 (x1.trans (Ext.new hp)) (s1.new hp) (.tup (SqT.of upd_same) (r1.ext (Ext.new hp)))
  · cases h
theorem lsf_new {K} {ρ : List Addr} {H : Hp} {θ : Sto} {P w} {p : Addr} {vs : List V} (s : StR P w K ρ H θ) (hp : H p = none) : LsF K ρ (upd H p (.lst vs)) p vs :=
  .inl ⟨upd_same, fun q => by obtain ⟨u, hu⟩ := s.tracked q; rw [hp] at hu; cases hu⟩
theorem de_lst (ha : DA X es fs) : DE X (.List es pos) (fLst fs) := by
  obtain ⟨t, h1, h2⟩ := ha.ex
  refine ⟨_, pe_lst h1, fun σ H ρ δ θ d θ' Q hs hθ h q => ?_⟩
  obtain ⟨ds, θ1, e1, h⟩ := bd_some h
  split at h
  · rename_i hl
    cases h
    refine h2 σ H ρ δ θ ds θ' _ hs hθ e1 fun vs H1 ρ1 x1 s1 r1 => ⟨by rw [r1.length]; exact szl (Nat.le_trans hl (by decide)), fun p hp => ?_⟩
    exact q _ _ ρ1 (x1.trans (Ext.new hp)) (s1.new hp) (.lst (lsf_new s1 hp) (r1.ext (Ext.new hp)))
  · cases h
theorem de_lstM (ha : DA X es fs) : DE X (.List es pos) (fLstM fs) := by
  obtain ⟨t, h1, h2⟩ := ha.ex
  refine ⟨_, pe_lst h1, fun σ H ρ δ θ d θ' Q hs hθ h q => ?_⟩
  obtain ⟨ds, θ1, e1, h⟩ := bd_some h
  split at h
  · rename_i hl
    cases h
    refine h2 σ H ρ δ θ ds θ1 _ hs hθ e1 fun vs H1 ρ1 x1 s1 r1 => ⟨by rw [r1.length]; exact szl (Nat.le_trans hl (by decide)), fun p hp => ?_⟩
    obtain ⟨y1, y2, y3⟩ := upd_ref (o := .lst vs) (c := .lst ds) s1 hp fun x2 => ⟨vs, upd_same, r1.ext x2⟩
    exact q _ _ _ (x1.trans y1) y2 y3
  · cases h

/-! ### two-place operations -/
abbrev G2 := Sto → D → D → Option D
def fOp (g : G2) (fa fb : F) : F := fun δ θ => bd (fa δ θ) fun x θ1 => bd (fb δ θ1) fun y θ2 => wth (g θ2 x y) θ2
def R2D (P : Program) (w : World) (K : PySem.W.Frag) (r : R2) (g : G2) : Prop := ∀ (ρ : List Addr) (H : Hp) (θ : Sto) (x y : V) (dx dy d : D) (Q : VK), StR P w K ρ H θ → Rep P w K ρ H x dx → Rep P w K ρ H y dy → g θ dx dy = some d →
  (∀ v H', Ext ρ H ρ H' → StR P w K ρ H' θ → Rep P w K ρ H' v d → Q v H') → r x y H Q
theorem re_op {P w K} {r : R2} {g : G2} {ta tb : TE} (hg : R2D P w K r g) (ha : RE P w K ta fa) (hb : RE P w K tb fb) : RE P w K (tOp r ta tb) (fOp g fa fb) := fun σ H ρ δ θ d θ' Q hs hθ h q => by
  obtain ⟨x, θ1, e1, h⟩ := bd_some h
  obtain ⟨y, θ2, e2, h⟩ := bd_some h
  obtain ⟨e3, rfl⟩ := wth_some h
  refine ha σ H ρ δ θ x θ1 _ hs hθ e1 fun v H1 ρ1 x1 s1 r1 => ?_
  refine hb σ H1 ρ1 δ θ1 y θ' _ (hs.ext x1) s1 e2 fun u H2 ρ2 x2 s2 r2 => ?_
  exact hg ρ2 H2 θ' v u x y d Q s2 (r1.ext x2) r2 e3 fun z H3 x3 s3 r3 => q z H3 ρ2 ((x1.trans x2).trans x3) s3 r3
def OpD (X : Cx) (f : Value → Value → Sem Value) (g : G2) : Prop := ∃ r, OpR X f r ∧ R2D X.prog X.w X.K r g
theorem de_op {op : Operator} {g : G2} (ho : OpD X (binaryOp op) g) (ha : DE X a fa) (hb : DE X b fb) : DE X (.BinOp a op b pos) (fOp g fa fb) := by
  obtain ⟨r, h1, h2⟩ := ho
  obtain ⟨t, h3, h4⟩ := ha.ex
  obtain ⟨u, h5, h6⟩ := hb.ex
  exact ⟨_, pe_op h1 h3 h5, re_op h2 h4 h6⟩
theorem de_cmp {op : CmpOp} {g : G2} (ho : OpD X (compareOp op) g) (ha : DE X a fa) (hb : DE X b fb) (hm : behindInMarks op b = false := by first | exact nomark _ | rfl | (with_unfolding_all rfl)) : DE X (.Compare a [op] [b] pos) (fOp g fa fb) := by
  obtain ⟨r, h1, h2⟩ := ho
  obtain ⟨t, h3, h4⟩ := ha.ex
  obtain ⟨u, h5, h6⟩ := hb.ex
  exact ⟨_, pe_cmpR h1 h3 h5 hm, re_op h2 h4 h6⟩

/-! ### tests -/
def tBf (f : F) : FT := fun δ θ => bd (f δ θ) fun d θ1 => match d with
  | .bl b => some (b, θ1)
  | _ => none
theorem rt_B {P w K} {t : TE} (h : RE P w K t f) : RT P w K (tTest t) (tBf f) := fun σ H ρ δ θ b θ' Q hs hθ e q => by
  obtain ⟨d, θ1, e1, e⟩ := bd_some e
  split at e
  · cases e
    refine h σ H ρ δ θ _ θ' _ hs hθ e1 fun v H1 ρ1 x1 s1 r1 => ?_
    cases r1
    exact ⟨_, rfl, q H1 ρ1 x1 s1⟩
  · cases e
theorem rt_B' {P w K} {t : TE} (h : RE P w K t f) : RT P w K (tB t) (tBf f) := fun σ H ρ δ θ b θ' Q hs hθ e q => by
  obtain ⟨d, θ1, e1, e⟩ := bd_some e
  split at e
  · cases e
    refine h σ H ρ δ θ _ θ' _ hs hθ e1 fun v H1 ρ1 x1 s1 r1 => ?_
    cases r1
    exact ⟨_, rfl, q H1 ρ1 x1 s1⟩
  · cases e
/-- an expression that gives True or False -/
theorem dt_val (h : DE X e f) (he : ∀ whole, isTrue e X.env whole = (do let v ← whole; standAt e.pos; holding [v] (truthy v)) := by intro _; rfl) : DT X e (tBf f) := by
  obtain ⟨t, h1, h2⟩ := h.ex
  exact ⟨_, pt_val h1 he, rt_B' h2⟩
/-- a comparison as a test -/
theorem dt_cmp {op : CmpOp} {g : G2} (ho : OpD X (compareOp op) g) (ha : DE X a fa) (hb : DE X b fb) (hm : behindInMarks op b = false := by first | exact nomark _ | rfl | (with_unfolding_all rfl)) : DT X (.Compare a [op] [b] pos) (tBf (fOp g fa fb)) := by
  obtain ⟨r, h1, h2⟩ := ho
  obtain ⟨t, h3, h4⟩ := ha.ex
  obtain ⟨u, h5, h6⟩ := hb.ex
  exact ⟨_, pt_cmpR h1 h3 h5 hm, rt_B (re_op h2 h4 h6)⟩
def tAndf (ft fu : FT) : FT := fun δ θ => bd (ft δ θ) fun b θ1 => if b = true then fu δ θ1 else some (false, θ1)
def tOrf (ft fu : FT) : FT := fun δ θ => bd (ft δ θ) fun b θ1 => if b = true then some (true, θ1) else fu δ θ1
def tNotf (ft : FT) : FT := fun δ θ => bd (ft δ θ) fun b θ1 => some (!b, θ1)
theorem rt_and {P w K} {t u : TT} (h1 : RT P w K t ft) (h2 : RT P w K u fu) : RT P w K (tAnd t u) (tAndf ft fu) := fun σ H ρ δ θ b θ' Q hs hθ e q => by
  obtain ⟨c, θ1, e1, e⟩ := bd_some e
  refine h1 σ H ρ δ θ c θ1 _ hs hθ e1 fun H1 ρ1 x1 s1 => ?_
  cases c with
  | true =>
    rw [if_pos rfl] at e
    show u σ H1 Q
    exact h2 σ H1 ρ1 δ θ1 b θ' Q (hs.ext x1) s1 e fun H2 ρ2 x2 s2 => q H2 ρ2 (x1.trans x2) s2
  | false =>
    rw [if_neg Bool.false_ne_true] at e
    cases e
    exact q H1 ρ1 x1 s1
theorem rt_or {P w K} {t u : TT} (h1 : RT P w K t ft) (h2 : RT P w K u fu) : RT P w K (tOr t u) (tOrf ft fu) := fun σ H ρ δ θ b θ' Q hs hθ e q => by
  obtain ⟨c, θ1, e1, e⟩ := bd_some e
  refine h1 σ H ρ δ θ c θ1 _ hs hθ e1 fun H1 ρ1 x1 s1 => ?_
  cases c with
  | true =>
    rw [if_pos rfl] at e
    cases e
    exact q H1 ρ1 x1 s1
  | false =>
    rw [if_neg Bool.false_ne_true] at e
    show u σ H1 Q
    exact h2 σ H1 ρ1 δ θ1 b θ' Q (hs.ext x1) s1 e fun H2 ρ2 x2 s2 => q H2 ρ2 (x1.trans x2) s2
theorem dw_and1 (ha : DT X a ft) : DW X (.BoolOp .And [a] pos) ft := by
  obtain ⟨t, h1, h2⟩ := ha.ex
  exact ⟨_, pw_and1 h1, h2⟩
theorem dw_or1 (ha : DT X a ft) : DW X (.BoolOp .Or [a] pos) ft := by
  obtain ⟨t, h1, h2⟩ := ha.ex
  exact ⟨_, pw_or1 h1, h2⟩
theorem dw_and (ha : DT X a ft) (hb : DW X (.BoolOp .And (b :: es) pos) fu) : DW X (.BoolOp .And (a :: b :: es) pos) (tAndf ft fu) := by
  obtain ⟨t, h1, h2⟩ := ha.ex
  obtain ⟨u, h3, h4⟩ := hb.ex
  exact ⟨_, pw_and h1 h3, rt_and h2 h4⟩
theorem dw_or (ha : DT X a ft) (hb : DW X (.BoolOp .Or (b :: es) pos) fu) : DW X (.BoolOp .Or (a :: b :: es) pos) (tOrf ft fu) := by
  obtain ⟨t, h1, h2⟩ := ha.ex
  obtain ⟨u, h3, h4⟩ := hb.ex
  exact ⟨_, pw_or h1 h3, rt_or h2 h4⟩
theorem dt_w (h : DW X e ft) : DT X e ft := by
  obtain ⟨t, h1, h2⟩ := h.ex
  exact ⟨_, h1.pt, h2⟩
theorem dt_not (ha : DT X a ft) : DT X (.UnaryOp .Not a pos) (tNotf ft) := by
  obtain ⟨t, h1, h2⟩ := ha.ex
  refine ⟨_, pt_not h1, fun σ H ρ δ θ b θ' Q hs hθ e q => ?_⟩
  obtain ⟨c, θ1, e1, e⟩ := bd_some e
  cases e
  exact h2 σ H ρ δ θ c θ' _ hs hθ e1 fun H1 ρ1 x1 s1 => q H1 ρ1 x1 s1
/-! and, or, not as values: all but the last True or False -/
def fAnd (fa fb : F) : F := fun δ θ => bd (tBf fa δ θ) fun b θ1 => if b = true then fb δ θ1 else some (.bl false, θ1)
def fOr (fa fb : F) : F := fun δ θ => bd (tBf fa δ θ) fun b θ1 => if b = true then some (.bl true, θ1) else fb δ θ1
def fNot (fa : F) : F := fun δ θ => bd (tBf fa δ θ) fun b θ1 => some (.bl (!b), θ1)
theorem de_one {op} (h : DE X a f) : DE X (.BoolOp op [a] pos) f := by
  obtain ⟨t, h1, h2⟩ := h.ex
  exact ⟨_, pe_one h1, h2⟩
theorem bl_of {P w K} {t : TE} (h : RE P w K t f) {σ : L2.St} {H : Hp} {ρ : List Addr} {δ : Dv} {θ θ' : Sto} {b : Bool} {Q : VK} (hs : Sl P w K ρ H σ δ) (hθ : StR P w K ρ H θ) (e : tBf f δ θ = some (b, θ')) (q : ∀ H' ρ', Ext ρ H ρ' H' → StR P w K ρ' H' θ' → Q (.bl b) H') : t σ H Q := by
  obtain ⟨d, θ1, e1, e⟩ := bd_some e
  split at e
  · cases e
    refine h σ H ρ δ θ _ θ' _ hs hθ e1 fun v H1 ρ1 x1 s1 r1 => ?_
    cases r1
    exact q H1 ρ1 x1 s1
  · cases e
theorem de_and (ha : DE X a fa) (hb : DE X (.BoolOp .And (b :: es) pos) fb) : DE X (.BoolOp .And (a :: b :: es) pos) (fAnd fa fb) := by
  obtain ⟨t, h1, h2⟩ := ha.ex
  obtain ⟨u, h3, h4⟩ := hb.ex
  refine ⟨_, pe_and h1 h3, fun σ H ρ δ θ d θ' Q hs hθ e q => ?_⟩
  obtain ⟨c, θ1, e1, e⟩ := bd_some e
  refine bl_of h2 hs hθ e1 fun H1 ρ1 x1 s1 => ⟨c, rfl, ?_⟩
  cases c with
  | true =>
    rw [if_pos rfl] at e
    show u σ H1 Q
    exact h4 σ H1 ρ1 δ θ1 d θ' Q (hs.ext x1) s1 e fun v H2 ρ2 x2 s2 r2 => q v H2 ρ2 (x1.trans x2) s2 r2
  | false =>
    rw [if_neg Bool.false_ne_true] at e
    cases e
    exact q _ H1 ρ1 x1 s1 (.bl _)
theorem de_or (ha : DE X a fa) (hb : DE X (.BoolOp .Or (b :: es) pos) fb) : DE X (.BoolOp .Or (a :: b :: es) pos) (fOr fa fb) := by
  obtain ⟨t, h1, h2⟩ := ha.ex
  obtain ⟨u, h3, h4⟩ := hb.ex
  refine ⟨_, pe_or h1 h3, fun σ H ρ δ θ d θ' Q hs hθ e q => ?_⟩
  obtain ⟨c, θ1, e1, e⟩ := bd_some e
  refine bl_of h2 hs hθ e1 fun H1 ρ1 x1 s1 => ⟨c, rfl, ?_⟩
  cases c with
  | true =>
    rw [if_pos rfl] at e
    cases e
    exact q _ H1 ρ1 x1 s1 (.bl _)
  | false =>
    rw [if_neg Bool.false_ne_true] at e
    show u σ H1 Q
    exact h4 σ H1 ρ1 δ θ1 d θ' Q (hs.ext x1) s1 e fun v H2 ρ2 x2 s2 r2 => q v H2 ρ2 (x1.trans x2) s2 r2
theorem de_not (ha : DE X a fa) : DE X (.UnaryOp .Not a pos) (fNot fa) := by
  obtain ⟨t, h1, h2⟩ := ha.ex
  refine ⟨_, pe_not h1, fun σ H ρ δ θ d θ' Q hs hθ e q => ?_⟩
  obtain ⟨c, θ1, e1, e⟩ := bd_some e
  cases e
  exact bl_of h2 hs hθ e1 fun H1 ρ1 x1 s1 => ⟨c, rfl, q _ H1 ρ1 x1 s1 (.bl _)⟩
def fIf (ft : FT) (fa fb : F) : F := fun δ θ => bd (ft δ θ) fun b θ1 => if b = true then fa δ θ1 else fb δ θ1
theorem de_if (hc : DT X c ft) (ha : DE X a fa) (hb : DE X b fb) : DE X (.IfExp c a b pos) (fIf ft fa fb) := by
  obtain ⟨t, h1, h2⟩ := hc.ex
  obtain ⟨u, h3, h4⟩ := ha.ex
  obtain ⟨v, h5, h6⟩ := hb.ex
  refine ⟨_, pe_ifExp h1 h3 h5, fun σ H ρ δ θ d θ' Q hs hθ e q => ?_⟩
  obtain ⟨c, θ1, e1, e⟩ := bd_some e
  refine h2 σ H ρ δ θ c θ1 _ hs hθ e1 fun H1 ρ1 x1 s1 => ?_
  cases c with
  | true =>
    rw [if_pos rfl] at e
    show u σ H1 Q
    exact h4 σ H1 ρ1 δ θ1 d θ' Q (hs.ext x1) s1 e fun v H2 ρ2 x2 s2 r2 => q v H2 ρ2 (x1.trans x2) s2 r2
  | false =>
    rw [if_neg Bool.false_ne_true] at e
    show v σ H1 Q
    exact h6 σ H1 ρ1 δ θ1 d θ' Q (hs.ext x1) s1 e fun v H2 ρ2 x2 s2 r2 => q v H2 ρ2 (x1.trans x2) s2 r2
end

/-! ### the operations on data -/
def gI (C : Int → Int → Prop) [∀ i j, Decidable (C i j)] (g : Int → Int → D) : G2 := fun _ x y => match x, y with
  | .int i, .int j => if C i j then some (g i j) else none
  | _, _ => none
theorem r2_I {P w K} {C : Int → Int → Prop} [∀ i j, Decidable (C i j)] {g : Int → Int → D} {g' : Int → Int → V} (hr : ∀ i j ρ H, Rep P w K ρ H (g' i j) (g i j)) : R2D P w K (rI C g') (gI C g) := fun ρ H θ x y dx dy d Q s rx ry h q => by
  unfold gI at h
  split at h
  · cases rx; cases ry
    split at h
    · rename_i hc
      cases h
      exact ⟨_, _, rfl, rfl, hc, q _ H (Ext.refl _ _) s (hr _ _ _ _)⟩
    · cases h
  · cases h
theorem r2_I0 {P w K} {g : Int → Int → D} {g' : Int → Int → V} (hr : ∀ i j ρ H, Rep P w K ρ H (g' i j) (g i j)) : R2D P w K (rI0 g') (gI (fun _ _ => True) g) := fun ρ H θ x y dx dy d Q s rx ry h q => by
  unfold gI at h
  split at h
  · cases rx; cases ry
    rw [if_pos trivial] at h
    cases h
    exact ⟨_, _, rfl, rfl, q _ H (Ext.refl _ _) s (hr _ _ _ _)⟩
  · cases h
noncomputable instance (i j : Int) : Decidable (CMul i j) := Classical.propDecidable _
noncomputable instance (i j : Int) : Decidable (CDiv i j) := Classical.propDecidable _
section
variable {X : Cx}
theorem od_add : OpD X (binaryOp .Add) (gI (fun _ _ => True) fun i j => .int (i + j)) := ⟨_, op_add, r2_I0 fun _ _ _ _ => .int _⟩
theorem od_sub : OpD X (binaryOp .Sub) (gI (fun _ _ => True) fun i j => .int (i - j)) := ⟨_, op_sub, r2_I0 fun _ _ _ _ => .int _⟩
theorem od_mul : OpD X (binaryOp .Mult) (gI CMul fun i j => .int (i * j)) := ⟨_, op_mul, r2_I fun _ _ _ _ => .int _⟩
theorem od_mod : OpD X (binaryOp .Mod) (gI (fun _ j => 0 < j) fun i j => .int (i % j)) := ⟨_, op_mod, r2_I fun _ _ _ _ => .int _⟩
theorem od_fdiv : OpD X (binaryOp .FloorDiv) (gI CDiv fun i j => .int (i / j)) := ⟨_, op_fdiv, r2_I fun _ _ _ _ => .int _⟩
theorem od_lt : OpD X (compareOp .Lt) (gI (fun _ _ => True) fun i j => .bl (decide (i < j))) := ⟨_, op_lt, r2_I0 fun _ _ _ _ => .bl _⟩
theorem od_le : OpD X (compareOp .LtE) (gI (fun _ _ => True) fun i j => .bl (decide (i ≤ j))) := ⟨_, op_le, r2_I0 fun _ _ _ _ => .bl _⟩
theorem od_gt : OpD X (compareOp .Gt) (gI (fun _ _ => True) fun i j => .bl (decide (j < i))) := ⟨_, op_gt, r2_I0 fun _ _ _ _ => .bl _⟩
theorem od_ge : OpD X (compareOp .GtE) (gI (fun _ _ => True) fun i j => .bl (decide (j ≤ i))) := ⟨_, op_ge, r2_I0 fun _ _ _ _ => .bl _⟩
end
end DL

set_option Elab.async false
set_option linter.all false
set_option maxRecDepth 100000
set_option maxHeartbeats 4000000
namespace DL
open PySem L2

/-! ### what is read of the store -/
def lstOf (θ : Sto) : D → Option (List D)
  | .lst ds => some ds
  | .ref n => match θ[n]? with
    | some (.lst ds) => some ds
    | _ => none
  | _ => none
def seqOf (θ : Sto) : D → Option (List D)
  | .tup ds => some ds
  | .lst ds => some ds
  | .ref n => match θ[n]? with
    | some (.lst ds) => some ds
    | _ => none
  | _ => none
def dctOf (θ : Sto) : D → Option (List (NestedKey × D))
  | .dct kvs => some kvs
  | .ref n => match θ[n]? with
    | some (.dct kvs) => some kvs
    | _ => none
  | _ => none
def objOf (θ : Sto) : D → Option (Addr × List (Str × D))
  | .ins C fs => some (C, fs)
  | .ref n => match θ[n]? with
    | some (.ins C fs) => some (C, fs)
    | _ => none
  | _ => none
section
variable {P : Program} {w : World} {K : PySem.W.Frag} {ρ : List Addr} {H : Hp} {θ : Sto} {x : V} {d : D}
theorem lst_of {ds : List D} (s : StR P w K ρ H θ) (r : Rep P w K ρ H x d) (h : lstOf θ d = some ds) : ∃ a vs, x = .ref a ∧ SqL K H a vs ∧ Reps P w K ρ H vs ds := by
  cases r with
  | lst h1 h2 => cases h; exact ⟨_, _, rfl, h1.sq, h2⟩
  | ref hn =>
    rename_i n a
    have h' : (match θ[n]? with
      | some (.lst ds) => some ds
      | _ => none) = some ds := h
    split at h'
    · rename_i ds' hc
      cases h'
      obtain ⟨vs, h1, h2⟩ := s.at_ n a _ hn hc
      exact ⟨a, vs, rfl, SqL.of h1, h2⟩
    · cases h'
  | _ => exact nomatch h
theorem seq_of {ds : List D} (s : StR P w K ρ H θ) (r : Rep P w K ρ H x d) (h : seqOf θ d = some ds) : ∃ a vs, x = .ref a ∧ (SqL K H a vs ∨ SqT K H a vs) ∧ Reps P w K ρ H vs ds := by
  cases r with
  | tup h1 h2 => cases h; exact ⟨_, _, rfl, .inr h1, h2⟩
  | lst h1 h2 => cases h; exact ⟨_, _, rfl, .inl h1.sq, h2⟩
  | ref hn =>
    rename_i n a
    have h' : lstOf θ (.ref n) = some ds := h
    obtain ⟨a', vs, e, h1, h2⟩ := lst_of s (.ref hn) h'
    exact ⟨a', vs, e, .inl h1, h2⟩
  | _ => exact nomatch h
theorem obj_of {C : Addr} {gs : List (Str × D)} (s : StR P w K ρ H θ) (r : Rep P w K ρ H x d) (h : objOf θ d = some (C, gs)) :
    ∃ a dx fs, x = .ref a ∧ H a = some (.ins C dx fs) ∧ fs.map (·.1) = gs.map (·.1) ∧ Reps P w K ρ H (fs.map (·.2)) (gs.map (·.2)) := by
  cases r with
  | ins hn h1 h2 h3 => cases h; exact ⟨_, _, _, rfl, h1, h2, h3⟩
  | ref hn =>
    rename_i n a
    have h' : (match θ[n]? with
      | some (.ins C fs) => some (C, fs)
      | _ => none) = some (C, gs) := h
    split at h'
    · rename_i C' gs' hc
      cases h'
      obtain ⟨dx, fs, h1, h2, h3⟩ := s.at_ n a _ hn hc
      exact ⟨a, dx, fs, rfl, h1, h2, h3⟩
    · cases h'
  | _ => exact nomatch h
theorem dct_of {es : List (NestedKey × D)} (s : StR P w K ρ H θ) (r : Rep P w K ρ H x d) (h : dctOf θ d = some es) :
    ∃ a kvs, x = .ref a ∧ DkAt P w K H a kvs ∧ kvs.map (·.1) = es.map (·.1) ∧ Reps P w K ρ H (kvs.map (·.2)) (es.map (·.2)) := by
  cases r with
  | dct hn h1 h2 h3 => cases h; exact ⟨_, _, rfl, h1, h2, h3⟩
  | ref hn =>
    rename_i n a
    have h' : (match θ[n]? with
      | some (.dct kvs) => some kvs
      | _ => none) = some es := h
    split at h'
    · rename_i gs' hc
      cases h'
      obtain ⟨kvs, h1, h2, h3⟩ := s.at_ n a _ hn hc
      exact ⟨a, kvs, rfl, h1, h2, h3⟩
    · cases h'
  | _ => exact nomatch h
/-- a pair list of fields: the value of a name -/
theorem fld_lookup {fs : List (Str × V)} {gs : List (Str × D)} (h1 : fs.map (·.1) = gs.map (·.1)) (h2 : Reps P w K ρ H (fs.map (·.2)) (gs.map (·.2))) (f : Str) :
    (∀ d, gs.lookup f = some d → ∃ v, fs.lookup f = some v ∧ Rep P w K ρ H v d) ∧ (gs.lookup f = none → fs.lookup f = none) := by
  induction fs generalizing gs with
  | nil =>
    cases gs with
    | nil => exact ⟨(fun d h => nomatch h), fun _ => rfl⟩
    | cons q gs => simp at h1
  | cons p fs ih =>
    cases gs with
    | nil => simp at h1
    | cons q gs =>
      simp only [List.map_cons, List.cons.injEq] at h1 h2
      obtain ⟨e1, e2⟩ := h1
      cases h2 with
      | cons r rs =>
        obtain ⟨i1, i2⟩ := ih e2 rs
        obtain ⟨pn, pv⟩ := p
        obtain ⟨qn, qd⟩ := q
        simp only at e1 r
        subst e1
        by_cases hf : f = pn
        · subst hf
          simp only [List.lookup, beq_self_eq_true]
          exact ⟨fun d h => by cases h; exact ⟨_, rfl, r⟩, fun h => nomatch h⟩
        · have hb : (f == pn) = false := beq_eq_false_iff_ne.mpr hf
          simp only [List.lookup, hb]
          exact ⟨i1, i2⟩
end

/-! ### == -/
mutual
def toPy : D → Option PyData
  | .non => some .none
  | .bl b => some (.bool b)
  | .int i => some (.int i)
  | .str s => some (.str s)
  | .tup ds => (toPys ds).map .tuple
  | .lst ds => (toPys ds).map .list
  | .dct _ => none
  | .ins _ _ => none
  | .ref _ => none
  | .adr _ => none
def toPys : List D → Option (List PyData)
  | [] => some []
  | d :: ds => match toPy d, toPys ds with
    | some p, some ps => some (p :: ps)
    | _, _ => none
end
section
variable {P : Program} {w : World} {K : PySem.W.Frag} {ρ : List Addr} {H : Hp}
mutual
theorem rep_dp : ∀ (d : D) {x : V} {p : PyData}, Rep P w K ρ H x d → toPy d = some p → Dp K H x p
  | .non, _, _, r, h => by cases r; simp only [toPy, Option.some.injEq] at h; subst h; exact .non
  | .bl b, _, _, r, h => by cases r; simp only [toPy, Option.some.injEq] at h; subst h; exact .bl _
  | .int i, _, _, r, h => by cases r; simp only [toPy, Option.some.injEq] at h; subst h; exact .int _
  | .str s, _, _, r, h => by cases r; simp only [toPy, Option.some.injEq] at h; subst h; exact .str _
  | .tup ds, _, _, r, h => by
    simp only [toPy, Option.map_eq_some_iff] at h
    obtain ⟨ps, h, rfl⟩ := h
    cases r with
    | tup h1 h2 => exact .tup h1 (reps_dp ds h2 h)
  | .lst ds, _, _, r, h => by
    simp only [toPy, Option.map_eq_some_iff] at h
    obtain ⟨ps, h, rfl⟩ := h
    cases r with
    | lst h1 h2 => exact .lst h1.sq (reps_dp ds h2 h)
  | .dct _, _, _, _, h => by simp [toPy] at h
  | .ins _ _, _, _, _, h => by simp [toPy] at h
  | .ref _, _, _, _, h => by simp [toPy] at h
  | .adr _, _, _, _, h => by simp [toPy] at h
theorem reps_dp : ∀ (ds : List D) {xs : List V} {ps : List PyData}, Reps P w K ρ H xs ds → toPys ds = some ps → DpAll K H xs ps
  | [], _, _, r, h => by cases r; simp only [toPys, Option.some.injEq] at h; subst h; exact .nil
  | d :: ds, _, _, r, h => by
    simp only [toPys] at h
    split at h
    · rename_i p ps e1 e2
      cases h
      cases r with
      | cons r1 r2 => exact .cons (rep_dp d r1 e1) (reps_dp ds r2 e2)
    · cases h
end
end
def eqD (x y : D) : Option Bool := match toPy x, toPy y with
  | some p, some q => if SeqAt.shaped p = true ∧ SeqAt.shaped q = true then some (PyData.eqv p q) else none
  | _, _ => none
def gEq : G2 := fun _ x y => match eqD x y with
  | some b => some (.bl b)
  | none => none
def gNe : G2 := fun _ x y => match eqD x y with
  | some b => some (.bl (!b))
  | none => none
theorem eqD_some {x y : D} {b : Bool} (h : eqD x y = some b) : ∃ p q, toPy x = some p ∧ toPy y = some q ∧ SeqAt.shaped p = true ∧ SeqAt.shaped q = true ∧ PyData.eqv p q = b := by
  unfold eqD at h
  split at h
  · rename_i p q e1 e2
    split at h
    · rename_i hs
      cases h
      exact ⟨p, q, e1, e2, hs.1, hs.2, rfl⟩
    · cases h
  · cases h
section
variable {X : Cx}
theorem od_eq (hu : X.A.units + 64 < cLine) : OpD X (compareOp .Eq) gEq := ⟨_, op_eqD hu, fun ρ H θ x y dx dy d Q s rx ry h q => by
  unfold gEq at h
  split at h
  · rename_i b e
    cases h
    obtain ⟨p, p', e1, e2, s1, s2, rfl⟩ := eqD_some e
    exact ⟨p, p', rep_dp _ rx e1, rep_dp _ ry e2, s1, s2, q _ H (Ext.refl _ _) s (.bl _)⟩
  · cases h⟩
theorem od_ne (hu : X.A.units + 64 < cLine) : OpD X (compareOp .NotEq) gNe := ⟨_, op_neD hu, fun ρ H θ x y dx dy d Q s rx ry h q => by
  unfold gNe at h
  split at h
  · rename_i b e
    cases h
    obtain ⟨p, p', e1, e2, s1, s2, rfl⟩ := eqD_some e
    exact ⟨p, p', rep_dp _ rx e1, rep_dp _ ry e2, s1, s2, q _ H (Ext.refl _ _) s (.bl _)⟩
  · cases h⟩
def isNonD : D → Bool
  | .non => true
  | _ => false
theorem isNonD_rep {P w K ρ H} {x : V} {d : D} (r : Rep P w K ρ H x d) : decide (x = .non) = isNonD d := by
  cases r <;> simp [isNonD]
def gIsN : G2 := fun _ x y => if isNonD y = true then some (.bl (isNonD x)) else none
def gNotN : G2 := fun _ x y => if isNonD y = true then some (.bl (!isNonD x)) else none
theorem nonD_V {P w K ρ H} {y : V} {d : D} (r : Rep P w K ρ H y d) (h : isNonD d = true) : y = .non := by
  have e := isNonD_rep r
  rw [h] at e
  exact of_decide_eq_true e
theorem od_isN : OpD X (compareOp .Is) gIsN := ⟨_, op_isN, fun ρ H θ x y dx dy d Q s rx ry h q => by
  unfold gIsN at h
  split at h
  · rename_i hy
    cases h
    refine ⟨nonD_V ry hy, ?_⟩
    rw [isNonD_rep rx]
    exact q _ H (Ext.refl _ _) s (.bl _)
  · cases h⟩
theorem od_notN : OpD X (compareOp .IsNot) gNotN := ⟨_, op_notN, fun ρ H θ x y dx dy d Q s rx ry h q => by
  unfold gNotN at h
  split at h
  · rename_i hy
    cases h
    refine ⟨nonD_V ry hy, ?_⟩
    rw [isNonD_rep rx]
    exact q _ H (Ext.refl _ _) s (.bl _)
  · cases h⟩
/-! in a list of data; in a tuple of flat things -/
def memD (θ : Sto) (x y : D) : Option Bool := match lstOf θ y with
  | some ds => match toPy x, toPys ds with
    | some p, some ps => if SeqAt.shaped p = true ∧ SeqAt.shaped (.list ps) = true then some (ps.any fun z => PyData.eqv z p) else none
    | _, _ => none
  | none => none
def gInL : G2 := fun θ x y => match memD θ x y with
  | some b => some (.bl b)
  | none => none
def gNotInL : G2 := fun θ x y => match memD θ x y with
  | some b => some (.bl (!b))
  | none => none
theorem memD_some {P w K ρ H} {θ : Sto} {x y : D} {b : Bool} {u v : V} (s : StR P w K ρ H θ) (rx : Rep P w K ρ H u x) (ry : Rep P w K ρ H v y) (h : memD θ x y = some b) :
    ∃ p ps, Dp K H u p ∧ Dp K H v (.list ps) ∧ SeqAt.shaped p = true ∧ SeqAt.shaped (.list ps) = true ∧ (ps.any fun z => PyData.eqv z p) = b := by
  unfold memD at h
  split at h
  · rename_i ds e0
    split at h
    · rename_i p ps e1 e2
      split at h
      · rename_i hs
        cases h
        obtain ⟨a, vs, rfl, h1, h2⟩ := lst_of s ry e0
        exact ⟨p, ps, rep_dp _ rx e1, .lst h1 (reps_dp _ h2 e2), hs.1, hs.2, rfl⟩
      · cases h
    · cases h
  · cases h
theorem od_inL (hu : X.A.units + 65 < cLine) : OpD X (compareOp .In) gInL := ⟨_, op_inD hu, fun ρ H θ x y dx dy d Q s rx ry h q => by
  unfold gInL at h
  split at h
  · rename_i b e
    cases h
    obtain ⟨p, ps, h1, h2, h3, h4, rfl⟩ := memD_some s rx ry e
    exact ⟨p, ps, h1, h2, h3, h4, q _ H (Ext.refl _ _) s (.bl _)⟩
  · cases h⟩
theorem od_notInL (hu : X.A.units + 65 < cLine) : OpD X (compareOp .NotIn) gNotInL := ⟨_, op_notInD hu, fun ρ H θ x y dx dy d Q s rx ry h q => by
  unfold gNotInL at h
  split at h
  · rename_i b e
    cases h
    obtain ⟨p, ps, h1, h2, h3, h4, rfl⟩ := memD_some s rx ry e
    exact ⟨p, ps, h1, h2, h3, h4, q _ H (Ext.refl _ _) s (.bl _)⟩
  · cases h⟩
/-- flat data, by their values -/
def flatD : D → Option V
  | .non => some .non
  | .bl b => some (.bl b)
  | .int i => some (.int i)
  | .str s => some (.str s)
  | _ => none
def flatDs : List D → Option (List V)
  | [] => some []
  | d :: ds => match flatD d, flatDs ds with
    | some v, some vs => some (v :: vs)
    | _, _ => none
theorem flatD_rep {P w K ρ H} {x v : V} {d : D} (r : Rep P w K ρ H x d) (h : flatD d = some v) : x = v ∧ flatV v = true := by
  cases r <;> simp only [flatD, Option.some.injEq, reduceCtorEq] at h <;> subst h <;> exact ⟨rfl, rfl⟩
theorem flatDs_rep {P w K ρ H} : ∀ {ds : List D} {xs vs : List V}, Reps P w K ρ H xs ds → flatDs ds = some vs → xs = vs ∧ vs.all flatV = true
  | [], _, _, .nil, h => by simp only [flatDs, Option.some.injEq] at h; subst h; exact ⟨rfl, rfl⟩
  | d :: ds, _, _, .cons r rs, h => by
    simp only [flatDs] at h
    split at h
    · rename_i v vs e1 e2
      cases h
      obtain ⟨rfl, f1⟩ := flatD_rep r e1
      obtain ⟨rfl, f2⟩ := flatDs_rep rs e2
      exact ⟨rfl, by simp [f1, f2]⟩
    · cases h
def memF (θ : Sto) (x y : D) : Option Bool := match seqOf θ y with
  | some ds => match flatD x, flatDs ds with
    | some v, some vs => some (inV v vs)
    | _, _ => none
  | none => none
def gInF : G2 := fun θ x y => match memF θ x y with
  | some b => some (.bl b)
  | none => none
def gNotInF : G2 := fun θ x y => match memF θ x y with
  | some b => some (.bl (!b))
  | none => none
theorem memF_some {P w K ρ H} {θ : Sto} {x y : D} {b : Bool} {u v : V} (s : StR P w K ρ H θ) (rx : Rep P w K ρ H u x) (ry : Rep P w K ρ H v y) (h : memF θ x y = some b) :
    ∃ p xs, v = .ref p ∧ (SqL K H p xs ∨ SqT K H p xs) ∧ flatV u = true ∧ xs.all flatV = true ∧ inV u xs = b := by
  unfold memF at h
  split at h
  · rename_i ds e0
    split at h
    · rename_i v' vs e1 e2
      cases h
      obtain ⟨a, zs, rfl, h1, h2⟩ := seq_of s ry e0
      obtain ⟨rfl, f1⟩ := flatD_rep rx e1
      obtain ⟨rfl, f2⟩ := flatDs_rep h2 e2
      exact ⟨a, zs, rfl, h1, f1, f2, rfl⟩
    · cases h
  · cases h
theorem od_inF : OpD X (compareOp .In) gInF := ⟨_, op_in_seq, fun ρ H θ x y dx dy d Q s rx ry h q => by
  unfold gInF at h
  split at h
  · rename_i b e
    cases h
    obtain ⟨p, ps, h1, h2, h3, h4, rfl⟩ := memF_some s rx ry e
    exact ⟨p, ps, h1, h2, h3, h4, q _ H (Ext.refl _ _) s (.bl _)⟩
  · cases h⟩
theorem od_notInF : OpD X (compareOp .NotIn) gNotInF := ⟨_, op_notIn_seq, fun ρ H θ x y dx dy d Q s rx ry h q => by
  unfold gNotInF at h
  split at h
  · rename_i b e
    cases h
    obtain ⟨p, ps, h1, h2, h3, h4, rfl⟩ := memF_some s rx ry e
    exact ⟨p, ps, h1, h2, h3, h4, q _ H (Ext.refl _ _) s (.bl _)⟩
  · cases h⟩
/-! tuple + tuple -/
def gCatT : G2 := fun _ x y => match x, y with
  | .tup (d :: ds), .tup es => if (d :: ds).length + es.length ≤ 10000 then some (.tup (d :: ds ++ es)) else none
  | .tup [], .tup es => if es.length ≤ 10000 then some (.tup es) else none
  | _, _ => none
/-! a[i] -/
def gIx : G2 := fun θ x y => match y with
  | .int i => match seqOf θ x with
    | some ds => atI ds i
    | none => none
  | _ => none
theorem reps_at {P w K ρ H} {ds : List D} {vs : List V} {i : Int} {d : D} (r : Reps P w K ρ H vs ds) (h : atI ds i = some d) : ∃ v, atI vs i = some v ∧ Rep P w K ρ H v d := by
  unfold atI at h ⊢
  rw [r.length]
  cases e : ixN ds.length i with
  | none => rw [e] at h; cases h
  | some j =>
    rw [e] at h
    exact r.get h
theorem r2_ix {P w K} : R2D P w K (rIx K) gIx := fun ρ H θ x y dx dy d Q s rx ry h q => by
  unfold gIx at h
  split at h
  · rename_i i
    cases ry
    split at h
    · rename_i ds e
      obtain ⟨a, vs, rfl, h1, h2⟩ := seq_of s rx e
      obtain ⟨v, h3, h4⟩ := reps_at h2 h
      rcases h1 with h1 | h1
      · exact .inl ⟨a, vs, i, v, rfl, rfl, h1, h3, q v H (Ext.refl _ _) s h4⟩
      · exact .inr (.inl ⟨a, vs, i, v, rfl, rfl, h1, h3, q v H (Ext.refl _ _) s h4⟩)
    · cases h
  · cases h
variable {a b : Expr} {pos : Pos} {fa fb : F}
theorem de_ix (ha : DE X a fa) (hb : DE X b fb) (hs : PlainIx b := by exact fun _ _ => rfl) : DE X (.Subscript a b pos) (fOp gIx fa fb) := by
  obtain ⟨t, h1, h2⟩ := ha.ex
  obtain ⟨u, h3, h4⟩ := hb.ex
  exact ⟨_, pe_ix ix_seq h1 h3 hs, re_op r2_ix h2 h4⟩
end

/-! ### calls of built-ins, the store as it is -/
abbrev GC := Sto → List D → Option D
def fCB (g : GC) (fs : FA) : F := fun δ θ => bd (fs δ θ) fun ds θ1 => wth (g θ1 ds) θ1
def RCD (P : Program) (w : World) (K : PySem.W.Frag) (r : List V → Hp → VK → Prop) (g : GC) : Prop := ∀ (ρ : List Addr) (H : Hp) (θ : Sto) (vs : List V) (ds : List D) (d : D) (Q : VK), StR P w K ρ H θ → Reps P w K ρ H vs ds → g θ ds = some d →
  (∀ v H', Ext ρ H ρ H' → StR P w K ρ H' θ → Rep P w K ρ H' v d → Q v H') → r vs H Q
def CallD (X : Cx) (f : Value) (g : GC) : Prop := ∃ r, CallR X f r ∧ RCD X.prog X.w X.K r g
section
variable {X : Cx} {x : Str} {p pos : Pos} {e : Expr} {es : List Expr} {fs : FA} {id T : String} {g : GC}
theorem re_CB {P w K} {t : TA} {r : List V → Hp → VK → Prop} (hg : RCD P w K r g) (h : RA P w K t fs) : RE P w K (tCB r t) (fCB g fs) := fun σ H ρ δ θ d θ' Q hs hθ e q => by
  obtain ⟨ds, θ1, e1, e⟩ := bd_some e
  obtain ⟨e2, rfl⟩ := wth_some e
  refine h σ H ρ δ θ ds θ' _ hs hθ e1 fun vs H1 ρ1 x1 s1 r1 => ?_
  exact hg ρ1 H1 θ' vs ds d Q s1 r1 e2 fun v H2 x2 s2 r2 => q v H2 ρ1 (x1.trans x2) s2 r2
theorem de_callB (hc : CallD X (.builtin id) g) (hg : Gl X x) (hm : X.mg x = none) (hv : bootBuiltins x = some (.builtin id)) (ha : DA X (e :: es) fs) (hn : x ≠ "__name__" := by decide) (hdb : (x == ("__debug__" : Str)) = false := by decide)
    (he : starEach (e :: es) X.env = (false, eval e X.env) :: starEach es X.env := by rfl) (hpl : (backTo pos (starEach es X.env)).any (·.1) = false := by rfl) : DE X (.Call (.Name x p) (e :: es) [] pos) (fCB g fs) := by
  obtain ⟨r, h1, h2⟩ := hc
  obtain ⟨t, h3, h4⟩ := ha.ex
  exact ⟨_, pe_callB h1 hg hm hv h3 hn hdb he hpl, re_CB h2 h4⟩
theorem de_callTy (hc : CallD X (.type T) g) (hg : Gl X x) (hm : X.mg x = none) (hv : bootBuiltins x = some (.type T)) (ha : DA X (e :: es) fs) (hn : x ≠ "__name__" := by decide) (hdb : (x == ("__debug__" : Str)) = false := by decide)
    (he : starEach (e :: es) X.env = (false, eval e X.env) :: starEach es X.env := by rfl) (hpl : (backTo pos (starEach es X.env)).any (·.1) = false := by rfl) : DE X (.Call (.Name x p) (e :: es) [] pos) (fCB g fs) := by
  obtain ⟨r, h1, h2⟩ := hc
  obtain ⟨t, h3, h4⟩ := ha.ex
  exact ⟨_, pe_callTy h1 hg hm hv h3 hn hdb he hpl, re_CB h2 h4⟩
/-! the functions -/
def gLen : GC := fun θ ds => match ds with
  | [.str s] => if s.length ≤ 100000 then some (.int s.length) else none
  | [d] => match seqOf θ d with
    | some es => some (.int es.length)
    | none => none
  | _ => none
theorem seqOf_str {θ : Sto} {s : Str} : seqOf θ (.str s) = none := rfl
theorem cd_len : CallD X (.builtin "len") gLen := ⟨_, call_len, fun ρ H θ vs ds d Q s r h q => by
  unfold gLen at h
  split at h
  · rename_i z
    split at h
    · rename_i hz
      cases h
      cases r with
      | cons r rs =>
        cases r; cases rs
        exact ⟨_, z.length, rfl, ⟨szl hz, rfl⟩, q _ H (Ext.refl _ _) s (.int _)⟩
    · cases h
  · split at h
    · rename_i es e
      cases h
      cases r with
      | cons r rs =>
        cases rs
        obtain ⟨a, vs, rfl, h1, h2⟩ := seq_of s r e
        refine ⟨_, vs.length, rfl, ?_, by rw [h2.length]; exact q _ H (Ext.refl _ _) s (.int _)⟩
        rcases h1 with h1 | h1
        · exact .inl ⟨vs, h1, rfl⟩
        · exact .inr ⟨vs, h1, rfl⟩
    · cases h
  · cases h⟩
def gList : GC := fun θ ds => match ds with
  | [d] => match seqOf θ d with
    | some es => some (.lst es)
    | none => none
  | _ => none
theorem cd_list : CallD X (.type "list") gList := ⟨_, call_list_of, fun ρ H θ vs ds d Q s r h q => by
  unfold gList at h
  split at h
  · split at h
    · rename_i es e
      cases h
      cases r with
      | cons r rs =>
        cases rs
        obtain ⟨a, vs, rfl, h1, h2⟩ := seq_of s r e
        exact ⟨a, vs, rfl, h1, fun l hl => q _ _ (Ext.new hl) (s.new hl) (.lst (lsf_new s hl) (h2.ext (Ext.new hl)))⟩
    · cases h
  · cases h⟩
def gTuple : GC := fun θ ds => match ds with
  | [.tup es] => some (.tup es)
  | [d] => match lstOf θ d with
    | some es => some (.tup es)
    | none => none
  | _ => none
theorem cd_tuple : CallD X (.type "tuple") gTuple := ⟨_, call_tuple_of, fun ρ H θ vs ds d Q s r h q => by
  unfold gTuple at h
  split at h
  · cases h
    cases r with
    | cons r rs =>
      cases rs
      cases r with
      | tup h1 h2 => exact ⟨_, _, rfl, .inr ⟨h1, q _ H (Ext.refl _ _) s (.tup h1 h2)⟩⟩
  · split at h
    · rename_i es e
      cases h
      cases r with
      | cons r rs =>
        cases rs
        obtain ⟨a, vs, rfl, h1, h2⟩ := lst_of s r e
        exact ⟨a, vs, rfl, .inl ⟨h1, fun l hl => q _ _ (Ext.new hl) (s.new hl) (.tup (SqT.of upd_same) (h2.ext (Ext.new hl)))⟩⟩
    · cases h
  · cases h⟩
def gInt : GC := fun _ ds => match ds with
  | [.int i] => some (.int i)
  | [.bl b] => some (.int (if b then 1 else 0))
  | _ => none
theorem cd_int : CallD X (.type "int") gInt := ⟨_, call_int1, fun ρ H θ vs ds d Q s r h q => by
  unfold gInt at h
  split at h
  · cases h
    cases r with
    | cons r rs => cases rs; cases r; exact .inl ⟨_, rfl, q _ H (Ext.refl _ _) s (.int _)⟩
  · cases h
    cases r with
    | cons r rs => cases rs; cases r; exact .inr ⟨_, rfl, q _ H (Ext.refl _ _) s (.int _)⟩
  · cases h⟩
def blDs : List D → Option (List Bool)
  | [] => some []
  | .bl b :: ds => match blDs ds with
    | some bs => some (b :: bs)
    | none => none
  | _ :: _ => none
theorem blDs_rep {P w K ρ H} : ∀ {ds : List D} {xs : List V} {bs : List Bool}, Reps P w K ρ H xs ds → blDs ds = some bs → xs = bs.map V.bl
  | [], _, _, .nil, h => by simp only [blDs, Option.some.injEq] at h; subst h; rfl
  | .bl b :: ds, _, _, .cons r rs, h => by
    simp only [blDs] at h
    split at h
    · rename_i bs e
      cases h
      cases r
      rw [blDs_rep rs e]
      rfl
    · cases h
  | .non :: _, _, _, _, h => by simp [blDs] at h
  | .int _ :: _, _, _, _, h => by simp [blDs] at h
  | .str _ :: _, _, _, _, h => by simp [blDs] at h
  | .tup _ :: _, _, _, _, h => by simp [blDs] at h
  | .lst _ :: _, _, _, _, h => by simp [blDs] at h
  | .dct _ :: _, _, _, _, h => by simp [blDs] at h
  | .ins _ _ :: _, _, _, _, h => by simp [blDs] at h
  | .ref _ :: _, _, _, _, h => by simp [blDs] at h
def gAll : GC := fun θ ds => match ds with
  | [d] => match lstOf θ d with
    | some es => match blDs es with
      | some bs => some (.bl (bs.all fun b => b))
      | none => none
    | none => none
  | _ => none
theorem cd_all (hc : X.calm = true) : CallD X (.builtin "all") gAll := ⟨_, cr_all hc, fun ρ H θ vs ds d Q s r h q => by
  unfold gAll at h
  split at h
  · split at h
    · rename_i es e
      split at h
      · rename_i bs e2
        cases h
        cases r with
        | cons r rs =>
          cases rs
          obtain ⟨a, vs, rfl, h1, h2⟩ := lst_of s r e
          rw [blDs_rep h2 e2] at h1
          exact ⟨a, bs, rfl, h1, q _ H (Ext.refl _ _) s (.bl _)⟩
      · cases h
    · cases h
  · cases h⟩
/-! sorted of texts -/
def strDs : List D → Option (List Str)
  | [] => some []
  | .str b :: ds => match strDs ds with
    | some bs => some (b :: bs)
    | none => none
  | _ :: _ => none
theorem strDs_rep {P w K ρ H} : ∀ {ds : List D} {xs : List V} {bs : List Str}, Reps P w K ρ H xs ds → strDs ds = some bs → xs = bs.map V.str
  | [], _, _, .nil, h => by simp only [strDs, Option.some.injEq] at h; subst h; rfl
  | .str b :: ds, _, _, .cons r rs, h => by
    simp only [strDs] at h
    split at h
    · rename_i bs e
      cases h
      cases r
      rw [strDs_rep rs e]
      rfl
    · cases h
  | .non :: _, _, _, _, h => by simp [strDs] at h
  | .int _ :: _, _, _, _, h => by simp [strDs] at h
  | .bl _ :: _, _, _, _, h => by simp [strDs] at h
  | .tup _ :: _, _, _, _, h => by simp [strDs] at h
  | .lst _ :: _, _, _, _, h => by simp [strDs] at h
  | .dct _ :: _, _, _, _, h => by simp [strDs] at h
  | .ins _ _ :: _, _, _, _, h => by simp [strDs] at h
  | .ref _ :: _, _, _, _, h => by simp [strDs] at h
end
end DL

set_option Elab.async false
set_option linter.all false
set_option maxRecDepth 100000
set_option maxHeartbeats 4000000
namespace DL
open PySem L2 PySem.Spec

/-! ### sorted of texts -/
def leS (a b : Str) : Bool := !ltCps b.cps.toList a.cps.toList
def sortS (xs : List Str) : List Str := xs.mergeSort leS
theorem str_ext {a b : Str} (h : a.cps.toList = b.cps.toList) : a = b := by
  cases a with
  | mk x =>
    cases b with
    | mk y =>
      have e : x = y := by
        cases x; cases y
        simpa using h
      rw [e]
theorem leS_iff (a b : Str) : leS a b = true ↔ a.cps.toList ≤ b.cps.toList := by
  unfold leS
  rw [PyProof.Rows.ltCps_eq]
  simp
theorem leS_trans (a b c : Str) : leS a b = true → leS b c = true → leS a c = true := by
  rw [leS_iff, leS_iff, leS_iff]
  exact fun h1 h2 => List.le_trans h1 h2
theorem leS_total (a b : Str) : (leS a b || leS b a) = true := by
  rw [Bool.or_eq_true, leS_iff, leS_iff]
  exact List.le_total _ _
theorem leS_anti (a b : Str) (h1 : leS a b = true) (h2 : leS b a = true) : a = b := by
  rw [leS_iff] at h1 h2
  exact str_ext (List.le_antisymm h1 h2)
theorem pair_of_rising : ∀ (l : List Str) (p : Str), PyProof.Rows.risingS p l = true → (p :: l).Pairwise fun a b => leS a b = true
  | [], p, _ => by simp
  | x :: r, p, h => by
    have h' : (!ltCps x.cps.toList p.cps.toList && PyProof.Rows.risingS x r) = true := h
    rw [Bool.and_eq_true] at h'
    have ih := pair_of_rising r x h'.2
    have hp : leS p x = true := h'.1
    refine List.pairwise_cons.mpr ⟨fun y hy => ?_, ih⟩
    rcases List.mem_cons.mp hy with rfl | hy
    · exact hp
    · exact leS_trans p x y hp ((List.pairwise_cons.mp ih).1 y hy)
theorem sortS_of {xs ys : List Str} (hp : ys.Perm xs) (hs : PyProof.Rows.sortedS ys = true) : ys = sortS xs := by
  have h1 : ys.Pairwise fun a b => leS a b = true := by
    cases ys with
    | nil => exact List.Pairwise.nil
    | cons p l => exact pair_of_rising l p hs
  have h2 : (sortS xs).Pairwise fun a b => leS a b = true := List.pairwise_mergeSort leS_trans leS_total xs
  exact List.Perm.eq_of_pairwise (fun a b _ _ => leS_anti a b) h1 h2 (hp.trans (List.mergeSort_perm xs leS).symm)
theorem sortS_perm {xs ys : List Str} (hp : ys.Perm xs) : sortS ys = sortS xs := by
  refine List.Perm.eq_of_pairwise (fun a b _ _ => leS_anti a b) (List.pairwise_mergeSort leS_trans leS_total ys) (List.pairwise_mergeSort leS_trans leS_total xs) ?_
  exact (List.mergeSort_perm ys leS).trans (hp.trans (List.mergeSort_perm xs leS).symm)
theorem sortS_is_perm (xs : List Str) : (sortS xs).Perm xs := List.mergeSort_perm xs leS
def gSortS : GC := fun θ ds => match ds with
  | [d] => match lstOf θ d with
    | some es => match strDs es with
      | some ss => if ss.length < 64 then some (.lst ((sortS ss).map D.str)) else none
      | none => none
    | none => none
  | _ => none
theorem reps_strs {P w K ρ H} : ∀ ss : List Str, Reps P w K ρ H (ss.map V.str) (ss.map D.str)
  | [] => .nil
  | s :: ss => .cons (.str s) (reps_strs ss)
theorem cd_sortedS {X : Cx} : CallD X (.builtin "sorted") gSortS := ⟨_, cr_sortedS, fun ρ H θ vs ds d Q s r h q => by
  unfold gSortS at h
  split at h
  · split at h
    · rename_i es e
      split at h
      · rename_i ss e2
        split at h
        · rename_i hl
          cases h
          cases r with
          | cons r rs =>
            cases rs
            obtain ⟨a, vs, rfl, h1, h2⟩ := lst_of s r e
            rw [strDs_rep h2 e2] at h1
            refine ⟨a, ss, rfl, h1, hl, fun ys p hy hs hp => ?_⟩
            rw [sortS_of hy hs]
            exact q _ _ (Ext.new hp) (s.new hp) (.lst (lsf_new s hp) (reps_strs _))
        · cases h
      · cases h
    · cases h
  · cases h⟩

/-! ### dicts whose keys are nested tuples -/
mutual
def toNK : D → Option NestedKey
  | .non => some .none
  | .bl b => some (.num (if b = true then 1 else 0))
  | .int i => some (.num i)
  | .str s => some (.text s)
  | .tup ds => (toNKs ds).map .tup
  | .lst _ => none
  | .dct _ => none
  | .ins _ _ => none
  | .ref _ => none
  | .adr _ => none
def toNKs : List D → Option (List NestedKey)
  | [] => some []
  | d :: ds => match toNK d, toNKs ds with
    | some p, some ps => some (p :: ps)
    | _, _ => none
end
/-- a tuple as a key -/
def keyD (d : D) : Option NestedKey := match d with
  | .tup ds => match toNKs ds with
    | some ks => if (NestedKey.tup ks).depth ≤ 8 then some (.tup ks) else none
    | none => none
  | _ => none
section
variable {P : Program} {w : World} {K : PySem.W.Frag} {ρ : List Addr} {H : Hp}
mutual
theorem rep_nk : ∀ (d : D) {x : V} {p : NestedKey}, Rep P w K ρ H x d → toNK d = some p → NkV K H p x
  | .non, _, _, r, h => by cases r; simp only [toNK, Option.some.injEq] at h; subst h; exact .non
  | .bl b, _, _, r, h => by cases r; simp only [toNK, Option.some.injEq] at h; subst h; exact .bl rfl
  | .int i, _, _, r, h => by cases r; simp only [toNK, Option.some.injEq] at h; subst h; exact .int _
  | .str s, _, _, r, h => by cases r; simp only [toNK, Option.some.injEq] at h; subst h; exact .text _
  | .tup ds, _, _, r, h => by
    simp only [toNK, Option.map_eq_some_iff] at h
    obtain ⟨ps, h, rfl⟩ := h
    cases r with
    | tup h1 h2 => exact .tup h1 (reps_nk ds h2 h)
  | .lst ds, _, _, r, h => by simp [toNK] at h
  | .dct _, _, _, _, h => by simp [toNK] at h
  | .ins _ _, _, _, _, h => by simp [toNK] at h
  | .ref _, _, _, _, h => by simp [toNK] at h
  | .adr _, _, _, _, h => by simp [toNK] at h
theorem reps_nk : ∀ (ds : List D) {xs : List V} {ps : List NestedKey}, Reps P w K ρ H xs ds → toNKs ds = some ps → NkVs K H ps xs
  | [], _, _, r, h => by cases r; simp only [toNKs, Option.some.injEq] at h; subst h; exact .nil
  | d :: ds, _, _, r, h => by
    simp only [toNKs] at h
    split at h
    · rename_i p ps e1 e2
      cases h
      cases r with
      | cons r1 r2 => exact .cons (rep_nk d r1 e1) (reps_nk ds r2 e2)
    · cases h
end
theorem keyD_rep {d : D} {x : V} {k : NestedKey} (r : Rep P w K ρ H x d) (h : keyD d = some k) : ∃ b, x = .ref b ∧ NkV K H k (.ref b) ∧ k.depth ≤ 8 := by
  unfold keyD at h
  split at h
  · rename_i ds
    split at h
    · rename_i ks e
      split at h
      · rename_i hd
        cases h
        cases r with
        | tup h1 h2 => exact ⟨_, rfl, .tup h1 (reps_nk ds h2 e), hd⟩
      · cases h
    · cases h
  · cases h
end
section
variable {X : Cx} {pins : List (Addr × Obj)} {σ : L2.St} {H : Hp} {s : Shared}
mutual
theorem nested_is (I : Inv X pins σ H s) : ∀ (k : NestedKey) {x : V} {u : Value}, NkV X.K H k x → RelV x u → NestedIs s.heap k u
  | .none, _, _, h, r => by cases h; cases r; exact .none
  | .num i, _, _, h, r => by
    cases h with
    | bl e => cases r; exact .bool e
    | int i => obtain ⟨t, rfl⟩ := r; exact .int _ _
  | .text x, _, _, h, r => by cases h; obtain ⟨t, rfl⟩ := r; exact .text _ _
  | .tup ks, _, _, h, r => by
    cases h with
    | tup h1 h2 =>
      cases r
      obtain ⟨its, rv, ⟨o, ho, hc, n, hd⟩, _⟩ := I.tuple h1
      exact .tup ho hc hd (nested_all I ks h2 rv)
theorem nested_all (I : Inv X pins σ H s) : ∀ (ks : List NestedKey) {xs : List V} {us : List Value}, NkVs X.K H ks xs → Vals xs us → NestedAll s.heap ks us
  | [], _, _, h, r => by cases h; cases r; exact .nil
  | k :: ks, _, _, h, r => by
    cases h with
    | cons h1 h2 =>
      cases r with
      | cons r1 r2 => exact .cons (nested_is I k h1 r1) (nested_all I ks h2 r2)
end
theorem nk_is (I : Inv X pins σ H s) {k : NestedKey} {b : Addr} (h : NkV X.K H k (.ref b)) (hd : k.depth ≤ 8) : (nestedKind X.prog X.w).is s.heap k b := ⟨nested_is I k h rfl, hd⟩
theorem dk_at (I : Inv X pins σ H s) {a : Addr} {kvs : List (NestedKey × V)} (h : DkAt X.prog X.w X.K H a kvs) :
    ∃ xs, H a = some (dkO X.prog X.w a xs) ∧ Paired (KRel X.K H) kvs xs ∧ (a == sysModules) = false ∧ xs.length ≤ sizeLine ∧ s.heap.DictOfH (nestedKind X.prog X.w) a xs := by
  obtain ⟨xs, h1, h2⟩ := h
  obtain ⟨⟨z1, z2, o, es, ep, q1, q2, q3, q4, q5⟩, _⟩ := I.hok a _ h1
  refine ⟨xs, h1, h2, z1, z2, o, es, ep, q1, q2, q3, q4, fun x hx => ?_, q5⟩
  obtain ⟨i, hi⟩ := List.mem_iff_getElem?.mp hx
  have : ∀ {l₁ : List (NestedKey × V)} {l₂ : List (NestedKey × Addr × Value)} {i : Nat}, Paired (KRel X.K H) l₁ l₂ → l₂[i]? = some x → ∃ p, KRel X.K H p x := by
    intro l₁ l₂ i r
    induction r generalizing i with
    | nil => intro e; simp at e
    | cons q _ ih =>
      intro e
      cases i with
      | zero => simp at e; subst e; exact ⟨_, q⟩
      | succ j => exact ih (by simpa using e)
  obtain ⟨p, hp⟩ := this h2 hi
  exact nk_is I hp.2.2.1 hp.2.2.2
end
def dGet {α : Type} (kvs : List (NestedKey × α)) (k : NestedKey) : Option α := (kvs.find? fun p => decide (p.1 = k)).map (·.2)
def dPut {α : Type} (kvs : List (NestedKey × α)) (k : NestedKey) (v : α) : List (NestedKey × α) :=
  if (dGet kvs k).isSome = true then kvs.map (fun p => if p.1 = k then (p.1, v) else p) else kvs ++ [(k, v)]
theorem krel_get {K H} {kvs : List (NestedKey × V)} {xs : List (NestedKey × Addr × Value)} (r : Paired (KRel K H) kvs xs) (k : NestedKey) :
    (∀ v, dGet kvs k = some v → ∃ p, atKey xs k = some p ∧ RelV v p.2) ∧ (dGet kvs k = none → atKey xs k = none) := by
  induction r with
  | nil => exact ⟨(fun v h => nomatch h), fun _ => rfl⟩
  | cons q tl ih =>
    rename_i p x ps xs'
    by_cases hk : p.1 = k
    · have hk' : x.1 = k := q.1 ▸ hk
      simp only [dGet, atKey, List.find?_cons, hk, hk', decide_true]
      exact ⟨fun v h => by cases h; exact ⟨_, rfl, q.2.1⟩, fun h => nomatch h⟩
    · have hk' : ¬ x.1 = k := fun e => hk (q.1.trans e)
      simp only [dGet, atKey, List.find?_cons, hk, hk', decide_false]
      exact ih
theorem krel_put {K H} {kvs : List (NestedKey × V)} {xs : List (NestedKey × Addr × Value)} (r : Paired (KRel K H) kvs xs) {k : NestedKey} {b : Addr} {v : V} {u : Value} (hb : NkV K H k (.ref b)) (hd : k.depth ≤ 8) (rv : RelV v u) :
    Paired (KRel K H) (dPut kvs k v) (storedH xs k b u) := by
  have h := krel_get r k
  unfold dPut storedH
  cases e : dGet kvs k with
  | none =>
    rw [h.2 e]
    simp only [Option.isSome_none, Bool.false_eq_true, if_false]
    clear h e
    induction r with
    | nil => exact .cons ⟨rfl, rv, hb, hd⟩ .nil
    | cons q _ ih => exact .cons q ih
  | some v0 =>
    obtain ⟨p, hp, _⟩ := h.1 v0 e
    rw [hp]
    simp only [Option.isSome_some, if_true]
    clear h e hp
    induction r with
    | nil => exact .nil
    | cons q tl ih =>
      rename_i p' x ps xs'
      refine .cons ?_ ih
      by_cases hk : p'.1 = k
      · have hk' : x.1 = k := q.1 ▸ hk
        simp only [hk, if_true, putAt, hk']
        exact ⟨rfl, rv, hk' ▸ q.2.2.1, hk' ▸ q.2.2.2⟩
      · have hk' : ¬ x.1 = k := fun e => hk (q.1.trans e)
        simp only [hk, if_false, putAt, hk']
        exact q
theorem dGet_rel {P w K ρ H} {kvs : List (NestedKey × V)} {es : List (NestedKey × D)} (h1 : kvs.map (·.1) = es.map (·.1)) (h2 : Reps P w K ρ H (kvs.map (·.2)) (es.map (·.2))) (k : NestedKey) :
    (∀ d, dGet es k = some d → ∃ v, dGet kvs k = some v ∧ Rep P w K ρ H v d) ∧ (dGet es k = none → dGet kvs k = none) := by
  induction kvs generalizing es with
  | nil =>
    cases es with
    | nil => exact ⟨(fun d h => nomatch h), fun _ => rfl⟩
    | cons q es => simp at h1
  | cons p kvs ih =>
    cases es with
    | nil => simp at h1
    | cons q es =>
      simp only [List.map_cons, List.cons.injEq] at h1 h2
      cases h2 with
      | cons r rs =>
        obtain ⟨i1, i2⟩ := ih h1.2 rs
        by_cases hk : p.1 = k
        · have hk' : q.1 = k := h1.1 ▸ hk
          simp only [dGet, List.find?_cons, hk, hk', decide_true]
          exact ⟨fun d h => by cases h; exact ⟨_, rfl, r⟩, fun h => nomatch h⟩
        · have hk' : ¬ q.1 = k := fun e => hk (h1.1.trans e)
          simp only [dGet, List.find?_cons, hk, hk', decide_false]
          exact ⟨i1, i2⟩
theorem dPut_rel {P w K ρ H} {kvs : List (NestedKey × V)} {es : List (NestedKey × D)} (h1 : kvs.map (·.1) = es.map (·.1)) (h2 : Reps P w K ρ H (kvs.map (·.2)) (es.map (·.2))) (k : NestedKey) {v : V} {d : D} (r : Rep P w K ρ H v d) :
    (dPut kvs k v).map (·.1) = (dPut es k d).map (·.1) ∧ Reps P w K ρ H ((dPut kvs k v).map (·.2)) ((dPut es k d).map (·.2)) := by
  have h := dGet_rel h1 h2 k
  unfold dPut
  cases e : dGet es k with
  | none =>
    rw [h.2 e]
    simp only [Option.isSome_none, Bool.false_eq_true, if_false, List.map_append, h1]
    exact ⟨rfl, h2.append (.cons r .nil)⟩
  | some d0 =>
    obtain ⟨v0, e2, _⟩ := h.1 d0 e
    rw [e2]
    simp only [Option.isSome_some, if_true]
    clear h e e2
    induction kvs generalizing es with
    | nil =>
      cases es with
      | nil => exact ⟨rfl, .nil⟩
      | cons q es => simp at h1
    | cons p kvs ih =>
      cases es with
      | nil => simp at h1
      | cons q es =>
        simp only [List.map_cons, List.cons.injEq] at h1 h2 ⊢
        cases h2 with
        | cons r' rs =>
          obtain ⟨i1, i2⟩ := ih h1.2 rs
          by_cases hk : p.1 = k
          · have hk' : q.1 = k := h1.1 ▸ hk
            simp only [hk, hk', if_true]
            exact ⟨⟨trivial, i1⟩, .cons r i2⟩
          · have hk' : ¬ q.1 = k := fun e => hk (h1.1.trans e)
            simp only [hk, hk', if_false]
            exact ⟨⟨h1.1, i1⟩, .cons r' i2⟩
theorem dPut_len {α : Type} (kvs : List (NestedKey × α)) (k : NestedKey) (v : α) : (dPut kvs k v).length ≤ kvs.length + 1 := by
  unfold dPut
  split <;> simp

/-! readings over the abstract heap -/
def rInN (P : Program) (w : World) (K : PySem.W.Frag) (neg : Bool) : R2 := fun x y H Q => ∃ a b kvs k, x = .ref b ∧ y = .ref a ∧ DkAt P w K H a kvs ∧ NkV K H k (.ref b) ∧ k.depth ≤ 8 ∧ Q (.bl (if neg = true then !(dGet kvs k).isSome else (dGet kvs k).isSome)) H
section
variable {X : Cx}
theorem isSome_get {K H} {kvs : List (NestedKey × V)} {xs : List (NestedKey × Addr × Value)} (r : Paired (KRel K H) kvs xs) (k : NestedKey) : (atKey xs k).isSome = (dGet kvs k).isSome := by
  have h := krel_get r k
  cases e : dGet kvs k with
  | none => rw [h.2 e]; rfl
  | some v => obtain ⟨p, hp, _⟩ := h.1 v e; rw [hp]; rfl
theorem op_inN (hu : X.A.units + 64 < cLine) : OpR X (compareOp .In) (rInN X.prog X.w X.K false) := by
  intro pins s σ H x y v u Q I rx ry h
  obtain ⟨a, b, kvs, k, rfl, rfl, hd, hk, hk8, q⟩ := h
  cases rx; cases ry
  obtain ⟨xs, h1, h2, h3, h4, h5⟩ := dk_at I hd
  refine wpAny_in_heap (knd := nestedKind X.prog X.w) (by show X.A.units + 1 + 8 < cLine; omega) (nk_is I hk hk8) h3 h5 ?_
  rw [isSome_get h2]
  exact ⟨.bl _, H, I.tok _, rfl, q⟩
theorem op_notInN (hu : X.A.units + 64 < cLine) : OpR X (compareOp .NotIn) (rInN X.prog X.w X.K true) := by
  intro pins s σ H x y v u Q I rx ry h
  obtain ⟨a, b, kvs, k, rfl, rfl, hd, hk, hk8, q⟩ := h
  cases rx; cases ry
  obtain ⟨xs, h1, h2, h3, h4, h5⟩ := dk_at I hd
  show wpAny _ _ (do return Value.bool (!(← contains (.ref a) (.ref b)))) _ _ s
  refine wpAny_bind (wpAny_contains_heap (knd := nestedKind X.prog X.w) (by show X.A.units + 1 + 8 < cLine; omega) (nk_is I hk hk8) h3 h5 (wpAny_pure ?_))
  rw [isSome_get h2]
  exact ⟨.bl _, H, I.tok _, rfl, q⟩
/-- d[k], there -/
def tDGetN (P : Program) (w : World) (K : PySem.W.Frag) (td ty : TE) : TE := fun σ H Q => td σ H fun x H1 => ty σ H1 fun y H2 => ∃ a b kvs k v, x = .ref a ∧ y = .ref b ∧ DkAt P w K H2 a kvs ∧ NkV K H2 k (.ref b) ∧ k.depth ≤ 8 ∧ dGet kvs k = some v ∧ Q v H2
variable {o i value : Expr} {pos pos' : Pos} {td ty tv : TE}
theorem pe_dgetN (hu : X.A.units + 64 < cLine) (ho : PE X o td) (hi : PE X i ty) (hs : NoSl i) : PE X (.Subscript o i pos) (tDGetN X.prog X.w X.K td ty) := by
  refine ⟨fun pins s σ H Q I h => ?_⟩
  refine subD_of PySem.F.slot_dict_getitem.lookup hs (thn (ho.run pins s σ H _ I h) fun u s1 ⟨x, H1, I1, rx, q1⟩ => thn (hi.run pins s1 σ H1 _ I1 q1) fun iv s2 ⟨y, H2, I2, ry, a, b, kvs, k, v, ex, ey, hd, hk, hk8, hv, q⟩ => ?_)
  subst ex ey
  cases rx; cases ry
  obtain ⟨xs, h1, h2, h3, h4, h5⟩ := dk_at I2 hd
  obtain ⟨p, hp, rp⟩ := (krel_get h2 k).1 v hv
  exact ⟨h5.typeIs, wpAny_getItem_heap (knd := nestedKind X.prog X.w) (by show X.A.units + 1 + 8 < cLine; omega) (nk_is I2 hk hk8) h5 hp ⟨v, H2, I2.tok _, rp, q⟩⟩
/-- d[k] = v -/
def sDPutN (P : Program) (w : World) (K : PySem.W.Frag) (td ty tv : TE) : TS := fun D σ H => tv σ H fun v H1 => td σ H1 fun x H2 => ty σ H2 fun y H3 => ∃ a b kvs k, x = .ref a ∧ y = .ref b ∧ DkAt P w K H3 a kvs ∧ NkV K H3 k (.ref b) ∧ k.depth ≤ 8 ∧ kvs.length < sizeLine ∧
  ∀ xs, Paired (KRel K H3) (dPut kvs k v) xs → D.nx σ (upd H3 a (dkO P w a xs))
theorem ps_dputN (hu : X.A.units + 64 < cLine) (ho : PE X o td) (hi : PE X i ty) (hv : PE X value tv) (hs : swapsWith value (some (.Subscript o i pos')) pos.line X.env = pure false) :
    PS X (.Assign [.Subscript o i pos'] value pos) (sDPutN X.prog X.w X.K td ty tv) := by
  refine ⟨fun pins s σ H D I h => ?_⟩
  refine wpAny_Assign_Subscript (thn (hv.run pins s σ H _ I h) fun r s1 ⟨v, H1, I1, rv, q1⟩ => thn (ho.run pins s1 σ H1 _ I1 q1) fun u s2 ⟨x, H2, I2, rx, q2⟩ => thn (hi.run pins s2 σ H2 _ I2 q2) fun iv s3 ⟨y, H3, I3, ry, a, b, kvs, k, ex, ey, hd, hk, hk8, hl, q⟩ => ?_) hs
  subst ex ey
  cases rx; cases ry
  obtain ⟨xs, h1, h2, h3, h4, h5⟩ := dk_at I3 hd
  have hz : xs.length ≤ sizeLine := h4
  have el : xs.length = kvs.length := (Paired.length h2).symm
  refine wpAny_setItem_heap (knd := nestedKind X.prog X.w) (hsz := hz) (by show X.A.units + 1 + 8 < cLine; omega) (nk_is I3 hk hk8) h5 fun h' dd hsb => ?_
  obtain ⟨o', es, ep, q1, q2, q3, q4, _, q5⟩ := dd
  have hput := krel_put h2 hk hk8 rv
  have hlen : (storedH xs k b r).length ≤ sizeLine := by
    rw [← Paired.length hput]
    have := dPut_len kvs k v
    omega
  refine ⟨σ, _, I3.write (x := a) (e := a) (o := dkO X.prog X.w a (storedH xs k b r)) (by rw [h1]; exact True.intro) (.inl rfl) (fun c q hc z => (hsb.2 c hc).trans z) ⟨o', q1⟩ ?_, q _ hput⟩
  exact ⟨⟨h3, hlen, o', es, ep, q1, q2, q3, q4, q5⟩, ⟨o', q1⟩, fun g1 g2 p1 pk => by
    obtain ⟨w1, w2, o2, es2, ep2, w3, w4⟩ := p1
    exact ⟨w1, w2, o2, es2, ep2, pk o2 w3, w4⟩⟩
/-- {} -/
def tDNewN (P : Program) (w : World) : TE := fun _ H Q => ∀ p, H p = none → Q (.ref p) (upd H p (dkO P w p []))
theorem pe_dnewN : PE X (.Dict [] [] pos) (tDNewN X.prog X.w) := ⟨fun pins s σ H Q I h =>
  wpAny_Dict_empty ⟨.ref s.heap.objs.size, _, I.laid (a := s.heap.objs.size) (o := dkO X.prog X.w s.heap.objs.size []) (t' := s.toks) (fun _ _ q => Heap.get?_push_of_some _ q) (Nat.le_refl _) (by
    refine ⟨⟨beq_eq_false_iff_ne.mpr (Ne.symm (Nat.ne_of_lt I.big)), Nat.zero_le _, _, #[], 0, Heap.get?_push_size _ rfl, ⟨rfl, rfl, rfl⟩, rfl, rfl, List.nodup_nil⟩, ⟨_, Heap.get?_push_size _ rfl⟩, fun g1 g2 p1 pk => ?_⟩
    obtain ⟨w1, w2, o2, es2, ep2, w3, w4⟩ := p1
    exact ⟨w1, w2, o2, es2, ep2, pk o2 w3, w4⟩), rfl, h _ (I.hok.fresh (Nat.le_refl _))⟩⟩
end

/-! the data rules -/
def memN (θ : Sto) (x y : D) : Option Bool := match keyD x, dctOf θ y with
  | some k, some es => some (dGet es k).isSome
  | _, _ => none
def gInN : G2 := fun θ x y => match memN θ x y with
  | some b => some (.bl b)
  | none => none
def gNotInN : G2 := fun θ x y => match memN θ x y with
  | some b => some (.bl (!b))
  | none => none
theorem memN_some {P w K ρ H} {θ : Sto} {x y : D} {b : Bool} {u v : V} (s : StR P w K ρ H θ) (rx : Rep P w K ρ H u x) (ry : Rep P w K ρ H v y) (h : memN θ x y = some b) :
    ∃ a c kvs k, u = .ref c ∧ v = .ref a ∧ DkAt P w K H a kvs ∧ NkV K H k (.ref c) ∧ k.depth ≤ 8 ∧ (dGet kvs k).isSome = b := by
  unfold memN at h
  split at h
  · rename_i k es e1 e2
    cases h
    obtain ⟨c, rfl, h1, h2⟩ := keyD_rep rx e1
    obtain ⟨a, kvs, rfl, h3, h4, h5⟩ := dct_of s ry e2
    refine ⟨a, c, kvs, k, rfl, rfl, h3, h1, h2, ?_⟩
    have g := dGet_rel h4 h5 k
    cases e : dGet es k with
    | none => rw [g.2 e]; rfl
    | some d => obtain ⟨v, hv, _⟩ := g.1 d e; rw [hv]; rfl
  · cases h
section
variable {X : Cx} {a b o i e : Expr} {es : List Expr} {pos pos' : Pos} {fa fb fo fi fv : F} {fs : FA}
theorem od_inN (hu : X.A.units + 64 < cLine) : OpD X (compareOp .In) gInN := ⟨_, op_inN hu, fun ρ H θ x y dx dy d Q s rx ry h q => by
  unfold gInN at h
  split at h
  · rename_i b e
    cases h
    obtain ⟨a, c, kvs, k, rfl, rfl, h1, h2, h3, rfl⟩ := memN_some s rx ry e
    exact ⟨a, c, kvs, k, rfl, rfl, h1, h2, h3, q _ H (Ext.refl _ _) s (.bl _)⟩
  · cases h⟩
theorem od_notInN (hu : X.A.units + 64 < cLine) : OpD X (compareOp .NotIn) gNotInN := ⟨_, op_notInN hu, fun ρ H θ x y dx dy d Q s rx ry h q => by
  unfold gNotInN at h
  split at h
  · rename_i b e
    cases h
    obtain ⟨a, c, kvs, k, rfl, rfl, h1, h2, h3, rfl⟩ := memN_some s rx ry e
    exact ⟨a, c, kvs, k, rfl, rfl, h1, h2, h3, q _ H (Ext.refl _ _) s (.bl _)⟩
  · cases h⟩
def gDGet : G2 := fun θ x y => match keyD y, dctOf θ x with
  | some k, some es => dGet es k
  | _, _ => none
theorem de_dget (hu : X.A.units + 64 < cLine) (ho : DE X o fo) (hi : DE X i fi) (hs : NoSl i := by exact fun _ _ => rfl) : DE X (.Subscript o i pos) (fOp gDGet fo fi) := by
  obtain ⟨t, h1, h2⟩ := ho.ex
  obtain ⟨u, h3, h4⟩ := hi.ex
  refine ⟨_, pe_dgetN hu h1 h3 hs, fun σ H ρ δ θ d θ' Q hs hθ h q => ?_⟩
  obtain ⟨x, θ1, e1, h⟩ := bd_some h
  obtain ⟨y, θ2, e2, h⟩ := bd_some h
  obtain ⟨e3, rfl⟩ := wth_some h
  refine h2 σ H ρ δ θ x θ1 _ hs hθ e1 fun v H1 ρ1 x1 s1 r1 => ?_
  refine h4 σ H1 ρ1 δ θ1 y θ' _ (hs.ext x1) s1 e2 fun u H2 ρ2 x2 s2 r2 => ?_
  unfold gDGet at e3
  split at e3
  · rename_i k es q1 q2
    obtain ⟨c, rfl, k1, k2⟩ := keyD_rep r2 q1
    obtain ⟨a, kvs, rfl, k3, k4, k5⟩ := dct_of s2 (r1.ext x2) q2
    obtain ⟨v, k6, k7⟩ := (dGet_rel k4 k5 k).1 d e3
    exact ⟨a, c, kvs, k, v, rfl, rfl, k3, k1, k2, k6, q v H2 ρ2 (x1.trans x2) s2 k7⟩
  · cases e3
/-- a dict that will be written -/
def fDctM : F := fun _ θ => some (.ref θ.length, θ ++ [.dct []])
theorem de_dctM : DE X (.Dict [] [] pos) fDctM := ⟨_, pe_dnewN, fun σ H ρ δ θ d θ' Q hs hθ h q => by
  unfold fDctM at h
  cases h
  intro p hp
  obtain ⟨y1, y2, y3⟩ := upd_ref (o := dkO X.prog X.w p []) (c := .dct []) hθ hp fun x2 => ⟨[], ⟨[], upd_same, .nil⟩, rfl, .nil⟩
  exact q _ _ _ y1 y2 y3⟩

/-! ### attributes -/
/-- what a class must have for its attribute f to be read and stored -/
structure FldD (K : PySem.W.Frag) (C : Addr) (f : Str) : Prop where
  cl : Cls K C
  no : NoAttr K C f
def fFld (C : Addr) (f : Str) (fa : F) : F := fun δ θ => bd (fa δ θ) fun d θ1 => match objOf θ1 d with
  | some (C', fs) => if C' = C then wth (fs.lookup f) θ1 else none
  | none => none
theorem de_fld {C : Addr} {f : Str} (T : FldD X.K C f) (ha : DE X e fa) (hb : attributeBase e f X.env (eval e X.env) = eval e X.env := by rfl) : DE X (.Attribute e f pos) (fFld C f fa) := by
  obtain ⟨t, h1, h2⟩ := ha.ex
  refine ⟨_, pe_fld h1 hb, fun σ H ρ δ θ d θ' Q hs hθ h q => ?_⟩
  obtain ⟨x, θ1, e1, h0⟩ := bd_some h
  split at h0
  · rename_i C' fs e2
    by_cases hC : C' = C
    · rw [if_pos hC] at h0
      subst hC
      obtain ⟨e3, rfl⟩ := wth_some h0
      refine h2 σ H ρ δ θ x θ' _ hs hθ e1 fun v H1 ρ1 x1 s1 r1 => ?_
      obtain ⟨a, dx, gs, rfl, k1, k2, k3⟩ := obj_of s1 r1 e2
      obtain ⟨v, k4, k5⟩ := (fld_lookup k2 k3 f).1 d e3
      exact ⟨a, C', dx, gs, v, rfl, k1, T.cl, T.no, k4, q v H1 ρ1 x1 s1 k5⟩
    · rw [if_neg hC] at h0; cases h0
  · cases h0
end
end DL

set_option Elab.async false
set_option linter.all false
set_option maxRecDepth 100000
set_option maxHeartbeats 4000000
namespace DL
open PySem L2

/-! ### the promise of a def -/
abbrev M := List D → Sto → Option (D × Sto)
def spD (P : Program) (w : World) (K : PySem.W.Frag) (np : Nat) (m : M) : Sp := fun vs H Q _ => vs.length = np ∧ ∃ ρ ds θ d θ', Reps P w K ρ H vs ds ∧ StR P w K ρ H θ ∧ m ds θ = some (d, θ') ∧
  ∀ v H' ρ', Ext ρ H ρ' H' → StR P w K ρ' H' θ' → Rep P w K ρ' H' v d → Q v H'
def FnD (P : Program) (w : World) (K : PySem.W.Frag) (mg : Str → Option Value) (base : Heap) (k : Nat) (f : Addr) (fd : FuncData) (ps : List Str) (m : M) : Prop :=
  FnOk P w K mg base CX0 k f fd ps (spD P w K ps.length m)
section
variable {P : Program} {w : World} {K : PySem.W.Frag} {mg : Str → Option Value} {base : Heap} {k j : Nat} {f : Addr} {fd : FuncData} {ps : List Str} {m m' : M}
theorem FnD.mono (F : FnD P w K mg base j f fd ps m) (h : j ≤ k) : FnD P w K mg base k f fd ps m := FnOk.mono F h
theorem FnD.imp (F : FnD P w K mg base k f fd ps m) (h : ∀ ds θ r, m' ds θ = some r → m ds θ = some r) : FnD P w K mg base k f fd ps m' :=
  FnOk.imp F fun vs H Q E ⟨hl, ρ, ds, θ, d, θ', h1, h2, h3, h4⟩ => ⟨hl, ρ, ds, θ, d, θ', h1, h2, h _ _ _ h3, h4⟩
theorem FnD.nothing : FnD P w K mg base k f fd ps fun _ _ => none :=
  ⟨fun vs H Q E h => h.1, fun A outer s H args us vs Q E hr he hb hv hs => by
    obtain ⟨_, _, _, _, _, _, _, _, h, _⟩ := hs
    cases h⟩
end

/-! ### calls -/
def fCall (m : M) (fs : FA) : F := fun δ θ => bd (fs δ θ) m
/-- with defaults behind -/
def fCallD (m : M) (dds : List D) (fs : FA) : F := fun δ θ => bd (fs δ θ) fun ds θ1 => m (ds ++ dds) θ1
section
variable {X : Cx} {k : Nat} {f C : Addr} {fd : FuncData} {ps : List Str} {m : M} {dvs : List V} {dds : List D} {ds : List Value} {x mn : Str} {p pos apos : Pos} {e o : Expr} {es : List Expr} {fs : FA} {fo : F}
theorem re_call {P w K} {np : Nat} {t : TA} (h : RA P w K t fs) (hd : ∀ ρ H, Reps P w K ρ H dvs dds) (hl : ∀ δ θ l θ', fs δ θ = some (l, θ') → l.length + dds.length = np) : RE P w K (tCall (spD P w K np m) dvs E0 t) (fCallD m dds fs) :=
  fun σ H ρ δ θ d θ' Q hs hθ e q => by
    obtain ⟨ds, θ1, e1, e⟩ := bd_some e
    refine h σ H ρ δ θ ds θ1 _ hs hθ e1 fun vs H1 ρ1 x1 s1 r1 => ?_
    have hlen : (vs ++ dvs).length = np := by
      have h2 := hl δ θ ds θ1 e1
      have h3 := (hd ρ H).length
      rw [List.length_append, r1.length, h3]; exact h2
    exact ⟨hlen, ρ1, ds ++ dds, θ1, d, θ', r1.append (hd _ _), s1, e, fun v H2 ρ2 x2 s2 r2 => q v H2 ρ2 (x1.trans x2) s2 r2⟩
/-- the number of arguments -/
def ArN (fs : FA) (n : Nat) : Prop := ∀ δ θ l θ', fs δ θ = some (l, θ') → l.length = n
theorem arn_nil : ArN aNil 0 := fun δ θ l θ' h => by unfold aNil at h; cases h; rfl
theorem arn_cons {f : F} {n : Nat} (h : ArN fs n) : ArN (aCons f fs) (n + 1) := fun δ θ l θ' e => by
  obtain ⟨d, θ1, e1, e⟩ := bd_some e
  obtain ⟨ds, θ2, e2, e⟩ := bd_some e
  cases e
  rw [List.length_cons, h _ _ _ _ e2]
theorem de_call {n : Nat} (F : FnD X.prog X.w X.K X.mg X.base k f fd ps m) (hr : Room k X.A) (hg : Gl X x) (hm : X.mg x = some (.ref f)) (hk : PySem.W.keepIn X.K (.ref f) = true) (hb : Binds X.K fd ps []) (ha : DA X (e :: es) fs) (hn : ArN fs n) (hps : n = ps.length)
    (hdb : (x == ("__debug__" : Str)) = false := by decide) (he : starEach (e :: es) X.env = (false, eval e X.env) :: starEach es X.env := by rfl) (hpl : (backTo pos (starEach es X.env)).any (·.1) = false := by rfl) :
    DE X (.Call (.Name x p) (e :: es) [] pos) (fCall m fs) := by
  obtain ⟨t, h1, h2⟩ := ha.ex
  refine ⟨_, pe_call F hr hg hm hk hb .nil pass0 h1 hdb he hpl, fun σ H ρ δ θ d θ' Q hs hθ e q => ?_⟩
  refine re_call (m := m) (dds := []) h2 (fun _ _ => .nil) (fun δ θ l θ' e => by rw [hn _ _ _ _ e, hps]; rfl) σ H ρ δ θ d θ' Q hs hθ ?_ q
  unfold fCallD
  simp only [List.append_nil]
  exact e
def fMeth (C : Addr) (mn : Str) (m : M) (fo : F) (fs : FA) : F := fun δ θ => bd (fo δ θ) fun o θ1 => match objOf θ1 o with
  | some (C', fl) => if C' = C ∧ fl.lookup mn = none then bd (fs δ θ1) fun ds θ2 => m (o :: ds) θ2 else none
  | none => none
theorem re_meth {P w K} {np n : Nat} {t : TA} {to : TE} (ho : RE P w K to fo) (h : RA P w K t fs) (hn : ArN fs n) (hnp : n + 1 = np) : RE P w K (tMeth C mn (spD P w K np m) [] E0 to t) (fMeth C mn m fo fs) :=
  fun σ H ρ δ θ d θ' Q hs hθ e q => by
    obtain ⟨o, θ1, e1, e0⟩ := bd_some e
    refine ho σ H ρ δ θ o θ1 _ hs hθ e1 fun v H1 ρ1 x1 s1 r1 => ?_
    split at e0
    · rename_i C' fl e2
      by_cases hC : C' = C ∧ fl.lookup mn = none
      · rw [if_pos hC] at e0
        obtain ⟨rfl, hl⟩ := hC
        obtain ⟨ds, θ2, e3, e0⟩ := bd_some e0
        obtain ⟨a, dx, gs, rfl, k1, k2, k3⟩ := obj_of s1 r1 e2
        refine ⟨a, dx, gs, rfl, k1, (fld_lookup k2 k3 mn).2 hl, ?_⟩
        refine h σ H1 ρ1 δ θ1 ds θ2 _ (hs.ext x1) s1 e3 fun vs H2 ρ2 x2 s2 r2 => ?_
        refine ⟨by simp only [List.append_nil, List.length_cons]; rw [r2.length, hn _ _ _ _ e3, hnp], ρ2, o :: ds, θ2, d, θ', ?_, s2, e0, fun v H3 ρ3 x3 s3 r3 => q v H3 ρ3 ((x1.trans x2).trans x3) s3 r3⟩
        simp only [List.append_nil]
        exact .cons (r1.ext x2) r2
      · rw [if_neg hC] at e0; cases e0
    · cases e0
/-- what a class's method must be -/
structure MethD (K : PySem.W.Frag) (C : Addr) (mn : Str) (f : Addr) : Prop where
  cl : Cls K C
  mt : Meth K C mn f
theorem de_meth {n : Nat} {pl : Sem Bool} (ho : DE X o fo) (T : MethD X.K C mn f) (F : FnD X.prog X.w X.K X.mg X.base k f fd ps m) (hr : Room k X.A) (hb : Binds X.K fd ps []) (ha : DA X (e :: es) fs) (hn : ArN fs n) (hps : n + 1 = ps.length)
    (hst : starEach (e :: es) X.env = (false, eval e X.env) :: starEach es X.env := by rfl) (hpl : (backTo pos (starEach es X.env)).any (·.1) = false := by rfl)
    (ht : eval (.Call (.Attribute o mn apos) (e :: es) [] pos) X.env = (do
      let ov ← eval o X.env
      standAt apos.atName
      let (f, first) ← holding [ov] (getMethod ov mn pl)
      callWith pos f first (backTo pos (starEach (e :: es) X.env)) (backToKw pos (keywordEach [] X.env))) := by rfl) :
    DE X (.Call (.Attribute o mn apos) (e :: es) [] pos) (fMeth C mn m fo fs) := by
  obtain ⟨t, h1, h2⟩ := ha.ex
  obtain ⟨u, h3, h4⟩ := ho.ex
  exact ⟨_, pe_meth (pl := pl) h3 T.cl T.mt F hr hb .nil pass0 h1 hst hpl ht, re_meth h4 h2 hn hps⟩
theorem de_meth0 {pl : Sem Bool} (ho : DE X o fo) (T : MethD X.K C mn f) (F : FnD X.prog X.w X.K X.mg X.base k f fd ps m) (hr : Room k X.A) (hb : Binds X.K fd ps []) (hps : 1 = ps.length)
    (ht : eval (.Call (.Attribute o mn apos) [] [] pos) X.env = (do
      let ov ← eval o X.env
      standAt apos.atName
      let (f, first) ← holding [ov] (getMethod ov mn pl)
      callWith pos f first (backTo pos (starEach [] X.env)) (backToKw pos (keywordEach [] X.env))) := by rfl) :
    DE X (.Call (.Attribute o mn apos) [] [] pos) (fMeth C mn m fo aNil) := by
  obtain ⟨u, h3, h4⟩ := ho.ex
  refine ⟨_, pe_meth0 (pl := pl) h3 T.cl T.mt F hr hb .nil pass0 ht, re_meth (np := ps.length) (n := 0) h4 (fun σ H ρ δ θ ds θ' Q hs hθ h q => ?_) arn_nil hps⟩
  unfold aNil at h
  cases h
  exact q [] H ρ (Ext.refl _ _) hθ .nil

/-! ### new instances -/
/-- what __init__ gets of a new instance, the arguments and the defaults -/
def mNew (C : Addr) (m : M) : M := fun ds θ => match m (.ref θ.length :: ds) (θ ++ [.ins C []]) with
  | some (.non, θ') => some (.ref θ.length, θ')
  | _ => none
theorem new_ok {P w K} {np : Nat} {H : Hp} {ρ : List Addr} {θ θ' : Sto} {vs : List V} {ds : List D} {d : D} {Q : VK} (s : StR P w K ρ H θ) (r : Reps P w K ρ H vs ds) (hl : vs.length + 1 = np) (e : mNew C m ds θ = some (d, θ'))
    (q : ∀ v H' ρ', Ext ρ H ρ' H' → StR P w K ρ' H' θ' → Rep P w K ρ' H' v d → Q v H') (x dx : Addr) (hx : H x = none) (hdx : H dx = none) (hne : dx ≠ x) :
    spD P w K np m (.ref x :: vs) (upd (upd H dx (.own x)) x (.ins C dx [])) (fun v H2 => v = .non ∧ Q (.ref x) H2) E0 := by
  have hx' : (upd H dx (.own x)) x = none := by rw [upd_ne (Ne.symm hne)]; exact hx
  have x1 : Ext ρ H ρ (upd H dx (.own x)) := Ext.new hdx
  have s1 := s.new (o := .own x) hdx
  obtain ⟨x2, s2, r2⟩ := upd_ref (o := .ins C dx []) (c := .ins C []) s1 hx' fun _ => ⟨dx, [], upd_same, rfl, .nil⟩
  unfold mNew at e
  split at e
  · rename_i θ2 e2
    cases e
    refine ⟨by simp only [List.length_cons]; exact hl, ρ ++ [x], .ref θ.length :: ds, θ ++ [.ins C []], .non, θ', .cons r2 ((r.ext x1).ext x2), s2, e2, fun v H3 ρ3 x3 s3 r3 => ?_⟩
    cases r3
    exact ⟨rfl, q _ H3 ρ3 ((x1.trans x2).trans x3) s3 (r2.ext x3)⟩
  · cases e
theorem de_new {n : Nat} (T : Mk X.K C f) (F : FnD X.prog X.w X.K X.mg X.base k f fd ps m) (hr : Room (k + 1) X.A) (hg : Gl X x) (hm : X.mg x = some (.ref C)) (hb : Binds X.K fd ps ds) (hd : Vals dvs ds) (hdd : ∀ ρ H, Reps X.prog X.w X.K ρ H dvs dds)
    (ha : DA X (e :: es) fs) (hn : ArN fs n) (hps : n + dds.length + 1 = ps.length)
    (hdb : (x == ("__debug__" : Str)) = false := by decide) (he : starEach (e :: es) X.env = (false, eval e X.env) :: starEach es X.env := by rfl) (hpl : (backTo pos (starEach es X.env)).any (·.1) = false := by rfl) :
    DE X (.Call (.Name x p) (e :: es) [] pos) (fCallD (mNew C m) dds fs) := by
  obtain ⟨t, h1, h2⟩ := ha.ex
  refine ⟨_, pe_make T F hr hg hm hb hd pass0 h1 hdb he hpl, fun σ H ρ δ θ d θ' Q hs hθ e q => ?_⟩
  obtain ⟨l, θ1, e1, e⟩ := bd_some e
  refine h2 σ H ρ δ θ l θ1 _ hs hθ e1 fun vs H1 ρ1 x1 s1 r1 => ?_
  intro y dy hy hdy hne
  refine new_ok s1 (r1.append (hdd _ _)) ?_ e (fun v H' ρ' x2 s2 r2 => q v H' ρ' (x1.trans x2) s2 r2) y dy hy hdy hne
  rw [List.length_append, r1.length, hn _ _ _ _ e1, (hdd ρ H).length]; exact hps
theorem de_new0 (T : Mk X.K C f) (F : FnD X.prog X.w X.K X.mg X.base k f fd ps m) (hr : Room (k + 1) X.A) (hg : Gl X x) (hm : X.mg x = some (.ref C)) (hb : Binds X.K fd ps []) (hps : 1 = ps.length)
    (hdb : (x == ("__debug__" : Str)) = false := by decide) : DE X (.Call (.Name x p) [] [] pos) (fCall (mNew C m) aNil) := by
  refine ⟨_, pe_make0 T F hr hg hm hb .nil pass0 hdb, fun σ H ρ δ θ d θ' Q hs hθ e q => ?_⟩
  have e' : mNew C m [] θ = some (d, θ') := e
  intro y dy hy hdy hne
  exact new_ok (vs := []) hθ .nil (by simpa using hps) e' q y dy hy hdy hne
/-! keywords: the positional values, then the keywords' values, is the parameters' order -/
structure DK (X : Cx) (kws : List Keyword) (f : FA) : Prop where
  ex : ∃ t, PK X kws t ∧ RA X.prog X.w X.K t f
theorem dk_nil : DK X [] aNil := ⟨_, pk_nil, fun σ H ρ δ θ ds θ' Q hs hθ h q => by
  unfold aNil at h
  cases h
  exact q [] H ρ (Ext.refl _ _) hθ .nil⟩
theorem dk_cons {kws : List Keyword} {nm : Option Str} {kpos : Pos} {f : F} (ha : DE X e f) (hr : DK X kws fs) : DK X (⟨nm, e, kpos⟩ :: kws) (aCons f fs) := by
  obtain ⟨t, h1, h2⟩ := ha.ex
  obtain ⟨u, h3, h4⟩ := hr.ex
  refine ⟨_, pk_cons h1 h3, fun σ H ρ δ θ ds θ' Q hs hθ h q => ?_⟩
  obtain ⟨d, θ1, e1, h⟩ := bd_some h
  obtain ⟨ds', θ2, e2, h⟩ := bd_some h
  cases h
  refine h2 σ H ρ δ θ d θ1 _ hs hθ e1 fun v H1 ρ1 x1 s1 r1 => ?_
  refine h4 σ H1 ρ1 δ θ1 ds' _ _ (hs.ext x1) s1 e2 fun vs H2 ρ2 x2 s2 r2 => ?_
  exact q _ H2 ρ2 (x1.trans x2) s2 (.cons (r1.ext x2) r2)
/-- f(a, .., k = v, ..) -/
def fCallK (m : M) (fs fk : FA) : F := fun δ θ => bd (fs δ θ) fun ds θ1 => bd (fk δ θ1) fun es θ2 => m (ds ++ es) θ2
theorem de_newK {n nk : Nat} {kws : List Keyword} {ks : List Str} {fk : FA} (T : Mk X.K C f) (F : FnD X.prog X.w X.K X.mg X.base k f fd ps m) (hr : Room (k + 1) X.A) (hg : Gl X x) (hm : X.mg x = some (.ref C))
    (hb : KBn X.K fd ps (n + 1) ks (fun us ws => us ++ ws) (fun vs zs => vs ++ zs)) (ha : DA X (e :: es) fs) (hkw : DK X kws fk) (hn : ArN fs n) (hnk : ArN fk nk) (hks' : nk = ks.length) (hps : n + nk + 1 = ps.length)
    (hall : (backToKw pos (keywordEach kws X.env)).all (·.1.isSome) = true := by rfl) (hks : (backToKw pos (keywordEach kws X.env)).filterMap (·.1) = ks := by rfl) (hdb : (x == ("__debug__" : Str)) = false := by decide)
    (he : starEach (e :: es) X.env = (false, eval e X.env) :: starEach es X.env := by rfl) (hpl : ((backTo pos (starEach (e :: es) X.env)).any (·.1) || (backToKw pos (keywordEach kws X.env)).any (·.1.isNone)) = false := by rfl) :
    DE X (.Call (.Name x p) (e :: es) kws pos) (fCallK (mNew C m) fs fk) := by
  obtain ⟨t, h1, h2⟩ := ha.ex
  obtain ⟨u, h3, h4⟩ := hkw.ex
  refine ⟨_, pe_makeK T F hr hg hm hb pass0 h1 h3 hall hks hdb he hpl, fun σ H ρ δ θ d θ' Q hs hθ e q => ?_⟩
  obtain ⟨l, θ1, e1, e⟩ := bd_some e
  obtain ⟨l2, θ2, e2, e⟩ := bd_some e
  refine h2 σ H ρ δ θ l θ1 _ hs hθ e1 fun vs H1 ρ1 x1 s1 r1 => ?_
  refine h4 σ H1 ρ1 δ θ1 l2 θ2 _ (hs.ext x1) s1 e2 fun zs H2 ρ2 x2 s2 r2 => ?_
  refine ⟨by rw [r1.length, hn _ _ _ _ e1], by rw [r2.length, hnk _ _ _ _ e2, hks'], fun y dy hy hdy hne => ?_⟩
  refine new_ok s2 ((r1.ext x2).append r2) ?_ e (fun v H' ρ' x3 s3 r3 => q v H' ρ' ((x1.trans x2).trans x3) s3 r3) y dy hy hdy hne
  rw [List.length_append, r1.length, hn _ _ _ _ e1, r2.length, hnk _ _ _ _ e2]; exact hps
end

/-! ### what is walked -/
def WalkD (P : Program) (w : World) (K : PySem.W.Frag) (J : It) (ρ0 : List Addr) (H0 : Hp) (ds : List D) : Prop := ∀ ρ H θ i, Ext ρ0 H0 ρ H → StR P w K ρ H θ →
  (i = ds.length → J.stop i H) ∧ ∀ d, ds[i]? = some d → J.go i H ∧ ∀ x H', J.yld i H x H' → Ext ρ H ρ H' ∧ StR P w K ρ H' θ ∧ Rep P w K ρ H' x d
def RI (P : Program) (w : World) (K : PySem.W.Frag) (wi : TI) (f : FA) : Prop := ∀ (σ : L2.St) (H : Hp) (ρ : List Addr) (δ : Dv) (θ : Sto) (ds : List D) (θ' : Sto) (R : It → Hp → Prop), Sl P w K ρ H σ δ → StR P w K ρ H θ → f δ θ = some (ds, θ') →
  (∀ J H' ρ', Ext ρ H ρ' H' → StR P w K ρ' H' θ' → WalkD P w K J ρ' H' ds → R J H') → wi σ H R
structure DI (X : Cx) (tg iter : Expr) (f : FA) : Prop where
  ex : ∃ wi, PI X tg iter wi ∧ RI X.prog X.w X.K wi f
/-- a list or a tuple that nobody writes -/
def iSeq (fa : F) : FA := fun δ θ => bd (fa δ θ) fun d θ1 => match d with
  | .lst ds => some (ds, θ1)
  | .tup ds => some (ds, θ1)
  | _ => none
section
variable {X : Cx} {tg e : Expr} {fa : F}
def iSq (K : PySem.W.Frag) (tl : TE) : TI := fun σ H R => tl σ H fun x H1 => ∃ a, x = .ref a ∧ (((∃ xs, SqL K H1 a xs) ∧ R (Itl K a) H1) ∨ ((∃ xs, SqT K H1 a xs) ∧ R (Itt K a) H1))
theorem pi_sq {l : Expr} {tl : TE} (hl : PE X l tl) : PI X tg l (iSq X.K tl) := by
  refine ⟨fun pins s σ H R I h => ?_⟩
  refine thn (hl.run pins s σ H _ I h) fun v s1 ⟨x, H1, I1, r1, q1⟩ => ?_
  obtain ⟨a, e, q⟩ := q1
  subst e
  cases r1
  rcases q with ⟨⟨xs, hq⟩, q⟩ | ⟨⟨xs, hq⟩, q⟩
  · obtain ⟨its, rv, p, hz⟩ := I1.list hq
    refine wpAny_pyIter_list p.isList ?_
    refine ⟨s1.heap.objs.size, [s1.heap.objs.size], _, _, H1, rfl, I1.kept (t' := s1.toks) fun b o e => Heap.get?_push_of_some _ e, turn_list a _, ⟨_, Heap.get?_push_size _ rfl, rfl, rfl⟩, fun b hb => ?_, q⟩
    have e : b = s1.heap.objs.size := by simpa using hb
    subst e
    exact I1.fpOk (Nat.le_refl _) (I1.hok.fresh (Nat.le_refl _))
  · obtain ⟨its, rv, p, hz⟩ := I1.tuple hq
    refine wpAny_pyIter_tuple (show s1.heap.IsTuple a its.toArray from p) ?_
    refine ⟨s1.heap.objs.size, [s1.heap.objs.size], _, _, H1, rfl, I1.kept (t' := s1.toks) fun b o e => Heap.get?_push_of_some _ e, turn_tuple a _, ⟨_, Heap.get?_push_size _ rfl, rfl, rfl⟩, fun b hb => ?_, q⟩
    have e : b = s1.heap.objs.size := by simpa using hb
    subst e
    exact I1.fpOk (Nat.le_refl _) (I1.hok.fresh (Nat.le_refl _))
theorem walk_list {P w K} {ρ0 : List Addr} {H0 : Hp} {a : Addr} {vs : List V} {ds : List D} (h : LsF K ρ0 H0 a vs) (r : Reps P w K ρ0 H0 vs ds) : WalkD P w K (Itl K a) ρ0 H0 ds := by
  intro ρ H θ i x s
  have h' := (x.lsf h).sq
  have r' := r.ext x
  refine ⟨fun e => ⟨vs, h', by rw [r'.length]; omega⟩, fun d hd => ?_⟩
  obtain ⟨v, hv, rv⟩ := r'.get hd
  refine ⟨⟨vs, v, h', hv⟩, fun y H' hy => ?_⟩
  obtain ⟨rfl, hy⟩ := hy
  have := hy vs h'
  rw [hv] at this
  cases this
  exact ⟨Ext.refl _ _, s, rv⟩
theorem walk_tup {P w K} {ρ0 : List Addr} {H0 : Hp} {a : Addr} {vs : List V} {ds : List D} (h : SqT K H0 a vs) (r : Reps P w K ρ0 H0 vs ds) : WalkD P w K (Itt K a) ρ0 H0 ds := by
  intro ρ H θ i x s
  have h' := x.sqt h
  have r' := r.ext x
  refine ⟨fun e => ⟨vs, h', by rw [r'.length]; omega⟩, fun d hd => ?_⟩
  obtain ⟨v, hv, rv⟩ := r'.get hd
  refine ⟨⟨vs, v, h', hv⟩, fun y H' hy => ?_⟩
  obtain ⟨rfl, hy⟩ := hy
  have := hy vs h'
  rw [hv] at this
  cases this
  exact ⟨Ext.refl _ _, s, rv⟩
theorem di_seq (h : DE X e fa) : DI X tg e (iSeq fa) := by
  obtain ⟨t, h1, h2⟩ := h.ex
  refine ⟨_, pi_sq h1, fun σ H ρ δ θ ds θ' R hs hθ e q => ?_⟩
  obtain ⟨d, θ1, e1, e⟩ := bd_some e
  split at e
  · cases e
    refine h2 σ H ρ δ θ _ θ' _ hs hθ e1 fun v H1 ρ1 x1 s1 r1 => ?_
    cases r1 with
    | lst k1 k2 => exact ⟨_, rfl, .inl ⟨⟨_, k1.sq⟩, q _ H1 ρ1 x1 s1 (walk_list k1 k2)⟩⟩
  · cases e
    refine h2 σ H ρ δ θ _ θ' _ hs hθ e1 fun v H1 ρ1 x1 s1 r1 => ?_
    cases r1 with
    | tup k1 k2 => exact ⟨_, rfl, .inr ⟨⟨_, k1⟩, q _ H1 ρ1 x1 s1 (walk_tup k1 k2)⟩⟩
  · cases e
/-- range(n), range(a, b) -/
def rngD (lo : Int) (n : Nat) : List D := (List.range n).map fun (i : Nat) => D.int (lo + (i : Int))
theorem walk_rng {P w K} {ρ0 : List Addr} {H0 : Hp} {lo : Int} {n : Nat} : WalkD P w K (Itr lo n) ρ0 H0 (rngD lo n) := by
  intro ρ H θ i x s
  refine ⟨fun e => ?_, fun d hd => ?_⟩
  · show n ≤ i
    rw [e]; simp [rngD]
  · unfold rngD at hd
    rw [List.getElem?_map] at hd
    cases q : (List.range n)[i]? with
    | none => rw [q] at hd; cases hd
    | some j =>
      rw [q] at hd
      cases hd
      have hi : i < n := by
        have := (List.getElem?_eq_some_iff.mp q).1
        simpa using this
      rw [List.getElem?_range hi] at q
      cases q
      refine ⟨hi, fun y H' hy => ?_⟩
      obtain ⟨rfl, rfl⟩ := hy
      exact ⟨Ext.refl _ _, s, .int _⟩
/-- an end of a range -/
def R62 (j : Int) : Prop := -(2 ^ 62) ≤ j ∧ j < 2 ^ 62
noncomputable instance (j : Int) : Decidable (R62 j) := Classical.propDecidable _
noncomputable def iRange1 (fs : FA) : FA := fun δ θ => bd (fs δ θ) fun ds θ1 => match ds with
  | [.int j] => if R62 j then some (rngD 0 j.toNat, θ1) else none
  | _ => none
noncomputable def iRange2 (fs : FA) : FA := fun δ θ => bd (fs δ θ) fun ds θ1 => match ds with
  | [.int i, .int j] => if R62 i ∧ R62 j then some (rngD i (j - i).toNat, θ1) else none
  | _ => none
variable {a b : Expr} {p pos tpos : Pos} {fs : FA}
theorem di_range1 (hg : Gl X "range") (hm : X.mg "range" = none) (ha : DA X [a] fs) (hs : starEach [a] X.env = [(false, eval a X.env)] := by rfl) : DI X tg (.Call (.Name "range" p) [a] [] pos) (iRange1 fs) := by
  obtain ⟨t, h1, h2⟩ := ha.ex
  refine ⟨_, pi_range1 hg hm h1 hs, fun σ H ρ δ θ ds θ' R hs hθ e q => ?_⟩
  obtain ⟨l, θ1, e1, e⟩ := bd_some e
  split at e
  · rename_i j
    split at e
    · rename_i hb
      cases e
      refine h2 σ H ρ δ θ _ θ' _ hs hθ e1 fun vs H1 ρ1 x1 s1 r1 => ?_
      cases r1 with
      | cons r rs =>
        cases rs; cases r
        exact ⟨j, rfl, hb.1, hb.2, q _ H1 ρ1 x1 s1 walk_rng⟩
    · cases e
  · cases e
theorem di_range2 (hg : Gl X "range") (hm : X.mg "range" = none) (ha : DA X [a, b] fs) (hs : starEach [a, b] X.env = [(false, eval a X.env), (false, eval b X.env)] := by rfl) (hs2 : starEach [b] X.env = [(false, eval b X.env)] := by rfl) :
    DI X tg (.Call (.Name "range" p) [a, b] [] pos) (iRange2 fs) := by
  obtain ⟨t, h1, h2⟩ := ha.ex
  refine ⟨_, pi_range2 hg hm h1 hs hs2, fun σ H ρ δ θ ds θ' R hs hθ e q => ?_⟩
  obtain ⟨l, θ1, e1, e⟩ := bd_some e
  split at e
  · rename_i i j
    split at e
    · rename_i hb
      cases e
      refine h2 σ H ρ δ θ _ θ' _ hs hθ e1 fun vs H1 ρ1 x1 s1 r1 => ?_
      cases r1 with
      | cons r rs =>
        cases rs with
        | cons r' rs =>
          cases rs; cases r; cases r'
          exact ⟨i, j, rfl, ⟨hb.1.1, hb.1.2, hb.2.1, hb.2.2⟩, q _ H1 ρ1 x1 s1 walk_rng⟩
    · cases e
  · cases e
/-- enumerate(a list that nobody writes) -/
def enumD (ds : List D) : List D := ds.zipIdx.map fun p => .tup [.int (p.2 : Int), p.1]
def iEnumD (fs : FA) : FA := fun δ θ => bd (fs δ θ) fun l θ1 => match l with
  | [.lst ds] => some (enumD ds, θ1)
  | _ => none
theorem walk_enum {P w K} {ρ0 : List Addr} {H0 : Hp} {a : Addr} {vs : List V} {ds : List D} (h : LsF K ρ0 H0 a vs) (r : Reps P w K ρ0 H0 vs ds) : WalkD P w K (Ite K a) ρ0 H0 (enumD ds) := by
  intro ρ H θ i x s
  have h' := (x.lsf h).sq
  have r' := r.ext x
  refine ⟨fun e => ⟨vs, h', by rw [r'.length, e]; simp [enumD]⟩, fun d hd => ?_⟩
  unfold enumD at hd
  rw [List.getElem?_map, List.getElem?_zipIdx] at hd
  cases q : ds[i]? with
  | none => rw [q] at hd; cases hd
  | some d0 =>
    rw [q] at hd
    cases hd
    obtain ⟨v, hv, rv⟩ := r'.get q
    refine ⟨⟨vs, v, h', hv⟩, fun y H' hy => ?_⟩
    obtain ⟨T, z, rfl, hT, rfl, hz⟩ := hy
    have := hz vs h'
    rw [hv] at this
    cases this
    refine ⟨Ext.new hT, s.new hT, .tup (SqT.of upd_same) ?_⟩
    have e0 : (0 + i : Nat) = i := Nat.zero_add i
    simp only [e0]
    exact .cons (.int _) (.cons (rv.ext (Ext.new hT)) .nil)
theorem di_enum {elts : List Expr} {kk : Nat} (hg : Gl X "enumerate") (hm : X.mg "enumerate" = none) (ha : DA X [e] fs) (hs : starEach [e] X.env = [(false, eval e X.env)] := by rfl) :
    DI X (.Tuple elts kk tpos) (.Call (.Name "enumerate" p) [e] [] pos) (iEnumD fs) := by
  obtain ⟨t, h1, h2⟩ := ha.ex
  refine ⟨_, pi_enum hg hm h1 hs, fun σ H ρ δ θ ds θ' R hs hθ e q => ?_⟩
  obtain ⟨l, θ1, e1, e⟩ := bd_some e
  split at e
  · cases e
    refine h2 σ H ρ δ θ _ θ' _ hs hθ e1 fun vs H1 ρ1 x1 s1 r1 => ?_
    cases r1 with
    | cons r rs =>
      cases rs
      cases r with
      | lst k1 k2 => exact ⟨_, _, rfl, k1.sq, q _ H1 ρ1 x1 s1 (walk_enum k1 k2)⟩
  · cases e
end
end DL

set_option Elab.async false
set_option linter.all false
set_option maxRecDepth 100000
set_option maxHeartbeats 4000000
namespace DL
open PySem L2 PySem.Spec PyProof.Rows

/-! ### canonical readings -/
def tOf (P : Program) (w : World) (K : PySem.W.Frag) (f : F) : TE := fun σ H Q => ∃ ρ δ θ d θ', Sl P w K ρ H σ δ ∧ StR P w K ρ H θ ∧ f δ θ = some (d, θ') ∧ ∀ v H' ρ', Ext ρ H ρ' H' → StR P w K ρ' H' θ' → Rep P w K ρ' H' v d → Q v H'
def ttOf (P : Program) (w : World) (K : PySem.W.Frag) (f : FT) : TT := fun σ H Q => ∃ ρ δ θ b θ', Sl P w K ρ H σ δ ∧ StR P w K ρ H θ ∧ f δ θ = some (b, θ') ∧ ∀ H' ρ', Ext ρ H ρ' H' → StR P w K ρ' H' θ' → Q b H'
theorem DE.can {X : Cx} {e : Expr} {f : F} (h : DE X e f) : PE X e (tOf X.prog X.w X.K f) := by
  obtain ⟨t, h1, h2⟩ := h.ex
  exact ⟨fun pins s σ H Q I ⟨ρ, δ, θ, d, θ', a, b, c, q⟩ => h1.run pins s σ H Q I (h2 σ H ρ δ θ d θ' Q a b c q)⟩
theorem DT.can {X : Cx} {e : Expr} {f : FT} (h : DT X e f) : PT X e (ttOf X.prog X.w X.K f) := by
  obtain ⟨t, h1, h2⟩ := h.ex
  exact ⟨fun pins s σ H Q I ⟨ρ, δ, θ, d, θ', a, b, c, q⟩ => h1.run pins s σ H Q I (h2 σ H ρ δ θ d θ' Q a b c q)⟩

/-! ### targets -/
abbrev FG := D → Dv → Sto → Option (Dv × Sto)
abbrev FGs := List D → Dv → Sto → Option (Dv × Sto)
def RG (P : Program) (w : World) (K : PySem.W.Frag) (g : TG) (f : FG) : Prop := ∀ (v : V) (d : D) (σ : L2.St) (H : Hp) (ρ : List Addr) (δ : Dv) (θ : Sto) (δ' : Dv) (θ' : Sto) (Q : L2.St → Hp → Prop), Sl P w K ρ H σ δ → StR P w K ρ H θ → Rep P w K ρ H v d → f d δ θ = some (δ', θ') →
  (∀ σ' H' ρ', Ext ρ H ρ' H' → Sl P w K ρ' H' σ' δ' → StR P w K ρ' H' θ' → Q σ' H') → g v σ H Q
def RGs (P : Program) (w : World) (K : PySem.W.Frag) (g : TGs) (f : FGs) : Prop := ∀ (vs : List V) (ds : List D) (σ : L2.St) (H : Hp) (ρ : List Addr) (δ : Dv) (θ : Sto) (δ' : Dv) (θ' : Sto) (Q : L2.St → Hp → Prop), Sl P w K ρ H σ δ → StR P w K ρ H θ → Reps P w K ρ H vs ds → f ds δ θ = some (δ', θ') →
  (∀ σ' H' ρ', Ext ρ H ρ' H' → Sl P w K ρ' H' σ' δ' → StR P w K ρ' H' θ' → Q σ' H') → g vs σ H Q
structure DG (X : Cx) (tg : Expr) (g : TG) (f : FG) : Prop where
  pg : PG X tg g
  rg : RG X.prog X.w X.K g f
structure DGs (X : Cx) (ts : List Expr) (g : TGs) (f : FGs) : Prop where
  pg : PGs X ts g
  rg : RGs X.prog X.w X.K g f
def gNm (i : Nat) : FG := fun d δ θ => some (δ.set i (some d), θ)
def gNilD : FGs := fun ds δ θ => match ds with
  | [] => some (δ, θ)
  | _ => none
def gConsD (f : FG) (fs : FGs) : FGs := fun ds δ θ => match ds with
  | d :: ds => match f d δ θ with
    | some (δ1, θ1) => fs ds δ1 θ1
    | none => none
  | [] => none
def gTupD (n : Nat) (fs : FGs) : FG := fun d δ θ => match d with
  | .tup ds => if ds.length = n then fs ds δ θ else none
  | _ => none
section
variable {X : Cx} {e : Expr} {es : List Expr} {pos : Pos} {g : TG} {gs : TGs} {f : FG} {fs : FGs}
theorem rg_name {P w K} (i : Nat) : RG P w K (gName i) (gNm i) := fun v d σ H ρ δ θ δ' θ' Q hs hθ r h q => by
  unfold gNm at h
  cases h
  exact q _ H ρ (Ext.refl _ _) (hs.set i r) hθ
theorem dg_name (i : Nat) {x : Str} (hN : X.N.Nodup) (hi : X.N[i]? = some x := by rfl) (hx : Loc X.env.scope x := by first | exact Or.inl rfl | exact Or.inr rfl) (hf : X.fn x = true ∨ X.env.scope.names.lookup x = some .local := by first | exact .inl rfl | exact .inr rfl) : DG X (.Name x pos) (gName i) (gNm i) :=
  ⟨pg_name hN hi hx hf, rg_name i⟩
theorem dgs_nil : DGs X [] gNil gNilD := ⟨pgs_nil, fun vs ds σ H ρ δ θ δ' θ' Q hs hθ r h q => by
  unfold gNilD at h
  split at h
  · cases h
    cases r
    exact ⟨rfl, q σ H ρ (Ext.refl _ _) hs hθ⟩
  · cases h⟩
theorem dgs_cons (h1 : DG X e g f) (h2 : DGs X es gs fs) (hs : (assignEach (e :: es) X.env).map (·.2) = assign e X.env :: (assignEach es X.env).map (·.2) := by rfl) : DGs X (e :: es) (gCons g gs) (gConsD f fs) :=
  ⟨pgs_cons h1.pg h2.pg hs, fun vs ds σ H ρ δ θ δ' θ' Q hs hθ r h q => by
    unfold gConsD at h
    split at h
    · split at h
      · rename_i e1
        cases r with
        | cons r rs =>
          refine ⟨_, _, rfl, h1.rg _ _ σ H ρ δ θ _ _ _ hs hθ r e1 fun σ1 H1 ρ1 x1 l1 s1 => ?_⟩
          exact h2.rg _ _ σ1 H1 ρ1 _ _ δ' θ' Q l1 s1 (rs.ext x1) h fun σ2 H2 ρ2 x2 l2 s2 => q σ2 H2 ρ2 (x1.trans x2) l2 s2
      · cases h
    · cases h⟩
theorem dg_tup {k n : Nat} (h : DGs X es gs fs) (hc : X.calm = true := by rfl) (hn : (assignEach es X.env).length = n := by rfl) (hst : (assignEach es X.env).findIdx? (·.1) = none := by rfl) : DG X (.Tuple es k pos) (gTup X.K n gs) (gTupD n fs) :=
  ⟨pg_tup hc h.pg hn hst, fun v d σ H ρ δ θ δ' θ' Q hs hθ r e q => by
    unfold gTupD at e
    split at e
    · split at e
      · rename_i hl
        cases r with
        | tup k1 k2 => exact ⟨_, _, rfl, k1, by rw [k2.length]; exact hl, h.rg _ _ σ H ρ δ θ δ' θ' Q hs hθ k2 e q⟩
      · cases e
    · cases e⟩
/-! xs[i] = .., xs a list that is written -/
def setIx (θ : Sto) (o i v : D) : Option Sto := match o, i with
  | .ref n, .int k => match θ[n]? with
    | some (.lst ds) => match ixN ds.length k with
      | some j => some (θ.set n (.lst (ds.set j v)))
      | none => none
    | _ => none
  | _, _ => none
def gSubD (fo fi : F) : FG := fun v δ θ => match fo δ θ with
  | some (o, θ1) => match fi δ θ1 with
    | some (i, θ2) => match setIx θ2 o i v with
      | some θ3 => some (δ, θ3)
      | none => none
    | none => none
  | none => none
theorem setIx_ok {P w K ρ H} {θ θ' : Sto} {o i v : D} {x y z : V} {Q : Hp → Prop} (s : StR P w K ρ H θ) (ro : Rep P w K ρ H x o) (ri : Rep P w K ρ H y i) (rv : Rep P w K ρ H z v) (h : setIx θ o i v = some θ')
    (q : ∀ H', Ext ρ H ρ H' → StR P w K ρ H' θ' → Q H') : rSetL x y z H Q := by
  unfold setIx at h
  split at h
  · rename_i n k
    split at h
    · rename_i ds hc
      split at h
      · rename_i j hj
        cases h
        cases ro with
        | ref hn =>
          rename_i a
          cases ri
          obtain ⟨vs, k1, k2⟩ := s.at_ n a _ hn hc
          obtain ⟨e1, e2⟩ := s.put (o := .lst (vs.set j z)) (c := .lst (ds.set j v)) hn hc fun x1 => ⟨_, upd_same, (k2.ext x1).set (rv.ext x1) j⟩
          exact ⟨a, vs, k, j, rfl, rfl, k1, by rw [k2.length]; exact hj, q _ e1 e2⟩
      · cases h
    · cases h
  · cases h
theorem dg_sub {o i : Expr} {fo fi : F} (ho : DE X o fo) (hi : DE X i fi)
    (ha : ∀ v, assign (.Subscript o i pos) X.env v = (do
      let ov ← holding [v] (eval o X.env)
      let iv ← holding [v, ov] (eval i X.env)
      standAt pos
      holding [v, ov, iv] (setItem ov iv v)
      release [v, ov, iv] []) := by intro _; rfl) : DG X (.Subscript o i pos) (gSub (tOf X.prog X.w X.K fo) (tOf X.prog X.w X.K fi) rSetL) (gSubD fo fi) :=
  ⟨pg_sub ho.can hi.can set_list ha, fun v d σ H ρ δ θ δ' θ' Q hs hθ r e q => by
    unfold gSubD at e
    split at e
    · rename_i o' θ1 e1
      split at e
      · rename_i i' θ2 e2
        split at e
        · rename_i θ3 e3
          cases e
          refine ⟨ρ, δ, θ, o', θ1, hs, hθ, e1, fun x H1 ρ1 x1 s1 r1 => ?_⟩
          refine ⟨ρ1, δ, θ1, i', θ2, hs.ext x1, s1, e2, fun y H2 ρ2 x2 s2 r2 => ?_⟩
          exact setIx_ok s2 (r1.ext x2) r2 (r.ext (x1.trans x2)) e3 fun H3 x3 s3 => q σ H3 ρ2 ((x1.trans x2).trans x3) (hs.ext ((x1.trans x2).trans x3)) s3
        · cases e
      · cases e
    · cases e⟩
end

/-! ### statements -/
/-- nothing is wished -/
abbrev W0 : WX := fun _ _ _ _ => False
inductive Out where
  | nx (δ : Dv) (θ : Sto)
  | ret (d : D) (θ : Sto)
  | bk (δ : Dv) (θ : Sto)
  | ct (δ : Dv) (θ : Sto)
  | ex (C : Addr) (δ : Dv) (θ : Sto)
abbrev FS := Dv → Sto → Option Out
def EndsOk (P : Program) (w : World) (K : PySem.W.Frag) (Wx : WX) (ρ : List Addr) (H : Hp) (o : Out) (E : Ends) : Prop := match o with
  | .nx δ θ => ∀ σ' H' ρ', Ext ρ H ρ' H' → Sl P w K ρ' H' σ' δ → StR P w K ρ' H' θ → E.nx σ' H'
  | .ret d θ => ∀ v H' ρ', Ext ρ H ρ' H' → StR P w K ρ' H' θ → Rep P w K ρ' H' v d → E.rt v H'
  | .bk δ θ => ∀ σ' H' ρ', Ext ρ H ρ' H' → Sl P w K ρ' H' σ' δ → StR P w K ρ' H' θ → E.bk σ' H'
  | .ct δ θ => ∀ σ' H' ρ', Ext ρ H ρ' H' → Sl P w K ρ' H' σ' δ → StR P w K ρ' H' θ → E.ct σ' H'
  | .ex C δ θ => ∀ σ' H' ρ', Ext ρ H ρ' H' → Sl P w K ρ' H' σ' δ → StR P w K ρ' H' θ → Wx (.ref C) none σ' H'
theorem EndsOk.later {P w K Wx} {ρ ρ1 : List Addr} {H H1 : Hp} {o : Out} {E : Ends} (h : EndsOk P w K Wx ρ H o E) (x : Ext ρ H ρ1 H1) : EndsOk P w K Wx ρ1 H1 o E := by
  cases o with
  | nx δ θ => exact fun σ' H' ρ' y l s => h σ' H' ρ' (x.trans y) l s
  | ret d θ => exact fun v H' ρ' y s r => h v H' ρ' (x.trans y) s r
  | bk δ θ => exact fun σ' H' ρ' y l s => h σ' H' ρ' (x.trans y) l s
  | ct δ θ => exact fun σ' H' ρ' y l s => h σ' H' ρ' (x.trans y) l s
  | ex C δ θ => exact fun σ' H' ρ' y l s => h σ' H' ρ' (x.trans y) l s
def RS (P : Program) (w : World) (K : PySem.W.Frag) (Wx : WX) (t : TS) (g : FS) : Prop := ∀ (σ : L2.St) (H : Hp) (ρ : List Addr) (δ : Dv) (θ : Sto) (o : Out) (E : Ends), Sl P w K ρ H σ δ → StR P w K ρ H θ → g δ θ = some o →
  EndsOk P w K Wx ρ H o E → t E σ H
structure DS (X : Cx) (Wx : WX) (st : Stmt) (g : FS) : Prop where
  ex : ∃ t, PS X st t ∧ RS X.prog X.w X.K Wx t g
structure DSs (X : Cx) (Wx : WX) (st : List Stmt) (g : FS) : Prop where
  ex : ∃ t, PSs X st t ∧ RS X.prog X.w X.K Wx t g

def sNx : FS := fun δ θ => some (.nx δ θ)
def sSeq (g h : FS) : FS := fun δ θ => match g δ θ with
  | some (.nx δ1 θ1) => h δ1 θ1
  | r => r
section
variable {X : Cx} {Wx : WX} {st : Stmt} {rest a b : List Stmt} {g h : FS} {e : Expr} {f : F} {ft : FT} {pos : Pos}
theorem dss_nil : DSs X Wx [] sNx := ⟨_, pss_nil, fun σ H ρ δ θ o E hs hθ e q => by
  unfold sNx at e
  cases e
  exact q σ H ρ (Ext.refl _ _) hs hθ⟩
theorem rs_seq {P w K} {t u : TS} (h1 : RS P w K Wx t g) (h2 : RS P w K Wx u h) : RS P w K Wx (tSeq t u) (sSeq g h) := fun σ H ρ δ θ o E hs hθ e q => by
  unfold sSeq at e
  show t { E with nx := u E } σ H
  split at e
  · rename_i δ1 θ1 e1
    refine h1 σ H ρ δ θ _ _ hs hθ e1 ?_
    intro σ1 H1 ρ1 x1 l1 s1
    exact h2 σ1 H1 ρ1 δ1 θ1 o E l1 s1 e (q.later x1)
  · rename_i hne
    refine h1 σ H ρ δ θ o _ hs hθ e ?_
    cases o with
    | nx δ θ => exact (hne δ θ e).elim
    | ret d θ => exact q
    | bk δ θ => exact q
    | ct δ θ => exact q
    | ex C δ θ => exact q
theorem dss_cons (h1 : DS X Wx st g) (h2 : DSs X Wx rest h) : DSs X Wx (st :: rest) (sSeq g h) := by
  obtain ⟨t, p1, r1⟩ := h1.ex
  obtain ⟨u, p2, r2⟩ := h2.ex
  exact ⟨_, pss_cons p1 p2, rs_seq r1 r2⟩
theorem dss_one (h1 : DS X Wx st g) : DSs X Wx [st] g := by
  obtain ⟨t, p1, r1⟩ := h1.ex
  exact ⟨_, pss_one p1, r1⟩
/-! assignment -/
def sAsg (f : F) (gt : FG) : FS := fun δ θ => match f δ θ with
  | some (d, θ1) => match gt d δ θ1 with
    | some (δ2, θ2) => some (.nx δ2 θ2)
    | none => none
  | none => none
theorem rs_asg {P w K} {te : TE} {tg : TG} {gt : FG} (h1 : RE P w K te f) (h2 : RG P w K tg gt) : RS P w K Wx (tAsg te tg) (sAsg f gt) := fun σ H ρ δ θ o E hs hθ e q => by
  unfold sAsg at e
  split at e
  · rename_i d θ1 e1
    split at e
    · rename_i δ2 θ2 e2
      cases e
      refine h1 σ H ρ δ θ d θ1 _ hs hθ e1 fun v H1 ρ1 x1 s1 r1 => ?_
      exact h2 v d σ H1 ρ1 δ θ1 δ2 θ2 _ (hs.ext x1) s1 r1 e2 fun σ' H' ρ' x2 l2 s2 => q σ' H' ρ' (x1.trans x2) l2 s2
    · cases e
  · cases e
theorem ds_set (i : Nat) {x : Str} {pos' : Pos} (hN : X.N.Nodup) (he : DE X e f) (hi : X.N[i]? = some x := by rfl) (hx : Loc X.env.scope x := by first | exact Or.inl rfl | exact Or.inr rfl) (hs : swapsWith e (some (.Name x pos')) pos.line X.env = pure false := by rfl)
    (hf : X.fn x = true ∨ X.env.scope.names.lookup x = some .local := by first | exact .inl rfl | exact .inr rfl) : DS X Wx (.Assign [.Name x pos'] e pos) (sAsg f (gNm i)) := by
  obtain ⟨t, p1, r1⟩ := he.ex
  exact ⟨_, ps_set hN hi hx p1 hs hf, rs_asg r1 (rg_name i)⟩
theorem ds_asg {tg : Expr} {gg : TG} {gt : FG} (he : DE X e f) (hg : DG X tg gg gt) (hs : swapsWithSole [tg] e pos.line X.env = pure false := by rfl) (hw : swappedStores [tg] e X.env = pure none := by rfl)
    (h1 : (assignEach [tg] X.env).map (·.2) = [assign tg X.env] := by rfl) : DS X Wx (.Assign [tg] e pos) (sAsg f gt) := by
  obtain ⟨t, p1, r1⟩ := he.ex
  exact ⟨_, ps_asg p1 hg.pg hs hw h1, rs_asg r1 hg.rg⟩
/-! o.f = e -/
def putFD (f : Str) (v : D) : List (Str × D) → List (Str × D)
  | [] => [(f, v)]
  | (g, x) :: r => if g = f then (g, v) :: r else (g, x) :: putFD f v r
theorem putFD_rel {P w K ρ H} {f : Str} {y : V} {d : D} (r : Rep P w K ρ H y d) : ∀ {fs : List (Str × V)} {gs : List (Str × D)}, fs.map (·.1) = gs.map (·.1) → Reps P w K ρ H (fs.map (·.2)) (gs.map (·.2)) →
    (putF f y fs).map (·.1) = (putFD f d gs).map (·.1) ∧ Reps P w K ρ H ((putF f y fs).map (·.2)) ((putFD f d gs).map (·.2))
  | [], [], _, _ => ⟨rfl, .cons r .nil⟩
  | [], _ :: _, h, _ => by simp at h
  | _ :: _, [], h, _ => by simp at h
  | (n, v) :: fs, (n', d') :: gs, h, h2 => by
    simp only [List.map_cons, List.cons.injEq] at h h2
    obtain ⟨rfl, h⟩ := h
    cases h2 with
    | cons r' rs =>
      unfold putF putFD
      by_cases hf : n = f
      · rw [if_pos hf, if_pos hf]
        exact ⟨by simp [h], .cons r rs⟩
      · rw [if_neg hf, if_neg hf]
        obtain ⟨i1, i2⟩ := putFD_rel r h rs
        exact ⟨by simp only [List.map_cons, i1], .cons r' i2⟩
def sFldD (C : Addr) (fn : Str) (fo f : F) : FS := fun δ θ => match f δ θ with
  | some (d, θ1) => match fo δ θ1 with
    | some (.ref n, θ2) => match θ2[n]? with
      | some (.ins C' fl) => if C' = C ∧ fl.length < 1000 then some (.nx δ (θ2.set n (.ins C' (putFD fn d fl)))) else none
      | _ => none
    | _ => none
  | none => none
theorem ds_fld {C : Addr} {fn : Str} {o : Expr} {fo : F} {pos' : Pos} (T : FldD X.K C fn) (ho : DE X o fo) (he : DE X e f) (hs : swapsWith e (some (.Attribute o fn pos')) pos.line X.env = pure false := by rfl) :
    DS X Wx (.Assign [.Attribute o fn pos'] e pos) (sFldD C fn fo f) := by
  obtain ⟨t, p1, r1⟩ := he.ex
  obtain ⟨u, p2, r2⟩ := ho.ex
  refine ⟨_, ps_fld p2 p1 hs, fun σ H ρ δ θ o E hs hθ e q => ?_⟩
  unfold sFldD at e
  split at e
  · rename_i d θ1 e1
    split at e
    · rename_i n θ2 e2
      split at e
      · rename_i C' fl hc
        by_cases hC : C' = C ∧ fl.length < 1000
        · rw [if_pos hC] at e
          cases e
          obtain ⟨rfl, hl⟩ := hC
          refine r1 σ H ρ δ θ d θ1 _ hs hθ e1 fun v H1 ρ1 x1 s1 k1 => ?_
          refine r2 σ H1 ρ1 δ θ1 _ θ2 _ (hs.ext x1) s1 e2 fun w' H2 ρ2 x2 s2 k2 => ?_
          cases k2 with
          | ref hn =>
            rename_i a
            obtain ⟨dx, fs, k3, k4, k5⟩ := s2.at_ n a _ hn hc
            have hl' : fs.length < 1000 := by
              have := congrArg List.length k4
              simp only [List.length_map] at this
              omega
            refine ⟨a, C', dx, fs, rfl, k3, T.cl, T.no, hl', ?_⟩
            obtain ⟨e3, e4⟩ := s2.put (o := .ins C' dx (putF fn v fs)) (c := .ins C' (putFD fn d fl)) hn hc fun x3 => by
              obtain ⟨i1, i2⟩ := putFD_rel (f := fn) ((k1.ext x2).ext x3) k4 (k5.ext x3)
              exact ⟨dx, _, upd_same, i1, i2⟩
            exact q σ _ ρ2 ((x1.trans x2).trans e3) (hs.ext ((x1.trans x2).trans e3)) e4
        · rw [if_neg hC] at e; cases e
      · cases e
    · cases e
  · cases e
/-! d[k] = e -/
def sDPutD (fo fi f : F) : FS := fun δ θ => match f δ θ with
  | some (d, θ1) => match fo δ θ1 with
    | some (.ref n, θ2) => match fi δ θ2 with
      | some (y, θ3) => match θ3[n]?, keyD y with
        | some (.dct es), some k => if es.length < 16000000 then some (.nx δ (θ3.set n (.dct (dPut es k d)))) else none
        | _, _ => none
      | none => none
    | _ => none
  | none => none
theorem ds_dput {o i : Expr} {fo fi : F} {pos' : Pos} (hu : X.A.units + 64 < cLine) (ho : DE X o fo) (hi : DE X i fi) (he : DE X e f) (hs : swapsWith e (some (.Subscript o i pos')) pos.line X.env = pure false := by rfl) :
    DS X Wx (.Assign [.Subscript o i pos'] e pos) (sDPutD fo fi f) := by
  obtain ⟨t, p1, r1⟩ := he.ex
  obtain ⟨u, p2, r2⟩ := ho.ex
  obtain ⟨v, p3, r3⟩ := hi.ex
  refine ⟨_, ps_dputN hu p2 p3 p1 hs, fun σ H ρ δ θ o E hs hθ e q => ?_⟩
  unfold sDPutD at e
  split at e
  · rename_i d θ1 e1
    split at e
    · rename_i n θ2 e2
      split at e
      · rename_i y θ3 e3
        split at e
        · rename_i es k hc hk
          split at e
          · rename_i hl
            cases e
            refine r1 σ H ρ δ θ d θ1 _ hs hθ e1 fun v H1 ρ1 x1 s1 k1 => ?_
            refine r2 σ H1 ρ1 δ θ1 _ θ2 _ (hs.ext x1) s1 e2 fun w' H2 ρ2 x2 s2 k2 => ?_
            refine r3 σ H2 ρ2 δ θ2 y θ3 _ (hs.ext (x1.trans x2)) s2 e3 fun z H3 ρ3 x3 s3 k3 => ?_
            obtain ⟨b, rfl, n1, n2⟩ := keyD_rep k3 hk
            have k2' := k2.ext x3
            cases k2' with
            | ref hn =>
              rename_i a
              obtain ⟨kvs, k4, k5, k6⟩ := s3.at_ n a _ hn hc
              have hl' : kvs.length < sizeLine := by
                have := congrArg List.length k5
                simp only [List.length_map] at this
                rw [this]
                exact Nat.lt_of_lt_of_le hl (by decide)
              refine ⟨a, b, kvs, k, rfl, rfl, k4, n1, n2, hl', fun xs hx => ?_⟩
              obtain ⟨e4, e5⟩ := s3.put (o := dkO X.prog X.w a xs) (c := .dct (dPut es k d)) hn hc fun x4 => by
                obtain ⟨i1, i2⟩ := dPut_rel k5 (k6.ext x4) k (((k1.ext x2).ext x3).ext x4)
                exact ⟨dPut kvs k v, ⟨xs, upd_same, Paired.mapP hx fun _ _ h => h.ext x4⟩, i1, i2⟩
              have xx := ((x1.trans x2).trans x3).trans e4
              exact q σ _ ρ3 xx (hs.ext xx) e5
          · cases e
        · cases e
      · cases e
    · cases e
  · cases e
/-! return, expression statements, if, break, continue, pass -/
def sRet (f : F) : FS := fun δ θ => match f δ θ with
  | some (d, θ1) => some (.ret d θ1)
  | none => none
theorem ds_ret (he : DE X e f) : DS X Wx (.Return (some e) pos) (sRet f) := by
  obtain ⟨t, p1, r1⟩ := he.ex
  refine ⟨_, ps_ret p1, fun σ H ρ δ θ o E hs hθ e q => ?_⟩
  unfold sRet at e
  split at e
  · rename_i d θ1 e1
    cases e
    exact r1 σ H ρ δ θ d θ1 _ hs hθ e1 fun v H1 ρ1 x1 s1 k1 => q v H1 ρ1 x1 s1 k1
  · cases e
def sRetN : FS := fun _ θ => some (.ret .non θ)
theorem ds_retN : DS X Wx (.Return none pos) sRetN := ⟨_, ps_retN, fun σ H ρ δ θ o E hs hθ e q => by
  unfold sRetN at e
  cases e
  exact q .non H ρ (Ext.refl _ _) hθ .non⟩
def sExpr (f : F) : FS := fun δ θ => match f δ θ with
  | some (_, θ1) => some (.nx δ θ1)
  | none => none
theorem ds_expr (he : DE X e f) (hs : swapsWith e none pos.line X.env = pure false := by rfl) : DS X Wx (.Expr e pos) (sExpr f) := by
  obtain ⟨t, p1, r1⟩ := he.ex
  refine ⟨_, ps_expr p1 hs, fun σ H ρ δ θ o E hs hθ e q => ?_⟩
  unfold sExpr at e
  split at e
  · rename_i d θ1 e1
    cases e
    exact r1 σ H ρ δ θ d θ1 _ hs hθ e1 fun v H1 ρ1 x1 s1 k1 => q σ H1 ρ1 x1 (hs.ext x1) s1
  · cases e
def sIf (ft : FT) (g h : FS) : FS := fun δ θ => match ft δ θ with
  | some (true, θ1) => g δ θ1
  | some (false, θ1) => h δ θ1
  | none => none
theorem ds_if (hc : DT X e ft) (ha : DSs X Wx a g) (hb : DSs X Wx b h) : DS X Wx (.If e a b pos) (sIf ft g h) := by
  obtain ⟨c, p1, r1⟩ := hc.ex
  obtain ⟨t, p2, r2⟩ := ha.ex
  obtain ⟨u, p3, r3⟩ := hb.ex
  refine ⟨_, ps_if p1 p2 p3, fun σ H ρ δ θ o E hs hθ e q => ?_⟩
  unfold sIf at e
  split at e
  · rename_i θ1 e1
    refine r1 σ H ρ δ θ true θ1 _ hs hθ e1 fun H1 ρ1 x1 s1 => ?_
    show t E σ H1
    exact r2 σ H1 ρ1 δ θ1 o E (hs.ext x1) s1 e (q.later x1)
  · rename_i θ1 e1
    refine r1 σ H ρ δ θ false θ1 _ hs hθ e1 fun H1 ρ1 x1 s1 => ?_
    show u E σ H1
    exact r3 σ H1 ρ1 δ θ1 o E (hs.ext x1) s1 e (q.later x1)
  · cases e
def sBk : FS := fun δ θ => some (.bk δ θ)
def sCt : FS := fun δ θ => some (.ct δ θ)
theorem ds_break : DS X Wx (.Break pos) sBk := ⟨_, ps_break, fun σ H ρ δ θ o E hs hθ e q => by
  unfold sBk at e
  cases e
  exact q σ H ρ (Ext.refl _ _) hs hθ⟩
theorem ds_continue : DS X Wx (.Continue pos) sCt := ⟨_, ps_continue, fun σ H ρ δ θ o E hs hθ e q => by
  unfold sCt at e
  cases e
  exact q σ H ρ (Ext.refl _ _) hs hθ⟩
theorem ds_pass : DS X Wx (.Pass pos) sNx := ⟨_, ps_pass, fun σ H ρ δ θ o E hs hθ e q => by
  unfold sNx at e
  cases e
  exact q σ H ρ (Ext.refl _ _) hs hθ⟩
end

/-! ### loops -/
def whileF (c : FT) (b : FS) : Nat → FS
  | 0, _, _ => none
  | n + 1, δ, θ => match c δ θ with
    | some (true, θ1) => match b δ θ1 with
      | some (.nx δ2 θ2) => whileF c b n δ2 θ2
      | some (.ct δ2 θ2) => whileF c b n δ2 θ2
      | some (.bk δ2 θ2) => some (.nx δ2 θ2)
      | r => r
    | some (false, θ1) => some (.nx δ θ1)
    | none => none
theorem whileF_more {c : FT} {b : FS} : ∀ (n : Nat) (δ : Dv) (θ : Sto) (o : Out), whileF c b n δ θ = some o → ∀ m, n ≤ m → whileF c b m δ θ = some o
  | 0, _, _, _, h, _, _ => by cases h
  | n + 1, δ, θ, o, h, m, hm => by
    obtain ⟨m, rfl⟩ : ∃ k, m = k + 1 := ⟨m - 1, by omega⟩
    unfold whileF at h ⊢
    split at h
    · rename_i θ1 e1
      split at h
      · exact whileF_more n _ _ o h m (by omega)
      · exact whileF_more n _ _ o h m (by omega)
      · exact h
      · rename_i h1 h2 h3
        cases q : b δ θ1 with
        | none => rw [q] at h; cases h
        | some r =>
          rw [q] at h
          cases h
          cases o with
          | nx a b => exact (h1 _ _ q).elim
          | ct a b => exact (h2 _ _ q).elim
          | bk a b => exact (h3 _ _ q).elim
          | ret a b => rfl
          | ex a b c => rfl
    · exact h
    · cases h
open Classical in
noncomputable def sWhile (c : FT) (b : FS) : FS := fun δ θ => if h : ∃ o, ∃ n, whileF c b n δ θ = some o then some (Classical.choose h) else none
theorem sWhile_of {c : FT} {b : FS} {n : Nat} {δ : Dv} {θ : Sto} {o : Out} (h : whileF c b n δ θ = some o) : sWhile c b δ θ = some o := by
  have hx : ∃ o, ∃ n, whileF c b n δ θ = some o := ⟨o, n, h⟩
  unfold sWhile
  rw [dif_pos hx]
  obtain ⟨m, hm⟩ := Classical.choose_spec hx
  have h1 := whileF_more n δ θ o h (max n m) (Nat.le_max_left _ _)
  have h2 := whileF_more m δ θ _ hm (max n m) (Nat.le_max_right _ _)
  rw [h1] at h2
  rw [Option.some.inj h2]
theorem sWhile_some {c : FT} {b : FS} {δ : Dv} {θ : Sto} {o : Out} (h : sWhile c b δ θ = some o) : ∃ n, whileF c b n δ θ = some o := by
  unfold sWhile at h
  split at h
  · rename_i hx
    cases h
    exact Classical.choose_spec hx
  · cases h
def forF (gt : FG) (b : FS) : List D → FS
  | [], δ, θ => some (.nx δ θ)
  | d :: ds, δ, θ => match gt d δ θ with
    | some (δ1, θ1) => match b δ1 θ1 with
      | some (.nx δ2 θ2) => forF gt b ds δ2 θ2
      | some (.ct δ2 θ2) => forF gt b ds δ2 θ2
      | some (.bk δ2 θ2) => some (.nx δ2 θ2)
      | r => r
    | none => none
def sFor (fi : FA) (gt : FG) (b : FS) : FS := fun δ θ => match fi δ θ with
  | some (ds, θ1) => forF gt b ds δ θ1
  | none => none
section
variable {X : Cx} {Wx : WX} {body : List Stmt} {pos : Pos} {c iter tg : Expr} {fc : FT} {fb : FS} {fi : FA} {gg : TG} {gt : FG}
theorem ds_while (hp : PassesOwn (model X.prog X.w) X.A X.env X.xe) (hc : DT X c fc) (hb : DSs X Wx body fb) : DS X Wx (.While c body [] pos) (sWhile fc fb) := by
  obtain ⟨t, p1, r1⟩ := hc.ex
  obtain ⟨u, p2, r2⟩ := hb.ex
  refine ⟨_, ps_while hp p1 p2, fun σ H ρ δ θ o E hs hθ e q => ?_⟩
  obtain ⟨n, e⟩ := sWhile_some e
  refine ⟨fun m σ' H' => ∃ ρ' δ' θ', Ext ρ H ρ' H' ∧ Sl X.prog X.w X.K ρ' H' σ' δ' ∧ StR X.prog X.w X.K ρ' H' θ' ∧ whileF fc fb m δ' θ' = some o, ⟨n, ρ, δ, θ, Ext.refl _ _, hs, hθ, e⟩, ?_⟩
  rintro m σ1 H1 ⟨ρ1, δ1, θ1, x1, l1, s1, w1⟩
  cases m with
  | zero => cases w1
  | succ m =>
    unfold whileF at w1
    split at w1
    · rename_i θ2 e2
      refine r1 σ1 H1 ρ1 δ1 θ1 true θ2 _ l1 s1 e2 fun H2 ρ2 x2 s2 => ?_
      rw [if_pos rfl]
      refine ⟨fun σ' H' => ∃ ρ' δ' θ', Ext ρ H ρ' H' ∧ Sl X.prog X.w X.K ρ' H' σ' δ' ∧ StR X.prog X.w X.K ρ' H' θ' ∧ whileF fc fb m δ' θ' = some o, fun σ' H' h => ⟨m, Nat.lt_succ_self m, h⟩, ?_⟩
      have x12 := x1.trans x2
      cases e3 : fb δ1 θ2 with
      | none => rw [e3] at w1; cases w1
      | some r =>
        rw [e3] at w1
        refine r2 σ1 H2 ρ2 δ1 θ2 r _ (l1.ext x2) s2 e3 ?_
        cases r with
        | nx δ3 θ3 => exact fun σ' H' ρ' x3 l3 s3 => ⟨ρ', δ3, θ3, x12.trans x3, l3, s3, w1⟩
        | ct δ3 θ3 => exact fun σ' H' ρ' x3 l3 s3 => ⟨ρ', δ3, θ3, x12.trans x3, l3, s3, w1⟩
        | bk δ3 θ3 => cases w1; exact fun σ' H' ρ' x3 l3 s3 => q σ' H' ρ' (x12.trans x3) l3 s3
        | ret d θ3 => cases w1; exact fun v H' ρ' x3 s3 k3 => q v H' ρ' (x12.trans x3) s3 k3
        | ex C δ3 θ3 => cases w1; exact fun σ' H' ρ' x3 l3 s3 => q σ' H' ρ' (x12.trans x3) l3 s3
    · rename_i θ2 e2
      cases w1
      refine r1 σ1 H1 ρ1 δ1 θ1 false θ2 _ l1 s1 e2 fun H2 ρ2 x2 s2 => ?_
      rw [if_neg Bool.false_ne_true]
      exact q σ1 H2 ρ2 (x1.trans x2) (l1.ext x2) s2
    · cases w1
theorem ds_for (hp : PassesOwn (model X.prog X.w) X.A X.env X.xe) (hi : DI X tg iter fi) (hg : DG X tg gg gt) (hb : DSs X Wx body fb) (hc : X.calm = true := by rfl)
    (hs : ∀ x, foldedSetIterable iter X.env x = pure x := by intro _; rfl) : DS X Wx (.For tg iter body [] pos) (sFor fi gt fb) := by
  obtain ⟨t, p1, r1⟩ := hi.ex
  obtain ⟨u, p2, r2⟩ := hb.ex
  refine ⟨_, ps_for hp hc p1 hg.pg p2 hs, fun σ H ρ δ θ o E hs hθ e q => ?_⟩
  unfold sFor at e
  split at e
  · rename_i ds θ1 e1
    refine r1 σ H ρ δ θ ds θ1 _ hs hθ e1 fun J H1 ρ1 x1 s1 wk => ?_
    refine ⟨fun i m σ' H' => m = ds.length - i ∧ i ≤ ds.length ∧ ∃ ρ' δ' θ', Ext ρ1 H1 ρ' H' ∧ Sl X.prog X.w X.K ρ' H' σ' δ' ∧ StR X.prog X.w X.K ρ' H' θ' ∧ forF gt fb (ds.drop i) δ' θ' = some o,
      ⟨ds.length, by simp, Nat.zero_le _, ρ1, δ, θ1, Ext.refl _ _, hs.ext x1, s1, by simpa using e⟩, ?_⟩
    rintro i m σ2 H2 ⟨rfl, hi, ρ2, δ2, θ2, x2, l2, s2, w2⟩
    obtain ⟨wk1, wk2⟩ := wk ρ2 H2 θ2 i x2 s2
    by_cases hlt : i < ds.length
    · have hd : ds[i]? = some ds[i] := List.getElem?_eq_getElem hlt
      rw [List.drop_eq_getElem_cons hlt] at w2
      obtain ⟨go, y⟩ := wk2 _ hd
      refine .inr ⟨go, fun σ' H' => ∃ ρ' δ' θ', Ext ρ1 H1 ρ' H' ∧ Sl X.prog X.w X.K ρ' H' σ' δ' ∧ StR X.prog X.w X.K ρ' H' θ' ∧ forF gt fb (ds.drop (i + 1)) δ' θ' = some o,
        fun σ' H' h => ⟨ds.length - (i + 1), by omega, rfl, hlt, h⟩, fun v H' hy => ?_⟩
      obtain ⟨x3, s3, k3⟩ := y v H' hy
      unfold forF at w2
      split at w2
      · rename_i δ4 θ4 e4
        refine hg.rg v _ σ2 H' ρ2 δ2 θ2 δ4 θ4 _ (l2.ext x3) s3 k3 e4 fun σ4 H4 ρ4 x4 l4 s4 => ?_
        have x14 := (x2.trans x3).trans x4
        cases e5 : fb δ4 θ4 with
        | none => rw [e5] at w2; cases w2
        | some r =>
          rw [e5] at w2
          refine r2 σ4 H4 ρ4 δ4 θ4 r _ l4 s4 e5 ?_
          cases r with
          | nx δ5 θ5 => exact fun σ' H' ρ' x5 l5 s5 => ⟨ρ', δ5, θ5, x14.trans x5, l5, s5, w2⟩
          | ct δ5 θ5 => exact fun σ' H' ρ' x5 l5 s5 => ⟨ρ', δ5, θ5, x14.trans x5, l5, s5, w2⟩
          | bk δ5 θ5 => cases w2; exact fun σ' H' ρ' x5 l5 s5 => q σ' H' ρ' (x1.trans (x14.trans x5)) l5 s5
          | ret d θ5 => cases w2; exact fun v H' ρ' x5 s5 k5 => q v H' ρ' (x1.trans (x14.trans x5)) s5 k5
          | ex C δ5 θ5 => cases w2; exact fun σ' H' ρ' x5 l5 s5 => q σ' H' ρ' (x1.trans (x14.trans x5)) l5 s5
      · cases w2
    · have e : i = ds.length := by omega
      subst e
      rw [List.drop_length] at w2
      unfold forF at w2
      cases w2
      exact .inl ⟨wk1 rfl, q σ2 H2 ρ2 (x1.trans x2) l2 s2⟩
  · cases e
end

/-! ### a def by its body -/
def bodyM (n : Nat) (g : FS) : M := fun ds θ => match g (ds.map some ++ List.replicate (n - ds.length) none) θ with
  | some (.ret d θ') => some (d, θ')
  | some (.nx _ θ') => some (.non, θ')
  | _ => none
theorem fn_ok {P : Program} {w : World} {K : PySem.W.Frag} {mg : Str → Option Value} {base : Heap} {k : Nat} {x qual : Str} {st : Stmt} {f : Addr} {fd : FuncData} {N ps : List Str} {g : FS} (Fn : Fun K x qual st f fd) (S : FnScope N ps (defScope st))
    (hb : ∀ (cdv : Value) (A : Around) (outer : List Env) (s : Shared) (H : Hp) (E : XK), Room k (A.deeper (envOfC qual (defScope st) s.heap.objs.size f cdv)) →
      DSs (cxOf CX0 P w K mg base N qual (defScope st) f cdv A outer s H E).nox W0 (defBody st) g) : FnD P w K mg base (k + 1) f fd ps (bodyM N.length g) := by
  refine Fn.ok S (fun vs H Q E h => h.1) fun cdv A outer s H vs Q E hr h => ?_
  obtain ⟨t, p1, r1⟩ := (hb cdv A outer s H E hr).ex
  refine ⟨t, p1, ?_⟩
  obtain ⟨hl, ρ, ds, θ, d, θ', h1, h2, h3, h4⟩ := h
  unfold bodyM at h3
  split at h3
  · rename_i e
    cases h3
    exact r1 _ H ρ _ θ _ _ (Sl.start h1) h2 e fun v H' ρ' x s k => h4 v H' ρ' x s k
  · rename_i e
    cases h3
    exact r1 _ H ρ _ θ _ _ (Sl.start h1) h2 e fun σ' H' ρ' x l s => h4 _ H' ρ' x s .non
  · cases h3
end DL

set_option Elab.async false
set_option linter.all false
set_option maxRecDepth 100000
set_option maxHeartbeats 4000000
namespace DL
open PySem L2 PySem.Spec PyProof.Rows

/-! ### data that speaks of cells below L alone -/
mutual
def below (L : Nat) : D → Bool
  | .non => true
  | .bl _ => true
  | .int _ => true
  | .str _ => true
  | .tup ds => belows L ds
  | .lst ds => belows L ds
  | .dct kvs => belowK L kvs
  | .ins _ fs => belowF L fs
  | .ref n => decide (n < L)
  | .adr _ => true
def belows (L : Nat) : List D → Bool
  | [] => true
  | d :: ds => below L d && belows L ds
def belowK (L : Nat) : List (NestedKey × D) → Bool
  | [] => true
  | (_, d) :: ds => below L d && belowK L ds
def belowF (L : Nat) : List (Str × D) → Bool
  | [] => true
  | (_, d) :: ds => below L d && belowF L ds
end
theorem belowK_map (L : Nat) : ∀ kvs : List (NestedKey × D), belowK L kvs = belows L (kvs.map (·.2))
  | [] => rfl
  | (_, d) :: ds => by simp only [belowK, List.map_cons, belows, belowK_map L ds]
theorem belowF_map (L : Nat) : ∀ kvs : List (Str × D), belowF L kvs = belows L (kvs.map (·.2))
  | [] => rfl
  | (_, d) :: ds => by simp only [belowF, List.map_cons, belows, belowF_map L ds]
def belowC (L : Nat) : Cell → Bool
  | .lst ds => belows L ds
  | .dct kvs => belowK L kvs
  | .ins _ fs => belowF L fs
section
variable {P : Program} {w : World} {K : PySem.W.Frag} {ρ m : List Addr} {H : Hp}
/-- the cells behind are forgotten -/
theorem lsf_cut {a : Addr} {vs : List V} (h : LsF K (ρ ++ m) H a vs) : LsF K ρ H a vs := by
  rcases h with ⟨h, hn⟩ | h
  · exact .inl ⟨h, fun q => hn (List.mem_append_left _ q)⟩
  · exact .inr h
mutual
theorem rep_cut : ∀ {v : V} {d : D}, Rep P w K (ρ ++ m) H v d → below ρ.length d = true → Rep P w K ρ H v d
  | _, _, .non, _ => .non
  | _, _, .bl b, _ => .bl b
  | _, _, .int i, _ => .int i
  | _, _, .str s, _ => .str s
  | _, _, .tup h hs, hb => .tup h (reps_cut hs (by simpa only [below] using hb))
  | _, _, .lst h hs, hb => .lst (lsf_cut h) (reps_cut hs (by simpa only [below] using hb))
  | _, _, .dct hn h hk hs, hb => .dct (fun q => hn (List.mem_append_left _ q)) h hk (reps_cut hs (by rw [← belowK_map]; simpa only [below] using hb))
  | _, _, .ins hn h hk hs, hb => .ins (fun q => hn (List.mem_append_left _ q)) h hk (reps_cut hs (by rw [← belowF_map]; simpa only [below] using hb))
  | _, _, .ref h, hb => .ref (by
      have hl := of_decide_eq_true (by simpa only [below] using hb)
      rwa [List.getElem?_append_left hl] at h)
  | _, _, .adr a, _ => .adr a
theorem reps_cut : ∀ {vs : List V} {ds : List D}, Reps P w K (ρ ++ m) H vs ds → belows ρ.length ds = true → Reps P w K ρ H vs ds
  | _, _, .nil, _ => .nil
  | _, _, .cons h hs, hb => by
    simp only [belows, Bool.and_eq_true] at hb
    exact .cons (rep_cut h hb.1) (reps_cut hs hb.2)
end
mutual
theorem rep_below : ∀ {v : V} {d : D}, Rep P w K ρ H v d → below ρ.length d = true
  | _, _, .non => rfl
  | _, _, .bl b => rfl
  | _, _, .int i => rfl
  | _, _, .str s => rfl
  | _, _, .tup h hs => by simp only [below]; exact reps_below hs
  | _, _, .lst h hs => by simp only [below]; exact reps_below hs
  | _, _, .dct hn h hk hs => by simp only [below]; rw [belowK_map]; exact reps_below hs
  | _, _, .ins hn h hk hs => by simp only [below]; rw [belowF_map]; exact reps_below hs
  | _, _, .ref h => by simp only [below]; exact decide_eq_true (List.getElem?_eq_some_iff.mp h).1
  | _, _, .adr _ => rfl
theorem reps_below : ∀ {vs : List V} {ds : List D}, Reps P w K ρ H vs ds → belows ρ.length ds = true
  | _, _, .nil => rfl
  | _, _, .cons h hs => by
    simp only [belows, Bool.and_eq_true]
    exact ⟨rep_below h, reps_below hs⟩
end
theorem cell_cut {a : Addr} {c : Cell} (h : CellAt P w K (ρ ++ m) H a c) (hb : belowC ρ.length c = true) : CellAt P w K ρ H a c := by
  cases c with
  | lst ds => obtain ⟨vs, h1, h2⟩ := h; exact ⟨vs, h1, reps_cut h2 hb⟩
  | dct es => obtain ⟨kvs, h1, h2, h3⟩ := h; exact ⟨kvs, h1, h2, reps_cut h3 (by rw [← belowK_map]; exact hb)⟩
  | ins C gs => obtain ⟨dx, fs, h1, h2, h3⟩ := h; exact ⟨dx, fs, h1, h2, reps_cut h3 (by rw [← belowF_map]; exact hb)⟩
theorem cell_below {a : Addr} {c : Cell} (h : CellAt P w K ρ H a c) : belowC ρ.length c = true := by
  cases c with
  | lst ds => obtain ⟨vs, h1, h2⟩ := h; exact reps_below h2
  | dct es => obtain ⟨kvs, h1, h2, h3⟩ := h; simp only [belowC]; rw [belowK_map]; exact reps_below h3
  | ins C gs => obtain ⟨dx, fs, h1, h2, h3⟩ := h; simp only [belowC]; rw [belowF_map]; exact reps_below h3
end

/-! ### freezing: what no one writes any more becomes data -/
def mapO {α β : Type} (g : α → Option β) : List α → Option (List β)
  | [] => some []
  | a :: as => match g a, mapO g as with
    | some b, some bs => some (b :: bs)
    | _, _ => none
def frz (θ : Sto) (L : Nat) : Nat → D → Option D
  | 0, d => if below L d = true then some d else none
  | f + 1, d => if below L d = true then some d else match d with
    | .tup ds => (mapO (frz θ L f) ds).map .tup
    | .lst ds => (mapO (frz θ L f) ds).map .lst
    | .ref n => match θ[n]? with
      | some (.lst ds) => (mapO (frz θ L f) ds).map .lst
      | some (.dct kvs) => (mapO (frz θ L f) (kvs.map (·.2))).map fun es => .dct ((kvs.map (·.1)).zip es)
      | some (.ins C fs) => (mapO (frz θ L f) (fs.map (·.2))).map fun es => .ins C ((fs.map (·.1)).zip es)
      | none => none
    | _ => none
theorem mapO_length {α β : Type} {g : α → Option β} : ∀ {as : List α} {bs : List β}, mapO g as = some bs → bs.length = as.length
  | [], _, h => by cases h; rfl
  | a :: as, _, h => by
    unfold mapO at h
    split at h
    · rename_i e1 e2
      cases h
      simp [mapO_length e2]
    · cases h
section
variable {P : Program} {w : World} {K : PySem.W.Frag} {ρ m : List Addr} {H : Hp} {θ : Sto}
theorem frz_rep (s : StR P w K (ρ ++ m) H θ) : ∀ (f : Nat) {d d' : D} {v : V}, Rep P w K (ρ ++ m) H v d → frz θ ρ.length f d = some d' → Rep P w K ρ H v d' := by
  intro f
  induction f with
  | zero =>
    intro d d' v r h
    unfold frz at h
    split at h
    · rename_i hb
      cases h
      exact rep_cut r hb
    · cases h
  | succ f ih =>
    have all : ∀ {ds es : List D} {vs : List V}, Reps P w K (ρ ++ m) H vs ds → mapO (frz θ ρ.length f) ds = some es → Reps P w K ρ H vs es := by
      intro ds
      induction ds with
      | nil => intro es vs r h; cases h; cases r; exact .nil
      | cons d ds ihd =>
        intro es vs r h
        unfold mapO at h
        split at h
        · rename_i b bs e1 e2
          cases h
          cases r with
          | cons r rs => exact .cons (ih r e1) (ihd rs e2)
        · cases h
    intro d d' v r h
    unfold frz at h
    split at h
    · rename_i hb
      cases h
      exact rep_cut r hb
    · rename_i hb
      split at h
      · rw [Option.map_eq_some_iff] at h
        obtain ⟨es, e1, rfl⟩ := h
        cases r with
        | tup k1 k2 => exact .tup k1 (all k2 e1)
      · rw [Option.map_eq_some_iff] at h
        obtain ⟨es, e1, rfl⟩ := h
        cases r with
        | lst k1 k2 => exact .lst (lsf_cut k1) (all k2 e1)
      · rename_i n
        cases r with
        | ref hn =>
          rename_i a
          have hL : ¬ n < ρ.length := fun q => hb (by simp only [below]; exact decide_eq_true q)
          have ha : a ∉ ρ := fun q => by
            obtain ⟨i, hi⟩ := List.mem_iff_getElem?.mp q
            have hil : i < ρ.length := (List.getElem?_eq_some_iff.mp hi).1
            have hi' : (ρ ++ m)[i]? = some a := by rw [List.getElem?_append_left hil]; exact hi
            obtain ⟨l1, e1⟩ := List.getElem?_eq_some_iff.mp hi'
            obtain ⟨l2, e2⟩ := List.getElem?_eq_some_iff.mp hn
            have := (List.getElem_inj s.nd).mp (e1.trans e2.symm)
            omega
          split at h
          · rename_i ds hc
            rw [Option.map_eq_some_iff] at h
            obtain ⟨es, e1, rfl⟩ := h
            obtain ⟨vs, k1, k2⟩ := s.at_ n a _ hn hc
            exact .lst (.inl ⟨k1, ha⟩) (all k2 e1)
          · rename_i kvs hc
            rw [Option.map_eq_some_iff] at h
            obtain ⟨es, e1, rfl⟩ := h
            obtain ⟨kv, k1, k2, k3⟩ := s.at_ n a _ hn hc
            have hl := mapO_length e1
            rw [List.length_map] at hl
            refine .dct ha k1 ?_ ?_
            · have z1 : ((kvs.map (·.1)).zip es).map (·.1) = kvs.map (·.1) := List.map_fst_zip (by simp [hl])
              rw [k2, z1]
            · have q := all k3 e1
              rwa [← List.map_snd_zip (l₁ := kvs.map (·.1)) (l₂ := es) (by simp [hl])] at q
          · rename_i C fs hc
            rw [Option.map_eq_some_iff] at h
            obtain ⟨es, e1, rfl⟩ := h
            obtain ⟨dx, gs, k1, k2, k3⟩ := s.at_ n a _ hn hc
            have hl := mapO_length e1
            rw [List.length_map] at hl
            refine .ins ha k1 ?_ ?_
            · have z1 : ((fs.map (·.1)).zip es).map (·.1) = fs.map (·.1) := List.map_fst_zip (by simp [hl])
              rw [k2, z1]
            · have q := all k3 e1
              rwa [← List.map_snd_zip (l₁ := fs.map (·.1)) (l₂ := es) (by simp [hl])] at q
          · cases h
      · cases h
/-- what stands below is as it was, or plain -/
def OkCut (θ θ' : Sto) : Prop := θ.length ≤ θ'.length ∧ ∀ (n : Nat) (c : Cell), n < θ.length → θ'[n]? = some c → θ[n]? = some c ∨ belowC θ.length c = true
end
open Classical in
noncomputable def cutR (θ : Sto) (r : Option (D × Sto)) : Option (D × Sto) := match r with
  | some (d, θ') => match frz θ' θ.length 9 d with
    | some d' => if OkCut θ θ' then some (d', θ'.take θ.length) else none
    | none => none
  | none => none
theorem cut_ok {P w K} {ρ ρ' : List Addr} {H H' : Hp} {θ θ' θ2 : Sto} {d d' : D} {v : V} (s : StR P w K ρ H θ) (x : Ext ρ H ρ' H') (s' : StR P w K ρ' H' θ') (r : Rep P w K ρ' H' v d) (h : cutR θ (some (d, θ')) = some (d', θ2)) :
    Ext ρ H ρ H' ∧ StR P w K ρ H' θ2 ∧ Rep P w K ρ H' v d' := by
  unfold cutR at h
  split at h
  · rename_i d1 θ1 e1
    cases e1
    split at h
    · rename_i d2 e2
      split at h
      · rename_i ok
        cases h
        obtain ⟨m, rfl, hm⟩ := x.more
        rw [← s.len] at e2
        refine ⟨⟨⟨[], by simp, by simp⟩, x.keep, x.tups, x.frzs, x.there⟩, ⟨?_, ?_, fun n a c h1 h2 => ?_⟩, frz_rep s' _ r e2⟩
        · exact (List.nodup_append.mp s'.nd).1
        · have := ok.1
          rw [List.length_take, s.len]; omega
        · have hn : n < ρ.length := (List.getElem?_eq_some_iff.mp h1).1
          have hn' : n < θ.length := by rw [← s.len]; exact hn
          rw [List.getElem?_take_of_lt hn'] at h2
          have k := s'.at_ n a c (by rw [List.getElem?_append_left hn]; exact h1) h2
          rcases ok.2 n c hn' h2 with q | q
          · refine cell_cut k ?_
            exact cell_below (s.at_ n a c h1 q)
          · exact cell_cut k (by rw [s.len]; exact q)
      · cases h
    · cases h
  · rename_i e1; cases e1
noncomputable def fCut (f : F) : F := fun δ θ => cutR θ (f δ θ)
noncomputable def mCut (m : M) : M := fun ds θ => cutR θ (m ds θ)
theorem cutR_some {θ : Sto} {r : Option (D × Sto)} {x : D × Sto} (h : cutR θ r = some x) : ∃ d θ', r = some (d, θ') := by
  cases r with
  | none => cases h
  | some r => exact ⟨r.1, r.2, rfl⟩
theorem de_cut {X : Cx} {e : Expr} {f : F} (h : DE X e f) : DE X e (fCut f) := by
  obtain ⟨t, h1, h2⟩ := h.ex
  refine ⟨t, h1, fun σ H ρ δ θ d θ' Q hs hθ e q => ?_⟩
  unfold fCut at e
  obtain ⟨d1, θ1, e1⟩ := cutR_some e
  rw [e1] at e
  refine h2 σ H ρ δ θ d1 θ1 _ hs hθ e1 fun v H1 ρ1 x1 s1 r1 => ?_
  obtain ⟨a, b, c⟩ := cut_ok hθ x1 s1 r1 e
  exact q v H1 ρ a b c
theorem FnD.cut {P : Program} {w : World} {K : PySem.W.Frag} {mg : Str → Option Value} {base : Heap} {k : Nat} {f : Addr} {fd : FuncData} {ps : List Str} {m : M} (F : FnD P w K mg base k f fd ps m) : FnD P w K mg base k f fd ps (mCut m) :=
  FnOk.imp F fun vs H Q E ⟨hl, ρ, ds, θ, d, θ', h1, h2, h3, h4⟩ => by
    unfold mCut at h3
    obtain ⟨d1, θ1, e1⟩ := cutR_some h3
    rw [e1] at h3
    refine ⟨hl, ρ, ds, θ, d1, θ1, h1, h2, e1, fun v H' ρ' x s r => ?_⟩
    obtain ⟨a, b, c⟩ := cut_ok h2 x s r h3
    exact h4 v H' ρ a b c

/-! ### comprehensions: a new list that may be written; cut, where it is read alone -/
def wipeD (δ : Dv) : List Nat → Dv
  | [] => δ
  | v :: vs => (wipeD δ vs).set v none
theorem Sl.wipe {P w K} {ρ : List Addr} {H : Hp} {σ : L2.St} {δ : Dv} (s : Sl P w K ρ H σ δ) : ∀ vs : List Nat, Sl P w K ρ H (L2.wipe σ vs) (wipeD δ vs)
  | [] => s
  | v :: vs => by
    have ih := Sl.wipe s vs
    refine ⟨by simp only [L2.wipe, wipeD, List.length_set]; exact ih.1, fun i d h => ?_⟩
    simp only [L2.wipe, wipeD] at h ⊢
    by_cases hi : i = v
    · subst hi
      have hl : i < (wipeD δ vs).length := by
        have := (List.getElem?_eq_some_iff.mp h).1
        simpa using this
      rw [List.getElem?_set_self hl] at h
      cases h
    · rw [List.getElem?_set_ne (Ne.symm hi)] at h
      obtain ⟨v', h1, h2⟩ := ih.2 i d h
      exact ⟨v', by rw [List.getElem?_set_ne (Ne.symm hi)]; exact h1, h2⟩
def WipesOk (g : TG) (vs : List Nat) : Prop := ∀ v σ H Q, g v (L2.wipe σ vs) H Q → g v (L2.wipe σ vs) H fun σ2 H2 => L2.wipe σ2 vs = L2.wipe σ vs ∧ Q σ2 H2
theorem wipe_get {σ : L2.St} {i : Nat} : ∀ {vs : List Nat}, (L2.wipe σ vs)[i]? = if i ∈ vs then (if i < σ.length then some none else none) else σ[i]?
  | [] => by simp [L2.wipe]
  | v :: vs => by
    simp only [L2.wipe, List.getElem?_set, L2.wipe_length, wipe_get (vs := vs), List.mem_cons]
    by_cases h : v = i
    · subst h; simp
    · have h' : ¬ i = v := fun e => h e.symm
      simp [h, h']
theorem wipe_eq {σ σ' : L2.St} {vs : List Nat} (hl : σ'.length = σ.length) (h : ∀ i, i ∉ vs → σ'[i]? = σ[i]?) : L2.wipe σ' vs = L2.wipe σ vs := by
  apply List.ext_getElem?
  intro i
  rw [wipe_get, wipe_get, hl]
  by_cases hi : i ∈ vs
  · rw [if_pos hi, if_pos hi]
  · rw [if_neg hi, if_neg hi, h i hi]
theorem wo_name {i : Nat} {vs : List Nat} (h : i ∈ vs) : WipesOk (gName i) vs := fun v σ H Q q => by
  refine ⟨?_, q⟩
  refine wipe_eq (by simp [L2.wipe_length]) fun j hj => ?_
  rw [List.getElem?_set_ne (show i ≠ j from fun e => hj (by rw [← e]; exact h)), wipe_get, if_neg hj]
/-- a target of names -/
def NamesOk (g : TGs) (vs : List Nat) : Prop := ∀ (us : List V) (σ σ0 : L2.St) (H : Hp) (Q : L2.St → Hp → Prop), σ.length = σ0.length → (∀ i, i ∉ vs → σ[i]? = σ0[i]?) → g us σ H Q → g us σ H fun σ2 H2 => L2.wipe σ2 vs = L2.wipe σ0 vs ∧ Q σ2 H2
theorem no_nil {vs : List Nat} : NamesOk gNil vs := fun us σ σ0 H Q h1 h2 ⟨e, q⟩ => ⟨e, wipe_eq h1 h2, q⟩
theorem no_cons {i : Nat} {vs : List Nat} {gs : TGs} (h : i ∈ vs) (hs : NamesOk gs vs) : NamesOk (gCons (gName i) gs) vs := fun us σ σ0 H Q h1 h2 ⟨v, r, e, q⟩ =>
  ⟨v, r, e, hs r (σ.set i (some v)) σ0 H Q (by simp [h1]) (fun j hj => by rw [List.getElem?_set_ne (show i ≠ j from fun e => hj (by rw [← e]; exact h))]; exact h2 j hj) q⟩
theorem wipe_wipe {σ : L2.St} {vs : List Nat} : L2.wipe (L2.wipe σ vs) vs = L2.wipe σ vs := wipe_eq (L2.wipe_length _ _) fun i hi => by rw [wipe_get, if_neg hi]
theorem wo_tup {K : PySem.W.Frag} {n : Nat} {gs : TGs} {vs : List Nat} (hs : NamesOk gs vs) : WipesOk (gTup K n gs) vs := fun v σ H Q ⟨a, xs, e, h1, h2, q⟩ => by
  refine ⟨a, xs, e, h1, h2, ?_⟩
  have z := hs xs (L2.wipe σ vs) (L2.wipe σ vs) H Q rfl (fun _ _ => rfl) q
  rw [wipe_wipe] at z
  exact z

structure DTs (X : Cx) (ifs : List Expr) (f : FT) : Prop where
  pt : PTs X ifs (ttOf X.prog X.w X.K f)
def tTrue : FT := fun _ θ => some (true, θ)
theorem dts_nil {X : Cx} : DTs X [] tTrue := ⟨⟨fun pins s σ H Q I ⟨ρ, δ, θ, b, θ', a, c, e, q⟩ => by
  unfold tTrue at e
  cases e
  exact wpAny_tests_nil ⟨H, I, q H ρ (Ext.refl _ _) c⟩⟩⟩
theorem dts_one {X : Cx} {c : Expr} {f : FT} (h : DT X c f) : DTs X [c] f := ⟨pts_one h.can⟩
/-- the turns: the list so far is the cell n -/
def lcF (gt : FG) (tt : FT) (fe : F) (δw : Dv) (n : Nat) : List D → Sto → Option Sto
  | [], θ => some θ
  | d :: ds, θ => match gt d δw θ with
    | some (δ1, θ1) => match tt δ1 θ1 with
      | some (true, θ2) => match fe δ1 θ2 with
        | some (y, θ3) => match θ3[n]? with
          | some (.lst acc) => if acc.length < 100000 then lcF gt tt fe δw n ds (θ3.set n (.lst (acc ++ [y]))) else none
          | _ => none
        | none => none
      | some (false, θ2) => lcF gt tt fe δw n ds θ2
      | none => none
    | none => none
def fLCM (fi : FA) (gt : FG) (tt : FT) (fe : F) (vs : List Nat) : F := fun δ θ => match fi δ θ with
  | some (ds, θ1) => match lcF gt tt fe (wipeD δ vs) θ1.length ds (θ1 ++ [.lst []]) with
    | some θ2 => some (.ref θ1.length, θ2)
    | none => none
  | none => none
section
variable {X : Cx} {elt tg iter : Expr} {ifs : List Expr} {scope : Scope} {pos : Pos} {fi : FA} {g : TG} {gt : FG} {tt : FT} {fe : F}
theorem re_lc {P w K} {own : List (Str × Nat)} {wi : TI} (h1 : RI P w K wi fi) (h2 : RG P w K g gt) (hw : WipesOk g (own.map (·.2))) : RE P w K (tLc wi g (ttOf P w K tt) (tOf P w K fe) (own.map (·.2))) (fLCM fi gt tt fe (own.map (·.2))) := by
  intro σ H ρ δ θ d θ' Q hs hθ e q
  unfold fLCM at e
  split at e
  · rename_i ds θ1 e1
    split at e
    · rename_i θ2 e2
      cases e
      refine h1 σ H ρ δ θ ds θ1 _ hs hθ e1 fun J H1 ρ1 x1 s1 wk => ?_
      intro D hD
      obtain ⟨y1, y2, y3⟩ := upd_ref (o := .lst []) (c := .lst []) s1 hD fun _ => ⟨[], upd_same, .nil⟩
      have hsw := (hs.ext x1).wipe (own.map (·.2))
      refine ⟨fun i m H2 => m = ds.length - i ∧ i ≤ ds.length ∧ ∃ ρ2 θ3, Ext (ρ1 ++ [D]) (upd H1 D (.lst [])) ρ2 H2 ∧ StR P w K ρ2 H2 θ3 ∧ lcF gt tt fe (wipeD δ (own.map (·.2))) θ1.length (ds.drop i) θ3 = some θ',
        ⟨ds.length, by simp, Nat.zero_le _, _, _, Ext.refl _ _, y2, by simpa using e2⟩, ?_⟩
      rintro i m H2 ⟨rfl, hi, ρ2, θ3, x2, s2, w2⟩
      have x02 := y1.trans x2
      obtain ⟨wk1, wk2⟩ := wk ρ2 H2 θ3 i x02 s2
      have hDn : ∀ {ρ3 : List Addr} {H3 : Hp}, Ext (ρ1 ++ [D]) (upd H1 D (.lst [])) ρ3 H3 → ρ3[θ1.length]? = some D := fun {ρ3 H3} x3 => by
        obtain ⟨m3, rfl, _⟩ := x3.more
        have hl : θ1.length = ρ1.length := s1.len.symm
        rw [List.getElem?_append_left (by simp [hl]), hl, List.getElem?_append_right (Nat.le_refl _)]
        simp
      by_cases hlt : i < ds.length
      · have hd : ds[i]? = some ds[i] := List.getElem?_eq_getElem hlt
        rw [List.drop_eq_getElem_cons hlt] at w2
        obtain ⟨go, y⟩ := wk2 _ hd
        refine .inr ⟨go, fun H' => ∃ ρ' θ', Ext (ρ1 ++ [D]) (upd H1 D (.lst [])) ρ' H' ∧ StR P w K ρ' H' θ' ∧ lcF gt tt fe (wipeD δ (own.map (·.2))) θ1.length (ds.drop (i + 1)) θ' = some _,
          fun H' h => ⟨ds.length - (i + 1), by omega, rfl, hlt, h⟩, fun v H' hy => ?_⟩
        obtain ⟨x3, s3, k3⟩ := y v H' hy
        unfold lcF at w2
        split at w2
        · rename_i δ4 θ4 e4
          refine hw v σ H' _ (h2 v _ _ H' ρ2 _ θ3 δ4 θ4 _ ((hsw.ext x02).ext x3) s3 k3 e4 fun σ4 H4 ρ4 x4 l4 s4 => ?_)
          have x24 := (x2.trans x3).trans x4
          split at w2
          · rename_i θ5 e5
            refine ⟨ρ4, δ4, θ4, true, θ5, l4, s4, e5, fun H5 ρ5 x5 s5 => ?_⟩
            refine iteT ?_
            split at w2
            · rename_i y6 θ6 e6
              refine ⟨ρ5, δ4, θ5, y6, θ6, l4.ext x5, s5, e6, fun v6 H6 ρ6 x6 s6 k6 => ?_⟩
              split at w2
              · rename_i acc hacc
                split at w2
                · rename_i hl
                  have x26 := (x24.trans x5).trans x6
                  obtain ⟨vs, a1, a2⟩ := s6.at_ θ1.length D _ (hDn x26) hacc
                  refine ⟨vs, a1, by rw [a2.length]; exact szl' (Nat.le_of_lt hl), ?_⟩
                  obtain ⟨z1, z2⟩ := s6.put (o := .lst (vs ++ [v6])) (c := .lst (acc ++ [y6])) (hDn x26) hacc fun x7 => ⟨_, upd_same, (a2.ext x7).append (.cons (k6.ext x7) .nil)⟩
                  exact ⟨ρ6, _, x26.trans z1, z2, w2⟩
                · cases w2
              · cases w2
            · cases w2
          · rename_i θ5 e5
            refine ⟨ρ4, δ4, θ4, false, θ5, l4, s4, e5, fun H5 ρ5 x5 s5 => ?_⟩
            refine iteF ?_
            exact ⟨ρ5, θ5, x24.trans x5, s5, w2⟩
          · cases w2
        · cases w2
      · have ei : i = ds.length := by omega
        subst ei
        rw [List.drop_length] at w2
        unfold lcF at w2
        cases w2
        exact .inl ⟨wk1 rfl, q _ H2 ρ2 (x1.trans x02) s2 (.ref (hDn x2))⟩
    · cases e
  · cases e
theorem de_lcM {own : List (Str × Nat)} (hN : X.N.Nodup) (hi : DI X tg iter fi) (ok : BlkOk X.N X.env.scope scope own)
    (hg : ∀ (s : Shared) (H : Hp) (C : Addr) (cl : List (Str × Addr)) (fp : List Addr), PG (X.blk s H scope (compEnvC scope cl C X.env) fp) tg g) (hgr : RG X.prog X.w X.K g gt) (hw : WipesOk g (own.map (·.2)))
    (ht : ∀ (s : Shared) (H : Hp) (C : Addr) (cl : List (Str × Addr)) (fp : List Addr), DTs (X.blk s H scope (compEnvC scope cl C X.env) fp) ifs tt)
    (he : ∀ (s : Shared) (H : Hp) (C : Addr) (cl : List (Str × Addr)) (fp : List Addr), DE (X.blk s H scope (compEnvC scope cl C X.env) fp) elt fe) (hc : X.calm = true := by rfl) (hs : ∀ x, foldedSetIterable iter X.env x = pure x := by intro _; rfl) :
    DE X (.ListComp elt [⟨tg, iter, ifs, 0⟩] scope pos) (fLCM fi gt tt fe (own.map (·.2))) := by
  obtain ⟨wi, p1, r1⟩ := hi.ex
  exact ⟨_, pe_lc hc hN p1 ok hg (fun s H C cl fp => (ht s H C cl fp).pt) (fun s H C cl fp => (he s H C cl fp).can) hs, re_lc r1 hgr hw⟩
/-- name = [..] on one line -/
theorem ds_setLcM {Wx : WX} {own : List (Str × Nat)} (i : Nat) {y : Str} {py spos : Pos} (hN : X.N.Nodup) (hy : X.N[i]? = some y) (hyl : X.env.scope.names.lookup y = some .local)
    (hsw : swapsWith (.ListComp elt [⟨tg, iter, ifs, 0⟩] scope pos) (some (.Name y py)) spos.line X.env = pure true) (hi : DI X tg iter fi) (ok : BlkOk X.N X.env.scope scope own)
    (hg : ∀ (s : Shared) (H : Hp) (C : Addr) (cl : List (Str × Addr)) (fp : List Addr), PG (X.blk s H scope (compEnvC scope cl C X.env) fp) tg g) (hgr : RG X.prog X.w X.K g gt) (hw : WipesOk g (own.map (·.2)))
    (ht : ∀ (s : Shared) (H : Hp) (C : Addr) (cl : List (Str × Addr)) (fp : List Addr), DTs (X.blk s H scope (compEnvC scope cl C X.env) fp) ifs tt)
    (he : ∀ (s : Shared) (H : Hp) (C : Addr) (cl : List (Str × Addr)) (fp : List Addr), DE (X.blk s H scope (compEnvC scope cl C X.env) fp) elt fe) (hc : X.calm = true := by rfl) (hs : ∀ x, foldedSetIterable iter X.env x = pure x := by intro _; rfl) :
    DS X Wx (.Assign [.Name y py] (.ListComp elt [⟨tg, iter, ifs, 0⟩] scope pos) spos) (sAsg (fLCM fi gt tt fe (own.map (·.2))) (gNm i)) := by
  obtain ⟨wi, p1, r1⟩ := hi.ex
  exact ⟨_, ps_setLc hc hN hy hyl hsw p1 ok hg (fun s H C cl fp => (ht s H C cl fp).pt) (fun s H C cl fp => (he s H C cl fp).can) hs, rs_asg (re_lc r1 hgr hw) (rg_name i)⟩
end
/-- the assigned value cut -/
theorem re_cut {P w K} {t : TE} {f : F} (h2 : RE P w K t f) : RE P w K t (fCut f) := fun σ H ρ δ θ d θ' Q hs hθ e q => by
  unfold fCut at e
  obtain ⟨d1, θ1, e1⟩ := cutR_some e
  rw [e1] at e
  refine h2 σ H ρ δ θ d1 θ1 _ hs hθ e1 fun v H1 ρ1 x1 s1 r1 => ?_
  obtain ⟨a, b, c⟩ := cut_ok hθ x1 s1 r1 e
  exact q v H1 ρ a b c
section
variable {X : Cx} {elt tg iter : Expr} {ifs : List Expr} {scope : Scope} {pos : Pos} {fi : FA} {g : TG} {gt : FG} {tt : FT} {fe : F}
theorem ds_setLc {Wx : WX} {own : List (Str × Nat)} (i : Nat) {y : Str} {py spos : Pos} (hN : X.N.Nodup) (hy : X.N[i]? = some y) (hyl : X.env.scope.names.lookup y = some .local)
    (hsw : swapsWith (.ListComp elt [⟨tg, iter, ifs, 0⟩] scope pos) (some (.Name y py)) spos.line X.env = pure true) (hi : DI X tg iter fi) (ok : BlkOk X.N X.env.scope scope own)
    (hg : ∀ (s : Shared) (H : Hp) (C : Addr) (cl : List (Str × Addr)) (fp : List Addr), PG (X.blk s H scope (compEnvC scope cl C X.env) fp) tg g) (hgr : RG X.prog X.w X.K g gt) (hw : WipesOk g (own.map (·.2)))
    (ht : ∀ (s : Shared) (H : Hp) (C : Addr) (cl : List (Str × Addr)) (fp : List Addr), DTs (X.blk s H scope (compEnvC scope cl C X.env) fp) ifs tt)
    (he : ∀ (s : Shared) (H : Hp) (C : Addr) (cl : List (Str × Addr)) (fp : List Addr), DE (X.blk s H scope (compEnvC scope cl C X.env) fp) elt fe) (hc : X.calm = true := by rfl) (hs : ∀ x, foldedSetIterable iter X.env x = pure x := by intro _; rfl) :
    DS X Wx (.Assign [.Name y py] (.ListComp elt [⟨tg, iter, ifs, 0⟩] scope pos) spos) (sAsg (fCut (fLCM fi gt tt fe (own.map (·.2)))) (gNm i)) := by
  obtain ⟨wi, p1, r1⟩ := hi.ex
  exact ⟨_, ps_setLc hc hN hy hyl hsw p1 ok hg (fun s H C cl fp => (ht s H C cl fp).pt) (fun s H C cl fp => (he s H C cl fp).can) hs, rs_asg (re_cut (re_lc r1 hgr hw)) (rg_name i)⟩
end

/-! ### lists that are written: append, pop, list(..) -/
def fAppend (fo f : F) : F := fun δ θ => match fo δ θ with
  | some (.ref n, θ1) => match θ1[n]? with
    | some (.lst _) => match f δ θ1 with
      | some (d, θ2) => match θ2[n]? with
        | some (.lst ds) => if ds.length < 100000 then some (.non, θ2.set n (.lst (ds ++ [d]))) else none
        | _ => none
      | none => none
    | _ => none
  | _ => none
def fPop (fo : F) : F := fun δ θ => match fo δ θ with
  | some (.ref n, θ1) => match θ1[n]? with
    | some (.lst ds) => match ds[ds.length - 1]? with
      | some d => some (d, θ1.set n (.lst ds.dropLast))
      | none => none
    | _ => none
  | _ => none
def fListM (fs : FA) : F := fun δ θ => match fs δ θ with
  | some ([d], θ1) => match seqOf θ1 d with
    | some ds => some (.ref θ1.length, θ1 ++ [.lst ds])
    | none => none
  | _ => none
section
variable {X : Cx} {o e : Expr} {fo f : F} {fs : FA} {apos cpos p pos : Pos}
theorem de_append (ho : DE X o fo) (he : DE X e f)
    (hbase : attributeBase o "append" X.env (eval o X.env) = eval o X.env := by rfl)
    (hfew : ((backTo cpos (starEach [e] X.env)).all (fun x => !x.1) && (backToKw cpos (keywordEach [] X.env)).all (fun x => x.1.isSome)
      && decide (([e] : List Expr).length + ([] : List Keyword).length + (if ([] : List Keyword).isEmpty then 0 else 1) < 30)) = true := by rfl)
    (hline : (apos.endLine == cpos.line) = true := by rfl) (hs : starEach [e] X.env = (false, eval e X.env) :: starEach [] X.env := by rfl) (hplain : (backTo cpos (starEach [] X.env)).any (·.1) = false := by rfl) :
    DE X (.Call (.Attribute o "append" apos) [e] [] cpos) (fAppend fo f) := by
  obtain ⟨t, p1, r1⟩ := he.ex
  obtain ⟨u, p2, r2⟩ := ho.ex
  refine ⟨_, pe_bm PySem.F.plainAttrs_list PySem.F.slot_list_append PySem.F.type_list_append mt_append p2 (pa_cons p1 pa_nil hs) hbase hfew hline hs hplain, fun σ H ρ δ θ d θ' Q hs hθ h q => ?_⟩
  unfold fAppend at h
  split at h
  · rename_i n θ1 e1
    split at h
    · rename_i ds0 hc0
      split at h
      · rename_i d2 θ2 e2
        split at h
        · rename_i ds hc
          split at h
          · rename_i hl
            cases h
            refine r2 σ H ρ δ θ _ θ1 _ hs hθ e1 fun v H1 ρ1 x1 s1 k1 => ?_
            cases k1 with
            | ref hn =>
              rename_i a
              obtain ⟨vs0, a1, a2⟩ := s1.at_ n a _ hn hc0
              refine ⟨.inl ⟨rfl, _, SqL.of a1⟩, ?_⟩
              refine r1 σ H1 ρ1 δ θ1 d2 θ2 _ (hs.ext x1) s1 e2 fun v2 H2 ρ2 x2 s2 k2 => ?_
              have hn2 : ρ2[n]? = some a := by
                obtain ⟨m, rfl, _⟩ := x2.more
                rw [List.getElem?_append_left (List.getElem?_eq_some_iff.mp hn).1]; exact hn
              obtain ⟨vs, b1, b2⟩ := s2.at_ n a _ hn2 hc
              obtain ⟨z1, z2⟩ := s2.put (o := .lst (vs ++ [v2])) (c := .lst (ds ++ [d2])) hn2 hc fun x7 => ⟨_, upd_same, (b2.ext x7).append (.cons (k2.ext x7) .nil)⟩
              exact ⟨a, vs, v2, rfl, rfl, b1, by rw [b2.length]; exact szl' (Nat.le_of_lt hl), q .non _ ρ2 ((x1.trans x2).trans z1) z2 .non⟩
          · cases h
        · cases h
      · cases h
    · cases h
  · cases h
theorem de_pop (ho : DE X o fo) (hbase : attributeBase o "pop" X.env (eval o X.env) = eval o X.env := by rfl) (hline : (apos.endLine == cpos.line) = true := by rfl) : DE X (.Call (.Attribute o "pop" apos) [] [] cpos) (fPop fo) := by
  obtain ⟨u, p2, r2⟩ := ho.ex
  refine ⟨_, pe_bm0 PySem.F.plainAttrs_list PySem.F.slot_list_pop PySem.F.type_list_pop mt_pop p2 hbase hline, fun σ H ρ δ θ d θ' Q hs hθ h q => ?_⟩
  unfold fPop at h
  split at h
  · rename_i n θ1 e1
    split at h
    · rename_i ds hc
      split at h
      · rename_i d2 hd
        cases h
        refine r2 σ H ρ δ θ _ θ1 _ hs hθ e1 fun v H1 ρ1 x1 s1 k1 => ?_
        cases k1 with
        | ref hn =>
          rename_i a
          obtain ⟨vs, a1, a2⟩ := s1.at_ n a _ hn hc
          refine ⟨.inl ⟨rfl, _, SqL.of a1⟩, ?_⟩
          obtain ⟨v2, b1, b2⟩ := a2.get hd
          obtain ⟨z1, z2⟩ := s1.put (o := .lst vs.dropLast) (c := .lst ds.dropLast) hn hc fun x7 => ⟨_, upd_same, (a2.ext x7).dropLast⟩
          exact ⟨a, vs, v2, rfl, rfl, a1, by rw [a2.length]; exact b1, q v2 _ ρ1 (x1.trans z1) z2 (b2.ext z1)⟩
      · cases h
    · cases h
  · cases h
theorem de_listM (hg : Gl X "list") (hm : X.mg "list" = none) (ha : DA X [e] fs) 
    (he : starEach [e] X.env = (false, eval e X.env) :: starEach [] X.env := by rfl) (hpl : (backTo pos (starEach [] X.env)).any (·.1) = false := by rfl) : DE X (.Call (.Name "list" p) [e] [] pos) (fListM fs) := by
  obtain ⟨t, p1, r1⟩ := ha.ex
  refine ⟨_, pe_callTy call_list_of hg hm (by decide +kernel) p1 (by decide) (by decide) he hpl, fun σ H ρ δ θ d θ' Q hs hθ h q => ?_⟩
  unfold fListM at h
  split at h
  · rename_i d2 θ1 e1
    split at h
    · rename_i ds e2
      cases h
      refine r1 σ H ρ δ θ _ θ1 _ hs hθ e1 fun vs H1 ρ1 x1 s1 k1 => ?_
      cases k1 with
      | cons r rs =>
        cases rs
        obtain ⟨a, vs, rfl, h1, h2⟩ := seq_of s1 r e2
        refine ⟨a, vs, rfl, h1, fun l hl => ?_⟩
        obtain ⟨y1, y2, y3⟩ := upd_ref (o := .lst vs) (c := .lst ds) s1 hl fun x2 => ⟨vs, upd_same, h2.ext x2⟩
        exact q _ _ _ (x1.trans y1) y2 y3
    · cases h
  · cases h
end
end DL

set_option Elab.async false
set_option linter.all false
set_option maxRecDepth 100000
set_option maxHeartbeats 4000000
namespace DL
open PySem L2 PySem.Spec PyProof.Rows

/-! ### more operations -/
def gCatA : G2 := fun _ x y => match x, y with
  | .tup ds, .tup es => if ds.length + es.length ≤ 10000 then some (.tup (ds ++ es)) else none
  | _, _ => none
section
variable {X : Cx}
theorem od_cat : OpD X (binaryOp .Add) gCatA := ⟨_, op_catA, fun ρ H θ x y dx dy d Q s rx ry h q => by
  unfold gCatA at h
  split at h
  · rename_i ds es
    split at h
    · rename_i hl
      cases h
      cases rx with
      | tup k1 k2 =>
        rename_i a xs
        cases ry with
        | tup k3 k4 =>
          rename_i b ys
          have hb : Rep X.prog X.w X.K ρ H (.ref b) (.tup es) := .tup k3 k4
          have ha : Rep X.prog X.w X.K ρ H (.ref a) (.tup ds) := .tup k1 k2
          refine ⟨a, b, xs, ys, rfl, rfl, k1, k3, by rw [k2.length, k4.length]; exact szl (Nat.le_trans hl (by decide)), fun e => ?_, fun _ e => ?_, fun _ _ p hp => ?_⟩
          · subst e; cases k2; simpa using q _ H (Ext.refl _ _) s hb
          · subst e; cases k4; rw [List.append_nil] at q; exact q _ H (Ext.refl _ _) s ha
          · exact q _ _ (Ext.new hp) (s.new hp) (.tup (SqT.of upd_same) ((k2.ext (Ext.new hp)).append (k4.ext (Ext.new hp))))
    · cases h
  · cases h⟩
end
abbrev gAdd : G2 := gI (fun _ _ => True) fun i j => .int (i + j)
abbrev gSub : G2 := gI (fun _ _ => True) fun i j => .int (i - j)
noncomputable abbrev gMul : G2 := gI CMul fun i j => .int (i * j)
abbrev gMod : G2 := gI (fun _ j => 0 < j) fun i j => .int (i % j)
noncomputable abbrev gFdiv : G2 := gI CDiv fun i j => .int (i / j)
abbrev gLt : G2 := gI (fun _ _ => True) fun i j => .bl (decide (i < j))
abbrev gLe : G2 := gI (fun _ _ => True) fun i j => .bl (decide (i ≤ j))
abbrev gGt : G2 := gI (fun _ _ => True) fun i j => .bl (decide (j < i))
abbrev gGe : G2 := gI (fun _ _ => True) fun i j => .bl (decide (j ≤ i))
def fNeg (f : F) : F := fun δ θ => match f δ θ with
  | some (.int i, θ1) => some (.int (-i), θ1)
  | _ => none
theorem de_neg {X : Cx} {e : Expr} {f : F} {pos : Pos} (h : DE X e f) : DE X (.UnaryOp .USub e pos) (fNeg f) := by
  obtain ⟨t, p1, r1⟩ := h.ex
  refine ⟨_, pe_un un_neg p1, fun σ H ρ δ θ d θ' Q hs hθ h q => ?_⟩
  unfold fNeg at h
  split at h
  · rename_i i θ1 e1
    cases h
    refine r1 σ H ρ δ θ _ θ' _ hs hθ e1 fun v H1 ρ1 x1 s1 k1 => ?_
    cases k1
    exact ⟨_, rfl, q _ H1 ρ1 x1 s1 (.int _)⟩
  · cases h
theorem rgs_nil {P w K} : RGs P w K gNil gNilD := fun vs ds σ H ρ δ θ δ' θ' Q hs hθ r h q => by
  unfold gNilD at h
  split at h
  · cases h
    cases r
    exact ⟨rfl, q σ H ρ (Ext.refl _ _) hs hθ⟩
  · cases h
theorem rgs_cons {P w K} {g : TG} {f : FG} {gs : TGs} {fs : FGs} (h1 : RG P w K g f) (h2 : RGs P w K gs fs) : RGs P w K (gCons g gs) (gConsD f fs) := fun vs ds σ H ρ δ θ δ' θ' Q hs hθ r h q => by
  unfold gConsD at h
  split at h
  · split at h
    · rename_i e1
      cases r with
      | cons r rs =>
        refine ⟨_, _, rfl, h1 _ _ σ H ρ δ θ _ _ _ hs hθ r e1 fun σ1 H1 ρ1 x1 l1 s1 => ?_⟩
        exact h2 _ _ σ1 H1 ρ1 _ _ δ' θ' Q l1 s1 (rs.ext x1) h fun σ2 H2 ρ2 x2 l2 s2 => q σ2 H2 ρ2 (x1.trans x2) l2 s2
    · cases h
  · cases h
theorem rg_tup {P w K} {n : Nat} {gs : TGs} {fs : FGs} (h : RGs P w K gs fs) : RG P w K (gTup K n gs) (gTupD n fs) := fun v d σ H ρ δ θ δ' θ' Q hs hθ r e q => by
  unfold gTupD at e
  split at e
  · split at e
    · rename_i hl
      cases r with
      | tup k1 k2 => exact ⟨_, _, rfl, k1, by rw [k2.length]; exact hl, h _ _ σ H ρ δ θ δ' θ' Q hs hθ k2 e q⟩
    · cases e
  · cases e
/-- a def with defaults -/
theorem fn_okD {P : Program} {w : World} {K : PySem.W.Frag} {mg : Str → Option Value} {base : Heap} {k : Nat} {x qual : Str} {st : Stmt} {f : Addr} {fd : FuncData} {N ps : List Str} {g : FS} {dvs : List V} {kws : List (Str × V)}
    (Fn : FunD K x qual (defArgs st) (defBody st) (defScope st) dvs kws f fd) (S : FnScope N ps (defScope st))
    (hb : ∀ (cdv : Value) (A : Around) (outer : List Env) (s : Shared) (H : Hp) (E : XK), Room k (A.deeper (envOfC qual (defScope st) s.heap.objs.size f cdv)) →
      DSs (cxOf CX0 P w K mg base N qual (defScope st) f cdv A outer s H E).nox W0 (defBody st) g) : FnD P w K mg base (k + 1) f fd ps (bodyM N.length g) := by
  refine Fn.ok S (fun vs H Q E h => h.1) fun cdv A outer s H vs Q E hr h => ?_
  obtain ⟨t, p1, r1⟩ := (hb cdv A outer s H E hr).ex
  refine ⟨t, p1.nox, ?_⟩
  obtain ⟨hl, ρ, ds, θ, d, θ', h1, h2, h3, h4⟩ := h
  unfold bodyM at h3
  split at h3
  · rename_i e
    cases h3
    exact r1 _ H ρ _ θ _ _ (Sl.start h1) h2 e fun v H' ρ' x s k => h4 v H' ρ' x s k
  · rename_i e
    cases h3
    exact r1 _ H ρ _ θ _ _ (Sl.start h1) h2 e fun σ' H' ρ' x l s => h4 _ H' ρ' x s .non
  · cases h3
end DL

set_option Elab.async false
set_option linter.all false
set_option maxRecDepth 100000
set_option maxHeartbeats 4000000
namespace DL
open PySem L2 PySem.Spec PyProof.Rows
/-- a law's: a list of at most 63 ints is handed in, True comes out -/
def spLaw (K : PySem.W.Frag) : Sp := fun vs H Q _ => ∃ (a : Addr) (ns : List Int), vs = [.ref a] ∧ SqL K H a (ns.map V.int) ∧ ns.length ≤ 63 ∧ ∀ H', Q (.bl true) H'
theorem reps_ints {P w K ρ H} : ∀ ns : List Int, Reps P w K ρ H (ns.map V.int) (ns.map D.int)
  | [] => .nil
  | n :: ns => .cons (.int n) (reps_ints ns)
theorem FnD.law {P : Program} {w : World} {K : PySem.W.Frag} {mg : Str → Option Value} {base : Heap} {k : Nat} {f : Addr} {fd : FuncData} {x : Str} {m : M} (F : FnD P w K mg base k f fd [x] m)
    (h : ∀ ns : List Int, ns.length ≤ 63 → ∃ θ', m [.lst (ns.map D.int)] [] = some (.bl true, θ')) : FnOk P w K mg base CX0 k f fd [x] (spLaw K) :=
  FnOk.imp F fun vs H Q E ⟨a, ns, e, hS, hl, q⟩ => by
    subst e
    obtain ⟨θ', h1⟩ := h ns hl
    refine ⟨rfl, [], [.lst (ns.map D.int)], [], .bl true, θ', .cons (.lst ?_ (reps_ints ns)) .nil, ⟨List.nodup_nil, rfl, fun n a c h => by simp at h⟩, h1, fun v H' ρ' x s r => ?_⟩
    · rcases hS with (h | ⟨o, h⟩) | h
      · exact .inl ⟨h, by simp⟩
      · exact .inr (.inl ⟨o, h⟩)
      · exact .inr (.inr h)
    · cases r
      exact q H'
end DL

set_option Elab.async false
set_option linter.all false
set_option maxRecDepth 100000
set_option maxHeartbeats 4000000
/-! DLS: how mirrors are reckoned. -/
namespace DL
open PySem L2
section
variable {δ : Dv} {θ θ1 : Sto} {f fa fb fo fi : F} {fs fk : FA} {ft fu : FT} {g h : FS} {d x y : D} {i j : Int}
@[simp] theorem fVar_ap (i : Nat) : fVar i δ θ = match δ[i]? with | some (some d) => some (d, θ) | _ => none := (rfl)
@[simp] theorem fC_ap : fC d δ θ = some (d, θ) := (rfl)
@[simp] theorem aNil_ap : aNil δ θ = some ([], θ) := (rfl)
@[simp] theorem aCons_ap : aCons f fs δ θ = bd (f δ θ) fun d θ1 => bd (fs δ θ1) fun ds θ2 => some (d :: ds, θ2) := (rfl)
@[simp] theorem fTup_ap : fTup fs δ θ = bd (fs δ θ) fun ds θ1 => if ds.length ≤ 10000 then some (.tup ds, θ1) else none := (rfl)
@[simp] theorem fLst_ap : fLst fs δ θ = bd (fs δ θ) fun ds θ1 => if ds.length ≤ 10000 then some (.lst ds, θ1) else none := (rfl)
@[simp] theorem fLstM_ap : fLstM fs δ θ = bd (fs δ θ) fun ds θ1 => if ds.length ≤ 10000 then some (.ref θ1.length, θ1 ++ [.lst ds]) else none := (rfl)
@[simp] theorem fOp_ap (g : G2) : fOp g fa fb δ θ = bd (fa δ θ) fun x θ1 => bd (fb δ θ1) fun y θ2 => wth (g θ2 x y) θ2 := (rfl)
@[simp] theorem tBf_ap : tBf f δ θ = bd (f δ θ) fun d θ1 => match d with | .bl b => some (b, θ1) | _ => none := (rfl)
@[simp] theorem tAndf_ap : tAndf ft fu δ θ = bd (ft δ θ) fun b θ1 => if b = true then fu δ θ1 else some (false, θ1) := (rfl)
@[simp] theorem tOrf_ap : tOrf ft fu δ θ = bd (ft δ θ) fun b θ1 => if b = true then some (true, θ1) else fu δ θ1 := (rfl)
@[simp] theorem tNotf_ap : tNotf ft δ θ = bd (ft δ θ) fun b θ1 => some (!b, θ1) := (rfl)
@[simp] theorem fAnd_ap : fAnd fa fb δ θ = bd (tBf fa δ θ) fun b θ1 => if b = true then fb δ θ1 else some (.bl false, θ1) := (rfl)
@[simp] theorem fOr_ap : fOr fa fb δ θ = bd (tBf fa δ θ) fun b θ1 => if b = true then some (.bl true, θ1) else fb δ θ1 := (rfl)
@[simp] theorem fNot_ap : fNot fa δ θ = bd (tBf fa δ θ) fun b θ1 => some (.bl (!b), θ1) := (rfl)
@[simp] theorem fIf_ap : fIf ft fa fb δ θ = bd (ft δ θ) fun b θ1 => if b = true then fa δ θ1 else fb δ θ1 := (rfl)
@[simp] theorem gI_ap {C : Int → Int → Prop} [∀ i j, Decidable (C i j)] {g : Int → Int → D} : gI C g θ (.int i) (.int j) = if C i j then some (g i j) else none := (rfl)
@[simp] theorem fCB_ap (g : GC) : fCB g fs δ θ = bd (fs δ θ) fun ds θ1 => wth (g θ1 ds) θ1 := (rfl)
@[simp] theorem fCall_ap (m : M) : fCall m fs δ θ = bd (fs δ θ) m := (rfl)
@[simp] theorem fCallD_ap (m : M) (dds : List D) : fCallD m dds fs δ θ = bd (fs δ θ) fun ds θ1 => m (ds ++ dds) θ1 := (rfl)
@[simp] theorem fCallK_ap (m : M) : fCallK m fs fk δ θ = bd (fs δ θ) fun ds θ1 => bd (fk δ θ1) fun es θ2 => m (ds ++ es) θ2 := (rfl)
@[simp] theorem fMeth_ap (C : Addr) (mn : Str) (m : M) : fMeth C mn m fo fs δ θ = bd (fo δ θ) fun o θ1 => match objOf θ1 o with
  | some (C', fl) => if C' = C ∧ fl.lookup mn = none then bd (fs δ θ1) fun ds θ2 => m (o :: ds) θ2 else none
  | none => none := (rfl)
@[simp] theorem fFld_ap (C : Addr) (fn : Str) : fFld C fn fa δ θ = bd (fa δ θ) fun d θ1 => match objOf θ1 d with
  | some (C', fs) => if C' = C then wth (fs.lookup fn) θ1 else none
  | none => none := (rfl)
@[simp] theorem fNeg_ap : fNeg f δ θ = match f δ θ with | some (.int i, θ1) => some (.int (-i), θ1) | _ => none := (rfl)
@[simp] theorem fDctM_ap : fDctM δ θ = some (.ref θ.length, θ ++ [.dct []]) := (rfl)
@[simp] theorem sNx_ap : sNx δ θ = some (.nx δ θ) := (rfl)
@[simp] theorem sSeq_ap : sSeq g h δ θ = match g δ θ with | some (.nx δ1 θ1) => h δ1 θ1 | r => r := (rfl)
@[simp] theorem gNm_ap (i : Nat) : gNm i d δ θ = some (δ.set i (some d), θ) := (rfl)
@[simp] theorem gNilD_ap : gNilD [] δ θ = some (δ, θ) := (rfl)
@[simp] theorem gConsD_ap (f : FG) (fs : FGs) (ds : List D) : gConsD f fs (d :: ds) δ θ = match f d δ θ with | some (δ1, θ1) => fs ds δ1 θ1 | none => none := (rfl)
@[simp] theorem gTupD_ap (n : Nat) (fs : FGs) (ds : List D) : gTupD n fs (.tup ds) δ θ = if ds.length = n then fs ds δ θ else none := (rfl)
@[simp] theorem sAsg_ap (gt : FG) : sAsg f gt δ θ = match f δ θ with
  | some (d, θ1) => match gt d δ θ1 with
    | some (δ2, θ2) => some (.nx δ2 θ2)
    | none => none
  | none => none := (rfl)
@[simp] theorem gSubD_ap : gSubD fo fi d δ θ = match fo δ θ with
  | some (o, θ1) => match fi δ θ1 with
    | some (i, θ2) => match setIx θ2 o i d with
      | some θ3 => some (δ, θ3)
      | none => none
    | none => none
  | none => none := (rfl)
@[simp] theorem sRet_ap : sRet f δ θ = match f δ θ with | some (d, θ1) => some (.ret d θ1) | none => none := (rfl)
@[simp] theorem sRetN_ap : sRetN δ θ = some (.ret .non θ) := (rfl)
@[simp] theorem sExpr_ap : sExpr f δ θ = match f δ θ with | some (_, θ1) => some (.nx δ θ1) | none => none := (rfl)
@[simp] theorem sIf_ap : sIf ft g h δ θ = match ft δ θ with | some (true, θ1) => g δ θ1 | some (false, θ1) => h δ θ1 | none => none := (rfl)
@[simp] theorem sBk_ap : sBk δ θ = some (.bk δ θ) := (rfl)
@[simp] theorem sCt_ap : sCt δ θ = some (.ct δ θ) := (rfl)
@[simp] theorem sFor_ap (fi : FA) (gt : FG) (b : FS) : sFor fi gt b δ θ = match fi δ θ with | some (ds, θ1) => forF gt b ds δ θ1 | none => none := (rfl)
@[simp] theorem forF_nil (gt : FG) (b : FS) : forF gt b [] δ θ = some (.nx δ θ) := (rfl)
theorem forF_cons (gt : FG) (b : FS) (ds : List D) : forF gt b (d :: ds) δ θ = match gt d δ θ with
  | some (δ1, θ1) => match b δ1 θ1 with
    | some (.nx δ2 θ2) => forF gt b ds δ2 θ2
    | some (.ct δ2 θ2) => forF gt b ds δ2 θ2
    | some (.bk δ2 θ2) => some (.nx δ2 θ2)
    | r => r
  | none => none := (rfl)
@[simp] theorem iSeq_ap : iSeq fa δ θ = bd (fa δ θ) fun d θ1 => match d with | .lst ds => some (ds, θ1) | .tup ds => some (ds, θ1) | _ => none := (rfl)
theorem R62_nat {n : Nat} (h : n ≤ 1000000) : R62 (n : Int) := by unfold R62; omega
theorem R62_of {n : Int} (h0 : 0 ≤ n) (h : n ≤ 1000000) : R62 n := by unfold R62; omega
@[simp] theorem iRange1_ap : iRange1 fs δ θ = bd (fs δ θ) fun ds θ1 => match ds with | [.int j] => if R62 j then some (rngD 0 j.toNat, θ1) else none | _ => none := (rfl)
@[simp] theorem iEnumD_ap : iEnumD fs δ θ = bd (fs δ θ) fun l θ1 => match l with | [.lst ds] => some (enumD ds, θ1) | _ => none := (rfl)
@[simp] theorem fListM_ap : fListM fs δ θ = match fs δ θ with
  | some ([d], θ1) => match seqOf θ1 d with
    | some ds => some (.ref θ1.length, θ1 ++ [.lst ds])
    | none => none
  | _ => none := (rfl)
@[simp] theorem objOf_ins (C : Addr) (fs : List (Str × D)) : objOf θ (.ins C fs) = some (C, fs) := (rfl)
@[simp] theorem lstOf_lst (ds : List D) : lstOf θ (.lst ds) = some ds := (rfl)
@[simp] theorem seqOf_lst (ds : List D) : seqOf θ (.lst ds) = some ds := (rfl)
@[simp] theorem seqOf_tup (ds : List D) : seqOf θ (.tup ds) = some ds := (rfl)
@[simp] theorem dctOf_dct (ds : List (NestedKey × D)) : dctOf θ (.dct ds) = some ds := (rfl)
theorem lstOf_ref (n : Nat) : lstOf θ (.ref n) = match θ[n]? with | some (.lst ds) => some ds | _ => none := (rfl)
theorem seqOf_ref (n : Nat) : seqOf θ (.ref n) = match θ[n]? with | some (.lst ds) => some ds | _ => none := (rfl)
theorem dctOf_ref (n : Nat) : dctOf θ (.ref n) = match θ[n]? with | some (.dct ds) => some ds | _ => none := (rfl)
theorem objOf_ref (n : Nat) : objOf θ (.ref n) = match θ[n]? with | some (.ins C fs) => some (C, fs) | _ => none := (rfl)
@[simp] theorem gLen_lst (ds : List D) : gLen θ [.lst ds] = some (.int ds.length) := (rfl)
@[simp] theorem gLen_tup (ds : List D) : gLen θ [.tup ds] = some (.int ds.length) := (rfl)
theorem gLen_ref (n : Nat) : gLen θ [.ref n] = match seqOf θ (.ref n) with | some es => some (.int es.length) | none => none := (rfl)
@[simp] theorem gList_tup (ds : List D) : gList θ [.tup ds] = some (.lst ds) := (rfl)
@[simp] theorem gList_lst (ds : List D) : gList θ [.lst ds] = some (.lst ds) := (rfl)
@[simp] theorem gTuple_lst (ds : List D) : gTuple θ [.lst ds] = some (.tup ds) := (rfl)
@[simp] theorem gTuple_tup (ds : List D) : gTuple θ [.tup ds] = some (.tup ds) := (rfl)
theorem gTuple_ref (n : Nat) : gTuple θ [.ref n] = match lstOf θ (.ref n) with | some es => some (.tup es) | none => none := (rfl)
@[simp] theorem gInt_int : gInt θ [.int i] = some (.int i) := (rfl)
@[simp] theorem gInt_bl (b : Bool) : gInt θ [.bl b] = some (.int (if b then 1 else 0)) := (rfl)
@[simp] theorem gIx_ap : gIx θ x (.int i) = match seqOf θ x with | some ds => atI ds i | none => none := (rfl)
@[simp] theorem gIsN_non : gIsN θ x .non = some (.bl (isNonD x)) := (rfl)
@[simp] theorem gNotN_non : gNotN θ x .non = some (.bl (!isNonD x)) := (rfl)
@[simp] theorem isNonD_non : isNonD .non = true := (rfl)
@[simp] theorem isNonD_tup (ds : List D) : isNonD (.tup ds) = false := (rfl)
@[simp] theorem isNonD_int : isNonD (.int i) = false := (rfl)
@[simp] theorem isNonD_lst (ds : List D) : isNonD (.lst ds) = false := (rfl)
@[simp] theorem isNonD_str (s : Str) : isNonD (.str s) = false := (rfl)
@[simp] theorem isNonD_ref (n : Nat) : isNonD (.ref n) = false := (rfl)
@[simp] theorem isNonD_ins (C : Addr) (fs : List (Str × D)) : isNonD (.ins C fs) = false := (rfl)
@[simp] theorem gEq_ap : gEq θ x y = match eqD x y with | some b => some (.bl b) | none => none := (rfl)
@[simp] theorem gNe_ap : gNe θ x y = match eqD x y with | some b => some (.bl (!b)) | none => none := (rfl)
@[simp] theorem gCatA_ap (ds es : List D) : gCatA θ (.tup ds) (.tup es) = if ds.length + es.length ≤ 10000 then some (.tup (ds ++ es)) else none := (rfl)
theorem bodyM_ap (n : Nat) (ds : List D) : bodyM n g ds θ = match g (ds.map some ++ List.replicate (n - ds.length) none) θ with
  | some (.ret d θ') => some (d, θ')
  | some (.nx _ θ') => some (.non, θ')
  | _ => none := (rfl)
@[simp] theorem atI_z (d : D) (ds : List D) : atI (d :: ds) 0 = some d := atI_nat (j := 0) rfl
@[simp] theorem atI_1 (a d : D) (ds : List D) : atI (a :: d :: ds) 1 = some d := atI_nat (j := 1) rfl
@[simp] theorem atI_2 (a b d : D) (ds : List D) : atI (a :: b :: d :: ds) 2 = some d := atI_nat (j := 2) rfl
theorem shp_int (i : Int) : SeqAt.shaped (.int i) = true := (rfl)
theorem shp_bl (b : Bool) : SeqAt.shaped (.bool b) = true := (rfl)
theorem shp_non : SeqAt.shaped .none = true := (rfl)
theorem shp_str {s : Str} (h : PyData.strOk s = true) : SeqAt.shaped (.str s) = true := by
  show (PyData.strOk s && decide (PyData.depth (.str s) ≤ 64)) = true
  rw [h]
  rfl
@[simp] theorem eqD_int : eqD (.int i) (.int j) = some (decide (i = j)) := by
  simp only [eqD, toPy]
  rw [if_pos ⟨shp_int i, shp_int j⟩]
  simp only [PyData.eqv]
  congr 1
@[simp] theorem eqD_bl (a b : Bool) : eqD (.bl a) (.bl b) = some (decide (a = b)) := by
  simp only [eqD, toPy]
  rw [if_pos ⟨shp_bl a, shp_bl b⟩]
  cases a <;> cases b <;> rfl
theorem eqD_str {a b : Str} (ha : PyData.strOk a = true) (hb : PyData.strOk b = true) : eqD (.str a) (.str b) = some (decide (a = b)) := by
  simp only [eqD, toPy]
  rw [if_pos ⟨shp_str ha, shp_str hb⟩]
  simp only [PyData.eqv]
  congr 1
@[simp] theorem eqw_move_move : eqD (.str "move") (.str "move") = some true := by rw [eqD_str (by decide +kernel) (by decide +kernel)]; decide +kernel
@[simp] theorem eqw_move_hold : eqD (.str "move") (.str "hold") = some false := by rw [eqD_str (by decide +kernel) (by decide +kernel)]; decide +kernel
@[simp] theorem eqw_move_set : eqD (.str "move") (.str "set") = some false := by rw [eqD_str (by decide +kernel) (by decide +kernel)]; decide +kernel
@[simp] theorem eqw_move_wait : eqD (.str "move") (.str "wait") = some false := by rw [eqD_str (by decide +kernel) (by decide +kernel)]; decide +kernel
@[simp] theorem eqw_move_jump : eqD (.str "move") (.str "jump") = some false := by rw [eqD_str (by decide +kernel) (by decide +kernel)]; decide +kernel
@[simp] theorem eqw_move_if : eqD (.str "move") (.str "if") = some false := by rw [eqD_str (by decide +kernel) (by decide +kernel)]; decide +kernel
@[simp] theorem eqw_move_rest : eqD (.str "move") (.str "rest") = some false := by rw [eqD_str (by decide +kernel) (by decide +kernel)]; decide +kernel
@[simp] theorem eqw_hold_move : eqD (.str "hold") (.str "move") = some false := by rw [eqD_str (by decide +kernel) (by decide +kernel)]; decide +kernel
@[simp] theorem eqw_hold_hold : eqD (.str "hold") (.str "hold") = some true := by rw [eqD_str (by decide +kernel) (by decide +kernel)]; decide +kernel
@[simp] theorem eqw_hold_set : eqD (.str "hold") (.str "set") = some false := by rw [eqD_str (by decide +kernel) (by decide +kernel)]; decide +kernel
@[simp] theorem eqw_hold_wait : eqD (.str "hold") (.str "wait") = some false := by rw [eqD_str (by decide +kernel) (by decide +kernel)]; decide +kernel
@[simp] theorem eqw_hold_jump : eqD (.str "hold") (.str "jump") = some false := by rw [eqD_str (by decide +kernel) (by decide +kernel)]; decide +kernel
@[simp] theorem eqw_hold_if : eqD (.str "hold") (.str "if") = some false := by rw [eqD_str (by decide +kernel) (by decide +kernel)]; decide +kernel
@[simp] theorem eqw_hold_rest : eqD (.str "hold") (.str "rest") = some false := by rw [eqD_str (by decide +kernel) (by decide +kernel)]; decide +kernel
@[simp] theorem eqw_set_move : eqD (.str "set") (.str "move") = some false := by rw [eqD_str (by decide +kernel) (by decide +kernel)]; decide +kernel
@[simp] theorem eqw_set_hold : eqD (.str "set") (.str "hold") = some false := by rw [eqD_str (by decide +kernel) (by decide +kernel)]; decide +kernel
@[simp] theorem eqw_set_set : eqD (.str "set") (.str "set") = some true := by rw [eqD_str (by decide +kernel) (by decide +kernel)]; decide +kernel
@[simp] theorem eqw_set_wait : eqD (.str "set") (.str "wait") = some false := by rw [eqD_str (by decide +kernel) (by decide +kernel)]; decide +kernel
@[simp] theorem eqw_set_jump : eqD (.str "set") (.str "jump") = some false := by rw [eqD_str (by decide +kernel) (by decide +kernel)]; decide +kernel
@[simp] theorem eqw_set_if : eqD (.str "set") (.str "if") = some false := by rw [eqD_str (by decide +kernel) (by decide +kernel)]; decide +kernel
@[simp] theorem eqw_set_rest : eqD (.str "set") (.str "rest") = some false := by rw [eqD_str (by decide +kernel) (by decide +kernel)]; decide +kernel
@[simp] theorem eqw_wait_move : eqD (.str "wait") (.str "move") = some false := by rw [eqD_str (by decide +kernel) (by decide +kernel)]; decide +kernel
@[simp] theorem eqw_wait_hold : eqD (.str "wait") (.str "hold") = some false := by rw [eqD_str (by decide +kernel) (by decide +kernel)]; decide +kernel
@[simp] theorem eqw_wait_set : eqD (.str "wait") (.str "set") = some false := by rw [eqD_str (by decide +kernel) (by decide +kernel)]; decide +kernel
@[simp] theorem eqw_wait_wait : eqD (.str "wait") (.str "wait") = some true := by rw [eqD_str (by decide +kernel) (by decide +kernel)]; decide +kernel
@[simp] theorem eqw_wait_jump : eqD (.str "wait") (.str "jump") = some false := by rw [eqD_str (by decide +kernel) (by decide +kernel)]; decide +kernel
@[simp] theorem eqw_wait_if : eqD (.str "wait") (.str "if") = some false := by rw [eqD_str (by decide +kernel) (by decide +kernel)]; decide +kernel
@[simp] theorem eqw_wait_rest : eqD (.str "wait") (.str "rest") = some false := by rw [eqD_str (by decide +kernel) (by decide +kernel)]; decide +kernel
@[simp] theorem eqw_jump_move : eqD (.str "jump") (.str "move") = some false := by rw [eqD_str (by decide +kernel) (by decide +kernel)]; decide +kernel
@[simp] theorem eqw_jump_hold : eqD (.str "jump") (.str "hold") = some false := by rw [eqD_str (by decide +kernel) (by decide +kernel)]; decide +kernel
@[simp] theorem eqw_jump_set : eqD (.str "jump") (.str "set") = some false := by rw [eqD_str (by decide +kernel) (by decide +kernel)]; decide +kernel
@[simp] theorem eqw_jump_wait : eqD (.str "jump") (.str "wait") = some false := by rw [eqD_str (by decide +kernel) (by decide +kernel)]; decide +kernel
@[simp] theorem eqw_jump_jump : eqD (.str "jump") (.str "jump") = some true := by rw [eqD_str (by decide +kernel) (by decide +kernel)]; decide +kernel
@[simp] theorem eqw_jump_if : eqD (.str "jump") (.str "if") = some false := by rw [eqD_str (by decide +kernel) (by decide +kernel)]; decide +kernel
@[simp] theorem eqw_jump_rest : eqD (.str "jump") (.str "rest") = some false := by rw [eqD_str (by decide +kernel) (by decide +kernel)]; decide +kernel
@[simp] theorem eqw_if_move : eqD (.str "if") (.str "move") = some false := by rw [eqD_str (by decide +kernel) (by decide +kernel)]; decide +kernel
@[simp] theorem eqw_if_hold : eqD (.str "if") (.str "hold") = some false := by rw [eqD_str (by decide +kernel) (by decide +kernel)]; decide +kernel
@[simp] theorem eqw_if_set : eqD (.str "if") (.str "set") = some false := by rw [eqD_str (by decide +kernel) (by decide +kernel)]; decide +kernel
@[simp] theorem eqw_if_wait : eqD (.str "if") (.str "wait") = some false := by rw [eqD_str (by decide +kernel) (by decide +kernel)]; decide +kernel
@[simp] theorem eqw_if_jump : eqD (.str "if") (.str "jump") = some false := by rw [eqD_str (by decide +kernel) (by decide +kernel)]; decide +kernel
@[simp] theorem eqw_if_if : eqD (.str "if") (.str "if") = some true := by rw [eqD_str (by decide +kernel) (by decide +kernel)]; decide +kernel
@[simp] theorem eqw_if_rest : eqD (.str "if") (.str "rest") = some false := by rw [eqD_str (by decide +kernel) (by decide +kernel)]; decide +kernel
@[simp] theorem eqw_rest_move : eqD (.str "rest") (.str "move") = some false := by rw [eqD_str (by decide +kernel) (by decide +kernel)]; decide +kernel
@[simp] theorem eqw_rest_hold : eqD (.str "rest") (.str "hold") = some false := by rw [eqD_str (by decide +kernel) (by decide +kernel)]; decide +kernel
@[simp] theorem eqw_rest_set : eqD (.str "rest") (.str "set") = some false := by rw [eqD_str (by decide +kernel) (by decide +kernel)]; decide +kernel
@[simp] theorem eqw_rest_wait : eqD (.str "rest") (.str "wait") = some false := by rw [eqD_str (by decide +kernel) (by decide +kernel)]; decide +kernel
@[simp] theorem eqw_rest_jump : eqD (.str "rest") (.str "jump") = some false := by rw [eqD_str (by decide +kernel) (by decide +kernel)]; decide +kernel
@[simp] theorem eqw_rest_if : eqD (.str "rest") (.str "if") = some false := by rw [eqD_str (by decide +kernel) (by decide +kernel)]; decide +kernel
@[simp] theorem eqw_rest_rest : eqD (.str "rest") (.str "rest") = some true := by rw [eqD_str (by decide +kernel) (by decide +kernel)]; decide +kernel
end
end DL

set_option Elab.async false
set_option linter.all false
set_option maxRecDepth 100000
set_option maxHeartbeats 4000000
/-! DL10: list(range(..)), xs.index(n) of ints. -/
namespace DL
open PySem L2 PySem.Spec PyProof.Rows
section
variable {X : Cx} {o e : Expr} {fo f : F} {fs : FA} {apos cpos p pos pl : Pos}
def fListRg (f : F) : F := fun δ θ => match f δ θ with
  | some (.int j, θ1) => if 0 ≤ j ∧ j ≤ 16777216 then some (.lst (rngD 0 j.toNat), θ1) else none
  | _ => none
theorem reps_rng {P w K} {ρ : List Addr} {H : Hp} (n : Nat) (lo : Int) : ∀ xs : List Nat, Reps P w K ρ H (xs.map fun i => V.int (lo + (i : Nat))) (xs.map fun (i : Nat) => D.int (lo + (i : Int)))
  | [] => .nil
  | x :: xs => .cons (.int _) (reps_rng n lo xs)
theorem de_listRg (hgl : Gl X "list") (hml : X.mg "list" = none) (hg : Gl X "range") (hm : X.mg "range" = none) (he : DE X e f) (hc : X.calm = true := by rfl)
    (na : starEach [e] X.env = (false, eval e X.env) :: starEach [] X.env := by rfl)
    (nb : starEach [(.Call (.Name "range" p) [e] [] cpos)] X.env = (false, eval (.Call (.Name "range" p) [e] [] cpos) X.env) :: starEach [] X.env := by rfl) :
    DE X (.Call (.Name "list" pl) [.Call (.Name "range" p) [e] [] cpos] [] pos) (fListRg f) := by
  obtain ⟨t, p1, r1⟩ := he.ex
  refine ⟨_, pe_listRg hc hgl hml (prg_1 hg hm p1 na) nb, fun σ H ρ δ θ d θ' Q hs hθ h q => ?_⟩
  unfold fListRg at h
  split at h
  · rename_i j θ1 e1
    split at h
    · rename_i hj
      cases h
      refine r1 σ H ρ δ θ _ _ _ hs hθ e1 fun v H1 ρ1 x1 s1 k1 => ?_
      cases k1
      refine ⟨j, rfl, RgOk.of_le (Int.le_refl _) hj.2 (by decide) hj.1, fun l hl => ?_⟩
      have hx := Ext.new (ρ := ρ1) (o := .lst (rgV 0 j)) hl
      refine q _ _ ρ1 (x1.trans hx) (s1.new hl) (.lst (lsf_new s1 hl) ?_)
      unfold rgV rngD
      rw [Int.sub_zero]
      exact reps_rng 0 0 _
    · cases h
  · cases h
/-- the ints of a list -/
def intsD : List D → Option (List Int)
  | [] => some []
  | .int i :: ds => match intsD ds with
    | some ns => some (i :: ns)
    | none => none
  | _ :: _ => none
theorem intsD_is {P w K ρ H} : ∀ {ds : List D} {ns : List Int} {vs : List V}, intsD ds = some ns → Reps P w K ρ H vs ds → vs = ns.map V.int
  | [], _, _, h, r => by cases h; cases r; rfl
  | d :: ds, ns, _, h, .cons r rs => by
    cases d with
    | int i =>
      simp only [intsD] at h
      split at h
      · rename_i ms hm
        cases h
        cases r
        rw [List.map_cons, intsD_is hm rs]
      · cases h
    | _ => cases h
def fIndex (fo f : F) : F := fun δ θ => match fo δ θ with
  | some (o, θ1) => match lstOf θ1 o with
    | some _ => match f δ θ1 with
      | some (.int i, θ2) => match lstOf θ2 o with
        | some ds => match intsD ds with
          | some ns => match ns.findIdx? (· == i) with
            | some j => some (.int (j : Nat), θ2)
            | none => none
          | none => none
        | none => none
      | _ => none
    | none => none
  | none => none
theorem de_index (ho : DE X o fo) (he : DE X e f)
    (hbase : attributeBase o "index" X.env (eval o X.env) = eval o X.env := by rfl)
    (hfew : ((backTo cpos (starEach [e] X.env)).all (fun x => !x.1) && (backToKw cpos (keywordEach [] X.env)).all (fun x => x.1.isSome)
      && decide (([e] : List Expr).length + ([] : List Keyword).length + (if ([] : List Keyword).isEmpty then 0 else 1) < 30)) = true := by rfl)
    (hline : (apos.endLine == cpos.line) = true := by rfl) (hs : starEach [e] X.env = (false, eval e X.env) :: starEach [] X.env := by rfl) (hplain : (backTo cpos (starEach [] X.env)).any (·.1) = false := by rfl) :
    DE X (.Call (.Attribute o "index" apos) [e] [] cpos) (fIndex fo f) := by
  obtain ⟨t, p1, r1⟩ := he.ex
  obtain ⟨u, p2, r2⟩ := ho.ex
  refine ⟨_, pe_bm PySem.F.plainAttrs_list PySem.F.slot_list_index PySem.F.type_list_index mt_index p2 (pa_cons p1 pa_nil hs) hbase hfew hline hs hplain, fun σ H ρ δ θ d θ' Q hs hθ h q => ?_⟩
  unfold fIndex at h
  split at h
  · rename_i o1 θ1 e1
    split at h
    · rename_i ds0 hds0
      split at h
      · rename_i i θ2 e2
        split at h
        · rename_i ds hds
          split at h
          · rename_i ns hns
            split at h
            · rename_i j hj
              cases h
              refine r2 σ H ρ δ θ _ θ1 _ hs hθ e1 fun v H1 ρ1 x1 s1 k1 => ?_
              obtain ⟨a, vs0, rfl, b0, _⟩ := lst_of s1 k1 hds0
              refine ⟨.inl ⟨rfl, _, b0⟩, ?_⟩
              refine r1 σ H1 ρ1 δ θ1 _ _ _ (hs.ext x1) s1 e2 fun v2 H2 ρ2 x2 s2 k2 => ?_
              cases k2
              obtain ⟨a', vs, ea, b1, b2⟩ := lst_of s2 (k1.ext x2) hds
              cases ea
              have hvs := intsD_is hns b2
              subst hvs
              obtain ⟨hjl, hj1, hj2⟩ := List.findIdx?_eq_some_iff_getElem.mp hj
              refine ⟨a, ns.map V.int, .int i, j, .int ns[j], rfl, rfl, b1, rfl, ?_, by simp [hjl], hj1, fun m z hm hz => ?_, q _ H2 ρ2 (x1.trans x2) s2 (.int _)⟩
              · rw [List.all_map]; exact List.all_eq_true.mpr fun _ _ => rfl
              · have hml : m < ns.length := by omega
                rw [List.getElem?_map, List.getElem?_eq_getElem hml] at hz
                cases hz
                have := hj2 m hm
                simpa [eqV] using this
            · cases h
          · cases h
        · cases h
      · cases h
    · cases h
  · cases h
end
end DL

set_option Elab.async false
set_option linter.all false
set_option maxRecDepth 100000
set_option maxHeartbeats 4000000
/-! DL11: a group of statements, cut: what is new is frozen in the slots. -/
namespace DL
open PySem L2 PySem.Spec PyProof.Rows
section
variable {X : Cx} {Wx : WX} {st : Stmt} {rest : List Stmt} {g h g1 : FS}
/-- t does g, then u -/
def Pre (P : Program) (w : World) (K : PySem.W.Frag) (Wx : WX) (t u : TS) (g : FS) : Prop := ∀ (σ : L2.St) (H : Hp) (ρ : List Addr) (δ : Dv) (θ : Sto) (o : Out) (E : Ends), Sl P w K ρ H σ δ → StR P w K ρ H θ → g δ θ = some o →
  EndsOk P w K Wx ρ H o { E with nx := u E } → t E σ H
structure DG2 (X : Cx) (Wx : WX) (xs : List Stmt) (g h : FS) : Prop where
  ex : ∃ t u, PSs X xs t ∧ RS X.prog X.w X.K Wx u h ∧ Pre X.prog X.w X.K Wx t u g
theorem dg2_end (h1 : DSs X Wx rest h) : DG2 X Wx rest sNx h := by
  obtain ⟨u, p, r⟩ := h1.ex
  refine ⟨u, u, p, r, fun σ H ρ δ θ o E hs hθ e q => ?_⟩
  unfold sNx at e
  cases e
  exact q σ H ρ (Ext.refl _ _) hs hθ
theorem dg2_cons (h1 : DS X Wx st g1) (h2 : DG2 X Wx rest g h) : DG2 X Wx (st :: rest) (sSeq g1 g) h := by
  obtain ⟨t1, p1, r1⟩ := h1.ex
  obtain ⟨t, u, p, r, q⟩ := h2.ex
  refine ⟨tSeq t1 t, u, pss_cons p1 p, r, fun σ H ρ δ θ o E hs hθ e k => ?_⟩
  unfold sSeq at e
  show t1 { E with nx := t E } σ H
  split at e
  · rename_i δ1 θ1 e1
    refine r1 σ H ρ δ θ _ _ hs hθ e1 ?_
    intro σ1 H1 ρ1 x1 l1 s1
    exact q σ1 H1 ρ1 δ1 θ1 o E l1 s1 e (k.later x1)
  · rename_i hne
    refine r1 σ H ρ δ θ o _ hs hθ e ?_
    cases o with
    | nx δ θ => exact (hne δ θ e).elim
    | ret d θ => exact k
    | bk δ θ => exact k
    | ct δ θ => exact k
    | ex C δ θ => exact k
/-- freeze the slots -/
def frzD (θ : Sto) (L : Nat) : Dv → Option Dv
  | [] => some []
  | none :: δ => match frzD θ L δ with
    | some δ' => some (none :: δ')
    | none => none
  | some d :: δ => match frz θ L 9 d, frzD θ L δ with
    | some d', some δ' => some (some d' :: δ')
    | _, _ => none
theorem frzD_ok {P w K} {ρ m : List Addr} {H : Hp} {θ : Sto} (s : StR P w K (ρ ++ m) H θ) : ∀ {δ δ' : Dv} {σ : L2.St}, Sl P w K (ρ ++ m) H σ δ → frzD θ ρ.length δ = some δ' → Sl P w K ρ H σ δ'
  | [], _, σ, hs, h => by
    cases h
    exact ⟨hs.1, fun i d hi => by simp at hi⟩
  | none :: δ, _, σ, hs, h => by
    simp only [frzD] at h
    split at h
    · rename_i δ1 e1
      cases h
      obtain ⟨h1, h2⟩ := hs
      cases σ with
      | nil => simp at h1
      | cons x σ =>
        have ih := frzD_ok s (σ := σ) ⟨by simpa using h1, fun i d hi => by simpa using h2 (i + 1) d (by simpa using hi)⟩ e1
        refine ⟨by simp [ih.1], fun i d hi => ?_⟩
        cases i with
        | zero => simp at hi
        | succ i => simpa using ih.2 i d (by simpa using hi)
    · cases h
  | some d0 :: δ, _, σ, hs, h => by
    simp only [frzD] at h
    split at h
    · rename_i d1 δ1 e0 e1
      cases h
      obtain ⟨h1, h2⟩ := hs
      cases σ with
      | nil => simp at h1
      | cons x σ =>
        have ih := frzD_ok s (σ := σ) ⟨by simpa using h1, fun i d hi => by simpa using h2 (i + 1) d (by simpa using hi)⟩ e1
        refine ⟨by simp [ih.1], fun i d hi => ?_⟩
        cases i with
        | zero =>
          simp at hi
          subst hi
          obtain ⟨v, hv, r⟩ := h2 0 d0 rfl
          exact ⟨v, hv, frz_rep s 9 r e0⟩
        | succ i => simpa using ih.2 i d (by simpa using hi)
    · cases h
open Classical in
noncomputable def sCut (g : FS) : FS := fun δ θ => match g δ θ with
  | some (.nx δ' θ') => match frzD θ' θ.length δ' with
    | some δ2 => if OkCut θ θ' then some (.nx δ2 (θ'.take θ.length)) else none
    | none => none
  | _ => none
theorem dss_grp (hh : DG2 X Wx rest g h) : DSs X Wx rest (sSeq (sCut g) h) := by
  obtain ⟨t, u, p, r, q⟩ := hh.ex
  refine ⟨t, p, fun σ H ρ δ θ o E hs hθ e k => ?_⟩
  unfold sSeq sCut at e
  cases hg : g δ θ with
  | none => rw [hg] at e; cases e
  | some o1 =>
    rw [hg] at e
    cases o1 with
    | nx δ1 θ1 =>
      simp only at e
      cases hf : frzD θ1 θ.length δ1 with
      | none => rw [hf] at e; cases e
      | some δ2 =>
        rw [hf] at e
        simp only at e
        by_cases ok : OkCut θ θ1
        · rw [if_pos ok] at e
          simp only at e
          refine q σ H ρ δ θ _ E hs hθ hg ?_
          intro σ1 H1 ρ1 x l s'
          obtain ⟨m, rfl, hm⟩ := x.more
          rw [← hθ.len] at hf
          have l2 := frzD_ok s' l hf
          have x2 : Ext ρ H ρ H1 := ⟨⟨[], by simp, by simp⟩, x.keep, x.tups, x.frzs, x.there⟩
          have e1 : cutR θ (some (.non, θ1)) = some (.non, θ1.take θ.length) := by
            have e : frz θ1 θ.length 9 .non = some .non := rfl
            simp only [cutR, e]
            rw [if_pos ok]
          obtain ⟨_, s2, _⟩ := cut_ok hθ x s' .non e1
          exact r σ1 H1 ρ δ2 _ o E l2 s2 e (k.later x2)
        · rw [if_neg ok] at e; cases e
    | ret d θ1 => cases e
    | bk δ1 θ1 => cases e
    | ct δ1 θ1 => cases e
    | ex C δ1 θ1 => cases e
end
end DL

set_option Elab.async false
set_option linter.all false
set_option maxRecDepth 100000
set_option maxHeartbeats 4000000
/-! DL12: defs that raise own exceptions; try. -/
namespace DL
open PySem L2 PySem.Spec PyProof.Rows
inductive OutX where
  | ok (d : D) (θ : Sto)
  | ex (C : Addr) (θ : Sto)
abbrev MX := List D → Sto → Option OutX
abbrev FX := Dv → Sto → Option OutX
def OkX (P : Program) (w : World) (K : PySem.W.Frag) (ρ : List Addr) (H : Hp) (o : OutX) (Q : VK) (E : XK) : Prop := match o with
  | .ok d θ' => ∀ v H' ρ', Ext ρ H ρ' H' → StR P w K ρ' H' θ' → Rep P w K ρ' H' v d → Q v H'
  | .ex C θ' => ∀ H' ρ', Ext ρ H ρ' H' → StR P w K ρ' H' θ' → E (.ref C) none H'
theorem OkX.later {P w K} {ρ ρ1 : List Addr} {H H1 : Hp} {o : OutX} {Q : VK} {E : XK} (h : OkX P w K ρ H o Q E) (x : Ext ρ H ρ1 H1) : OkX P w K ρ1 H1 o Q E := by
  cases o with
  | ok d θ => exact fun v H' ρ' y s r => h v H' ρ' (x.trans y) s r
  | ex C θ => exact fun H' ρ' y s => h H' ρ' (x.trans y) s
def spX (P : Program) (w : World) (K : PySem.W.Frag) (np : Nat) (m : MX) : Sp := fun vs H Q E => vs.length = np ∧ ∃ ρ ds θ o, Reps P w K ρ H vs ds ∧ StR P w K ρ H θ ∧ m ds θ = some o ∧ OkX P w K ρ H o Q E
def FnX (P : Program) (w : World) (K : PySem.W.Frag) (mg : Str → Option Value) (base : Heap) (k : Nat) (f : Addr) (fd : FuncData) (ps : List Str) (m : MX) : Prop :=
  FnOk P w K mg base (L2.CX P w) k f fd ps (spX P w K ps.length m)
theorem FnX.mono {P : Program} {w : World} {K : PySem.W.Frag} {mg : Str → Option Value} {base : Heap} {k j : Nat} {f : Addr} {fd : FuncData} {ps : List Str} {m : MX} (F : FnX P w K mg base j f fd ps m) (h : j ≤ k) : FnX P w K mg base k f fd ps m := FnOk.mono F h
abbrev WofE (E : XK) : WX := fun cls d _ H => E cls d H
def bodyX (n : Nat) (g : FS) : MX := fun ds θ => match g (ds.map some ++ List.replicate (n - ds.length) none) θ with
  | some (.ret d θ') => some (.ok d θ')
  | some (.nx _ θ') => some (.ok .non θ')
  | some (.ex C _ θ') => some (.ex C θ')
  | _ => none
theorem fnx_ok {P : Program} {w : World} {K : PySem.W.Frag} {mg : Str → Option Value} {base : Heap} {k : Nat} {x qual : Str} {st : Stmt} {f : Addr} {fd : FuncData} {N ps : List Str} {g : FS} (Fn : Fun K x qual st f fd) (S : FnScope N ps (defScope st))
    (hb : ∀ (cdv : Value) (A : Around) (outer : List Env) (s : Shared) (H : Hp) (E : XK), Room k (A.deeper (envOfC qual (defScope st) s.heap.objs.size f cdv)) →
      DSs (cxOf (L2.CX P w) P w K mg base N qual (defScope st) f cdv A outer s H E) (WofE E) (defBody st) g) : FnX P w K mg base (k + 1) f fd ps (bodyX N.length g) := by
  refine Fn.okX S (fun vs H Q E h => h.1) fun cdv A outer s H vs Q E hr h => ?_
  obtain ⟨t, p1, r1⟩ := (hb cdv A outer s H E hr).ex
  refine ⟨t, p1, ?_⟩
  obtain ⟨hl, ρ, ds, θ, o, h1, h2, h3, h4⟩ := h
  unfold bodyX at h3
  split at h3
  · rename_i e
    cases h3
    exact r1 _ H ρ _ θ _ _ (Sl.start h1) h2 e fun v H' ρ' x s k => h4 v H' ρ' x s k
  · rename_i e
    cases h3
    exact r1 _ H ρ _ θ _ _ (Sl.start h1) h2 e fun σ' H' ρ' x l s => h4 _ H' ρ' x s .non
  · rename_i e
    cases h3
    exact r1 _ H ρ _ θ _ _ (Sl.start h1) h2 e fun σ' H' ρ' x l s => h4 H' ρ' x s
  · cases h3
/-! expressions that may raise -/
def REX (P : Program) (w : World) (K : PySem.W.Frag) (W : WX) (t : TE) (f : FX) : Prop := ∀ (σ : L2.St) (H : Hp) (ρ : List Addr) (δ : Dv) (θ : Sto) (o : OutX) (Q : VK), Sl P w K ρ H σ δ → StR P w K ρ H θ → f δ θ = some o →
  OkX P w K ρ H o Q (WE W σ) → t σ H Q
structure DEX (X : Cx) (W : WX) (e : Expr) (f : FX) : Prop where
  ex : ∃ t, PE X e t ∧ REX X.prog X.w X.K W t f
/-- where nothing is raised -/
def fOfX (f : FX) : F := fun δ θ => match f δ θ with
  | some (.ok d θ') => some (d, θ')
  | _ => none
section
variable {X : Cx} {W : WX} {e o : Expr} {es : List Expr} {f : FX} {pos apos : Pos}
theorem de_ofX (h : DEX X W0 e f) : DE X e (fOfX f) := by
  obtain ⟨t, p, r⟩ := h.ex
  refine ⟨t, p, fun σ H ρ δ θ d θ' Q hs hθ e q => ?_⟩
  unfold fOfX at e
  split at e
  · rename_i e1
    cases e
    exact r σ H ρ δ θ _ Q hs hθ e1 q
  · cases e
def sExprX (f : FX) : FS := fun δ θ => match f δ θ with
  | some (.ok _ θ') => some (.nx δ θ')
  | some (.ex C θ') => some (.ex C δ θ')
  | none => none
theorem ds_exprX (he : DEX X W e f) (hs : swapsWith e none pos.line X.env = pure false := by rfl) : DS X W (.Expr e pos) (sExprX f) := by
  obtain ⟨t, p1, r1⟩ := he.ex
  refine ⟨_, ps_expr p1 hs, fun σ H ρ δ θ o E hs hθ e q => ?_⟩
  unfold sExprX at e
  split at e
  · rename_i e1
    cases e
    exact r1 σ H ρ δ θ _ _ hs hθ e1 fun v H' ρ' x s r => q σ H' ρ' x (hs.ext x) s
  · rename_i e1
    cases e
    exact r1 σ H ρ δ θ _ _ hs hθ e1 fun H' ρ' x s => q σ H' ρ' x (hs.ext x) s
  · cases e
def sRetX (f : FX) : FS := fun δ θ => match f δ θ with
  | some (.ok d θ') => some (.ret d θ')
  | some (.ex C θ') => some (.ex C δ θ')
  | none => none
theorem ds_retX (he : DEX X W e f) : DS X W (.Return (some e) pos) (sRetX f) := by
  obtain ⟨t, p1, r1⟩ := he.ex
  refine ⟨_, ps_ret p1, fun σ H ρ δ θ o E hs hθ e q => ?_⟩
  unfold sRetX at e
  split at e
  · rename_i e1
    cases e
    exact r1 σ H ρ δ θ _ _ hs hθ e1 fun v H' ρ' x s r => q v H' ρ' x s r
  · rename_i e1
    cases e
    exact r1 σ H ρ δ θ _ _ hs hθ e1 fun H' ρ' x s => q σ H' ρ' x (hs.ext x) s
  · cases e
end
end DL

set_option Elab.async false
set_option linter.all false
set_option maxRecDepth 100000
set_option maxHeartbeats 4000000
/-! DL13: calls that may raise. -/
namespace DL
open PySem L2 PySem.Spec PyProof.Rows
section
variable {X : Cx} {W : WX} {CX : CXT} {k : Nat} {f C : Addr} {fd : FuncData} {ps : List Str} {sp : Sp} {dvs : List V} {ds : List Value} {E : L2.St → XK} {x mn : Str} {p pos apos : Pos} {e o : Expr} {es : List Expr} {t : TA} {ta : TE}
/-! own rules for what is raised, at the caller's slots -/
def tMethS (C : Addr) (m : Str) (sp : Sp) (dvs : List V) (E : L2.St → XK) (ta : TE) (t : TA) : TE := fun σ H Q => tMeth C m sp dvs (E σ) ta t σ H Q
theorem pe_methSX {pl : Sem Bool} (he : PE X o ta) (c : Cls X.K C) (hm : Meth X.K C mn f) (F : FnOk X.prog X.w X.K X.mg X.base CX k f fd ps sp) (hr : Room k X.A) (hb : Binds X.K fd ps ds) (hd : Vals dvs ds) (hx : ∀ σ, PassesAt CX X σ (E σ)) (ha : PA X (e :: es) t)
    (hst : starEach (e :: es) X.env = (false, eval e X.env) :: starEach es X.env := by rfl) (hpl : (backTo pos (starEach es X.env)).any (·.1) = false := by rfl)
    (ht : eval (.Call (.Attribute o mn apos) (e :: es) [] pos) X.env = (do
      let ov ← eval o X.env
      standAt apos.atName
      let (f, first) ← holding [ov] (getMethod ov mn pl)
      callWith pos f first (backTo pos (starEach (e :: es) X.env)) (backToKw pos (keywordEach [] X.env))) := by rfl) :
    PE X (.Call (.Attribute o mn apos) (e :: es) [] pos) (tMethS C mn sp dvs E ta t) := by
  refine ⟨fun pins s σ H Q I h => ?_⟩
  refine PySem.W.methodCall_KW (pl := pl) (thn (he.run pins s σ H _ I h) fun u s1 ⟨x, H1, I1, rx, a, dx, fs, ex, ea, l, q⟩ => ?_) ht
  subst ex
  obtain rfl : u = Value.ref a := rx
  refine getmeth_ok I1 ea c hm l ?_
  refine PySem.W.callWith_K (first := [.ref a]) (h₀ := X.base) I.ok.mod.kin hm.kp (thn (ha.run pos pins s1 σ H1 _ I1 q) fun us s2 ⟨vs, H2, I2, r, q2⟩ => ⟨I2.kIn, ?_⟩) hst hpl
  exact run_fnSD (us := .ref a :: us) (vs := .ref a :: vs) F hr hb hd (hx σ) I2 (.cons rfl r) q2
theorem pe_meth0SX {pl : Sem Bool} (he : PE X o ta) (c : Cls X.K C) (hm : Meth X.K C mn f) (F : FnOk X.prog X.w X.K X.mg X.base CX k f fd ps sp) (hr : Room k X.A) (hb : Binds X.K fd ps ds) (hd : Vals dvs ds) (hx : ∀ σ, PassesAt CX X σ (E σ))
    (ht : eval (.Call (.Attribute o mn apos) [] [] pos) X.env = (do
      let ov ← eval o X.env
      standAt apos.atName
      let (f, first) ← holding [ov] (getMethod ov mn pl)
      callWith pos f first (backTo pos (starEach [] X.env)) (backToKw pos (keywordEach [] X.env))) := by rfl) :
    PE X (.Call (.Attribute o mn apos) [] [] pos) (tMethS C mn sp dvs E ta tNil) := by
  refine ⟨fun pins s σ H Q I h => ?_⟩
  refine PySem.W.methodCall_KW (pl := pl) (thn (he.run pins s σ H _ I h) fun u s1 ⟨x, H1, I1, rx, a, dx, fs, ex, ea, l, q⟩ => ?_) ht
  subst ex
  obtain rfl : u = Value.ref a := rx
  refine getmeth_ok I1 ea c hm l ?_
  exact PySem.W.callWith_K0 (first := [.ref a]) I1.kIn hm.kp (run_fnSD (us := [.ref a]) (vs := [.ref a]) F hr hb hd (hx σ) I1 (.cons rfl .nil) q)
/-- o.m(e, .., k = v, ..) -/
def tMethKS (C : Addr) (m : Str) (n nk : Nat) (sp : Sp) (gV : List V → List V → List V) (E : L2.St → XK) (ta : TE) (t tk : TA) : TE := fun σ H Q => ta σ H fun x H1 => ∃ a dx fs, x = .ref a ∧ H1 a = some (.ins C dx fs) ∧ fs.lookup m = none ∧
  t σ H1 fun vs H2 => tk σ H2 fun zs H3 => vs.length = n ∧ zs.length = nk ∧ sp (gV (x :: vs) zs) H3 Q (E σ)
theorem pe_methKSX {n : Nat} {ks : List Str} {kws : List Keyword} {tk : TA} {g : List Value → List Value → List Value} {gV : List V → List V → List V} {pl : Sem Bool} (he : PE X o ta) (c : Cls X.K C) (hm : Meth X.K C mn f) (F : FnOk X.prog X.w X.K X.mg X.base CX k f fd ps sp) (hr : Room k X.A) (hb : KBn X.K fd ps (n + 1) ks g gV) (hx : ∀ σ, PassesAt CX X σ (E σ)) (ha : PA X (e :: es) t) (hkw : PK X kws tk)
    (hall : (backToKw pos (keywordEach kws X.env)).all (·.1.isSome) = true := by rfl) (hks : (backToKw pos (keywordEach kws X.env)).filterMap (·.1) = ks := by rfl)
    (hst : starEach (e :: es) X.env = (false, eval e X.env) :: starEach es X.env := by rfl) (hpl : ((backTo pos (starEach (e :: es) X.env)).any (·.1) || (backToKw pos (keywordEach kws X.env)).any (·.1.isNone)) = false := by rfl)
    (ht : eval (.Call (.Attribute o mn apos) (e :: es) kws pos) X.env = (do
      let ov ← eval o X.env
      standAt apos.atName
      let (f, first) ← holding [ov] (getMethod ov mn pl)
      callWith pos f first (backTo pos (starEach (e :: es) X.env)) (backToKw pos (keywordEach kws X.env))) := by rfl) :
    PE X (.Call (.Attribute o mn apos) (e :: es) kws pos) (tMethKS C mn n ks.length sp gV E ta t tk) := by
  refine ⟨fun pins s σ H Q I h => ?_⟩
  refine PySem.W.methodCall_KW (pl := pl) (thn (he.run pins s σ H _ I h) fun u s1 ⟨x, H1, I1, rx, a, dx, fs, ex, ea, l, q⟩ => ?_) ht
  subst ex
  obtain rfl : u = Value.ref a := rx
  refine getmeth_ok I1 ea c hm l ?_
  refine PySem.W.callWith_KW (first := [.ref a]) (h₀ := X.base) I.ok.mod.kin hm.kp hall (thn (ha.run pos pins s1 σ H1 _ I1 q) fun us s2 ⟨vs, H2, I2, r, q2⟩ => ?_) hpl hst
  refine thn (hkw.run pos pins s2 σ H2 _ I2 q2) fun ws s3 ⟨zs, H3, I3, rz, l1, l2, q3⟩ => ⟨I3.kIn, ?_⟩
  rw [hks]
  have r1 : Vals (V.ref a :: vs) (Value.ref a :: us) := .cons rfl r
  have r2 := hb.rel r1 rz
  have n1 : (Value.ref a :: us).length = n + 1 := by rw [List.length_cons, ← r.length, l1]
  refine wpAny_call (codeAny_mono (F.run X.A X.stack s3 H3 ⟨Value.ref a :: us, ks.zip ws⟩ (g (Value.ref a :: us) ws) (gV (V.ref a :: vs) zs) Q (E σ) hr I3.env0 (hb.to s3 _ ws I3.kIn n1 (rz.length.symm.trans l2)) r2 q3) fun r s' hq => ?_)
  cases r with
  | error e => exact hx σ pins H3 s3 e s' I3 hq
  | ok fl =>
    cases fl with
    | ret u => exact I3.after hq
    | next => exact False.elim hq
    | brk => exact False.elim hq
    | cont => exact False.elim hq
/-- C(e, ..), __init__ may raise -/
theorem run_makeSX {pins : List (Addr × Obj)} {σ : L2.St} {H : Hp} {s : Shared} {Q : VK} {us : List Value} {vs : List V} {E : XK} (M : Mk X.K C f) (F : FnOk X.prog X.w X.K X.mg X.base (L2.CX X.prog X.w) k f fd ps sp) (hr : Room (k + 1) X.A) (hb : Binds X.K fd ps ds) (hd : Vals dvs ds)
    (hx : PassesAt (L2.CX X.prog X.w) X σ E) (I : Inv X pins σ H s) (r : Vals vs us)
    (h : ∀ x dx, H x = none → H dx = none → dx ≠ x → sp (.ref x :: (vs ++ dvs)) (upd (upd H dx (.own x)) x (.ins C dx [])) (fun v H2 => v = .non ∧ Q (.ref x) H2) E) :
    wpAny (model X.prog X.w) X.A (call (.ref C) us) (EP X pins σ Q) X.xe s := by
  have hq := h (s.heap.objs.size + 1) s.heap.objs.size (I.hok.fresh (Nat.le_succ _)) (I.hok.fresh (Nat.le_refl _)) (Nat.ne_of_lt (Nat.lt_succ_self _))
  have I2 := Inv.made (C := C) I
  have r2 : Vals (V.ref (s.heap.objs.size + 1) :: (vs ++ dvs)) (Value.ref (s.heap.objs.size + 1) :: (us ++ ds)) := .cons rfl (r.append hd)
  have hl : (Value.ref (s.heap.objs.size + 1) :: us ++ ds).length = ps.length := by
    have e := r2.length
    rw [F.len _ _ _ _ hq] at e
    exact e.symm
  refine wpAny_call (make_map (f := f) I.kIn M.makes M.init (beq_iff_eq.mp M.fn) (codeAny_mono (F.run _ X.stack _ _ ⟨Value.ref (s.heap.objs.size + 1) :: us, []⟩ (Value.ref (s.heap.objs.size + 1) :: (us ++ ds)) _ _ E (hr.make C us [])
    (I2.env0.make C us []) (hb _ (Value.ref (s.heap.objs.size + 1) :: us) I2.kIn hl) r2 hq) fun r s' hq' => ?_))
  cases r with
  | error e => exact hx pins _ _ e s' I2 hq'
  | ok fl =>
    cases fl with
    | ret u =>
      obtain ⟨v, H', I3, rv, ev, q3⟩ := I2.after hq'
      subst ev
      exact ⟨rv, ⟨V.ref (s.heap.objs.size + 1), H', I3, rfl, q3⟩⟩
    | next => exact False.elim hq'
    | brk => exact False.elim hq'
    | cont => exact False.elim hq'
def tMakeS (C : Addr) (sp : Sp) (dvs : List V) (E : L2.St → XK) (t : TA) : TE := fun σ H Q => tMake C sp dvs (E σ) t σ H Q
theorem pe_makeSX (M : Mk X.K C f) (F : FnOk X.prog X.w X.K X.mg X.base (L2.CX X.prog X.w) k f fd ps sp) (hr : Room (k + 1) X.A) (hg : Gl X x) (hm : X.mg x = some (.ref C)) (hb : Binds X.K fd ps ds) (hd : Vals dvs ds) (hx : ∀ σ, PassesAt (L2.CX X.prog X.w) X σ (E σ))
    (ha : PA X (e :: es) t) (hdb : (x == ("__debug__" : Str)) = false := by decide) (he : starEach (e :: es) X.env = (false, eval e X.env) :: starEach es X.env := by rfl) (hpl : (backTo pos (starEach es X.env)).any (·.1) = false := by rfl) :
    PE X (.Call (.Name x p) (e :: es) [] pos) (tMakeS C sp dvs E t) := by
  refine ⟨fun pins s σ H Q I h => ?_⟩
  refine wpAny_Call_Name_kw (ld_glob I hg hm ?_ hdb)
  refine PySem.W.callWith_K (h₀ := X.base) I.ok.mod.kin M.kp (thn (ha.run pos pins s σ H _ I h) fun us s1 ⟨vs, H1, I1, r, q⟩ => ⟨I1.kIn, ?_⟩) he hpl
  exact run_makeSX M F hr hb hd (hx σ) I1 r q
end
/-! ### the layer's rules -/
section
variable {X : Cx} {W : WX} {k : Nat} {f C : Addr} {fd : FuncData} {ps : List Str} {m : MX} {x mn : Str} {p pos apos : Pos} {e o : Expr} {es : List Expr} {fs : FA} {fo : F}
def xCall (m : MX) (fs : FA) : FX := fun δ θ => match fs δ θ with
  | some (ds, θ1) => m ds θ1
  | none => none
theorem dex_call {n : Nat} (tk : Takes X W) (F : FnX X.prog X.w X.K X.mg X.base k f fd ps m) (hr : Room k X.A) (hg : Gl X x) (hm : X.mg x = some (.ref f)) (hk : PySem.W.keepIn X.K (.ref f) = true) (hb : Binds X.K fd ps []) (ha : DA X (e :: es) fs) (hn : ArN fs n) (hps : n = ps.length)
    (hdb : (x == ("__debug__" : Str)) = false := by decide) (he : starEach (e :: es) X.env = (false, eval e X.env) :: starEach es X.env := by rfl) (hpl : (backTo pos (starEach es X.env)).any (·.1) = false := by rfl) :
    DEX X W (.Call (.Name x p) (e :: es) [] pos) (xCall m fs) := by
  obtain ⟨t, h1, h2⟩ := ha.ex
  refine ⟨_, pe_callSD F hr hg hm hk hb .nil (passAt tk) h1 hdb he hpl, fun σ H ρ δ θ o Q hs hθ e q => ?_⟩
  unfold xCall at e
  split at e
  · rename_i ds θ1 e1
    refine h2 σ H ρ δ θ ds θ1 _ hs hθ e1 fun vs H1 ρ1 x1 s1 r1 => ?_
    refine ⟨by rw [List.append_nil, r1.length, hn _ _ _ _ e1, hps], ρ1, ds, θ1, o, by rw [List.append_nil]; exact r1, s1, e, q.later x1⟩
  · cases e
def xMeth (C : Addr) (mn : Str) (m : MX) (fo : F) (fs : FA) : FX := fun δ θ => match fo δ θ with
  | some (o, θ1) => match objOf θ1 o with
    | some (C', fl) => if C' = C ∧ fl.lookup mn = none then (match fs δ θ1 with
      | some (ds, θ2) => m (o :: ds) θ2
      | none => none) else none
    | none => none
  | none => none
theorem rex_meth {P w K} {np n : Nat} {t : TA} {to : TE} (ho : RE P w K to fo) (h : RA P w K t fs) (hn : ArN fs n) (hnp : n + 1 = np) : REX P w K W (tMethS C mn (spX P w K np m) [] (WE W) to t) (xMeth C mn m fo fs) :=
  fun σ H ρ δ θ d Q hs hθ e q => by
    unfold xMeth at e
    split at e
    · rename_i o θ1 e1
      refine ho σ H ρ δ θ o θ1 _ hs hθ e1 fun v H1 ρ1 x1 s1 r1 => ?_
      split at e
      · rename_i C' fl e2
        by_cases hC : C' = C ∧ fl.lookup mn = none
        · rw [if_pos hC] at e
          obtain ⟨rfl, hl⟩ := hC
          split at e
          · rename_i ds θ2 e3
            obtain ⟨a, dx, gs, rfl, k1, k2, k3⟩ := obj_of s1 r1 e2
            refine ⟨a, dx, gs, rfl, k1, (fld_lookup k2 k3 mn).2 hl, ?_⟩
            refine h σ H1 ρ1 δ θ1 ds θ2 _ (hs.ext x1) s1 e3 fun vs H2 ρ2 x2 s2 r2 => ?_
            refine ⟨by simp only [List.append_nil, List.length_cons]; rw [r2.length, hn _ _ _ _ e3, hnp], ρ2, o :: ds, θ2, d, ?_, s2, e, q.later (x1.trans x2)⟩
            simp only [List.append_nil]
            exact .cons (r1.ext x2) r2
          · cases e
        · rw [if_neg hC] at e; cases e
      · cases e
    · cases e
theorem dex_meth {n : Nat} {pl : Sem Bool} (tk : Takes X W) (ho : DE X o fo) (T : MethD X.K C mn f) (F : FnX X.prog X.w X.K X.mg X.base k f fd ps m) (hr : Room k X.A) (hb : Binds X.K fd ps []) (ha : DA X (e :: es) fs) (hn : ArN fs n) (hps : n + 1 = ps.length)
    (hst : starEach (e :: es) X.env = (false, eval e X.env) :: starEach es X.env := by rfl) (hpl : (backTo pos (starEach es X.env)).any (·.1) = false := by rfl)
    (ht : eval (.Call (.Attribute o mn apos) (e :: es) [] pos) X.env = (do
      let ov ← eval o X.env
      standAt apos.atName
      let (f, first) ← holding [ov] (getMethod ov mn pl)
      callWith pos f first (backTo pos (starEach (e :: es) X.env)) (backToKw pos (keywordEach [] X.env))) := by rfl) :
    DEX X W (.Call (.Attribute o mn apos) (e :: es) [] pos) (xMeth C mn m fo fs) := by
  obtain ⟨t, h1, h2⟩ := ha.ex
  obtain ⟨u, h3, h4⟩ := ho.ex
  exact ⟨_, pe_methSX (pl := pl) h3 T.cl T.mt F hr hb .nil (passAt tk) h1 hst hpl ht, rex_meth h4 h2 hn hps⟩
theorem dex_meth0 {pl : Sem Bool} (tk : Takes X W) (ho : DE X o fo) (T : MethD X.K C mn f) (F : FnX X.prog X.w X.K X.mg X.base k f fd ps m) (hr : Room k X.A) (hb : Binds X.K fd ps []) (hps : 1 = ps.length)
    (ht : eval (.Call (.Attribute o mn apos) [] [] pos) X.env = (do
      let ov ← eval o X.env
      standAt apos.atName
      let (f, first) ← holding [ov] (getMethod ov mn pl)
      callWith pos f first (backTo pos (starEach [] X.env)) (backToKw pos (keywordEach [] X.env))) := by rfl) :
    DEX X W (.Call (.Attribute o mn apos) [] [] pos) (xMeth C mn m fo aNil) := by
  obtain ⟨u, h3, h4⟩ := ho.ex
  refine ⟨_, pe_meth0SX (pl := pl) h3 T.cl T.mt F hr hb .nil (passAt tk) ht, rex_meth (np := ps.length) (n := 0) h4 (fun σ H ρ δ θ ds θ' Q hs hθ h q => ?_) arn_nil hps⟩
  unfold aNil at h
  cases h
  exact q [] H ρ (Ext.refl _ _) hθ .nil
def xMethK (C : Addr) (mn : Str) (m : MX) (fo : F) (fs fk : FA) : FX := fun δ θ => match fo δ θ with
  | some (o, θ1) => match objOf θ1 o with
    | some (C', fl) => if C' = C ∧ fl.lookup mn = none then (match fs δ θ1 with
      | some (ds, θ2) => match fk δ θ2 with
        | some (es, θ3) => m (o :: (ds ++ es)) θ3
        | none => none
      | none => none) else none
    | none => none
  | none => none
theorem dex_methK {n nk : Nat} {ks : List Str} {kws : List Keyword} {fk : FA} {pl : Sem Bool} (tk : Takes X W) (ho : DE X o fo) (T : MethD X.K C mn f) (F : FnX X.prog X.w X.K X.mg X.base k f fd ps m) (hr : Room k X.A)
    (hb : KBn X.K fd ps (n + 1) ks (fun us ws => us ++ ws) (fun vs zs => vs ++ zs)) (ha : DA X (e :: es) fs) (hkw : DK X kws fk) (hn : ArN fs n) (hnk : ArN fk nk) (hks' : nk = ks.length) (hps : n + nk + 1 = ps.length)
    (hall : (backToKw pos (keywordEach kws X.env)).all (·.1.isSome) = true := by rfl) (hks : (backToKw pos (keywordEach kws X.env)).filterMap (·.1) = ks := by rfl)
    (hst : starEach (e :: es) X.env = (false, eval e X.env) :: starEach es X.env := by rfl) (hpl : ((backTo pos (starEach (e :: es) X.env)).any (·.1) || (backToKw pos (keywordEach kws X.env)).any (·.1.isNone)) = false := by rfl)
    (ht : eval (.Call (.Attribute o mn apos) (e :: es) kws pos) X.env = (do
      let ov ← eval o X.env
      standAt apos.atName
      let (f, first) ← holding [ov] (getMethod ov mn pl)
      callWith pos f first (backTo pos (starEach (e :: es) X.env)) (backToKw pos (keywordEach kws X.env))) := by rfl) :
    DEX X W (.Call (.Attribute o mn apos) (e :: es) kws pos) (xMethK C mn m fo fs fk) := by
  obtain ⟨t, h1, h2⟩ := ha.ex
  obtain ⟨u, h3, h4⟩ := ho.ex
  obtain ⟨tk2, h5, h6⟩ := hkw.ex
  refine ⟨_, pe_methKSX (pl := pl) h3 T.cl T.mt F hr hb (passAt tk) h1 h5 hall hks hst hpl ht, fun σ H ρ δ θ d Q hs hθ e q => ?_⟩
  unfold xMethK at e
  split at e
  · rename_i o θ1 e1
    refine h4 σ H ρ δ θ o θ1 _ hs hθ e1 fun v H1 ρ1 x1 s1 r1 => ?_
    split at e
    · rename_i C' fl e2
      by_cases hC : C' = C ∧ fl.lookup mn = none
      · rw [if_pos hC] at e
        obtain ⟨rfl, hl⟩ := hC
        split at e
        · rename_i ds θ2 e3
          split at e
          · rename_i zs θ3 e4
            obtain ⟨a, dx, gs, rfl, k1, k2, k3⟩ := obj_of s1 r1 e2
            refine ⟨a, dx, gs, rfl, k1, (fld_lookup k2 k3 mn).2 hl, ?_⟩
            refine h2 σ H1 ρ1 δ θ1 ds θ2 _ (hs.ext x1) s1 e3 fun vs H2 ρ2 x2 s2 r2 => ?_
            refine h6 σ H2 ρ2 δ θ2 zs θ3 _ ((hs.ext x1).ext x2) s2 e4 fun ws H3 ρ3 x3 s3 r3 => ?_
            refine ⟨by rw [r2.length, hn _ _ _ _ e3], by rw [r3.length, hnk _ _ _ _ e4, hks'], ?_, ρ3, o :: (ds ++ zs), θ3, d, .cons ((r1.ext x2).ext x3) ((r2.ext x3).append r3), s3, e, q.later ((x1.trans x2).trans x3)⟩
            simp only [List.length_append, List.length_cons]
            rw [r2.length, hn _ _ _ _ e3, r3.length, hnk _ _ _ _ e4]; omega
          · cases e
        · cases e
      · rw [if_neg hC] at e; cases e
    · cases e
  · cases e
/-- C(..), __init__ may raise -/
def mNewX (C : Addr) (m : MX) : MX := fun ds θ => match m (.ref θ.length :: ds) (θ ++ [.ins C []]) with
  | some (.ok .non θ') => some (.ok (.ref θ.length) θ')
  | some (.ex C' θ') => some (.ex C' θ')
  | _ => none
theorem newX_ok {P w K} {np : Nat} {H : Hp} {ρ : List Addr} {θ : Sto} {vs : List V} {ds : List D} {o : OutX} {Q : VK} {E : XK} (s : StR P w K ρ H θ) (r : Reps P w K ρ H vs ds) (hl : vs.length + 1 = np) (e : mNewX C m ds θ = some o)
    (q : OkX P w K ρ H o Q E) (x dx : Addr) (hx : H x = none) (hdx : H dx = none) (hne : dx ≠ x) :
    spX P w K np m (.ref x :: vs) (upd (upd H dx (.own x)) x (.ins C dx [])) (fun v H2 => v = .non ∧ Q (.ref x) H2) E := by
  have hx' : (upd H dx (.own x)) x = none := by rw [upd_ne (Ne.symm hne)]; exact hx
  have x1 : Ext ρ H ρ (upd H dx (.own x)) := Ext.new hdx
  have s1 := s.new (o := .own x) hdx
  obtain ⟨x2, s2, r2⟩ := upd_ref (o := .ins C dx []) (c := .ins C []) s1 hx' fun _ => ⟨dx, [], upd_same, rfl, .nil⟩
  unfold mNewX at e
  split at e
  · rename_i θ2 e2
    cases e
    refine ⟨by simp only [List.length_cons]; exact hl, ρ ++ [x], .ref θ.length :: ds, θ ++ [.ins C []], .ok .non θ2, .cons r2 ((r.ext x1).ext x2), s2, e2, fun v H3 ρ3 x3 s3 r3 => ?_⟩
    cases r3
    exact ⟨rfl, q _ H3 ρ3 ((x1.trans x2).trans x3) s3 (r2.ext x3)⟩
  · rename_i C' θ2 e2
    cases e
    exact ⟨by simp only [List.length_cons]; exact hl, ρ ++ [x], .ref θ.length :: ds, θ ++ [.ins C []], .ex C' θ2, .cons r2 ((r.ext x1).ext x2), s2, e2, fun H3 ρ3 x3 s3 => q H3 ρ3 ((x1.trans x2).trans x3) s3⟩
  · cases e
theorem dex_new {n : Nat} (tk : Takes X W) (T : Mk X.K C f) (F : FnX X.prog X.w X.K X.mg X.base k f fd ps m) (hr : Room (k + 1) X.A) (hg : Gl X x) (hm : X.mg x = some (.ref C)) (hb : Binds X.K fd ps [])
    (ha : DA X (e :: es) fs) (hn : ArN fs n) (hps : n + 1 = ps.length)
    (hdb : (x == ("__debug__" : Str)) = false := by decide) (he : starEach (e :: es) X.env = (false, eval e X.env) :: starEach es X.env := by rfl) (hpl : (backTo pos (starEach es X.env)).any (·.1) = false := by rfl) :
    DEX X W (.Call (.Name x p) (e :: es) [] pos) (xCall (mNewX C m) fs) := by
  obtain ⟨t, h1, h2⟩ := ha.ex
  refine ⟨_, pe_makeSX T F hr hg hm hb .nil (passAt tk) h1 hdb he hpl, fun σ H ρ δ θ o Q hs hθ e q => ?_⟩
  unfold xCall at e
  split at e
  · rename_i l θ1 e1
    refine h2 σ H ρ δ θ l θ1 _ hs hθ e1 fun vs H1 ρ1 x1 s1 r1 => ?_
    intro y dy hy hdy hne
    rw [List.append_nil]
    exact newX_ok s1 r1 (by rw [r1.length, hn _ _ _ _ e1]; exact hps) e (q.later x1) y dy hy hdy hne
  · cases e
end
end DL

set_option Elab.async false
set_option linter.all false
set_option maxRecDepth 100000
set_option maxHeartbeats 4000000
/-! DL14: raise, try .. except C as e, isinstance(e, C), a < b < c, properties. -/
namespace DL
open PySem L2 PySem.Spec PyProof.Rows
section
variable {X : Cx} {W : WX} {e a b c : Expr} {f fa fb fc : F} {fx : FX} {pos : Pos}
def sAsgX (f : FX) (gt : FG) : FS := fun δ θ => match f δ θ with
  | some (.ok d θ1) => match gt d δ θ1 with
    | some (δ2, θ2) => some (.nx δ2 θ2)
    | none => none
  | some (.ex C θ1) => some (.ex C δ θ1)
  | none => none
theorem rs_asgX {P w K} {te : TE} {tg : TG} {gt : FG} (h1 : REX P w K W te fx) (h2 : RG P w K tg gt) : RS P w K W (tAsg te tg) (sAsgX fx gt) := fun σ H ρ δ θ o E hs hθ e q => by
  unfold sAsgX at e
  split at e
  · rename_i d θ1 e1
    split at e
    · rename_i δ2 θ2 e2
      cases e
      refine h1 σ H ρ δ θ _ _ hs hθ e1 fun v H1 ρ1 x1 s1 r1 => ?_
      exact h2 v d σ H1 ρ1 δ θ1 δ2 θ2 _ (hs.ext x1) s1 r1 e2 fun σ' H' ρ' x2 l2 s2 => q σ' H' ρ' (x1.trans x2) l2 s2
    · cases e
  · rename_i C θ1 e1
    cases e
    exact h1 σ H ρ δ θ _ _ hs hθ e1 fun H' ρ' x s => q σ H' ρ' x (hs.ext x) s
  · cases e
theorem ds_setX (i : Nat) {x : Str} {pos' : Pos} (hN : X.N.Nodup) (he : DEX X W e fx) (hi : X.N[i]? = some x := by rfl) (hx : Loc X.env.scope x := by first | exact Or.inl rfl | exact Or.inr rfl) (hs : swapsWith e (some (.Name x pos')) pos.line X.env = pure false := by rfl)
    (hf : X.fn x = true ∨ X.env.scope.names.lookup x = some .local := by first | exact .inl rfl | exact .inr rfl) : DS X W (.Assign [.Name x pos'] e pos) (sAsgX fx (gNm i)) := by
  obtain ⟨t, p1, r1⟩ := he.ex
  exact ⟨_, ps_set hN hi hx p1 hs hf, rs_asgX r1 (rg_name i)⟩
theorem ds_asgX {tg : Expr} {gg : TG} {gt : FG} (he : DEX X W e fx) (hg : DG X tg gg gt) (hs : swapsWithSole [tg] e pos.line X.env = pure false := by rfl) (hw : swappedStores [tg] e X.env = pure none := by rfl)
    (h1 : (assignEach [tg] X.env).map (·.2) = [assign tg X.env] := by rfl) : DS X W (.Assign [tg] e pos) (sAsgX fx gt) := by
  obtain ⟨t, p1, r1⟩ := he.ex
  exact ⟨_, ps_asg p1 hg.pg hs hw h1, rs_asgX r1 hg.rg⟩
/-! ### raise -/
/-- what an own exception class must be -/
structure ExcF (K : PySem.W.Frag) (mg : Str → Option Value) (x : Str) (C : Addr) : Prop where
  exc : PySem.W.excIn K C [.type "ValueError", .type "Exception", .type "BaseException", .type "object"] "ValueError.__new__" = true
  g : mg x = some (.ref C)
  kp : PySem.W.keepIn K (.ref C) = true
  sb : PySem.W.subIn K (.ref C) (.type "BaseException") = some true
  ty : PySem.W.typeIn K (.ref C) = some (.type "type")
def sRaise (C : Addr) : FS := fun δ θ => some (.ex C δ θ)
theorem ds_raise {x m : Str} {C : Addr} {j : Nat} {p p2 p3 : Pos} (T : ExcF X.K X.mg x C) (tk : Takes X W) (hg : Gl X x := by rfl) (hc : X.calm = true := by rfl) (hdb : (x == ("__debug__" : Str)) = false := by decide) :
    DS X W (.Raise (some (.Call (.Name x p) [.Constant (.str m) j p2] [] p3)) none pos) (sRaise C) :=
  ⟨_, ps_raise hc tk (pmk_own PySem.F.excBase_ValueError T.exc T.g T.kp (raises_own T.sb T.ty) hg hdb), fun σ H ρ δ θ o E hs hθ e q => by
    unfold sRaise at e
    cases e
    exact q σ H ρ (Ext.refl _ _) hs hθ⟩
/-- raise C(f'{s}'), s a text -/
def sRaiseF (C : Addr) (f : F) : FS := fun δ θ => match f δ θ with
  | some (.str s, θ1) => if s.length ≤ 100000 then some (.ex C δ θ1) else none
  | _ => none
theorem ds_raiseF {x : Str} {C : Addr} {p p2 p3 p4 : Pos} (T : ExcF X.K X.mg x C) (tk : Takes X W) (he : DE X e f) (hg : Gl X x := by rfl) (hc : X.calm = true := by rfl) (hdb : (x == ("__debug__" : Str)) = false := by decide)
    (hs1 : starEach [(.JoinedStr [.FormattedValue e (-1) none p4] p2)] X.env = (false, eval (.JoinedStr [.FormattedValue e (-1) none p4] p2) X.env) :: starEach [] X.env := by rfl) :
    DS X W (.Raise (some (.Call (.Name x p) [.JoinedStr [.FormattedValue e (-1) none p4] p2] [] p3)) none pos) (sRaiseF C f) := by
  obtain ⟨t, p1, r1⟩ := he.ex
  refine ⟨_, ps_raise hc tk (pmk_ownA PySem.F.excBase_ValueError T.exc T.g T.kp (raises_own T.sb T.ty) hg (pa_cons (pe_fs1 (pe_fmt p1)) pa_nil hs1) hdb hs1), fun σ H ρ δ θ o E hs hθ e q => ?_⟩
  unfold sRaiseF at e
  split at e
  · rename_i s θ1 e1
    split at e
    · rename_i hl
      cases e
      refine r1 σ H ρ δ θ _ θ1 _ hs hθ e1 fun v H1 ρ1 x1 s1 k1 => ?_
      cases k1
      refine .inl ⟨s, rfl, szl hl, ?_⟩
      exact ⟨by rw [sizeLine_eq]; simp, q σ H1 ρ1 x1 (hs.ext x1) s1⟩
    · cases e
  · cases e
/-! ### a < b < c -/
def fChain (g g' : G2) (fa fb fc : F) : F := fun δ θ => match fa δ θ with
  | some (x, θ1) => match fb δ θ1 with
    | some (y, θ2) => match g θ2 x y with
      | some (.bl true) => match fc δ θ2 with
        | some (z, θ3) => match g' θ3 y z with
          | some d => some (d, θ3)
          | none => none
        | none => none
      | some (.bl false) => some (.bl false, θ2)
      | _ => none
    | none => none
  | none => none
theorem re_chain {P w K} {r r' : R2} {g g' : G2} {ta tb tc : TE} (h1 : R2D P w K r g) (h2 : R2D P w K r' g') (ha : RE P w K ta fa) (hb : RE P w K tb fb) (hc : RE P w K tc fc) : RE P w K (tChain r r' ta tb tc) (fChain g g' fa fb fc) := fun σ H ρ δ θ d θ' Q hs hθ h q => by
  unfold fChain at h
  split at h
  · rename_i x θ1 e1
    split at h
    · rename_i y θ2 e2
      refine ha σ H ρ δ θ x θ1 _ hs hθ e1 fun v H1 ρ1 x1 s1 k1 => ?_
      refine hb σ H1 ρ1 δ θ1 y θ2 _ (hs.ext x1) s1 e2 fun u H2 ρ2 x2 s2 k2 => ?_
      split at h
      · rename_i e3
        split at h
        · rename_i z θ3 e4
          split at h
          · rename_i d' e5
            cases h
            refine h1 ρ2 H2 θ2 v u x y _ _ s2 (k1.ext x2) k2 e3 fun w' H3 x3 s3 k3 => ?_
            cases k3
            refine ⟨true, rfl, ?_⟩
            rw [if_pos rfl]
            refine hc σ H3 ρ2 δ θ2 z _ _ (((hs.ext x1).ext x2).ext x3) s3 e4 fun t H4 ρ4 x4 s4 k4 => ?_
            exact h2 ρ4 H4 _ u t y z _ _ s4 ((k2.ext x3).ext x4) k4 e5 fun w'' H5 x5 s5 k5 => q w'' H5 ρ4 (((x1.trans x2).trans x3).trans (x4.trans x5)) s5 k5
          · cases h
        · cases h
      · rename_i e3
        cases h
        refine h1 ρ2 H2 _ v u x y _ _ s2 (k1.ext x2) k2 e3 fun w' H3 x3 s3 k3 => ?_
        cases k3
        refine ⟨false, rfl, ?_⟩
        rw [if_neg (by decide)]
        exact q _ H3 ρ2 ((x1.trans x2).trans x3) s3 (.bl false)
      · cases h
    · cases h
  · cases h
theorem dt_chain {op op' : CmpOp} {g g' : G2} (ho : OpD X (compareOp op) g) (ho' : OpD X (compareOp op') g') (ha : DE X a fa) (hb : DE X b fb) (hc : DE X c fc) (hm : lastMarks [op, op'] [b, c] = false := by with_unfolding_all rfl) :
    DT X (.Compare a [op, op'] [b, c] pos) (tBf (fChain g g' fa fb fc)) := by
  obtain ⟨r, h1, h2⟩ := ho
  obtain ⟨r', h1', h2'⟩ := ho'
  obtain ⟨t, h3, h4⟩ := ha.ex
  obtain ⟨u, h5, h6⟩ := hb.ex
  obtain ⟨v, h7, h8⟩ := hc.ex
  exact ⟨_, pt_chain h1 h1' h3 h5 h7 hm, rt_B (re_chain h2 h2' h4 h6 h8)⟩
theorem de_chain {op op' : CmpOp} {g g' : G2} (ho : OpD X (compareOp op) g) (ho' : OpD X (compareOp op') g') (ha : DE X a fa) (hb : DE X b fb) (hc : DE X c fc) (hm : lastMarks [op, op'] [b, c] = false := by with_unfolding_all rfl) :
    DE X (.Compare a [op, op'] [b, c] pos) (fChain g g' fa fb fc) := by
  obtain ⟨r, h1, h2⟩ := ho
  obtain ⟨r', h1', h2'⟩ := ho'
  obtain ⟨t, h3, h4⟩ := ha.ex
  obtain ⟨u, h5, h6⟩ := hb.ex
  obtain ⟨v, h7, h8⟩ := hc.ex
  exact ⟨_, pe_chain h1 h1' h3 h5 h7 hm, re_chain h2 h2' h4 h6 h8⟩
/-! ### properties -/
def fProp (C : Addr) (m : M) (fo : F) : F := fun δ θ => match fo δ θ with
  | some (o, θ1) => match objOf θ1 o with
    | some (C', _) => if C' = C then m [o] θ1 else none
    | none => none
  | none => none
theorem de_prop {k : Nat} {C p g : Addr} {n : Str} {fd : FuncData} {ps : List Str} {m : M} {fo : F} {o : Expr} (ho : DE X o fo) (cl : Cls X.K C) (hp : PropOf X.K C n p g) (F : FnD X.prog X.w X.K X.mg X.base k g fd ps m) (hr : Room (k + 1) X.A) (hb : Binds X.K fd ps []) (hps : 1 = ps.length)
    (hab : attributeBase o n X.env (eval o X.env) = eval o X.env := by rfl) : DE X (.Attribute o n pos) (fProp C m fo) := by
  obtain ⟨t, p1, r1⟩ := ho.ex
  refine ⟨_, pe_prop p1 cl hp F hr hb .nil pass0 hab, fun σ H ρ δ θ d θ' Q hs hθ h q => ?_⟩
  unfold fProp at h
  split at h
  · rename_i o1 θ1 e1
    refine r1 σ H ρ δ θ o1 θ1 _ hs hθ e1 fun v H1 ρ1 x1 s1 k1 => ?_
    split at h
    · rename_i C' fl e2
      by_cases hC : C' = C
      · rw [if_pos hC] at h
        subst hC
        obtain ⟨a, dx, gs, rfl, j1, j2, j3⟩ := obj_of s1 k1 e2
        exact ⟨a, dx, gs, rfl, j1, by simpa using hps, ρ1, [o1], θ1, d, θ', .cons k1 .nil, s1, h, fun v H2 ρ2 x2 s2 r2 => q v H2 ρ2 (x1.trans x2) s2 r2⟩
      · rw [if_neg hC] at h; cases h
    · cases h
  · cases h
end
end DL

set_option Elab.async false
set_option linter.all false
set_option maxRecDepth 100000
set_option maxHeartbeats 4000000
/-! DL15: try .. except C as n. -/
namespace DL
open PySem L2 PySem.Spec PyProof.Rows
theorem pss_imp {X : Cx} {st : List Stmt} {t t' : TS} (h : PSs X st t) (hi : ∀ D σ H, t' D σ H → t D σ H) : PSs X st t' := ⟨fun pins s σ H D I q => h.run pins s σ H D I (hi D σ H q)⟩
theorem pss_no {X : Cx} {st : List Stmt} {t : TS} (h : ∀ D σ H, ¬ t D σ H) : PSs X st t := ⟨fun pins s σ H D I q => (h D σ H q).elim⟩
/-- the reading of a mirror -/
def tcanS (P : Program) (w : World) (K : PySem.W.Frag) (W : WX) (g : FS) : TS := fun E σ H => ∃ ρ δ θ o, Sl P w K ρ H σ δ ∧ StR P w K ρ H θ ∧ g δ θ = some o ∧ EndsOk P w K W ρ H o E
theorem DSs.can {X : Cx} {W : WX} {st : List Stmt} {g : FS} (h : DSs X W st g) : PSs X st (tcanS X.prog X.w X.K W g) := by
  obtain ⟨t, p, r⟩ := h.ex
  exact pss_imp p fun D σ H ⟨ρ, δ, θ, o, h1, h2, h3, h4⟩ => r σ H ρ δ θ o D h1 h2 h3 h4
/-- behind the suite the name is gone -/
def unE (i : Nat) : Out → Option Out
  | .nx δ θ => some (.nx (δ.set i none) θ)
  | .ret d θ => some (.ret d θ)
  | .bk δ θ => some (.bk (δ.set i none) θ)
  | .ct δ θ => some (.ct (δ.set i none) θ)
  | .ex _ _ _ => none
open Classical in
noncomputable def sTry (cX : Addr) (others : List Addr) (i : Nat) (gb : FS) (gs : Addr → FS) : FS := fun δ θ => match gb δ θ with
  | some (.ex C δ1 θ1) => if C = cX then (if h : ∃ o, ∀ a, ((gs a (δ1.set i (some (.adr a))) θ1).bind (unE i)) = some o then some (Classical.choose h) else none)
    else if C ∈ others then some (.ex C δ1 θ1) else none
  | r => r
theorem sTry_ok {cX : Addr} {others : List Addr} {i : Nat} {gb : FS} {gs : Addr → FS} {δ : Dv} {θ : Sto} {o : Out} (h : gb δ θ = some o) (hn : ∀ C δ1 θ1, o ≠ .ex C δ1 θ1) : sTry cX others i gb gs δ θ = some o := by
  unfold sTry
  rw [h]
  cases o with
  | ex C δ1 θ1 => exact (hn _ _ _ rfl).elim
  | _ => rfl
theorem sTry_ex {cX : Addr} {others : List Addr} {i : Nat} {gb : FS} {gs : Addr → FS} {δ δ1 : Dv} {θ θ1 : Sto} {o : Out} (h : gb δ θ = some (.ex cX δ1 θ1)) (hs : ∀ a, ((gs a (δ1.set i (some (.adr a))) θ1).bind (unE i)) = some o) : sTry cX others i gb gs δ θ = some o := by
  have hx : ∃ o, ∀ a, ((gs a (δ1.set i (some (.adr a))) θ1).bind (unE i)) = some o := ⟨o, hs⟩
  unfold sTry
  rw [h]
  simp only
  rw [if_pos trivial, dif_pos hx]
  have := Classical.choose_spec hx 0
  rw [hs 0] at this
  exact this.symm
theorem sTry_pass {cX C : Addr} {others : List Addr} {i : Nat} {gb : FS} {gs : Addr → FS} {δ δ1 : Dv} {θ θ1 : Sto} (h : gb δ θ = some (.ex C δ1 θ1)) (h1 : C ≠ cX) (h2 : C ∈ others) : sTry cX others i gb gs δ θ = some (.ex C δ1 θ1) := by
  unfold sTry
  rw [h]
  simp only
  rw [if_neg h1, if_pos h2]
theorem Sl.unset {P w K} {ρ : List Addr} {H : Hp} {σ : L2.St} {δ : Dv} (s : Sl P w K ρ H σ δ) (i : Nat) : Sl P w K ρ H (σ.set i none) (δ.set i none) := by
  refine ⟨by simp [s.1], fun j d' h => ?_⟩
  by_cases hj : j = i
  · subst hj
    have hl : j < δ.length := by
      have := (List.getElem?_eq_some_iff.mp h).1
      simpa using this
    rw [List.getElem?_set_self hl] at h
    cases h
  · rw [List.getElem?_set_ne (Ne.symm hj)] at h
    obtain ⟨v', h1, h2⟩ := s.2 j d' h
    exact ⟨v', by rw [List.getElem?_set_ne (Ne.symm hj)]; exact h1, h2⟩
section
variable {X : Cx} {x n : Str} {cX : Addr} {others : List Addr} {i : Nat} {body suite : List Stmt} {b₀ : Stmt} {np pos pos' : Pos} {Wout : WX} {gb : FS} {gs : Addr → FS}
theorem ds_try_as (hs : X.stack = X.env :: X.outer) (hf : X.env.frame = some X.env.locals) (hN : X.N.Nodup) (hi : X.N[i]? = some n) (hln : X.env.kindOf n = some .local) (hc : Names X x (.ref cX)) (tk : Takes X Wout)
    (hT : PySem.W.exmOne X.K (.ref cX) (.ref cX) = some true) (hO : ∀ C ∈ others, PySem.W.exmOne X.K (.ref C) (.ref cX) = some false)
    (hb : ∀ (W : WX) (pn : List (Addr × Obj)) (xe : Value → Shared → Prop), Takes (X.tr pn xe) W → PassesOwn (model X.prog X.w) X.A X.env xe → DSs (X.tr pn xe) W body gb)
    (hsu : ∀ (a : Addr) (oe : Obj) (pn : List (Addr × Obj)), Zc (.ref cX) none oe → (∃ vs, oe.data = .fields vs) → DSs (X.suite a ((a, oe) :: pn)) W0 (b₀ :: suite) (gs a)) :
    DS X Wout (.Try body [.ExceptHandler (some (.Name x np)) (some n) (b₀ :: suite) pos'] [] [] pos) (sTry cX others i gb gs) := by
  refine ⟨_, ps_try_as (tb := fun W => tcanS X.prog X.w X.K W gb) (ts := fun a cls d => fun E σ H => cls = .ref cX ∧ d = none ∧ tcanS X.prog X.w X.K W0 (gs a) E σ H) hs hf hN hi hln hc tk (fun W pn xe t p => (hb W pn xe t p).can) (fun a oe cls d pn hz hv => ?_), fun σ H ρ δ θ o E hsl hθ e q => ?_⟩
  · by_cases hh : cls = .ref cX ∧ d = none
    · obtain ⟨rfl, rfl⟩ := hh
      exact pss_imp (hsu a oe pn hz hv).can fun D σ H h => h.2.2
    · exact pss_no fun D σ H h => hh ⟨h.1, h.2.1⟩
  · unfold sTry at e
    cases hg : gb δ θ with
    | none => rw [hg] at e; cases e
    | some o1 =>
      rw [hg] at e
      refine ⟨ρ, δ, θ, o1, hsl, hθ, hg, ?_⟩
      cases o1 with
      | nx δ1 θ1 => cases e; exact q
      | ret d θ1 => cases e; exact q
      | bk δ1 θ1 => cases e; exact q
      | ct δ1 θ1 => cases e; exact q
      | ex C δ1 θ1 =>
        simp only at e
        intro σ1 H1 ρ1 x1 l1 s1
        by_cases hC : C = cX
        · rw [if_pos hC] at e
          subst hC
          by_cases hx : ∃ o, ∀ a, ((gs a (δ1.set i (some (.adr a))) θ1).bind (unE i)) = some o
          · rw [dif_pos hx] at e
            cases e
            have hsp := Classical.choose_spec hx
            generalize Classical.choose hx = o at hsp q
            refine ⟨true, hT, fun _ a ha => ⟨rfl, rfl, ρ1, δ1.set i (some (.adr a)), θ1, ?_⟩, (fun hq => by cases hq)⟩
            have ha' := hsp a
            cases hga : gs a (δ1.set i (some (.adr a))) θ1 with
            | none => rw [hga] at ha'; cases ha'
            | some oa =>
              rw [hga] at ha'
              refine ⟨oa, l1.set i (.adr a), s1, rfl, ?_⟩
              cases oa with
              | nx δ2 θ2 => cases ha'; exact fun σ2 H2 ρ2 x2 l2 s2 => q (σ2.set i none) H2 ρ2 (x1.trans x2) (l2.unset i) s2
              | ret d θ2 => cases ha'; exact fun v H2 ρ2 x2 s2 r2 => q v H2 ρ2 (x1.trans x2) s2 r2
              | bk δ2 θ2 => cases ha'; exact fun σ2 H2 ρ2 x2 l2 s2 => q (σ2.set i none) H2 ρ2 (x1.trans x2) (l2.unset i) s2
              | ct δ2 θ2 => cases ha'; exact fun σ2 H2 ρ2 x2 l2 s2 => q (σ2.set i none) H2 ρ2 (x1.trans x2) (l2.unset i) s2
              | ex C2 δ2 θ2 => cases ha'
          · rw [dif_neg hx] at e; cases e
        · rw [if_neg hC] at e
          by_cases hO' : C ∈ others
          · rw [if_pos hO'] at e
            cases e
            exact ⟨false, hO C hO', (fun hq => by cases hq), fun _ => q σ1 H1 ρ1 x1 l1 s1⟩
          · rw [if_neg hO'] at e; cases e
/-! isinstance(e, C) -/
def fIsE (a : Addr) (i : Nat) (b : Bool) : F := fun δ θ => match δ[i]? with
  | some (some (.adr a')) => if a' = a then some (.bl b, θ) else none
  | _ => none
end
section
variable {X : Cx} {a D cY : Addr} {oe : Obj} {pn : List (Addr × Obj)} {i : Nat} {y z : Str} {p1 p2 p3 pos : Pos} {b : Bool}
theorem de_isE (C : ExcC X.K D) (hz : Zc (.ref D) none oe) (hf : ∃ vs, oe.data = .fields vs) (hkit : PySem.W.kitOne X.K (.ref D) (.ref cY) = some b) (gY : X.mg z = some (.ref cY)) (hi : X.N[i]? = some y) (hy : Vis X.env.scope y := by first | exact Or.inl rfl | exact Or.inr (Or.inl rfl)) (hyd : (y == ("__debug__" : Str)) = false := by decide) (hyc : (y == ("__classdict__" : Str)) = false := by decide)
    (hg : Gl (X.suite a ((a, oe) :: pn)) "isinstance") (hm : X.mg "isinstance" = none) (hgz : Gl (X.suite a ((a, oe) :: pn)) z) (hdb : (z == ("__debug__" : Str)) = false := by decide)
    (he : starEach [(.Name y p1), (.Name z p2)] X.env = (false, eval (.Name y p1) X.env) :: starEach [(.Name z p2)] X.env := by rfl) (he2 : starEach [(.Name z p2)] X.env = (false, eval (.Name z p2) X.env) :: starEach [] X.env := by rfl) (hpl : (backTo pos (starEach [(.Name z p2)] X.env)).any (·.1) = false := by rfl) :
    DE (X.suite a ((a, oe) :: pn)) (.Call (.Name "isinstance" p3) [.Name y p1, .Name z p2] [] pos) (fIsE a i b) := by
  refine ⟨_, pe_callB (call_isE C hz hf) hg hm (by decide +kernel) (pa_cons (pe_var (i := i) hi hy hyd hyc) (pa_cons (pe_glob (v := .ref cY) hgz gY rfl hdb) pa_nil he2) he) (by decide) (by decide) he hpl, fun σ H ρ δ θ d θ' Q hs hθ e q => ?_⟩
  unfold fIsE at e
  split at e
  · rename_i a' e1
    by_cases ha : a' = a
    · rw [if_pos ha] at e
      subst ha
      cases e
      obtain ⟨v, h1, h2⟩ := hs.2 i _ e1
      cases h2
      exact ⟨_, h1, ⟨_, _, b, rfl, fun u r => r, hkit, q _ H ρ (Ext.refl _ _) hθ (.bl b)⟩⟩
    · rw [if_neg ha] at e; cases e
  · cases e
end
end DL

set_option Elab.async false
set_option linter.all false
set_option maxRecDepth 100000
set_option maxHeartbeats 4000000
/-! DL16: loops over a list that is written elsewhere, as long as it stays the same. -/
namespace DL
open PySem L2 PySem.Spec PyProof.Rows
/-- walked while cell n is the list ds0 -/
def WalkN (P : Program) (w : World) (K : PySem.W.Frag) (J : It) (n : Nat) (ds0 : List D) (ρ0 : List Addr) (H0 : Hp) (ds : List D) : Prop := ∀ ρ H θ i, Ext ρ0 H0 ρ H → StR P w K ρ H θ → θ[n]? = some (.lst ds0) →
  (i = ds.length → J.stop i H) ∧ ∀ d, ds[i]? = some d → J.go i H ∧ ∀ x H', J.yld i H x H' → Ext ρ H ρ H' ∧ StR P w K ρ H' θ ∧ Rep P w K ρ H' x d
/-- what is walked: a cell, the list in it, what is handed out -/
abbrev FAN := Dv → Sto → Option (Nat × List D × List D × Sto)
def RIN (P : Program) (w : World) (K : PySem.W.Frag) (wi : TI) (f : FAN) : Prop := ∀ (σ : L2.St) (H : Hp) (ρ : List Addr) (δ : Dv) (θ : Sto) (n : Nat) (ds0 ds : List D) (θ' : Sto) (R : It → Hp → Prop), Sl P w K ρ H σ δ → StR P w K ρ H θ → f δ θ = some (n, ds0, ds, θ') →
  (∀ J H' ρ', Ext ρ H ρ' H' → StR P w K ρ' H' θ' → WalkN P w K J n ds0 ρ' H' ds → R J H') → wi σ H R
structure DIN (X : Cx) (tg iter : Expr) (f : FAN) : Prop where
  ex : ∃ wi, PI X tg iter wi ∧ RIN X.prog X.w X.K wi f
open Classical in
noncomputable def forN (n : Nat) (ds0 : List D) (gt : FG) (b : FS) : List D → FS
  | [], δ, θ => if θ[n]? = some (.lst ds0) then some (.nx δ θ) else none
  | d :: ds, δ, θ => if θ[n]? = some (.lst ds0) then (match gt d δ θ with
    | some (δ1, θ1) => match b δ1 θ1 with
      | some (.nx δ2 θ2) => forN n ds0 gt b ds δ2 θ2
      | some (.ct δ2 θ2) => forN n ds0 gt b ds δ2 θ2
      | some (.bk δ2 θ2) => some (.nx δ2 θ2)
      | r => r
    | none => none) else none
noncomputable def sForN (fi : FAN) (gt : FG) (b : FS) : FS := fun δ θ => match fi δ θ with
  | some (n, ds0, ds, θ1) => forN n ds0 gt b ds δ θ1
  | none => none
section
variable {X : Cx} {Wx : WX} {body : List Stmt} {pos p tpos : Pos} {e iter tg : Expr} {fb : FS} {fi : FAN} {gg : TG} {gt : FG} {fa : F} {fs : FA}
theorem ds_forN (hp : PassesOwn (model X.prog X.w) X.A X.env X.xe) (hi : DIN X tg iter fi) (hg : DG X tg gg gt) (hb : DSs X Wx body fb) (hc : X.calm = true := by rfl)
    (hs : ∀ x, foldedSetIterable iter X.env x = pure x := by intro _; rfl) : DS X Wx (.For tg iter body [] pos) (sForN fi gt fb) := by
  obtain ⟨t, p1, r1⟩ := hi.ex
  obtain ⟨u, p2, r2⟩ := hb.ex
  refine ⟨_, ps_for hp hc p1 hg.pg p2 hs, fun σ H ρ δ θ o E hs hθ e q => ?_⟩
  unfold sForN at e
  split at e
  · rename_i n ds0 ds θ1 e1
    refine r1 σ H ρ δ θ n ds0 ds θ1 _ hs hθ e1 fun J H1 ρ1 x1 s1 wk => ?_
    refine ⟨fun i m σ' H' => m = ds.length - i ∧ i ≤ ds.length ∧ ∃ ρ' δ' θ', Ext ρ1 H1 ρ' H' ∧ Sl X.prog X.w X.K ρ' H' σ' δ' ∧ StR X.prog X.w X.K ρ' H' θ' ∧ forN n ds0 gt fb (ds.drop i) δ' θ' = some o,
      ⟨ds.length, by simp, Nat.zero_le _, ρ1, δ, θ1, Ext.refl _ _, hs.ext x1, s1, by simpa using e⟩, ?_⟩
    rintro i m σ2 H2 ⟨rfl, hi, ρ2, δ2, θ2, x2, l2, s2, w2⟩
    have hcell : θ2[n]? = some (.lst ds0) := by
      by_cases hq : θ2[n]? = some (.lst ds0)
      · exact hq
      · cases hd : ds.drop i with
        | nil => rw [hd] at w2; unfold forN at w2; rw [if_neg hq] at w2; cases w2
        | cons d r => rw [hd] at w2; unfold forN at w2; rw [if_neg hq] at w2; cases w2
    obtain ⟨wk1, wk2⟩ := wk ρ2 H2 θ2 i x2 s2 hcell
    by_cases hlt : i < ds.length
    · have hd : ds[i]? = some ds[i] := List.getElem?_eq_getElem hlt
      rw [List.drop_eq_getElem_cons hlt] at w2
      obtain ⟨go, y⟩ := wk2 _ hd
      refine .inr ⟨go, fun σ' H' => ∃ ρ' δ' θ', Ext ρ1 H1 ρ' H' ∧ Sl X.prog X.w X.K ρ' H' σ' δ' ∧ StR X.prog X.w X.K ρ' H' θ' ∧ forN n ds0 gt fb (ds.drop (i + 1)) δ' θ' = some o,
        fun σ' H' h => ⟨ds.length - (i + 1), by omega, rfl, hlt, h⟩, fun v H' hy => ?_⟩
      obtain ⟨x3, s3, k3⟩ := y v H' hy
      unfold forN at w2
      rw [if_pos hcell] at w2
      split at w2
      · rename_i δ4 θ4 e4
        refine hg.rg v _ σ2 H' ρ2 δ2 θ2 δ4 θ4 _ (l2.ext x3) s3 k3 e4 fun σ4 H4 ρ4 x4 l4 s4 => ?_
        have x14 := (x2.trans x3).trans x4
        cases e5 : fb δ4 θ4 with
        | none => rw [e5] at w2; cases w2
        | some r =>
          rw [e5] at w2
          refine r2 σ4 H4 ρ4 δ4 θ4 r _ l4 s4 e5 ?_
          cases r with
          | nx δ5 θ5 => exact fun σ' H' ρ' x5 l5 s5 => ⟨ρ', δ5, θ5, x14.trans x5, l5, s5, w2⟩
          | ct δ5 θ5 => exact fun σ' H' ρ' x5 l5 s5 => ⟨ρ', δ5, θ5, x14.trans x5, l5, s5, w2⟩
          | bk δ5 θ5 => cases w2; exact fun σ' H' ρ' x5 l5 s5 => q σ' H' ρ' (x1.trans (x14.trans x5)) l5 s5
          | ret d θ5 => cases w2; exact fun v H' ρ' x5 s5 k5 => q v H' ρ' (x1.trans (x14.trans x5)) s5 k5
          | ex C δ5 θ5 => cases w2; exact fun σ' H' ρ' x5 l5 s5 => q σ' H' ρ' (x1.trans (x14.trans x5)) l5 s5
      · cases w2
    · have e : i = ds.length := by omega
      subst e
      rw [List.drop_length] at w2
      unfold forN at w2
      rw [if_pos hcell] at w2
      cases w2
      exact .inl ⟨wk1 rfl, q σ2 H2 ρ2 (x1.trans x2) l2 s2⟩
  · cases e
/-- x in a written list -/
def iSeqN (fa : F) : FAN := fun δ θ => match fa δ θ with
  | some (.ref n, θ1) => match θ1[n]? with
    | some (.lst ds) => some (n, ds, ds, θ1)
    | _ => none
  | _ => none
def iEnumN (fs : FA) : FAN := fun δ θ => match fs δ θ with
  | some ([.ref n], θ1) => match θ1[n]? with
    | some (.lst ds) => some (n, ds, enumD ds, θ1)
    | _ => none
  | _ => none
theorem walkN_list {P w K} {ρ0 : List Addr} {H0 : Hp} {a : Addr} {n : Nat} {ds : List D} (h : ρ0[n]? = some a) : WalkN P w K (Itl K a) n ds ρ0 H0 ds := by
  intro ρ H θ i x s hc
  obtain ⟨m, rfl, _⟩ := x.more
  have h2 : (ρ0 ++ m)[n]? = some a := by rw [List.getElem?_append_left (List.getElem?_eq_some_iff.mp h).1]; exact h
  obtain ⟨vs, k1, k2⟩ := s.at_ n a _ h2 hc
  have k3 := SqL.of (K := K) k1
  refine ⟨fun e => ⟨vs, k3, by rw [k2.length]; omega⟩, fun d hd => ?_⟩
  obtain ⟨v, hv, rv⟩ := k2.get hd
  refine ⟨⟨vs, v, k3, hv⟩, fun y H' hy => ?_⟩
  obtain ⟨rfl, hy⟩ := hy
  have := hy vs k3
  rw [hv] at this
  cases this
  exact ⟨Ext.refl _ _, s, rv⟩
theorem walkN_enum {P w K} {ρ0 : List Addr} {H0 : Hp} {a : Addr} {n : Nat} {ds : List D} (h : ρ0[n]? = some a) : WalkN P w K (Ite K a) n ds ρ0 H0 (enumD ds) := by
  intro ρ H θ i x s hc
  obtain ⟨m, rfl, _⟩ := x.more
  have h2 : (ρ0 ++ m)[n]? = some a := by rw [List.getElem?_append_left (List.getElem?_eq_some_iff.mp h).1]; exact h
  obtain ⟨vs, k1, k2⟩ := s.at_ n a _ h2 hc
  have k3 := SqL.of (K := K) k1
  refine ⟨fun e => ⟨vs, k3, by rw [k2.length, e]; simp [enumD]⟩, fun d hd => ?_⟩
  unfold enumD at hd
  rw [List.getElem?_map, List.getElem?_zipIdx] at hd
  cases q : ds[i]? with
  | none => rw [q] at hd; cases hd
  | some d0 =>
    rw [q] at hd
    cases hd
    obtain ⟨v, hv, rv⟩ := k2.get q
    refine ⟨⟨vs, v, k3, hv⟩, fun y H' hy => ?_⟩
    obtain ⟨T, z, rfl, hT, rfl, hz⟩ := hy
    have := hz vs k3
    rw [hv] at this
    cases this
    refine ⟨Ext.new hT, s.new hT, .tup (SqT.of upd_same) ?_⟩
    have e0 : (0 + i : Nat) = i := Nat.zero_add i
    simp only [e0]
    exact .cons (.int _) (.cons (rv.ext (Ext.new hT)) .nil)
theorem din_seq (h : DE X e fa) : DIN X tg e (iSeqN fa) := by
  obtain ⟨t, h1, h2⟩ := h.ex
  refine ⟨_, pi_sq h1, fun σ H ρ δ θ n ds0 ds θ' R hs hθ e q => ?_⟩
  unfold iSeqN at e
  split at e
  · rename_i n1 θ1 e1
    split at e
    · rename_i ds1 hc
      cases e
      refine h2 σ H ρ δ θ _ _ _ hs hθ e1 fun v H1 ρ1 x1 s1 r1 => ?_
      cases r1 with
      | ref hn =>
        obtain ⟨vs, k1, k2⟩ := s1.at_ _ _ _ hn hc
        exact ⟨_, rfl, .inl ⟨⟨_, SqL.of k1⟩, q _ H1 ρ1 x1 s1 (walkN_list hn)⟩⟩
    · cases e
  · cases e
theorem din_enum {elts : List Expr} {kk : Nat} (hg : Gl X "enumerate") (hm : X.mg "enumerate" = none) (ha : DA X [e] fs) (hs : starEach [e] X.env = [(false, eval e X.env)] := by rfl) :
    DIN X (.Tuple elts kk tpos) (.Call (.Name "enumerate" p) [e] [] pos) (iEnumN fs) := by
  obtain ⟨t, h1, h2⟩ := ha.ex
  refine ⟨_, pi_enum hg hm h1 hs, fun σ H ρ δ θ n ds0 ds θ' R hs hθ e q => ?_⟩
  unfold iEnumN at e
  split at e
  · rename_i n1 θ1 e1
    split at e
    · rename_i ds1 hc
      cases e
      refine h2 σ H ρ δ θ _ _ _ hs hθ e1 fun vs H1 ρ1 x1 s1 r1 => ?_
      cases r1 with
      | cons r rs =>
        cases rs
        cases r with
        | ref hn =>
          obtain ⟨vs, k1, k2⟩ := s1.at_ _ _ _ hn hc
          exact ⟨_, _, rfl, SqL.of k1, q _ H1 ρ1 x1 s1 (walkN_enum hn)⟩
    · cases e
  · cases e
/-- xs + ys, written lists -/
def fCatLM (fa fb : F) : F := fun δ θ => match fa δ θ with
  | some (.ref n, θ1) => match fb δ θ1 with
    | some (.ref m, θ2) => match θ2[n]?, θ2[m]? with
      | some (.lst xs), some (.lst ys) => if xs.length + ys.length ≤ 100000 then some (.ref θ2.length, θ2 ++ [.lst (xs ++ ys)]) else none
      | _, _ => none
    | _ => none
  | _ => none
theorem de_catLM {a b : Expr} {fa fb : F} {pos : Pos} (ha : DE X a fa) (hb : DE X b fb) : DE X (.BinOp a .Add b pos) (fCatLM fa fb) := by
  obtain ⟨t, h3, h4⟩ := ha.ex
  obtain ⟨u, h5, h6⟩ := hb.ex
  refine ⟨_, pe_op op_cat h3 h5, fun σ H ρ δ θ d θ' Q hs hθ h q => ?_⟩
  unfold fCatLM at h
  split at h
  · rename_i n θ1 e1
    split at h
    · rename_i m θ2 e2
      split at h
      · rename_i xs ys c1 c2
        split at h
        · rename_i hl
          cases h
          refine h4 σ H ρ δ θ _ _ _ hs hθ e1 fun v H1 ρ1 x1 s1 k1 => ?_
          refine h6 σ H1 ρ1 δ θ1 _ _ _ (hs.ext x1) s1 e2 fun w' H2 ρ2 x2 s2 k2 => ?_
          have k1' := k1.ext x2
          cases k1' with
          | ref hn =>
            cases k2 with
            | ref hm =>
              obtain ⟨vs, a1, a2⟩ := s2.at_ _ _ _ hn c1
              obtain ⟨ws, b1, b2⟩ := s2.at_ _ _ _ hm c2
              refine ⟨_, _, vs, ws, rfl, rfl, a1, b1, by rw [a2.length, b2.length]; exact szl hl, fun p hp => ?_⟩
              obtain ⟨y1, y2, y3⟩ := upd_ref (o := .lst (vs ++ ws)) (c := .lst (xs ++ ys)) s2 hp fun x3 => ⟨_, upd_same, (a2.ext x3).append (b2.ext x3)⟩
              exact q _ _ _ ((x1.trans x2).trans y1) y2 y3
        · cases h
      · cases h
    · cases h
  · cases h
end
end DL

set_option Elab.async false
set_option linter.all false
set_option maxRecDepth 100000
set_option maxHeartbeats 4000000
/-! DL17: the sum of a list of ints. -/
namespace DL
open PySem L2 PySem.Spec PyProof.Rows
section
variable {X : Cx}
def gSum : GC := fun θ ds => match ds with
  | [d] => match lstOf θ d with
    | some es => match intsD es with
      | some ns => some (.int ns.sum)
      | none => none
    | none => none
  | _ => none
theorem cd_sum (hc : X.calm = true) : CallD X (.builtin "sum") gSum := ⟨_, cr_sum hc, fun ρ H θ vs ds d Q s r h q => by
  unfold gSum at h
  split at h
  · split at h
    · rename_i es e
      split at h
      · rename_i ns hns
        cases h
        cases r with
        | cons r rs =>
          cases rs
          obtain ⟨a, us, rfl, b0, b1⟩ := lst_of s r e
          have hu := intsD_is hns b1
          subst hu
          exact ⟨a, ns, rfl, b0, q _ H (Ext.refl _ _) s (.int _)⟩
      · cases h
    · cases h
  · cases h⟩
end
end DL

set_option Elab.async false
set_option linter.all false
set_option maxRecDepth 100000
set_option maxHeartbeats 4000000
/-! DL18: comprehensions over a written list; isinstance(x, T) of built-in types. -/
namespace DL
open PySem L2 PySem.Spec PyProof.Rows
/-- the turns, while cell m is the list ds0 -/
noncomputable def lcFN (m : Nat) (ds0 : List D) (gt : FG) (tt : FT) (fe : F) (δw : Dv) (n : Nat) : List D → Sto → Option Sto
  | [], θ => open Classical in if θ[m]? = some (.lst ds0) then some θ else none
  | d :: ds, θ => open Classical in if θ[m]? = some (.lst ds0) then (match gt d δw θ with
    | some (δ1, θ1) => match tt δ1 θ1 with
      | some (true, θ2) => match fe δ1 θ2 with
        | some (y, θ3) => match θ3[n]? with
          | some (.lst acc) => if acc.length < 100000 then lcFN m ds0 gt tt fe δw n ds (θ3.set n (.lst (acc ++ [y]))) else none
          | _ => none
        | none => none
      | some (false, θ2) => lcFN m ds0 gt tt fe δw n ds θ2
      | none => none
    | none => none) else none
noncomputable def fLCMN (fi : FAN) (gt : FG) (tt : FT) (fe : F) (vs : List Nat) : F := fun δ θ => match fi δ θ with
  | some (m, ds0, ds, θ1) => match lcFN m ds0 gt tt fe (wipeD δ vs) θ1.length ds (θ1 ++ [.lst []]) with
    | some θ2 => some (.ref θ1.length, θ2)
    | none => none
  | none => none
section
variable {X : Cx} {elt tg iter : Expr} {ifs : List Expr} {scope : Scope} {pos : Pos} {fi : FAN} {g : TG} {gt : FG} {tt : FT} {fe : F}
theorem re_lcN {P w K} {own : List (Str × Nat)} {wi : TI} (h1 : RIN P w K wi fi) (h2 : RG P w K g gt) (hw : WipesOk g (own.map (·.2))) : RE P w K (tLc wi g (ttOf P w K tt) (tOf P w K fe) (own.map (·.2))) (fLCMN fi gt tt fe (own.map (·.2))) := by
  intro σ H ρ δ θ d θ' Q hs hθ e q
  unfold fLCMN at e
  split at e
  · rename_i nn ds0 ds θ1 e1
    split at e
    · rename_i θ2 e2
      cases e
      refine h1 σ H ρ δ θ nn ds0 ds θ1 _ hs hθ e1 fun J H1 ρ1 x1 s1 wk => ?_
      intro D hD
      obtain ⟨y1, y2, y3⟩ := upd_ref (o := .lst []) (c := .lst []) s1 hD fun _ => ⟨[], upd_same, .nil⟩
      have hsw := (hs.ext x1).wipe (own.map (·.2))
      refine ⟨fun i m H2 => m = ds.length - i ∧ i ≤ ds.length ∧ ∃ ρ2 θ3, Ext (ρ1 ++ [D]) (upd H1 D (.lst [])) ρ2 H2 ∧ StR P w K ρ2 H2 θ3 ∧ lcFN nn ds0 gt tt fe (wipeD δ (own.map (·.2))) θ1.length (ds.drop i) θ3 = some θ',
        ⟨ds.length, by simp, Nat.zero_le _, _, _, Ext.refl _ _, y2, by simpa using e2⟩, ?_⟩
      rintro i m H2 ⟨rfl, hi, ρ2, θ3, x2, s2, w2⟩
      have x02 := y1.trans x2
      have hcell : θ3[nn]? = some (.lst ds0) := by
        by_cases hq : θ3[nn]? = some (.lst ds0)
        · exact hq
        · cases hd : ds.drop i with
          | nil => rw [hd] at w2; unfold lcFN at w2; rw [if_neg hq] at w2; cases w2
          | cons d r => rw [hd] at w2; unfold lcFN at w2; rw [if_neg hq] at w2; cases w2
      obtain ⟨wk1, wk2⟩ := wk ρ2 H2 θ3 i x02 s2 hcell
      have hDn : ∀ {ρ3 : List Addr} {H3 : Hp}, Ext (ρ1 ++ [D]) (upd H1 D (.lst [])) ρ3 H3 → ρ3[θ1.length]? = some D := fun {ρ3 H3} x3 => by
        obtain ⟨m3, rfl, _⟩ := x3.more
        have hl : θ1.length = ρ1.length := s1.len.symm
        rw [List.getElem?_append_left (by simp [hl]), hl, List.getElem?_append_right (Nat.le_refl _)]
        simp
      by_cases hlt : i < ds.length
      · have hd : ds[i]? = some ds[i] := List.getElem?_eq_getElem hlt
        rw [List.drop_eq_getElem_cons hlt] at w2
        obtain ⟨go, y⟩ := wk2 _ hd
        refine .inr ⟨go, fun H' => ∃ ρ' θ', Ext (ρ1 ++ [D]) (upd H1 D (.lst [])) ρ' H' ∧ StR P w K ρ' H' θ' ∧ lcFN nn ds0 gt tt fe (wipeD δ (own.map (·.2))) θ1.length (ds.drop (i + 1)) θ' = some _,
          fun H' h => ⟨ds.length - (i + 1), by omega, rfl, hlt, h⟩, fun v H' hy => ?_⟩
        obtain ⟨x3, s3, k3⟩ := y v H' hy
        unfold lcFN at w2
        rw [if_pos hcell] at w2
        split at w2
        · rename_i δ4 θ4 e4
          refine hw v σ H' _ (h2 v _ _ H' ρ2 _ θ3 δ4 θ4 _ ((hsw.ext x02).ext x3) s3 k3 e4 fun σ4 H4 ρ4 x4 l4 s4 => ?_)
          have x24 := (x2.trans x3).trans x4
          split at w2
          · rename_i θ5 e5
            refine ⟨ρ4, δ4, θ4, true, θ5, l4, s4, e5, fun H5 ρ5 x5 s5 => ?_⟩
            refine iteT ?_
            split at w2
            · rename_i y6 θ6 e6
              refine ⟨ρ5, δ4, θ5, y6, θ6, l4.ext x5, s5, e6, fun v6 H6 ρ6 x6 s6 k6 => ?_⟩
              split at w2
              · rename_i acc hacc
                split at w2
                · rename_i hl
                  have x26 := (x24.trans x5).trans x6
                  obtain ⟨vs, a1, a2⟩ := s6.at_ θ1.length D _ (hDn x26) hacc
                  refine ⟨vs, a1, by rw [a2.length]; exact szl' (Nat.le_of_lt hl), ?_⟩
                  obtain ⟨z1, z2⟩ := s6.put (o := .lst (vs ++ [v6])) (c := .lst (acc ++ [y6])) (hDn x26) hacc fun x7 => ⟨_, upd_same, (a2.ext x7).append (.cons (k6.ext x7) .nil)⟩
                  exact ⟨ρ6, _, x26.trans z1, z2, w2⟩
                · cases w2
              · cases w2
            · cases w2
          · rename_i θ5 e5
            refine ⟨ρ4, δ4, θ4, false, θ5, l4, s4, e5, fun H5 ρ5 x5 s5 => ?_⟩
            refine iteF ?_
            exact ⟨ρ5, θ5, x24.trans x5, s5, w2⟩
          · cases w2
        · cases w2
      · have ei : i = ds.length := by omega
        subst ei
        rw [List.drop_length] at w2
        unfold lcFN at w2
        rw [if_pos hcell] at w2
        cases w2
        exact .inl ⟨wk1 rfl, q _ H2 ρ2 (x1.trans x02) s2 (.ref (hDn x2))⟩
    · cases e
  · cases e
theorem de_lcMN {own : List (Str × Nat)} (hN : X.N.Nodup) (hi : DIN X tg iter fi) (ok : BlkOk X.N X.env.scope scope own)
    (hg : ∀ (s : Shared) (H : Hp) (C : Addr) (cl : List (Str × Addr)) (fp : List Addr), PG (X.blk s H scope (compEnvC scope cl C X.env) fp) tg g) (hgr : RG X.prog X.w X.K g gt) (hw : WipesOk g (own.map (·.2)))
    (ht : ∀ (s : Shared) (H : Hp) (C : Addr) (cl : List (Str × Addr)) (fp : List Addr), DTs (X.blk s H scope (compEnvC scope cl C X.env) fp) ifs tt)
    (he : ∀ (s : Shared) (H : Hp) (C : Addr) (cl : List (Str × Addr)) (fp : List Addr), DE (X.blk s H scope (compEnvC scope cl C X.env) fp) elt fe) (hc : X.calm = true := by rfl) (hs : ∀ x, foldedSetIterable iter X.env x = pure x := by intro _; rfl) :
    DE X (.ListComp elt [⟨tg, iter, ifs, 0⟩] scope pos) (fLCMN fi gt tt fe (own.map (·.2))) := by
  obtain ⟨wi, p1, r1⟩ := hi.ex
  exact ⟨_, pe_lc hc hN p1 ok hg (fun s H C cl fp => (ht s H C cl fp).pt) (fun s H C cl fp => (he s H C cl fp).can) hs, re_lcN r1 hgr hw⟩
theorem ds_setLcMN {Wx : WX} {own : List (Str × Nat)} (i : Nat) {y : Str} {py spos : Pos} (hN : X.N.Nodup) (hy : X.N[i]? = some y) (hyl : X.env.scope.names.lookup y = some .local)
    (hsw : swapsWith (.ListComp elt [⟨tg, iter, ifs, 0⟩] scope pos) (some (.Name y py)) spos.line X.env = pure true) (hi : DIN X tg iter fi) (ok : BlkOk X.N X.env.scope scope own)
    (hg : ∀ (s : Shared) (H : Hp) (C : Addr) (cl : List (Str × Addr)) (fp : List Addr), PG (X.blk s H scope (compEnvC scope cl C X.env) fp) tg g) (hgr : RG X.prog X.w X.K g gt) (hw : WipesOk g (own.map (·.2)))
    (ht : ∀ (s : Shared) (H : Hp) (C : Addr) (cl : List (Str × Addr)) (fp : List Addr), DTs (X.blk s H scope (compEnvC scope cl C X.env) fp) ifs tt)
    (he : ∀ (s : Shared) (H : Hp) (C : Addr) (cl : List (Str × Addr)) (fp : List Addr), DE (X.blk s H scope (compEnvC scope cl C X.env) fp) elt fe) (hc : X.calm = true := by rfl) (hs : ∀ x, foldedSetIterable iter X.env x = pure x := by intro _; rfl) :
    DS X Wx (.Assign [.Name y py] (.ListComp elt [⟨tg, iter, ifs, 0⟩] scope pos) spos) (sAsg (fLCMN fi gt tt fe (own.map (·.2))) (gNm i)) := by
  obtain ⟨wi, p1, r1⟩ := hi.ex
  exact ⟨_, ps_setLc hc hN hy hyl hsw p1 ok hg (fun s H C cl fp => (ht s H C cl fp).pt) (fun s H C cl fp => (he s H C cl fp).can) hs, rs_asg (re_lcN r1 hgr hw) (rg_name i)⟩
end
/-! isinstance(x, T) -/
def tyName : D → Option String
  | .non => some "NoneType"
  | .bl _ => some "bool"
  | .int _ => some "int"
  | .str _ => some "str"
  | .tup _ => some "tuple"
  | _ => none
def fIsi (T : String) (f : F) : F := fun δ θ => match f δ θ with
  | some (d, θ1) => match tyName d with
    | some a => match kitB a T with
      | some b => some (.bl b, θ1)
      | none => none
    | none => none
  | none => none
theorem ty_of {P w K ρ H} {v : V} {d : D} {a : String} (r : Rep P w K ρ H v d) (h : tyName d = some a) : TyX K H v (.type a) := by
  cases r with
  | non => cases h; exact .base .non
  | bl b => cases h; exact .base (.bl b)
  | int i => cases h; exact .base (.int i)
  | str s => cases h; exact .base (.str s)
  | tup h1 h2 =>
    cases h
    rcases h1 with (h1 | ⟨o, h1⟩) | ⟨o, its, n, h1, h2, _⟩
    · exact .base (.tup h1)
    · exact .fTuple h1
    · exact .kTuple h1 h2
  | _ => cases h
theorem de_isi {X : Cx} {e : Expr} {x : Str} {f : F} {T : String} {p2 p3 pos : Pos} (he : DE X e f) (hg : Gl X "isinstance") (hm : X.mg "isinstance" = none) (hgT : Gl X x) (hmT : X.mg x = none) (hbT : bootBuiltins x = some (.type T))
    (hnT : x ≠ "__name__" := by decide) (hdT : (x == ("__debug__" : Str)) = false := by decide)
    (hs : starEach [e, (.Name x p2)] X.env = (false, eval e X.env) :: starEach [(.Name x p2)] X.env := by rfl) (hs2 : starEach [(.Name x p2)] X.env = (false, eval (.Name x p2) X.env) :: starEach [] X.env := by rfl) (hpl : (backTo pos (starEach [(.Name x p2)] X.env)).any (·.1) = false := by rfl) :
    DE X (.Call (.Name "isinstance" p3) [e, .Name x p2] [] pos) (fIsi T f) := by
  obtain ⟨t, p1, r1⟩ := he.ex
  refine ⟨_, pe_callB call_isi hg hm (by decide +kernel) (pa_cons p1 (pa_cons (pe_bltn (v := .ty T) hgT hmT hbT rfl hnT hdT) pa_nil hs2) hs) (by decide) (by decide) hs hpl, fun σ H ρ δ θ d θ' Q hs hθ h q => ?_⟩
  unfold fIsi at h
  split at h
  · rename_i d1 θ1 e1
    split at h
    · rename_i a ea
      split at h
      · rename_i b eb
        cases h
        refine r1 σ H ρ δ θ _ _ _ hs hθ e1 fun v H1 ρ1 x1 s1 k1 => ?_
        exact ⟨v, .ty T, _, _, b, rfl, .ty T, ty_of k1 ea, kit_ty eb, q _ H1 ρ1 x1 s1 (.bl b)⟩
      · cases h
    · cases h
  · cases h
end DL

set_option Elab.async false
set_option linter.all false
set_option maxRecDepth 100000
set_option maxHeartbeats 4000000
/-! DL19: is, is not of bools. -/
namespace DL
open PySem L2 PySem.Spec PyProof.Rows
def gIsB : G2 := fun _ x y => match x, y with
  | .bl a, .bl b => some (.bl (decide (a = b)))
  | _, _ => none
def gNotB : G2 := fun _ x y => match x, y with
  | .bl a, .bl b => some (.bl (!decide (a = b)))
  | _, _ => none
@[simp] theorem gIsB_ap {θ : Sto} (a b : Bool) : gIsB θ (.bl a) (.bl b) = some (.bl (decide (a = b))) := (rfl)
@[simp] theorem gNotB_ap {θ : Sto} (a b : Bool) : gNotB θ (.bl a) (.bl b) = some (.bl (!decide (a = b))) := (rfl)
section
variable {X : Cx}
theorem od_isB : OpD X (compareOp .Is) gIsB := ⟨_, op_isBl, fun ρ H θ x y dx dy d Q s rx ry h q => by
  unfold gIsB at h
  split at h
  · cases h
    cases rx; cases ry
    exact ⟨_, _, rfl, rfl, q _ H (Ext.refl _ _) s (.bl _)⟩
  · cases h⟩
theorem od_notB : OpD X (compareOp .IsNot) gNotB := ⟨_, op_notBl, fun ρ H θ x y dx dy d Q s rx ry h q => by
  unfold gNotB at h
  split at h
  · cases h
    cases rx; cases ry
    exact ⟨_, _, rfl, rfl, q _ H (Ext.refl _ _) s (.bl _)⟩
  · cases h⟩
end
end DL

set_option Elab.async false
set_option linter.all false
set_option maxRecDepth 100000
set_option maxHeartbeats 4000000
/-! DL20: repr of lists of data. What repr says hangs on no other repr being under way (the guards of Around); the kit's promise of a def does not tell the guards,
so here is one that does (FnG), for the few defs on the way from the law to a repr. -/
namespace DL
open PySem L2 PySem.Spec PyProof.Rows
/-- a def's promise where no repr is under way -/
structure FnG (P : Program) (w : World) (K : PySem.W.Frag) (mg : Str → Option Value) (base : Heap) (k : Nat) (f : Addr) (fd : FuncData) (ps : List Str) (m : M) : Prop where
  go : ∀ (A : Around), A.guards = some [] → ∀ (out : List Env) (s : Shared) (H : Hp) (as : Args) (us : List Value) (vs : List V) (Q : VK) (E : XK),
    Room k A → Env0 P w K mg base A out s H → BindsTo s fd as (ps.zip us) → Vals vs us → spD P w K ps.length m vs H Q E →
    codeAny (model P w) A (.call (.ref f) as) (CR CX0 out P w H s Q E) s
section
variable {P : Program} {w : World} {K : PySem.W.Frag} {mg : Str → Option Value} {base : Heap} {k : Nat} {f : Addr} {fd : FuncData} {x qual : Str} {st : Stmt} {N ps : List Str} {g : FS} {m : M}
/-- by its body -/
theorem fng_ok (Fn : Fun K x qual st f fd) (S : FnScope N ps (defScope st))
    (hb : ∀ (cdv : Value) (A : Around) (out : List Env) (s : Shared) (H : Hp) (E : XK), A.guards = some [] → Room k (A.deeper (envOfC qual (defScope st) s.heap.objs.size f cdv)) →
      DSs (cxOf CX0 P w K mg base N qual (defScope st) f cdv A out s H E).nox W0 (defBody st) g) : FnG P w K mg base (k + 1) f fd ps (bodyM N.length g) := by
  obtain ⟨oc, od, kV, doc, pm, an, cd, ct, osl, rfl, look, code⟩ := Fn.ex
  constructor
  intro A gA out s H as us vs Q E room e0 bnd vals pr
  obtain ⟨t, body, reads⟩ := (hb cd A out s H E gA (room.deeper _)).ex
  have nvs := pr.1
  have inK : K.In s.heap := e0.mod.kin.keeps fun q o z => (e0.bs q o z).1
  have free : s.heap.NoLimit := e0.mod.nolimit.keeps fun q o z => (e0.bs q o z).1
  have kinds : ∀ y ∈ ps.zip us, (defScope st).names.lookup y.1 = some .local ∨ ((defScope st).names.lookup y.1 = some .cell ∧ ((cellsFrom (s.heap.objs.size + 1) (defScope st).names []).lookup y.1).isSome = true) := by
    rintro ⟨n, v⟩ hy
    rcases S.par n (List.of_mem_zip hy).1 with loc | cel
    · exact Or.inl loc
    · exact Or.inr ⟨cel, PySem.W.cellsFrom_some _ _ _ (Or.inl cel)⟩
  refine codeAny_call_function room.depth (inK _ _ look) rfl S.co S.gen rfl (PySem.W.codeRec_of inK code) (bnd _ _ _ _ ?_)
  refine wpAny_newFunctionEnv_cells S.kind kinds fun env eenv s1 inCall => ?_
  subst eenv
  refine ⟨free.keeps inCall.toInCall.keep, codeAny_func ?_⟩
  have I : Inv (cxOf CX0 P w K mg base N qual (defScope st) f cd A out s H E) [] (start N vs) H s1 :=
    inv_start S room.hd e0 nvs vals inCall
  have want : t { nx := fun _ H' => Q .non H', rt := Q } (start N vs) H := by
    obtain ⟨_, ρ, ds, θ, d, θ', h1, h2, h3, h4⟩ := pr
    unfold bodyM at h3
    split at h3
    · rename_i e
      cases h3
      exact reads _ H ρ _ θ _ _ (Sl.start h1) h2 e fun v H' ρ' x s k => h4 v H' ρ' x s k
    · rename_i e
      cases h3
      exact reads _ H ρ _ θ _ _ (Sl.start h1) h2 e fun σ' H' ρ' x l s => h4 _ H' ρ' x s .non
    · cases h3
  refine wpAny_mono (body.nox.run [] s1 (start N vs) H _ I want) (fun fl s' ends => ?_) fun e s' ends => ends
  cases fl with
  | ret u =>
    obtain ⟨v, σ', H', J, rel, q⟩ := ends
    exact ⟨v, H', J.os, J.bare, J.base, J.hok, rel, q⟩
  | next =>
    obtain ⟨σ', H', J, q⟩ := ends
    exact ⟨V.non, H', J.os, J.bare, J.base, J.hok, rfl, q⟩
  | brk => exact (ends.choose_spec.choose_spec.2).elim
  | cont => exact (ends.choose_spec.choose_spec.2).elim
end
theorem FnG.cut {P : Program} {w : World} {K : PySem.W.Frag} {mg : Str → Option Value} {base : Heap} {k : Nat} {f : Addr} {fd : FuncData} {ps : List Str} {m : M} (F : FnG P w K mg base k f fd ps m) : FnG P w K mg base k f fd ps (mCut m) := by
  constructor
  rintro A gA out s H as us vs Q E room e0 bnd vals ⟨hl, ρ, ds, θ, d, θ', h1, h2, h3, h4⟩
  unfold mCut at h3
  obtain ⟨d1, θ1, e1⟩ := cutR_some h3
  rw [e1] at h3
  refine F.go A gA out s H as us vs Q E room e0 bnd vals ⟨hl, ρ, ds, θ, d1, θ1, h1, h2, e1, fun v H' ρ' x s r => ?_⟩
  obtain ⟨a, b, c⟩ := cut_ok h2 x s r h3
  exact h4 v H' ρ a b c
section
variable {X : Cx} {k : Nat} {f : Addr} {fd : FuncData} {ps : List Str} {m : M} {x : Str} {p pos : Pos} {e : Expr} {es : List Expr} {fs : FA} {n : Nat}
theorem de_callG (F : FnG X.prog X.w X.K X.mg X.base k f fd ps m) (gA : X.A.guards = some []) (hr : Room k X.A) (hg : Gl X x) (hm : X.mg x = some (.ref f)) (hk : PySem.W.keepIn X.K (.ref f) = true) (hb : Binds X.K fd ps []) (ha : DA X (e :: es) fs) (hn : ArN fs n) (hps : n = ps.length)
    (hdb : (x == ("__debug__" : Str)) = false := by decide) (he : starEach (e :: es) X.env = (false, eval e X.env) :: starEach es X.env := by rfl) (hpl : (backTo pos (starEach es X.env)).any (·.1) = false := by rfl) :
    DE X (.Call (.Name x p) (e :: es) [] pos) (fCall m fs) := by
  obtain ⟨t, args, rd⟩ := ha.ex
  refine ⟨tCall (spD X.prog X.w X.K ps.length m) [] E0 t, ⟨fun pins s σ H Q I h => ?_⟩, fun σ H ρ δ θ d θ' Q hs hθ e q => ?_⟩
  · refine wpAny_Call_Name_kw (ld_glob I hg hm ?_ hdb)
    refine PySem.W.callWith_K (h₀ := X.base) I.ok.mod.kin hk (thn (args.run pos pins s σ H _ I h) fun us s1 ⟨vs, H1, I1, rel, pr⟩ => ⟨I1.kIn, ?_⟩) he hpl
    have pr : spD X.prog X.w X.K ps.length m (vs ++ []) H1 Q E0 := pr
    rw [List.append_nil] at pr
    show wpAny _ _ (call (Value.ref f) us) _ _ _
    have two : (us ++ []).length = ps.length := by rw [List.append_nil, ← rel.length]; exact pr.1
    have bnd := hb s1 us I1.kIn two
    rw [List.append_nil] at bnd
    refine wpAny_call (codeAny_mono (F.go X.A gA X.stack s1 H1 ⟨us, []⟩ us vs Q E0 hr I1.env0 bnd rel pr) fun r s' hq => ?_)
    cases r with
    | error e => exact hq.elim
    | ok fl =>
      cases fl with
      | ret u => exact I1.after hq
      | next => exact hq.elim
      | brk => exact hq.elim
      | cont => exact hq.elim
  · refine re_call (m := m) (dds := []) rd (fun _ _ => .nil) (fun δ θ l θ' e => by rw [hn _ _ _ _ e, hps]; rfl) σ H ρ δ θ d θ' Q hs hθ ?_ q
    unfold fCallD
    simp only [List.append_nil]
    exact e
end
/-! repr -/
def gRepr : GC := fun θ ds => match ds with
  | [d] => match lstOf θ d with
    | some es => match toPys es with
      | some ps => if SeqAt.shaped (.list ps) = true ∧ PyData.showable (.list ps) = true ∧ (PyData.shown (.list ps)).length ≤ 100000 then some (.str (PyData.shown (.list ps))) else none
      | none => none
    | none => none
  | _ => none
def rRepL (K : PySem.W.Frag) : List V → Hp → VK → Prop := fun xs H Q => ∃ (a : Addr) (ds : List PyData), xs = [.ref a] ∧ Dp K H (.ref a) (.list ds) ∧ SeqAt.shaped (.list ds) = true ∧ PyData.showable (.list ds) = true ∧ (PyData.shown (.list ds)).length ≤ sizeLine ∧
  Q (.str (PyData.shown (.list ds))) H
section
variable {X : Cx}
theorem call_repL (gA : X.A.guards = some []) (hu : X.A.units + 65 < cLine) : CallR X (.builtin "repr") (rRepL X.K) := by
  intro pins s σ H xs us Q I r h
  obtain ⟨a, ds, rfl, dp, sh, so, sz, q⟩ := h
  obtain ⟨u, rfl, r1⟩ := vals1 r
  obtain ⟨bs, rd⟩ := Dp.reads I (.list ds) (.ref a) u dp r1
  obtain rfl : u = Value.ref a := r1
  have dd := SeqAt.depth_of_shaped sh
  refine repr_of_reads' rd so (PyData.noDict_hsm (PyData.hasDict_of_canLay _ (SeqAt.canLay_of_shaped sh))) gA (by omega) (fun _ _ z => z) (fun h' u tk keep => ?_) sz
  exact ⟨.str _, H, I.kept keep, ⟨_, rfl⟩, q⟩
theorem cd_repr (gA : X.A.guards = some []) (hu : X.A.units + 65 < cLine) : CallD X (.builtin "repr") gRepr := ⟨_, call_repL gA hu, fun ρ H θ vs ds d Q s r h q => by
  unfold gRepr at h
  split at h
  · split at h
    · rename_i es e1
      split at h
      · rename_i ps e2
        split at h
        · rename_i hc
          cases h
          cases r with
          | cons r rs =>
            cases rs
            obtain ⟨a, us, rfl, b0, b1⟩ := lst_of s r e1
            exact ⟨a, ps, rfl, .lst b0 (reps_dp _ b1 e2), hc.1, hc.2.1, szl hc.2.2, q _ H (Ext.refl _ _) s (.str _)⟩
        · cases h
      · cases h
    · cases h
  · cases h⟩
end
/-! == of two texts, whatever stands in them -/
def gEqS : G2 := fun _ x y => match x, y with
  | .str a, .str b => some (.bl (decide (a = b)))
  | _, _ => none
def gNeS : G2 := fun _ x y => match x, y with
  | .str a, .str b => some (.bl (!decide (a = b)))
  | _, _ => none
@[simp] theorem gEqS_ap {θ : Sto} (a b : Str) : gEqS θ (.str a) (.str b) = some (.bl (decide (a = b))) := (rfl)
@[simp] theorem gNeS_ap {θ : Sto} (a b : Str) : gNeS θ (.str a) (.str b) = some (.bl (!decide (a = b))) := (rfl)
theorem dec_str {a b : Str} : decide (V.str a = V.str b) = decide (a = b) := by
  rw [Bool.eq_iff_iff]
  simp
section
variable {X : Cx}
theorem od_eqS : OpD X (compareOp .Eq) gEqS := ⟨_, op_eq, fun ρ H θ x y dx dy d Q s rx ry h q => by
  unfold gEqS at h
  split at h
  · cases h
    cases rx; cases ry
    refine ⟨rfl, ?_⟩
    rw [dec_str]
    exact q _ H (Ext.refl _ _) s (.bl _)
  · cases h⟩
theorem od_neS : OpD X (compareOp .NotEq) gNeS := ⟨_, op_ne, fun ρ H θ x y dx dy d Q s rx ry h q => by
  unfold gNeS at h
  split at h
  · cases h
    cases rx; cases ry
    refine ⟨rfl, ?_⟩
    rw [dec_str]
    exact q _ H (Ext.refl _ _) s (.bl _)
  · cases h⟩
end
end DL

set_option Elab.async false
set_option linter.all false
set_option maxRecDepth 100000
set_option maxHeartbeats 4000000
/-! DL21: a law, by its promise where no repr is under way. -/
namespace DL
open PySem L2 PySem.Spec PyProof.Rows
section
variable {P : Program} {w : World} {K : PySem.W.Frag} {mg mb : Str → Option Value} {k : Nat} {fa a : Addr} {fd : FuncData} {x : Str} {m : M} {s₁ : Shared} {vs : List Value} {ns : List Int}
/-- it runs and says True -/
def Comes (P : Program) (w : World) (fa a : Addr) (s₁ : Shared) : Prop :=
  codeAny (model P w) callerA (.call (.ref fa) ⟨[.ref a], []⟩)
    (fun r s' => r = .ok (.ret (.bool true)) ∧ OldK s₁.heap s'.heap ∧ s'.os = s₁.os ∧ AllBare s'.gens) s₁
/-- what a law hands in is data -/
theorem law_args {H : Hp} (hS : SqL K H a (ns.map V.int)) (hq : ∃ θ', m [.lst (ns.map D.int)] [] = some (.bl true, θ')) : spD P w K 1 m [.ref a] H (fun v _ => v = .bl true) E0 := by
  obtain ⟨θ', e⟩ := hq
  refine ⟨rfl, [], [.lst (ns.map D.int)], [], .bl true, θ', .cons (.lst ?_ (reps_ints ns)) .nil, ⟨List.nodup_nil, rfl, fun n a c h => by simp at h⟩, e, fun v H' ρ' x s r => ?_⟩
  · rcases hS with (h | ⟨o, h⟩) | h
    · exact .inl ⟨h, by simp⟩
    · exact .inr (.inl ⟨o, h⟩)
    · exact .inr (.inr h)
  · cases r
    rfl
theorem law_callG (inK : K.In s₁.heap) (top : s₁.heap.Ns mainGlobals mg) (bn : s₁.heap.Ns builtinsNs mb) (bb : ∀ x : Str, x ≠ "__name__" → mb x = bootBuiltins x) (free : s₁.heap.NoLimit) (noGen : s₁.gens = #[])
    (obj : s₁.heap.get? a = some { cls := .type "list", data := .seq vs.toArray }) (scr : IntsAre vs ns) (few : ns.length ≤ sizeLine) (room : Room k callerA)
    (F : ∀ base : Heap, K.In base → base.Ns mainGlobals mg → FnG P w K mg base k fa fd [x] m) (bind1 : ∀ (s : Shared) (u : Value), BindsTo s fd ⟨[u], []⟩ [(x, u)])
    (sat : ∃ θ', m [.lst (ns.map D.int)] [] = some (.bl true, θ')) :
    Comes P w fa a s₁ := by
  have vals := vals_ints scr
  have lens := scr.length
  have main : ∀ H : Hp, Only H → SqL K H a (ns.map V.int) → HOk P w H s₁.heap → (∀ q, H q ≠ none → q = a) → (H a ≠ none → K.lookup a = none) →
      Comes P w fa a s₁ := by
    intro H only sq hok own own2
    have stays : ∀ {q : Addr} {o : Obj}, s₁.heap.get? q = some o → H q = none → (hidT s₁.heap H).get? q = some o := hidT_get
    have notA : ∀ {q : Addr} {o : Obj} {es : Array DictEntry} {ep : Nat}, s₁.heap.get? q = some o → o.data = .dict es ep → H q = none := by
      intro q o es ep g dd
      by_cases z : H q = none
      · exact z
      · have := own q z
        subst this
        rw [obj] at g
        cases g
        cases (show Data.seq vs.toArray _ = Data.dict es ep from dd)
    have spaces : ∀ {q : Addr} {mm : Str → Option Value}, s₁.heap.Ns q mm → (hidT s₁.heap H).Ns q mm := by
      rintro q mm ⟨o, es, ep, g, dd, rr⟩
      exact ⟨o, es, ep, stays g (notA g dd), dd, rr⟩
    have inB : K.In (hidT s₁.heap H) := by
      intro q o g
      refine stays (inK q o g) ?_
      by_cases z : H q = none
      · exact z
      · have := own q z
        subst this
        rw [own2 z] at g
        cases g
    obtain ⟨mc, lim1, lim2⟩ := free
    have md : Mod K mg (hidT s₁.heap H) := ⟨inB, spaces top, ⟨mb, spaces bn, bb⟩, ⟨mc, spaces lim1, lim2⟩⟩
    have e0 : Env0 P w K mg (hidT s₁.heap H) callerA [] s₁ H :=
      ⟨rfl, md, fun q o g => of_hidT g, Nat.le_of_eq (hidT_size _ _), trivial, fun q hq => absurd (show q ∈ ([] : List Addr) from hq) (by simp), hok, .of_eq noGen⟩
    have ran := (F _ inB (spaces top)).go callerA rfl [] s₁ H ⟨[.ref a], []⟩ [.ref a] [.ref a] _ E0 room e0 (bind1 s₁ (.ref a)) (.cons rfl .nil) (law_args sq sat)
    refine codeAny_mono ran fun r s' res => ?_
    cases r with
    | error e => exact res.elim
    | ok fl =>
      cases fl with
      | next => exact res.elim
      | brk => exact res.elim
      | cont => exact res.elim
      | ret u =>
        obtain ⟨v, H', os, bare, un, hok', rel, yes⟩ := res
        have yes' : v = .bl true := yes
        subst yes'
        obtain rfl : u = Value.bool true := rel
        refine ⟨rfl, OldK.of_keep fun q o g => ?_, os, bare⟩
        rcases hq : H q with _ | t
        · exact un.keep q o g hq (fun z => absurd (show q ∈ ([] : List Addr) from z) (by simp)) (by simp)
        · rcases only q with z | ⟨ob, xs, z⟩
          · rw [hq] at z; cases z
          · obtain ⟨g1, _⟩ := hok q _ z
            obtain ⟨g2, _⟩ := hok' q _ (un.frzs q ob _ z)
            rw [g] at g1; cases g1
            exact g2
  rcases hk : K.lookup a with _ | o
  · let Ha : Hp := fun q => if q = a then some (.frz { cls := .type "list", data := .seq vs.toArray } (.lst (ns.map V.int))) else none
    have at_a : Ha a = some (.frz { cls := .type "list", data := .seq vs.toArray } (.lst (ns.map V.int))) := if_pos rfl
    have off : ∀ {q : Addr}, q ≠ a → Ha q = none := fun h => if_neg h
    refine main Ha (fun q => ?_) (.inl (.inr ⟨_, at_a⟩)) (fun q u z => ?_) (fun q z => ?_) fun _ => hk
    · by_cases h : q = a
      · subst h; exact .inr ⟨_, _, at_a⟩
      · exact .inl (off h)
    · by_cases h : q = a
      · subst h
        rw [at_a] at z
        cases z
        exact ⟨obj, by rw [List.length_map]; exact few, vs, _, vals, obj⟩
      · rw [off h] at z; cases z
    · by_cases h : q = a
      · exact h
      · exact absurd (off h) z
  · have g := inK a o hk
    rw [obj] at g
    cases g
    exact main (fun _ => none) (fun _ => .inl rfl) (.inr ⟨_, vs.toArray, _, hk, rfl, rfl, rfl, by rw [List.size_toArray, lens]; exact few, by simpa using vals⟩) (fun q u z => nomatch z) (fun q z => absurd rfl z) fun z => absurd rfl z
end
theorem walk_ofG {l : PySem.W.OpenLaw} {n k : Nat} {q : Program} {loose : List Str} {XP : (Str → Option Value) → Heap → Prop} {YP : World → Heap → Prop} {d : DefRec} {K : Params → PySem.W.Frag} {x : Str}
    (hn : l.most = some n) (hn2 : n ≤ sizeLine) (hdf : d.params.defaults = []) (hr : Room k callerA) (hY : ∀ (w : World) (h : Heap), YP w h → (K w.params).In h)
    (F : ∀ (w : World) (mg : Str → Option Value) (fa : Addr) (h : Heap), (K w.params).In h → h.Ns mainGlobals mg → mg d.name = some (.ref fa) →
      ∃ (fd : FuncData) (m : M), (∀ (s : Shared) (u : Value), BindsTo s fd ⟨[u], []⟩ [(x, u)]) ∧
        (∀ base : Heap, (K w.params).In base → base.Ns mainGlobals mg → FnG l.prog w (K w.params) mg base k fa fd [x] m) ∧ ∀ ns : List Int, ns.length ≤ n → ∃ θ', m [.lst (ns.map D.int)] [] = some (.bl true, θ')) :
    PySem.W.WalkO q loose XP YP l.row.toRowW d [] (fun f vs => PySem.call f vs) := by
  refine Att.attach_call hn hdf fun w s₀ s₁ mg mb fa o pm cd doc a vs ns G Y ho hd hcd named obj scr few noGen => ?_
  have inK := hY w _ Y
  obtain ⟨fd, m, bnd, prom, sat⟩ := F w mg fa _ inK G.T.g named
  exact law_callG inK G.T.g G.T.b G.T.builtins G.T.nolimit noGen obj scr (Nat.le_trans few hn2) hr prom bnd (sat ns few)
end DL

set_option Elab.async false
set_option linter.all false
set_option maxRecDepth 100000
set_option maxHeartbeats 8000000
/-! the program's defs and their mirrors (printed) -/
namespace Pg
open PySem L2 DL PySem.Spec PyProof.Rows
def top (i : Nat) : Stmt := PySem.Challenge.pw_armwarrant_k71_unknown_arms_and_forks.main.body.getD i (.Pass ⟨0, 0, 0, 0⟩)

abbrev s__law_number : Stmt := (top 16)
abbrev N__law_number : List Str := [("_law_script" : Str), ("_law_k" : Str), ("_law_cell" : Str), ("_law_mixed" : Str), ("_law_again" : Str)]
abbrev P__law_number : List Str := [("_law_script" : Str), ("_law_k" : Str)]
theorem sc__law_number : FnScope N__law_number P__law_number (defScope s__law_number) := ⟨rfl, rfl, rfl, by decide +kernel, rfl, by decide +kernel, by decide +kernel⟩
abbrev s__law_digits : Stmt := (top 17)
abbrev N__law_digits : List Str := [("_law_script" : Str), ("_law_first" : Str), ("_law_count" : Str), ("_law_number_here" : Str), ("_law_k" : Str)]
abbrev P__law_digits : List Str := [("_law_script" : Str), ("_law_first" : Str), ("_law_count" : Str)]
theorem sc__law_digits : FnScope N__law_digits P__law_digits (defScope s__law_digits) := ⟨rfl, rfl, rfl, by decide +kernel, rfl, by decide +kernel, by decide +kernel⟩
abbrev s__law_digit : Stmt := (top 18)
abbrev N__law_digit : List Str := [("_law_digits_here" : Str), ("_law_many" : Str), ("_law_value" : Str)]
abbrev P__law_digit : List Str := [("_law_digits_here" : Str), ("_law_many" : Str)]
theorem sc__law_digit : FnScope N__law_digit P__law_digit (defScope s__law_digit) := ⟨rfl, rfl, rfl, by decide +kernel, rfl, by decide +kernel, by decide +kernel⟩
abbrev s__law_place : Stmt := (top 20)
abbrev N__law_place : List Str := [("_law_digits_here" : Str), ("_law_point" : Str), ("_law_held" : Str)]
abbrev P__law_place : List Str := [("_law_digits_here" : Str)]
theorem sc__law_place : FnScope N__law_place P__law_place (defScope s__law_place) := ⟨rfl, rfl, rfl, by decide +kernel, rfl, by decide +kernel, by decide +kernel⟩
abbrev s__law_step : Stmt := (top 19)
abbrev N__law_step : List Str := [("_law_digits_here" : Str), ("_law_index" : Str), ("_law_size" : Str), ("_law_signals" : Str), ("_law_kind" : Str), ("_law_ahead" : Str), ("_law_signal" : Str)]
abbrev P__law_step : List Str := [("_law_digits_here" : Str), ("_law_index" : Str), ("_law_size" : Str), ("_law_signals" : Str)]
theorem sc__law_step : FnScope N__law_step P__law_step (defScope s__law_step) := ⟨rfl, rfl, rfl, by decide +kernel, rfl, by decide +kernel, by decide +kernel⟩
abbrev s__law_plan : Stmt := (top 21)
abbrev N__law_plan : List Str := [("_law_digits_here" : Str), ("_law_arms" : Str), ("_law_most" : Str), ("_law_signals" : Str), ("_law_flows" : Str), ("_law_arm" : Str), ("_law_size" : Str), ("_law_starts" : Str), ("_law_blocked" : Str), ("_law_k" : Str), ("_law_other" : Str), ("_law_place_here" : Str), ("_law_index" : Str)]
abbrev P__law_plan : List Str := [("_law_digits_here" : Str)]
theorem sc__law_plan : FnScope N__law_plan P__law_plan (defScope s__law_plan) := ⟨rfl, rfl, rfl, by decide +kernel, rfl, by decide +kernel, by decide +kernel⟩
abbrev s_landing : Stmt := (top 11)
abbrev N_landing : List Str := [("flow" : Str), ("index" : Str)]
abbrev P_landing : List Str := [("flow" : Str), ("index" : Str)]
theorem sc_landing : FnScope N_landing P_landing (defScope s_landing) := ⟨rfl, rfl, rfl, by decide +kernel, rfl, by decide +kernel, by decide +kernel⟩
abbrev s_Plan_first_state : Stmt := (inClass (top 14) 2)
abbrev N_Plan_first_state : List Str := [("self" : Str), ("spots" : Str), ("arm" : Str), ("flow" : Str)]
abbrev P_Plan_first_state : List Str := [("self" : Str)]
theorem sc_Plan_first_state : FnScope N_Plan_first_state P_Plan_first_state (defScope s_Plan_first_state) := ⟨rfl, rfl, rfl, by decide +kernel, rfl, by decide +kernel, by decide +kernel⟩
abbrev s_Search_key_of : Stmt := (inClass (top 7) 1)
abbrev N_Search_key_of : List Str := [("self" : Str), ("state" : Str)]
abbrev P_Search_key_of : List Str := [("self" : Str), ("state" : Str)]
theorem sc_Search_key_of : FnScope N_Search_key_of P_Search_key_of (defScope s_Search_key_of) := ⟨rfl, rfl, rfl, by decide +kernel, rfl, by decide +kernel, by decide +kernel⟩
abbrev s_Plan_step_of : Stmt := (inClass (top 14) 3)
abbrev N_Plan_step_of : List Str := [("self" : Str), ("state" : Str), ("arm" : Str), ("at" : Str)]
abbrev P_Plan_step_of : List Str := [("self" : Str), ("state" : Str), ("arm" : Str)]
theorem sc_Plan_step_of : FnScope N_Plan_step_of P_Plan_step_of (defScope s_Plan_step_of) := ⟨rfl, rfl, rfl, by decide +kernel, rfl, by decide +kernel, by decide +kernel⟩
abbrev s_Plan_wanted : Stmt := (inClass (top 14) 7)
abbrev N_Plan_wanted : List Str := [("self" : Str), ("state" : Str), ("arm" : Str), ("step" : Str), ("_" : Str), ("point" : Str), ("held" : Str)]
abbrev P_Plan_wanted : List Str := [("self" : Str), ("state" : Str), ("arm" : Str)]
theorem sc_Plan_wanted : FnScope N_Plan_wanted P_Plan_wanted (defScope s_Plan_wanted) := ⟨rfl, rfl, rfl, by decide +kernel, rfl, by decide +kernel, by decide +kernel⟩
abbrev s_Plan_is_clear : Stmt := (inClass (top 14) 1)
abbrev N_Plan_is_clear : List Str := [("self" : Str), ("arm" : Str), ("place" : Str), ("other" : Str), ("other_place" : Str)]
abbrev P_Plan_is_clear : List Str := [("self" : Str), ("arm" : Str), ("place" : Str), ("other" : Str), ("other_place" : Str)]
theorem sc_Plan_is_clear : FnScope N_Plan_is_clear P_Plan_is_clear (defScope s_Plan_is_clear) := ⟨rfl, rfl, rfl, by decide +kernel, rfl, by decide +kernel, by decide +kernel⟩
abbrev s_Plan_rest_of : Stmt := (inClass (top 14) 6)
abbrev N_Plan_rest_of : List Str := [("self" : Str), ("state" : Str), ("arm" : Str), ("_" : Str), ("point" : Str), ("held" : Str)]
abbrev P_Plan_rest_of : List Str := [("self" : Str), ("state" : Str), ("arm" : Str)]
theorem sc_Plan_rest_of : FnScope N_Plan_rest_of P_Plan_rest_of (defScope s_Plan_rest_of) := ⟨rfl, rfl, rfl, by decide +kernel, rfl, by decide +kernel, by decide +kernel⟩
abbrev s_Plan_hindered_by : Stmt := (inClass (top 14) 8)
abbrev N_Plan_hindered_by : List Str := [("self" : Str), ("state" : Str), ("arm" : Str), ("place" : Str), ("other" : Str)]
abbrev P_Plan_hindered_by : List Str := [("self" : Str), ("state" : Str), ("arm" : Str)]
theorem sc_Plan_hindered_by : FnScope N_Plan_hindered_by P_Plan_hindered_by (defScope s_Plan_hindered_by) := ⟨rfl, rfl, rfl, by decide +kernel, rfl, by decide +kernel, by decide +kernel⟩
abbrev s_Plan_can_step : Stmt := (inClass (top 14) 9)
abbrev N_Plan_can_step : List Str := [("self" : Str), ("state" : Str), ("arm" : Str), ("step" : Str)]
abbrev P_Plan_can_step : List Str := [("self" : Str), ("state" : Str), ("arm" : Str)]
theorem sc_Plan_can_step : FnScope N_Plan_can_step P_Plan_can_step (defScope s_Plan_can_step) := ⟨rfl, rfl, rfl, by decide +kernel, rfl, by decide +kernel, by decide +kernel⟩
abbrev s_Plan_stepped : Stmt := (inClass (top 14) 10)
abbrev N_Plan_stepped : List Str := [("self" : Str), ("state" : Str), ("arm" : Str), ("spot" : Str), ("signals" : Str), ("spots" : Str), ("at" : Str), ("point" : Str), ("held" : Str)]
abbrev P_Plan_stepped : List Str := [("self" : Str), ("state" : Str), ("arm" : Str), ("spot" : Str), ("signals" : Str)]
theorem sc_Plan_stepped : FnScope N_Plan_stepped P_Plan_stepped (defScope s_Plan_stepped) := ⟨rfl, rfl, rfl, by decide +kernel, rfl, by decide +kernel, by decide +kernel⟩
abbrev s_switched : Stmt := (top 13)
abbrev N_switched : List Str := [("signals" : Str), ("name" : Str), ("on" : Str), ("other" : Str)]
abbrev P_switched : List Str := [("signals" : Str), ("name" : Str), ("on" : Str)]
theorem sc_switched : FnScope N_switched P_switched (defScope s_switched) := ⟨rfl, rfl, rfl, by decide +kernel, rfl, by decide +kernel, by decide +kernel⟩
abbrev s_Plan_outcomes : Stmt := (inClass (top 14) 11)
abbrev N_Plan_outcomes : List Str := [("self" : Str), ("state" : Str), ("arm" : Str), ("step" : Str), ("at" : Str), ("point" : Str), ("held" : Str), ("signals" : Str), ("after" : Str)]
abbrev P_Plan_outcomes : List Str := [("self" : Str), ("state" : Str), ("arm" : Str)]
theorem sc_Plan_outcomes : FnScope N_Plan_outcomes P_Plan_outcomes (defScope s_Plan_outcomes) := ⟨rfl, rfl, rfl, by decide +kernel, rfl, by decide +kernel, by decide +kernel⟩
abbrev s_Search_open_outcome : Stmt := (inClass (top 7) 2)
abbrev N_Search_open_outcome : List Str := [("self" : Str), ("state" : Str), ("arm" : Str), ("outcome" : Str)]
abbrev P_Search_open_outcome : List Str := [("self" : Str), ("state" : Str)]
theorem sc_Search_open_outcome : FnScope N_Search_open_outcome P_Search_open_outcome (defScope s_Search_open_outcome) := ⟨rfl, rfl, rfl, by decide +kernel, rfl, by decide +kernel, by decide +kernel⟩
abbrev s_Plan_has_ended : Stmt := (inClass (top 14) 4)
abbrev N_Plan_has_ended : List Str := [("self" : Str), ("state" : Str), ("arm" : Str)]
abbrev P_Plan_has_ended : List Str := [("self" : Str), ("state" : Str), ("arm" : Str)]
theorem sc_Plan_has_ended : FnScope N_Plan_has_ended P_Plan_has_ended (defScope s_Plan_has_ended) := ⟨rfl, rfl, rfl, by decide +kernel, rfl, by decide +kernel, by decide +kernel⟩
abbrev s_Plan_all_ended : Stmt := (inClass (top 14) 5)
abbrev N_Plan_all_ended : List Str := [("self" : Str), ("state" : Str), ("arm" : Str)]
abbrev P_Plan_all_ended : List Str := [("self" : Str), ("state" : Str)]
theorem sc_Plan_all_ended : FnScope N_Plan_all_ended P_Plan_all_ended (defScope s_Plan_all_ended) := ⟨rfl, rfl, rfl, by decide +kernel, rfl, by decide +kernel, by decide +kernel⟩
abbrev s_Search_good_arm : Stmt := (inClass (top 7) 3)
abbrev N_Search_good_arm : List Str := [("self" : Str), ("state" : Str), ("arm" : Str), ("outcomes" : Str), ("outcome" : Str)]
abbrev P_Search_good_arm : List Str := [("self" : Str), ("state" : Str)]
theorem sc_Search_good_arm : FnScope N_Search_good_arm P_Search_good_arm (defScope s_Search_good_arm) := ⟨rfl, rfl, rfl, by decide +kernel, rfl, by decide +kernel, by decide +kernel⟩
abbrev s_Search_is_safe : Stmt := (inClass (top 7) 4)
abbrev N_Search_is_safe : List Str := [("self" : Str), ("state" : Str), ("stack" : Str), ("present" : Str), ("key" : Str), ("missing" : Str)]
abbrev P_Search_is_safe : List Str := [("self" : Str), ("state" : Str)]
theorem sc_Search_is_safe : FnScope N_Search_is_safe P_Search_is_safe (defScope s_Search_is_safe) := ⟨rfl, rfl, rfl, by decide +kernel, rfl, by decide +kernel, by decide +kernel⟩
abbrev s_Search___init__ : Stmt := (inClass (top 7) 0)
abbrev N_Search___init__ : List Str := [("self" : Str), ("plan" : Str)]
abbrev P_Search___init__ : List Str := [("self" : Str), ("plan" : Str)]
theorem sc_Search___init__ : FnScope N_Search___init__ P_Search___init__ (defScope s_Search___init__) := ⟨rfl, rfl, rfl, by decide +kernel, rfl, by decide +kernel, by decide +kernel⟩
abbrev s_Runner___init__ : Stmt := (inClass (top 9) 0)
abbrev N_Runner___init__ : List Str := [("self" : Str), ("plan" : Str), ("_" : Str)]
abbrev P_Runner___init__ : List Str := [("self" : Str), ("plan" : Str)]
theorem sc_Runner___init__ : FnScope N_Runner___init__ P_Runner___init__ (defScope s_Runner___init__) := ⟨rfl, rfl, rfl, by decide +kernel, rfl, by decide +kernel, by decide +kernel⟩
abbrev s__law_new : Stmt := (top 23)
abbrev N__law_new : List Str := [("_law_plan_here" : Str), ("_law_runner" : Str), ("e" : Str)]
abbrev P__law_new : List Str := [("_law_plan_here" : Str)]
theorem sc__law_new : FnScope N__law_new P__law_new (defScope s__law_new) := ⟨rfl, rfl, rfl, by decide +kernel, rfl, by decide +kernel, by decide +kernel⟩
abbrev s_Runner_is_over : Stmt := (inClass (top 9) 16)
abbrev N_Runner_is_over : List Str := [("self" : Str)]
abbrev P_Runner_is_over : List Str := [("self" : Str)]
theorem sc_Runner_is_over : FnScope N_Runner_is_over P_Runner_is_over (defScope s_Runner_is_over) := ⟨rfl, rfl, rfl, by decide +kernel, rfl, by decide +kernel, by decide +kernel⟩
abbrev s_Runner_state_ahead : Stmt := (inClass (top 9) 5)
abbrev N_Runner_state_ahead : List Str := [("self" : Str), ("state" : Str), ("arm" : Str), ("moving" : Str)]
abbrev P_Runner_state_ahead : List Str := [("self" : Str)]
theorem sc_Runner_state_ahead : FnScope N_Runner_state_ahead P_Runner_state_ahead (defScope s_Runner_state_ahead) := ⟨rfl, rfl, rfl, by decide +kernel, rfl, by decide +kernel, by decide +kernel⟩
abbrev s_Runner_check_arm : Stmt := (inClass (top 9) 1)
abbrev N_Runner_check_arm : List Str := [("self" : Str), ("arm" : Str)]
abbrev P_Runner_check_arm : List Str := [("self" : Str), ("arm" : Str)]
theorem sc_Runner_check_arm : FnScope N_Runner_check_arm P_Runner_check_arm (defScope s_Runner_check_arm) := ⟨rfl, rfl, rfl, by decide +kernel, rfl, by decide +kernel, by decide +kernel⟩
abbrev s_Runner_place_of : Stmt := (inClass (top 9) 2)
abbrev N_Runner_place_of : List Str := [("self" : Str), ("arm" : Str)]
abbrev P_Runner_place_of : List Str := [("self" : Str), ("arm" : Str)]
theorem sc_Runner_place_of : FnScope N_Runner_place_of P_Runner_place_of (defScope s_Runner_place_of) := ⟨rfl, rfl, rfl, by decide +kernel, rfl, by decide +kernel, by decide +kernel⟩
abbrev s_Runner_in_the_way : Stmt := (inClass (top 9) 6)
abbrev N_Runner_in_the_way : List Str := [("self" : Str), ("arm" : Str), ("place" : Str), ("other" : Str)]
abbrev P_Runner_in_the_way : List Str := [("self" : Str), ("arm" : Str)]
theorem sc_Runner_in_the_way : FnScope N_Runner_in_the_way P_Runner_in_the_way (defScope s_Runner_in_the_way) := ⟨rfl, rfl, rfl, by decide +kernel, rfl, by decide +kernel, by decide +kernel⟩
abbrev s_Runner_is_held_back : Stmt := (inClass (top 9) 7)
abbrev N_Runner_is_held_back : List Str := [("self" : Str), ("arm" : Str), ("search" : Str), ("outcome" : Str)]
abbrev P_Runner_is_held_back : List Str := [("self" : Str), ("arm" : Str)]
theorem sc_Runner_is_held_back : FnScope N_Runner_is_held_back P_Runner_is_held_back (defScope s_Runner_is_held_back) := ⟨rfl, rfl, rfl, by decide +kernel, rfl, by decide +kernel, by decide +kernel⟩
abbrev s_Runner_may : Stmt := (inClass (top 9) 8)
abbrev N_Runner_may : List Str := [("self" : Str), ("arm" : Str), ("step" : Str), ("other" : Str)]
abbrev P_Runner_may : List Str := [("self" : Str), ("arm" : Str)]
theorem sc_Runner_may : FnScope N_Runner_may P_Runner_may (defScope s_Runner_may) := ⟨rfl, rfl, rfl, by decide +kernel, rfl, by decide +kernel, by decide +kernel⟩
abbrev s_Runner_is_halted : Stmt := (inClass (top 9) 3)
abbrev N_Runner_is_halted : List Str := [("self" : Str), ("arm" : Str)]
abbrev P_Runner_is_halted : List Str := [("self" : Str), ("arm" : Str)]
theorem sc_Runner_is_halted : FnScope N_Runner_is_halted P_Runner_is_halted (defScope s_Runner_is_halted) := ⟨rfl, rfl, rfl, by decide +kernel, rfl, by decide +kernel, by decide +kernel⟩
abbrev s_Runner_is_under_way : Stmt := (inClass (top 9) 4)
abbrev N_Runner_is_under_way : List Str := [("self" : Str), ("arm" : Str)]
abbrev P_Runner_is_under_way : List Str := [("self" : Str), ("arm" : Str)]
theorem sc_Runner_is_under_way : FnScope N_Runner_is_under_way P_Runner_is_under_way (defScope s_Runner_is_under_way) := ⟨rfl, rfl, rfl, by decide +kernel, rfl, by decide +kernel, by decide +kernel⟩
abbrev s__law_told : Stmt := (top 24)
abbrev N__law_told : List Str := [("_law_runner" : Str), ("_law_arms" : Str), ("_law_told_here" : Str), ("_law_arm" : Str)]
abbrev P__law_told : List Str := [("_law_runner" : Str), ("_law_arms" : Str)]
theorem sc__law_told : FnScope N__law_told P__law_told (defScope s__law_told) := ⟨rfl, rfl, rfl, by decide +kernel, rfl, by decide +kernel, by decide +kernel⟩
abbrev s_Runner_fork : Stmt := (inClass (top 9) 17)
abbrev N_Runner_fork : List Str := [("self" : Str), ("other" : Str)]
abbrev P_Runner_fork : List Str := [("self" : Str)]
theorem sc_Runner_fork : FnScope N_Runner_fork P_Runner_fork (defScope s_Runner_fork) := ⟨rfl, rfl, rfl, by decide +kernel, rfl, by decide +kernel, by decide +kernel⟩
abbrev s_Plan___init__ : Stmt := (inClass (top 14) 0)
abbrev N_Plan___init__ : List Str := [("self" : Str), ("flows" : Str), ("starts" : Str), ("blocked" : Str), ("arm" : Str), ("place" : Str), ("other" : Str), ("other_place" : Str), ("flow" : Str)]
abbrev P_Plan___init__ : List Str := [("self" : Str), ("flows" : Str), ("starts" : Str), ("blocked" : Str)]
theorem sc_Plan___init__ : FnScope N_Plan___init__ P_Plan___init__ (defScope s_Plan___init__) := ⟨rfl, rfl, rfl, by decide +kernel, rfl, by decide +kernel, by decide +kernel⟩
abbrev s_Runner_check_told : Stmt := (inClass (top 9) 9)
abbrev N_Runner_check_told : List Str := [("self" : Str), ("arm" : Str), ("word" : Str), ("told" : Str), ("_" : Str)]
abbrev P_Runner_check_told : List Str := [("self" : Str), ("arm" : Str), ("word" : Str)]
theorem sc_Runner_check_told : FnScope N_Runner_check_told P_Runner_check_told (defScope s_Runner_check_told) := ⟨rfl, rfl, rfl, by decide +kernel, rfl, by decide +kernel, by decide +kernel⟩
abbrev s_Runner_begin : Stmt := (inClass (top 9) 10)
abbrev N_Runner_begin : List Str := [("self" : Str), ("arm" : Str)]
abbrev P_Runner_begin : List Str := [("self" : Str), ("arm" : Str)]
theorem sc_Runner_begin : FnScope N_Runner_begin P_Runner_begin (defScope s_Runner_begin) := ⟨rfl, rfl, rfl, by decide +kernel, rfl, by decide +kernel, by decide +kernel⟩
abbrev s_Runner_end : Stmt := (inClass (top 9) 11)
abbrev N_Runner_end : List Str := [("self" : Str), ("arm" : Str)]
abbrev P_Runner_end : List Str := [("self" : Str), ("arm" : Str)]
theorem sc_Runner_end : FnScope N_Runner_end P_Runner_end (defScope s_Runner_end) := ⟨rfl, rfl, rfl, by decide +kernel, rfl, by decide +kernel, by decide +kernel⟩
abbrev s_Runner_go_on : Stmt := (inClass (top 9) 12)
abbrev N_Runner_go_on : List Str := [("self" : Str), ("arm" : Str)]
abbrev P_Runner_go_on : List Str := [("self" : Str), ("arm" : Str)]
theorem sc_Runner_go_on : FnScope N_Runner_go_on P_Runner_go_on (defScope s_Runner_go_on) := ⟨rfl, rfl, rfl, by decide +kernel, rfl, by decide +kernel, by decide +kernel⟩
abbrev s_Runner_read_input : Stmt := (inClass (top 9) 13)
abbrev N_Runner_read_input : List Str := [("self" : Str), ("arm" : Str), ("on" : Str)]
abbrev P_Runner_read_input : List Str := [("self" : Str), ("arm" : Str), ("on" : Str)]
theorem sc_Runner_read_input : FnScope N_Runner_read_input P_Runner_read_input (defScope s_Runner_read_input) := ⟨rfl, rfl, rfl, by decide +kernel, rfl, by decide +kernel, by decide +kernel⟩
abbrev s_Runner_halt : Stmt := (inClass (top 9) 14)
abbrev N_Runner_halt : List Str := [("self" : Str), ("arm" : Str)]
abbrev P_Runner_halt : List Str := [("self" : Str), ("arm" : Str)]
theorem sc_Runner_halt : FnScope N_Runner_halt P_Runner_halt (defScope s_Runner_halt) := ⟨rfl, rfl, rfl, by decide +kernel, rfl, by decide +kernel, by decide +kernel⟩
abbrev s_Runner_free : Stmt := (inClass (top 9) 15)
abbrev N_Runner_free : List Str := [("self" : Str), ("arm" : Str)]
abbrev P_Runner_free : List Str := [("self" : Str), ("arm" : Str)]
theorem sc_Runner_free : FnScope N_Runner_free P_Runner_free (defScope s_Runner_free) := ⟨rfl, rfl, rfl, by decide +kernel, rfl, by decide +kernel, by decide +kernel⟩
abbrev s__law_event : Stmt := (top 22)
abbrev N__law_event : List Str := [("_law_runner" : Str), ("_law_kind" : Str), ("_law_arm" : Str), ("e" : Str)]
abbrev P__law_event : List Str := [("_law_runner" : Str), ("_law_kind" : Str), ("_law_arm" : Str)]
theorem sc__law_event : FnScope N__law_event P__law_event (defScope s__law_event) := ⟨rfl, rfl, rfl, by decide +kernel, rfl, by decide +kernel, by decide +kernel⟩
abbrev s__law_ask : Stmt := (top 25)
abbrev N__law_ask : List Str := [("_law_runner" : Str), ("_law_kind" : Str), ("_law_arm" : Str), ("e" : Str)]
abbrev P__law_ask : List Str := [("_law_runner" : Str), ("_law_kind" : Str), ("_law_arm" : Str)]
theorem sc__law_ask : FnScope N__law_ask P__law_ask (defScope s__law_ask) := ⟨rfl, rfl, rfl, by decide +kernel, rfl, by decide +kernel, by decide +kernel⟩
abbrev s_law : Stmt := (top 26)
abbrev N_law : List Str := [("_law_script" : Str), ("_law_digits_here" : Str), ("_law_flows" : Str), ("_law_starts" : Str), ("_law_blocked" : Str), ("_law_arms" : Str), ("_law_runner" : Str), ("_law_k" : Str), ("_law_before" : Str), ("_law_kind" : Str), ("_law_strange" : Str), ("_law_fork" : Str), ("_law_first" : Str), ("_law_second" : Str)]
abbrev P_law : List Str := [("_law_script" : Str)]
theorem sc_law : FnScope N_law P_law (defScope s_law) := ⟨rfl, rfl, rfl, by decide +kernel, rfl, by decide +kernel, by decide +kernel⟩
/-- where everything stands -/
structure Adr where
  c_Plan : Addr
  c_Runner : Addr
  c_Search : Addr
  c_ArmwarrantError : Addr
  c_NotNow : Addr
  c_NotSafe : Addr
  c_UnknownArm : Addr
  p_Runner_is_over : Addr
  a__law_number : Addr
  d__law_number : FuncData
  a__law_digits : Addr
  d__law_digits : FuncData
  a__law_digit : Addr
  d__law_digit : FuncData
  a__law_place : Addr
  d__law_place : FuncData
  a__law_step : Addr
  d__law_step : FuncData
  a__law_plan : Addr
  d__law_plan : FuncData
  a_landing : Addr
  d_landing : FuncData
  a_Plan_first_state : Addr
  d_Plan_first_state : FuncData
  a_Search_key_of : Addr
  d_Search_key_of : FuncData
  a_Plan_step_of : Addr
  d_Plan_step_of : FuncData
  a_Plan_wanted : Addr
  d_Plan_wanted : FuncData
  a_Plan_is_clear : Addr
  d_Plan_is_clear : FuncData
  a_Plan_rest_of : Addr
  d_Plan_rest_of : FuncData
  a_Plan_hindered_by : Addr
  d_Plan_hindered_by : FuncData
  a_Plan_can_step : Addr
  d_Plan_can_step : FuncData
  a_Plan_stepped : Addr
  d_Plan_stepped : FuncData
  a_switched : Addr
  d_switched : FuncData
  a_Plan_outcomes : Addr
  d_Plan_outcomes : FuncData
  a_Search_open_outcome : Addr
  d_Search_open_outcome : FuncData
  a_Plan_has_ended : Addr
  d_Plan_has_ended : FuncData
  a_Plan_all_ended : Addr
  d_Plan_all_ended : FuncData
  a_Search_good_arm : Addr
  d_Search_good_arm : FuncData
  a_Search_is_safe : Addr
  d_Search_is_safe : FuncData
  a_Search___init__ : Addr
  d_Search___init__ : FuncData
  a_Runner___init__ : Addr
  d_Runner___init__ : FuncData
  a__law_new : Addr
  d__law_new : FuncData
  a_Runner_is_over : Addr
  d_Runner_is_over : FuncData
  a_Runner_state_ahead : Addr
  d_Runner_state_ahead : FuncData
  a_Runner_check_arm : Addr
  d_Runner_check_arm : FuncData
  a_Runner_place_of : Addr
  d_Runner_place_of : FuncData
  a_Runner_in_the_way : Addr
  d_Runner_in_the_way : FuncData
  a_Runner_is_held_back : Addr
  d_Runner_is_held_back : FuncData
  a_Runner_may : Addr
  d_Runner_may : FuncData
  a_Runner_is_halted : Addr
  d_Runner_is_halted : FuncData
  a_Runner_is_under_way : Addr
  d_Runner_is_under_way : FuncData
  a__law_told : Addr
  d__law_told : FuncData
  a_Runner_fork : Addr
  d_Runner_fork : FuncData
  a_Plan___init__ : Addr
  d_Plan___init__ : FuncData
  a_Runner_check_told : Addr
  d_Runner_check_told : FuncData
  a_Runner_begin : Addr
  d_Runner_begin : FuncData
  a_Runner_end : Addr
  d_Runner_end : FuncData
  a_Runner_go_on : Addr
  d_Runner_go_on : FuncData
  a_Runner_read_input : Addr
  d_Runner_read_input : FuncData
  a_Runner_halt : Addr
  d_Runner_halt : FuncData
  a_Runner_free : Addr
  d_Runner_free : FuncData
  a__law_event : Addr
  d__law_event : FuncData
  a__law_ask : Addr
  d__law_ask : FuncData
  a_law : Addr
  d_law : FuncData
  t_Plan___init__ : Addr
/-- the default of Plan.__init__ -/
def Adr.df_Plan___init__ (_ : Adr) : List D := [.tup []]
/-- what the top has left -/
structure Facts (K : PySem.W.Frag) (mg : Str → Option Value) (A : Adr) : Prop where
  cl_Plan : Cls K A.c_Plan
  cl_Runner : Cls K A.c_Runner
  cl_Search : Cls K A.c_Search
  no_Plan_blocks : NoAttr K A.c_Plan "blocks"
  no_Plan_flows : NoAttr K A.c_Plan "flows"
  no_Plan_starts : NoAttr K A.c_Plan "starts"
  no_Runner_events : NoAttr K A.c_Runner "events"
  no_Runner_halted : NoAttr K A.c_Runner "halted"
  no_Runner_moving : NoAttr K A.c_Runner "moving"
  no_Runner_plan : NoAttr K A.c_Runner "plan"
  no_Runner_state : NoAttr K A.c_Runner "state"
  no_Search_known : NoAttr K A.c_Search "known"
  no_Search_plan : NoAttr K A.c_Search "plan"
  F__law_number : Fun K "_law_number" "_law_number" s__law_number A.a__law_number A.d__law_number
  b__law_number : Binds K A.d__law_number P__law_number []
  F__law_digits : Fun K "_law_digits" "_law_digits" s__law_digits A.a__law_digits A.d__law_digits
  b__law_digits : Binds K A.d__law_digits P__law_digits []
  F__law_digit : Fun K "_law_digit" "_law_digit" s__law_digit A.a__law_digit A.d__law_digit
  b__law_digit : Binds K A.d__law_digit P__law_digit []
  F__law_place : Fun K "_law_place" "_law_place" s__law_place A.a__law_place A.d__law_place
  b__law_place : Binds K A.d__law_place P__law_place []
  F__law_step : Fun K "_law_step" "_law_step" s__law_step A.a__law_step A.d__law_step
  b__law_step : Binds K A.d__law_step P__law_step []
  F__law_plan : Fun K "_law_plan" "_law_plan" s__law_plan A.a__law_plan A.d__law_plan
  b__law_plan : Binds K A.d__law_plan P__law_plan []
  F_landing : Fun K "landing" "landing" s_landing A.a_landing A.d_landing
  b_landing : Binds K A.d_landing P_landing []
  F_Plan_first_state : Fun K "first_state" "Plan.first_state" s_Plan_first_state A.a_Plan_first_state A.d_Plan_first_state
  b_Plan_first_state : Binds K A.d_Plan_first_state P_Plan_first_state []
  F_Search_key_of : Fun K "key_of" "Search.key_of" s_Search_key_of A.a_Search_key_of A.d_Search_key_of
  b_Search_key_of : Binds K A.d_Search_key_of P_Search_key_of []
  F_Plan_step_of : Fun K "step_of" "Plan.step_of" s_Plan_step_of A.a_Plan_step_of A.d_Plan_step_of
  b_Plan_step_of : Binds K A.d_Plan_step_of P_Plan_step_of []
  F_Plan_wanted : Fun K "wanted" "Plan.wanted" s_Plan_wanted A.a_Plan_wanted A.d_Plan_wanted
  b_Plan_wanted : Binds K A.d_Plan_wanted P_Plan_wanted []
  F_Plan_is_clear : Fun K "is_clear" "Plan.is_clear" s_Plan_is_clear A.a_Plan_is_clear A.d_Plan_is_clear
  b_Plan_is_clear : Binds K A.d_Plan_is_clear P_Plan_is_clear []
  F_Plan_rest_of : Fun K "rest_of" "Plan.rest_of" s_Plan_rest_of A.a_Plan_rest_of A.d_Plan_rest_of
  b_Plan_rest_of : Binds K A.d_Plan_rest_of P_Plan_rest_of []
  F_Plan_hindered_by : Fun K "hindered_by" "Plan.hindered_by" s_Plan_hindered_by A.a_Plan_hindered_by A.d_Plan_hindered_by
  b_Plan_hindered_by : Binds K A.d_Plan_hindered_by P_Plan_hindered_by []
  F_Plan_can_step : Fun K "can_step" "Plan.can_step" s_Plan_can_step A.a_Plan_can_step A.d_Plan_can_step
  b_Plan_can_step : Binds K A.d_Plan_can_step P_Plan_can_step []
  F_Plan_stepped : Fun K "stepped" "Plan.stepped" s_Plan_stepped A.a_Plan_stepped A.d_Plan_stepped
  b_Plan_stepped : Binds K A.d_Plan_stepped P_Plan_stepped []
  F_switched : Fun K "switched" "switched" s_switched A.a_switched A.d_switched
  b_switched : Binds K A.d_switched P_switched []
  F_Plan_outcomes : Fun K "outcomes" "Plan.outcomes" s_Plan_outcomes A.a_Plan_outcomes A.d_Plan_outcomes
  b_Plan_outcomes : Binds K A.d_Plan_outcomes P_Plan_outcomes []
  F_Search_open_outcome : Fun K "open_outcome" "Search.open_outcome" s_Search_open_outcome A.a_Search_open_outcome A.d_Search_open_outcome
  b_Search_open_outcome : Binds K A.d_Search_open_outcome P_Search_open_outcome []
  F_Plan_has_ended : Fun K "has_ended" "Plan.has_ended" s_Plan_has_ended A.a_Plan_has_ended A.d_Plan_has_ended
  b_Plan_has_ended : Binds K A.d_Plan_has_ended P_Plan_has_ended []
  F_Plan_all_ended : Fun K "all_ended" "Plan.all_ended" s_Plan_all_ended A.a_Plan_all_ended A.d_Plan_all_ended
  b_Plan_all_ended : Binds K A.d_Plan_all_ended P_Plan_all_ended []
  F_Search_good_arm : Fun K "good_arm" "Search.good_arm" s_Search_good_arm A.a_Search_good_arm A.d_Search_good_arm
  b_Search_good_arm : Binds K A.d_Search_good_arm P_Search_good_arm []
  F_Search_is_safe : Fun K "is_safe" "Search.is_safe" s_Search_is_safe A.a_Search_is_safe A.d_Search_is_safe
  b_Search_is_safe : Binds K A.d_Search_is_safe P_Search_is_safe []
  F_Search___init__ : Fun K "__init__" "Search.__init__" s_Search___init__ A.a_Search___init__ A.d_Search___init__
  b_Search___init__ : Binds K A.d_Search___init__ P_Search___init__ []
  F_Runner___init__ : Fun K "__init__" "Runner.__init__" s_Runner___init__ A.a_Runner___init__ A.d_Runner___init__
  b_Runner___init__ : Binds K A.d_Runner___init__ P_Runner___init__ []
  F__law_new : Fun K "_law_new" "_law_new" s__law_new A.a__law_new A.d__law_new
  b__law_new : Binds K A.d__law_new P__law_new []
  F_Runner_is_over : Fun K "is_over" "Runner.is_over" s_Runner_is_over A.a_Runner_is_over A.d_Runner_is_over
  b_Runner_is_over : Binds K A.d_Runner_is_over P_Runner_is_over []
  F_Runner_state_ahead : Fun K "state_ahead" "Runner.state_ahead" s_Runner_state_ahead A.a_Runner_state_ahead A.d_Runner_state_ahead
  b_Runner_state_ahead : Binds K A.d_Runner_state_ahead P_Runner_state_ahead []
  F_Runner_check_arm : Fun K "check_arm" "Runner.check_arm" s_Runner_check_arm A.a_Runner_check_arm A.d_Runner_check_arm
  b_Runner_check_arm : Binds K A.d_Runner_check_arm P_Runner_check_arm []
  F_Runner_place_of : Fun K "place_of" "Runner.place_of" s_Runner_place_of A.a_Runner_place_of A.d_Runner_place_of
  b_Runner_place_of : Binds K A.d_Runner_place_of P_Runner_place_of []
  F_Runner_in_the_way : Fun K "in_the_way" "Runner.in_the_way" s_Runner_in_the_way A.a_Runner_in_the_way A.d_Runner_in_the_way
  b_Runner_in_the_way : Binds K A.d_Runner_in_the_way P_Runner_in_the_way []
  F_Runner_is_held_back : Fun K "is_held_back" "Runner.is_held_back" s_Runner_is_held_back A.a_Runner_is_held_back A.d_Runner_is_held_back
  b_Runner_is_held_back : Binds K A.d_Runner_is_held_back P_Runner_is_held_back []
  F_Runner_may : Fun K "may" "Runner.may" s_Runner_may A.a_Runner_may A.d_Runner_may
  b_Runner_may : Binds K A.d_Runner_may P_Runner_may []
  F_Runner_is_halted : Fun K "is_halted" "Runner.is_halted" s_Runner_is_halted A.a_Runner_is_halted A.d_Runner_is_halted
  b_Runner_is_halted : Binds K A.d_Runner_is_halted P_Runner_is_halted []
  F_Runner_is_under_way : Fun K "is_under_way" "Runner.is_under_way" s_Runner_is_under_way A.a_Runner_is_under_way A.d_Runner_is_under_way
  b_Runner_is_under_way : Binds K A.d_Runner_is_under_way P_Runner_is_under_way []
  F__law_told : Fun K "_law_told" "_law_told" s__law_told A.a__law_told A.d__law_told
  b__law_told : Binds K A.d__law_told P__law_told []
  F_Runner_fork : Fun K "fork" "Runner.fork" s_Runner_fork A.a_Runner_fork A.d_Runner_fork
  b_Runner_fork : Binds K A.d_Runner_fork P_Runner_fork []
  F_Plan___init__ : FunD K "__init__" "Plan.__init__" (defArgs s_Plan___init__) (defBody s_Plan___init__) (defScope s_Plan___init__) [] [("blocked", .ref A.t_Plan___init__)] A.a_Plan___init__ A.d_Plan___init__
  tt_Plan___init__ : ∀ H : Hp, SqT K H A.t_Plan___init__ []
  kb_Plan___init__ : KBn K A.d_Plan___init__ P_Plan___init__ 3 ["blocked"] (fun us ws => us ++ ws) (fun vs zs => vs ++ zs)
  bx_Plan___init__ : ∃ ds, Vals [V.ref A.t_Plan___init__] ds ∧ Binds K A.d_Plan___init__ P_Plan___init__ ds
  F_Runner_check_told : Fun K "check_told" "Runner.check_told" s_Runner_check_told A.a_Runner_check_told A.d_Runner_check_told
  b_Runner_check_told : Binds K A.d_Runner_check_told P_Runner_check_told []
  F_Runner_begin : Fun K "begin" "Runner.begin" s_Runner_begin A.a_Runner_begin A.d_Runner_begin
  b_Runner_begin : Binds K A.d_Runner_begin P_Runner_begin []
  F_Runner_end : Fun K "end" "Runner.end" s_Runner_end A.a_Runner_end A.d_Runner_end
  b_Runner_end : Binds K A.d_Runner_end P_Runner_end []
  F_Runner_go_on : Fun K "go_on" "Runner.go_on" s_Runner_go_on A.a_Runner_go_on A.d_Runner_go_on
  b_Runner_go_on : Binds K A.d_Runner_go_on P_Runner_go_on []
  F_Runner_read_input : Fun K "read_input" "Runner.read_input" s_Runner_read_input A.a_Runner_read_input A.d_Runner_read_input
  kb_Runner_read_input : KBn K A.d_Runner_read_input P_Runner_read_input 2 ["on"] (fun us ws => us ++ ws) (fun vs zs => vs ++ zs)
  F_Runner_halt : Fun K "halt" "Runner.halt" s_Runner_halt A.a_Runner_halt A.d_Runner_halt
  b_Runner_halt : Binds K A.d_Runner_halt P_Runner_halt []
  F_Runner_free : Fun K "free" "Runner.free" s_Runner_free A.a_Runner_free A.d_Runner_free
  b_Runner_free : Binds K A.d_Runner_free P_Runner_free []
  F__law_event : Fun K "_law_event" "_law_event" s__law_event A.a__law_event A.d__law_event
  b__law_event : Binds K A.d__law_event P__law_event []
  F__law_ask : Fun K "_law_ask" "_law_ask" s__law_ask A.a__law_ask A.d__law_ask
  b__law_ask : Binds K A.d__law_ask P__law_ask []
  F_law : Fun K "law" "law" s_law A.a_law A.d_law
  b_law : Binds K A.d_law P_law []
  g__law_ask : mg "_law_ask" = some (.ref A.a__law_ask)
  g__law_digit : mg "_law_digit" = some (.ref A.a__law_digit)
  g__law_digits : mg "_law_digits" = some (.ref A.a__law_digits)
  g__law_event : mg "_law_event" = some (.ref A.a__law_event)
  g__law_new : mg "_law_new" = some (.ref A.a__law_new)
  g__law_number : mg "_law_number" = some (.ref A.a__law_number)
  g__law_place : mg "_law_place" = some (.ref A.a__law_place)
  g__law_plan : mg "_law_plan" = some (.ref A.a__law_plan)
  g__law_step : mg "_law_step" = some (.ref A.a__law_step)
  g__law_told : mg "_law_told" = some (.ref A.a__law_told)
  g_landing : mg "landing" = some (.ref A.a_landing)
  g_switched : mg "switched" = some (.ref A.a_switched)
  mt_Plan_all_ended : Meth K A.c_Plan "all_ended" A.a_Plan_all_ended
  mt_Plan_can_step : Meth K A.c_Plan "can_step" A.a_Plan_can_step
  mt_Plan_first_state : Meth K A.c_Plan "first_state" A.a_Plan_first_state
  mt_Plan_has_ended : Meth K A.c_Plan "has_ended" A.a_Plan_has_ended
  mt_Plan_hindered_by : Meth K A.c_Plan "hindered_by" A.a_Plan_hindered_by
  mt_Plan_is_clear : Meth K A.c_Plan "is_clear" A.a_Plan_is_clear
  mt_Plan_outcomes : Meth K A.c_Plan "outcomes" A.a_Plan_outcomes
  mt_Plan_rest_of : Meth K A.c_Plan "rest_of" A.a_Plan_rest_of
  mt_Plan_step_of : Meth K A.c_Plan "step_of" A.a_Plan_step_of
  mt_Plan_stepped : Meth K A.c_Plan "stepped" A.a_Plan_stepped
  mt_Plan_wanted : Meth K A.c_Plan "wanted" A.a_Plan_wanted
  mt_Runner_begin : Meth K A.c_Runner "begin" A.a_Runner_begin
  mt_Runner_check_arm : Meth K A.c_Runner "check_arm" A.a_Runner_check_arm
  mt_Runner_check_told : Meth K A.c_Runner "check_told" A.a_Runner_check_told
  mt_Runner_end : Meth K A.c_Runner "end" A.a_Runner_end
  mt_Runner_fork : Meth K A.c_Runner "fork" A.a_Runner_fork
  mt_Runner_free : Meth K A.c_Runner "free" A.a_Runner_free
  mt_Runner_go_on : Meth K A.c_Runner "go_on" A.a_Runner_go_on
  mt_Runner_halt : Meth K A.c_Runner "halt" A.a_Runner_halt
  mt_Runner_in_the_way : Meth K A.c_Runner "in_the_way" A.a_Runner_in_the_way
  mt_Runner_is_halted : Meth K A.c_Runner "is_halted" A.a_Runner_is_halted
  mt_Runner_is_held_back : Meth K A.c_Runner "is_held_back" A.a_Runner_is_held_back
  mt_Runner_is_under_way : Meth K A.c_Runner "is_under_way" A.a_Runner_is_under_way
  mt_Runner_may : Meth K A.c_Runner "may" A.a_Runner_may
  mt_Runner_place_of : Meth K A.c_Runner "place_of" A.a_Runner_place_of
  mt_Runner_read_input : Meth K A.c_Runner "read_input" A.a_Runner_read_input
  mt_Runner_state_ahead : Meth K A.c_Runner "state_ahead" A.a_Runner_state_ahead
  mt_Search_good_arm : Meth K A.c_Search "good_arm" A.a_Search_good_arm
  mt_Search_is_safe : Meth K A.c_Search "is_safe" A.a_Search_is_safe
  mt_Search_key_of : Meth K A.c_Search "key_of" A.a_Search_key_of
  mt_Search_open_outcome : Meth K A.c_Search "open_outcome" A.a_Search_open_outcome
  mk_Plan : Mk K A.c_Plan A.a_Plan___init__
  g_Plan : mg "Plan" = some (.ref A.c_Plan)
  mk_Runner : Mk K A.c_Runner A.a_Runner___init__
  g_Runner : mg "Runner" = some (.ref A.c_Runner)
  mk_Search : Mk K A.c_Search A.a_Search___init__
  g_Search : mg "Search" = some (.ref A.c_Search)
  z_all : mg "all" = none
  z_enumerate : mg "enumerate" = none
  z_int : mg "int" = none
  z_isinstance : mg "isinstance" = none
  z_len : mg "len" = none
  z_list : mg "list" = none
  z_range : mg "range" = none
  z_repr : mg "repr" = none
  z_sorted : mg "sorted" = none
  z_tuple : mg "tuple" = none
  x_ArmwarrantError : ExcF K mg "ArmwarrantError" A.c_ArmwarrantError
  x_NotNow : ExcF K mg "NotNow" A.c_NotNow
  x_NotSafe : ExcF K mg "NotSafe" A.c_NotSafe
  x_UnknownArm : ExcF K mg "UnknownArm" A.c_UnknownArm
  hd_NotNow : PySem.W.hasDictIn K A.c_NotNow = true
  hd_NotSafe : PySem.W.hasDictIn K A.c_NotSafe = true
  hd_UnknownArm : PySem.W.hasDictIn K A.c_UnknownArm = true
  su_NotNow_NotNow : PySem.W.subIn K (.ref A.c_NotNow) (.ref A.c_NotNow) = some true
  su_NotNow_NotSafe : PySem.W.subIn K (.ref A.c_NotNow) (.ref A.c_NotSafe) = some false
  su_NotNow_UnknownArm : PySem.W.subIn K (.ref A.c_NotNow) (.ref A.c_UnknownArm) = some false
  su_NotSafe_NotNow : PySem.W.subIn K (.ref A.c_NotSafe) (.ref A.c_NotNow) = some false
  su_NotSafe_NotSafe : PySem.W.subIn K (.ref A.c_NotSafe) (.ref A.c_NotSafe) = some true
  su_NotSafe_UnknownArm : PySem.W.subIn K (.ref A.c_NotSafe) (.ref A.c_UnknownArm) = some false
  su_UnknownArm_NotNow : PySem.W.subIn K (.ref A.c_UnknownArm) (.ref A.c_NotNow) = some false
  su_UnknownArm_NotSafe : PySem.W.subIn K (.ref A.c_UnknownArm) (.ref A.c_NotSafe) = some false
  su_UnknownArm_UnknownArm : PySem.W.subIn K (.ref A.c_UnknownArm) (.ref A.c_UnknownArm) = some true
  ec_NotNow : ExcC K A.c_NotNow
  ec_UnknownArm : ExcC K A.c_UnknownArm
  kit_NotNow_ArmwarrantError : PySem.W.kitOne K (.ref A.c_NotNow) (.ref A.c_ArmwarrantError) = some true
  kit_NotNow_UnknownArm : PySem.W.kitOne K (.ref A.c_NotNow) (.ref A.c_UnknownArm) = some false
  kit_UnknownArm_ArmwarrantError : PySem.W.kitOne K (.ref A.c_UnknownArm) (.ref A.c_ArmwarrantError) = some true
  kit_UnknownArm_NotNow : PySem.W.kitOne K (.ref A.c_UnknownArm) (.ref A.c_NotNow) = some false
  pr_Runner_is_over : PropOf K A.c_Runner "is_over" A.p_Runner_is_over A.a_Runner_is_over
section
variable {P : Program} {w : World} {K : PySem.W.Frag} {mg : Str → Option Value} {base : Heap} {A : Adr}
theorem Facts.n_Plan_blocks (T : Facts K mg A) : FldD K A.c_Plan "blocks" := ⟨T.cl_Plan, T.no_Plan_blocks⟩
theorem Facts.n_Plan_flows (T : Facts K mg A) : FldD K A.c_Plan "flows" := ⟨T.cl_Plan, T.no_Plan_flows⟩
theorem Facts.n_Plan_starts (T : Facts K mg A) : FldD K A.c_Plan "starts" := ⟨T.cl_Plan, T.no_Plan_starts⟩
theorem Facts.n_Runner_events (T : Facts K mg A) : FldD K A.c_Runner "events" := ⟨T.cl_Runner, T.no_Runner_events⟩
theorem Facts.n_Runner_halted (T : Facts K mg A) : FldD K A.c_Runner "halted" := ⟨T.cl_Runner, T.no_Runner_halted⟩
theorem Facts.n_Runner_moving (T : Facts K mg A) : FldD K A.c_Runner "moving" := ⟨T.cl_Runner, T.no_Runner_moving⟩
theorem Facts.n_Runner_plan (T : Facts K mg A) : FldD K A.c_Runner "plan" := ⟨T.cl_Runner, T.no_Runner_plan⟩
theorem Facts.n_Runner_state (T : Facts K mg A) : FldD K A.c_Runner "state" := ⟨T.cl_Runner, T.no_Runner_state⟩
theorem Facts.n_Search_known (T : Facts K mg A) : FldD K A.c_Search "known" := ⟨T.cl_Search, T.no_Search_known⟩
theorem Facts.n_Search_plan (T : Facts K mg A) : FldD K A.c_Search "plan" := ⟨T.cl_Search, T.no_Search_plan⟩
theorem Facts.m_Plan_all_ended (T : Facts K mg A) : MethD K A.c_Plan "all_ended" A.a_Plan_all_ended := ⟨T.cl_Plan, T.mt_Plan_all_ended⟩
theorem Facts.m_Plan_can_step (T : Facts K mg A) : MethD K A.c_Plan "can_step" A.a_Plan_can_step := ⟨T.cl_Plan, T.mt_Plan_can_step⟩
theorem Facts.m_Plan_first_state (T : Facts K mg A) : MethD K A.c_Plan "first_state" A.a_Plan_first_state := ⟨T.cl_Plan, T.mt_Plan_first_state⟩
theorem Facts.m_Plan_has_ended (T : Facts K mg A) : MethD K A.c_Plan "has_ended" A.a_Plan_has_ended := ⟨T.cl_Plan, T.mt_Plan_has_ended⟩
theorem Facts.m_Plan_hindered_by (T : Facts K mg A) : MethD K A.c_Plan "hindered_by" A.a_Plan_hindered_by := ⟨T.cl_Plan, T.mt_Plan_hindered_by⟩
theorem Facts.m_Plan_is_clear (T : Facts K mg A) : MethD K A.c_Plan "is_clear" A.a_Plan_is_clear := ⟨T.cl_Plan, T.mt_Plan_is_clear⟩
theorem Facts.m_Plan_outcomes (T : Facts K mg A) : MethD K A.c_Plan "outcomes" A.a_Plan_outcomes := ⟨T.cl_Plan, T.mt_Plan_outcomes⟩
theorem Facts.m_Plan_rest_of (T : Facts K mg A) : MethD K A.c_Plan "rest_of" A.a_Plan_rest_of := ⟨T.cl_Plan, T.mt_Plan_rest_of⟩
theorem Facts.m_Plan_step_of (T : Facts K mg A) : MethD K A.c_Plan "step_of" A.a_Plan_step_of := ⟨T.cl_Plan, T.mt_Plan_step_of⟩
theorem Facts.m_Plan_stepped (T : Facts K mg A) : MethD K A.c_Plan "stepped" A.a_Plan_stepped := ⟨T.cl_Plan, T.mt_Plan_stepped⟩
theorem Facts.m_Plan_wanted (T : Facts K mg A) : MethD K A.c_Plan "wanted" A.a_Plan_wanted := ⟨T.cl_Plan, T.mt_Plan_wanted⟩
theorem Facts.m_Runner_begin (T : Facts K mg A) : MethD K A.c_Runner "begin" A.a_Runner_begin := ⟨T.cl_Runner, T.mt_Runner_begin⟩
theorem Facts.m_Runner_check_arm (T : Facts K mg A) : MethD K A.c_Runner "check_arm" A.a_Runner_check_arm := ⟨T.cl_Runner, T.mt_Runner_check_arm⟩
theorem Facts.m_Runner_check_told (T : Facts K mg A) : MethD K A.c_Runner "check_told" A.a_Runner_check_told := ⟨T.cl_Runner, T.mt_Runner_check_told⟩
theorem Facts.m_Runner_end (T : Facts K mg A) : MethD K A.c_Runner "end" A.a_Runner_end := ⟨T.cl_Runner, T.mt_Runner_end⟩
theorem Facts.m_Runner_fork (T : Facts K mg A) : MethD K A.c_Runner "fork" A.a_Runner_fork := ⟨T.cl_Runner, T.mt_Runner_fork⟩
theorem Facts.m_Runner_free (T : Facts K mg A) : MethD K A.c_Runner "free" A.a_Runner_free := ⟨T.cl_Runner, T.mt_Runner_free⟩
theorem Facts.m_Runner_go_on (T : Facts K mg A) : MethD K A.c_Runner "go_on" A.a_Runner_go_on := ⟨T.cl_Runner, T.mt_Runner_go_on⟩
theorem Facts.m_Runner_halt (T : Facts K mg A) : MethD K A.c_Runner "halt" A.a_Runner_halt := ⟨T.cl_Runner, T.mt_Runner_halt⟩
theorem Facts.m_Runner_in_the_way (T : Facts K mg A) : MethD K A.c_Runner "in_the_way" A.a_Runner_in_the_way := ⟨T.cl_Runner, T.mt_Runner_in_the_way⟩
theorem Facts.m_Runner_is_halted (T : Facts K mg A) : MethD K A.c_Runner "is_halted" A.a_Runner_is_halted := ⟨T.cl_Runner, T.mt_Runner_is_halted⟩
theorem Facts.m_Runner_is_held_back (T : Facts K mg A) : MethD K A.c_Runner "is_held_back" A.a_Runner_is_held_back := ⟨T.cl_Runner, T.mt_Runner_is_held_back⟩
theorem Facts.m_Runner_is_under_way (T : Facts K mg A) : MethD K A.c_Runner "is_under_way" A.a_Runner_is_under_way := ⟨T.cl_Runner, T.mt_Runner_is_under_way⟩
theorem Facts.m_Runner_may (T : Facts K mg A) : MethD K A.c_Runner "may" A.a_Runner_may := ⟨T.cl_Runner, T.mt_Runner_may⟩
theorem Facts.m_Runner_place_of (T : Facts K mg A) : MethD K A.c_Runner "place_of" A.a_Runner_place_of := ⟨T.cl_Runner, T.mt_Runner_place_of⟩
theorem Facts.m_Runner_read_input (T : Facts K mg A) : MethD K A.c_Runner "read_input" A.a_Runner_read_input := ⟨T.cl_Runner, T.mt_Runner_read_input⟩
theorem Facts.m_Runner_state_ahead (T : Facts K mg A) : MethD K A.c_Runner "state_ahead" A.a_Runner_state_ahead := ⟨T.cl_Runner, T.mt_Runner_state_ahead⟩
theorem Facts.m_Search_good_arm (T : Facts K mg A) : MethD K A.c_Search "good_arm" A.a_Search_good_arm := ⟨T.cl_Search, T.mt_Search_good_arm⟩
theorem Facts.m_Search_is_safe (T : Facts K mg A) : MethD K A.c_Search "is_safe" A.a_Search_is_safe := ⟨T.cl_Search, T.mt_Search_is_safe⟩
theorem Facts.m_Search_key_of (T : Facts K mg A) : MethD K A.c_Search "key_of" A.a_Search_key_of := ⟨T.cl_Search, T.mt_Search_key_of⟩
theorem Facts.m_Search_open_outcome (T : Facts K mg A) : MethD K A.c_Search "open_outcome" A.a_Search_open_outcome := ⟨T.cl_Search, T.mt_Search_open_outcome⟩
theorem Facts.xm_NotNow_NotNow (T : Facts K mg A) : PySem.W.exmOne K (.ref A.c_NotNow) (.ref A.c_NotNow) = some true := PySem.W.exm_ref T.x_NotNow.sb T.hd_NotNow T.x_NotNow.ty T.su_NotNow_NotNow
theorem Facts.xm_NotNow_NotSafe (T : Facts K mg A) : PySem.W.exmOne K (.ref A.c_NotNow) (.ref A.c_NotSafe) = some false := PySem.W.exm_ref T.x_NotSafe.sb T.hd_NotSafe T.x_NotSafe.ty T.su_NotNow_NotSafe
theorem Facts.xm_NotNow_UnknownArm (T : Facts K mg A) : PySem.W.exmOne K (.ref A.c_NotNow) (.ref A.c_UnknownArm) = some false := PySem.W.exm_ref T.x_UnknownArm.sb T.hd_UnknownArm T.x_UnknownArm.ty T.su_NotNow_UnknownArm
theorem Facts.xm_NotSafe_NotNow (T : Facts K mg A) : PySem.W.exmOne K (.ref A.c_NotSafe) (.ref A.c_NotNow) = some false := PySem.W.exm_ref T.x_NotNow.sb T.hd_NotNow T.x_NotNow.ty T.su_NotSafe_NotNow
theorem Facts.xm_NotSafe_NotSafe (T : Facts K mg A) : PySem.W.exmOne K (.ref A.c_NotSafe) (.ref A.c_NotSafe) = some true := PySem.W.exm_ref T.x_NotSafe.sb T.hd_NotSafe T.x_NotSafe.ty T.su_NotSafe_NotSafe
theorem Facts.xm_NotSafe_UnknownArm (T : Facts K mg A) : PySem.W.exmOne K (.ref A.c_NotSafe) (.ref A.c_UnknownArm) = some false := PySem.W.exm_ref T.x_UnknownArm.sb T.hd_UnknownArm T.x_UnknownArm.ty T.su_NotSafe_UnknownArm
theorem Facts.xm_UnknownArm_NotNow (T : Facts K mg A) : PySem.W.exmOne K (.ref A.c_UnknownArm) (.ref A.c_NotNow) = some false := PySem.W.exm_ref T.x_NotNow.sb T.hd_NotNow T.x_NotNow.ty T.su_UnknownArm_NotNow
theorem Facts.xm_UnknownArm_NotSafe (T : Facts K mg A) : PySem.W.exmOne K (.ref A.c_UnknownArm) (.ref A.c_NotSafe) = some false := PySem.W.exm_ref T.x_NotSafe.sb T.hd_NotSafe T.x_NotSafe.ty T.su_UnknownArm_NotSafe
theorem Facts.xm_UnknownArm_UnknownArm (T : Facts K mg A) : PySem.W.exmOne K (.ref A.c_UnknownArm) (.ref A.c_UnknownArm) = some true := PySem.W.exm_ref T.x_UnknownArm.sb T.hd_UnknownArm T.x_UnknownArm.ty T.su_UnknownArm_UnknownArm
theorem hO_nil {p : Addr → Prop} : ∀ C ∈ ([] : List Addr), p C := fun C h => nomatch h
theorem hO_cons {p : Addr → Prop} {c : Addr} {l : List Addr} (h : p c) (r : ∀ C ∈ l, p C) : ∀ C ∈ c :: l, p C := fun C hC => by
  rcases List.mem_cons.mp hC with rfl | hC
  · exact h
  · exact r C hC
theorem hu64 {k : Nat} {A : Around} (hr : Room k A) : A.units + 64 < cLine := by have := hr.un; omega
theorem hu65 {k : Nat} {A : Around} (hr : Room k A) : A.units + 65 < cLine := by have := hr.un; omega
noncomputable def m__law_number (A : Adr) : M :=
  bodyM 5 ((sSeq (sAsg (fC (.int 0)) (gNm 2))
      (sSeq (sIf (tBf (fOp gLt (fVar 1) (fCB gLen (aCons (fVar 0) aNil))))
      (sAsg (fOp gIx (fVar 0) (fVar 1)) (gNm 2))
      sNx)
      (sSeq (sIf (tBf (fOp gLt (fVar 2) (fC (.int 0))))
      (sAsg (fOp gSub (fC (.int 1)) (fOp gMul (fC (.int 2)) (fVar 2))) (gNm 2))
      sNx)
      (sSeq (sIf (tBf (fOp gGe (fVar 2) (fC (.int 1000000000))))
      (sRet (fVar 2))
      sNx)
      (sSeq (sAsg (fOp gMod (fCB gInt (aCons (fOp gAdd (fOp gMul (fOp gAdd (fVar 2) (fC (.int 17))) (fC (.int 48271))) (fOp gMul (fOp gAdd (fVar 1) (fC (.int 3))) (fC (.int 69621)))) aNil)) (fC (.int 2147483647))) (gNm 3))
      (sSeq (sAsg (fOp gMod (fCB gInt (aCons (fOp gAdd (fOp gMul (fVar 3) (fC (.int 40692))) (fOp gMul (fOp gAdd (fVar 2) (fC (.int 5))) (fOp gAdd (fVar 1) (fC (.int 11))))) aNil)) (fC (.int 2147483399))) (gNm 4))
      (sRet (fOp gAdd (fOp gMul (fVar 3) (fC (.int 2147483399))) (fVar 4))))))))))
theorem ok__law_number (T : Facts K mg A) : FnD P w K mg base 1 A.a__law_number A.d__law_number P__law_number (m__law_number A) :=
  (fn_ok T.F__law_number sc__law_number fun cdv Ar outer s H E hr =>
    (dss_cons (ds_set 2 sc__law_number.nd de_int)
      (dss_cons (ds_if (dt_cmp od_lt (de_var 1) (de_callB cd_len (by rfl) T.z_len (by decide +kernel) (da_cons (de_var 0) da_nil)))
      (dss_one (ds_set 2 sc__law_number.nd (de_ix (de_var 0) (de_var 1))))
      dss_nil)
      (dss_cons (ds_if (dt_cmp od_lt (de_var 2) de_int)
      (dss_one (ds_set 2 sc__law_number.nd (de_op od_sub de_int (de_op od_mul de_int (de_var 2)))))
      dss_nil)
      (dss_cons (ds_if (dt_cmp od_ge (de_var 2) de_int)
      (dss_one (ds_ret (de_var 2)))
      dss_nil)
      (dss_cons (ds_set 3 sc__law_number.nd (de_op od_mod (de_callTy cd_int (by rfl) T.z_int (by decide +kernel) (da_cons (de_op od_add (de_op od_mul (de_op od_add (de_var 2) de_int) de_int) (de_op od_mul (de_op od_add (de_var 1) de_int) de_int)) da_nil)) de_int))
      (dss_cons (ds_set 4 sc__law_number.nd (de_op od_mod (de_callTy cd_int (by rfl) T.z_int (by decide +kernel) (da_cons (de_op od_add (de_op od_mul (de_var 3) de_int) (de_op od_mul (de_op od_add (de_var 2) de_int) (de_op od_add (de_var 1) de_int))) da_nil)) de_int))
      (dss_one (ds_ret (de_op od_add (de_op od_mul (de_var 3) de_int) (de_var 4)))))))))))
noncomputable def m__law_digits (A : Adr) : M :=
  bodyM 5 ((sSeq (sAsg (fC (.int 0)) (gNm 3))
      (sSeq (sFor (iRange1 (aCons (fVar 2) aNil)) (gNm 4)
      (sAsg (fOp gAdd (fOp gMul (fVar 3) (fC (.int 4611686018427387904))) (fCall (m__law_number A) (aCons (fVar 0) (aCons (fOp gSub (fOp gSub (fOp gAdd (fVar 1) (fVar 2)) (fC (.int 1))) (fVar 4)) aNil)))) (gNm 3)))
      (sRet (fLstM (aCons (fVar 3) aNil))))))
theorem ok__law_digits (T : Facts K mg A) : FnD P w K mg base 2 A.a__law_digits A.d__law_digits P__law_digits (m__law_digits A) :=
  (fn_ok T.F__law_digits sc__law_digits fun cdv Ar outer s H E hr =>
    (dss_cons (ds_set 3 sc__law_digits.nd de_int)
      (dss_cons (ds_for PassesOwn.never (di_range1 (by rfl) T.z_range (da_cons (de_var 2) da_nil)) (dg_name 4 sc__law_digits.nd)
      (dss_one (ds_set 3 sc__law_digits.nd (de_op od_add (de_op od_mul (de_var 3) de_int) (de_call (ok__law_number T) (hr.mono (by decide)) rfl T.g__law_number T.F__law_number.kp T.b__law_number (da_cons (de_var 0) (da_cons (de_op od_sub (de_op od_sub (de_op od_add (de_var 1) (de_var 2)) de_int) (de_var 4)) da_nil)) (arn_cons (arn_cons arn_nil)) rfl)))))
      (dss_one (ds_ret (de_lstM (da_cons (de_var 3) da_nil)))))))
noncomputable def m__law_digit (A : Adr) : M :=
  bodyM 3 ((sSeq (sAsg (fOp gMod (fCB gInt (aCons (fOp gIx (fVar 0) (fC (.int 0))) aNil)) (fVar 1)) (gNm 2))
      (sSeq (sAsg (fOp gFdiv (fCB gInt (aCons (fOp gIx (fVar 0) (fC (.int 0))) aNil)) (fVar 1)) (gSubD (fVar 0) (fC (.int 0))))
      (sRet (fVar 2)))))
theorem ok__law_digit (T : Facts K mg A) : FnD P w K mg base 1 A.a__law_digit A.d__law_digit P__law_digit (m__law_digit A) :=
  (fn_ok T.F__law_digit sc__law_digit fun cdv Ar outer s H E hr =>
    (dss_cons (ds_set 2 sc__law_digit.nd (de_op od_mod (de_callTy cd_int (by rfl) T.z_int (by decide +kernel) (da_cons (de_ix (de_var 0) de_int) da_nil)) (de_var 1)))
      (dss_cons (ds_asg (de_op od_fdiv (de_callTy cd_int (by rfl) T.z_int (by decide +kernel) (da_cons (de_ix (de_var 0) de_int) da_nil)) (de_var 1)) (dg_sub (de_var 0) de_int))
      (dss_one (ds_ret (de_var 2))))))
noncomputable def m__law_place (A : Adr) : M :=
  bodyM 3 ((sSeq (sAsg (fOp gIx (fLst (aCons (fC (.str "p")) (aCons (fC (.str "q")) aNil))) (fCall (m__law_digit A) (aCons (fVar 0) (aCons (fC (.int 2)) aNil)))) (gNm 1))
      (sSeq (sAsg (fOp gIx (fLst (aCons (fC .non) (aCons (fC (.str "x")) aNil))) (fCall (m__law_digit A) (aCons (fVar 0) (aCons (fC (.int 2)) aNil)))) (gNm 2))
      (sSeq (sIf (tBf (fOp gEq (fCall (m__law_digit A) (aCons (fVar 0) (aCons (fC (.int 2)) aNil))) (fC (.int 0))))
      (sRet (fTup (aCons (fC (.str "rest")) (aCons (fVar 1) (aCons (fVar 2) aNil)))))
      sNx)
      (sRet (fTup (aCons (fC (.str "move")) (aCons (fVar 1) (aCons (fOp gIx (fLst (aCons (fC (.str "p")) (aCons (fC (.str "q")) aNil))) (fCall (m__law_digit A) (aCons (fVar 0) (aCons (fC (.int 2)) aNil)))) (aCons (fVar 2) aNil))))))))))
theorem ok__law_place (T : Facts K mg A) : FnD P w K mg base 2 A.a__law_place A.d__law_place P__law_place (m__law_place A) :=
  (fn_ok T.F__law_place sc__law_place fun cdv Ar outer s H E hr =>
    (dss_cons (ds_set 1 sc__law_place.nd (de_ix (de_lst (da_cons de_str (da_cons de_str da_nil))) (de_call (ok__law_digit T) (hr.mono (by decide)) rfl T.g__law_digit T.F__law_digit.kp T.b__law_digit (da_cons (de_var 0) (da_cons de_int da_nil)) (arn_cons (arn_cons arn_nil)) rfl)))
      (dss_cons (ds_set 2 sc__law_place.nd (de_ix (de_lst (da_cons de_non (da_cons de_str da_nil))) (de_call (ok__law_digit T) (hr.mono (by decide)) rfl T.g__law_digit T.F__law_digit.kp T.b__law_digit (da_cons (de_var 0) (da_cons de_int da_nil)) (arn_cons (arn_cons arn_nil)) rfl)))
      (dss_cons (ds_if (dt_cmp (od_eq (hu64 hr)) (de_call (ok__law_digit T) (hr.mono (by decide)) rfl T.g__law_digit T.F__law_digit.kp T.b__law_digit (da_cons (de_var 0) (da_cons de_int da_nil)) (arn_cons (arn_cons arn_nil)) rfl) de_int)
      (dss_one (ds_ret (de_tup (da_cons de_str (da_cons (de_var 1) (da_cons (de_var 2) da_nil))))))
      dss_nil)
      (dss_one (ds_ret (de_tup (da_cons de_str (da_cons (de_var 1) (da_cons (de_ix (de_lst (da_cons de_str (da_cons de_str da_nil))) (de_call (ok__law_digit T) (hr.mono (by decide)) rfl T.g__law_digit T.F__law_digit.kp T.b__law_digit (da_cons (de_var 0) (da_cons de_int da_nil)) (arn_cons (arn_cons arn_nil)) rfl)) (da_cons (de_var 2) da_nil)))))))))))
noncomputable def m__law_step (A : Adr) : M :=
  bodyM 7 ((sSeq (sAsg (fCall (m__law_digit A) (aCons (fVar 0) (aCons (fC (.int 9)) aNil))) (gNm 4))
      (sSeq (sAsg (fOp gAdd (fOp gAdd (fVar 1) (fC (.int 1))) (fCall (m__law_digit A) (aCons (fVar 0) (aCons (fOp gSub (fVar 2) (fVar 1)) aNil)))) (gNm 5))
      (sSeq (sAsg (fOp gIx (fVar 3) (fCall (m__law_digit A) (aCons (fVar 0) (aCons (fCB gLen (aCons (fVar 3) aNil)) aNil)))) (gNm 6))
      (sSeq (sIf (tBf (fOp gLt (fVar 4) (fC (.int 3))))
      (sRet (fTup (aCons (fC (.str "move")) (aCons (fOp gIx (fLst (aCons (fC (.str "p")) (aCons (fC (.str "q")) aNil))) (fCall (m__law_digit A) (aCons (fVar 0) (aCons (fC (.int 2)) aNil)))) aNil))))
      sNx)
      (sSeq (sIf (tBf (fOp gEq (fVar 4) (fC (.int 3))))
      (sRet (fTup (aCons (fC (.str "hold")) (aCons (fOp gIx (fLst (aCons (fC .non) (aCons (fC (.str "x")) aNil))) (fCall (m__law_digit A) (aCons (fVar 0) (aCons (fC (.int 2)) aNil)))) aNil))))
      sNx)
      (sSeq (sIf (tBf (fOp gEq (fVar 4) (fC (.int 4))))
      (sRet (fTup (aCons (fC (.str "set")) (aCons (fVar 6) (aCons (fOp gGt (fCall (m__law_digit A) (aCons (fVar 0) (aCons (fC (.int 4)) aNil))) (fC (.int 0))) aNil)))))
      sNx)
      (sSeq (sIf (tBf (fOp gEq (fVar 4) (fC (.int 5))))
      (sRet (fTup (aCons (fC (.str "wait")) (aCons (fVar 6) (aCons (fOp gGt (fCall (m__law_digit A) (aCons (fVar 0) (aCons (fC (.int 4)) aNil))) (fC (.int 0))) aNil)))))
      sNx)
      (sSeq (sIf (tBf (fOp gEq (fVar 4) (fC (.int 6))))
      (sRet (fTup (aCons (fC (.str "jump")) (aCons (fVar 5) aNil))))
      sNx)
      (sSeq (sIf (tBf (fOp gEq (fVar 4) (fC (.int 7))))
      (sRet (fTup (aCons (fC (.str "if")) (aCons (fC (.str "i")) (aCons (fVar 5) aNil)))))
      sNx)
      (sRet (fTup (aCons (fC (.str "move")) (aCons (fOp gIx (fLst (aCons (fC (.str "q")) (aCons (fC (.str "p")) aNil))) (fOp gMod (fVar 1) (fC (.int 2)))) aNil))))))))))))))
theorem ok__law_step (T : Facts K mg A) : FnD P w K mg base 2 A.a__law_step A.d__law_step P__law_step (m__law_step A) :=
  (fn_ok T.F__law_step sc__law_step fun cdv Ar outer s H E hr =>
    (dss_cons (ds_set 4 sc__law_step.nd (de_call (ok__law_digit T) (hr.mono (by decide)) rfl T.g__law_digit T.F__law_digit.kp T.b__law_digit (da_cons (de_var 0) (da_cons de_int da_nil)) (arn_cons (arn_cons arn_nil)) rfl))
      (dss_cons (ds_set 5 sc__law_step.nd (de_op od_add (de_op od_add (de_var 1) de_int) (de_call (ok__law_digit T) (hr.mono (by decide)) rfl T.g__law_digit T.F__law_digit.kp T.b__law_digit (da_cons (de_var 0) (da_cons (de_op od_sub (de_var 2) (de_var 1)) da_nil)) (arn_cons (arn_cons arn_nil)) rfl)))
      (dss_cons (ds_set 6 sc__law_step.nd (de_ix (de_var 3) (de_call (ok__law_digit T) (hr.mono (by decide)) rfl T.g__law_digit T.F__law_digit.kp T.b__law_digit (da_cons (de_var 0) (da_cons (de_callB cd_len (by rfl) T.z_len (by decide +kernel) (da_cons (de_var 3) da_nil)) da_nil)) (arn_cons (arn_cons arn_nil)) rfl)))
      (dss_cons (ds_if (dt_cmp od_lt (de_var 4) de_int)
      (dss_one (ds_ret (de_tup (da_cons de_str (da_cons (de_ix (de_lst (da_cons de_str (da_cons de_str da_nil))) (de_call (ok__law_digit T) (hr.mono (by decide)) rfl T.g__law_digit T.F__law_digit.kp T.b__law_digit (da_cons (de_var 0) (da_cons de_int da_nil)) (arn_cons (arn_cons arn_nil)) rfl)) da_nil)))))
      dss_nil)
      (dss_cons (ds_if (dt_cmp (od_eq (hu64 hr)) (de_var 4) de_int)
      (dss_one (ds_ret (de_tup (da_cons de_str (da_cons (de_ix (de_lst (da_cons de_non (da_cons de_str da_nil))) (de_call (ok__law_digit T) (hr.mono (by decide)) rfl T.g__law_digit T.F__law_digit.kp T.b__law_digit (da_cons (de_var 0) (da_cons de_int da_nil)) (arn_cons (arn_cons arn_nil)) rfl)) da_nil)))))
      dss_nil)
      (dss_cons (ds_if (dt_cmp (od_eq (hu64 hr)) (de_var 4) de_int)
      (dss_one (ds_ret (de_tup (da_cons de_str (da_cons (de_var 6) (da_cons (de_cmp od_gt (de_call (ok__law_digit T) (hr.mono (by decide)) rfl T.g__law_digit T.F__law_digit.kp T.b__law_digit (da_cons (de_var 0) (da_cons de_int da_nil)) (arn_cons (arn_cons arn_nil)) rfl) de_int) da_nil))))))
      dss_nil)
      (dss_cons (ds_if (dt_cmp (od_eq (hu64 hr)) (de_var 4) de_int)
      (dss_one (ds_ret (de_tup (da_cons de_str (da_cons (de_var 6) (da_cons (de_cmp od_gt (de_call (ok__law_digit T) (hr.mono (by decide)) rfl T.g__law_digit T.F__law_digit.kp T.b__law_digit (da_cons (de_var 0) (da_cons de_int da_nil)) (arn_cons (arn_cons arn_nil)) rfl) de_int) da_nil))))))
      dss_nil)
      (dss_cons (ds_if (dt_cmp (od_eq (hu64 hr)) (de_var 4) de_int)
      (dss_one (ds_ret (de_tup (da_cons de_str (da_cons (de_var 5) da_nil)))))
      dss_nil)
      (dss_cons (ds_if (dt_cmp (od_eq (hu64 hr)) (de_var 4) de_int)
      (dss_one (ds_ret (de_tup (da_cons de_str (da_cons de_str (da_cons (de_var 5) da_nil))))))
      dss_nil)
      (dss_one (ds_ret (de_tup (da_cons de_str (da_cons (de_ix (de_lst (da_cons de_str (da_cons de_str da_nil))) (de_op od_mod (de_var 1) de_int)) da_nil)))))))))))))))
noncomputable def m__law_plan (A : Adr) : M :=
  mCut (bodyM 13 ((sSeq (sAsg (fOp gIx (fLst (aCons (fC (.int 2)) (aCons (fC (.int 3)) (aCons (fC (.int 2)) (aCons (fC (.int 1)) (aCons (fC (.int 2)) (aCons (fC (.int 3)) (aCons (fC (.int 4)) aNil)))))))) (fCall (m__law_digit A) (aCons (fVar 0) (aCons (fC (.int 7)) aNil)))) (gNm 1))
      (sSeq (sAsg (fOp gIx (fLst (aCons (fC (.int 0)) (aCons (fC (.int 8)) (aCons (fC (.int 5)) (aCons (fC (.int 2)) (aCons (fC (.int 1)) aNil)))))) (fVar 1)) (gNm 2))
      (sSeq (sAsg (fLst (aCons (fC (.str "s")) (aCons (fC (.str "t")) aNil))) (gNm 3))
      (sSeq (sIf (tBf (fOp gGt (fVar 1) (fC (.int 2))))
      (sAsg (fLst (aCons (fC (.str "s")) aNil)) (gNm 3))
      sNx)
      (sSeq (sAsg (fLstM aNil) (gNm 4))
      (sSeq (sFor (iRange1 (aCons (fVar 1) aNil)) (gNm 5)
      (sSeq (sAsg (fOp gSub (fVar 2) (fOp gMod (fCall (m__law_digit A) (aCons (fVar 0) (aCons (fOp gAdd (fVar 2) (fC (.int 1))) aNil))) (fC (.int 3)))) (gNm 6))
      (sExpr (fAppend (fVar 4) (fCut (fLCM (iRange1 (aCons (fVar 6) aNil)) (gNm 12) tTrue (fCall (m__law_step A) (aCons (fVar 0) (aCons (fVar 12) (aCons (fVar 6) (aCons (fVar 3) aNil))))) [12]))))))
      (sSeq (sAsg (fCut (fLCM (iRange1 (aCons (fVar 1) aNil)) (gNm 5) tTrue (fOp gIx (fLst (aCons (fC (.str "p")) (aCons (fC (.str "q")) aNil))) (fCall (m__law_digit A) (aCons (fVar 0) (aCons (fC (.int 2)) aNil)))) [5])) (gNm 7))
      (sSeq (sAsg (fLstM aNil) (gNm 8))
      (sSeq (sFor (iRange1 (aCons (fCall (m__law_digit A) (aCons (fVar 0) (aCons (fC (.int 9)) aNil))) aNil)) (gNm 9)
      (sSeq (sAsg (fCall (m__law_digit A) (aCons (fVar 0) (aCons (fVar 1) aNil))) (gNm 5))
      (sSeq (sAsg (fCall (m__law_digit A) (aCons (fVar 0) (aCons (fVar 1) aNil))) (gNm 10))
      (sSeq (sAsg (fCall (m__law_place A) (aCons (fVar 0) aNil)) (gNm 11))
      (sIf (tBf (fOp gNe (fVar 5) (fVar 10)))
      (sExpr (fAppend (fVar 8) (fTup (aCons (fVar 5) (aCons (fVar 11) (aCons (fVar 10) (aCons (fCall (m__law_place A) (aCons (fVar 0) aNil)) aNil)))))))
      sNx)))))
      (sRet (fTup (aCons (fVar 4) (aCons (fVar 7) (aCons (fVar 8) aNil))))))))))))))))
theorem ok__law_plan (T : Facts K mg A) : FnD P w K mg base 3 A.a__law_plan A.d__law_plan P__law_plan (m__law_plan A) :=
  (fn_ok T.F__law_plan sc__law_plan fun cdv Ar outer s H E hr =>
    (dss_cons (ds_set 1 sc__law_plan.nd (de_ix (de_lst (da_cons de_int (da_cons de_int (da_cons de_int (da_cons de_int (da_cons de_int (da_cons de_int (da_cons de_int da_nil)))))))) (de_call (ok__law_digit T) (hr.mono (by decide)) rfl T.g__law_digit T.F__law_digit.kp T.b__law_digit (da_cons (de_var 0) (da_cons de_int da_nil)) (arn_cons (arn_cons arn_nil)) rfl)))
      (dss_cons (ds_set 2 sc__law_plan.nd (de_ix (de_lst (da_cons de_int (da_cons de_int (da_cons de_int (da_cons de_int (da_cons de_int da_nil)))))) (de_var 1)))
      (dss_cons (ds_set 3 sc__law_plan.nd (de_lst (da_cons de_str (da_cons de_str da_nil))))
      (dss_cons (ds_if (dt_cmp od_gt (de_var 1) de_int)
      (dss_one (ds_set 3 sc__law_plan.nd (de_lst (da_cons de_str da_nil))))
      dss_nil)
      (dss_cons (ds_set 4 sc__law_plan.nd (de_lstM da_nil))
      (dss_cons (ds_for PassesOwn.never (di_range1 (by rfl) T.z_range (da_cons (de_var 1) da_nil)) (dg_name 5 sc__law_plan.nd)
      (dss_cons (ds_set 6 sc__law_plan.nd (de_op od_sub (de_var 2) (de_op od_mod (de_call (ok__law_digit T) (hr.mono (by decide)) rfl T.g__law_digit T.F__law_digit.kp T.b__law_digit (da_cons (de_var 0) (da_cons (de_op od_add (de_var 2) de_int) da_nil)) (arn_cons (arn_cons arn_nil)) rfl) de_int)))
      (dss_one (ds_expr (de_append (de_var 4) (de_cut (de_lcM (own := [("_law_index", 12)]) sc__law_plan.nd (di_range1 (by rfl) T.z_range (da_cons (de_var 6) da_nil)) (blkOk_by (own := [("_law_index", 12)]) (N := N__law_plan) (sc := defScope s__law_plan) (by decide +kernel)) (fun _ _ _ _ _ => pg_name (i := 12) sc__law_plan.nd rfl (Or.inl rfl)) (rg_name 12) (wo_name (by decide)) (fun _ _ _ _ _ => dts_nil) (fun _ _ _ _ _ => (de_call (ok__law_step T) (hr.mono (by decide)) rfl T.g__law_step T.F__law_step.kp T.b__law_step (da_cons (de_var 0) (da_cons (de_var 12) (da_cons (de_var 6) (da_cons (de_var 3) da_nil)))) (arn_cons (arn_cons (arn_cons (arn_cons arn_nil)))) rfl)))))))))
      (dss_cons (ds_setLc (own := [("_law_arm", 5)]) 7 sc__law_plan.nd rfl rfl (sw_true rfl rfl rfl (by decide +kernel)) (di_range1 (by rfl) T.z_range (da_cons (de_var 1) da_nil)) (blkOk_by (own := [("_law_arm", 5)]) (N := N__law_plan) (sc := defScope s__law_plan) (by decide +kernel)) (fun _ _ _ _ _ => pg_name (i := 5) sc__law_plan.nd rfl (Or.inl rfl)) (rg_name 5) (wo_name (by decide)) (fun _ _ _ _ _ => dts_nil) (fun _ _ _ _ _ => (de_ix (de_lst (da_cons de_str (da_cons de_str da_nil))) (de_call (ok__law_digit T) (hr.mono (by decide)) rfl T.g__law_digit T.F__law_digit.kp T.b__law_digit (da_cons (de_var 0) (da_cons de_int da_nil)) (arn_cons (arn_cons arn_nil)) rfl))))
      (dss_cons (ds_set 8 sc__law_plan.nd (de_lstM da_nil))
      (dss_cons (ds_for PassesOwn.never (di_range1 (by rfl) T.z_range (da_cons (de_call (ok__law_digit T) (hr.mono (by decide)) rfl T.g__law_digit T.F__law_digit.kp T.b__law_digit (da_cons (de_var 0) (da_cons de_int da_nil)) (arn_cons (arn_cons arn_nil)) rfl) da_nil)) (dg_name 9 sc__law_plan.nd)
      (dss_cons (ds_set 5 sc__law_plan.nd (de_call (ok__law_digit T) (hr.mono (by decide)) rfl T.g__law_digit T.F__law_digit.kp T.b__law_digit (da_cons (de_var 0) (da_cons (de_var 1) da_nil)) (arn_cons (arn_cons arn_nil)) rfl))
      (dss_cons (ds_set 10 sc__law_plan.nd (de_call (ok__law_digit T) (hr.mono (by decide)) rfl T.g__law_digit T.F__law_digit.kp T.b__law_digit (da_cons (de_var 0) (da_cons (de_var 1) da_nil)) (arn_cons (arn_cons arn_nil)) rfl))
      (dss_cons (ds_set 11 sc__law_plan.nd (de_call (ok__law_place T) (hr.mono (by decide)) rfl T.g__law_place T.F__law_place.kp T.b__law_place (da_cons (de_var 0) da_nil) (arn_cons arn_nil) rfl))
      (dss_one (ds_if (dt_cmp (od_ne (hu64 hr)) (de_var 5) (de_var 10))
      (dss_one (ds_expr (de_append (de_var 8) (de_tup (da_cons (de_var 5) (da_cons (de_var 11) (da_cons (de_var 10) (da_cons (de_call (ok__law_place T) (hr.mono (by decide)) rfl T.g__law_place T.F__law_place.kp T.b__law_place (da_cons (de_var 0) da_nil) (arn_cons arn_nil) rfl) da_nil))))))))
      dss_nil))))))
      (dss_one (ds_ret (de_tup (da_cons (de_var 4) (da_cons (de_var 7) (da_cons (de_var 8) da_nil)))))))))))))))).cut
noncomputable def m_landing (A : Adr) : M :=
  bodyM 2 ((sSeq (sWhile (tAndf (tBf (fOp gLt (fVar 1) (fCB gLen (aCons (fVar 0) aNil)))) (tBf (fOp gEq (fOp gIx (fOp gIx (fVar 0) (fVar 1)) (fC (.int 0))) (fC (.str "jump")))))
      (sAsg (fOp gIx (fOp gIx (fVar 0) (fVar 1)) (fC (.int 1))) (gNm 1)))
      (sRet (fVar 1))))
theorem ok_landing (T : Facts K mg A) : FnD P w K mg base 1 A.a_landing A.d_landing P_landing (m_landing A) :=
  (fn_ok T.F_landing sc_landing fun cdv Ar outer s H E hr =>
    (dss_cons (ds_while PassesOwn.never (dt_w (dw_and (dt_cmp od_lt (de_var 1) (de_callB cd_len (by rfl) T.z_len (by decide +kernel) (da_cons (de_var 0) da_nil))) (dw_and1 (dt_cmp (od_eq (hu64 hr)) (de_ix (de_ix (de_var 0) (de_var 1)) de_int) de_str))))
      (dss_one (ds_set 1 sc_landing.nd (de_ix (de_ix (de_var 0) (de_var 1)) de_int))))
      (dss_one (ds_ret (de_var 1)))))
noncomputable def m_Plan_first_state (A : Adr) : M :=
  mCut (bodyM 4 ((sSeq (sAsg (fLstM aNil) (gNm 1))
      (sSeq (sFor (iEnumD (aCons (fFld A.c_Plan "flows" (fVar 0)) aNil)) (gTupD 2 (gConsD (gNm 2) (gConsD (gNm 3) gNilD)))
      (sExpr (fAppend (fVar 1) (fTup (aCons (fCall (m_landing A) (aCons (fVar 3) (aCons (fC (.int 0)) aNil))) (aCons (fOp gIx (fFld A.c_Plan "starts" (fVar 0)) (fVar 2)) (aCons (fC .non) aNil)))))))
      (sRet (fTup (aCons (fCB gTuple (aCons (fVar 1) aNil)) (aCons (fTup aNil) aNil))))))))
theorem ok_Plan_first_state (T : Facts K mg A) : FnD P w K mg base 2 A.a_Plan_first_state A.d_Plan_first_state P_Plan_first_state (m_Plan_first_state A) :=
  (fn_ok T.F_Plan_first_state sc_Plan_first_state fun cdv Ar outer s H E hr =>
    (dss_cons (ds_set 1 sc_Plan_first_state.nd (de_lstM da_nil))
      (dss_cons (ds_for PassesOwn.never (di_enum (by rfl) T.z_enumerate (da_cons (de_fld T.n_Plan_flows (de_var 0)) da_nil)) (dg_tup (dgs_cons (dg_name 2 sc_Plan_first_state.nd) (dgs_cons (dg_name 3 sc_Plan_first_state.nd) dgs_nil)))
      (dss_one (ds_expr (de_append (de_var 1) (de_tup (da_cons (de_call (ok_landing T) (hr.mono (by decide)) rfl T.g_landing T.F_landing.kp T.b_landing (da_cons (de_var 3) (da_cons de_int da_nil)) (arn_cons (arn_cons arn_nil)) rfl) (da_cons (de_ix (de_fld T.n_Plan_starts (de_var 0)) (de_var 2)) (da_cons de_non da_nil))))))))
      (dss_one (ds_ret (de_tup (da_cons (de_callTy cd_tuple (by rfl) T.z_tuple (by decide +kernel) (da_cons (de_var 1) da_nil)) (da_cons (de_tup da_nil) da_nil)))))))).cut
noncomputable def m_Search_key_of (A : Adr) : M :=
  bodyM 2 ((sRet (fTup (aCons (fOp gIx (fVar 1) (fC (.int 0))) (aCons (fCB gTuple (aCons (fCB gSortS (aCons (fCB gList (aCons (fOp gIx (fVar 1) (fC (.int 1))) aNil)) aNil)) aNil)) aNil)))))
theorem ok_Search_key_of (T : Facts K mg A) : FnD P w K mg base 1 A.a_Search_key_of A.d_Search_key_of P_Search_key_of (m_Search_key_of A) :=
  (fn_ok T.F_Search_key_of sc_Search_key_of fun cdv Ar outer s H E hr =>
    (dss_one (ds_ret (de_tup (da_cons (de_ix (de_var 1) de_int) (da_cons (de_callTy cd_tuple (by rfl) T.z_tuple (by decide +kernel) (da_cons (de_callB cd_sortedS (by rfl) T.z_sorted (by decide +kernel) (da_cons (de_callTy cd_list (by rfl) T.z_list (by decide +kernel) (da_cons (de_ix (de_var 1) de_int) da_nil)) da_nil)) da_nil)) da_nil))))))
noncomputable def m_Plan_step_of (A : Adr) : M :=
  bodyM 4 ((sSeq (sAsg (fOp gIx (fOp gIx (fOp gIx (fVar 1) (fC (.int 0))) (fVar 2)) (fC (.int 0))) (gNm 3))
      (sRet (fIf (tBf (fOp gLt (fVar 3) (fCB gLen (aCons (fOp gIx (fFld A.c_Plan "flows" (fVar 0)) (fVar 2)) aNil)))) (fOp gIx (fOp gIx (fFld A.c_Plan "flows" (fVar 0)) (fVar 2)) (fVar 3)) (fC .non)))))
theorem ok_Plan_step_of (T : Facts K mg A) : FnD P w K mg base 1 A.a_Plan_step_of A.d_Plan_step_of P_Plan_step_of (m_Plan_step_of A) :=
  (fn_ok T.F_Plan_step_of sc_Plan_step_of fun cdv Ar outer s H E hr =>
    (dss_cons (ds_set 3 sc_Plan_step_of.nd (de_ix (de_ix (de_ix (de_var 1) de_int) (de_var 2)) de_int))
      (dss_one (ds_ret (de_if (dt_cmp od_lt (de_var 3) (de_callB cd_len (by rfl) T.z_len (by decide +kernel) (da_cons (de_ix (de_fld T.n_Plan_flows (de_var 0)) (de_var 2)) da_nil))) (de_ix (de_ix (de_fld T.n_Plan_flows (de_var 0)) (de_var 2)) (de_var 3)) de_non)))))
noncomputable def m_Plan_wanted (A : Adr) : M :=
  bodyM 7 ((sSeq (sAsg (fMeth A.c_Plan "step_of" (m_Plan_step_of A) (fVar 0) (aCons (fVar 1) (aCons (fVar 2) aNil))) (gNm 3))
      (sSeq (sAsg (fOp gIx (fOp gIx (fVar 1) (fC (.int 0))) (fVar 2)) (gTupD 3 (gConsD (gNm 4) (gConsD (gNm 5) (gConsD (gNm 6) gNilD)))))
      (sSeq (sIf (tBf (fOp gIsN (fVar 3) (fC .non)))
      (sRet (fC .non))
      sNx)
      (sSeq (sIf (tBf (fOp gEq (fOp gIx (fVar 3) (fC (.int 0))) (fC (.str "move"))))
      (sRet (fTup (aCons (fC (.str "move")) (aCons (fVar 5) (aCons (fOp gIx (fVar 3) (fC (.int 1))) (aCons (fVar 6) aNil))))))
      sNx)
      (sRet (fIf (tBf (fOp gEq (fOp gIx (fVar 3) (fC (.int 0))) (fC (.str "hold")))) (fTup (aCons (fC (.str "rest")) (aCons (fVar 5) (aCons (fOp gIx (fVar 3) (fC (.int 1))) aNil)))) (fC .non))))))))
theorem ok_Plan_wanted (T : Facts K mg A) : FnD P w K mg base 2 A.a_Plan_wanted A.d_Plan_wanted P_Plan_wanted (m_Plan_wanted A) :=
  (fn_ok T.F_Plan_wanted sc_Plan_wanted fun cdv Ar outer s H E hr =>
    (dss_cons (ds_set 3 sc_Plan_wanted.nd (de_meth (de_var 0) T.m_Plan_step_of (ok_Plan_step_of T) (hr.mono (by decide)) T.b_Plan_step_of (da_cons (de_var 1) (da_cons (de_var 2) da_nil)) (arn_cons (arn_cons arn_nil)) rfl))
      (dss_cons (ds_asg (de_ix (de_ix (de_var 1) de_int) (de_var 2)) (dg_tup (dgs_cons (dg_name 4 sc_Plan_wanted.nd) (dgs_cons (dg_name 5 sc_Plan_wanted.nd) (dgs_cons (dg_name 6 sc_Plan_wanted.nd) dgs_nil)))))
      (dss_cons (ds_if (dt_cmp od_isN (de_var 3) de_non)
      (dss_one (ds_ret de_non))
      dss_nil)
      (dss_cons (ds_if (dt_cmp (od_eq (hu64 hr)) (de_ix (de_var 3) de_int) de_str)
      (dss_one (ds_ret (de_tup (da_cons de_str (da_cons (de_var 5) (da_cons (de_ix (de_var 3) de_int) (da_cons (de_var 6) da_nil)))))))
      dss_nil)
      (dss_one (ds_ret (de_if (dt_cmp (od_eq (hu64 hr)) (de_ix (de_var 3) de_int) de_str) (de_tup (da_cons de_str (da_cons (de_var 5) (da_cons (de_ix (de_var 3) de_int) da_nil)))) de_non))))))))
noncomputable def m_Plan_is_clear (A : Adr) : M :=
  bodyM 5 ((sRet (fOp gNotInN (fTup (aCons (fVar 1) (aCons (fVar 2) (aCons (fVar 3) (aCons (fVar 4) aNil))))) (fFld A.c_Plan "blocks" (fVar 0)))))
theorem ok_Plan_is_clear (T : Facts K mg A) : FnD P w K mg base 1 A.a_Plan_is_clear A.d_Plan_is_clear P_Plan_is_clear (m_Plan_is_clear A) :=
  (fn_ok T.F_Plan_is_clear sc_Plan_is_clear fun cdv Ar outer s H E hr =>
    (dss_one (ds_ret (de_cmp (od_notInN (hu64 hr)) (de_tup (da_cons (de_var 1) (da_cons (de_var 2) (da_cons (de_var 3) (da_cons (de_var 4) da_nil))))) (de_fld T.n_Plan_blocks (de_var 0))))))
noncomputable def m_Plan_rest_of (A : Adr) : M :=
  bodyM 6 ((sSeq (sAsg (fOp gIx (fOp gIx (fVar 1) (fC (.int 0))) (fVar 2)) (gTupD 3 (gConsD (gNm 3) (gConsD (gNm 4) (gConsD (gNm 5) gNilD)))))
      (sRet (fTup (aCons (fC (.str "rest")) (aCons (fVar 4) (aCons (fVar 5) aNil)))))))
theorem ok_Plan_rest_of (T : Facts K mg A) : FnD P w K mg base 1 A.a_Plan_rest_of A.d_Plan_rest_of P_Plan_rest_of (m_Plan_rest_of A) :=
  (fn_ok T.F_Plan_rest_of sc_Plan_rest_of fun cdv Ar outer s H E hr =>
    (dss_cons (ds_asg (de_ix (de_ix (de_var 1) de_int) (de_var 2)) (dg_tup (dgs_cons (dg_name 3 sc_Plan_rest_of.nd) (dgs_cons (dg_name 4 sc_Plan_rest_of.nd) (dgs_cons (dg_name 5 sc_Plan_rest_of.nd) dgs_nil)))))
      (dss_one (ds_ret (de_tup (da_cons de_str (da_cons (de_var 4) (da_cons (de_var 5) da_nil))))))))
noncomputable def m_Plan_hindered_by (A : Adr) : M :=
  bodyM 5 ((sSeq (sAsg (fMeth A.c_Plan "wanted" (m_Plan_wanted A) (fVar 0) (aCons (fVar 1) (aCons (fVar 2) aNil))) (gNm 3))
      (sSeq (sIf (tBf (fOp gIsN (fVar 3) (fC .non)))
      (sRet (fC .non))
      sNx)
      (sSeq (sFor (iRange1 (aCons (fCB gLen (aCons (fFld A.c_Plan "flows" (fVar 0)) aNil)) aNil)) (gNm 4)
      (sIf (tAndf (tBf (fOp gNe (fVar 4) (fVar 2))) (tNotf (tBf (fMeth A.c_Plan "is_clear" (m_Plan_is_clear A) (fVar 0) (aCons (fVar 2) (aCons (fVar 3) (aCons (fVar 4) (aCons (fMeth A.c_Plan "rest_of" (m_Plan_rest_of A) (fVar 0) (aCons (fVar 1) (aCons (fVar 4) aNil))) aNil))))))))
      (sRet (fVar 4))
      sNx))
      (sRet (fC .non))))))
theorem ok_Plan_hindered_by (T : Facts K mg A) : FnD P w K mg base 3 A.a_Plan_hindered_by A.d_Plan_hindered_by P_Plan_hindered_by (m_Plan_hindered_by A) :=
  (fn_ok T.F_Plan_hindered_by sc_Plan_hindered_by fun cdv Ar outer s H E hr =>
    (dss_cons (ds_set 3 sc_Plan_hindered_by.nd (de_meth (de_var 0) T.m_Plan_wanted (ok_Plan_wanted T) (hr.mono (by decide)) T.b_Plan_wanted (da_cons (de_var 1) (da_cons (de_var 2) da_nil)) (arn_cons (arn_cons arn_nil)) rfl))
      (dss_cons (ds_if (dt_cmp od_isN (de_var 3) de_non)
      (dss_one (ds_ret de_non))
      dss_nil)
      (dss_cons (ds_for PassesOwn.never (di_range1 (by rfl) T.z_range (da_cons (de_callB cd_len (by rfl) T.z_len (by decide +kernel) (da_cons (de_fld T.n_Plan_flows (de_var 0)) da_nil)) da_nil)) (dg_name 4 sc_Plan_hindered_by.nd)
      (dss_one (ds_if (dt_w (dw_and (dt_cmp (od_ne (hu64 hr)) (de_var 4) (de_var 2)) (dw_and1 (dt_not (dt_val (de_meth (de_var 0) T.m_Plan_is_clear (ok_Plan_is_clear T) (hr.mono (by decide)) T.b_Plan_is_clear (da_cons (de_var 2) (da_cons (de_var 3) (da_cons (de_var 4) (da_cons (de_meth (de_var 0) T.m_Plan_rest_of (ok_Plan_rest_of T) (hr.mono (by decide)) T.b_Plan_rest_of (da_cons (de_var 1) (da_cons (de_var 4) da_nil)) (arn_cons (arn_cons arn_nil)) rfl) da_nil)))) (arn_cons (arn_cons (arn_cons (arn_cons arn_nil)))) rfl))))))
      (dss_one (ds_ret (de_var 4)))
      dss_nil)))
      (dss_one (ds_ret de_non))))))
noncomputable def m_Plan_can_step (A : Adr) : M :=
  bodyM 4 ((sSeq (sAsg (fMeth A.c_Plan "step_of" (m_Plan_step_of A) (fVar 0) (aCons (fVar 1) (aCons (fVar 2) aNil))) (gNm 3))
      (sSeq (sIf (tBf (fOp gIsN (fVar 3) (fC .non)))
      (sRet (fC (.bl false)))
      sNx)
      (sSeq (sIf (tBf (fOp gEq (fOp gIx (fVar 3) (fC (.int 0))) (fC (.str "wait"))))
      (sRet (fOp gEq (fOp gInF (fOp gIx (fVar 3) (fC (.int 1))) (fOp gIx (fVar 1) (fC (.int 1)))) (fOp gIx (fVar 3) (fC (.int 2)))))
      sNx)
      (sRet (fOp gIsN (fMeth A.c_Plan "hindered_by" (m_Plan_hindered_by A) (fVar 0) (aCons (fVar 1) (aCons (fVar 2) aNil))) (fC .non)))))))
theorem ok_Plan_can_step (T : Facts K mg A) : FnD P w K mg base 4 A.a_Plan_can_step A.d_Plan_can_step P_Plan_can_step (m_Plan_can_step A) :=
  (fn_ok T.F_Plan_can_step sc_Plan_can_step fun cdv Ar outer s H E hr =>
    (dss_cons (ds_set 3 sc_Plan_can_step.nd (de_meth (de_var 0) T.m_Plan_step_of (ok_Plan_step_of T) (hr.mono (by decide)) T.b_Plan_step_of (da_cons (de_var 1) (da_cons (de_var 2) da_nil)) (arn_cons (arn_cons arn_nil)) rfl))
      (dss_cons (ds_if (dt_cmp od_isN (de_var 3) de_non)
      (dss_one (ds_ret de_bl))
      dss_nil)
      (dss_cons (ds_if (dt_cmp (od_eq (hu64 hr)) (de_ix (de_var 3) de_int) de_str)
      (dss_one (ds_ret (de_cmp (od_eq (hu64 hr)) (de_cmp od_inF (de_ix (de_var 3) de_int) (de_ix (de_var 1) de_int)) (de_ix (de_var 3) de_int))))
      dss_nil)
      (dss_one (ds_ret (de_cmp od_isN (de_meth (de_var 0) T.m_Plan_hindered_by (ok_Plan_hindered_by T) (hr.mono (by decide)) T.b_Plan_hindered_by (da_cons (de_var 1) (da_cons (de_var 2) da_nil)) (arn_cons (arn_cons arn_nil)) rfl) de_non)))))))
noncomputable def m_Plan_stepped (A : Adr) : M :=
  mCut (bodyM 9 ((sSeq (sAsg (fListM (aCons (fOp gIx (fVar 1) (fC (.int 0))) aNil)) (gNm 5))
      (sSeq (sAsg (fVar 3) (gTupD 3 (gConsD (gNm 6) (gConsD (gNm 7) (gConsD (gNm 8) gNilD)))))
      (sSeq (sAsg (fTup (aCons (fCall (m_landing A) (aCons (fOp gIx (fFld A.c_Plan "flows" (fVar 0)) (fVar 2)) (aCons (fVar 6) aNil))) (aCons (fVar 7) (aCons (fVar 8) aNil)))) (gSubD (fVar 5) (fVar 2)))
      (sRet (fTup (aCons (fCB gTuple (aCons (fVar 5) aNil)) (aCons (fVar 4) aNil)))))))))
theorem ok_Plan_stepped (T : Facts K mg A) : FnD P w K mg base 2 A.a_Plan_stepped A.d_Plan_stepped P_Plan_stepped (m_Plan_stepped A) :=
  (fn_ok T.F_Plan_stepped sc_Plan_stepped fun cdv Ar outer s H E hr =>
    (dss_cons (ds_set 5 sc_Plan_stepped.nd (de_listM rfl T.z_list (da_cons (de_ix (de_var 1) de_int) da_nil)))
      (dss_cons (ds_asg (de_var 3) (dg_tup (dgs_cons (dg_name 6 sc_Plan_stepped.nd) (dgs_cons (dg_name 7 sc_Plan_stepped.nd) (dgs_cons (dg_name 8 sc_Plan_stepped.nd) dgs_nil)))))
      (dss_cons (ds_asg (de_tup (da_cons (de_call (ok_landing T) (hr.mono (by decide)) rfl T.g_landing T.F_landing.kp T.b_landing (da_cons (de_ix (de_fld T.n_Plan_flows (de_var 0)) (de_var 2)) (da_cons (de_var 6) da_nil)) (arn_cons (arn_cons arn_nil)) rfl) (da_cons (de_var 7) (da_cons (de_var 8) da_nil)))) (dg_sub (de_var 5) (de_var 2)))
      (dss_one (ds_ret (de_tup (da_cons (de_callTy cd_tuple (by rfl) T.z_tuple (by decide +kernel) (da_cons (de_var 5) da_nil)) (da_cons (de_var 4) da_nil))))))))).cut
noncomputable def m_switched (A : Adr) : M :=
  bodyM 4 ((sSeq (sIf (tBf (fVar 2))
      (sRet (fIf (tBf (fOp gInF (fVar 1) (fVar 0))) (fVar 0) (fOp gCatA (fVar 0) (fTup (aCons (fVar 1) aNil)))))
      sNx)
      (sRet (fCB gTuple (aCons (fCut (fLCM (iSeq (fVar 0)) (gNm 3) (tBf (fOp gNe (fVar 3) (fVar 1))) (fVar 3) [3])) aNil)))))
theorem ok_switched (T : Facts K mg A) : FnD P w K mg base 1 A.a_switched A.d_switched P_switched (m_switched A) :=
  (fn_ok T.F_switched sc_switched fun cdv Ar outer s H E hr =>
    (dss_cons (ds_if (dt_val (de_var 2))
      (dss_one (ds_ret (de_if (dt_cmp od_inF (de_var 1) (de_var 0)) (de_var 0) (de_op od_cat (de_var 0) (de_tup (da_cons (de_var 1) da_nil))))))
      dss_nil)
      (dss_one (ds_ret (de_callTy cd_tuple (by rfl) T.z_tuple (by decide +kernel) (da_cons (de_cut (de_lcM (own := [("other", 3)]) sc_switched.nd (di_seq (de_var 0)) (blkOk_by (own := [("other", 3)]) (N := N_switched) (sc := defScope s_switched) (by decide +kernel)) (fun _ _ _ _ _ => pg_name (i := 3) sc_switched.nd rfl (Or.inl rfl)) (rg_name 3) (wo_name (by decide)) (fun _ _ _ _ _ => dts_one (dt_cmp (od_ne (hu64 hr)) (de_var 3) (de_var 1))) (fun _ _ _ _ _ => (de_var 3)))) da_nil))))))
noncomputable def m_Plan_outcomes (A : Adr) : M :=
  bodyM 9 ((sSeq (sAsg (fMeth A.c_Plan "step_of" (m_Plan_step_of A) (fVar 0) (aCons (fVar 1) (aCons (fVar 2) aNil))) (gNm 3))
      (sSeq (sIf (tBf (fOp gIsN (fVar 3) (fC .non)))
      (sRet (fLst aNil))
      sNx)
      (sSeq (sAsg (fOp gIx (fOp gIx (fVar 1) (fC (.int 0))) (fVar 2)) (gTupD 3 (gConsD (gNm 4) (gConsD (gNm 5) (gConsD (gNm 6) gNilD)))))
      (sSeq (sIf (tBf (fOp gEq (fOp gIx (fVar 3) (fC (.int 0))) (fC (.str "move"))))
      (sRet (fLst (aCons (fMeth A.c_Plan "stepped" (m_Plan_stepped A) (fVar 0) (aCons (fVar 1) (aCons (fVar 2) (aCons (fTup (aCons (fOp gAdd (fVar 4) (fC (.int 1))) (aCons (fOp gIx (fVar 3) (fC (.int 1))) (aCons (fVar 6) aNil)))) (aCons (fOp gIx (fVar 1) (fC (.int 1))) aNil))))) aNil)))
      sNx)
      (sSeq (sIf (tBf (fOp gEq (fOp gIx (fVar 3) (fC (.int 0))) (fC (.str "hold"))))
      (sRet (fLst (aCons (fMeth A.c_Plan "stepped" (m_Plan_stepped A) (fVar 0) (aCons (fVar 1) (aCons (fVar 2) (aCons (fTup (aCons (fOp gAdd (fVar 4) (fC (.int 1))) (aCons (fVar 5) (aCons (fOp gIx (fVar 3) (fC (.int 1))) aNil)))) (aCons (fOp gIx (fVar 1) (fC (.int 1))) aNil))))) aNil)))
      sNx)
      (sSeq (sIf (tBf (fOp gEq (fOp gIx (fVar 3) (fC (.int 0))) (fC (.str "set"))))
      (sSeq (sAsg (fCall (m_switched A) (aCons (fOp gIx (fVar 1) (fC (.int 1))) (aCons (fOp gIx (fVar 3) (fC (.int 1))) (aCons (fOp gIx (fVar 3) (fC (.int 2))) aNil)))) (gNm 7))
      (sRet (fLst (aCons (fMeth A.c_Plan "stepped" (m_Plan_stepped A) (fVar 0) (aCons (fVar 1) (aCons (fVar 2) (aCons (fTup (aCons (fOp gAdd (fVar 4) (fC (.int 1))) (aCons (fVar 5) (aCons (fVar 6) aNil)))) (aCons (fVar 7) aNil))))) aNil))))
      sNx)
      (sSeq (sAsg (fMeth A.c_Plan "stepped" (m_Plan_stepped A) (fVar 0) (aCons (fVar 1) (aCons (fVar 2) (aCons (fTup (aCons (fOp gAdd (fVar 4) (fC (.int 1))) (aCons (fVar 5) (aCons (fVar 6) aNil)))) (aCons (fOp gIx (fVar 1) (fC (.int 1))) aNil))))) (gNm 8))
      (sSeq (sIf (tBf (fOp gEq (fOp gIx (fVar 3) (fC (.int 0))) (fC (.str "if"))))
      (sRet (fLst (aCons (fVar 8) (aCons (fMeth A.c_Plan "stepped" (m_Plan_stepped A) (fVar 0) (aCons (fVar 1) (aCons (fVar 2) (aCons (fTup (aCons (fOp gIx (fVar 3) (fC (.int 2))) (aCons (fVar 5) (aCons (fVar 6) aNil)))) (aCons (fOp gIx (fVar 1) (fC (.int 1))) aNil))))) aNil))))
      sNx)
      (sRet (fLst (aCons (fVar 8) aNil))))))))))))
theorem ok_Plan_outcomes (T : Facts K mg A) : FnD P w K mg base 3 A.a_Plan_outcomes A.d_Plan_outcomes P_Plan_outcomes (m_Plan_outcomes A) :=
  (fn_ok T.F_Plan_outcomes sc_Plan_outcomes fun cdv Ar outer s H E hr =>
    (dss_cons (ds_set 3 sc_Plan_outcomes.nd (de_meth (de_var 0) T.m_Plan_step_of (ok_Plan_step_of T) (hr.mono (by decide)) T.b_Plan_step_of (da_cons (de_var 1) (da_cons (de_var 2) da_nil)) (arn_cons (arn_cons arn_nil)) rfl))
      (dss_cons (ds_if (dt_cmp od_isN (de_var 3) de_non)
      (dss_one (ds_ret (de_lst da_nil)))
      dss_nil)
      (dss_cons (ds_asg (de_ix (de_ix (de_var 1) de_int) (de_var 2)) (dg_tup (dgs_cons (dg_name 4 sc_Plan_outcomes.nd) (dgs_cons (dg_name 5 sc_Plan_outcomes.nd) (dgs_cons (dg_name 6 sc_Plan_outcomes.nd) dgs_nil)))))
      (dss_cons (ds_if (dt_cmp (od_eq (hu64 hr)) (de_ix (de_var 3) de_int) de_str)
      (dss_one (ds_ret (de_lst (da_cons (de_meth (de_var 0) T.m_Plan_stepped (ok_Plan_stepped T) (hr.mono (by decide)) T.b_Plan_stepped (da_cons (de_var 1) (da_cons (de_var 2) (da_cons (de_tup (da_cons (de_op od_add (de_var 4) de_int) (da_cons (de_ix (de_var 3) de_int) (da_cons (de_var 6) da_nil)))) (da_cons (de_ix (de_var 1) de_int) da_nil)))) (arn_cons (arn_cons (arn_cons (arn_cons arn_nil)))) rfl) da_nil))))
      dss_nil)
      (dss_cons (ds_if (dt_cmp (od_eq (hu64 hr)) (de_ix (de_var 3) de_int) de_str)
      (dss_one (ds_ret (de_lst (da_cons (de_meth (de_var 0) T.m_Plan_stepped (ok_Plan_stepped T) (hr.mono (by decide)) T.b_Plan_stepped (da_cons (de_var 1) (da_cons (de_var 2) (da_cons (de_tup (da_cons (de_op od_add (de_var 4) de_int) (da_cons (de_var 5) (da_cons (de_ix (de_var 3) de_int) da_nil)))) (da_cons (de_ix (de_var 1) de_int) da_nil)))) (arn_cons (arn_cons (arn_cons (arn_cons arn_nil)))) rfl) da_nil))))
      dss_nil)
      (dss_cons (ds_if (dt_cmp (od_eq (hu64 hr)) (de_ix (de_var 3) de_int) de_str)
      (dss_cons (ds_set 7 sc_Plan_outcomes.nd (de_call (ok_switched T) (hr.mono (by decide)) rfl T.g_switched T.F_switched.kp T.b_switched (da_cons (de_ix (de_var 1) de_int) (da_cons (de_ix (de_var 3) de_int) (da_cons (de_ix (de_var 3) de_int) da_nil))) (arn_cons (arn_cons (arn_cons arn_nil))) rfl))
      (dss_one (ds_ret (de_lst (da_cons (de_meth (de_var 0) T.m_Plan_stepped (ok_Plan_stepped T) (hr.mono (by decide)) T.b_Plan_stepped (da_cons (de_var 1) (da_cons (de_var 2) (da_cons (de_tup (da_cons (de_op od_add (de_var 4) de_int) (da_cons (de_var 5) (da_cons (de_var 6) da_nil)))) (da_cons (de_var 7) da_nil)))) (arn_cons (arn_cons (arn_cons (arn_cons arn_nil)))) rfl) da_nil)))))
      dss_nil)
      (dss_cons (ds_set 8 sc_Plan_outcomes.nd (de_meth (de_var 0) T.m_Plan_stepped (ok_Plan_stepped T) (hr.mono (by decide)) T.b_Plan_stepped (da_cons (de_var 1) (da_cons (de_var 2) (da_cons (de_tup (da_cons (de_op od_add (de_var 4) de_int) (da_cons (de_var 5) (da_cons (de_var 6) da_nil)))) (da_cons (de_ix (de_var 1) de_int) da_nil)))) (arn_cons (arn_cons (arn_cons (arn_cons arn_nil)))) rfl))
      (dss_cons (ds_if (dt_cmp (od_eq (hu64 hr)) (de_ix (de_var 3) de_int) de_str)
      (dss_one (ds_ret (de_lst (da_cons (de_var 8) (da_cons (de_meth (de_var 0) T.m_Plan_stepped (ok_Plan_stepped T) (hr.mono (by decide)) T.b_Plan_stepped (da_cons (de_var 1) (da_cons (de_var 2) (da_cons (de_tup (da_cons (de_ix (de_var 3) de_int) (da_cons (de_var 5) (da_cons (de_var 6) da_nil)))) (da_cons (de_ix (de_var 1) de_int) da_nil)))) (arn_cons (arn_cons (arn_cons (arn_cons arn_nil)))) rfl) da_nil)))))
      dss_nil)
      (dss_one (ds_ret (de_lst (da_cons (de_var 8) da_nil)))))))))))))
noncomputable def m_Search_open_outcome (A : Adr) : M :=
  bodyM 4 ((sSeq (sFor (iRange1 (aCons (fCB gLen (aCons (fFld A.c_Plan "flows" (fFld A.c_Search "plan" (fVar 0))) aNil)) aNil)) (gNm 2)
      (sIf (tBf (fMeth A.c_Plan "can_step" (m_Plan_can_step A) (fFld A.c_Search "plan" (fVar 0)) (aCons (fVar 1) (aCons (fVar 2) aNil))))
      (sFor (iSeq (fMeth A.c_Plan "outcomes" (m_Plan_outcomes A) (fFld A.c_Search "plan" (fVar 0)) (aCons (fVar 1) (aCons (fVar 2) aNil)))) (gNm 3)
      (sIf (tBf (fOp gNotInN (fMeth A.c_Search "key_of" (m_Search_key_of A) (fVar 0) (aCons (fVar 3) aNil)) (fFld A.c_Search "known" (fVar 0))))
      (sRet (fVar 3))
      sNx))
      sNx))
      (sRet (fC .non))))
theorem ok_Search_open_outcome (T : Facts K mg A) : FnD P w K mg base 5 A.a_Search_open_outcome A.d_Search_open_outcome P_Search_open_outcome (m_Search_open_outcome A) :=
  (fn_ok T.F_Search_open_outcome sc_Search_open_outcome fun cdv Ar outer s H E hr =>
    (dss_cons (ds_for PassesOwn.never (di_range1 (by rfl) T.z_range (da_cons (de_callB cd_len (by rfl) T.z_len (by decide +kernel) (da_cons (de_fld T.n_Plan_flows (de_fld T.n_Search_plan (de_var 0))) da_nil)) da_nil)) (dg_name 2 sc_Search_open_outcome.nd)
      (dss_one (ds_if (dt_val (de_meth (de_fld T.n_Search_plan (de_var 0)) T.m_Plan_can_step (ok_Plan_can_step T) (hr.mono (by decide)) T.b_Plan_can_step (da_cons (de_var 1) (da_cons (de_var 2) da_nil)) (arn_cons (arn_cons arn_nil)) rfl))
      (dss_one (ds_for PassesOwn.never (di_seq (de_meth (de_fld T.n_Search_plan (de_var 0)) T.m_Plan_outcomes (ok_Plan_outcomes T) (hr.mono (by decide)) T.b_Plan_outcomes (da_cons (de_var 1) (da_cons (de_var 2) da_nil)) (arn_cons (arn_cons arn_nil)) rfl)) (dg_name 3 sc_Search_open_outcome.nd)
      (dss_one (ds_if (dt_cmp (od_notInN (hu64 hr)) (de_meth (de_var 0) T.m_Search_key_of (ok_Search_key_of T) (hr.mono (by decide)) T.b_Search_key_of (da_cons (de_var 3) da_nil) (arn_cons arn_nil) rfl) (de_fld T.n_Search_known (de_var 0)))
      (dss_one (ds_ret (de_var 3)))
      dss_nil))))
      dss_nil)))
      (dss_one (ds_ret de_non))))
noncomputable def m_Plan_has_ended (A : Adr) : M :=
  bodyM 3 ((sRet (fOp gGe (fOp gIx (fOp gIx (fOp gIx (fVar 1) (fC (.int 0))) (fVar 2)) (fC (.int 0))) (fCB gLen (aCons (fOp gIx (fFld A.c_Plan "flows" (fVar 0)) (fVar 2)) aNil)))))
theorem ok_Plan_has_ended (T : Facts K mg A) : FnD P w K mg base 1 A.a_Plan_has_ended A.d_Plan_has_ended P_Plan_has_ended (m_Plan_has_ended A) :=
  (fn_ok T.F_Plan_has_ended sc_Plan_has_ended fun cdv Ar outer s H E hr =>
    (dss_one (ds_ret (de_cmp od_ge (de_ix (de_ix (de_ix (de_var 1) de_int) (de_var 2)) de_int) (de_callB cd_len (by rfl) T.z_len (by decide +kernel) (da_cons (de_ix (de_fld T.n_Plan_flows (de_var 0)) (de_var 2)) da_nil))))))
noncomputable def m_Plan_all_ended (A : Adr) : M :=
  bodyM 3 ((sSeq (sFor (iRange1 (aCons (fCB gLen (aCons (fFld A.c_Plan "flows" (fVar 0)) aNil)) aNil)) (gNm 2)
      (sIf (tNotf (tBf (fMeth A.c_Plan "has_ended" (m_Plan_has_ended A) (fVar 0) (aCons (fVar 1) (aCons (fVar 2) aNil)))))
      (sRet (fC (.bl false)))
      sNx))
      (sRet (fC (.bl true)))))
theorem ok_Plan_all_ended (T : Facts K mg A) : FnD P w K mg base 2 A.a_Plan_all_ended A.d_Plan_all_ended P_Plan_all_ended (m_Plan_all_ended A) :=
  (fn_ok T.F_Plan_all_ended sc_Plan_all_ended fun cdv Ar outer s H E hr =>
    (dss_cons (ds_for PassesOwn.never (di_range1 (by rfl) T.z_range (da_cons (de_callB cd_len (by rfl) T.z_len (by decide +kernel) (da_cons (de_fld T.n_Plan_flows (de_var 0)) da_nil)) da_nil)) (dg_name 2 sc_Plan_all_ended.nd)
      (dss_one (ds_if (dt_not (dt_val (de_meth (de_var 0) T.m_Plan_has_ended (ok_Plan_has_ended T) (hr.mono (by decide)) T.b_Plan_has_ended (da_cons (de_var 1) (da_cons (de_var 2) da_nil)) (arn_cons (arn_cons arn_nil)) rfl)))
      (dss_one (ds_ret de_bl))
      dss_nil)))
      (dss_one (ds_ret de_bl))))
noncomputable def m_Search_good_arm (A : Adr) : M :=
  bodyM 5 ((sSeq (sFor (iRange1 (aCons (fCB gLen (aCons (fFld A.c_Plan "flows" (fFld A.c_Search "plan" (fVar 0))) aNil)) aNil)) (gNm 2)
      (sIf (tBf (fMeth A.c_Plan "can_step" (m_Plan_can_step A) (fFld A.c_Search "plan" (fVar 0)) (aCons (fVar 1) (aCons (fVar 2) aNil))))
      (sSeq (sAsg (fMeth A.c_Plan "outcomes" (m_Plan_outcomes A) (fFld A.c_Search "plan" (fVar 0)) (aCons (fVar 1) (aCons (fVar 2) aNil))) (gNm 3))
      (sIf (tBf (fCB gAll (aCons (fCut (fLCM (iSeq (fVar 3)) (gNm 4) tTrue (fOp gDGet (fFld A.c_Search "known" (fVar 0)) (fMeth A.c_Search "key_of" (m_Search_key_of A) (fVar 0) (aCons (fVar 4) aNil))) [4])) aNil)))
      (sRet (fVar 2))
      sNx))
      sNx))
      (sRet (fC .non))))
theorem ok_Search_good_arm (T : Facts K mg A) : FnD P w K mg base 5 A.a_Search_good_arm A.d_Search_good_arm P_Search_good_arm (m_Search_good_arm A) :=
  (fn_ok T.F_Search_good_arm sc_Search_good_arm fun cdv Ar outer s H E hr =>
    (dss_cons (ds_for PassesOwn.never (di_range1 (by rfl) T.z_range (da_cons (de_callB cd_len (by rfl) T.z_len (by decide +kernel) (da_cons (de_fld T.n_Plan_flows (de_fld T.n_Search_plan (de_var 0))) da_nil)) da_nil)) (dg_name 2 sc_Search_good_arm.nd)
      (dss_one (ds_if (dt_val (de_meth (de_fld T.n_Search_plan (de_var 0)) T.m_Plan_can_step (ok_Plan_can_step T) (hr.mono (by decide)) T.b_Plan_can_step (da_cons (de_var 1) (da_cons (de_var 2) da_nil)) (arn_cons (arn_cons arn_nil)) rfl))
      (dss_cons (ds_set 3 sc_Search_good_arm.nd (de_meth (de_fld T.n_Search_plan (de_var 0)) T.m_Plan_outcomes (ok_Plan_outcomes T) (hr.mono (by decide)) T.b_Plan_outcomes (da_cons (de_var 1) (da_cons (de_var 2) da_nil)) (arn_cons (arn_cons arn_nil)) rfl))
      (dss_one (ds_if (dt_val (de_callB (cd_all rfl) (by rfl) T.z_all (by decide +kernel) (da_cons (de_cut (de_lcM (own := [("outcome", 4)]) sc_Search_good_arm.nd (di_seq (de_var 3)) (blkOk_by (own := [("outcome", 4)]) (N := N_Search_good_arm) (sc := defScope s_Search_good_arm) (by decide +kernel)) (fun _ _ _ _ _ => pg_name (i := 4) sc_Search_good_arm.nd rfl (Or.inl rfl)) (rg_name 4) (wo_name (by decide)) (fun _ _ _ _ _ => dts_nil) (fun _ _ _ _ _ => (de_dget (hu64 hr) (de_fld T.n_Search_known (de_var 0)) (de_meth (de_var 0) T.m_Search_key_of (ok_Search_key_of T) (hr.mono (by decide)) T.b_Search_key_of (da_cons (de_var 4) da_nil) (arn_cons arn_nil) rfl))))) da_nil)))
      (dss_one (ds_ret (de_var 2)))
      dss_nil)))
      dss_nil)))
      (dss_one (ds_ret de_non))))
noncomputable def m_Search_is_safe (A : Adr) : M :=
  mCut (bodyM 6 ((sSeq (sAsg (fLstM (aCons (fVar 1) aNil)) (gNm 2))
      (sSeq (sWhile (tBf (fOp gGt (fCB gLen (aCons (fVar 2) aNil)) (fC (.int 0))))
      (sSeq (sAsg (fOp gIx (fVar 2) (fNeg (fC (.int 1)))) (gNm 3))
      (sSeq (sAsg (fMeth A.c_Search "key_of" (m_Search_key_of A) (fVar 0) (aCons (fVar 3) aNil)) (gNm 4))
      (sSeq (sAsg (fIf (tBf (fOp gInN (fVar 4) (fFld A.c_Search "known" (fVar 0)))) (fC .non) (fMeth A.c_Search "open_outcome" (m_Search_open_outcome A) (fVar 0) (aCons (fVar 3) aNil))) (gNm 5))
      (sSeq (sIf (tBf (fOp gNotN (fVar 5) (fC .non)))
      (sSeq (sExpr (fAppend (fVar 2) (fVar 5)))
      sCt)
      sNx)
      (sSeq (sIf (tBf (fOp gNotInN (fVar 4) (fFld A.c_Search "known" (fVar 0))))
      (sDPutD (fFld A.c_Search "known" (fVar 0)) (fVar 4) (fOr (fMeth A.c_Plan "all_ended" (m_Plan_all_ended A) (fFld A.c_Search "plan" (fVar 0)) (aCons (fVar 3) aNil)) (fOp gNotN (fMeth A.c_Search "good_arm" (m_Search_good_arm A) (fVar 0) (aCons (fVar 3) aNil)) (fC .non))))
      sNx)
      (sExpr (fPop (fVar 2)))))))))
      (sRet (fOp gDGet (fFld A.c_Search "known" (fVar 0)) (fMeth A.c_Search "key_of" (m_Search_key_of A) (fVar 0) (aCons (fVar 1) aNil))))))))
theorem ok_Search_is_safe (T : Facts K mg A) : FnD P w K mg base 6 A.a_Search_is_safe A.d_Search_is_safe P_Search_is_safe (m_Search_is_safe A) :=
  (fn_ok T.F_Search_is_safe sc_Search_is_safe fun cdv Ar outer s H E hr =>
    (dss_cons (ds_set 2 sc_Search_is_safe.nd (de_lstM (da_cons (de_var 1) da_nil)))
      (dss_cons (ds_while PassesOwn.never (dt_cmp od_gt (de_callB cd_len (by rfl) T.z_len (by decide +kernel) (da_cons (de_var 2) da_nil)) de_int)
      (dss_cons (ds_set 3 sc_Search_is_safe.nd (de_ix (de_var 2) (de_neg de_int)))
      (dss_cons (ds_set 4 sc_Search_is_safe.nd (de_meth (de_var 0) T.m_Search_key_of (ok_Search_key_of T) (hr.mono (by decide)) T.b_Search_key_of (da_cons (de_var 3) da_nil) (arn_cons arn_nil) rfl))
      (dss_cons (ds_set 5 sc_Search_is_safe.nd (de_if (dt_cmp (od_inN (hu64 hr)) (de_var 4) (de_fld T.n_Search_known (de_var 0))) de_non (de_meth (de_var 0) T.m_Search_open_outcome (ok_Search_open_outcome T) (hr.mono (by decide)) T.b_Search_open_outcome (da_cons (de_var 3) da_nil) (arn_cons arn_nil) rfl)))
      (dss_cons (ds_if (dt_cmp od_notN (de_var 5) de_non)
      (dss_cons (ds_expr (de_append (de_var 2) (de_var 5)))
      (dss_one ds_continue))
      dss_nil)
      (dss_cons (ds_if (dt_cmp (od_notInN (hu64 hr)) (de_var 4) (de_fld T.n_Search_known (de_var 0)))
      (dss_one (ds_dput (hu64 hr) (de_fld T.n_Search_known (de_var 0)) (de_var 4) (de_or (de_meth (de_fld T.n_Search_plan (de_var 0)) T.m_Plan_all_ended (ok_Plan_all_ended T) (hr.mono (by decide)) T.b_Plan_all_ended (da_cons (de_var 3) da_nil) (arn_cons arn_nil) rfl) (de_one (de_cmp od_notN (de_meth (de_var 0) T.m_Search_good_arm (ok_Search_good_arm T) (hr.mono (by decide)) T.b_Search_good_arm (da_cons (de_var 3) da_nil) (arn_cons arn_nil) rfl) de_non)))))
      dss_nil)
      (dss_one (ds_expr (de_pop (de_var 2))))))))))
      (dss_one (ds_ret (de_dget (hu64 hr) (de_fld T.n_Search_known (de_var 0)) (de_meth (de_var 0) T.m_Search_key_of (ok_Search_key_of T) (hr.mono (by decide)) T.b_Search_key_of (da_cons (de_var 1) da_nil) (arn_cons arn_nil) rfl))))))).cut
noncomputable def m_Search___init__ (A : Adr) : M :=
  bodyM 2 ((sSeq (sFldD A.c_Search "plan" (fVar 0) (fVar 1))
      (sFldD A.c_Search "known" (fVar 0) fDctM)))
theorem ok_Search___init__ (T : Facts K mg A) : FnD P w K mg base 1 A.a_Search___init__ A.d_Search___init__ P_Search___init__ (m_Search___init__ A) :=
  (fn_ok T.F_Search___init__ sc_Search___init__ fun cdv Ar outer s H E hr =>
    (dss_cons (ds_fld T.n_Search_plan (de_var 0) (de_var 1))
      (dss_one (ds_fld T.n_Search_known (de_var 0) de_dctM))))
noncomputable def m_Runner___init__ (A : Adr) : MX :=
  bodyX 3 ((sSeq (sFldD A.c_Runner "plan" (fVar 0) (fVar 1))
      (sSeq (sFldD A.c_Runner "state" (fVar 0) (fMeth A.c_Plan "first_state" (m_Plan_first_state A) (fVar 1) aNil))
      (sSeq (sFldD A.c_Runner "events" (fVar 0) (fC (.int 0)))
      (sSeq (sFldD A.c_Runner "moving" (fVar 0) (fLCM (iSeq (fFld A.c_Plan "flows" (fVar 1))) (gNm 2) tTrue (fC (.bl false)) [2]))
      (sSeq (sFldD A.c_Runner "halted" (fVar 0) (fLCM (iSeq (fFld A.c_Plan "flows" (fVar 1))) (gNm 2) tTrue (fC (.bl false)) [2]))
      (sIf (tNotf (tBf (fCut (fMeth A.c_Search "is_safe" (m_Search_is_safe A) (fCallD (mNew A.c_Search (m_Search___init__ A)) [] (aCons (fVar 1) aNil)) (aCons (fFld A.c_Runner "state" (fVar 0)) aNil)))))
      (sRaise A.c_NotSafe)
      sNx)))))))
theorem ok_Runner___init__ (T : Facts K mg A) : FnX P w K mg base 7 A.a_Runner___init__ A.d_Runner___init__ P_Runner___init__ (m_Runner___init__ A) :=
  (fnx_ok T.F_Runner___init__ sc_Runner___init__ fun cdv Ar outer s H E hr =>
    (dss_cons (ds_fld T.n_Runner_plan (de_var 0) (de_var 1))
      (dss_cons (ds_fld T.n_Runner_state (de_var 0) (de_meth0 (de_var 1) T.m_Plan_first_state (ok_Plan_first_state T) (hr.mono (by decide)) T.b_Plan_first_state rfl))
      (dss_cons (ds_fld T.n_Runner_events (de_var 0) de_int)
      (dss_cons (ds_fld T.n_Runner_moving (de_var 0) (de_lcM (own := [("_", 2)]) sc_Runner___init__.nd (di_seq (de_fld T.n_Plan_flows (de_var 1))) (blkOk_by (own := [("_", 2)]) (N := N_Runner___init__) (sc := defScope s_Runner___init__) (by decide +kernel)) (fun _ _ _ _ _ => pg_name (i := 2) sc_Runner___init__.nd rfl (Or.inl rfl)) (rg_name 2) (wo_name (by decide)) (fun _ _ _ _ _ => dts_nil) (fun _ _ _ _ _ => de_bl)))
      (dss_cons (ds_fld T.n_Runner_halted (de_var 0) (de_lcM (own := [("_", 2)]) sc_Runner___init__.nd (di_seq (de_fld T.n_Plan_flows (de_var 1))) (blkOk_by (own := [("_", 2)]) (N := N_Runner___init__) (sc := defScope s_Runner___init__) (by decide +kernel)) (fun _ _ _ _ _ => pg_name (i := 2) sc_Runner___init__.nd rfl (Or.inl rfl)) (rg_name 2) (wo_name (by decide)) (fun _ _ _ _ _ => dts_nil) (fun _ _ _ _ _ => de_bl)))
      (dss_one (ds_if (dt_not (dt_val (de_cut (de_meth (de_new T.mk_Search (ok_Search___init__ T) (hr.mono (by decide)) rfl T.g_Search T.b_Search___init__ .nil (fun _ _ => .nil) (da_cons (de_var 1) da_nil) (arn_cons arn_nil) rfl) T.m_Search_is_safe (ok_Search_is_safe T) (hr.mono (by decide)) T.b_Search_is_safe (da_cons (de_fld T.n_Runner_state (de_var 0)) da_nil) (arn_cons arn_nil) rfl))))
      (dss_one (ds_raise T.x_NotSafe (takes_of rfl rfl rfl rfl)))
      dss_nil))))))))
noncomputable def m__law_new (A : Adr) : M :=
  bodyM 3 ((sSeq (sTry A.c_NotSafe [A.c_NotNow, A.c_UnknownArm] 2
      (sAsgX (xCall (mNewX A.c_Runner (m_Runner___init__ A)) (aCons (fVar 0) aNil)) (gNm 1))
      (fun a => (sRet (fC .non))))
      (sRet (fVar 1))))
theorem ok__law_new (T : Facts K mg A) : FnD P w K mg base 9 A.a__law_new A.d__law_new P__law_new (m__law_new A) :=
  (fn_ok T.F__law_new sc__law_new fun cdv Ar outer s H E hr =>
    (dss_cons (ds_try_as (i := 2) rfl rfl sc__law_new.nd rfl rfl ⟨rfl, by decide, .inl T.x_NotSafe.g⟩ takes0 T.xm_NotSafe_NotSafe (hO_cons T.xm_NotNow_NotSafe (hO_cons T.xm_UnknownArm_NotSafe hO_nil))
      (fun W pn xe tk pb => (dss_one (ds_setX 1 sc__law_new.nd (dex_new tk T.mk_Runner (ok_Runner___init__ T) (hr.mono (by decide)) rfl T.g_Runner T.b_Runner___init__ (da_cons (de_var 0) da_nil) (arn_cons arn_nil) rfl))))
      (fun a oe pn hz hv => (dss_one (ds_ret de_non))))
      (dss_one (ds_ret (de_var 1)))))
noncomputable def m_Runner_is_over (A : Adr) : M :=
  bodyM 1 ((sRet (fMeth A.c_Plan "all_ended" (m_Plan_all_ended A) (fFld A.c_Runner "plan" (fVar 0)) (aCons (fFld A.c_Runner "state" (fVar 0)) aNil))))
theorem ok_Runner_is_over (T : Facts K mg A) : FnD P w K mg base 3 A.a_Runner_is_over A.d_Runner_is_over P_Runner_is_over (m_Runner_is_over A) :=
  (fn_ok T.F_Runner_is_over sc_Runner_is_over fun cdv Ar outer s H E hr =>
    (dss_one (ds_ret (de_meth (de_fld T.n_Runner_plan (de_var 0)) T.m_Plan_all_ended (ok_Plan_all_ended T) (hr.mono (by decide)) T.b_Plan_all_ended (da_cons (de_fld T.n_Runner_state (de_var 0)) da_nil) (arn_cons arn_nil) rfl))))
noncomputable def m_Runner_state_ahead (A : Adr) : M :=
  bodyM 4 ((sSeq (sAsg (fFld A.c_Runner "state" (fVar 0)) (gNm 1))
      (sSeq (sForN (iEnumN (aCons (fFld A.c_Runner "moving" (fVar 0)) aNil)) (gTupD 2 (gConsD (gNm 2) (gConsD (gNm 3) gNilD)))
      (sIf (tBf (fVar 3))
      (sAsg (fOp gIx (fMeth A.c_Plan "outcomes" (m_Plan_outcomes A) (fFld A.c_Runner "plan" (fVar 0)) (aCons (fVar 1) (aCons (fVar 2) aNil))) (fC (.int 0))) (gNm 1))
      sNx))
      (sRet (fVar 1)))))
theorem ok_Runner_state_ahead (T : Facts K mg A) : FnD P w K mg base 4 A.a_Runner_state_ahead A.d_Runner_state_ahead P_Runner_state_ahead (m_Runner_state_ahead A) :=
  (fn_ok T.F_Runner_state_ahead sc_Runner_state_ahead fun cdv Ar outer s H E hr =>
    (dss_cons (ds_set 1 sc_Runner_state_ahead.nd (de_fld T.n_Runner_state (de_var 0)))
      (dss_cons (ds_forN PassesOwn.never (din_enum (by rfl) T.z_enumerate (da_cons (de_fld T.n_Runner_moving (de_var 0)) da_nil)) (dg_tup (dgs_cons (dg_name 2 sc_Runner_state_ahead.nd) (dgs_cons (dg_name 3 sc_Runner_state_ahead.nd) dgs_nil)))
      (dss_one (ds_if (dt_val (de_var 3))
      (dss_one (ds_set 1 sc_Runner_state_ahead.nd (de_ix (de_meth (de_fld T.n_Runner_plan (de_var 0)) T.m_Plan_outcomes (ok_Plan_outcomes T) (hr.mono (by decide)) T.b_Plan_outcomes (da_cons (de_var 1) (da_cons (de_var 2) da_nil)) (arn_cons (arn_cons arn_nil)) rfl) de_int)))
      dss_nil)))
      (dss_one (ds_ret (de_var 1))))))
noncomputable def m_Runner_check_arm (A : Adr) : MX :=
  bodyX 2 ((sIf (tNotf (tBf (fChain gLe gLt (fC (.int 0)) (fVar 1) (fCB gLen (aCons (fFld A.c_Runner "moving" (fVar 0)) aNil)))))
      (sRaise A.c_UnknownArm)
      sNx))
theorem ok_Runner_check_arm (T : Facts K mg A) : FnX P w K mg base 1 A.a_Runner_check_arm A.d_Runner_check_arm P_Runner_check_arm (m_Runner_check_arm A) :=
  (fnx_ok T.F_Runner_check_arm sc_Runner_check_arm fun cdv Ar outer s H E hr =>
    (dss_one (ds_if (dt_not (dt_chain od_le od_lt de_int (de_var 1) (de_callB cd_len (by rfl) T.z_len (by decide +kernel) (da_cons (de_fld T.n_Runner_moving (de_var 0)) da_nil))))
      (dss_one (ds_raise T.x_UnknownArm (takes_of rfl rfl rfl rfl)))
      dss_nil)))
noncomputable def m_Runner_place_of (A : Adr) : MX :=
  bodyX 2 ((sSeq (sExprX (xMeth A.c_Runner "check_arm" (m_Runner_check_arm A) (fVar 0) (aCons (fVar 1) aNil)))
      (sRet (fIf (tBf (fOp gIx (fFld A.c_Runner "moving" (fVar 0)) (fVar 1))) (fMeth A.c_Plan "wanted" (m_Plan_wanted A) (fFld A.c_Runner "plan" (fVar 0)) (aCons (fFld A.c_Runner "state" (fVar 0)) (aCons (fVar 1) aNil))) (fMeth A.c_Plan "rest_of" (m_Plan_rest_of A) (fFld A.c_Runner "plan" (fVar 0)) (aCons (fFld A.c_Runner "state" (fVar 0)) (aCons (fVar 1) aNil)))))))
theorem ok_Runner_place_of (T : Facts K mg A) : FnX P w K mg base 3 A.a_Runner_place_of A.d_Runner_place_of P_Runner_place_of (m_Runner_place_of A) :=
  (fnx_ok T.F_Runner_place_of sc_Runner_place_of fun cdv Ar outer s H E hr =>
    (dss_cons (ds_exprX (dex_meth (takes_of rfl rfl rfl rfl) (de_var 0) T.m_Runner_check_arm (ok_Runner_check_arm T) (hr.mono (by decide)) T.b_Runner_check_arm (da_cons (de_var 1) da_nil) (arn_cons arn_nil) rfl))
      (dss_one (ds_ret (de_if (dt_val (de_ix (de_fld T.n_Runner_moving (de_var 0)) (de_var 1))) (de_meth (de_fld T.n_Runner_plan (de_var 0)) T.m_Plan_wanted (ok_Plan_wanted T) (hr.mono (by decide)) T.b_Plan_wanted (da_cons (de_fld T.n_Runner_state (de_var 0)) (da_cons (de_var 1) da_nil)) (arn_cons (arn_cons arn_nil)) rfl) (de_meth (de_fld T.n_Runner_plan (de_var 0)) T.m_Plan_rest_of (ok_Plan_rest_of T) (hr.mono (by decide)) T.b_Plan_rest_of (da_cons (de_fld T.n_Runner_state (de_var 0)) (da_cons (de_var 1) da_nil)) (arn_cons (arn_cons arn_nil)) rfl))))))
noncomputable def m_Runner_in_the_way (A : Adr) : M :=
  bodyM 4 ((sSeq (sAsg (fMeth A.c_Plan "wanted" (m_Plan_wanted A) (fFld A.c_Runner "plan" (fVar 0)) (aCons (fFld A.c_Runner "state" (fVar 0)) (aCons (fVar 1) aNil))) (gNm 2))
      (sSeq (sIf (tBf (fOp gIsN (fVar 2) (fC .non)))
      (sRet (fC .non))
      sNx)
      (sSeq (sFor (iRange1 (aCons (fCB gLen (aCons (fFld A.c_Runner "moving" (fVar 0)) aNil)) aNil)) (gNm 3)
      (sIf (tAndf (tBf (fOp gNe (fVar 3) (fVar 1))) (tNotf (tBf (fMeth A.c_Plan "is_clear" (m_Plan_is_clear A) (fFld A.c_Runner "plan" (fVar 0)) (aCons (fVar 1) (aCons (fVar 2) (aCons (fVar 3) (aCons (fOfX (xMeth A.c_Runner "place_of" (m_Runner_place_of A) (fVar 0) (aCons (fVar 3) aNil))) aNil))))))))
      (sRet (fVar 3))
      sNx))
      (sRet (fC .non))))))
theorem ok_Runner_in_the_way (T : Facts K mg A) : FnD P w K mg base 4 A.a_Runner_in_the_way A.d_Runner_in_the_way P_Runner_in_the_way (m_Runner_in_the_way A) :=
  (fn_ok T.F_Runner_in_the_way sc_Runner_in_the_way fun cdv Ar outer s H E hr =>
    (dss_cons (ds_set 2 sc_Runner_in_the_way.nd (de_meth (de_fld T.n_Runner_plan (de_var 0)) T.m_Plan_wanted (ok_Plan_wanted T) (hr.mono (by decide)) T.b_Plan_wanted (da_cons (de_fld T.n_Runner_state (de_var 0)) (da_cons (de_var 1) da_nil)) (arn_cons (arn_cons arn_nil)) rfl))
      (dss_cons (ds_if (dt_cmp od_isN (de_var 2) de_non)
      (dss_one (ds_ret de_non))
      dss_nil)
      (dss_cons (ds_for PassesOwn.never (di_range1 (by rfl) T.z_range (da_cons (de_callB cd_len (by rfl) T.z_len (by decide +kernel) (da_cons (de_fld T.n_Runner_moving (de_var 0)) da_nil)) da_nil)) (dg_name 3 sc_Runner_in_the_way.nd)
      (dss_one (ds_if (dt_w (dw_and (dt_cmp (od_ne (hu64 hr)) (de_var 3) (de_var 1)) (dw_and1 (dt_not (dt_val (de_meth (de_fld T.n_Runner_plan (de_var 0)) T.m_Plan_is_clear (ok_Plan_is_clear T) (hr.mono (by decide)) T.b_Plan_is_clear (da_cons (de_var 1) (da_cons (de_var 2) (da_cons (de_var 3) (da_cons (de_ofX (dex_meth takes0 (de_var 0) T.m_Runner_place_of (ok_Runner_place_of T) (hr.mono (by decide)) T.b_Runner_place_of (da_cons (de_var 3) da_nil) (arn_cons arn_nil) rfl)) da_nil)))) (arn_cons (arn_cons (arn_cons (arn_cons arn_nil)))) rfl))))))
      (dss_one (ds_ret (de_var 3)))
      dss_nil)))
      (dss_one (ds_ret de_non))))))
noncomputable def m_Runner_is_held_back (A : Adr) : M :=
  mCut (bodyM 4 ((sSeq (sAsg (fCallD (mNew A.c_Search (m_Search___init__ A)) [] (aCons (fFld A.c_Runner "plan" (fVar 0)) aNil)) (gNm 2))
      (sSeq (sFor (iSeq (fMeth A.c_Plan "outcomes" (m_Plan_outcomes A) (fFld A.c_Runner "plan" (fVar 0)) (aCons (fMeth A.c_Runner "state_ahead" (m_Runner_state_ahead A) (fVar 0) aNil) (aCons (fVar 1) aNil)))) (gNm 3)
      (sIf (tNotf (tBf (fMeth A.c_Search "is_safe" (m_Search_is_safe A) (fVar 2) (aCons (fVar 3) aNil))))
      (sRet (fC (.bl true)))
      sNx))
      (sRet (fC (.bl false)))))))
theorem ok_Runner_is_held_back (T : Facts K mg A) : FnD P w K mg base 7 A.a_Runner_is_held_back A.d_Runner_is_held_back P_Runner_is_held_back (m_Runner_is_held_back A) :=
  (fn_ok T.F_Runner_is_held_back sc_Runner_is_held_back fun cdv Ar outer s H E hr =>
    (dss_cons (ds_set 2 sc_Runner_is_held_back.nd (de_new T.mk_Search (ok_Search___init__ T) (hr.mono (by decide)) rfl T.g_Search T.b_Search___init__ .nil (fun _ _ => .nil) (da_cons (de_fld T.n_Runner_plan (de_var 0)) da_nil) (arn_cons arn_nil) rfl))
      (dss_cons (ds_for PassesOwn.never (di_seq (de_meth (de_fld T.n_Runner_plan (de_var 0)) T.m_Plan_outcomes (ok_Plan_outcomes T) (hr.mono (by decide)) T.b_Plan_outcomes (da_cons (de_meth0 (de_var 0) T.m_Runner_state_ahead (ok_Runner_state_ahead T) (hr.mono (by decide)) T.b_Runner_state_ahead rfl) (da_cons (de_var 1) da_nil)) (arn_cons (arn_cons arn_nil)) rfl)) (dg_name 3 sc_Runner_is_held_back.nd)
      (dss_one (ds_if (dt_not (dt_val (de_meth (de_var 2) T.m_Search_is_safe (ok_Search_is_safe T) (hr.mono (by decide)) T.b_Search_is_safe (da_cons (de_var 3) da_nil) (arn_cons arn_nil) rfl)))
      (dss_one (ds_ret de_bl))
      dss_nil)))
      (dss_one (ds_ret de_bl))))).cut
noncomputable def m_Runner_may (A : Adr) : MX :=
  bodyX 4 ((sSeq (sExprX (xMeth A.c_Runner "check_arm" (m_Runner_check_arm A) (fVar 0) (aCons (fVar 1) aNil)))
      (sSeq (sIf (tBf (fOp gIx (fFld A.c_Runner "moving" (fVar 0)) (fVar 1)))
      (sRet (fTup (aCons (fC (.str "under way")) (aCons (fC .non) aNil))))
      sNx)
      (sSeq (sAsg (fMeth A.c_Plan "step_of" (m_Plan_step_of A) (fFld A.c_Runner "plan" (fVar 0)) (aCons (fFld A.c_Runner "state" (fVar 0)) (aCons (fVar 1) aNil))) (gNm 2))
      (sSeq (sIf (tBf (fOp gIsN (fVar 2) (fC .non)))
      (sRet (fTup (aCons (fC (.str "ended")) (aCons (fC .non) aNil))))
      sNx)
      (sSeq (sIf (tAndf (tBf (fOp gIx (fFld A.c_Runner "halted" (fVar 0)) (fVar 1))) (tBf (fOp gEq (fOp gIx (fVar 2) (fC (.int 0))) (fC (.str "move")))))
      (sRet (fTup (aCons (fC (.str "halted")) (aCons (fC .non) aNil))))
      sNx)
      (sSeq (sAsg (fMeth A.c_Runner "in_the_way" (m_Runner_in_the_way A) (fVar 0) (aCons (fVar 1) aNil)) (gNm 3))
      (sSeq (sIf (tBf (fOp gNotN (fVar 3) (fC .non)))
      (sRet (fTup (aCons (fC (.str "in the way")) (aCons (fVar 3) aNil))))
      sNx)
      (sSeq (sIf (tAndf (tBf (fOp gEq (fOp gIx (fVar 2) (fC (.int 0))) (fC (.str "wait")))) (tNotf (tBf (fMeth A.c_Plan "can_step" (m_Plan_can_step A) (fFld A.c_Runner "plan" (fVar 0)) (aCons (fFld A.c_Runner "state" (fVar 0)) (aCons (fVar 1) aNil))))))
      (sRet (fTup (aCons (fC (.str "signal")) (aCons (fC .non) aNil))))
      sNx)
      (sSeq (sIf (tBf (fMeth A.c_Runner "is_held_back" (m_Runner_is_held_back A) (fVar 0) (aCons (fVar 1) aNil)))
      (sRet (fTup (aCons (fC (.str "held back")) (aCons (fC .non) aNil))))
      sNx)
      (sSeq (sIf (tBf (fOp gEq (fOp gIx (fVar 2) (fC (.int 0))) (fC (.str "move"))))
      (sRet (fTup (aCons (fC (.str "begin")) (aCons (fC .non) aNil))))
      sNx)
      (sRet (fIf (tBf (fOp gEq (fOp gIx (fVar 2) (fC (.int 0))) (fC (.str "if")))) (fTup (aCons (fC (.str "read")) (aCons (fC .non) aNil))) (fTup (aCons (fC (.str "go on")) (aCons (fC .non) aNil))))))))))))))))
theorem ok_Runner_may (T : Facts K mg A) : FnX P w K mg base 8 A.a_Runner_may A.d_Runner_may P_Runner_may (m_Runner_may A) :=
  (fnx_ok T.F_Runner_may sc_Runner_may fun cdv Ar outer s H E hr =>
    (dss_cons (ds_exprX (dex_meth (takes_of rfl rfl rfl rfl) (de_var 0) T.m_Runner_check_arm (ok_Runner_check_arm T) (hr.mono (by decide)) T.b_Runner_check_arm (da_cons (de_var 1) da_nil) (arn_cons arn_nil) rfl))
      (dss_cons (ds_if (dt_val (de_ix (de_fld T.n_Runner_moving (de_var 0)) (de_var 1)))
      (dss_one (ds_ret (de_tup (da_cons de_str (da_cons de_non da_nil)))))
      dss_nil)
      (dss_cons (ds_set 2 sc_Runner_may.nd (de_meth (de_fld T.n_Runner_plan (de_var 0)) T.m_Plan_step_of (ok_Plan_step_of T) (hr.mono (by decide)) T.b_Plan_step_of (da_cons (de_fld T.n_Runner_state (de_var 0)) (da_cons (de_var 1) da_nil)) (arn_cons (arn_cons arn_nil)) rfl))
      (dss_cons (ds_if (dt_cmp od_isN (de_var 2) de_non)
      (dss_one (ds_ret (de_tup (da_cons de_str (da_cons de_non da_nil)))))
      dss_nil)
      (dss_cons (ds_if (dt_w (dw_and (dt_val (de_ix (de_fld T.n_Runner_halted (de_var 0)) (de_var 1))) (dw_and1 (dt_cmp (od_eq (hu64 hr)) (de_ix (de_var 2) de_int) de_str))))
      (dss_one (ds_ret (de_tup (da_cons de_str (da_cons de_non da_nil)))))
      dss_nil)
      (dss_cons (ds_set 3 sc_Runner_may.nd (de_meth (de_var 0) T.m_Runner_in_the_way (ok_Runner_in_the_way T) (hr.mono (by decide)) T.b_Runner_in_the_way (da_cons (de_var 1) da_nil) (arn_cons arn_nil) rfl))
      (dss_cons (ds_if (dt_cmp od_notN (de_var 3) de_non)
      (dss_one (ds_ret (de_tup (da_cons de_str (da_cons (de_var 3) da_nil)))))
      dss_nil)
      (dss_cons (ds_if (dt_w (dw_and (dt_cmp (od_eq (hu64 hr)) (de_ix (de_var 2) de_int) de_str) (dw_and1 (dt_not (dt_val (de_meth (de_fld T.n_Runner_plan (de_var 0)) T.m_Plan_can_step (ok_Plan_can_step T) (hr.mono (by decide)) T.b_Plan_can_step (da_cons (de_fld T.n_Runner_state (de_var 0)) (da_cons (de_var 1) da_nil)) (arn_cons (arn_cons arn_nil)) rfl))))))
      (dss_one (ds_ret (de_tup (da_cons de_str (da_cons de_non da_nil)))))
      dss_nil)
      (dss_cons (ds_if (dt_val (de_meth (de_var 0) T.m_Runner_is_held_back (ok_Runner_is_held_back T) (hr.mono (by decide)) T.b_Runner_is_held_back (da_cons (de_var 1) da_nil) (arn_cons arn_nil) rfl))
      (dss_one (ds_ret (de_tup (da_cons de_str (da_cons de_non da_nil)))))
      dss_nil)
      (dss_cons (ds_if (dt_cmp (od_eq (hu64 hr)) (de_ix (de_var 2) de_int) de_str)
      (dss_one (ds_ret (de_tup (da_cons de_str (da_cons de_non da_nil)))))
      dss_nil)
      (dss_one (ds_ret (de_if (dt_cmp (od_eq (hu64 hr)) (de_ix (de_var 2) de_int) de_str) (de_tup (da_cons de_str (da_cons de_non da_nil))) (de_tup (da_cons de_str (da_cons de_non da_nil)))))))))))))))))
noncomputable def m_Runner_is_halted (A : Adr) : MX :=
  bodyX 2 ((sSeq (sExprX (xMeth A.c_Runner "check_arm" (m_Runner_check_arm A) (fVar 0) (aCons (fVar 1) aNil)))
      (sRet (fOp gIx (fFld A.c_Runner "halted" (fVar 0)) (fVar 1)))))
theorem ok_Runner_is_halted (T : Facts K mg A) : FnX P w K mg base 2 A.a_Runner_is_halted A.d_Runner_is_halted P_Runner_is_halted (m_Runner_is_halted A) :=
  (fnx_ok T.F_Runner_is_halted sc_Runner_is_halted fun cdv Ar outer s H E hr =>
    (dss_cons (ds_exprX (dex_meth (takes_of rfl rfl rfl rfl) (de_var 0) T.m_Runner_check_arm (ok_Runner_check_arm T) (hr.mono (by decide)) T.b_Runner_check_arm (da_cons (de_var 1) da_nil) (arn_cons arn_nil) rfl))
      (dss_one (ds_ret (de_ix (de_fld T.n_Runner_halted (de_var 0)) (de_var 1))))))
noncomputable def m_Runner_is_under_way (A : Adr) : MX :=
  bodyX 2 ((sSeq (sExprX (xMeth A.c_Runner "check_arm" (m_Runner_check_arm A) (fVar 0) (aCons (fVar 1) aNil)))
      (sRet (fOp gIx (fFld A.c_Runner "moving" (fVar 0)) (fVar 1)))))
theorem ok_Runner_is_under_way (T : Facts K mg A) : FnX P w K mg base 2 A.a_Runner_is_under_way A.d_Runner_is_under_way P_Runner_is_under_way (m_Runner_is_under_way A) :=
  (fnx_ok T.F_Runner_is_under_way sc_Runner_is_under_way fun cdv Ar outer s H E hr =>
    (dss_cons (ds_exprX (dex_meth (takes_of rfl rfl rfl rfl) (de_var 0) T.m_Runner_check_arm (ok_Runner_check_arm T) (hr.mono (by decide)) T.b_Runner_check_arm (da_cons (de_var 1) da_nil) (arn_cons arn_nil) rfl))
      (dss_one (ds_ret (de_ix (de_fld T.n_Runner_moving (de_var 0)) (de_var 1))))))
noncomputable def m__law_told (A : Adr) : M :=
  mCut (bodyM 4 ((sSeq (sAsg (fLstM (aCons (fFld A.c_Runner "state" (fVar 0)) (aCons (fFld A.c_Runner "events" (fVar 0)) (aCons (fProp A.c_Runner (m_Runner_is_over A) (fVar 0)) (aCons (fMeth A.c_Runner "state_ahead" (m_Runner_state_ahead A) (fVar 0) aNil) aNil))))) (gNm 2))
      (sSeq (sFor (iRange1 (aCons (fVar 1) aNil)) (gNm 3)
      (sExpr (fAppend (fVar 2) (fTup (aCons (fOfX (xMeth A.c_Runner "may" (m_Runner_may A) (fVar 0) (aCons (fVar 3) aNil))) (aCons (fOfX (xMeth A.c_Runner "place_of" (m_Runner_place_of A) (fVar 0) (aCons (fVar 3) aNil))) (aCons (fOfX (xMeth A.c_Runner "is_halted" (m_Runner_is_halted A) (fVar 0) (aCons (fVar 3) aNil))) (aCons (fOfX (xMeth A.c_Runner "is_under_way" (m_Runner_is_under_way A) (fVar 0) (aCons (fVar 3) aNil))) aNil))))))))
      (sRet (fCB gRepr (aCons (fVar 2) aNil)))))))
theorem ok__law_told (T : Facts K mg A) : FnG P w K mg base 9 A.a__law_told A.d__law_told P__law_told (m__law_told A) :=
  (fng_ok T.F__law_told sc__law_told fun cdv Ar outer s H E gA hr =>
    (dss_cons (ds_set 2 sc__law_told.nd (de_lstM (da_cons (de_fld T.n_Runner_state (de_var 0)) (da_cons (de_fld T.n_Runner_events (de_var 0)) (da_cons (de_prop (de_var 0) T.cl_Runner T.pr_Runner_is_over (ok_Runner_is_over T) (hr.mono (by decide)) T.b_Runner_is_over rfl) (da_cons (de_meth0 (de_var 0) T.m_Runner_state_ahead (ok_Runner_state_ahead T) (hr.mono (by decide)) T.b_Runner_state_ahead rfl) da_nil))))))
      (dss_cons (ds_for PassesOwn.never (di_range1 (by rfl) T.z_range (da_cons (de_var 1) da_nil)) (dg_name 3 sc__law_told.nd)
      (dss_one (ds_expr (de_append (de_var 2) (de_tup (da_cons (de_ofX (dex_meth takes0 (de_var 0) T.m_Runner_may (ok_Runner_may T) (hr.mono (by decide)) T.b_Runner_may (da_cons (de_var 3) da_nil) (arn_cons arn_nil) rfl)) (da_cons (de_ofX (dex_meth takes0 (de_var 0) T.m_Runner_place_of (ok_Runner_place_of T) (hr.mono (by decide)) T.b_Runner_place_of (da_cons (de_var 3) da_nil) (arn_cons arn_nil) rfl)) (da_cons (de_ofX (dex_meth takes0 (de_var 0) T.m_Runner_is_halted (ok_Runner_is_halted T) (hr.mono (by decide)) T.b_Runner_is_halted (da_cons (de_var 3) da_nil) (arn_cons arn_nil) rfl)) (da_cons (de_ofX (dex_meth takes0 (de_var 0) T.m_Runner_is_under_way (ok_Runner_is_under_way T) (hr.mono (by decide)) T.b_Runner_is_under_way (da_cons (de_var 3) da_nil) (arn_cons arn_nil) rfl)) da_nil)))))))))
      (dss_one (ds_ret (de_callB (cd_repr gA (hu65 hr)) (by rfl) T.z_repr (by decide +kernel) (da_cons (de_var 2) da_nil))))))).cut
noncomputable def m_Runner_fork (A : Adr) : M :=
  bodyM 2 ((sSeq (sAsgX (xCall (mNewX A.c_Runner (m_Runner___init__ A)) (aCons (fFld A.c_Runner "plan" (fVar 0)) aNil)) (gNm 1))
      (sSeq (sFldD A.c_Runner "state" (fVar 1) (fFld A.c_Runner "state" (fVar 0)))
      (sSeq (sFldD A.c_Runner "events" (fVar 1) (fFld A.c_Runner "events" (fVar 0)))
      (sSeq (sFldD A.c_Runner "moving" (fVar 1) (fListM (aCons (fFld A.c_Runner "moving" (fVar 0)) aNil)))
      (sSeq (sFldD A.c_Runner "halted" (fVar 1) (fListM (aCons (fFld A.c_Runner "halted" (fVar 0)) aNil)))
      (sRet (fVar 1))))))))
theorem ok_Runner_fork (T : Facts K mg A) : FnD P w K mg base 9 A.a_Runner_fork A.d_Runner_fork P_Runner_fork (m_Runner_fork A) :=
  (fn_ok T.F_Runner_fork sc_Runner_fork fun cdv Ar outer s H E hr =>
    (dss_cons (ds_setX 1 sc_Runner_fork.nd (dex_new takes0 T.mk_Runner (ok_Runner___init__ T) (hr.mono (by decide)) rfl T.g_Runner T.b_Runner___init__ (da_cons (de_fld T.n_Runner_plan (de_var 0)) da_nil) (arn_cons arn_nil) rfl))
      (dss_cons (ds_fld T.n_Runner_state (de_var 1) (de_fld T.n_Runner_state (de_var 0)))
      (dss_cons (ds_fld T.n_Runner_events (de_var 1) (de_fld T.n_Runner_events (de_var 0)))
      (dss_cons (ds_fld T.n_Runner_moving (de_var 1) (de_listM rfl T.z_list (da_cons (de_fld T.n_Runner_moving (de_var 0)) da_nil)))
      (dss_cons (ds_fld T.n_Runner_halted (de_var 1) (de_listM rfl T.z_list (da_cons (de_fld T.n_Runner_halted (de_var 0)) da_nil)))
      (dss_one (ds_ret (de_var 1)))))))))
noncomputable def m_Plan___init__ (A : Adr) : M :=
  bodyM 9 ((sSeq (sFldD A.c_Plan "flows" (fVar 0) (fCut (fLCM (iSeq (fVar 1)) (gNm 8) tTrue (fCB gList (aCons (fVar 8) aNil)) [8])))
      (sSeq (sFldD A.c_Plan "starts" (fVar 0) (fCB gList (aCons (fVar 2) aNil)))
      (sSeq (sFldD A.c_Plan "blocks" (fVar 0) fDctM)
      (sFor (iSeq (fVar 3)) (gTupD 4 (gConsD (gNm 4) (gConsD (gNm 5) (gConsD (gNm 6) (gConsD (gNm 7) gNilD)))))
      (sSeq (sDPutD (fFld A.c_Plan "blocks" (fVar 0)) (fTup (aCons (fVar 4) (aCons (fVar 5) (aCons (fVar 6) (aCons (fVar 7) aNil))))) (fC (.bl true)))
      (sDPutD (fFld A.c_Plan "blocks" (fVar 0)) (fTup (aCons (fVar 6) (aCons (fVar 7) (aCons (fVar 4) (aCons (fVar 5) aNil))))) (fC (.bl true)))))))))
theorem ok_Plan___init__ (T : Facts K mg A) : FnD P w K mg base 1 A.a_Plan___init__ A.d_Plan___init__ P_Plan___init__ (m_Plan___init__ A) :=
  (fn_okD T.F_Plan___init__ sc_Plan___init__ fun cdv Ar outer s H E hr =>
    (dss_cons (ds_fld T.n_Plan_flows (de_var 0) (de_cut (de_lcM (own := [("flow", 8)]) sc_Plan___init__.nd (di_seq (de_var 1)) (blkOk_by (own := [("flow", 8)]) (N := N_Plan___init__) (sc := defScope s_Plan___init__) (by decide +kernel)) (fun _ _ _ _ _ => pg_name (i := 8) sc_Plan___init__.nd rfl (Or.inl rfl)) (rg_name 8) (wo_name (by decide)) (fun _ _ _ _ _ => dts_nil) (fun _ _ _ _ _ => (de_callTy cd_list (by rfl) T.z_list (by decide +kernel) (da_cons (de_var 8) da_nil))))))
      (dss_cons (ds_fld T.n_Plan_starts (de_var 0) (de_callTy cd_list (by rfl) T.z_list (by decide +kernel) (da_cons (de_var 2) da_nil)))
      (dss_cons (ds_fld T.n_Plan_blocks (de_var 0) de_dctM)
      (dss_one (ds_for PassesOwn.never (di_seq (de_var 3)) (dg_tup (dgs_cons (dg_name 4 sc_Plan___init__.nd) (dgs_cons (dg_name 5 sc_Plan___init__.nd) (dgs_cons (dg_name 6 sc_Plan___init__.nd) (dgs_cons (dg_name 7 sc_Plan___init__.nd) dgs_nil)))))
      (dss_cons (ds_dput (hu64 hr) (de_fld T.n_Plan_blocks (de_var 0)) (de_tup (da_cons (de_var 4) (da_cons (de_var 5) (da_cons (de_var 6) (da_cons (de_var 7) da_nil))))) de_bl)
      (dss_one (ds_dput (hu64 hr) (de_fld T.n_Plan_blocks (de_var 0)) (de_tup (da_cons (de_var 6) (da_cons (de_var 7) (da_cons (de_var 4) (da_cons (de_var 5) da_nil))))) de_bl)))))))))
noncomputable def m_Runner_check_told (A : Adr) : MX :=
  bodyX 5 ((sSeq (sAsgX (xMeth A.c_Runner "may" (m_Runner_may A) (fVar 0) (aCons (fVar 1) aNil)) (gTupD 2 (gConsD (gNm 3) (gConsD (gNm 4) gNilD))))
      (sIf (tBf (fOp gNe (fVar 3) (fVar 2)))
      (sRaiseF A.c_NotNow (fVar 3))
      sNx)))
theorem ok_Runner_check_told (T : Facts K mg A) : FnX P w K mg base 9 A.a_Runner_check_told A.d_Runner_check_told P_Runner_check_told (m_Runner_check_told A) :=
  (fnx_ok T.F_Runner_check_told sc_Runner_check_told fun cdv Ar outer s H E hr =>
    (dss_cons (ds_asgX (dex_meth (takes_of rfl rfl rfl rfl) (de_var 0) T.m_Runner_may (ok_Runner_may T) (hr.mono (by decide)) T.b_Runner_may (da_cons (de_var 1) da_nil) (arn_cons arn_nil) rfl) (dg_tup (dgs_cons (dg_name 3 sc_Runner_check_told.nd) (dgs_cons (dg_name 4 sc_Runner_check_told.nd) dgs_nil))))
      (dss_one (ds_if (dt_cmp (od_ne (hu64 hr)) (de_var 3) (de_var 2))
      (dss_one (ds_raiseF T.x_NotNow (takes_of rfl rfl rfl rfl) (de_var 3)))
      dss_nil))))
noncomputable def m_Runner_begin (A : Adr) : MX :=
  bodyX 2 ((sSeq (sExprX (xMeth A.c_Runner "check_told" (m_Runner_check_told A) (fVar 0) (aCons (fVar 1) (aCons (fC (.str "begin")) aNil))))
      (sSeq (sAsg (fC (.bl true)) (gSubD (fFld A.c_Runner "moving" (fVar 0)) (fVar 1)))
      (sFldD A.c_Runner "events" (fVar 0) (fOp gAdd (fFld A.c_Runner "events" (fVar 0)) (fC (.int 1)))))))
theorem ok_Runner_begin (T : Facts K mg A) : FnX P w K mg base 10 A.a_Runner_begin A.d_Runner_begin P_Runner_begin (m_Runner_begin A) :=
  (fnx_ok T.F_Runner_begin sc_Runner_begin fun cdv Ar outer s H E hr =>
    (dss_cons (ds_exprX (dex_meth (takes_of rfl rfl rfl rfl) (de_var 0) T.m_Runner_check_told (ok_Runner_check_told T) (hr.mono (by decide)) T.b_Runner_check_told (da_cons (de_var 1) (da_cons de_str da_nil)) (arn_cons (arn_cons arn_nil)) rfl))
      (dss_cons (ds_asg de_bl (dg_sub (de_fld T.n_Runner_moving (de_var 0)) (de_var 1)))
      (dss_one (ds_fld T.n_Runner_events (de_var 0) (de_op od_add (de_fld T.n_Runner_events (de_var 0)) de_int))))))
noncomputable def m_Runner_end (A : Adr) : MX :=
  bodyX 2 ((sSeq (sExprX (xMeth A.c_Runner "check_arm" (m_Runner_check_arm A) (fVar 0) (aCons (fVar 1) aNil)))
      (sSeq (sIf (tOrf (tNotf (tBf (fOp gIx (fFld A.c_Runner "moving" (fVar 0)) (fVar 1)))) (tBf (fOp gIx (fFld A.c_Runner "halted" (fVar 0)) (fVar 1))))
      (sRaise A.c_NotNow)
      sNx)
      (sSeq (sAsg (fC (.bl false)) (gSubD (fFld A.c_Runner "moving" (fVar 0)) (fVar 1)))
      (sSeq (sFldD A.c_Runner "state" (fVar 0) (fOp gIx (fMeth A.c_Plan "outcomes" (m_Plan_outcomes A) (fFld A.c_Runner "plan" (fVar 0)) (aCons (fFld A.c_Runner "state" (fVar 0)) (aCons (fVar 1) aNil))) (fC (.int 0))))
      (sFldD A.c_Runner "events" (fVar 0) (fOp gAdd (fFld A.c_Runner "events" (fVar 0)) (fC (.int 1)))))))))
theorem ok_Runner_end (T : Facts K mg A) : FnX P w K mg base 4 A.a_Runner_end A.d_Runner_end P_Runner_end (m_Runner_end A) :=
  (fnx_ok T.F_Runner_end sc_Runner_end fun cdv Ar outer s H E hr =>
    (dss_cons (ds_exprX (dex_meth (takes_of rfl rfl rfl rfl) (de_var 0) T.m_Runner_check_arm (ok_Runner_check_arm T) (hr.mono (by decide)) T.b_Runner_check_arm (da_cons (de_var 1) da_nil) (arn_cons arn_nil) rfl))
      (dss_cons (ds_if (dt_w (dw_or (dt_not (dt_val (de_ix (de_fld T.n_Runner_moving (de_var 0)) (de_var 1)))) (dw_or1 (dt_val (de_ix (de_fld T.n_Runner_halted (de_var 0)) (de_var 1))))))
      (dss_one (ds_raise T.x_NotNow (takes_of rfl rfl rfl rfl)))
      dss_nil)
      (dss_cons (ds_asg de_bl (dg_sub (de_fld T.n_Runner_moving (de_var 0)) (de_var 1)))
      (dss_cons (ds_fld T.n_Runner_state (de_var 0) (de_ix (de_meth (de_fld T.n_Runner_plan (de_var 0)) T.m_Plan_outcomes (ok_Plan_outcomes T) (hr.mono (by decide)) T.b_Plan_outcomes (da_cons (de_fld T.n_Runner_state (de_var 0)) (da_cons (de_var 1) da_nil)) (arn_cons (arn_cons arn_nil)) rfl) de_int))
      (dss_one (ds_fld T.n_Runner_events (de_var 0) (de_op od_add (de_fld T.n_Runner_events (de_var 0)) de_int))))))))
noncomputable def m_Runner_go_on (A : Adr) : MX :=
  bodyX 2 ((sSeq (sExprX (xMeth A.c_Runner "check_told" (m_Runner_check_told A) (fVar 0) (aCons (fVar 1) (aCons (fC (.str "go on")) aNil))))
      (sSeq (sFldD A.c_Runner "state" (fVar 0) (fOp gIx (fMeth A.c_Plan "outcomes" (m_Plan_outcomes A) (fFld A.c_Runner "plan" (fVar 0)) (aCons (fFld A.c_Runner "state" (fVar 0)) (aCons (fVar 1) aNil))) (fC (.int 0))))
      (sFldD A.c_Runner "events" (fVar 0) (fOp gAdd (fFld A.c_Runner "events" (fVar 0)) (fC (.int 1)))))))
theorem ok_Runner_go_on (T : Facts K mg A) : FnX P w K mg base 10 A.a_Runner_go_on A.d_Runner_go_on P_Runner_go_on (m_Runner_go_on A) :=
  (fnx_ok T.F_Runner_go_on sc_Runner_go_on fun cdv Ar outer s H E hr =>
    (dss_cons (ds_exprX (dex_meth (takes_of rfl rfl rfl rfl) (de_var 0) T.m_Runner_check_told (ok_Runner_check_told T) (hr.mono (by decide)) T.b_Runner_check_told (da_cons (de_var 1) (da_cons de_str da_nil)) (arn_cons (arn_cons arn_nil)) rfl))
      (dss_cons (ds_fld T.n_Runner_state (de_var 0) (de_ix (de_meth (de_fld T.n_Runner_plan (de_var 0)) T.m_Plan_outcomes (ok_Plan_outcomes T) (hr.mono (by decide)) T.b_Plan_outcomes (da_cons (de_fld T.n_Runner_state (de_var 0)) (da_cons (de_var 1) da_nil)) (arn_cons (arn_cons arn_nil)) rfl) de_int))
      (dss_one (ds_fld T.n_Runner_events (de_var 0) (de_op od_add (de_fld T.n_Runner_events (de_var 0)) de_int))))))
noncomputable def m_Runner_read_input (A : Adr) : MX :=
  bodyX 3 ((sSeq (sExprX (xMeth A.c_Runner "check_told" (m_Runner_check_told A) (fVar 0) (aCons (fVar 1) (aCons (fC (.str "read")) aNil))))
      (sSeq (sFldD A.c_Runner "state" (fVar 0) (fOp gIx (fMeth A.c_Plan "outcomes" (m_Plan_outcomes A) (fFld A.c_Runner "plan" (fVar 0)) (aCons (fFld A.c_Runner "state" (fVar 0)) (aCons (fVar 1) aNil))) (fIf (tBf (fVar 2)) (fC (.int 0)) (fC (.int 1)))))
      (sFldD A.c_Runner "events" (fVar 0) (fOp gAdd (fFld A.c_Runner "events" (fVar 0)) (fC (.int 1)))))))
theorem ok_Runner_read_input (T : Facts K mg A) : FnX P w K mg base 10 A.a_Runner_read_input A.d_Runner_read_input P_Runner_read_input (m_Runner_read_input A) :=
  (fnx_ok T.F_Runner_read_input sc_Runner_read_input fun cdv Ar outer s H E hr =>
    (dss_cons (ds_exprX (dex_meth (takes_of rfl rfl rfl rfl) (de_var 0) T.m_Runner_check_told (ok_Runner_check_told T) (hr.mono (by decide)) T.b_Runner_check_told (da_cons (de_var 1) (da_cons de_str da_nil)) (arn_cons (arn_cons arn_nil)) rfl))
      (dss_cons (ds_fld T.n_Runner_state (de_var 0) (de_ix (de_meth (de_fld T.n_Runner_plan (de_var 0)) T.m_Plan_outcomes (ok_Plan_outcomes T) (hr.mono (by decide)) T.b_Plan_outcomes (da_cons (de_fld T.n_Runner_state (de_var 0)) (da_cons (de_var 1) da_nil)) (arn_cons (arn_cons arn_nil)) rfl) (de_if (dt_val (de_var 2)) de_int de_int)))
      (dss_one (ds_fld T.n_Runner_events (de_var 0) (de_op od_add (de_fld T.n_Runner_events (de_var 0)) de_int))))))
noncomputable def m_Runner_halt (A : Adr) : MX :=
  bodyX 2 ((sSeq (sExprX (xMeth A.c_Runner "check_arm" (m_Runner_check_arm A) (fVar 0) (aCons (fVar 1) aNil)))
      (sSeq (sIf (tBf (fOp gIx (fFld A.c_Runner "halted" (fVar 0)) (fVar 1)))
      (sRaise A.c_NotNow)
      sNx)
      (sAsg (fC (.bl true)) (gSubD (fFld A.c_Runner "halted" (fVar 0)) (fVar 1))))))
theorem ok_Runner_halt (T : Facts K mg A) : FnX P w K mg base 2 A.a_Runner_halt A.d_Runner_halt P_Runner_halt (m_Runner_halt A) :=
  (fnx_ok T.F_Runner_halt sc_Runner_halt fun cdv Ar outer s H E hr =>
    (dss_cons (ds_exprX (dex_meth (takes_of rfl rfl rfl rfl) (de_var 0) T.m_Runner_check_arm (ok_Runner_check_arm T) (hr.mono (by decide)) T.b_Runner_check_arm (da_cons (de_var 1) da_nil) (arn_cons arn_nil) rfl))
      (dss_cons (ds_if (dt_val (de_ix (de_fld T.n_Runner_halted (de_var 0)) (de_var 1)))
      (dss_one (ds_raise T.x_NotNow (takes_of rfl rfl rfl rfl)))
      dss_nil)
      (dss_one (ds_asg de_bl (dg_sub (de_fld T.n_Runner_halted (de_var 0)) (de_var 1)))))))
noncomputable def m_Runner_free (A : Adr) : MX :=
  bodyX 2 ((sSeq (sExprX (xMeth A.c_Runner "check_arm" (m_Runner_check_arm A) (fVar 0) (aCons (fVar 1) aNil)))
      (sSeq (sIf (tNotf (tBf (fOp gIx (fFld A.c_Runner "halted" (fVar 0)) (fVar 1))))
      (sRaise A.c_NotNow)
      sNx)
      (sAsg (fC (.bl false)) (gSubD (fFld A.c_Runner "halted" (fVar 0)) (fVar 1))))))
theorem ok_Runner_free (T : Facts K mg A) : FnX P w K mg base 2 A.a_Runner_free A.d_Runner_free P_Runner_free (m_Runner_free A) :=
  (fnx_ok T.F_Runner_free sc_Runner_free fun cdv Ar outer s H E hr =>
    (dss_cons (ds_exprX (dex_meth (takes_of rfl rfl rfl rfl) (de_var 0) T.m_Runner_check_arm (ok_Runner_check_arm T) (hr.mono (by decide)) T.b_Runner_check_arm (da_cons (de_var 1) da_nil) (arn_cons arn_nil) rfl))
      (dss_cons (ds_if (dt_not (dt_val (de_ix (de_fld T.n_Runner_halted (de_var 0)) (de_var 1))))
      (dss_one (ds_raise T.x_NotNow (takes_of rfl rfl rfl rfl)))
      dss_nil)
      (dss_one (ds_asg de_bl (dg_sub (de_fld T.n_Runner_halted (de_var 0)) (de_var 1)))))))
noncomputable def m__law_event (A : Adr) : MX :=
  bodyX 4 ((sSeq (sTry A.c_NotNow [A.c_NotSafe, A.c_UnknownArm] 3
      (sIf (tBf (fOp gEq (fVar 1) (fC (.int 0))))
      (sExprX (xMeth A.c_Runner "begin" (m_Runner_begin A) (fVar 0) (aCons (fVar 2) aNil)))
      (sIf (tBf (fOp gEq (fVar 1) (fC (.int 1))))
      (sExprX (xMeth A.c_Runner "end" (m_Runner_end A) (fVar 0) (aCons (fVar 2) aNil)))
      (sIf (tBf (fOp gEq (fVar 1) (fC (.int 2))))
      (sExprX (xMeth A.c_Runner "go_on" (m_Runner_go_on A) (fVar 0) (aCons (fVar 2) aNil)))
      (sIf (tBf (fOp gEq (fVar 1) (fC (.int 3))))
      (sExprX (xMethK A.c_Runner "read_input" (m_Runner_read_input A) (fVar 0) (aCons (fVar 2) aNil) (aCons (fC (.bl true)) aNil)))
      (sIf (tBf (fOp gEq (fVar 1) (fC (.int 4))))
      (sExprX (xMethK A.c_Runner "read_input" (m_Runner_read_input A) (fVar 0) (aCons (fVar 2) aNil) (aCons (fC (.bl false)) aNil)))
      (sIf (tBf (fOp gEq (fVar 1) (fC (.int 5))))
      (sExprX (xMeth A.c_Runner "halt" (m_Runner_halt A) (fVar 0) (aCons (fVar 2) aNil)))
      (sExprX (xMeth A.c_Runner "free" (m_Runner_free A) (fVar 0) (aCons (fVar 2) aNil)))))))))
      (fun a => (sSeq (sIf (tOrf (tNotf (tBf (fIsE a 3 true))) (tBf (fIsE a 3 false)))
      (sRet (fC (.str "wrong")))
      sNx)
      (sRet (fC (.str "not now"))))))
      (sRet (fC (.str "done")))))
theorem ok__law_event (T : Facts K mg A) : FnX P w K mg base 11 A.a__law_event A.d__law_event P__law_event (m__law_event A) :=
  (fnx_ok T.F__law_event sc__law_event fun cdv Ar outer s H E hr =>
    (dss_cons (ds_try_as (i := 3) rfl rfl sc__law_event.nd rfl rfl ⟨rfl, by decide, .inl T.x_NotNow.g⟩ (takes_of rfl rfl rfl rfl) T.xm_NotNow_NotNow (hO_cons T.xm_NotSafe_NotNow (hO_cons T.xm_UnknownArm_NotNow hO_nil))
      (fun W pn xe tk pb => (dss_one (ds_if (dt_cmp (od_eq (hu64 hr)) (de_var 1) de_int)
      (dss_one (ds_exprX (dex_meth tk (de_var 0) T.m_Runner_begin (ok_Runner_begin T) (hr.mono (by decide)) T.b_Runner_begin (da_cons (de_var 2) da_nil) (arn_cons arn_nil) rfl)))
      (dss_one (ds_if (dt_cmp (od_eq (hu64 hr)) (de_var 1) de_int)
      (dss_one (ds_exprX (dex_meth tk (de_var 0) T.m_Runner_end (ok_Runner_end T) (hr.mono (by decide)) T.b_Runner_end (da_cons (de_var 2) da_nil) (arn_cons arn_nil) rfl)))
      (dss_one (ds_if (dt_cmp (od_eq (hu64 hr)) (de_var 1) de_int)
      (dss_one (ds_exprX (dex_meth tk (de_var 0) T.m_Runner_go_on (ok_Runner_go_on T) (hr.mono (by decide)) T.b_Runner_go_on (da_cons (de_var 2) da_nil) (arn_cons arn_nil) rfl)))
      (dss_one (ds_if (dt_cmp (od_eq (hu64 hr)) (de_var 1) de_int)
      (dss_one (ds_exprX (dex_methK tk (de_var 0) T.m_Runner_read_input (ok_Runner_read_input T) (hr.mono (by decide)) T.kb_Runner_read_input (da_cons (de_var 2) da_nil) (dk_cons de_bl dk_nil) (arn_cons arn_nil) (arn_cons arn_nil) rfl rfl)))
      (dss_one (ds_if (dt_cmp (od_eq (hu64 hr)) (de_var 1) de_int)
      (dss_one (ds_exprX (dex_methK tk (de_var 0) T.m_Runner_read_input (ok_Runner_read_input T) (hr.mono (by decide)) T.kb_Runner_read_input (da_cons (de_var 2) da_nil) (dk_cons de_bl dk_nil) (arn_cons arn_nil) (arn_cons arn_nil) rfl rfl)))
      (dss_one (ds_if (dt_cmp (od_eq (hu64 hr)) (de_var 1) de_int)
      (dss_one (ds_exprX (dex_meth tk (de_var 0) T.m_Runner_halt (ok_Runner_halt T) (hr.mono (by decide)) T.b_Runner_halt (da_cons (de_var 2) da_nil) (arn_cons arn_nil) rfl)))
      (dss_one (ds_exprX (dex_meth tk (de_var 0) T.m_Runner_free (ok_Runner_free T) (hr.mono (by decide)) T.b_Runner_free (da_cons (de_var 2) da_nil) (arn_cons arn_nil) rfl))))))))))))))))
      (fun a oe pn hz hv => (dss_cons (ds_if (dt_w (dw_or (dt_not (dt_val (de_isE (i := 3) T.ec_NotNow hz hv T.kit_NotNow_ArmwarrantError T.x_ArmwarrantError.g rfl (by first | exact Or.inl rfl | exact Or.inr (Or.inl rfl)) (by decide) (by decide) rfl T.z_isinstance rfl))) (dw_or1 (dt_val (de_isE (i := 3) T.ec_NotNow hz hv T.kit_NotNow_UnknownArm T.x_UnknownArm.g rfl (by first | exact Or.inl rfl | exact Or.inr (Or.inl rfl)) (by decide) (by decide) rfl T.z_isinstance rfl)))))
      (dss_one (ds_ret de_str))
      dss_nil)
      (dss_one (ds_ret de_str)))))
      (dss_one (ds_ret de_str))))
noncomputable def m__law_ask (A : Adr) : M :=
  bodyM 4 ((sSeq (sTry A.c_UnknownArm [A.c_NotNow, A.c_NotSafe] 3
      (sIf (tBf (fOp gLt (fVar 1) (fC (.int 7))))
      (sExprX (xCall (m__law_event A) (aCons (fVar 0) (aCons (fVar 1) (aCons (fVar 2) aNil)))))
      (sIf (tBf (fOp gEq (fVar 1) (fC (.int 7))))
      (sExprX (xMeth A.c_Runner "may" (m_Runner_may A) (fVar 0) (aCons (fVar 2) aNil)))
      (sIf (tBf (fOp gEq (fVar 1) (fC (.int 8))))
      (sExprX (xMeth A.c_Runner "place_of" (m_Runner_place_of A) (fVar 0) (aCons (fVar 2) aNil)))
      (sIf (tBf (fOp gEq (fVar 1) (fC (.int 9))))
      (sExprX (xMeth A.c_Runner "is_halted" (m_Runner_is_halted A) (fVar 0) (aCons (fVar 2) aNil)))
      (sExprX (xMeth A.c_Runner "is_under_way" (m_Runner_is_under_way A) (fVar 0) (aCons (fVar 2) aNil)))))))
      (fun a => (sRet (fAnd (fIsE a 3 true) (fNot (fIsE a 3 false))))))
      (sRet (fC (.bl false)))))
theorem ok__law_ask (T : Facts K mg A) : FnD P w K mg base 12 A.a__law_ask A.d__law_ask P__law_ask (m__law_ask A) :=
  (fn_ok T.F__law_ask sc__law_ask fun cdv Ar outer s H E hr =>
    (dss_cons (ds_try_as (i := 3) rfl rfl sc__law_ask.nd rfl rfl ⟨rfl, by decide, .inl T.x_UnknownArm.g⟩ takes0 T.xm_UnknownArm_UnknownArm (hO_cons T.xm_NotNow_UnknownArm (hO_cons T.xm_NotSafe_UnknownArm hO_nil))
      (fun W pn xe tk pb => (dss_one (ds_if (dt_cmp od_lt (de_var 1) de_int)
      (dss_one (ds_exprX (dex_call tk (ok__law_event T) (hr.mono (by decide)) rfl T.g__law_event T.F__law_event.kp T.b__law_event (da_cons (de_var 0) (da_cons (de_var 1) (da_cons (de_var 2) da_nil))) (arn_cons (arn_cons (arn_cons arn_nil))) rfl)))
      (dss_one (ds_if (dt_cmp (od_eq (hu64 hr)) (de_var 1) de_int)
      (dss_one (ds_exprX (dex_meth tk (de_var 0) T.m_Runner_may (ok_Runner_may T) (hr.mono (by decide)) T.b_Runner_may (da_cons (de_var 2) da_nil) (arn_cons arn_nil) rfl)))
      (dss_one (ds_if (dt_cmp (od_eq (hu64 hr)) (de_var 1) de_int)
      (dss_one (ds_exprX (dex_meth tk (de_var 0) T.m_Runner_place_of (ok_Runner_place_of T) (hr.mono (by decide)) T.b_Runner_place_of (da_cons (de_var 2) da_nil) (arn_cons arn_nil) rfl)))
      (dss_one (ds_if (dt_cmp (od_eq (hu64 hr)) (de_var 1) de_int)
      (dss_one (ds_exprX (dex_meth tk (de_var 0) T.m_Runner_is_halted (ok_Runner_is_halted T) (hr.mono (by decide)) T.b_Runner_is_halted (da_cons (de_var 2) da_nil) (arn_cons arn_nil) rfl)))
      (dss_one (ds_exprX (dex_meth tk (de_var 0) T.m_Runner_is_under_way (ok_Runner_is_under_way T) (hr.mono (by decide)) T.b_Runner_is_under_way (da_cons (de_var 2) da_nil) (arn_cons arn_nil) rfl))))))))))))
      (fun a oe pn hz hv => (dss_one (ds_ret (de_and (de_isE (i := 3) T.ec_UnknownArm hz hv T.kit_UnknownArm_ArmwarrantError T.x_ArmwarrantError.g rfl (by first | exact Or.inl rfl | exact Or.inr (Or.inl rfl)) (by decide) (by decide) rfl T.z_isinstance rfl) (de_one (de_not (de_isE (i := 3) T.ec_UnknownArm hz hv T.kit_UnknownArm_NotNow T.x_NotNow.g rfl (by first | exact Or.inl rfl | exact Or.inr (Or.inl rfl)) (by decide) (by decide) rfl T.z_isinstance rfl))))))))
      (dss_one (ds_ret de_bl))))
noncomputable def m_law (A : Adr) : M :=
  bodyM 14 ((sSeq (sAsg (fCall (m__law_digits A) (aCons (fVar 0) (aCons (fC (.int 0)) (aCons (fC (.int 18)) aNil)))) (gNm 1))
      (sSeq (sAsg (fCall (m__law_plan A) (aCons (fVar 1) aNil)) (gTupD 3 (gConsD (gNm 2) (gConsD (gNm 3) (gConsD (gNm 4) gNilD)))))
      (sSeq (sAsg (fCB gLen (aCons (fVar 2) aNil)) (gNm 5))
      (sSeq (sAsg (fCall (m__law_new A) (aCons (fCut (fCallK (mNew A.c_Plan (m_Plan___init__ A)) (aCons (fVar 2) (aCons (fVar 3) aNil)) (aCons (fVar 4) aNil))) aNil)) (gNm 6))
      (sSeq (sIf (tBf (fOp gIsN (fVar 6) (fC .non)))
      (sRet (fC (.bl true)))
      sNx)
      (sSeq (sFor (iRange1 (aCons (fC (.int 12)) aNil)) (gNm 7)
      (sExprX (xCall (m__law_event A) (aCons (fVar 6) (aCons (fCall (m__law_digit A) (aCons (fVar 1) (aCons (fC (.int 7)) aNil))) (aCons (fCall (m__law_digit A) (aCons (fVar 1) (aCons (fVar 5) aNil))) aNil))))))
      (sSeq (sAsg (fCall (m__law_told A) (aCons (fVar 6) (aCons (fVar 5) aNil))) (gNm 8))
      (sSeq (sFor (iRange1 (aCons (fC (.int 11)) aNil)) (gNm 9)
      (sSeq (sAsg (fOp gAdd (fVar 5) (fCall (m__law_digit A) (aCons (fVar 1) (aCons (fC (.int 3)) aNil)))) (gNm 10))
      (sSeq (sIf (tBf (fOp gEq (fCall (m__law_digit A) (aCons (fVar 1) (aCons (fC (.int 2)) aNil))) (fC (.int 0))))
      (sAsg (fOp gSub (fNeg (fC (.int 1))) (fCall (m__law_digit A) (aCons (fVar 1) (aCons (fC (.int 3)) aNil)))) (gNm 10))
      sNx)
      (sIf (tOrf (tNotf (tBf (fCall (m__law_ask A) (aCons (fVar 6) (aCons (fVar 9) (aCons (fVar 10) aNil)))))) (tBf (fOp gNeS (fCall (m__law_told A) (aCons (fVar 6) (aCons (fVar 5) aNil))) (fVar 8))))
      (sRet (fC (.bl false)))
      sNx))))
      (sSeq (sAsg (fMeth A.c_Runner "fork" (m_Runner_fork A) (fVar 6) aNil) (gNm 11))
      (sSeq (sIf (tBf (fOp gNeS (fCall (m__law_told A) (aCons (fVar 11) (aCons (fVar 5) aNil))) (fVar 8)))
      (sRet (fC (.bl false)))
      sNx)
      (sSeq (sFor (iRange1 (aCons (fC (.int 12)) aNil)) (gNm 7)
      (sSeq (sAsg (fCall (m__law_told A) (aCons (fVar 6) (aCons (fVar 5) aNil))) (gNm 12))
      (sSeq (sAsg (fCall (m__law_told A) (aCons (fVar 11) (aCons (fVar 5) aNil))) (gNm 13))
      (sIf (tBf (fOp gEq (fCall (m__law_digit A) (aCons (fVar 1) (aCons (fC (.int 2)) aNil))) (fC (.int 0))))
      (sSeq (sExprX (xCall (m__law_event A) (aCons (fVar 6) (aCons (fCall (m__law_digit A) (aCons (fVar 1) (aCons (fC (.int 7)) aNil))) (aCons (fCall (m__law_digit A) (aCons (fVar 1) (aCons (fVar 5) aNil))) aNil)))))
      (sIf (tBf (fOp gNeS (fCall (m__law_told A) (aCons (fVar 11) (aCons (fVar 5) aNil))) (fVar 13)))
      (sRet (fC (.bl false)))
      sNx))
      (sSeq (sExprX (xCall (m__law_event A) (aCons (fVar 11) (aCons (fCall (m__law_digit A) (aCons (fVar 1) (aCons (fC (.int 7)) aNil))) (aCons (fCall (m__law_digit A) (aCons (fVar 1) (aCons (fVar 5) aNil))) aNil)))))
      (sIf (tBf (fOp gNeS (fCall (m__law_told A) (aCons (fVar 6) (aCons (fVar 5) aNil))) (fVar 12)))
      (sRet (fC (.bl false)))
      sNx))))))
      (sRet (fC (.bl true)))))))))))))))
theorem ok_law (T : Facts K mg A) : FnG P w K mg base 13 A.a_law A.d_law P_law (m_law A) :=
  (fng_ok T.F_law sc_law fun cdv Ar outer s H E gA hr =>
    (dss_cons (ds_set 1 sc_law.nd (de_call (ok__law_digits T) (hr.mono (by decide)) rfl T.g__law_digits T.F__law_digits.kp T.b__law_digits (da_cons (de_var 0) (da_cons de_int (da_cons de_int da_nil))) (arn_cons (arn_cons (arn_cons arn_nil))) rfl))
      (dss_cons (ds_asg (de_call (ok__law_plan T) (hr.mono (by decide)) rfl T.g__law_plan T.F__law_plan.kp T.b__law_plan (da_cons (de_var 1) da_nil) (arn_cons arn_nil) rfl) (dg_tup (dgs_cons (dg_name 2 sc_law.nd) (dgs_cons (dg_name 3 sc_law.nd) (dgs_cons (dg_name 4 sc_law.nd) dgs_nil)))))
      (dss_cons (ds_set 5 sc_law.nd (de_callB cd_len (by rfl) T.z_len (by decide +kernel) (da_cons (de_var 2) da_nil)))
      (dss_cons (ds_set 6 sc_law.nd (de_call (ok__law_new T) (hr.mono (by decide)) rfl T.g__law_new T.F__law_new.kp T.b__law_new (da_cons (de_cut (de_newK T.mk_Plan (ok_Plan___init__ T) (hr.mono (by decide)) rfl T.g_Plan T.kb_Plan___init__ (da_cons (de_var 2) (da_cons (de_var 3) da_nil)) (dk_cons (de_var 4) dk_nil) (arn_cons (arn_cons arn_nil)) (arn_cons arn_nil) rfl rfl)) da_nil) (arn_cons arn_nil) rfl))
      (dss_cons (ds_if (dt_cmp od_isN (de_var 6) de_non)
      (dss_one (ds_ret de_bl))
      dss_nil)
      (dss_cons (ds_for PassesOwn.never (di_range1 (by rfl) T.z_range (da_cons de_int da_nil)) (dg_name 7 sc_law.nd)
      (dss_one (ds_exprX (dex_call takes0 (ok__law_event T) (hr.mono (by decide)) rfl T.g__law_event T.F__law_event.kp T.b__law_event (da_cons (de_var 6) (da_cons (de_call (ok__law_digit T) (hr.mono (by decide)) rfl T.g__law_digit T.F__law_digit.kp T.b__law_digit (da_cons (de_var 1) (da_cons de_int da_nil)) (arn_cons (arn_cons arn_nil)) rfl) (da_cons (de_call (ok__law_digit T) (hr.mono (by decide)) rfl T.g__law_digit T.F__law_digit.kp T.b__law_digit (da_cons (de_var 1) (da_cons (de_var 5) da_nil)) (arn_cons (arn_cons arn_nil)) rfl) da_nil))) (arn_cons (arn_cons (arn_cons arn_nil))) rfl))))
      (dss_cons (ds_set 8 sc_law.nd (de_callG (ok__law_told T) gA (hr.mono (by decide)) rfl T.g__law_told T.F__law_told.kp T.b__law_told (da_cons (de_var 6) (da_cons (de_var 5) da_nil)) (arn_cons (arn_cons arn_nil)) rfl))
      (dss_cons (ds_for PassesOwn.never (di_range1 (by rfl) T.z_range (da_cons de_int da_nil)) (dg_name 9 sc_law.nd)
      (dss_cons (ds_set 10 sc_law.nd (de_op od_add (de_var 5) (de_call (ok__law_digit T) (hr.mono (by decide)) rfl T.g__law_digit T.F__law_digit.kp T.b__law_digit (da_cons (de_var 1) (da_cons de_int da_nil)) (arn_cons (arn_cons arn_nil)) rfl)))
      (dss_cons (ds_if (dt_cmp (od_eq (hu64 hr)) (de_call (ok__law_digit T) (hr.mono (by decide)) rfl T.g__law_digit T.F__law_digit.kp T.b__law_digit (da_cons (de_var 1) (da_cons de_int da_nil)) (arn_cons (arn_cons arn_nil)) rfl) de_int)
      (dss_one (ds_set 10 sc_law.nd (de_op od_sub (de_neg de_int) (de_call (ok__law_digit T) (hr.mono (by decide)) rfl T.g__law_digit T.F__law_digit.kp T.b__law_digit (da_cons (de_var 1) (da_cons de_int da_nil)) (arn_cons (arn_cons arn_nil)) rfl))))
      dss_nil)
      (dss_one (ds_if (dt_w (dw_or (dt_not (dt_val (de_call (ok__law_ask T) (hr.mono (by decide)) rfl T.g__law_ask T.F__law_ask.kp T.b__law_ask (da_cons (de_var 6) (da_cons (de_var 9) (da_cons (de_var 10) da_nil))) (arn_cons (arn_cons (arn_cons arn_nil))) rfl))) (dw_or1 (dt_cmp od_neS (de_callG (ok__law_told T) gA (hr.mono (by decide)) rfl T.g__law_told T.F__law_told.kp T.b__law_told (da_cons (de_var 6) (da_cons (de_var 5) da_nil)) (arn_cons (arn_cons arn_nil)) rfl) (de_var 8)))))
      (dss_one (ds_ret de_bl))
      dss_nil)))))
      (dss_cons (ds_set 11 sc_law.nd (de_meth0 (de_var 6) T.m_Runner_fork (ok_Runner_fork T) (hr.mono (by decide)) T.b_Runner_fork rfl))
      (dss_cons (ds_if (dt_cmp od_neS (de_callG (ok__law_told T) gA (hr.mono (by decide)) rfl T.g__law_told T.F__law_told.kp T.b__law_told (da_cons (de_var 11) (da_cons (de_var 5) da_nil)) (arn_cons (arn_cons arn_nil)) rfl) (de_var 8))
      (dss_one (ds_ret de_bl))
      dss_nil)
      (dss_cons (ds_for PassesOwn.never (di_range1 (by rfl) T.z_range (da_cons de_int da_nil)) (dg_name 7 sc_law.nd)
      (dss_cons (ds_set 12 sc_law.nd (de_callG (ok__law_told T) gA (hr.mono (by decide)) rfl T.g__law_told T.F__law_told.kp T.b__law_told (da_cons (de_var 6) (da_cons (de_var 5) da_nil)) (arn_cons (arn_cons arn_nil)) rfl))
      (dss_cons (ds_set 13 sc_law.nd (de_callG (ok__law_told T) gA (hr.mono (by decide)) rfl T.g__law_told T.F__law_told.kp T.b__law_told (da_cons (de_var 11) (da_cons (de_var 5) da_nil)) (arn_cons (arn_cons arn_nil)) rfl))
      (dss_one (ds_if (dt_cmp (od_eq (hu64 hr)) (de_call (ok__law_digit T) (hr.mono (by decide)) rfl T.g__law_digit T.F__law_digit.kp T.b__law_digit (da_cons (de_var 1) (da_cons de_int da_nil)) (arn_cons (arn_cons arn_nil)) rfl) de_int)
      (dss_cons (ds_exprX (dex_call takes0 (ok__law_event T) (hr.mono (by decide)) rfl T.g__law_event T.F__law_event.kp T.b__law_event (da_cons (de_var 6) (da_cons (de_call (ok__law_digit T) (hr.mono (by decide)) rfl T.g__law_digit T.F__law_digit.kp T.b__law_digit (da_cons (de_var 1) (da_cons de_int da_nil)) (arn_cons (arn_cons arn_nil)) rfl) (da_cons (de_call (ok__law_digit T) (hr.mono (by decide)) rfl T.g__law_digit T.F__law_digit.kp T.b__law_digit (da_cons (de_var 1) (da_cons (de_var 5) da_nil)) (arn_cons (arn_cons arn_nil)) rfl) da_nil))) (arn_cons (arn_cons (arn_cons arn_nil))) rfl))
      (dss_one (ds_if (dt_cmp od_neS (de_callG (ok__law_told T) gA (hr.mono (by decide)) rfl T.g__law_told T.F__law_told.kp T.b__law_told (da_cons (de_var 11) (da_cons (de_var 5) da_nil)) (arn_cons (arn_cons arn_nil)) rfl) (de_var 13))
      (dss_one (ds_ret de_bl))
      dss_nil)))
      (dss_cons (ds_exprX (dex_call takes0 (ok__law_event T) (hr.mono (by decide)) rfl T.g__law_event T.F__law_event.kp T.b__law_event (da_cons (de_var 11) (da_cons (de_call (ok__law_digit T) (hr.mono (by decide)) rfl T.g__law_digit T.F__law_digit.kp T.b__law_digit (da_cons (de_var 1) (da_cons de_int da_nil)) (arn_cons (arn_cons arn_nil)) rfl) (da_cons (de_call (ok__law_digit T) (hr.mono (by decide)) rfl T.g__law_digit T.F__law_digit.kp T.b__law_digit (da_cons (de_var 1) (da_cons (de_var 5) da_nil)) (arn_cons (arn_cons arn_nil)) rfl) da_nil))) (arn_cons (arn_cons (arn_cons arn_nil))) rfl))
      (dss_one (ds_if (dt_cmp od_neS (de_callG (ok__law_told T) gA (hr.mono (by decide)) rfl T.g__law_told T.F__law_told.kp T.b__law_told (da_cons (de_var 6) (da_cons (de_var 5) da_nil)) (arn_cons (arn_cons arn_nil)) rfl) (de_var 12))
      (dss_one (ds_ret de_bl))
      dss_nil))))))))
      (dss_one (ds_ret de_bl))))))))))))))
end
end Pg

set_option Elab.async false
set_option linter.all false
set_option maxRecDepth 100000
set_option maxHeartbeats 4000000
/-! plans as plain data, and what the defs of plans reckon -/
namespace Pg
open PySem L2 DL

/-! ### the data -/
/-- a name -/
abbrev Nm := {s : Str // PyData.strOk s = true}
def nmD (n : Nm) : D := .str n.1
def heldD : Option Nm → D
  | none => .non
  | some n => nmD n
inductive Step where
  | move (p : Nm)
  | hold (h : Option Nm)
  | set (s : Nm) (on : Bool)
  | wait (s : Nm) (on : Bool)
  | jump (n : Nat)
  | iff (i : Nm) (n : Nat)
def stepD : Step → D
  | .move p => .tup [.str "move", nmD p]
  | .hold h => .tup [.str "hold", heldD h]
  | .set s on => .tup [.str "set", nmD s, .bl on]
  | .wait s on => .tup [.str "wait", nmD s, .bl on]
  | .jump n => .tup [.str "jump", .int n]
  | .iff i n => .tup [.str "if", nmD i, .int n]
abbrev Flow := List Step
def flowD (f : Flow) : D := .lst (f.map stepD)
structure Spot where
  at_ : Nat
  point : Nm
  held : Option Nm
deriving DecidableEq
def spotD (s : Spot) : D := .tup [.int s.at_, nmD s.point, heldD s.held]
structure State where
  spots : List Spot
  sig : List Nm
deriving DecidableEq
def stateD (s : State) : D := .tup [.tup (s.spots.map spotD), .tup (s.sig.map nmD)]
inductive Place where
  | rest (p : Nm) (h : Option Nm)
  | move (p q : Nm) (h : Option Nm)
deriving DecidableEq
def placeD : Place → D
  | .rest p h => .tup [.str "rest", nmD p, heldD h]
  | .move p q h => .tup [.str "move", nmD p, nmD q, heldD h]
def placeOD : Option Place → D
  | none => .non
  | some p => placeD p
def nmK (n : Nm) : NestedKey := .text n.1
def heldK : Option Nm → NestedKey
  | none => .none
  | some n => nmK n
def placeK : Place → NestedKey
  | .rest p h => .tup [.text "rest", nmK p, heldK h]
  | .move p q h => .tup [.text "move", nmK p, nmK q, heldK h]
abbrev Quad := Nat × Place × Nat × Place
def quadK (q : Quad) : NestedKey := .tup [.num q.1, placeK q.2.1, .num q.2.2.1, placeK q.2.2.2]
def quadD (q : Quad) : D := .tup [.int q.1, placeD q.2.1, .int q.2.2.1, placeD q.2.2.2]
structure PlanM where
  flows : List Flow
  starts : List Nm
  kvs : List (NestedKey × D)
def PlanM.blk (p : PlanM) (q : Quad) : Bool := (dGet p.kvs (quadK q)).isSome
def planFs (p : PlanM) : List (Str × D) := [("flows", .lst (p.flows.map flowD)), ("starts", .lst (p.starts.map nmD)), ("blocks", .dct p.kvs)]
def planD (A : Adr) (p : PlanM) : D := .ins A.c_Plan (planFs p)

/-! ### keys -/
@[simp] theorem toNK_nm (n : Nm) : toNK (nmD n) = some (nmK n) := rfl
@[simp] theorem toNK_held (h : Option Nm) : toNK (heldD h) = some (heldK h) := by cases h <;> rfl
@[simp] theorem toNK_place (p : Place) : toNK (placeD p) = some (placeK p) := by
  cases p <;> simp [placeD, placeK, toNK, toNKs]
theorem depth_held (h : Option Nm) : (heldK h).depth = 0 := by cases h <;> rfl
theorem depth_place (p : Place) : (placeK p).depth = 1 := by
  cases p <;> simp [placeK, NestedKey.depth, NestedKey.depthAll, depth_held, nmK]
theorem keyD_quad (q : Quad) : keyD (quadD q) = some (quadK q) := by
  have h : toNKs [.int (q.1 : Int), placeD q.2.1, .int (q.2.2.1 : Int), placeD q.2.2.2] = some [.num q.1, placeK q.2.1, .num q.2.2.1, placeK q.2.2.2] := by simp [toNKs, toNK]
  unfold keyD quadD
  simp only [h]
  rw [if_pos (by simp [NestedKey.depth, NestedKey.depthAll, depth_place])]
  rfl
theorem nmK_inj {a b : Nm} (h : nmK a = nmK b) : a = b := by
  unfold nmK at h
  injection h with h
  exact Subtype.ext h
theorem heldK_inj {a b : Option Nm} (h : heldK a = heldK b) : a = b := by
  cases a <;> cases b
  · rfl
  · exact nomatch h
  · exact nomatch h
  · exact congrArg some (nmK_inj h)
theorem placeK_inj {a b : Place} (h : placeK a = placeK b) : a = b := by
  cases a with
  | rest p x =>
    cases b with
    | rest q y =>
      simp only [placeK, NestedKey.tup.injEq, List.cons.injEq] at h
      rw [nmK_inj h.2.1, heldK_inj h.2.2.1]
    | move q r y => simp [placeK] at h
  | move p p2 x =>
    cases b with
    | rest q y => simp [placeK] at h
    | move q r y =>
      simp only [placeK, NestedKey.tup.injEq, List.cons.injEq] at h
      rw [nmK_inj h.2.1, nmK_inj h.2.2.1, heldK_inj h.2.2.2.1]
theorem quadK_inj {a b : Quad} (h : quadK a = quadK b) : a = b := by
  obtain ⟨a1, a2, a3, a4⟩ := a
  obtain ⟨b1, b2, b3, b4⟩ := b
  simp only [quadK, NestedKey.tup.injEq, List.cons.injEq, NestedKey.num.injEq] at h
  rw [placeK_inj h.2.1, placeK_inj h.2.2.2.1, show a1 = b1 by omega, show a3 = b3 by omega]

/-! ### == of names -/
@[simp] theorem eqD_nm (a b : Nm) : eqD (nmD a) (nmD b) = some (decide (a = b)) := by
  unfold nmD
  rw [eqD_str a.2 b.2]
  congr 1
  rw [Bool.eq_iff_iff]
  simp [Subtype.ext_iff]

/-! ### what a plan's defs reckon -/
section
variable (p : PlanM)
@[simp] theorem look_flows : (planFs p).lookup ("flows" : Str) = some (.lst (p.flows.map flowD)) := rfl
@[simp] theorem look_starts : (planFs p).lookup ("starts" : Str) = some (.lst (p.starts.map nmD)) := rfl
@[simp] theorem look_blocks : (planFs p).lookup ("blocks" : Str) = some (.dct p.kvs) := rfl
@[simp] theorem lk_step_of : (planFs p).lookup ("step_of" : Str) = none := rfl
@[simp] theorem lk_wanted : (planFs p).lookup ("wanted" : Str) = none := rfl
@[simp] theorem lk_rest_of : (planFs p).lookup ("rest_of" : Str) = none := rfl
@[simp] theorem lk_is_clear : (planFs p).lookup ("is_clear" : Str) = none := rfl
@[simp] theorem lk_hindered_by : (planFs p).lookup ("hindered_by" : Str) = none := rfl
@[simp] theorem lk_can_step : (planFs p).lookup ("can_step" : Str) = none := rfl
@[simp] theorem lk_outcomes : (planFs p).lookup ("outcomes" : Str) = none := rfl
@[simp] theorem lk_stepped : (planFs p).lookup ("stepped" : Str) = none := rfl
@[simp] theorem lk_has_ended : (planFs p).lookup ("has_ended" : Str) = none := rfl
@[simp] theorem lk_all_ended : (planFs p).lookup ("all_ended" : Str) = none := rfl
@[simp] theorem lk_first_state : (planFs p).lookup ("first_state" : Str) = none := rfl
end
variable {A : Adr} {p : PlanM} {s : State} {θ : Sto}
theorem atI_map {α : Type} (f : α → D) (xs : List α) (i : Nat) : atI (xs.map f) (i : Int) = (xs[i]?).map f := by
  cases h : xs[i]? with
  | none =>
    have hl := List.getElem?_eq_none_iff.mp h
    unfold atI ixN
    rw [if_pos (by omega), if_neg (by simp; omega)]
    rfl
  | some x => rw [atI_nat (v := f x) (by rw [List.getElem?_map, h]; rfl)]; rfl
@[simp] theorem obj_plan : objOf θ (planD A p) = some (A.c_Plan, planFs p) := rfl
def stepOD : Option Step → D
  | none => .non
  | some st => stepD st
@[simp] theorem isNonD_step (st : Step) : isNonD (stepD st) = false := by cases st <;> rfl
@[simp] theorem isNonD_stepO (st : Option Step) : isNonD (stepOD st) = st.isNone := by cases st <;> simp [stepOD]
@[simp] theorem isNonD_placeO (st : Option Place) : isNonD (placeOD st) = st.isNone := by
  cases st with
  | none => rfl
  | some q => cases q <;> rfl
/-- the step at which an arm is -/
def stepOf (p : PlanM) (s : State) (a : Nat) : Option Step := do
  let sp ← s.spots[a]?
  let fl ← p.flows[a]?
  fl[sp.at_]?
/-- states that fit a plan -/
def Fit (p : PlanM) (s : State) : Prop := s.spots.length = p.flows.length
theorem m_step_of {a : Nat} {sp : Spot} {fl : Flow} (h1 : s.spots[a]? = some sp) (h2 : p.flows[a]? = some fl) :
    m_Plan_step_of A [planD A p, stateD s, .int a] θ = some (stepOD (fl[sp.at_]?), θ) := by
  simp [m_Plan_step_of, bodyM_ap, stateD, atI_map, h1, h2, spotD, flowD]
  cases h : fl[sp.at_]? with
  | none =>
    have hl := List.getElem?_eq_none_iff.mp h
    rw [if_neg (by omega)]
    rfl
  | some st =>
    have hl := (List.getElem?_eq_some_iff.mp h).1
    rw [if_pos hl]
    rfl
end Pg

set_option Elab.async false
set_option linter.all false
set_option maxRecDepth 100000
set_option maxHeartbeats 4000000
namespace Pg
open PySem L2 DL
variable {A : Adr} {p : PlanM} {s : State} {θ : Sto}
/-! ### wanted, rest_of, is_clear -/
def wantedSp : Option Step → Spot → Option Place
  | some (.move q), sp => some (.move sp.point q sp.held)
  | some (.hold h), sp => some (.rest sp.point h)
  | _, _ => none
def restSp (sp : Spot) : Place := .rest sp.point sp.held
/-- parts of a state -/
@[simp] theorem st_0 : gIx θ (stateD s) (.int 0) = some (.tup (s.spots.map spotD)) := by simp [stateD]
@[simp] theorem st_1 : gIx θ (stateD s) (.int 1) = some (.tup (s.sig.map nmD)) := by simp [stateD]
theorem ix_spots {a : Nat} {sp : Spot} (h : s.spots[a]? = some sp) : gIx θ (.tup (s.spots.map spotD)) (.int a) = some (spotD sp) := by
  simp [atI_map, h]
theorem ix_flows {a : Nat} {fl : Flow} (h : p.flows[a]? = some fl) : gIx θ (.lst (p.flows.map flowD)) (.int a) = some (flowD fl) := by
  simp [atI_map, h]
theorem spot_tup (g1 g2 g3 : FG) {δ : Dv} {sp : Spot} : gTupD 3 (gConsD g1 (gConsD g2 (gConsD g3 gNilD))) (spotD sp) δ θ = gConsD g1 (gConsD g2 (gConsD g3 gNilD)) [.int sp.at_, nmD sp.point, heldD sp.held] δ θ := by
  simp [spotD]
theorem m_wanted {a : Nat} {sp : Spot} {fl : Flow} (h1 : s.spots[a]? = some sp) (h2 : p.flows[a]? = some fl) :
    m_Plan_wanted A [planD A p, stateD s, .int a] θ = some (placeOD (wantedSp fl[sp.at_]? sp), θ) := by
  have e1 := m_step_of (A := A) (θ := θ) h1 h2
  cases h : fl[sp.at_]? with
  | none =>
    rw [h] at e1
    simp [m_Plan_wanted, bodyM_ap, ix_spots h1, e1, spot_tup, -gIx_ap, stepOD, wantedSp, placeOD]
  | some st =>
    rw [h] at e1
    cases st <;> simp [m_Plan_wanted, bodyM_ap, ix_spots h1, e1, spot_tup, -gIx_ap, stepOD, wantedSp, placeOD] <;> simp [stepD, placeD, heldD]
theorem m_rest_of {a : Nat} {sp : Spot} (h1 : s.spots[a]? = some sp) (P : D) : m_Plan_rest_of A [P, stateD s, .int a] θ = some (placeD (restSp sp), θ) := by
  simp [m_Plan_rest_of, bodyM_ap, ix_spots h1, spot_tup, -gIx_ap, restSp, placeD]
theorem m_is_clear {a b : Nat} {x y : Place} : m_Plan_is_clear A [planD A p, .int a, placeD x, .int b, placeD y] θ = some (.bl (!p.blk (a, x, b, y)), θ) := by
  have e : keyD (.tup [.int (a : Int), placeD x, .int (b : Int), placeD y]) = some (quadK (a, x, b, y)) := keyD_quad (a, x, b, y)
  simp [m_Plan_is_clear, bodyM_ap, gNotInN, memN, e, PlanM.blk]
end Pg

set_option Elab.async false
set_option linter.all false
set_option maxRecDepth 100000
set_option maxHeartbeats 4000000
namespace Pg
open PySem L2 DL
/-! ### loops over the arms that look for one -/
def natD (k : Nat) : D := .int (k : Int)
def natOD : Option Nat → D
  | none => .non
  | some k => natD k
theorem rngD_0 (n : Nat) : rngD 0 n = (List.range n).map natD := by
  unfold rngD natD
  simp
/-- the last one that was taken, at a slot -/
def lastAt (δ : Dv) (i : Nat) (ks : List Nat) : Dv := match ks.getLast? with
  | none => δ
  | some k => δ.set i (some (natD k))
theorem forF_find {i : Nat} {b : FS} {δ : Dv} {θ : Sto} (C : Nat → Bool) (R : Nat → D) : ∀ (ks : List Nat),
    (∀ k ∈ ks, b (δ.set i (some (natD k))) θ = if C k = true then some (.ret (R k) θ) else some (.nx (δ.set i (some (natD k))) θ)) →
    forF (gNm i) b (ks.map natD) δ θ = match ks.find? C with | some k => some (.ret (R k) θ) | none => some (.nx (lastAt δ i ks) θ)
  | [], _ => rfl
  | k :: ks, h => by
    rw [List.map_cons, forF_cons, gNm_ap]
    simp only
    rw [h k (List.mem_cons_self ..)]
    by_cases hc : C k = true
    · rw [if_pos hc, List.find?_cons, hc]
    · rw [if_neg hc]
      simp only
      have hc' : C k = false := by simpa using hc
      have ih := forF_find (i := i) (b := b) (δ := δ.set i (some (natD k))) (θ := θ) C R ks fun j hj => by
        rw [List.set_set]
        exact h j (List.mem_cons_of_mem _ hj)
      rw [ih, List.find?_cons, hc']
      simp only
      split
      · rfl
      · unfold lastAt
        cases ks with
        | nil => rfl
        | cons j js =>
          rw [List.getLast?_cons_cons]
          split
          · rename_i e; simp at e
          · rw [List.set_set]
variable {A : Adr} {p : PlanM} {s : State} {θ : Sto}
/-- states that fit a plan -/
def spotAt (s : State) (a : Nat) : Spot := s.spots.getD a ⟨0, ⟨"p", by decide +kernel⟩, none⟩
theorem spotAt_get {a : Nat} (h : a < s.spots.length) : s.spots[a]? = some (spotAt s a) := by
  unfold spotAt
  rw [List.getD_eq_getElem?_getD, List.getElem?_eq_getElem h]
  rfl
def flowAt (p : PlanM) (a : Nat) : Flow := p.flows.getD a []
theorem flowAt_get {a : Nat} (h : a < p.flows.length) : p.flows[a]? = some (flowAt p a) := by
  unfold flowAt
  rw [List.getD_eq_getElem?_getD, List.getElem?_eq_getElem h]
  rfl
def stepAt (p : PlanM) (s : State) (a : Nat) : Option Step := (flowAt p a)[(spotAt s a).at_]?
def wantedAt (p : PlanM) (s : State) (a : Nat) : Option Place := wantedSp (stepAt p s a) (spotAt s a)
/-- the first other arm whose rest is blocked for a place of an arm -/
def blocker (p : PlanM) (s : State) (a : Nat) (pl : Place) (o : Nat) : Bool := decide (o ≠ a) && p.blk (a, pl, o, restSp (spotAt s o))
def hind (p : PlanM) (s : State) (a : Nat) : Option Nat := match wantedAt p s a with
  | none => none
  | some pl => (List.range p.flows.length).find? (blocker p s a pl)
@[simp] theorem isNonD_place (q : Place) : isNonD (placeD q) = false := by cases q <;> rfl
section
variable {a : Nat}
theorem ms_step_of (hs : s.spots.length = p.flows.length) (ha : a < p.flows.length) : m_Plan_step_of A [planD A p, stateD s, .int a] θ = some (stepOD (stepAt p s a), θ) :=
  m_step_of (spotAt_get (by omega)) (flowAt_get ha)
theorem ms_wanted (hs : s.spots.length = p.flows.length) (ha : a < p.flows.length) : m_Plan_wanted A [planD A p, stateD s, .int a] θ = some (placeOD (wantedAt p s a), θ) :=
  m_wanted (spotAt_get (by omega)) (flowAt_get ha)
theorem ms_rest_of (hs : s.spots.length = p.flows.length) (ha : a < p.flows.length) (P : D) : m_Plan_rest_of A [P, stateD s, .int a] θ = some (placeD (restSp (spotAt s a)), θ) :=
  m_rest_of (spotAt_get (by omega)) P
theorem ms_hind (hs : s.spots.length = p.flows.length) (ha : a < p.flows.length) (hn : p.flows.length ≤ 1000) : m_Plan_hindered_by A [planD A p, stateD s, .int a] θ = some (natOD (hind p s a), θ) := by
  have e1 := ms_wanted (A := A) (θ := θ) hs ha
  have hn2 : R62 (p.flows.length : Int) := R62_nat (by omega)
  unfold hind
  cases h : wantedAt p s a with
  | none =>
    rw [h] at e1
    simp [m_Plan_hindered_by, bodyM_ap, e1, placeOD, natOD]
  | some pl =>
    rw [h] at e1
    have hpl : isNonD (placeOD (some pl)) = false := by simp
    have key := forF_find (i := 4) (b := sIf (tAndf (tBf (fOp gNe (fVar 4) (fVar 2))) (tNotf (tBf (fMeth A.c_Plan "is_clear" (m_Plan_is_clear A) (fVar 0) (aCons (fVar 2) (aCons (fVar 3) (aCons (fVar 4) (aCons (fMeth A.c_Plan "rest_of" (m_Plan_rest_of A) (fVar 0) (aCons (fVar 1) (aCons (fVar 4) aNil))) aNil))))))))
      (sRet (fVar 4))
      sNx) (δ := [some (planD A p), some (stateD s), some (.int a), some (placeD pl), none]) (θ := θ) (blocker p s a pl) natD (List.range p.flows.length) fun k hk => by
        have hk' : k < p.flows.length := List.mem_range.mp hk
        have e2 := ms_rest_of (A := A) (θ := θ) hs hk' (planD A p)
        have e3 := m_is_clear (A := A) (p := p) (θ := θ) (a := a) (b := k) (x := pl) (y := restSp (spotAt s k))
        by_cases hka : k = a
        · subst hka
          simp [blocker, natD]
        · have hka' : ¬ (k : Int) = (a : Int) := by omega
          simp [blocker, natD, e2, e3, hka, hka']
          cases hb : p.blk (a, pl, k, restSp (spotAt s k)) <;> simp
    simp only [m_Plan_hindered_by, bodyM_ap]
    simp [e1, rngD_0, hn2, placeOD]
    rw [key]
    cases hf : (List.range p.flows.length).find? (blocker p s a pl) with
    | some k => simp [natOD]
    | none => simp [natOD]
/-- whether an arm can step -/
def canStep (p : PlanM) (s : State) (a : Nat) : Bool := match stepAt p s a with
  | none => false
  | some (.wait n on) => decide (n ∈ s.sig) == on
  | some _ => (hind p s a).isNone
theorem flatDs_nm : ∀ ns : List Nm, flatDs (ns.map nmD) = some (ns.map fun n => V.str n.1)
  | [] => rfl
  | n :: ns => by
    have ih := flatDs_nm ns
    simp only [List.map_cons, flatDs, ih]
    rfl
theorem inV_nm (n : Nm) : ∀ ns : List Nm, inV (.str n.1) (ns.map fun n => V.str n.1) = decide (n ∈ ns)
  | [] => rfl
  | m :: ns => by
    have ih := inV_nm n ns
    unfold inV at ih ⊢
    rw [List.map_cons, List.any_cons, ih]
    have e : eqV (.str m.1) (.str n.1) = decide (n = m) := by
      show (m.1 == n.1) = _
      rw [Bool.eq_iff_iff]
      simp only [beq_iff_eq, decide_eq_true_eq]
      exact ⟨fun h => Subtype.ext h.symm, fun h => by rw [h]⟩
    rw [e, Bool.eq_iff_iff]
    simp
@[simp] theorem gInF_nm (n : Nm) (ns : List Nm) : gInF θ (nmD n) (.tup (ns.map nmD)) = some (.bl (decide (n ∈ ns))) := by
  simp only [gInF, memF, seqOf_tup, flatDs_nm]
  simp only [nmD, flatD, inV_nm]
theorem ms_can_step (hs : s.spots.length = p.flows.length) (ha : a < p.flows.length) (hn : p.flows.length ≤ 1000) : m_Plan_can_step A [planD A p, stateD s, .int a] θ = some (.bl (canStep p s a), θ) := by
  have e1 := ms_step_of (A := A) (θ := θ) hs ha
  have e2 := ms_hind (A := A) (θ := θ) hs ha hn
  have hnon : ∀ h : Option Nat, isNonD (natOD h) = h.isNone := fun h => by cases h <;> rfl
  unfold canStep
  cases h : stepAt p s a with
  | none =>
    rw [h] at e1
    simp [m_Plan_can_step, bodyM_ap, e1, stepOD]
  | some st =>
    rw [h] at e1
    cases st <;> simp [m_Plan_can_step, bodyM_ap, e1, stepOD, stepD, e2, hnon, -gIx_ap] <;> simp [e2, hnon]
    · rename_i n on
      cases on <;> simp
end
end Pg

set_option Elab.async false
set_option linter.all false
set_option maxRecDepth 100000
set_option maxHeartbeats 4000000
namespace Pg
open PySem L2 DL
variable {A : Adr} {p : PlanM} {s : State} {θ : Sto}
/-! ### landing -/
def landF (f : Flow) : Nat → Nat → Nat
  | 0, i => i
  | k + 1, i => match f[i]? with
    | some (.jump n) => landF f k n
    | _ => i
def land (f : Flow) (i : Nat) : Nat := landF f f.length i
/-- jumps lead forward -/
def WfF (f : Flow) : Prop := ∀ (i n : Nat), f[i]? = some (Step.jump n) → i < n
@[simp] theorem step0 (st : Step) : gIx θ (stepD st) (.int 0) = some (.str (match st with | .move _ => "move" | .hold _ => "hold" | .set _ _ => "set" | .wait _ _ => "wait" | .jump _ => "jump" | .iff _ _ => "if")) := by
  cases st <;> simp [stepD]
theorem land_loop (f : Flow) (hf : WfF f) : ∀ (k i : Nat), f.length - i ≤ k →
    whileF (tAndf (tBf (fOp gLt (fVar 1) (fCB gLen (aCons (fVar 0) aNil)))) (tBf (fOp gEq (fOp gIx (fOp gIx (fVar 0) (fVar 1)) (fC (.int 0))) (fC (.str "jump")))))
      (sAsg (fOp gIx (fOp gIx (fVar 0) (fVar 1)) (fC (.int 1))) (gNm 1)) (k + 1) [some (flowD f), some (.int i)] θ = some (.nx [some (flowD f), some (.int (landF f k i))] θ)
  | k, i, hk => by
    have hlen : gLen θ [flowD f] = some (.int f.length) := by simp [flowD]
    unfold whileF
    by_cases hi : i < f.length
    · have hfi : f[i]? = some f[i] := List.getElem?_eq_getElem hi
      have hix : gIx θ (flowD f) (.int i) = some (stepD f[i]) := by simp [flowD, atI_map, hfi]
      cases hst : f[i] with
      | jump n =>
        rw [hst] at hix hfi
        have hn := hf i n hfi
        obtain ⟨k, rfl⟩ : ∃ j, k = j + 1 := ⟨k - 1, by omega⟩
        have ih := land_loop f hf k n (by omega)
        have h1 : gIx θ (stepD (.jump n)) (.int 1) = some (.int n) := by simp [stepD]
        simp [hlen, hix, hi, -gIx_ap, h1]
        rw [ih]
        simp [landF, hfi]
      | _ =>
        rw [hst] at hix hfi
        simp [hlen, hix, hi, -gIx_ap]
        cases k <;> simp [landF, hfi]
    · have hfi : f[i]? = none := List.getElem?_eq_none (by omega)
      simp [hlen, hi]
      cases k <;> simp [landF, hfi]
theorem m_land {f : Flow} (hf : WfF f) (i : Nat) : m_landing A [flowD f, .int i] θ = some (.int (land f i), θ) := by
  have h := sWhile_of (land_loop (θ := θ) f hf f.length i (by omega))
  simp [m_landing, bodyM_ap, h, land]
theorem land_ge (f : Flow) (hf : WfF f) : ∀ k i, i ≤ landF f k i
  | 0, i => Nat.le_refl _
  | k + 1, i => by
    unfold landF
    split
    · rename_i n h
      have := hf i n h
      have := land_ge f hf k n
      omega
    · exact Nat.le_refl _
/-! ### stepped -/
theorem below_nm (L : Nat) (n : Nm) : below L (nmD n) = true := rfl
theorem below_held (L : Nat) (h : Option Nm) : below L (heldD h) = true := by cases h <;> rfl
theorem below_spot (L : Nat) (sp : Spot) : below L (spotD sp) = true := by simp [spotD, below, belows, below_nm, below_held]
theorem belows_map {α : Type} (L : Nat) (f : α → D) (h : ∀ a, below L (f a) = true) : ∀ xs : List α, belows L (xs.map f) = true
  | [] => rfl
  | x :: xs => by simp [belows, h x, belows_map L f h xs]
theorem below_state (L : Nat) (s : State) : below L (stateD s) = true := by
  simp [stateD, below, belows, belows_map L spotD (below_spot L), belows_map L nmD (below_nm L)]
theorem cutR_app {θ j : Sto} {d : D} (h : below θ.length d = true) : cutR θ (some (d, θ ++ j)) = some (d, θ) := by
  have e : frz (θ ++ j) θ.length 9 d = some d := by unfold frz; rw [if_pos h]
  have ok : OkCut θ (θ ++ j) := ⟨by simp, fun n c hn hc => by rw [List.getElem?_append_left hn] at hc; exact .inl hc⟩
  simp only [cutR, e]
  rw [if_pos ok]
  simp
theorem getElem?_app_len {θ j : Sto} {c : Cell} : (θ ++ c :: j)[θ.length]? = some c := by
  rw [List.getElem?_append_right (Nat.le_refl _)]; simp
theorem set_app_len {θ j : Sto} {c d : Cell} : (θ ++ c :: j).set θ.length d = θ ++ d :: j := by
  rw [List.set_append_right _ _ (Nat.le_refl _)]; simp
theorem ixN_nat {n i : Nat} (h : i < n) : ixN n (i : Int) = some i := by
  unfold ixN
  rw [if_pos (by omega), if_pos (by omega)]
  simp
theorem ms_stepped {a : Nat} (hs : s.spots.length = p.flows.length) (ha : a < p.flows.length) (hw : ∀ f ∈ p.flows, WfF f) {i : Int} {j : Nat} (hij : i = (j : Int)) {q : Nm} {h : Option Nm} {sig : List Nm} :
    m_Plan_stepped A [planD A p, stateD s, .int a, .tup [.int i, nmD q, heldD h], .tup (sig.map nmD)] θ = some (stateD ⟨s.spots.set a ⟨land (flowAt p a) j, q, h⟩, sig⟩, θ) := by
  subst hij
  have hfl : WfF (flowAt p a) := hw _ (List.mem_of_getElem? (flowAt_get ha))
  have e1 : gIx (θ ++ [Cell.lst (s.spots.map spotD)]) (.lst (p.flows.map flowD)) (.int a) = some (flowD (flowAt p a)) := ix_flows (flowAt_get ha)
  have e2 := m_land (A := A) (θ := θ ++ [Cell.lst (s.spots.map spotD)]) hfl j
  have e3 : setIx (θ ++ [Cell.lst (s.spots.map spotD)]) (.ref θ.length) (.int a) (.tup [.int (land (flowAt p a) j), nmD q, heldD h]) = some (θ ++ [Cell.lst ((s.spots.set a ⟨land (flowAt p a) j, q, h⟩).map spotD)]) := by
    unfold setIx
    simp only [getElem?_app_len, List.length_map]
    rw [ixN_nat (by omega)]
    simp only [set_app_len]
    rw [List.map_set]
    rfl
  have e4 : m_Plan_stepped A [planD A p, stateD s, .int a, .tup [.int j, nmD q, heldD h], .tup (sig.map nmD)] θ = cutR θ (some (stateD ⟨s.spots.set a ⟨land (flowAt p a) j, q, h⟩, sig⟩, θ ++ [Cell.lst ((s.spots.set a ⟨land (flowAt p a) j, q, h⟩).map spotD)])) := by
    simp only [m_Plan_stepped, mCut, bodyM_ap]
    simp [-gIx_ap, e1, e2, e3, gTuple_ref, lstOf_ref, getElem?_app_len]
    simp [stateD]
  rw [e4, cutR_app (below_state _ _)]
theorem mapO_below {θ' : Sto} {L k : Nat} : ∀ {ds : List D}, belows L ds = true → mapO (frz θ' L k) ds = some ds
  | [], _ => rfl
  | d :: ds, h => by
    simp only [belows, Bool.and_eq_true] at h
    have e : frz θ' L k d = some d := by
      cases k with
      | zero => unfold frz; rw [if_pos h.1]
      | succ k => unfold frz; rw [if_pos h.1]
    unfold mapO
    rw [e, mapO_below h.2]
theorem cut_lst {θ2 : Sto} {ys : List D} (hl : θ2.length = θ.length) (hb : belows θ.length ys = true) (hc : ∀ (n : Nat) (c : Cell), θ2[n]? = some c → θ[n]? = some c ∨ belowC θ.length c = true) :
    cutR θ (some (.ref θ.length, θ2 ++ [.lst ys])) = some (.lst ys, θ2) := by
  have e0 : (θ2 ++ [Cell.lst ys])[θ.length]? = some (.lst ys) := by rw [← hl]; exact getElem?_app_len
  have e : frz (θ2 ++ [.lst ys]) θ.length 9 (.ref θ.length) = some (.lst ys) := by
    unfold frz
    rw [if_neg (by simp [below])]
    simp only [e0]
    rw [mapO_below hb]
    rfl
  have ok : OkCut θ (θ2 ++ [.lst ys]) := ⟨by simp [hl], fun n c hn h => by rw [List.getElem?_append_left (by omega)] at h; exact hc n c h⟩
  simp only [cutR, e]
  rw [if_pos ok, ← hl]
  simp
theorem fCut_lc {fi : FA} {gt : FG} {tt : FT} {fe : F} {vs : List Nat} {δ : Dv} {θ2 : Sto} {ds ys : List D} (h1 : fi δ θ = some (ds, θ)) (h2 : lcF gt tt fe (wipeD δ vs) θ.length ds (θ ++ [.lst []]) = some (θ2 ++ [.lst ys]))
    (hl : θ2.length = θ.length) (hb : belows θ.length ys = true) (hc : ∀ (n : Nat) (c : Cell), θ2[n]? = some c → θ[n]? = some c ∨ belowC θ.length c = true) :
    fCut (fLCM fi gt tt fe vs) δ θ = some (.lst ys, θ2) := by
  have e : fLCM fi gt tt fe vs δ θ = some (.ref θ.length, θ2 ++ [.lst ys]) := by simp only [fLCM, h1, h2]
  unfold fCut
  rw [e, cut_lst hl hb hc]
/-! ### switched -/
def switched (sig : List Nm) (n : Nm) (on : Bool) : List Nm := if on = true then (if n ∈ sig then sig else sig ++ [n]) else sig.filter fun m => decide (m ≠ n)
theorem lc_filter (d0 : D) (n : Nm) : ∀ (ns acc : List Nm), acc.length + ns.length ≤ 1000 →
    lcF (gNm 3) (tBf (fOp gNe (fVar 3) (fVar 1))) (fVar 3) [some d0, some (nmD n), some (.bl false), none] θ.length (ns.map nmD) (θ ++ [.lst (acc.map nmD)]) = some (θ ++ [.lst ((acc ++ ns.filter fun m => decide (m ≠ n)).map nmD)])
  | [], acc, _ => by simp [lcF]
  | m :: ns, acc, hl => by
    simp only [List.length_cons] at hl
    rw [List.map_cons]
    unfold lcF
    by_cases hm : m = n
    · subst hm
      have ih := lc_filter d0 m ns acc (by omega)
      simp at ih ⊢
      exact ih
    · have ih := lc_filter d0 n ns (acc ++ [m]) (by simp; omega)
      have hl2 : acc.length < 100000 := by omega
      simp [hm, getElem?_app_len, set_app_len, hl2] at ih ⊢
      exact ih
theorem ms_switched {sig : List Nm} {n : Nm} {on : Bool} (hl : sig.length ≤ 1000) : m_switched A [.tup (sig.map nmD), nmD n, .bl on] θ = some (.tup ((switched sig n on).map nmD), θ) := by
  cases on with
  | true =>
    by_cases h : n ∈ sig
    · simp [m_switched, bodyM_ap, switched, h]
    · have h2 : sig.length + 1 ≤ 10000 := by omega
      simp [m_switched, bodyM_ap, switched, h, h2]
  | false =>
    have e := lc_filter (θ := θ) (.tup (sig.map nmD)) n sig [] (by simpa using hl)
    have b : belows θ.length ((sig.filter fun m => decide (m ≠ n)).map nmD) = true := belows_map _ _ (below_nm _) _
    have e2 : fCut (fLCM (iSeq (fVar 0)) (gNm 3) (tBf (fOp gNe (fVar 3) (fVar 1))) (fVar 3) [3]) [some (.tup (sig.map nmD)), some (nmD n), some (.bl false), none] θ = some (.lst ((sig.filter fun m => decide (m ≠ n)).map nmD), θ) :=
      fCut_lc (by simp) e rfl b fun _ _ h => .inl h
    simp only [m_switched, bodyM_ap]
    simp [switched, e2]
/-! ### outcomes -/
def moved (p : PlanM) (s : State) (a j : Nat) (q : Nm) (h : Option Nm) (sig : List Nm) : State := ⟨s.spots.set a ⟨land (flowAt p a) j, q, h⟩, sig⟩
def outs (p : PlanM) (s : State) (a : Nat) : List State :=
  let sp := spotAt s a
  match stepAt p s a with
  | none => []
  | some (.move q) => [moved p s a (sp.at_ + 1) q sp.held s.sig]
  | some (.hold h) => [moved p s a (sp.at_ + 1) sp.point h s.sig]
  | some (.set n on) => [moved p s a (sp.at_ + 1) sp.point sp.held (switched s.sig n on)]
  | some (.wait _ _) => [moved p s a (sp.at_ + 1) sp.point sp.held s.sig]
  | some (.jump _) => [moved p s a (sp.at_ + 1) sp.point sp.held s.sig]
  | some (.iff _ n) => [moved p s a (sp.at_ + 1) sp.point sp.held s.sig, moved p s a n sp.point sp.held s.sig]
theorem ix_spotAt {a : Nat} (ha : a < s.spots.length) : gIx θ (.tup (s.spots.map spotD)) (.int a) = some (spotD (spotAt s a)) := ix_spots (spotAt_get ha)
theorem ms_outcomes {a : Nat} (hs : s.spots.length = p.flows.length) (ha : a < p.flows.length) (hw : ∀ f ∈ p.flows, WfF f) (hsig : s.sig.length ≤ 1000) :
    m_Plan_outcomes A [planD A p, stateD s, .int a] θ = some (.lst ((outs p s a).map stateD), θ) := by
  have e1 := ms_step_of (A := A) (θ := θ) hs ha
  have e2 := ix_spotAt (θ := θ) (s := s) (a := a) (by omega)
  have e3 := fun (i : Int) (j : Nat) (hij : i = (j : Int)) (q : Nm) (h : Option Nm) (sig : List Nm) => ms_stepped (A := A) (θ := θ) (p := p) (s := s) (a := a) hs ha hw hij (q := q) (h := h) (sig := sig)
  have hc : ((spotAt s a).at_ : Int) + 1 = (((spotAt s a).at_ + 1 : Nat) : Int) := by omega
  unfold outs
  cases h : stepAt p s a with
  | none =>
    rw [h] at e1
    simp [m_Plan_outcomes, bodyM_ap, e1, stepOD]
  | some st =>
    rw [h] at e1
    cases st with
    | move q =>
      have e4 := e3 _ _ hc q (spotAt s a).held s.sig
      have x1 : gIx θ (stepD (.move q)) (.int 1) = some (nmD q) := by simp [stepD]
      simp [m_Plan_outcomes, bodyM_ap, e1, stepOD, -gIx_ap, e2, spot_tup, x1, e4, moved]
    | hold hh =>
      have e4 := e3 _ _ hc (spotAt s a).point hh s.sig
      have x1 : gIx θ (stepD (.hold hh)) (.int 1) = some (heldD hh) := by simp [stepD]
      simp [m_Plan_outcomes, bodyM_ap, e1, stepOD, -gIx_ap, e2, spot_tup, x1, e4, moved]
    | set n on =>
      have e4 := e3 _ _ hc (spotAt s a).point (spotAt s a).held (switched s.sig n on)
      have x1 : gIx θ (stepD (.set n on)) (.int 1) = some (nmD n) := by simp [stepD]
      have x2 : gIx θ (stepD (.set n on)) (.int 2) = some (.bl on) := by simp [stepD]
      have x3 := ms_switched (A := A) (θ := θ) (n := n) (on := on) hsig
      simp [m_Plan_outcomes, bodyM_ap, e1, stepOD, -gIx_ap, e2, spot_tup, x1, x2, x3, e4, moved]
    | wait n on =>
      have e4 := e3 _ _ hc (spotAt s a).point (spotAt s a).held s.sig
      simp [m_Plan_outcomes, bodyM_ap, e1, stepOD, -gIx_ap, e2, spot_tup, e4, moved]
    | jump n =>
      have e4 := e3 _ _ hc (spotAt s a).point (spotAt s a).held s.sig
      simp [m_Plan_outcomes, bodyM_ap, e1, stepOD, -gIx_ap, e2, spot_tup, e4, moved]
    | iff i n =>
      have e4 := e3 _ _ hc (spotAt s a).point (spotAt s a).held s.sig
      have e5 := e3 _ _ (rfl : ((n : Nat) : Int) = (n : Int)) (spotAt s a).point (spotAt s a).held s.sig
      have x2 : gIx θ (stepD (.iff i n)) (.int 2) = some (.int n) := by simp [stepD]
      simp [m_Plan_outcomes, bodyM_ap, e1, stepOD, -gIx_ap, e2, spot_tup, x2, e4, e5, moved]
/-! ### ended -/
def ended (p : PlanM) (s : State) (a : Nat) : Bool := decide ((flowAt p a).length ≤ (spotAt s a).at_)
def allEnded (p : PlanM) (s : State) : Bool := (List.range p.flows.length).all (ended p s)
theorem ms_has_ended {a : Nat} (hs : s.spots.length = p.flows.length) (ha : a < p.flows.length) : m_Plan_has_ended A [planD A p, stateD s, .int a] θ = some (.bl (ended p s a), θ) := by
  have e2 := ix_spotAt (θ := θ) (s := s) (a := a) (by omega)
  have e3 : gIx θ (.lst (p.flows.map flowD)) (.int a) = some (flowD (flowAt p a)) := ix_flows (flowAt_get ha)
  have e4 : gIx θ (spotD (spotAt s a)) (.int 0) = some (.int (spotAt s a).at_) := by simp [spotD]
  have e5 : gLen θ [flowD (flowAt p a)] = some (.int (flowAt p a).length) := by simp [flowD]
  simp [m_Plan_has_ended, bodyM_ap, -gIx_ap, e2, e3, e4, e5, ended]
theorem ms_all_ended (hs : s.spots.length = p.flows.length) (hn : p.flows.length ≤ 1000) : m_Plan_all_ended A [planD A p, stateD s] θ = some (.bl (allEnded p s), θ) := by
  have hn2 : R62 (p.flows.length : Int) := R62_nat (by omega)
  have key := forF_find (i := 2) (b := sIf (tNotf (tBf (fMeth A.c_Plan "has_ended" (m_Plan_has_ended A) (fVar 0) (aCons (fVar 1) (aCons (fVar 2) aNil)))))
      (sRet (fC (.bl false)))
      sNx) (δ := [some (planD A p), some (stateD s), none]) (θ := θ) (fun a => !ended p s a) (fun _ => .bl false) (List.range p.flows.length) fun k hk => by
        have e := ms_has_ended (A := A) (θ := θ) hs (List.mem_range.mp hk)
        cases hb : ended p s k <;> rw [hb] at e <;> simp [natD, e, hb]
  have hall : allEnded p s = ((List.range p.flows.length).find? fun a => !ended p s a).isNone := by
    unfold allEnded
    rw [Bool.eq_iff_iff, List.all_eq_true, Option.isNone_iff_eq_none, List.find?_eq_none]
    simp
  simp only [m_Plan_all_ended, bodyM_ap]
  simp [rngD_0, hn2]
  rw [key, hall]
  cases hf : (List.range p.flows.length).find? fun a => !ended p s a with
  | some k => simp
  | none => simp
/-! ### keys of states -/
def leN (a b : Nm) : Bool := leS a.1 b.1
def sortN (ns : List Nm) : List Nm := ns.mergeSort leN
theorem leN_trans (a b c : Nm) : leN a b = true → leN b c = true → leN a c = true := leS_trans _ _ _
theorem leN_total (a b : Nm) : (leN a b || leN b a) = true := leS_total _ _
theorem sortN_val (ns : List Nm) : (sortN ns).map (·.1) = sortS (ns.map (·.1)) := by
  unfold sortN sortS
  exact List.map_mergeSort fun a _ b _ => rfl
theorem sortN_perm {ns ms : List Nm} (h : ns.Perm ms) : sortN ns = sortN ms := by
  refine List.Perm.eq_of_pairwise (fun a b _ _ h1 h2 => Subtype.ext (leS_anti _ _ h1 h2)) (List.pairwise_mergeSort leN_trans leN_total ns) (List.pairwise_mergeSort leN_trans leN_total ms) ?_
  exact (List.mergeSort_perm ns leN).trans (h.trans (List.mergeSort_perm ms leN).symm)
theorem sortN_is (ns : List Nm) : (sortN ns).Perm ns := List.mergeSort_perm ns leN
def normS (s : State) : State := ⟨s.spots, sortN s.sig⟩
theorem strDs_nm : ∀ ns : List Nm, strDs (ns.map nmD) = some (ns.map (·.1))
  | [] => rfl
  | n :: ns => by
    have ih := strDs_nm ns
    simp only [List.map_cons, nmD, strDs] at ih ⊢
    rw [ih]
theorem ms_key_of (hl : s.sig.length < 64) (d : D) : m_Search_key_of A [d, stateD s] θ = some (stateD (normS s), θ) := by
  have e : gSortS θ [.lst (s.sig.map nmD)] = some (.lst ((sortN s.sig).map nmD)) := by
    simp only [gSortS, lstOf_lst, strDs_nm]
    rw [if_pos (by simpa using hl), ← sortN_val, List.map_map]
    rfl
  simp [m_Search_key_of, bodyM_ap, -gIx_ap, e, normS]
  simp [stateD]
def spotK (sp : Spot) : NestedKey := .tup [.num sp.at_, nmK sp.point, heldK sp.held]
def stateK (s : State) : NestedKey := .tup [.tup (s.spots.map spotK), .tup (s.sig.map nmK)]
theorem toNKs_map {α : Type} (f : α → D) (g : α → NestedKey) (h : ∀ a, toNK (f a) = some (g a)) : ∀ xs : List α, toNKs (xs.map f) = some (xs.map g)
  | [] => rfl
  | x :: xs => by simp [toNKs, h x, toNKs_map f g h xs]
theorem depthAll_le {ks : List NestedKey} {n : Nat} (h : ∀ k ∈ ks, k.depth ≤ n) : NestedKey.depthAll ks ≤ n := by
  induction ks with
  | nil => exact Nat.zero_le _
  | cons k ks ih =>
    simp only [NestedKey.depthAll]
    have h1 := h k (List.mem_cons_self ..)
    have h2 := ih fun j hj => h j (List.mem_cons_of_mem _ hj)
    omega
theorem depth_spot (sp : Spot) : (spotK sp).depth = 1 := by
  simp [spotK, NestedKey.depth, NestedKey.depthAll, depth_held, nmK]
theorem keyD_state (s : State) : keyD (stateD s) = some (stateK s) := by
  have h1 : ∀ sp : Spot, toNK (spotD sp) = some (spotK sp) := fun sp => by simp [spotD, spotK, toNK, toNKs]
  have h : toNKs [.tup (s.spots.map spotD), .tup (s.sig.map nmD)] = some [.tup (s.spots.map spotK), .tup (s.sig.map nmK)] := by
    simp [toNKs, toNK, toNKs_map spotD spotK h1, toNKs_map nmD nmK toNK_nm]
  unfold keyD stateD
  simp only [h]
  rw [if_pos]
  · rfl
  · have a1 : NestedKey.depthAll (s.spots.map spotK) ≤ 1 := depthAll_le fun k hk => by
      obtain ⟨sp, _, rfl⟩ := List.mem_map.mp hk
      rw [depth_spot]; exact Nat.le_refl _
    have a2 : NestedKey.depthAll (s.sig.map nmK) ≤ 1 := depthAll_le fun k hk => by
      obtain ⟨n, _, rfl⟩ := List.mem_map.mp hk
      exact Nat.zero_le _
    simp only [NestedKey.depth, NestedKey.depthAll]
    omega
theorem map_inj {α β : Type} {f : α → β} (h : ∀ a b, f a = f b → a = b) : ∀ {xs ys : List α}, xs.map f = ys.map f → xs = ys
  | [], [], _ => rfl
  | [], _ :: _, e => by simp at e
  | _ :: _, [], e => by simp at e
  | x :: xs, y :: ys, e => by
    simp only [List.map_cons, List.cons.injEq] at e
    rw [h _ _ e.1, map_inj h e.2]
theorem spotK_inj (a b : Spot) (h : spotK a = spotK b) : a = b := by
  cases a; cases b
  simp only [spotK, NestedKey.tup.injEq, List.cons.injEq, NestedKey.num.injEq] at h
  have h1 := nmK_inj h.2.1
  have h2 := heldK_inj h.2.2.1
  have h3 := h.1
  rw [h1, h2, show _ = _ from Int.ofNat.inj h3]
theorem stateK_inj {s t : State} (h : stateK s = stateK t) : s = t := by
  cases s; cases t
  simp only [stateK, NestedKey.tup.injEq, List.cons.injEq] at h
  have h1 := map_inj spotK_inj h.1
  have h2 := map_inj (fun a b => nmK_inj) h.2.1
  rw [h1, h2]
end Pg

set_option Elab.async false
set_option linter.all false
set_option maxRecDepth 100000
set_option maxHeartbeats 4000000
namespace Pg
open PySem L2 DL
/-! ### safe states -/
def arms (p : PlanM) : List Nat := List.range p.flows.length
def allOuts (p : PlanM) (s : State) : List State := (arms p).flatMap fun a => if canStep p s a = true then outs p s a else []
def safeN (p : PlanM) : Nat → State → Bool
  | 0, s => allEnded p s
  | n + 1, s => allEnded p s || (arms p).any fun a => canStep p s a && (outs p s a).all (safeN p n)
def sumN : List Nat → Nat
  | [] => 0
  | x :: xs => x + sumN xs
def left (p : PlanM) (s : State) : Nat := sumN ((arms p).map fun a => (flowAt p a).length - (spotAt s a).at_)
def safe (p : PlanM) (s : State) : Bool := safeN p (left p s) s
/-- plans whose jumps and ifs lead forward -/
structure PlanOk (p : PlanM) : Prop where
  wf : ∀ f ∈ p.flows, WfF f
  wi : ∀ f ∈ p.flows, ∀ (i : Nat) (x : Nm) (n : Nat), f[i]? = some (Step.iff x n) → i < n
  few : p.flows.length ≤ 100
variable {p : PlanM} {s t : State}
theorem sumN_le {xs : List Nat} {f g : Nat → Nat} (h : ∀ a ∈ xs, f a ≤ g a) : sumN (xs.map f) ≤ sumN (xs.map g) := by
  induction xs with
  | nil => exact Nat.le_refl _
  | cons x xs ih =>
    have h1 := h x (List.mem_cons_self ..)
    have h2 := ih fun a ha => h a (List.mem_cons_of_mem _ ha)
    simp only [List.map_cons, sumN]; omega
theorem sumN_lt {xs : List Nat} {f g : Nat → Nat} {b : Nat} (hb : b ∈ xs) (hlt : f b < g b) (h : ∀ a ∈ xs, f a ≤ g a) : sumN (xs.map f) < sumN (xs.map g) := by
  induction xs with
  | nil => cases hb
  | cons x xs ih =>
    have h1 := h x (List.mem_cons_self ..)
    have h2 := sumN_le fun a ha => h a (List.mem_cons_of_mem _ ha)
    simp only [List.map_cons, sumN]
    rcases List.mem_cons.mp hb with rfl | hb
    · omega
    · have := ih hb fun a ha => h a (List.mem_cons_of_mem _ ha)
      omega
theorem sumN_zero {xs : List Nat} {f : Nat → Nat} (h : sumN (xs.map f) = 0) : ∀ a ∈ xs, f a = 0 := by
  induction xs with
  | nil => intro a ha; cases ha
  | cons x xs ih =>
    simp only [List.map_cons, sumN] at h
    intro a ha
    rcases List.mem_cons.mp ha with rfl | ha
    · omega
    · exact ih (by omega) a ha
theorem spotAt_moved {a b j : Nat} {q : Nm} {h : Option Nm} {sig : List Nm} (ha : a < s.spots.length) :
    spotAt (moved p s a j q h sig) b = if b = a then ⟨land (flowAt p a) j, q, h⟩ else spotAt s b := by
  unfold spotAt moved
  simp only [List.getD_eq_getElem?_getD]
  by_cases hb : b = a
  · subst hb
    rw [if_pos rfl, List.getElem?_set_self ha]
    rfl
  · rw [if_neg hb, List.getElem?_set_ne (Ne.symm hb)]
theorem left_moved {a j : Nat} {q : Nm} {h : Option Nm} {sig : List Nm} (hp : PlanOk p) (hs : s.spots.length = p.flows.length) (ha : a < p.flows.length) (hj : (spotAt s a).at_ < j) (hlt : (spotAt s a).at_ < (flowAt p a).length) :
    left p (moved p s a j q h sig) < left p s := by
  have hw := hp.wf _ (List.mem_of_getElem? (flowAt_get ha))
  have hl : j ≤ land (flowAt p a) j := land_ge _ hw _ _
  refine sumN_lt (b := a) (List.mem_range.mpr ha) ?_ fun b hb => ?_
  · rw [spotAt_moved (by omega), if_pos rfl]
    show (flowAt p a).length - land (flowAt p a) j < _
    omega
  · rw [spotAt_moved (by omega)]
    by_cases hba : b = a
    · rw [if_pos hba]
      subst hba
      show (flowAt p b).length - land (flowAt p b) j ≤ _
      omega
    · rw [if_neg hba]; exact Nat.le_refl _
/-- states that fit a plan, with few signals -/
structure Ok (p : PlanM) (s : State) : Prop where
  fit : s.spots.length = p.flows.length
  few : s.sig.length + left p s ≤ 50
theorem switched_len (sig : List Nm) (n : Nm) (on : Bool) : (switched sig n on).length ≤ sig.length + 1 := by
  unfold switched
  split
  · split
    · omega
    · simp
  · exact Nat.le_succ_of_le (List.length_filter_le _ _)
theorem step_lt {a : Nat} {st : Step} (h : stepAt p s a = some st) : (spotAt s a).at_ < (flowAt p a).length := (List.getElem?_eq_some_iff.mp h).1
theorem outs_ok (hp : PlanOk p) (hs : Ok p s) {a : Nat} (ha : a < p.flows.length) (ht : t ∈ outs p s a) : Ok p t ∧ left p t < left p s := by
  have go : ∀ (j : Nat) (q : Nm) (h : Option Nm) (sig : List Nm), (spotAt s a).at_ < j → (spotAt s a).at_ < (flowAt p a).length → sig.length ≤ s.sig.length + 1 →
      Ok p (moved p s a j q h sig) ∧ left p (moved p s a j q h sig) < left p s := fun j q h sig h1 h2 h3 => by
    have h4 := left_moved (q := q) (h := h) (sig := sig) hp hs.fit ha h1 h2
    refine ⟨⟨by simp [moved, hs.fit], ?_⟩, h4⟩
    have := hs.few
    show sig.length + _ ≤ 50
    omega
  unfold outs at ht
  cases h : stepAt p s a with
  | none => rw [h] at ht; cases ht
  | some st =>
    rw [h] at ht
    have hlt := step_lt h
    cases st with
    | move q => simp only [List.mem_singleton] at ht; subst ht; exact go _ _ _ _ (by omega) hlt (by omega)
    | hold q => simp only [List.mem_singleton] at ht; subst ht; exact go _ _ _ _ (by omega) hlt (by omega)
    | set n on => simp only [List.mem_singleton] at ht; subst ht; exact go _ _ _ _ (by omega) hlt (switched_len _ _ _)
    | wait n on => simp only [List.mem_singleton] at ht; subst ht; exact go _ _ _ _ (by omega) hlt (by omega)
    | jump n => simp only [List.mem_singleton] at ht; subst ht; exact go _ _ _ _ (by omega) hlt (by omega)
    | iff i n =>
      have hn := hp.wi _ (List.mem_of_getElem? (flowAt_get ha)) _ _ _ h
      simp only [List.mem_cons, List.not_mem_nil, or_false] at ht
      rcases ht with rfl | rfl
      · exact go _ _ _ _ (by omega) hlt (by omega)
      · exact go _ _ _ _ hn hlt (by omega)
theorem allOuts_mem (h : t ∈ allOuts p s) : ∃ a, a < p.flows.length ∧ canStep p s a = true ∧ t ∈ outs p s a := by
  unfold allOuts at h
  obtain ⟨a, ha, ht⟩ := List.mem_flatMap.mp h
  by_cases hc : canStep p s a = true
  · rw [if_pos hc] at ht
    exact ⟨a, List.mem_range.mp ha, hc, ht⟩
  · rw [if_neg hc] at ht; cases ht
theorem mem_allOuts {a : Nat} (ha : a < p.flows.length) (hc : canStep p s a = true) (ht : t ∈ outs p s a) : t ∈ allOuts p s :=
  List.mem_flatMap.mpr ⟨a, List.mem_range.mpr ha, by rw [if_pos hc]; exact ht⟩
theorem outs_len (a : Nat) : (outs p s a).length ≤ 2 := by
  unfold outs
  cases stepAt p s a with
  | none => simp
  | some st => cases st <;> simp
theorem allOuts_len : (allOuts p s).length ≤ 2 * p.flows.length := by
  unfold allOuts arms
  have h : ∀ xs : List Nat, (xs.flatMap fun a => if canStep p s a = true then outs p s a else []).length ≤ 2 * xs.length := by
    intro xs
    induction xs with
    | nil => simp
    | cons x xs ih =>
      rw [List.flatMap_cons, List.length_append, List.length_cons]
      have h1 : (if canStep p s x = true then outs p s x else []).length ≤ 2 := by
        split
        · exact outs_len x
        · simp
      omega
  have := h (List.range p.flows.length)
  simpa using this
theorem ended_of_zero (h : left p s = 0) : allEnded p s = true := by
  unfold allEnded
  rw [List.all_eq_true]
  intro a ha
  have := sumN_zero h a ha
  unfold ended
  exact decide_eq_true (by omega)
theorem safeN_more (hp : PlanOk p) : ∀ (n m : Nat) (s : State), Ok p s → left p s ≤ n → left p s ≤ m → safeN p n s = safeN p m s
  | 0, m, s, hs, h1, h2 => by
    have e := ended_of_zero (p := p) (s := s) (by omega)
    cases m with
    | zero => rfl
    | succ m => simp [safeN, e]
  | n + 1, 0, s, hs, h1, h2 => by
    have e := ended_of_zero (p := p) (s := s) (by omega)
    simp [safeN, e]
  | n + 1, m + 1, s, hs, h1, h2 => by
    unfold safeN
    congr 1
    rw [Bool.eq_iff_iff]
    simp only [List.any_eq_true]
    have key : ∀ a ∈ arms p, (canStep p s a && (outs p s a).all (safeN p n)) = (canStep p s a && (outs p s a).all (safeN p m)) := fun a ha => by
      congr 1
      rw [Bool.eq_iff_iff]
      simp only [List.all_eq_true]
      have e : ∀ t ∈ outs p s a, safeN p n t = safeN p m t := fun t ht => by
        obtain ⟨h3, h4⟩ := outs_ok hp hs (List.mem_range.mp ha) ht
        exact safeN_more hp n m t h3 (by omega) (by omega)
      exact ⟨fun h t ht => by rw [← e t ht]; exact h t ht, fun h t ht => by rw [e t ht]; exact h t ht⟩
    exact ⟨fun ⟨a, ha, h⟩ => ⟨a, ha, by rw [← key a ha]; exact h⟩, fun ⟨a, ha, h⟩ => ⟨a, ha, by rw [key a ha]; exact h⟩⟩
theorem safe_eq (hp : PlanOk p) (hs : Ok p s) : safe p s = (allEnded p s || (arms p).any fun a => canStep p s a && (outs p s a).all (safe p)) := by
  have e : safe p s = safeN p (left p s + 1) s := safeN_more hp _ _ s hs (Nat.le_refl _) (Nat.le_succ _)
  rw [e]
  unfold safeN
  congr 1
  rw [Bool.eq_iff_iff]
  simp only [List.any_eq_true]
  have key : ∀ a ∈ arms p, (canStep p s a && (outs p s a).all (safeN p (left p s))) = (canStep p s a && (outs p s a).all (safe p)) := fun a ha => by
    congr 1
    rw [Bool.eq_iff_iff]
    simp only [List.all_eq_true]
    have e : ∀ t ∈ outs p s a, safeN p (left p s) t = safe p t := fun t ht => by
      obtain ⟨h3, h4⟩ := outs_ok hp hs (List.mem_range.mp ha) ht
      exact safeN_more hp _ _ t h3 (by omega) (Nat.le_refl _)
    exact ⟨fun h t ht => by rw [← e t ht]; exact h t ht, fun h t ht => by rw [e t ht]; exact h t ht⟩
  exact ⟨fun ⟨a, ha, h⟩ => ⟨a, ha, by rw [← key a ha]; exact h⟩, fun ⟨a, ha, h⟩ => ⟨a, ha, by rw [key a ha]; exact h⟩⟩
/-! ### the order of the signals does not matter -/
structure Sim (s t : State) : Prop where
  sp : s.spots = t.spots
  sg : s.sig.Perm t.sig
theorem Sim.norm (s : State) : Sim (normS s) s := ⟨rfl, sortN_is s.sig⟩
theorem Sim.spot (h : Sim s t) (a : Nat) : spotAt s a = spotAt t a := by unfold spotAt; rw [h.sp]
theorem Sim.step (h : Sim s t) (a : Nat) : stepAt p s a = stepAt p t a := by unfold stepAt; rw [h.spot]
theorem Sim.hind (h : Sim s t) (a : Nat) : hind p s a = Pg.hind p t a := by
  unfold Pg.hind wantedAt
  rw [h.step, h.spot]
  have e : ∀ pl, blocker p s a pl = blocker p t a pl := fun pl => by
    funext o
    unfold blocker
    rw [h.spot]
  simp only [e]
theorem Sim.can (h : Sim s t) (a : Nat) : canStep p s a = canStep p t a := by
  unfold canStep
  rw [h.step, h.hind]
  have e : ∀ n, decide (n ∈ s.sig) = decide (n ∈ t.sig) := fun n => by
    rw [Bool.eq_iff_iff]
    simp [h.sg.mem_iff]
  simp only [e]
theorem switched_perm {a b : List Nm} (h : a.Perm b) (n : Nm) (on : Bool) : (switched a n on).Perm (switched b n on) := by
  unfold switched
  split
  · by_cases hn : n ∈ a
    · rw [if_pos hn, if_pos (h.mem_iff.mp hn)]; exact h
    · rw [if_neg hn, if_neg (fun q => hn (h.mem_iff.mpr q))]
      exact h.append_right _
  · exact h.filter _
theorem Sim.moved (h : Sim s t) {a j : Nat} {q : Nm} {hh : Option Nm} {g g' : List Nm} (hg : g.Perm g') : Sim (moved p s a j q hh g) (Pg.moved p t a j q hh g') :=
  ⟨by unfold Pg.moved; simp only [h.sp], hg⟩
theorem Sim.outs_all (h : Sim s t) (a : Nat) {f : State → Bool} (hf : ∀ x y, Sim x y → f x = f y) : (outs p s a).all f = (outs p t a).all f := by
  unfold outs
  rw [h.step, h.spot]
  cases stepAt p t a with
  | none => rfl
  | some st =>
    cases st with
    | set n on => simp only [List.all_cons, List.all_nil, Bool.and_true]; exact hf _ _ (h.moved (switched_perm h.sg n on))
    | iff i n => simp only [List.all_cons, List.all_nil, Bool.and_true]; rw [hf _ _ (h.moved h.sg), hf _ _ (h.moved (j := n) h.sg)]
    | _ => simp only [List.all_cons, List.all_nil, Bool.and_true]; exact hf _ _ (h.moved h.sg)
theorem Sim.ended (h : Sim s t) : allEnded p s = allEnded p t := by
  unfold allEnded
  have e : Pg.ended p s = Pg.ended p t := by
    funext a
    unfold Pg.ended
    rw [h.spot]
  rw [e]
theorem Sim.safeN : ∀ (n : Nat) {s t : State}, Sim s t → safeN p n s = Pg.safeN p n t
  | 0, _, _, h => h.ended
  | n + 1, s, t, h => by
    unfold Pg.safeN
    rw [h.ended]
    have e : (fun a => canStep p s a && (outs p s a).all (Pg.safeN p n)) = fun a => canStep p t a && (outs p t a).all (Pg.safeN p n) := by
      funext a
      rw [h.can, h.outs_all a fun x y hxy => Sim.safeN n hxy]
    rw [e]
theorem Sim.left (h : Sim s t) : left p s = Pg.left p t := by
  unfold Pg.left
  have e : (fun a => (flowAt p a).length - (spotAt s a).at_) = fun a => (flowAt p a).length - (spotAt t a).at_ := by
    funext a
    rw [h.spot]
  rw [e]
theorem Sim.safe (h : Sim s t) : safe p s = Pg.safe p t := by
  unfold Pg.safe
  rw [h.left]
  exact Sim.safeN _ h
theorem safe_norm (h : normS s = normS t) : safe p s = safe p t := by
  rw [← (Sim.norm s).safe (p := p), ← (Sim.norm t).safe (p := p), h]
end Pg

set_option Elab.async false
set_option linter.all false
set_option maxRecDepth 100000
set_option maxHeartbeats 4000000
namespace Pg
open PySem L2 DL
/-! ### the search -/
def srchFs (A : Adr) (p : PlanM) (k : Nat) : List (Str × D) := [("plan", planD A p), ("known", .ref k)]
section
variable (A : Adr) (p : PlanM) (k : Nat)
@[simp] theorem sl_plan : (srchFs A p k).lookup ("plan" : Str) = some (planD A p) := rfl
@[simp] theorem sl_known : (srchFs A p k).lookup ("known" : Str) = some (.ref k) := rfl
@[simp] theorem sl_key_of : (srchFs A p k).lookup ("key_of" : Str) = none := rfl
@[simp] theorem sl_open_outcome : (srchFs A p k).lookup ("open_outcome" : Str) = none := rfl
@[simp] theorem sl_good_arm : (srchFs A p k).lookup ("good_arm" : Str) = none := rfl
@[simp] theorem sl_is_safe : (srchFs A p k).lookup ("is_safe" : Str) = none := rfl
end
abbrev Kvs := List (NestedKey × D)
/-- a search stands in the store: at o, its dict at k -/
structure SrAt (A : Adr) (p : PlanM) (θ : Sto) (o k : Nat) (kvs : Kvs) : Prop where
  ob : θ[o]? = some (.ins A.c_Search (srchFs A p k))
  dc : θ[k]? = some (.dct kvs)
variable {A : Adr} {p : PlanM} {s t : State} {θ : Sto} {o k : Nat} {kvs : Kvs}
def keyS (s : State) : NestedKey := stateK (normS s)
def known (kvs : Kvs) (s : State) : Bool := (dGet kvs (keyS s)).isSome
/-- what is known is right -/
def Good (p : PlanM) (kvs : Kvs) : Prop := ∀ (s : State) (d : D), dGet kvs (keyS s) = some d → d = .bl (safe p s)
theorem SrAt.obj (h : SrAt A p θ o k kvs) : objOf θ (.ref o) = some (A.c_Search, srchFs A p k) := by rw [objOf_ref, h.ob]
theorem SrAt.dct (h : SrAt A p θ o k kvs) : dctOf θ (.ref k) = some kvs := by rw [dctOf_ref, h.dc]
theorem Ok.sig (h : Ok p s) : s.sig.length < 64 := by have := h.few; omega
theorem isNonD_state : isNonD (stateD s) = false := rfl
def stateOD : Option State → D
  | none => .non
  | some s => stateD s
theorem SrAt.notin (h : SrAt A p θ o k kvs) (s : State) : gNotInN θ (stateD (normS s)) (.ref k) = some (.bl (!known kvs s)) := by
  simp only [gNotInN, memN, keyD_state, h.dct]
  rfl
theorem SrAt.in_ (h : SrAt A p θ o k kvs) (s : State) : gInN θ (stateD (normS s)) (.ref k) = some (.bl (known kvs s)) := by
  simp only [gInN, memN, keyD_state, h.dct]
  rfl
/-- a loop that looks for a first one, whatever it leaves at its slots -/
theorem forF_first {gt : FG} {b : FS} {θ : Sto} (Iv : Dv → Prop) {α : Type} (emb : α → D) (f : α → Option D) : ∀ (ks : List α) (δ : Dv), Iv δ →
    (∀ x ∈ ks, ∀ δ, Iv δ → ∃ δ1 δ2, gt (emb x) δ θ = some (δ1, θ) ∧ Iv δ2 ∧ b δ1 θ = match f x with | some d => some (.ret d θ) | none => some (.nx δ2 θ)) →
    ∃ δ', Iv δ' ∧ forF gt b (ks.map emb) δ θ = match ks.findSome? f with | some d => some (.ret d θ) | none => some (.nx δ' θ)
  | [], δ, hi, _ => ⟨δ, hi, rfl⟩
  | x :: ks, δ, hi, h => by
    obtain ⟨δ1, δ2, e1, hi2, e2⟩ := h x (List.mem_cons_self ..) δ hi
    rw [List.map_cons, forF_cons, e1]
    simp only
    rw [e2, List.findSome?_cons]
    cases hf : f x with
    | some d => exact ⟨δ2, hi2, rfl⟩
    | none =>
      simp only
      exact forF_first Iv emb f ks δ2 hi2 fun y hy => h y (List.mem_cons_of_mem _ hy)
theorem findSome_state {kvs : Kvs} (xs : List State) : xs.findSome? (fun t => if known kvs t = true then (none : Option D) else some (stateD t)) = (xs.find? fun t => !known kvs t).map stateD := by
  induction xs with
  | nil => rfl
  | cons x xs ih =>
    rw [List.findSome?_cons, List.find?_cons, ih]
    cases h : known kvs x <;> simp
theorem ms_open (h : SrAt A p θ o k kvs) (hp : PlanOk p) (hs : Ok p s) : m_Search_open_outcome A [.ref o, stateD s] θ = some (stateOD ((allOuts p s).find? fun t => !known kvs t), θ) := by
  have hn2 : R62 (p.flows.length : Int) := R62_nat (by have := hp.few; omega)
  have hobj := h.obj
  have inner : ∀ a : Nat, a < p.flows.length → canStep p s a = true → ∀ x : Option D, ∃ δ', (∃ y, δ' = [some (.ref o), some (stateD s), some (.int a), y]) ∧
      forF (gNm 3) (sIf (tBf (fOp gNotInN (fMeth A.c_Search "key_of" (m_Search_key_of A) (fVar 0) (aCons (fVar 3) aNil)) (fFld A.c_Search "known" (fVar 0))))
      (sRet (fVar 3))
      sNx) ((outs p s a).map stateD) [some (.ref o), some (stateD s), some (.int a), x] θ = match (outs p s a).findSome? (fun t => if known kvs t = true then (none : Option D) else some (stateD t)) with | some d => some (.ret d θ) | none => some (.nx δ' θ) := fun a ha hc x => by
    refine forF_first (fun δ => ∃ y, δ = [some (.ref o), some (stateD s), some (.int a), y]) stateD _ (outs p s a) _ ⟨x, rfl⟩ ?_
    rintro t ht δ ⟨y, rfl⟩
    have hsig := (outs_ok hp hs ha ht).1.sig
    have e1 := ms_key_of (A := A) (θ := θ) hsig (.ref o)
    have e2 := h.notin t
    refine ⟨[some (.ref o), some (stateD s), some (.int a), some (stateD t)], [some (.ref o), some (stateD s), some (.int a), some (stateD t)], rfl, ⟨_, rfl⟩, ?_⟩
    cases hk : known kvs t <;> rw [hk] at e2 <;> simp [hobj, e1, e2]
  have outer : ∃ δ', (∃ x y, δ' = [some (.ref o), some (stateD s), x, y]) ∧ forF (gNm 2)
      (sIf (tBf (fMeth A.c_Plan "can_step" (m_Plan_can_step A) (fFld A.c_Search "plan" (fVar 0)) (aCons (fVar 1) (aCons (fVar 2) aNil))))
      (sFor (iSeq (fMeth A.c_Plan "outcomes" (m_Plan_outcomes A) (fFld A.c_Search "plan" (fVar 0)) (aCons (fVar 1) (aCons (fVar 2) aNil)))) (gNm 3)
      (sIf (tBf (fOp gNotInN (fMeth A.c_Search "key_of" (m_Search_key_of A) (fVar 0) (aCons (fVar 3) aNil)) (fFld A.c_Search "known" (fVar 0))))
      (sRet (fVar 3))
      sNx))
      sNx) ((arms p).map natD) [some (.ref o), some (stateD s), none, none] θ =
      match (arms p).findSome? (fun a => if canStep p s a = true then (outs p s a).findSome? (fun t => if known kvs t = true then (none : Option D) else some (stateD t)) else none) with | some d => some (.ret d θ) | none => some (.nx δ' θ) := by
    refine forF_first (fun δ => ∃ x y, δ = [some (.ref o), some (stateD s), x, y]) natD _ (arms p) _ ⟨none, none, rfl⟩ ?_
    rintro a ha δ ⟨x, y, rfl⟩
    have ha' : a < p.flows.length := List.mem_range.mp ha
    have e1 := ms_can_step (A := A) (θ := θ) hs.fit ha' (by have := hp.few; omega)
    have e2 := ms_outcomes (A := A) (θ := θ) hs.fit ha' hp.wf (by have := hs.sig; omega)
    cases hc : canStep p s a with
    | false =>
      rw [hc] at e1
      exact ⟨[some (.ref o), some (stateD s), some (.int a), y], [some (.ref o), some (stateD s), some (.int a), y], rfl, ⟨_, _, rfl⟩, by simp [hobj, e1]⟩
    | true =>
      rw [hc] at e1
      obtain ⟨δ', ⟨z, rfl⟩, e3⟩ := inner a ha' hc y
      refine ⟨[some (.ref o), some (stateD s), some (.int a), y], [some (.ref o), some (stateD s), some (.int a), z], rfl, ⟨_, _, rfl⟩, ?_⟩
      simp only [sIf_ap, tBf_ap, fMeth_ap, fFld_ap, fVar_ap, sFor_ap, iSeq_ap, aCons_ap, aNil_ap]
      simp [hobj, e1, e2]
      rw [e3]
  obtain ⟨δ', ⟨x, y, rfl⟩, e⟩ := outer
  have hfind : (arms p).findSome? (fun a => if canStep p s a = true then (outs p s a).findSome? (fun t => if known kvs t = true then (none : Option D) else some (stateD t)) else none) = ((allOuts p s).find? fun t => !known kvs t).map stateD := by
    unfold allOuts
    generalize arms p = as
    induction as with
    | nil => rfl
    | cons a as ih =>
      rw [List.findSome?_cons, List.flatMap_cons, List.find?_append, ih]
      by_cases hc : canStep p s a = true
      · rw [if_pos hc, if_pos hc, findSome_state]
        cases (outs p s a).find? fun t => !known kvs t <;> rfl
      · rw [if_neg hc, if_neg hc]
        simp
  rw [hfind] at e
  simp only [m_Search_open_outcome, bodyM_ap]
  simp [hobj, rngD_0, hn2]
  unfold arms at e
  rw [e]
  cases hf : (allOuts p s).find? fun t => !known kvs t with
  | some t => simp [stateOD]
  | none => simp [stateOD]
/-- all outcomes are known: the values are right -/
theorem lc_known (h : SrAt A p θ o k kvs) (hg : Good p kvs) (x1 x2 x3 : Option D) : ∀ (ts : List State) (acc : List Bool), (∀ t ∈ ts, known kvs t = true ∧ t.sig.length < 64) → acc.length + ts.length ≤ 1000 →
    lcF (gNm 4) tTrue (fOp gDGet (fFld A.c_Search "known" (fVar 0)) (fMeth A.c_Search "key_of" (m_Search_key_of A) (fVar 0) (aCons (fVar 4) aNil))) [some (.ref o), x1, x2, x3, none] θ.length (ts.map stateD) (θ ++ [.lst (acc.map D.bl)]) = some (θ ++ [.lst ((acc ++ ts.map (safe p)).map D.bl)])
  | [], acc, _, _ => by simp [lcF]
  | t :: ts, acc, hk, hl => by
    obtain ⟨h1, h2⟩ := hk t (List.mem_cons_self ..)
    simp only [List.length_cons] at hl
    have ho : o < θ.length := (List.getElem?_eq_some_iff.mp h.ob).1
    have hkk : k < θ.length := (List.getElem?_eq_some_iff.mp h.dc).1
    have h' : SrAt A p (θ ++ [.lst (acc.map D.bl)]) o k kvs := ⟨by rw [List.getElem?_append_left ho]; exact h.ob, by rw [List.getElem?_append_left hkk]; exact h.dc⟩
    have e1 := ms_key_of (A := A) (θ := θ ++ [.lst (acc.map D.bl)]) h2 (.ref o)
    have e2 : gDGet (θ ++ [.lst (acc.map D.bl)]) (.ref k) (stateD (normS t)) = some (.bl (safe p t)) := by
      simp only [gDGet, keyD_state, h'.dct]
      unfold known at h1
      obtain ⟨d, hd⟩ := Option.isSome_iff_exists.mp h1
      have := hg t d hd
      show dGet kvs (keyS t) = _
      rw [hd, this]
    have ih := lc_known h hg x1 x2 x3 ts (acc ++ [safe p t]) (fun u hu => hk u (List.mem_cons_of_mem _ hu)) (by simp; omega)
    have hl2 : acc.length < 100000 := by omega
    rw [List.map_cons]
    unfold lcF
    simp [tTrue, h'.obj, e1, e2, getElem?_app_len, set_app_len, hl2] at ih ⊢
    exact ih
theorem ms_good (h : SrAt A p θ o k kvs) (hg : Good p kvs) (hp : PlanOk p) (hs : Ok p s) (hall : ∀ t ∈ allOuts p s, known kvs t = true) :
    m_Search_good_arm A [.ref o, stateD s] θ = some (natOD ((arms p).find? fun a => canStep p s a && (outs p s a).all (safe p)), θ) := by
  have hn2 : R62 (p.flows.length : Int) := R62_nat (by have := hp.few; omega)
  have hobj := h.obj
  have outer : ∃ δ', (∃ x y, δ' = [some (.ref o), some (stateD s), x, y, none]) ∧ forF (gNm 2)
      (sIf (tBf (fMeth A.c_Plan "can_step" (m_Plan_can_step A) (fFld A.c_Search "plan" (fVar 0)) (aCons (fVar 1) (aCons (fVar 2) aNil))))
      (sSeq (sAsg (fMeth A.c_Plan "outcomes" (m_Plan_outcomes A) (fFld A.c_Search "plan" (fVar 0)) (aCons (fVar 1) (aCons (fVar 2) aNil))) (gNm 3))
      (sIf (tBf (fCB gAll (aCons (fCut (fLCM (iSeq (fVar 3)) (gNm 4) tTrue (fOp gDGet (fFld A.c_Search "known" (fVar 0)) (fMeth A.c_Search "key_of" (m_Search_key_of A) (fVar 0) (aCons (fVar 4) aNil))) [4])) aNil)))
      (sRet (fVar 2))
      sNx))
      sNx) ((arms p).map natD) [some (.ref o), some (stateD s), none, none, none] θ =
      match (arms p).findSome? (fun a => if (canStep p s a && (outs p s a).all (safe p)) = true then some (natD a) else none) with | some d => some (.ret d θ) | none => some (.nx δ' θ) := by
    refine forF_first (fun δ => ∃ x y, δ = [some (.ref o), some (stateD s), x, y, none]) natD _ (arms p) _ ⟨none, none, rfl⟩ ?_
    rintro a ha δ ⟨x, y, rfl⟩
    have ha' : a < p.flows.length := List.mem_range.mp ha
    have e1 := ms_can_step (A := A) (θ := θ) hs.fit ha' (by have := hp.few; omega)
    have e2 := ms_outcomes (A := A) (θ := θ) hs.fit ha' hp.wf (by have := hs.sig; omega)
    cases hc : canStep p s a with
    | false =>
      rw [hc] at e1
      exact ⟨[some (.ref o), some (stateD s), some (.int a), y, none], [some (.ref o), some (stateD s), some (.int a), y, none], rfl, ⟨_, _, rfl⟩, by simp [hobj, e1]⟩
    | true =>
      rw [hc] at e1
      refine ⟨[some (.ref o), some (stateD s), some (.int a), y, none], [some (.ref o), some (stateD s), some (.int a), some (.lst ((outs p s a).map stateD)), none], rfl, ⟨_, _, rfl⟩, ?_⟩
      have e3 := lc_known (A := A) h hg (some (stateD s)) (some (.int a)) (some (.lst ((outs p s a).map stateD))) (outs p s a) [] (fun t ht => ⟨hall t (mem_allOuts ha' hc ht), (outs_ok hp hs ha' ht).1.sig⟩) (by have := outs_len (p := p) (s := s) a; simp; omega)
      have e4 : fCut (fLCM (iSeq (fVar 3)) (gNm 4) tTrue (fOp gDGet (fFld A.c_Search "known" (fVar 0)) (fMeth A.c_Search "key_of" (m_Search_key_of A) (fVar 0) (aCons (fVar 4) aNil))) [4]) [some (.ref o), some (stateD s), some (.int a), some (.lst ((outs p s a).map stateD)), none] θ = some (.lst (((outs p s a).map (safe p)).map D.bl), θ) :=
        fCut_lc (by simp) e3 rfl (belows_map _ _ (fun _ => rfl) _) fun _ _ h => .inl h
      have e5 : gAll θ [.lst (((outs p s a).map (safe p)).map D.bl)] = some (.bl ((outs p s a).all (safe p))) := by
        have e : ∀ bs : List Bool, blDs (bs.map D.bl) = some bs := fun bs => by
          induction bs with
          | nil => rfl
          | cons b bs ih => simp only [List.map_cons, blDs, ih]
        simp only [gAll, lstOf_lst, e]
        simp [List.all_map]
        rfl
      simp only [sIf_ap, tBf_ap, fMeth_ap, fFld_ap, fVar_ap, sSeq_ap, sAsg_ap, aCons_ap, aNil_ap, fCB_ap]
      simp [hobj, e1, e2, -List.all_eq_true]
      simp only [e4]
      generalize (outs p s a).all (safe p) = bb at e5 ⊢
      simp [e5, -List.map_map]
      cases bb <;> simp [natD]
  obtain ⟨δ', ⟨x, y, rfl⟩, e⟩ := outer
  have hfind : ∀ xs : List Nat, xs.findSome? (fun a => if (canStep p s a && (outs p s a).all (safe p)) = true then some (natD a) else none) = (xs.find? fun a => canStep p s a && (outs p s a).all (safe p)).map natD := fun xs => by
    induction xs with
    | nil => rfl
    | cons x xs ih =>
      rw [List.findSome?_cons, List.find?_cons, ih]
      cases h : (canStep p s x && (outs p s x).all (safe p)) <;> simp
  rw [hfind] at e
  simp only [m_Search_good_arm, bodyM_ap]
  simp [hobj, rngD_0, hn2]
  unfold arms at e ⊢
  rw [e]
  cases hf : (List.range p.flows.length).find? fun a => canStep p s a && (outs p s a).all (safe p) with
  | some t => simp [natOD]
  | none => simp [natOD]
end Pg

set_option Elab.async false
set_option linter.all false
set_option maxRecDepth 100000
set_option maxHeartbeats 4000000
namespace Pg
open PySem L2 DL
/-! ### the loop of the search -/
theorem atI_last {α : Type} (xs : List α) (x : α) : atI (xs ++ [x]) (-1) = some x := by
  have h : ixN (xs.length + 1) (-1) = some xs.length := by
    unfold ixN
    simp
    omega
  unfold atI
  rw [List.length_append, List.length_singleton, h]
  simp
/-- a set of states that the outcomes do not leave, with few keys -/
structure Uni (p : PlanM) (U : State → Prop) : Prop where
  ok : ∀ s, U s → Ok p s
  out : ∀ s t, U s → t ∈ allOuts p s → U t
  card : ∃ K : List NestedKey, K.length < 16000000 ∧ ∀ s, U s → keyS s ∈ K
structure Inv (p : PlanM) (U : State → Prop) (kvs : Kvs) : Prop where
  good : Good p kvs
  nd : (kvs.map (·.1)).Nodup
  ks : ∀ e ∈ kvs, (∃ s, U s ∧ e.1 = keyS s) ∧ ∃ b, e.2 = .bl b
theorem nodup_few {α : Type} [DecidableEq α] : ∀ {xs ys : List α}, xs.Nodup → (∀ x ∈ xs, x ∈ ys) → xs.length ≤ ys.length
  | [], ys, _, _ => Nat.zero_le _
  | x :: xs, ys, hn, h => by
    have hx := h x (List.mem_cons_self ..)
    obtain ⟨h1, h2⟩ := List.nodup_cons.mp hn
    have := nodup_few (xs := xs) (ys := ys.erase x) h2 fun y hy => (List.mem_erase_of_ne (fun e => h1 (by rw [← e]; exact hy))).mpr (h y (List.mem_cons_of_mem _ hy))
    rw [List.length_erase_of_mem hx] at this
    have := List.length_pos_of_mem hx
    simp only [List.length_cons]; omega
variable {A : Adr} {p : PlanM} {s t : State} {θ : Sto} {o k : Nat} {kvs : Kvs} {U : State → Prop}
theorem Inv.few (h : Inv p U kvs) (hU : Uni p U) : kvs.length < 16000000 := by
  obtain ⟨K, h1, h2⟩ := hU.card
  have : (kvs.map (·.1)).length ≤ K.length := nodup_few h.nd fun x hx => by
    obtain ⟨e, he, rfl⟩ := List.mem_map.mp hx
    obtain ⟨⟨s, hs, e2⟩, _⟩ := h.ks e he
    rw [e2]; exact h2 s hs
  rw [List.length_map] at this
  omega
theorem Inv.nil : Inv p U [] := ⟨(fun s d h => by cases h), (by simp), (fun e h => by cases h)⟩
theorem dGet_none_iff {kvs : Kvs} {x : NestedKey} (h : ¬ (dGet kvs x).isSome = true) : ∀ e ∈ kvs, e.1 ≠ x := by
  intro e he hx
  refine h ?_
  unfold dGet
  rw [Option.isSome_map, List.find?_isSome]
  exact ⟨e, he, by simp [hx]⟩
theorem dGet_app {kvs : Kvs} {x y : NestedKey} {d : D} (h : ¬ (dGet kvs x).isSome = true) : dGet (kvs ++ [(x, d)]) y = if y = x then some d else dGet kvs y := by
  have hn : (dGet kvs x) = none := by cases q : dGet kvs x with
    | none => rfl
    | some d => rw [q] at h; exact (h rfl).elim
  unfold dGet at hn ⊢
  rw [List.find?_append]
  by_cases hy : y = x
  · subst hy
    rw [Option.map_eq_none_iff] at hn
    simp [hn]
  · rw [if_neg hy]
    cases hf : kvs.find? fun p => decide (p.1 = y) with
    | some e => rfl
    | none => simp [Ne.symm hy]
theorem keyS_safe (h : keyS s = keyS t) : safe p s = safe p t := safe_norm (stateK_inj h)
theorem Inv.put (h : Inv p U kvs) (hs : U s) (hn : known kvs s = false) : Inv p U (dPut kvs (keyS s) (.bl (safe p s))) ∧ (∀ u, known kvs u = true → known (dPut kvs (keyS s) (.bl (safe p s))) u = true) ∧ known (dPut kvs (keyS s) (.bl (safe p s))) s = true := by
  have hn' : ¬ (dGet kvs (keyS s)).isSome = true := by unfold known at hn; rw [hn]; exact Bool.false_ne_true
  have e : dPut kvs (keyS s) (.bl (safe p s)) = kvs ++ [(keyS s, .bl (safe p s))] := by unfold dPut; rw [if_neg hn']
  rw [e]
  refine ⟨⟨fun u d hd => ?_, ?_, fun x hx => ?_⟩, fun u hu => ?_, ?_⟩
  · rw [dGet_app hn'] at hd
    by_cases hu : keyS u = keyS s
    · rw [if_pos hu] at hd; cases hd; rw [keyS_safe hu]
    · rw [if_neg hu] at hd; exact h.good u d hd
  · rw [List.map_append, List.nodup_append]
    refine ⟨h.nd, by simp, fun a ha b hb => ?_⟩
    obtain ⟨x, hx, rfl⟩ := List.mem_map.mp ha
    simp only [List.map_cons, List.map_nil, List.mem_singleton] at hb
    rw [hb]
    exact dGet_none_iff hn' x hx
  · rcases List.mem_append.mp hx with hx | hx
    · exact h.ks x hx
    · rw [List.mem_singleton] at hx; subst hx; exact ⟨⟨s, hs, rfl⟩, _, rfl⟩
  · unfold known at hu ⊢
    rw [dGet_app hn']
    split
    · rfl
    · exact hu
  · unfold known
    rw [dGet_app hn', if_pos rfl]
    rfl
def Sx (θ : Sto) (k : Nat) (kvs : Kvs) (stk : List State) : Sto := (θ.set k (.dct kvs)) ++ [.lst (stk.map stateD)]
def sl (o : Nat) (s0 : State) (q : Nat) (x : Option D × Option D × Option D) : Dv := [some (.ref o), some (stateD s0), some (.ref q), x.1, x.2.1, x.2.2]
section
variable {stk stk' : List State} {kvs' : Kvs}
theorem sx_q : (Sx θ k kvs stk)[θ.length]? = some (.lst (stk.map stateD)) := by
  have : θ.length = (θ.set k (Cell.dct kvs)).length := by simp
  unfold Sx
  rw [this]; exact getElem?_app_len
theorem sx_set_q {ds : List D} (h : ds = stk'.map stateD) : (Sx θ k kvs stk).set θ.length (.lst ds) = Sx θ k kvs stk' := by
  subst h
  unfold Sx
  have : θ.length = (θ.set k (Cell.dct kvs)).length := by simp
  rw [this]; exact set_app_len
theorem sx_set_k (h : k < θ.length) : (Sx θ k kvs stk).set k (.dct kvs') = Sx θ k kvs' stk := by
  unfold Sx
  exact (List.set_append_left _ _ (by simpa using h)).trans (by rw [List.set_set])
theorem SrAt.sx {kvs0 : Kvs} (h : SrAt A p θ o k kvs0) : SrAt A p (Sx θ k kvs stk) o k kvs := by
  have ho : o < θ.length := (List.getElem?_eq_some_iff.mp h.ob).1
  have hk : k < θ.length := (List.getElem?_eq_some_iff.mp h.dc).1
  have hne : k ≠ o := fun e => by
    have h1 := h.ob; have h2 := h.dc
    rw [← e, h2] at h1; cases h1
  unfold Sx
  refine ⟨?_, ?_⟩
  · rw [List.getElem?_append_left (by simpa using ho), List.getElem?_set_ne hne]; exact h.ob
  · rw [List.getElem?_append_left (by simpa using hk), List.getElem?_set_self hk]
end
def wC : FT := tBf (fOp gGt (fCB gLen (aCons (fVar 2) aNil)) (fC (.int 0)))
noncomputable def wB (A : Adr) : FS :=
      (sSeq (sAsg (fOp gIx (fVar 2) (fNeg (fC (.int 1)))) (gNm 3))
      (sSeq (sAsg (fMeth A.c_Search "key_of" (m_Search_key_of A) (fVar 0) (aCons (fVar 3) aNil)) (gNm 4))
      (sSeq (sAsg (fIf (tBf (fOp gInN (fVar 4) (fFld A.c_Search "known" (fVar 0)))) (fC .non) (fMeth A.c_Search "open_outcome" (m_Search_open_outcome A) (fVar 0) (aCons (fVar 3) aNil))) (gNm 5))
      (sSeq (sIf (tBf (fOp gNotN (fVar 5) (fC .non)))
      (sSeq (sExpr (fAppend (fVar 2) (fVar 5)))
      sCt)
      sNx)
      (sSeq (sIf (tBf (fOp gNotInN (fVar 4) (fFld A.c_Search "known" (fVar 0))))
      (sDPutD (fFld A.c_Search "known" (fVar 0)) (fVar 4) (fOr (fMeth A.c_Plan "all_ended" (m_Plan_all_ended A) (fFld A.c_Search "plan" (fVar 0)) (aCons (fVar 3) aNil)) (fOp gNotN (fMeth A.c_Search "good_arm" (m_Search_good_arm A) (fVar 0) (aCons (fVar 3) aNil)) (fC .non))))
      sNx)
      (sExpr (fPop (fVar 2))))))))
section
variable {δ : Dv} {fo f fi : F}
theorem fAppend_ap : fAppend fo f δ θ = match fo δ θ with
  | some (.ref n, θ1) => match θ1[n]? with
    | some (.lst _) => match f δ θ1 with
      | some (d, θ2) => match θ2[n]? with
        | some (.lst ds) => if ds.length < 100000 then some (.non, θ2.set n (.lst (ds ++ [d]))) else none
        | _ => none
      | none => none
    | _ => none
  | _ => none := (rfl)
theorem fPop_ap : fPop fo δ θ = match fo δ θ with
  | some (.ref n, θ1) => match θ1[n]? with
    | some (.lst ds) => match ds[ds.length - 1]? with
      | some d => some (d, θ1.set n (.lst ds.dropLast))
      | none => none
    | _ => none
  | _ => none := (rfl)
theorem sDPutD_ap : sDPutD fo fi f δ θ = match f δ θ with
  | some (d, θ1) => match fo δ θ1 with
    | some (.ref n, θ2) => match fi δ θ2 with
      | some (y, θ3) => match θ3[n]?, keyD y with
        | some (.dct es), some k => if es.length < 16000000 then some (.nx δ (θ3.set n (.dct (dPut es k d)))) else none
        | _, _ => none
      | none => none
    | _ => none
  | none => none := (rfl)
end
section
variable {s0 : State} {stk : List State} {x : Option D × Option D × Option D} {kvs0 : Kvs}
theorem wC_pos (hl : stk.length < 50000) : wC (sl o s0 θ.length x) (Sx θ k kvs (stk ++ [s])) = some (true, Sx θ k kvs (stk ++ [s])) := by
  have e4 : seqOf (Sx θ k kvs (stk ++ [s])) (.ref θ.length) = some ((stk ++ [s]).map stateD) := by simp [seqOf, sx_q]
  unfold wC sl
  simp [gLen_ref, e4]
theorem wC_nil : wC (sl o s0 θ.length x) (Sx θ k kvs []) = some (false, Sx θ k kvs []) := by
  have e4 : seqOf (Sx θ k kvs []) (.ref θ.length) = some [] := by simp [seqOf, sx_q]
  unfold wC sl
  simp [gLen_ref, e4]
theorem pop_last : ((stk ++ [s]).map stateD)[((stk ++ [s]).map stateD).length - 1]? = some (stateD s) := by simp
theorem body_known (h : SrAt A p θ o k kvs0) (hs : Ok p s) (hk : known kvs s = true) (hl : stk.length < 50000) :
    wB A (sl o s0 θ.length x) (Sx θ k kvs (stk ++ [s])) = some (.nx (sl o s0 θ.length (some (stateD s), some (stateD (normS s)), some .non)) (Sx θ k kvs stk)) := by
  have h' : SrAt A p (Sx θ k kvs (stk ++ [s])) o k kvs := h.sx
  have e1 := ms_key_of (A := A) (θ := Sx θ k kvs (stk ++ [s])) hs.sig (.ref o)
  have e2 := h'.in_ s
  have e3 := h'.notin s
  rw [hk] at e2 e3
  have e4 : seqOf (Sx θ k kvs (stk ++ [s])) (.ref θ.length) = some (stk.map stateD ++ [stateD s]) := by simp [seqOf, sx_q]
  unfold wB sl
  simp [h'.obj, e1, e2, e3, e4, atI_last, fPop_ap, sx_q]
  exact sx_set_q (by simp)
theorem body_push (h : SrAt A p θ o k kvs0) (hp : PlanOk p) (hs : Ok p s) (hk : known kvs s = false) (hl : stk.length < 50000) (hf : (allOuts p s).find? (fun t => !known kvs t) = some t) :
    wB A (sl o s0 θ.length x) (Sx θ k kvs (stk ++ [s])) = some (.ct (sl o s0 θ.length (some (stateD s), some (stateD (normS s)), some (stateD t))) (Sx θ k kvs (stk ++ [s] ++ [t]))) := by
  have h' : SrAt A p (Sx θ k kvs (stk ++ [s])) o k kvs := h.sx
  have e1 := ms_key_of (A := A) (θ := Sx θ k kvs (stk ++ [s])) hs.sig (.ref o)
  have e2 := h'.in_ s
  have e3 := h'.notin s
  rw [hk] at e2 e3
  have e4 : seqOf (Sx θ k kvs (stk ++ [s])) (.ref θ.length) = some (stk.map stateD ++ [stateD s]) := by simp [seqOf, sx_q]
  have e5 := ms_open h' hp hs
  rw [hf] at e5
  unfold wB sl
  simp [h'.obj, e1, e2, e3, e4, e5, atI_last, fAppend_ap, sx_q, stateOD]
  simp [isNonD_state, sx_q]
  rw [if_pos (by omega)]
  rw [sx_set_q (stk' := stk ++ [s] ++ [t]) (by simp)]
  simp [sl]
theorem body_put (h : SrAt A p θ o k kvs0) (hU : Uni p U) (hi : Inv p U kvs) (hp : PlanOk p) (hs : Ok p s) (hk : known kvs s = false) (hl : stk.length < 50000) (hf : (allOuts p s).find? (fun t => !known kvs t) = none) :
    wB A (sl o s0 θ.length x) (Sx θ k kvs (stk ++ [s])) = some (.nx (sl o s0 θ.length (some (stateD s), some (stateD (normS s)), some .non)) (Sx θ k (dPut kvs (keyS s) (.bl (safe p s))) stk)) := by
  have h' : SrAt A p (Sx θ k kvs (stk ++ [s])) o k kvs := h.sx
  have e1 := ms_key_of (A := A) (θ := Sx θ k kvs (stk ++ [s])) hs.sig (.ref o)
  have e2 := h'.in_ s
  have e3 := h'.notin s
  rw [hk] at e2 e3
  have e4 : seqOf (Sx θ k kvs (stk ++ [s])) (.ref θ.length) = some (stk.map stateD ++ [stateD s]) := by simp [seqOf, sx_q]
  have e5 := ms_open h' hp hs
  rw [hf] at e5
  have hall : ∀ t ∈ allOuts p s, known kvs t = true := fun t ht => by
    have := List.find?_eq_none.mp hf t ht
    simpa using this
  have e6 := ms_good h' hi.good hp hs hall
  have e7 := ms_all_ended (A := A) (θ := Sx θ k kvs (stk ++ [s])) hs.fit (by have := hp.few; omega)
  have e8 := hi.few hU
  have hb : ∀ (f : Nat → Bool) (xs : List Nat), (!isNonD (natOD (xs.find? f))) = xs.any f := fun f xs => by
    cases hx : xs.find? f with
    | none =>
      have : xs.any f = false := by
        rw [List.any_eq_false]
        exact fun x h => List.find?_eq_none.mp hx x h
      rw [this]; rfl
    | some a =>
      have : xs.any f = true := List.any_eq_true.mpr ⟨a, List.mem_of_find?_eq_some hx, List.find?_some hx⟩
      rw [this]; rfl
  have e9 : (if allEnded p s = true then some (D.bl true, Sx θ k kvs (stk ++ [s])) else some (D.bl !isNonD (natOD (List.find? (fun a => canStep p s a && (outs p s a).all (safe p)) (arms p))), Sx θ k kvs (stk ++ [s]))) = some (.bl (safe p s), Sx θ k kvs (stk ++ [s])) := by
    rw [hb, safe_eq hp hs]
    cases allEnded p s <;> simp
  unfold wB sl
  simp [h'.obj, e1, e2, e3, e4, e5, e6, e7, atI_last, fPop_ap, sDPutD_ap, sx_q, stateOD, -List.all_eq_true]
  simp only [e9, keyD_state]
  have hkl : k < θ.length := (List.getElem?_eq_some_iff.mp h.dc).1
  simp [h'.obj, h'.dc, e8, sx_set_k hkl, sx_q]
  exact sx_set_q (by simp)
/-- the stack is worked down -/
theorem loop_one (h : SrAt A p θ o k kvs0) (hU : Uni p U) (hp : PlanOk p) : ∀ (n : Nat) (s : State) (stk : List State) (kvs : Kvs) (x : Option D × Option D × Option D), U s → left p s ≤ n → Inv p U kvs → stk.length + n < 40000 →
    ∃ m kvs' x', Inv p U kvs' ∧ known kvs' s = true ∧ (∀ u, known kvs u = true → known kvs' u = true) ∧
      ∀ f r, whileF wC (wB A) f (sl o s0 θ.length x') (Sx θ k kvs' stk) = some r → whileF wC (wB A) (f + m) (sl o s0 θ.length x) (Sx θ k kvs (stk ++ [s])) = some r := by
  intro n
  induction n with
  | zero =>
    intro s stk kvs x hs hn hi hl
    have hok := hU.ok s hs
    have hno : allOuts p s = [] := by
      cases hq : allOuts p s with
      | nil => rfl
      | cons t ts =>
        obtain ⟨a, ha, hc, ht⟩ := allOuts_mem (p := p) (s := s) (t := t) (by rw [hq]; exact List.mem_cons_self ..)
        have := (outs_ok hp hok ha ht).2
        omega
    cases hk : known kvs s with
    | true =>
      refine ⟨1, kvs, (some (stateD s), some (stateD (normS s)), some .non), hi, hk, fun u hu => hu, fun f r hr => ?_⟩
      unfold whileF
      rw [wC_pos (by omega)]
      simp only
      rw [body_known h hok hk (by omega)]
      exact hr
    | false =>
      obtain ⟨i1, i2, i3⟩ := hi.put hs hk
      refine ⟨1, _, (some (stateD s), some (stateD (normS s)), some .non), i1, i3, i2, fun f r hr => ?_⟩
      unfold whileF
      rw [wC_pos (by omega)]
      simp only
      rw [body_put h hU hi hp hok hk (by omega) (by rw [hno]; rfl)]
      exact hr
  | succ n ihn =>
    intro s stk kvs x hs hn hi hl
    have hok := hU.ok s hs
    have go : ∀ (u : Nat) (kvs : Kvs) (x : Option D × Option D × Option D), Inv p U kvs → ((allOuts p s).filter fun t => !known kvs t).length ≤ u →
        ∃ m kvs' x', Inv p U kvs' ∧ known kvs' s = true ∧ (∀ u, known kvs u = true → known kvs' u = true) ∧
          ∀ f r, whileF wC (wB A) f (sl o s0 θ.length x') (Sx θ k kvs' stk) = some r → whileF wC (wB A) (f + m) (sl o s0 θ.length x) (Sx θ k kvs (stk ++ [s])) = some r := by
      intro u
      induction u with
      | zero =>
        intro kvs x hi hu
        have hnone : (allOuts p s).find? (fun t => !known kvs t) = none := by
          rw [List.find?_eq_none]
          intro t ht hq
          have := List.length_pos_of_mem (List.mem_filter (p := fun t => !known kvs t).mpr ⟨ht, hq⟩)
          omega
        cases hk : known kvs s with
        | true =>
          refine ⟨1, kvs, (some (stateD s), some (stateD (normS s)), some .non), hi, hk, fun u hu => hu, fun f r hr => ?_⟩
          unfold whileF
          rw [wC_pos (by omega)]
          simp only
          rw [body_known h hok hk (by omega)]
          exact hr
        | false =>
          obtain ⟨i1, i2, i3⟩ := hi.put hs hk
          refine ⟨1, _, (some (stateD s), some (stateD (normS s)), some .non), i1, i3, i2, fun f r hr => ?_⟩
          unfold whileF
          rw [wC_pos (by omega)]
          simp only
          rw [body_put h hU hi hp hok hk (by omega) hnone]
          exact hr
      | succ u ihu =>
        intro kvs x hi hu
        cases hk : known kvs s with
        | true =>
          refine ⟨1, kvs, (some (stateD s), some (stateD (normS s)), some .non), hi, hk, fun u hu => hu, fun f r hr => ?_⟩
          unfold whileF
          rw [wC_pos (by omega)]
          simp only
          rw [body_known h hok hk (by omega)]
          exact hr
        | false =>
          cases hf : (allOuts p s).find? (fun t => !known kvs t) with
          | none =>
            obtain ⟨i1, i2, i3⟩ := hi.put hs hk
            refine ⟨1, _, (some (stateD s), some (stateD (normS s)), some .non), i1, i3, i2, fun f r hr => ?_⟩
            unfold whileF
            rw [wC_pos (by omega)]
            simp only
            rw [body_put h hU hi hp hok hk (by omega) hf]
            exact hr
          | some t =>
            have ht : t ∈ allOuts p s := List.mem_of_find?_eq_some hf
            have htk : known kvs t = false := by
              have := List.find?_some hf
              simpa using this
            obtain ⟨a, ha, hc, ht'⟩ := allOuts_mem ht
            have hlt := (outs_ok hp hok ha ht').2
            obtain ⟨m1, kvs1, x1, j1, j2, j3, j4⟩ := ihn t (stk ++ [s]) kvs (some (stateD s), some (stateD (normS s)), some (stateD t)) (hU.out s t hs ht) (by omega) hi (by simp; omega)
            obtain ⟨m2, kvs2, x2, g1, g2, g3, g4⟩ := ihu kvs1 x1 j1 (by
              have hsub : ∀ xs : List State, t ∈ xs → (xs.filter fun t => !known kvs1 t).length < (xs.filter fun t => !known kvs t).length := by
                have hle : ∀ xs : List State, (xs.filter fun t => !known kvs1 t).length ≤ (xs.filter fun t => !known kvs t).length := fun xs => by
                  induction xs with
                  | nil => exact Nat.le_refl _
                  | cons y ys ih =>
                    rw [List.filter_cons, List.filter_cons]
                    cases h1 : known kvs y with
                    | true => simp [j3 y h1]; exact ih
                    | false =>
                      cases h2 : known kvs1 y <;> simp <;> omega
                intro xs hx
                induction xs with
                | nil => cases hx
                | cons y ys ih =>
                  rw [List.filter_cons, List.filter_cons]
                  rcases List.mem_cons.mp hx with rfl | hx
                  · have := hle ys
                    simp [htk, j2]; omega
                  · have := ih hx
                    cases h1 : known kvs y with
                    | true => simp [j3 y h1]; exact this
                    | false =>
                      cases h2 : known kvs1 y <;> simp <;> omega
              have := hsub _ ht
              omega)
            refine ⟨m2 + m1 + 1, kvs2, x2, g1, g2, fun u hu => g3 u (j3 u hu), fun f r hr => ?_⟩
            have q1 := g4 f r hr
            have q2 := j4 _ r q1
            rw [show f + (m2 + m1 + 1) = (f + m2 + m1) + 1 by omega]
            unfold whileF
            rw [wC_pos (by omega)]
            simp only
            rw [body_push h hp hok hk (by omega) hf]
            exact q2
    exact go _ kvs x hi (Nat.le_refl _)
end
theorem belows_bl (L : Nat) : ∀ (kvs : Kvs), (∀ e ∈ kvs, ∃ b, e.2 = .bl b) → belowK L kvs = true
  | [], _ => rfl
  | e :: kvs, h => by
    obtain ⟨b, hb⟩ := h e (List.mem_cons_self ..)
    simp [belowK, hb, below, belows_bl L kvs fun x hx => h x (List.mem_cons_of_mem _ hx)]
/-- the search answers, and what it knows grows -/
theorem ms_search (h : SrAt A p θ o k kvs) (hU : Uni p U) (hi : Inv p U kvs) (hp : PlanOk p) (hs : U s) :
    ∃ kvs', Inv p U kvs' ∧ m_Search_is_safe A [.ref o, stateD s] θ = some (.bl (safe p s), θ.set k (.dct kvs')) := by
  have hok := hU.ok s hs
  obtain ⟨m, kvs', x', i1, i2, _, i4⟩ := loop_one (s0 := s) h hU hp (left p s) s [] kvs (none, none, none) hs (Nat.le_refl _) hi (by have := hok.few; simp; omega)
  refine ⟨kvs', i1, ?_⟩
  have e0 := i4 1 (.nx (sl o s θ.length x') (Sx θ k kvs' [])) (by
    unfold whileF
    rw [wC_nil])
  have e1 := sWhile_of e0
  have eS : θ ++ [.lst [stateD s]] = Sx θ k kvs ([] ++ [s]) := by
    unfold Sx
    rw [show θ.set k (.dct kvs) = θ from ?_]
    · rfl
    · obtain ⟨hkl, hq⟩ := List.getElem?_eq_some_iff.mp h.dc
      rw [← hq]; exact List.set_getElem_self hkl
  have h' : SrAt A p (Sx θ k kvs' []) o k kvs' := h.sx
  have e2 := ms_key_of (A := A) (θ := Sx θ k kvs' []) hok.sig (.ref o)
  have e3 : gDGet (Sx θ k kvs' []) (.ref k) (stateD (normS s)) = some (.bl (safe p s)) := by
    simp only [gDGet, keyD_state, h'.dct]
    unfold known at i2
    obtain ⟨d, hd⟩ := Option.isSome_iff_exists.mp i2
    have := i1.good s d hd
    show dGet kvs' (keyS s) = _
    rw [hd, this]
  have hbody : m_Search_is_safe A [.ref o, stateD s] θ = cutR θ (some (.bl (safe p s), Sx θ k kvs' [])) := by
    unfold m_Search_is_safe mCut
    congr 1
    simp only [bodyM_ap]
    simp only [sSeq_ap, sAsg_ap, fLstM_ap, aCons_ap, aNil_ap, fVar_ap]
    simp
    rw [eS]
    unfold wC wB sl at e1
    rw [e1]
    simp [h'.obj, e2, e3]
  rw [hbody]
  have e4 : frz (Sx θ k kvs' []) θ.length 9 (.bl (safe p s)) = some (.bl (safe p s)) := rfl
  have ok : OkCut θ (Sx θ k kvs' []) := by
    refine ⟨by simp [Sx], fun n c hn hc => ?_⟩
    unfold Sx at hc
    rw [List.getElem?_append_left (by simpa using hn)] at hc
    by_cases hnk : k = n
    · subst hnk
      rw [List.getElem?_set_self hn] at hc
      cases hc
      exact .inr (belows_bl _ _ fun e he => (i1.ks e he).2)
    · rw [List.getElem?_set_ne hnk] at hc
      exact .inl hc
  simp only [cutR, e4]
  rw [if_pos ok]
  congr 2
  unfold Sx
  exact (List.take_left' (by simp))
end Pg

set_option Elab.async false
set_option linter.all false
set_option maxRecDepth 100000
set_option maxHeartbeats 4000000
namespace Pg
open PySem L2 DL
variable {A : Adr} {p : PlanM} {s t : State} {θ : Sto} {U : State → Prop}
section
variable {δ : Dv} {fo f : F}
theorem sFldD_ap (C : Addr) (fn : Str) : sFldD C fn fo f δ θ = match f δ θ with
  | some (d, θ1) => match fo δ θ1 with
    | some (.ref n, θ2) => match θ2[n]? with
      | some (.ins C' fl) => if C' = C ∧ fl.length < 1000 then some (.nx δ (θ2.set n (.ins C' (putFD fn d fl)))) else none
      | _ => none
    | _ => none
  | none => none := (rfl)
end
theorem app_len1 {c d : Cell} : (θ ++ [c, d])[θ.length + 1]? = some d := by
  rw [List.getElem?_append_right (by omega)]
  simp
/-! ### a search, made for one question -/
theorem m_search_new : mNew A.c_Search (m_Search___init__ A) [planD A p] θ = some (.ref θ.length, θ ++ [.ins A.c_Search (srchFs A p (θ.length + 1)), .dct []]) := by
  have h1 : ∀ c : Cell, (θ ++ [c]).set θ.length (.ins A.c_Search [("plan", planD A p)]) = θ ++ [.ins A.c_Search [("plan", planD A p)]] := fun c => set_app_len
  have h2 : ∀ c : Cell, (θ ++ [c, .dct []]).set θ.length (.ins A.c_Search (srchFs A p (θ.length + 1))) = θ ++ [.ins A.c_Search (srchFs A p (θ.length + 1)), .dct []] := fun c => set_app_len
  unfold mNew m_Search___init__
  simp only [bodyM_ap]
  simp [sFldD_ap, getElem?_app_len, h1, putFD]
  rw [if_neg (by decide +kernel)]
  rfl
/-! ### plans -/
def mir (q : Quad) : Quad := (q.2.2.1, q.2.2.2, q.1, q.2.1)
def putB (kvs : Kvs) (q : Quad) : Kvs := dPut (dPut kvs (quadK q) (.bl true)) (quadK (mir q)) (.bl true)
def blkKvs (bs : List Quad) : Kvs := bs.foldl putB []
theorem putB_len (kvs : Kvs) (q : Quad) : (putB kvs q).length ≤ kvs.length + 2 := by
  have h1 := dPut_len (dPut kvs (quadK q) (D.bl true)) (quadK (mir q)) (D.bl true)
  have h2 := dPut_len kvs (quadK q) (D.bl true)
  unfold putB; omega
theorem foldB_len : ∀ (bs : List Quad) (kvs : Kvs), (bs.foldl putB kvs).length ≤ kvs.length + 2 * bs.length
  | [], kvs => by simp
  | b :: bs, kvs => by
    have h1 := foldB_len bs (putB kvs b)
    have h2 := putB_len kvs b
    simp only [List.foldl_cons, List.length_cons]; omega
theorem dGet_put {α : Type} (kvs : List (NestedKey × α)) (x y : NestedKey) (d : α) : (dGet (dPut kvs x d) y).isSome = (decide (y = x) || (dGet kvs y).isSome) := by
  have e : ∀ (zs : List (NestedKey × α)) (y : NestedKey), (dGet zs y).isSome = zs.any fun p => decide (p.1 = y) := fun zs y => by
    unfold dGet
    rw [Option.isSome_map, Bool.eq_iff_iff, List.find?_isSome, List.any_eq_true]
  unfold dPut
  split
  · rename_i h
    rw [e] at h ⊢
    rw [e]
    rw [Bool.eq_iff_iff]
    simp only [List.any_map, Bool.or_eq_true, List.any_eq_true, Function.comp, decide_eq_true_eq] at h ⊢
    constructor
    · rintro ⟨p, hp, hy⟩
      refine .inr ⟨p, hp, ?_⟩
      split at hy <;> exact hy
    · rintro (rfl | ⟨p, hp, hy⟩)
      · obtain ⟨p, hp, hy⟩ := h
        exact ⟨p, hp, by split <;> exact hy⟩
      · exact ⟨p, hp, by split <;> exact hy⟩
  · rw [e, e, List.any_append, Bool.or_comm]
    congr 1
    simp [eq_comm]
theorem foldB_get (q : Quad) : ∀ (bs : List Quad) (kvs : Kvs), (dGet (bs.foldl putB kvs) (quadK q)).isSome = true ↔ (∃ b ∈ bs, q = b ∨ q = mir b) ∨ (dGet kvs (quadK q)).isSome = true
  | [], kvs => by simp
  | b :: bs, kvs => by
    rw [List.foldl_cons, foldB_get q bs]
    unfold putB
    rw [dGet_put, dGet_put]
    have hk : ∀ x, quadK q = quadK x ↔ q = x := fun x => ⟨quadK_inj, fun e => by rw [e]⟩
    simp only [Bool.or_eq_true, decide_eq_true_eq, hk, List.mem_cons, exists_eq_or_imp]
    constructor
    · rintro (h | h | h | h)
      · exact .inl (.inr h)
      · exact .inl (.inl (.inr h))
      · exact .inl (.inl (.inl h))
      · exact .inr h
    · rintro (((h | h) | h) | h)
      · exact .inr (.inr (.inl h))
      · exact .inr (.inl h)
      · exact .inl h
      · exact .inr (.inr (.inr h))
theorem blk_iff (fs : List Flow) (ss : List Nm) (bs : List Quad) (q : Quad) : (PlanM.mk fs ss (blkKvs bs)).blk q = true ↔ ∃ b ∈ bs, q = b ∨ q = mir b := by
  unfold PlanM.blk blkKvs
  rw [foldB_get]
  simp [dGet]
/-! ### a plan is made -/
def quadsD (bs : List Quad) : List D := bs.map quadD
theorem lc_lists (x0 x1 x2 x3 x4 x5 x6 x7 : Option D) : ∀ (fs : List Flow) (acc : List Flow) (θ : Sto), acc.length + fs.length ≤ 1000 →
    lcF (gNm 8) tTrue (fCB gList (aCons (fVar 8) aNil)) [x0, x1, x2, x3, x4, x5, x6, x7, none] θ.length (fs.map flowD) (θ ++ [.lst (acc.map flowD)]) = some (θ ++ [.lst ((acc ++ fs).map flowD)])
  | [], acc, θ, _ => by simp [lcF]
  | f :: fs, acc, θ, hl => by
    simp only [List.length_cons] at hl
    have ih := lc_lists x0 x1 x2 x3 x4 x5 x6 x7 fs (acc ++ [f]) θ (by simp; omega)
    have hl2 : acc.length < 100000 := by omega
    rw [List.map_cons]
    unfold lcF
    have e : ∀ (θ : Sto), gList θ [flowD f] = some (flowD f) := fun θ => rfl
    simp [tTrue, e, getElem?_app_len, set_app_len, hl2] at ih ⊢
    exact ih
theorem below_flow (L : Nat) (f : Flow) : below L (flowD f) = true := by
  have h : ∀ st : Step, below L (stepD st) = true := fun st => by cases st <;> simp [stepD, below, belows, below_nm, below_held]
  simp [flowD, below, belows_map L stepD h]
theorem below_quad (L : Nat) (q : Quad) : below L (quadD q) = true := by
  have h : ∀ x : Place, below L (placeD x) = true := fun x => by cases x <;> simp [placeD, below, belows, below_nm, below_held]
  simp [quadD, below, belows, h]
theorem m_flows {x0 x2 x3 x4 x5 x6 x7 x8 : Option D} {fs : List Flow} (hl : fs.length ≤ 1000) :
    fCut (fLCM (iSeq (fVar 1)) (gNm 8) tTrue (fCB gList (aCons (fVar 8) aNil)) [8]) [x0, some (.lst (fs.map flowD)), x2, x3, x4, x5, x6, x7, x8] θ = some (.lst (fs.map flowD), θ) :=
  fCut_lc (by simp) (lc_lists x0 _ x2 x3 x4 x5 x6 x7 fs [] θ (by simpa using hl)) rfl (belows_map _ _ (below_flow _) _) fun _ _ h => .inl h
theorem key_quad (q : Quad) : keyD (.tup [.int q.1, placeD q.2.1, .int q.2.2.1, placeD q.2.2.2]) = some (quadK q) := keyD_quad q
theorem key_mir (q : Quad) : keyD (.tup [.int q.2.2.1, placeD q.2.2.2, .int q.1, placeD q.2.1]) = some (quadK (mir q)) := keyD_quad (mir q)
theorem app_set1 {c d e : Cell} : (θ ++ [c, d]).set (θ.length + 1) e = θ ++ [c, e] := by
  rw [List.set_append_right _ _ (by omega)]
  simp
def bB (A : Adr) : FS := (sSeq (sDPutD (fFld A.c_Plan "blocks" (fVar 0)) (fTup (aCons (fVar 4) (aCons (fVar 5) (aCons (fVar 6) (aCons (fVar 7) aNil))))) (fC (.bl true)))
      (sDPutD (fFld A.c_Plan "blocks" (fVar 0)) (fTup (aCons (fVar 6) (aCons (fVar 7) (aCons (fVar 4) (aCons (fVar 5) aNil))))) (fC (.bl true))))
theorem for_blocks {fl : List (Str × D)} (hf : fl.lookup ("blocks" : Str) = some (.ref (θ.length + 1))) (x1 x2 x3 x8 : Option D) : ∀ (bs : List Quad) (kvs : Kvs) (x4 x5 x6 x7 : Option D), kvs.length + 2 * bs.length ≤ 1000 →
    ∃ δ', forF (gTupD 4 (gConsD (gNm 4) (gConsD (gNm 5) (gConsD (gNm 6) (gConsD (gNm 7) gNilD))))) (bB A) (bs.map quadD) [some (.ref θ.length), x1, x2, x3, x4, x5, x6, x7, x8] (θ ++ [.ins A.c_Plan fl, .dct kvs]) = some (.nx δ' (θ ++ [.ins A.c_Plan fl, .dct (bs.foldl putB kvs)]))
  | [], kvs, x4, x5, x6, x7, _ => ⟨_, rfl⟩
  | b :: bs, kvs, x4, x5, x6, x7, hl => by
    simp only [List.length_cons] at hl
    have hp := putB_len kvs b
    have hd := dPut_len kvs (quadK b) (D.bl true)
    obtain ⟨δ', ih⟩ := for_blocks hf x1 x2 x3 x8 bs (putB kvs b) (some (.int b.1)) (some (placeD b.2.1)) (some (.int b.2.2.1)) (some (placeD b.2.2.2)) (by omega)
    refine ⟨δ', ?_⟩
    rw [List.map_cons, forF_cons]
    have hob : ∀ kvs : Kvs, objOf (θ ++ [Cell.ins A.c_Plan fl, Cell.dct kvs]) (.ref θ.length) = some (A.c_Plan, fl) := fun kvs => by rw [objOf_ref, getElem?_app_len]
    have h1 : kvs.length < 16000000 := by omega
    have h2 : (dPut kvs (quadK b) (D.bl true)).length < 16000000 := by omega
    have e : bB A [some (.ref θ.length), x1, x2, x3, some (.int b.1), some (placeD b.2.1), some (.int b.2.2.1), some (placeD b.2.2.2), x8] (θ ++ [.ins A.c_Plan fl, .dct kvs]) = some (.nx [some (.ref θ.length), x1, x2, x3, some (.int b.1), some (placeD b.2.1), some (.int b.2.2.1), some (placeD b.2.2.2), x8] (θ ++ [.ins A.c_Plan fl, .dct (putB kvs b)])) := by
      unfold bB
      simp [sDPutD_ap, hob, hf, key_quad, key_mir, app_len1, app_set1, h1, h2]
      rfl
    have e0 : gTupD 4 (gConsD (gNm 4) (gConsD (gNm 5) (gConsD (gNm 6) (gConsD (gNm 7) gNilD)))) (quadD b) [some (.ref θ.length), x1, x2, x3, x4, x5, x6, x7, x8] (θ ++ [.ins A.c_Plan fl, .dct kvs]) = some ([some (.ref θ.length), x1, x2, x3, some (.int b.1), some (placeD b.2.1), some (.int b.2.2.1), some (placeD b.2.2.2), x8], θ ++ [.ins A.c_Plan fl, .dct kvs]) := by simp [quadD]
    rw [e0]
    simp only
    rw [e]
    exact ih
def pl3 (fs : List Flow) (ss : List Nm) (d : D) : List (Str × D) := [("flows", .lst (fs.map flowD)), ("starts", .lst (ss.map nmD)), ("blocks", d)]
theorem m_plan_new (fs : List Flow) (ss : List Nm) (bs : List Quad) (hl : fs.length ≤ 1000) (hb : bs.length ≤ 400) {d : D} (hd : d = .lst (bs.map quadD) ∨ d = .tup (bs.map quadD)) :
    mNew A.c_Plan (m_Plan___init__ A) [.lst (fs.map flowD), .lst (ss.map nmD), d] θ = some (.ref θ.length, θ ++ [.ins A.c_Plan (pl3 fs ss (.ref (θ.length + 1))), .dct (blkKvs bs)]) := by
  have h1 : ∀ c d : Cell, (θ ++ [c]).set θ.length d = θ ++ [d] := fun c d => set_app_len
  have h2 : ∀ c d e : Cell, (θ ++ [c, e]).set θ.length d = θ ++ [d, e] := fun c d e => set_app_len
  obtain ⟨δ', e1⟩ := for_blocks (A := A) (θ := θ) (fl := pl3 fs ss (.ref (θ.length + 1))) rfl (some (.lst (fs.map flowD))) (some (.lst (ss.map nmD))) (some d) none bs [] none none none none (by simp; omega)
  have e2 : iSeq (fVar 3) [some (.ref θ.length), some (.lst (fs.map flowD)), some (.lst (ss.map nmD)), some d, none, none, none, none, none] (θ ++ [.ins A.c_Plan (pl3 fs ss (.ref (θ.length + 1))), .dct []]) = some (bs.map quadD, θ ++ [.ins A.c_Plan (pl3 fs ss (.ref (θ.length + 1))), .dct []]) := by
    rcases hd with rfl | rfl <;> simp
  have p1 : ∀ x : D, putFD ("flows" : Str) x [] = [(("flows" : Str), x)] := fun x => rfl
  have p2 : ∀ x y : D, putFD ("starts" : Str) y [(("flows" : Str), x)] = [(("flows" : Str), x), (("starts" : Str), y)] := fun x y => by
    simp only [putFD]
    rw [if_neg (by decide +kernel)]
  have p3 : putFD ("blocks" : Str) (.ref (θ.length + 1)) [(("flows" : Str), .lst (fs.map flowD)), (("starts" : Str), .lst (ss.map nmD))] = pl3 fs ss (.ref (θ.length + 1)) := by
    simp only [putFD]
    rw [if_neg (by decide +kernel), if_neg (by decide +kernel)]
    rfl
  unfold mNew m_Plan___init__
  simp only [bodyM_ap]
  simp only [sSeq_ap, sFldD_ap]
  simp [-iSeq_ap, m_flows hl, getElem?_app_len, h1, h2, p1, p2, p3]
  simp only [e2]
  unfold bB at e1
  rw [e1]
  rfl
theorem belowK_iff (L : Nat) : ∀ kvs : Kvs, belowK L kvs = true ↔ ∀ e ∈ kvs, below L e.2 = true
  | [] => by simp [belowK]
  | e :: kvs => by
    simp only [belowK, Bool.and_eq_true, belowK_iff L kvs, List.mem_cons, forall_eq_or_imp]
theorem below_dct (L : Nat) (bs : List Quad) : ∀ (kvs : Kvs), belowK L kvs = true → belowK L (bs.foldl putB kvs) = true := by
  have hput : ∀ (kvs : Kvs) (x : NestedKey), belowK L kvs = true → belowK L (dPut kvs x (.bl true)) = true := fun kvs x h => by
    rw [belowK_iff] at h ⊢
    unfold dPut
    split
    · intro e he
      obtain ⟨q, hq, rfl⟩ := List.mem_map.mp he
      split
      · rfl
      · exact h q hq
    · intro e he
      rcases List.mem_append.mp he with he | he
      · exact h e he
      · rw [List.mem_singleton] at he; subst he; rfl
  induction bs with
  | nil => exact fun kvs h => h
  | cons b bs ih => exact fun kvs h => ih _ (hput _ _ (hput _ _ h))
theorem zip_fs {α β : Type} : ∀ kvs : List (α × β), (kvs.map (·.1)).zip (kvs.map (·.2)) = kvs
  | [] => rfl
  | e :: kvs => by simp [zip_fs kvs]
/-- a plan, frozen -/
theorem ms_plan (fs : List Flow) (ss : List Nm) (bs : List Quad) (hl : fs.length ≤ 1000) (hb : bs.length ≤ 400) {d : D} (hd : d = .lst (bs.map quadD) ∨ d = .tup (bs.map quadD)) :
    cutR θ (mNew A.c_Plan (m_Plan___init__ A) [.lst (fs.map flowD), .lst (ss.map nmD), d] θ) = some (planD A ⟨fs, ss, blkKvs bs⟩, θ) := by
  rw [m_plan_new fs ss bs hl hb hd]
  have hL : belows θ.length [.lst (fs.map flowD), .lst (ss.map nmD)] = true := by
    simp [belows, below, belows_map _ _ (below_flow _), belows_map _ _ (below_nm _)]
  have hk : belowK θ.length (blkKvs bs) = true := below_dct θ.length bs [] rfl
  rw [belowK_map] at hk
  have e : frz (θ ++ [.ins A.c_Plan (pl3 fs ss (.ref (θ.length + 1))), .dct (blkKvs bs)]) θ.length 9 (.ref θ.length) = some (planD A ⟨fs, ss, blkKvs bs⟩) := by
    have e1 : frz (θ ++ [.ins A.c_Plan (pl3 fs ss (.ref (θ.length + 1))), .dct (blkKvs bs)]) θ.length 8 (.ref (θ.length + 1)) = some (.dct (blkKvs bs)) := by
      unfold frz
      rw [if_neg (by simp [below])]
      simp only [app_len1]
      rw [mapO_below hk]
      simp [zip_fs]
    have e2 : ∀ x : D, below θ.length x = true → frz (θ ++ [.ins A.c_Plan (pl3 fs ss (.ref (θ.length + 1))), .dct (blkKvs bs)]) θ.length 8 x = some x := fun x h => by
      unfold frz; rw [if_pos h]
    simp only [belows, Bool.and_eq_true] at hL
    have e0 : (θ ++ [Cell.ins A.c_Plan (pl3 fs ss (.ref (θ.length + 1))), Cell.dct (blkKvs bs)])[θ.length]? = some (.ins A.c_Plan (pl3 fs ss (.ref (θ.length + 1)))) := getElem?_app_len
    generalize (θ ++ [Cell.ins A.c_Plan (pl3 fs ss (.ref (θ.length + 1))), Cell.dct (blkKvs bs)]) = θ2 at e0 e1 e2 ⊢
    unfold frz
    rw [if_neg (by simp [below])]
    simp only [e0, pl3, List.map_cons, List.map_nil, mapO, e2 _ hL.1, e2 _ hL.2.1, e1]
    rfl
  have ok : OkCut θ (θ ++ [.ins A.c_Plan (pl3 fs ss (.ref (θ.length + 1))), .dct (blkKvs bs)]) := ⟨by simp, fun n c hn hc => by rw [List.getElem?_append_left hn] at hc; exact .inl hc⟩
  simp only [cutR, e]
  rw [if_pos ok]
  simp
/-! ### the first state -/
def firstSpot (p : PlanM) (a : Nat) : Spot := ⟨land (flowAt p a) 0, p.starts.getD a ⟨"p", by decide +kernel⟩, none⟩
def firstS (p : PlanM) : State := ⟨(List.range p.flows.length).map (firstSpot p), []⟩
theorem enum_flows (fs : List Flow) : enumD (fs.map flowD) = (List.range fs.length).map fun (a : Nat) => D.tup [.int (a : Int), flowD (fs.getD a [])] := by
  unfold enumD
  refine List.ext_getElem (by simp) fun i h1 h2 => ?_
  simp at h1
  simp [h1, List.getD_eq_getElem?_getD]
theorem for_first (hw : ∀ f ∈ p.flows, WfF f) (hs : p.starts.length = p.flows.length) : ∀ (ks : List Nat) (acc : List Spot) (x2 x3 : Option D), (∀ a ∈ ks, a < p.flows.length) → acc.length + ks.length ≤ 1000 →
    ∃ δ', forF (gTupD 2 (gConsD (gNm 2) (gConsD (gNm 3) gNilD))) (sExpr (fAppend (fVar 1) (fTup (aCons (fCall (m_landing A) (aCons (fVar 3) (aCons (fC (.int 0)) aNil))) (aCons (fOp gIx (fFld A.c_Plan "starts" (fVar 0)) (fVar 2)) (aCons (fC .non) aNil))))))
      (ks.map fun (a : Nat) => D.tup [.int (a : Int), flowD (flowAt p a)]) [some (planD A p), some (.ref θ.length), x2, x3] (θ ++ [.lst (acc.map spotD)]) = some (.nx δ' (θ ++ [.lst ((acc ++ ks.map (firstSpot p)).map spotD)])) ∧ δ'[1]? = some (some (.ref θ.length))
  | [], acc, x2, x3, _, _ => ⟨[some (planD A p), some (.ref θ.length), x2, x3], by simp, rfl⟩
  | a :: ks, acc, x2, x3, hk, hl => by
    simp only [List.length_cons] at hl
    have ha := hk a (List.mem_cons_self ..)
    obtain ⟨δ', ih, ih2⟩ := for_first hw hs ks (acc ++ [firstSpot p a]) (some (.int a)) (some (flowD (flowAt p a))) (fun b hb => hk b (List.mem_cons_of_mem _ hb)) (by simp; omega)
    refine ⟨δ', ?_, ih2⟩
    have e1 := m_land (A := A) (θ := θ ++ [.lst (acc.map spotD)]) (hw _ (List.mem_of_getElem? (flowAt_get ha))) 0
    have e2 : atI (p.starts.map nmD) (a : Int) = some (nmD (p.starts.getD a ⟨"p", by decide +kernel⟩)) := by
      rw [atI_map, List.getD_eq_getElem?_getD]
      rw [List.getElem?_eq_getElem (by omega)]
      rfl
    have hl2 : acc.length < 100000 := by omega
    rw [List.map_cons, forF_cons]
    simp at e1
    simp [fAppend_ap, e1, e2, getElem?_app_len, set_app_len, hl2]
    simp [firstSpot, spotD, heldD] at ih
    exact ih
theorem ms_first (hw : ∀ f ∈ p.flows, WfF f) (hs : p.starts.length = p.flows.length) (hl : p.flows.length ≤ 1000) : m_Plan_first_state A [planD A p] θ = some (stateD (firstS p), θ) := by
  obtain ⟨δ', e1, e2⟩ := for_first (A := A) (θ := θ) hw hs (List.range p.flows.length) [] none none (fun a ha => List.mem_range.mp ha) (by simpa using hl)
  have e3 : m_Plan_first_state A [planD A p] θ = cutR θ (some (stateD (firstS p), θ ++ [.lst ((firstS p).spots.map spotD)])) := by
    unfold m_Plan_first_state mCut
    congr 1
    simp only [bodyM_ap]
    simp [enum_flows]
    unfold flowAt at e1
    simp at e1
    rw [e1]
    simp [e2, gTuple_ref, lstOf_ref, getElem?_app_len]
    simp [stateD, firstS]
  rw [e3, cutR_app (below_state _ _)]
end Pg

set_option Elab.async false
set_option linter.all false
set_option maxRecDepth 100000
set_option maxHeartbeats 4000000
namespace Pg
open PySem L2 DL
/-! ### what is drawn -/
def pN : Nm := ⟨"p", by decide +kernel⟩
def qN : Nm := ⟨"q", by decide +kernel⟩
def xN : Nm := ⟨"x", by decide +kernel⟩
def sN : Nm := ⟨"s", by decide +kernel⟩
def tN : Nm := ⟨"t", by decide +kernel⟩
def iN : Nm := ⟨"i", by decide +kernel⟩
/-- the store with its number at n -/
def Dz (θ : Sto) (n : Nat) (v : Int) : Sto := θ.set n (.lst [.int v])
variable {A : Adr} {θ z : Sto} {n : Nat} {v w k : Int}
theorem dz_len : (Dz θ n v).length = θ.length := by simp [Dz]
theorem dz_get (hn : n < θ.length) : (Dz θ n v)[n]? = some (.lst [.int v]) := by unfold Dz; exact List.getElem?_set_self hn
theorem dz_set : (Dz θ n v).set n (.lst [.int w]) = Dz θ n w := by unfold Dz; exact List.set_set ..
theorem dz_app (hn : n < θ.length) : Dz θ n v ++ z = Dz (θ ++ z) n v := by
  unfold Dz; exact (List.set_append_left _ _ hn).symm
theorem cdiv (h : 0 < k) (h2 : k < 1073741824) : CDiv v k := ⟨h, h2⟩
theorem dig (hn : n < θ.length) (h : 0 < k) (h2 : k < 1073741824) : m__law_digit A [.ref n, .int k] (Dz θ n v) = some (.int (v % k), Dz θ n (v / k)) := by
  have e1 : seqOf (Dz θ n v) (.ref n) = some [.int v] := by rw [seqOf_ref, dz_get hn]
  have e2 : setIx (Dz θ n v) (.ref n) (.int 0) (.int (v / k)) = some (Dz θ n (v / k)) := by
    unfold setIx
    simp only [dz_get hn]
    have : ixN [D.int v].length 0 = some 0 := rfl
    rw [this]
    simp only [List.set_cons_zero, dz_set]
  have e3 : CDiv v k := cdiv h h2
  unfold m__law_digit
  simp only [bodyM_ap]
  simp [e1, h, e3, e2]
theorem modlt {a b : Int} (h : 0 < b) : 0 ≤ a % b ∧ a % b < b := ⟨Int.emod_nonneg a (by omega), Int.emod_lt_of_pos a h⟩
theorem pick {α : Type} (f : α → D) (xs : List α) {r : Int} (h0 : 0 ≤ r) (h1 : r < xs.length) : ∃ x ∈ xs, atI (xs.map f) r = some (f x) := by
  obtain ⟨j, rfl⟩ : ∃ j : Nat, r = (j : Int) := ⟨r.toNat, by omega⟩
  have hj : j < xs.length := by omega
  exact ⟨xs[j], List.getElem_mem hj, by rw [atI_map, List.getElem?_eq_getElem hj]; rfl⟩
theorem pick2 (a b : D) (w : Int) : atI [a, b] (w % 2) = some a ∨ atI [a, b] (w % 2) = some b := by
  have h := modlt (a := w) (b := 2) (by decide)
  have : w % 2 = 0 ∨ w % 2 = 1 := by omega
  rcases this with e | e <;> rw [e]
  · exact .inl rfl
  · exact .inr rfl
theorem pickPQ (w : Int) : ∃ q : Nm, (q = pN ∨ q = qN) ∧ atI [D.str "p", D.str "q"] (w % 2) = some (nmD q) := by
  rcases pick2 (.str "p") (.str "q") w with e | e
  · exact ⟨pN, .inl rfl, e⟩
  · exact ⟨qN, .inr rfl, e⟩
theorem pickQP (w : Int) : ∃ q : Nm, (q = pN ∨ q = qN) ∧ atI [D.str "q", D.str "p"] (w % 2) = some (nmD q) := by
  rcases pick2 (.str "q") (.str "p") w with e | e
  · exact ⟨qN, .inr rfl, e⟩
  · exact ⟨pN, .inl rfl, e⟩
theorem pickH (w : Int) : ∃ h : Option Nm, (h = none ∨ h = some xN) ∧ atI [D.non, D.str "x"] (w % 2) = some (heldD h) := by
  rcases pick2 .non (.str "x") w with e | e
  · exact ⟨none, .inl rfl, e⟩
  · exact ⟨some xN, .inr rfl, e⟩
def StepOk (sigs : List Nm) (i size : Nat) : Step → Prop
  | .move q => q = pN ∨ q = qN
  | .hold h => h = none ∨ h = some xN
  | .set s _ => s ∈ sigs
  | .wait s _ => s ∈ sigs
  | .jump n => i < n ∧ n ≤ size
  | .iff x n => x = iN ∧ i < n ∧ n ≤ size
def PlaceOk : Place → Prop
  | .rest p h => (p = pN ∨ p = qN) ∧ (h = none ∨ h = some xN)
  | .move p q h => (p = pN ∨ p = qN) ∧ (q = pN ∨ q = qN) ∧ (h = none ∨ h = some xN)
theorem ms_place (hn : n < θ.length) : ∃ pl v', PlaceOk pl ∧ m__law_place A [.ref n] (Dz θ n v) = some (placeD pl, Dz θ n v') := by
  have d := fun v => dig (A := A) (v := v) (k := 2) hn (by decide) (by decide)
  obtain ⟨p1, hp1, e1⟩ := pickPQ v
  obtain ⟨h1, hh1, e2⟩ := pickH (v / 2)
  obtain ⟨q1, hq1, e3⟩ := pickPQ (v / 2 / 2 / 2)
  unfold m__law_place
  simp only [bodyM_ap]
  by_cases hz : v / 2 / 2 % 2 = 0
  · refine ⟨.rest p1 h1, v / 2 / 2 / 2, ⟨hp1, hh1⟩, ?_⟩
    simp [d, e1, e2, hz]
    rfl
  · refine ⟨.move p1 q1 h1, v / 2 / 2 / 2 / 2, ⟨hp1, hq1, hh1⟩, ?_⟩
    simp [d, e1, e2, e3, hz]
    rfl
theorem ms_step {sigs : List Nm} (hs : 0 < sigs.length) (hs2 : sigs.length ≤ 100) {i size : Nat} (hi : i < size) (hz : size ≤ 100) (hn : n < θ.length) :
    ∃ st v', StepOk sigs i size st ∧ m__law_step A [.ref n, .int i, .int size, .lst (sigs.map nmD)] (Dz θ n v) = some (stepD st, Dz θ n v') := by
  have d1 := dig (A := A) (v := v) (k := 9) hn (by decide) (by decide)
  have r1 := modlt (a := v) (b := 9) (by decide)
  generalize v % 9 = kind at d1 r1
  generalize v / 9 = v1 at d1
  have d2 := dig (A := A) (v := v1) (k := (size : Int) - i) hn (by omega) (by omega)
  have r2 := modlt (a := v1) (b := (size : Int) - i) (by omega)
  generalize v1 % ((size : Int) - i) = ah at d2 r2
  generalize v1 / ((size : Int) - i) = v2 at d2
  have d3 := dig (A := A) (v := v2) (k := (sigs.length : Int)) hn (by omega) (by omega)
  have r3 := modlt (a := v2) (b := (sigs.length : Int)) (by omega)
  generalize v2 % (sigs.length : Int) = sg at d3 r3
  generalize v2 / (sigs.length : Int) = v3 at d3
  have d4 := dig (A := A) (v := v3) (k := 2) hn (by decide) (by decide)
  have d5 := dig (A := A) (v := v3) (k := 4) hn (by decide) (by decide)
  obtain ⟨s, hsm, es⟩ := pick nmD sigs r3.1 r3.2
  obtain ⟨q, hq, eq⟩ := pickPQ v3
  obtain ⟨h, hh, eh⟩ := pickH v3
  obtain ⟨q2, hq2, eq2⟩ := pickQP (i : Int)
  obtain ⟨m, hm⟩ : ∃ m : Nat, (i : Int) + 1 + ah = (m : Int) := ⟨((i : Int) + 1 + ah).toNat, by omega⟩
  have hm1 : i < m ∧ m ≤ size := by omega
  unfold m__law_step
  simp only [bodyM_ap]
  have kc : (kind = 0 ∨ kind = 1 ∨ kind = 2) ∨ kind = 3 ∨ kind = 4 ∨ kind = 5 ∨ kind = 6 ∨ kind = 7 ∨ kind = 8 := by omega
  rcases kc with kc | rfl | rfl | rfl | rfl | rfl | rfl
  · refine ⟨.move q, v3 / 2, hq, ?_⟩
    rcases kc with rfl | rfl | rfl <;> simp [d1, d2, d3, d4, es, eq, hm] <;> rfl
  · refine ⟨.hold h, v3 / 2, hh, ?_⟩
    simp [d1, d2, d3, d4, es, eh, hm]
    rfl
  · refine ⟨.set s (decide (0 < v3 % 4)), v3 / 4, hsm, ?_⟩
    simp [d1, d2, d3, d5, es, hm]
    rfl
  · refine ⟨.wait s (decide (0 < v3 % 4)), v3 / 4, hsm, ?_⟩
    simp [d1, d2, d3, d5, es, hm]
    rfl
  · refine ⟨.jump m, v3, hm1, ?_⟩
    simp [d1, d2, d3, es, hm]
    rfl
  · refine ⟨.iff iN m, v3, ⟨rfl, hm1⟩, ?_⟩
    simp [d1, d2, d3, es, hm]
    rfl
  · refine ⟨.move q2, v3, hq2, ?_⟩
    simp [d1, d2, d3, es, hm, eq2]
    rfl
end Pg

set_option Elab.async false
set_option linter.all false
set_option maxRecDepth 100000
set_option maxHeartbeats 4000000
namespace Pg
open PySem L2 DL
variable {A : Adr} {θ z : Sto} {n : Nat} {v w k : Int}
/-- a list of draws -/
theorem lcDraw {α : Type} {gt : FG} {fe : F} {δw : Dv} (P : Nat → α → Prop) (emb : α → D) (hn : n < θ.length) : ∀ (ks : List Nat) (acc : List α) (v : Int),
    (∀ i ∈ ks, ∀ (θ' : Sto) (v : Int), n < θ'.length → ∃ δ1 y v', gt (natD i) δw (Dz θ' n v) = some (δ1, Dz θ' n v) ∧ fe δ1 (Dz θ' n v) = some (emb y, Dz θ' n v') ∧ P i y) → acc.length + ks.length ≤ 1000 →
    ∃ (ys : List α) (v' : Int), lcF gt tTrue fe δw θ.length (ks.map natD) (Dz θ n v ++ [.lst (acc.map emb)]) = some (Dz θ n v' ++ [.lst ((acc ++ ys).map emb)]) ∧ ys.length = ks.length ∧ ∀ (j : Nat) y, ys[j]? = some y → ∃ i, ks[j]? = some i ∧ P i y
  | [], acc, v, _, _ => ⟨[], v, by simp [lcF], rfl, fun j y h => by simp at h⟩
  | i :: ks, acc, v, h, hl => by
    simp only [List.length_cons] at hl
    have hn2 : n < (θ ++ [Cell.lst (acc.map emb)]).length := by simp; omega
    obtain ⟨δ1, y, v1, e1, e2, hy⟩ := h i (List.mem_cons_self ..) (θ ++ [Cell.lst (acc.map emb)]) v hn2
    obtain ⟨ys, v', e3, e4, e5⟩ := lcDraw P emb hn ks (acc ++ [y]) v1 (fun j hj => h j (List.mem_cons_of_mem _ hj)) (by simp; omega)
    refine ⟨y :: ys, v', ?_, by simp [e4], fun j x hx => ?_⟩
    · rw [List.map_cons]
      unfold lcF
      rw [← dz_app hn] at e1 e2
      rw [← dz_app hn] at e2
      rw [e1]
      simp only [tTrue]
      rw [e2]
      have g1 : (Dz θ n v1 ++ [Cell.lst (acc.map emb)])[θ.length]? = some (.lst (acc.map emb)) := by
        have : θ.length = (Dz θ n v1).length := dz_len.symm
        rw [this]; exact getElem?_app_len
      have g2 : (Dz θ n v1 ++ [Cell.lst (acc.map emb)]).set θ.length (.lst (acc.map emb ++ [emb y])) = Dz θ n v1 ++ [Cell.lst ((acc ++ [y]).map emb)] := by
        have : θ.length = (Dz θ n v1).length := dz_len.symm
        rw [this, List.map_append]; exact set_app_len
      simp only [g1, g2, List.length_map]
      rw [if_pos (by omega)]
      rw [e3]
      simp
    · cases j with
      | zero => simp at hx; subst hx; exact ⟨i, rfl, hy⟩
      | succ j => simp at hx ⊢; exact e5 j x hx
/-- frozen -/
theorem cutDraw {α : Type} {fi : FA} {gt : FG} {fe : F} {vs : List Nat} {δ : Dv} (P : Nat → α → Prop) (emb : α → D) (hemb : ∀ (L : Nat) (a : α), below L (emb a) = true) (hn : n < θ.length) (ks : List Nat) (hk : ks.length ≤ 1000) (h1 : fi δ (Dz θ n v) = some (ks.map natD, Dz θ n v))
    (h : ∀ i ∈ ks, ∀ (θ' : Sto) (v : Int), n < θ'.length → ∃ δ1 y v', gt (natD i) (wipeD δ vs) (Dz θ' n v) = some (δ1, Dz θ' n v) ∧ fe δ1 (Dz θ' n v) = some (emb y, Dz θ' n v') ∧ P i y) :
    ∃ (ys : List α) (v' : Int), fCut (fLCM fi gt tTrue fe vs) δ (Dz θ n v) = some (.lst (ys.map emb), Dz θ n v') ∧ ys.length = ks.length ∧ ∀ (j : Nat) y, ys[j]? = some y → ∃ i, ks[j]? = some i ∧ P i y := by
  obtain ⟨ys, v', e1, e2, e3⟩ := lcDraw (gt := gt) (fe := fe) (δw := wipeD δ vs) P emb hn ks [] v h (by simpa using hk)
  refine ⟨ys, v', ?_, e2, e3⟩
  refine fCut_lc h1 (θ2 := Dz θ n v') ?_ (by rw [dz_len, dz_len]) (belows_map _ _ (hemb _) _) fun m c hc => ?_
  · rw [dz_len]; exact e1
  · by_cases hm : m = n
    · subst hm
      rw [dz_get hn] at hc
      cases hc
      exact .inr rfl
    · left
      unfold Dz at hc ⊢
      rw [List.getElem?_set_ne (Ne.symm hm)] at hc
      rw [List.getElem?_set_ne (Ne.symm hm)]; exact hc
theorem R62_nat' {m : Nat} (h : m ≤ 1000000) : R62 (m : Int) := R62_nat h
/-- the steps of an arm -/
theorem steps_cut {sigs : List Nm} (hs : 0 < sigs.length) (hs2 : sigs.length ≤ 100) {size : Nat} (hz : size ≤ 100) (hn : n < θ.length) (x1 x2 x4 x5 x7 x8 x9 x10 x11 x12 : Option D) :
    ∃ (f : Flow) (v' : Int), fCut (fLCM (iRange1 (aCons (fVar 6) aNil)) (gNm 12) tTrue (fCall (m__law_step A) (aCons (fVar 0) (aCons (fVar 12) (aCons (fVar 6) (aCons (fVar 3) aNil))))) [12])
      [some (.ref n), x1, x2, some (.lst (sigs.map nmD)), x4, x5, some (.int size), x7, x8, x9, x10, x11, x12] (Dz θ n v) = some (flowD f, Dz θ n v') ∧ f.length = size ∧ ∀ (j : Nat) st, f[j]? = some st → StepOk sigs j size st := by
  have hr : R62 (size : Int) := R62_nat (by omega)
  have hst : ∀ (L : Nat) (st : Step), below L (stepD st) = true := fun L st => by cases st <;> simp [stepD, below, belows, below_nm, below_held]
  obtain ⟨f, v', e1, e2, e3⟩ := cutDraw (θ := θ) (n := n) (v := v) (fi := iRange1 (aCons (fVar 6) aNil)) (gt := gNm 12) (fe := fCall (m__law_step A) (aCons (fVar 0) (aCons (fVar 12) (aCons (fVar 6) (aCons (fVar 3) aNil))))) (vs := [12])
    (δ := [some (.ref n), x1, x2, some (.lst (sigs.map nmD)), x4, x5, some (.int size), x7, x8, x9, x10, x11, x12]) (fun i st => StepOk sigs i size st) stepD hst hn (List.range size) (by simp; omega) (by simp [hr, rngD_0]) fun i hi θ' v hn' => by
      have hi' := List.mem_range.mp hi
      obtain ⟨st, v', h1, h2⟩ := ms_step (A := A) (θ := θ') (n := n) (v := v) hs hs2 hi' hz hn'
      refine ⟨[some (.ref n), x1, x2, some (.lst (sigs.map nmD)), x4, x5, some (.int size), x7, x8, x9, x10, x11, some (natD i)], st, v', rfl, ?_, h1⟩
      simp [natD, h2]
  refine ⟨f, v', e1, by simpa using e2, fun j st hst => ?_⟩
  obtain ⟨i, hi, h⟩ := e3 j st hst
  obtain ⟨hlt, hi⟩ := List.getElem?_eq_some_iff.mp hi
  rw [List.getElem_range] at hi
  subst hi; exact h
/-- the starting points -/
theorem starts_cut {arms : Nat} (hz : arms ≤ 100) (hn : n < θ.length) (x2 x3 x4 x5 x6 x7 x8 x9 x10 x11 x12 : Option D) :
    ∃ (ss : List Nm) (v' : Int), fCut (fLCM (iRange1 (aCons (fVar 1) aNil)) (gNm 5) tTrue (fOp gIx (fLst (aCons (fC (.str "p")) (aCons (fC (.str "q")) aNil))) (fCall (m__law_digit A) (aCons (fVar 0) (aCons (fC (.int 2)) aNil)))) [5])
      [some (.ref n), some (.int arms), x2, x3, x4, x5, x6, x7, x8, x9, x10, x11, x12] (Dz θ n v) = some (.lst (ss.map nmD), Dz θ n v') ∧ ss.length = arms ∧ ∀ q ∈ ss, q = pN ∨ q = qN := by
  have hr : R62 (arms : Int) := R62_nat (by omega)
  obtain ⟨f, v', e1, e2, e3⟩ := cutDraw (θ := θ) (n := n) (v := v) (fi := iRange1 (aCons (fVar 1) aNil)) (gt := gNm 5) (fe := fOp gIx (fLst (aCons (fC (.str "p")) (aCons (fC (.str "q")) aNil))) (fCall (m__law_digit A) (aCons (fVar 0) (aCons (fC (.int 2)) aNil)))) (vs := [5])
    (δ := [some (.ref n), some (.int arms), x2, x3, x4, x5, x6, x7, x8, x9, x10, x11, x12]) (fun _ q => q = pN ∨ q = qN) nmD below_nm hn (List.range arms) (by simp; omega) (by simp [hr, rngD_0]) fun i hi θ' v hn' => by
      have d := dig (A := A) (θ := θ') (n := n) (v := v) (k := 2) hn' (by decide) (by decide)
      obtain ⟨q, hq, e⟩ := pickPQ v
      refine ⟨[some (.ref n), some (.int arms), x2, x3, x4, some (natD i), x6, x7, x8, x9, x10, x11, x12], q, v / 2, rfl, ?_, hq⟩
      simp [d, e]
  refine ⟨f, v', e1, by simpa using e2, fun q hq => ?_⟩
  obtain ⟨j, hj⟩ := List.mem_iff_getElem?.mp hq
  obtain ⟨i, _, h⟩ := e3 j q hj
  exact h
end Pg

set_option Elab.async false
set_option linter.all false
set_option maxRecDepth 100000
set_option maxHeartbeats 4000000
namespace Pg
open PySem L2 DL
variable {A : Adr} {θ z : Sto} {n : Nat} {v w k : Int}
theorem dz_last {c : Cell} : (Dz θ n v ++ c :: z)[θ.length]? = some c := by
  have : θ.length = (Dz θ n v).length := dz_len.symm
  rw [this]; exact getElem?_app_len
theorem dz_setlast {c d : Cell} : (Dz θ n v ++ c :: z).set θ.length d = Dz θ n v ++ d :: z := by
  have : θ.length = (Dz θ n v).length := dz_len.symm
  rw [this]; exact set_app_len
theorem dig' (hn : n < θ.length) (h : 0 < k) (h2 : k < 1073741824) : m__law_digit A [.ref n, .int k] (Dz θ n v ++ z) = some (.int (v % k), Dz θ n (v / k) ++ z) := by
  rw [dz_app hn, dz_app hn]
  exact dig (by simp; omega) h h2
/-- the flows -/
def FlowOk (sigs : List Nm) (most : Nat) (f : Flow) : Prop := f.length ≤ most ∧ ∀ (j : Nat) st, f[j]? = some st → StepOk sigs j f.length st
noncomputable def bF (A : Adr) : FS := (sSeq (sAsg (fOp gSub (fVar 2) (fOp gMod (fCall (m__law_digit A) (aCons (fVar 0) (aCons (fOp gAdd (fVar 2) (fC (.int 1))) aNil))) (fC (.int 3)))) (gNm 6))
      (sExpr (fAppend (fVar 4) (fCut (fLCM (iRange1 (aCons (fVar 6) aNil)) (gNm 12) tTrue (fCall (m__law_step A) (aCons (fVar 0) (aCons (fVar 12) (aCons (fVar 6) (aCons (fVar 3) aNil))))) [12])))))
theorem for_flows {sigs : List Nm} (hs : 0 < sigs.length) (hs2 : sigs.length ≤ 100) {most : Nat} (hm : most ≤ 100) (hn : n < θ.length) (x1 x7 x8 x9 x10 x11 x12 : Option D) : ∀ (ks : List Nat) (acc : List Flow) (v : Int) (x5 x6 : Option D), acc.length + ks.length ≤ 1000 →
    ∃ (fs : List Flow) (v' : Int) (x5' x6' : Option D), forF (gNm 5) (bF A) (ks.map natD) [some (.ref n), x1, some (.int most), some (.lst (sigs.map nmD)), some (.ref θ.length), x5, x6, x7, x8, x9, x10, x11, x12] (Dz θ n v ++ [.lst (acc.map flowD)]) =
      some (.nx [some (.ref n), x1, some (.int most), some (.lst (sigs.map nmD)), some (.ref θ.length), x5', x6', x7, x8, x9, x10, x11, x12] (Dz θ n v' ++ [.lst ((acc ++ fs).map flowD)])) ∧ fs.length = ks.length ∧ ∀ f ∈ fs, FlowOk sigs most f
  | [], acc, v, x5, x6, _ => ⟨[], v, x5, x6, by simp, rfl, fun f h => by simp at h⟩
  | i :: ks, acc, v, x5, x6, hl => by
    simp only [List.length_cons] at hl
    have d := dig' (A := A) (v := v) (z := [.lst (acc.map flowD)]) (k := (most : Int) + 1) hn (by omega) (by omega)
    have r := modlt (a := v) (b := (most : Int) + 1) (by omega)
    generalize v % ((most : Int) + 1) = g at d r
    generalize v / ((most : Int) + 1) = v1 at d
    have r3 := modlt (a := g) (b := 3) (by decide)
    obtain ⟨sz, hsz⟩ : ∃ sz : Nat, (most : Int) - g % 3 = (sz : Int) := ⟨((most : Int) - g % 3).toNat, by omega⟩
    have hsz2 : sz ≤ most := by omega
    have hn2 : n < (θ ++ [Cell.lst (acc.map flowD)]).length := by simp; omega
    obtain ⟨f, v2, e1, e2, e3⟩ := steps_cut (A := A) (v := v1) hs hs2 (size := sz) (by omega) hn2 x1 (some (.int most)) (some (.ref θ.length)) (some (natD i)) x7 x8 x9 x10 x11 x12
    rw [← dz_app hn, ← dz_app hn] at e1
    obtain ⟨fs, v', x5', x6', e4, e5, e6⟩ := for_flows hs hs2 hm hn x1 x7 x8 x9 x10 x11 x12 ks (acc ++ [f]) v2 (some (natD i)) (some (.int sz)) (by simp; omega)
    refine ⟨f :: fs, v', x5', x6', ?_, by simp [e5], fun x hx => ?_⟩
    · have hl2 : acc.length < 100000 := by omega
      rw [List.map_cons, forF_cons]
      have e : bF A [some (.ref n), x1, some (.int most), some (.lst (sigs.map nmD)), some (.ref θ.length), some (natD i), x6, x7, x8, x9, x10, x11, x12] (Dz θ n v ++ [.lst (acc.map flowD)]) = some (.nx [some (.ref n), x1, some (.int most), some (.lst (sigs.map nmD)), some (.ref θ.length), some (natD i), some (.int sz), x7, x8, x9, x10, x11, x12] (Dz θ n v2 ++ [.lst ((acc ++ [f]).map flowD)])) := by
        unfold bF
        simp [d, hsz, fAppend_ap, dz_last]
        simp only [e1]
        simp [dz_last, dz_setlast, hl2]
      simp only [gNm_ap, List.set_cons_succ, List.set_cons_zero]
      rw [e]
      simp only
      rw [e4]
      simp
    · rcases List.mem_cons.mp hx with rfl | hx
      · exact ⟨by omega, by rw [e2]; exact e3⟩
      · exact e6 x hx
/-- the blocked pairs -/
def QuadOk (arms : Nat) (b : Quad) : Prop := b.1 < arms ∧ b.2.2.1 < arms ∧ b.1 ≠ b.2.2.1 ∧ PlaceOk b.2.1 ∧ PlaceOk b.2.2.2
noncomputable def bQ (A : Adr) : FS := (sSeq (sAsg (fCall (m__law_digit A) (aCons (fVar 0) (aCons (fVar 1) aNil))) (gNm 5))
      (sSeq (sAsg (fCall (m__law_digit A) (aCons (fVar 0) (aCons (fVar 1) aNil))) (gNm 10))
      (sSeq (sAsg (fCall (m__law_place A) (aCons (fVar 0) aNil)) (gNm 11))
      (sIf (tBf (fOp gNe (fVar 5) (fVar 10)))
      (sExpr (fAppend (fVar 8) (fTup (aCons (fVar 5) (aCons (fVar 11) (aCons (fVar 10) (aCons (fCall (m__law_place A) (aCons (fVar 0) aNil)) aNil)))))))
      sNx))))
theorem ms_place' (hn : n < θ.length) : ∃ pl v', PlaceOk pl ∧ m__law_place A [.ref n] (Dz θ n v ++ z) = some (placeD pl, Dz θ n v' ++ z) := by
  have hn2 : n < (θ ++ z).length := by simp; omega
  obtain ⟨pl, v', h1, h2⟩ := ms_place (A := A) (v := v) hn2
  exact ⟨pl, v', h1, by rw [dz_app hn, dz_app hn]; exact h2⟩
theorem for_quads {arms : Nat} (ha : 0 < arms) (ha2 : arms ≤ 100) (hn : n < θ.length) (x2 x3 x4 x6 x7 x12 : Option D) : ∀ (ks : List Nat) (acc : List Quad) (v : Int) (x5 x9 x10 x11 : Option D), acc.length + ks.length ≤ 1000 →
    ∃ (bs : List Quad) (v' : Int) (x5' x9' x10' x11' : Option D), forF (gNm 9) (bQ A) (ks.map natD) [some (.ref n), some (.int arms), x2, x3, x4, x5, x6, x7, some (.ref θ.length), x9, x10, x11, x12] (Dz θ n v ++ [.lst (acc.map quadD)]) =
      some (.nx [some (.ref n), some (.int arms), x2, x3, x4, x5', x6, x7, some (.ref θ.length), x9', x10', x11', x12] (Dz θ n v' ++ [.lst ((acc ++ bs).map quadD)])) ∧ bs.length ≤ ks.length ∧ ∀ b ∈ bs, QuadOk arms b
  | [], acc, v, x5, x9, x10, x11, _ => ⟨[], v, x5, x9, x10, x11, by simp, Nat.le_refl _, fun f h => by simp at h⟩
  | i :: ks, acc, v, x5, x9, x10, x11, hl => by
    simp only [List.length_cons] at hl
    have d1 := dig' (A := A) (v := v) (z := [.lst (acc.map quadD)]) (k := (arms : Int)) hn (by omega) (by omega)
    have r1 := modlt (a := v) (b := (arms : Int)) (by omega)
    generalize v % (arms : Int) = g1 at d1 r1
    generalize v / (arms : Int) = v1 at d1
    have d2 := dig' (A := A) (v := v1) (z := [.lst (acc.map quadD)]) (k := (arms : Int)) hn (by omega) (by omega)
    have r2 := modlt (a := v1) (b := (arms : Int)) (by omega)
    generalize v1 % (arms : Int) = g2 at d2 r2
    generalize v1 / (arms : Int) = v2 at d2
    obtain ⟨a, rfl⟩ : ∃ a : Nat, g1 = (a : Int) := ⟨g1.toNat, by omega⟩
    obtain ⟨b, rfl⟩ : ∃ b : Nat, g2 = (b : Int) := ⟨g2.toNat, by omega⟩
    obtain ⟨pl, v3, hp, e1⟩ := ms_place' (A := A) (v := v2) (z := [.lst (acc.map quadD)]) hn
    obtain ⟨pl2, v4, hp2, e2⟩ := ms_place' (A := A) (v := v3) (z := [.lst (acc.map quadD)]) hn
    have hl2 : acc.length < 100000 := by omega
    rw [List.map_cons]
    by_cases hab : a = b
    · obtain ⟨bs, v', y1, y2, y3, y4, e4, e5, e6⟩ := for_quads ha ha2 hn x2 x3 x4 x6 x7 x12 ks acc v3 (some (.int a)) (some (natD i)) (some (.int b)) (some (placeD pl)) (by omega)
      refine ⟨bs, v', y1, y2, y3, y4, ?_, by simp; omega, e6⟩
      rw [forF_cons]
      have e : bQ A [some (.ref n), some (.int arms), x2, x3, x4, x5, x6, x7, some (.ref θ.length), some (natD i), x10, x11, x12] (Dz θ n v ++ [.lst (acc.map quadD)]) = some (.nx [some (.ref n), some (.int arms), x2, x3, x4, some (.int a), x6, x7, some (.ref θ.length), some (natD i), some (.int b), some (placeD pl), x12] (Dz θ n v3 ++ [.lst (acc.map quadD)])) := by
        unfold bQ
        simp [d1, d2, e1, hab]
      simp only [gNm_ap, List.set_cons_succ, List.set_cons_zero]
      rw [e]
      exact e4
    · have hab' : ¬ (a : Int) = (b : Int) := by omega
      obtain ⟨bs, v', y1, y2, y3, y4, e4, e5, e6⟩ := for_quads ha ha2 hn x2 x3 x4 x6 x7 x12 ks (acc ++ [(a, pl, b, pl2)]) v4 (some (.int a)) (some (natD i)) (some (.int b)) (some (placeD pl)) (by simp; omega)
      refine ⟨(a, pl, b, pl2) :: bs, v', y1, y2, y3, y4, ?_, by simp; omega, fun x hx => ?_⟩
      · rw [forF_cons]
        have e : bQ A [some (.ref n), some (.int arms), x2, x3, x4, x5, x6, x7, some (.ref θ.length), some (natD i), x10, x11, x12] (Dz θ n v ++ [.lst (acc.map quadD)]) = some (.nx [some (.ref n), some (.int arms), x2, x3, x4, some (.int a), x6, x7, some (.ref θ.length), some (natD i), some (.int b), some (placeD pl), x12] (Dz θ n v4 ++ [.lst ((acc ++ [(a, pl, b, pl2)]).map quadD)])) := by
          unfold bQ
          simp [d1, d2, e1, e2, hab, hab', fAppend_ap, dz_last, dz_setlast, hl2, quadD]
        simp only [gNm_ap, List.set_cons_succ, List.set_cons_zero]
        rw [e]
        simp only
        rw [e4]
        simp
      · rcases List.mem_cons.mp hx with rfl | hx
        · exact ⟨(by omega : a < arms), (by omega : b < arms), hab, hp, hp2⟩
        · exact e6 x hx
end Pg

set_option Elab.async false
set_option linter.all false
set_option maxRecDepth 100000
set_option maxHeartbeats 4000000
namespace Pg
open PySem L2 DL
variable {A : Adr} {θ z : Sto} {n : Nat} {v w k : Int}
/-- what a plan is drawn to be -/
structure Drawn (fs : List Flow) (ss : List Nm) (bs : List Quad) : Prop where
  size : ∃ most : Nat, ((fs.length = 1 ∧ most = 8) ∨ (fs.length = 2 ∧ most = 5) ∨ (fs.length = 3 ∧ most = 2) ∨ (fs.length = 4 ∧ most = 1)) ∧ ∀ f ∈ fs, FlowOk [sN, tN] most f
  st : ss.length = fs.length
  pts : ∀ q ∈ ss, q = pN ∨ q = qN
  few : bs.length ≤ 8
  quads : ∀ b ∈ bs, QuadOk fs.length b
theorem FlowOk.mono {most : Nat} {f : Flow} (h : FlowOk [sN] most f) : FlowOk [sN, tN] most f := by
  refine ⟨h.1, fun j st hj => ?_⟩
  have := h.2 j st hj
  cases st <;> simp [StepOk] at this ⊢ <;> first | exact this | exact .inl this
theorem app2_get {c d : Cell} : (Dz θ n v ++ [c, d])[θ.length + 1]? = some d := by
  have : θ.length = (Dz θ n v).length := dz_len.symm
  rw [this]; exact app_len1
theorem rng_nat {r : Int} (h : 0 ≤ r) : rngD 0 r.toNat = (List.range r.toNat).map natD := rngD_0 _
noncomputable def lpR (A : Adr) : FS := (sSeq (sAsg (fLstM aNil) (gNm 4))
      (sSeq (sFor (iRange1 (aCons (fVar 1) aNil)) (gNm 5) (bF A))
      (sSeq (sAsg (fCut (fLCM (iRange1 (aCons (fVar 1) aNil)) (gNm 5) tTrue (fOp gIx (fLst (aCons (fC (.str "p")) (aCons (fC (.str "q")) aNil))) (fCall (m__law_digit A) (aCons (fVar 0) (aCons (fC (.int 2)) aNil)))) [5])) (gNm 7))
      (sSeq (sAsg (fLstM aNil) (gNm 8))
      (sSeq (sFor (iRange1 (aCons (fCall (m__law_digit A) (aCons (fVar 0) (aCons (fC (.int 9)) aNil))) aNil)) (gNm 9) (bQ A))
      (sRet (fTup (aCons (fVar 4) (aCons (fVar 7) (aCons (fVar 8) aNil)))))))))) 
theorem law_plan_is : m__law_plan A = mCut (bodyM 13 ((sSeq (sAsg (fOp gIx (fLst (aCons (fC (.int 2)) (aCons (fC (.int 3)) (aCons (fC (.int 2)) (aCons (fC (.int 1)) (aCons (fC (.int 2)) (aCons (fC (.int 3)) (aCons (fC (.int 4)) aNil)))))))) (fCall (m__law_digit A) (aCons (fVar 0) (aCons (fC (.int 7)) aNil)))) (gNm 1))
      (sSeq (sAsg (fOp gIx (fLst (aCons (fC (.int 0)) (aCons (fC (.int 8)) (aCons (fC (.int 5)) (aCons (fC (.int 2)) (aCons (fC (.int 1)) aNil)))))) (fVar 1)) (gNm 2))
      (sSeq (sAsg (fLst (aCons (fC (.str "s")) (aCons (fC (.str "t")) aNil))) (gNm 3))
      (sSeq (sIf (tBf (fOp gGt (fVar 1) (fC (.int 2))))
      (sAsg (fLst (aCons (fC (.str "s")) aNil)) (gNm 3))
      sNx)
      (lpR A))))))) := rfl
theorem ms_law_plan (hn : n < θ.length) : ∃ fs ss bs v', Drawn fs ss bs ∧
    m__law_plan A [.ref n] (Dz θ n v) = some (.tup [.lst (fs.map flowD), .lst (ss.map nmD), .lst (bs.map quadD)], Dz θ n v') := by
  have d1 := dig (A := A) (v := v) (k := 7) hn (by decide) (by decide)
  have r1 := modlt (a := v) (b := 7) (by decide)
  generalize v % 7 = g1 at d1 r1
  generalize hv1 : v / 7 = v1 at d1
  have rest : ∀ (arms most : Nat) (sigs : List Nm), ((arms = 1 ∧ most = 8) ∨ (arms = 2 ∧ most = 5) ∨ (arms = 3 ∧ most = 2) ∨ (arms = 4 ∧ most = 1)) → (sigs = [sN, tN] ∨ sigs = [sN]) →
      ∃ fs ss bs v', Drawn fs ss bs ∧ fs.length = arms ∧ ∃ δ', lpR A [some (.ref n), some (.int arms), some (.int most), some (.lst (sigs.map nmD)), none, none, none, none, none, none, none, none, none] (Dz θ n v1) =
        some (.ret (.tup [.ref θ.length, .lst (ss.map nmD), .ref (θ.length + 1)]) δ') ∧ δ' = Dz θ n v' ++ [.lst (fs.map flowD), .lst (bs.map quadD)] := fun arms most sigs hsz hsg => by
    have hs : 0 < sigs.length ∧ sigs.length ≤ 100 := by rcases hsg with rfl | rfl <;> decide
    have ha : 0 < arms ∧ arms ≤ 4 ∧ most ≤ 8 := by omega
    have hr : R62 (arms : Int) := R62_nat (by omega)
    obtain ⟨fs, v2, x5, x6, e1, e2, e3⟩ := for_flows (A := A) hs.1 hs.2 (most := most) (by omega) hn (some (.int arms)) none none none none none none (List.range arms) [] v1 none none (by simp; omega)
    have hn2 : n < (θ ++ [Cell.lst (fs.map flowD)]).length := by simp; omega
    obtain ⟨ss, v3, e4, e5, e6⟩ := starts_cut (A := A) (v := v2) (arms := arms) (by omega) hn2 (some (.int most)) (some (.lst (sigs.map nmD))) (some (.ref θ.length)) x5 x6 none none none none none none
    rw [← dz_app hn, ← dz_app hn] at e4
    have d2 := dig' (A := A) (v := v3) (z := [.lst (fs.map flowD), .lst []]) (k := 9) hn (by decide) (by decide)
    have r2 := modlt (a := v3) (b := 9) (by decide)
    generalize v3 % 9 = g at d2 r2
    generalize v3 / 9 = v4 at d2
    have hr2 : R62 g := R62_of r2.1 (by omega)
    obtain ⟨bs, v5, y1, y2, y3, y4, e7, e8, e9⟩ := for_quads (A := A) (arms := arms) ha.1 (by omega) hn2 (some (.int most)) (some (.lst (sigs.map nmD))) (some (.ref θ.length)) x6 (some (.lst (ss.map nmD))) none (List.range g.toNat) [] v4 x5 none none none (by simp; omega)
    rw [← dz_app hn, ← dz_app hn] at e7
    refine ⟨fs, ss, bs, v5, ⟨⟨most, by rw [e2, List.length_range]; exact hsz, fun f hf => ?_⟩, by rw [e5, e2, List.length_range], e6, by rw [List.length_range] at e8; omega, by rw [e2, List.length_range]; exact e9⟩, by rw [e2, List.length_range], _, ?_, rfl⟩
    · have := e3 f hf
      rcases hsg with rfl | rfl
      · exact this
      · exact this.mono
    · have hl : (Dz θ n v1).length = θ.length := dz_len
      have hl2 : (Dz θ n v3).length = θ.length := dz_len
      simp only [List.map_nil, List.nil_append] at e1 e7
      unfold lpR
      simp only [sSeq_ap, sAsg_ap, sFor_ap]
      simp [hr, rngD_0, hl]
      simp only [e1]
      simp only [e4]
      simp [hl2, d2, hr2, rngD_0]
      simp at e7
      simp [e7]
  have fin : ∀ (fs : List Flow) (ss : List Nm) (bs : List Quad) (v' : Int), cutR (Dz θ n v) (some (.tup [.ref θ.length, .lst (ss.map nmD), .ref (θ.length + 1)], Dz θ n v' ++ [.lst (fs.map flowD), .lst (bs.map quadD)])) = some (.tup [.lst (fs.map flowD), .lst (ss.map nmD), .lst (bs.map quadD)], Dz θ n v') := fun fs ss bs v' => by
    have hl : (Dz θ n v).length = θ.length := dz_len
    have g1 : (Dz θ n v' ++ [Cell.lst (fs.map flowD), Cell.lst (bs.map quadD)])[θ.length]? = some (.lst (fs.map flowD)) := dz_last
    have g2 : (Dz θ n v' ++ [Cell.lst (fs.map flowD), Cell.lst (bs.map quadD)])[θ.length + 1]? = some (.lst (bs.map quadD)) := app2_get
    have ok : OkCut (Dz θ n v) (Dz θ n v' ++ [Cell.lst (fs.map flowD), Cell.lst (bs.map quadD)]) := by
      refine ⟨by simp [dz_len], fun m c hm hc => ?_⟩
      rw [List.getElem?_append_left (by rw [dz_len]; rw [dz_len] at hm; exact hm)] at hc
      by_cases hmn : m = n
      · subst hmn
        rw [dz_get hn] at hc
        cases hc
        exact .inr rfl
      · left
        unfold Dz at hc ⊢
        rw [List.getElem?_set_ne (Ne.symm hmn)] at hc
        rw [List.getElem?_set_ne (Ne.symm hmn)]; exact hc
    have tk : (Dz θ n v' ++ [Cell.lst (fs.map flowD), Cell.lst (bs.map quadD)]).take θ.length = Dz θ n v' := List.take_left' (by rw [dz_len])
    generalize (Dz θ n v' ++ [Cell.lst (fs.map flowD), Cell.lst (bs.map quadD)]) = θ2 at g1 g2 ok tk ⊢
    have f1 : frz θ2 θ.length 8 (.ref θ.length) = some (.lst (fs.map flowD)) := by
      unfold frz
      rw [if_neg (by simp [below])]
      simp only [g1]
      rw [mapO_below (belows_map _ _ (below_flow _) _)]
      rfl
    have f3 : frz θ2 θ.length 8 (.ref (θ.length + 1)) = some (.lst (bs.map quadD)) := by
      unfold frz
      rw [if_neg (by simp [below])]
      simp only [g2]
      rw [mapO_below (belows_map _ _ (below_quad _) _)]
      rfl
    have f2 : frz θ2 θ.length 8 (.lst (ss.map nmD)) = some (.lst (ss.map nmD)) := by
      unfold frz
      rw [if_pos (by simp [below, belows_map _ _ (below_nm _)])]
    have e : frz θ2 θ.length 9 (.tup [.ref θ.length, .lst (ss.map nmD), .ref (θ.length + 1)]) = some (.tup [.lst (fs.map flowD), .lst (ss.map nmD), .lst (bs.map quadD)]) := by
      unfold frz
      rw [if_neg (by simp [below, belows])]
      simp only [mapO, f1, f2, f3]
      rfl
    simp only [cutR, hl, e]
    rw [if_pos ok, tk]
  have split : ∀ (arms most : Nat) (sigs : List Nm), ((arms = 1 ∧ most = 8) ∨ (arms = 2 ∧ most = 5) ∨ (arms = 3 ∧ most = 2) ∨ (arms = 4 ∧ most = 1)) → (sigs = if 2 < arms then [sN] else [sN, tN]) →
      atI [D.int 2, .int 3, .int 2, .int 1, .int 2, .int 3, .int 4] g1 = some (.int arms) →
      ∃ fs ss bs v', Drawn fs ss bs ∧ m__law_plan A [.ref n] (Dz θ n v) = some (.tup [.lst (fs.map flowD), .lst (ss.map nmD), .lst (bs.map quadD)], Dz θ n v') := fun arms most sigs hsz hsg ha => by
    obtain ⟨fs, ss, bs, v', hd, _, δ', e1, rfl⟩ := rest arms most sigs hsz (by rw [hsg]; split <;> simp)
    refine ⟨fs, ss, bs, v', hd, ?_⟩
    have hm : atI [D.int 0, .int 8, .int 5, .int 2, .int 1] (arms : Int) = some (.int most) := by
      rcases hsz with ⟨rfl, rfl⟩ | ⟨rfl, rfl⟩ | ⟨rfl, rfl⟩ | ⟨rfl, rfl⟩ <;> rfl
    have hsig : ∀ θ : Sto, (.lst (sigs.map nmD) : D) = if 2 < arms then .lst [.str "s"] else .lst [.str "s", .str "t"] := fun θ => by
      rw [hsg]; split <;> rfl
    rw [← fin fs ss bs v']
    rw [law_plan_is]
    unfold mCut
    congr 1
    simp only [bodyM_ap]
    rw [hsig θ] at e1
    by_cases h2 : 2 < arms
    · rw [if_pos h2] at e1
      have c1 : ((2 : Int) < (arms : Int)) := by omega
      simp [d1, ha, hm, c1, e1]
    · rw [if_neg h2] at e1
      have c1 : ¬ ((2 : Int) < (arms : Int)) := by omega
      simp [d1, ha, hm, c1, e1]
  have hc : g1 = 0 ∨ g1 = 1 ∨ g1 = 2 ∨ g1 = 3 ∨ g1 = 4 ∨ g1 = 5 ∨ g1 = 6 := by omega
  rcases hc with rfl | rfl | rfl | rfl | rfl | rfl | rfl
  · exact split 2 5 _ (by simp) rfl rfl
  · exact split 3 2 _ (by simp) rfl rfl
  · exact split 2 5 _ (by simp) rfl rfl
  · exact split 1 8 _ (by simp) rfl rfl
  · exact split 2 5 _ (by simp) rfl rfl
  · exact split 3 2 _ (by simp) rfl rfl
  · exact split 4 1 _ (by simp) rfl rfl
end Pg

set_option Elab.async false
set_option linter.all false
set_option maxRecDepth 100000
set_option maxHeartbeats 4000000
namespace Pg
open PySem L2 DL
variable {p : PlanM} {s t : State}
/-! ### few states -/
def SpotIn (f : Flow) (sp : Spot) : Prop := sp.at_ ≤ f.length ∧ (sp.point = pN ∨ sp.point = qN) ∧ (sp.held = none ∨ sp.held = some xN)
def spotsL (f : Flow) : List Spot := (List.range (f.length + 1)).flatMap fun i => [⟨i, pN, none⟩, ⟨i, pN, some xN⟩, ⟨i, qN, none⟩, ⟨i, qN, some xN⟩]
def allSpots : List Flow → List (List Spot)
  | [] => [[]]
  | f :: fs => (spotsL f).flatMap fun sp => (allSpots fs).map (sp :: ·)
theorem flatMap_len {α β : Type} (g : α → List β) (b : Nat) : ∀ xs : List α, (∀ x ∈ xs, (g x).length = b) → (xs.flatMap g).length = xs.length * b
  | [], _ => by simp
  | x :: xs, h => by
    rw [List.flatMap_cons, List.length_append, h x (List.mem_cons_self ..), flatMap_len g b xs fun y hy => h y (List.mem_cons_of_mem _ hy), List.length_cons, Nat.succ_mul]
    omega
theorem spotsL_len (f : Flow) : (spotsL f).length = (f.length + 1) * 4 := by
  unfold spotsL
  rw [flatMap_len _ 4 _ fun _ _ => rfl, List.length_range]
theorem mem_spotsL {f : Flow} {sp : Spot} (h : SpotIn f sp) : sp ∈ spotsL f := by
  refine List.mem_flatMap.mpr ⟨sp.at_, List.mem_range.mpr (by have := h.1; omega), ?_⟩
  obtain ⟨_, h1 | h1, h2 | h2⟩ := h <;> cases sp <;> simp at h1 h2 ⊢ <;> simp [h1, h2]
theorem allSpots_len {m : Nat} : ∀ fs : List Flow, (∀ f ∈ fs, f.length ≤ m) → (allSpots fs).length ≤ ((m + 1) * 4) ^ fs.length
  | [], _ => by simp [allSpots]
  | f :: fs, h => by
    have ih := allSpots_len fs fun g hg => h g (List.mem_cons_of_mem _ hg)
    have h1 := h f (List.mem_cons_self ..)
    unfold allSpots
    rw [flatMap_len _ (allSpots fs).length _ fun x _ => by simp, spotsL_len, List.length_cons, Nat.pow_succ, Nat.mul_comm (((m + 1) * 4) ^ fs.length)]
    exact Nat.mul_le_mul (by omega) ih
theorem mem_allSpots : ∀ (fs : List Flow) (sps : List Spot), sps.length = fs.length → (∀ (a : Nat) sp f, sps[a]? = some sp → fs[a]? = some f → SpotIn f sp) → sps ∈ allSpots fs
  | [], sps, hl, _ => by
    have : sps = [] := List.length_eq_zero_iff.mp hl
    subst this
    simp [allSpots]
  | f :: fs, [], hl, _ => by simp at hl
  | f :: fs, sp :: sps, hl, h => by
    have ih := mem_allSpots fs sps (by simpa using hl) fun a x g h1 h2 => h (a + 1) x g (by simpa using h1) (by simpa using h2)
    unfold allSpots
    exact List.mem_flatMap.mpr ⟨sp, mem_spotsL (h 0 sp f rfl rfl), List.mem_map.mpr ⟨sps, ih, rfl⟩⟩
def sigsL : List (List Nm) := [[], [sN], [tN], [sN, tN], [tN, sN]]
theorem sig_few {sig : List Nm} (hn : sig.Nodup) (h : ∀ n ∈ sig, n = sN ∨ n = tN) : sig ∈ sigsL := by
  match sig, hn, h with
  | [], _, _ => simp [sigsL]
  | [a], _, h =>
    rcases h a (by simp) with rfl | rfl <;> simp [sigsL]
  | [a, b], hn, h =>
    have hne : a ≠ b := by simp at hn; exact hn
    rcases h a (by simp) with rfl | rfl <;> rcases h b (by simp) with rfl | rfl
    · exact (hne rfl).elim
    · simp [sigsL]
    · simp [sigsL]
    · exact (hne rfl).elim
  | a :: b :: c :: r, hn, h =>
    exfalso
    have := nodup_few (xs := a :: b :: c :: r) (ys := [sN, tN]) hn fun x hx => by
      rcases h x hx with rfl | rfl <;> simp
    simp at this
theorem sig_len {sig : List Nm} (hn : sig.Nodup) (h : ∀ n ∈ sig, n = sN ∨ n = tN) : sig.length ≤ 2 :=
  nodup_few (ys := [sN, tN]) hn fun x hx => by rcases h x hx with rfl | rfl <;> simp
/-- the states of a drawn plan -/
structure Uq (p : PlanM) (s : State) : Prop where
  fit : s.spots.length = p.flows.length
  sp : ∀ (a : Nat) sp f, s.spots[a]? = some sp → p.flows[a]? = some f → SpotIn f sp
  nd : s.sig.Nodup
  sg : ∀ n ∈ s.sig, n = sN ∨ n = tN
/-- the flows of a drawn plan -/
def FlowsOk (fs : List Flow) : Prop := ∃ most : Nat, ((fs.length = 1 ∧ most = 8) ∨ (fs.length = 2 ∧ most = 5) ∨ (fs.length = 3 ∧ most = 2) ∨ (fs.length = 4 ∧ most = 1)) ∧ ∀ f ∈ fs, FlowOk [sN, tN] most f
theorem FlowsOk.plan (h : FlowsOk p.flows) : PlanOk p := by
  obtain ⟨most, h1, h2⟩ := h
  refine ⟨fun f hf i n hi => ((h2 f hf).2 i _ hi).1, fun f hf i x n hi => ((h2 f hf).2 i _ hi).2.1, by omega⟩
theorem sumN_const (c : Nat) : ∀ xs : List Nat, sumN (xs.map fun _ => c) = xs.length * c
  | [] => by simp [sumN]
  | x :: xs => by
    simp only [List.map_cons, sumN, sumN_const c xs, List.length_cons, Nat.succ_mul]; omega
theorem left_le {m : Nat} (h : ∀ f ∈ p.flows, f.length ≤ m) : left p s ≤ p.flows.length * m := by
  have e := sumN_const m (arms p)
  have h2 : left p s ≤ sumN ((arms p).map fun _ => m) := sumN_le fun a ha => by
    have := h _ (List.mem_of_getElem? (flowAt_get (List.mem_range.mp ha)))
    omega
  unfold arms at e h2
  rw [List.length_range] at e
  omega
theorem Uq.ok (hf : FlowsOk p.flows) (h : Uq p s) : Ok p s := by
  refine ⟨h.fit, ?_⟩
  have h1 := sig_len h.nd h.sg
  obtain ⟨most, h2, h3⟩ := hf
  have h4 := left_le (p := p) (s := s) (m := most) fun f hf => (h3 f hf).1
  have h5 : p.flows.length * most ≤ 10 := by
    rcases h2 with ⟨e1, e2⟩ | ⟨e1, e2⟩ | ⟨e1, e2⟩ | ⟨e1, e2⟩ <;> rw [e1, e2] <;> decide
  omega
theorem landF_le {f : Flow} (h : ∀ (i n : Nat), f[i]? = some (Step.jump n) → n ≤ f.length) : ∀ k j, j ≤ f.length → landF f k j ≤ f.length
  | 0, j, hj => hj
  | k + 1, j, hj => by
    unfold landF
    split
    · rename_i n hn
      exact landF_le h k n (h _ _ hn)
    · exact hj
theorem switched_ok {sig : List Nm} {n : Nm} {on : Bool} (hn : sig.Nodup) (h : ∀ n ∈ sig, n = sN ∨ n = tN) (hm : n = sN ∨ n = tN) : (switched sig n on).Nodup ∧ ∀ m ∈ switched sig n on, m = sN ∨ m = tN := by
  unfold switched
  split
  · split
    · exact ⟨hn, h⟩
    · rename_i hni
      refine ⟨List.nodup_append.mpr ⟨hn, by simp, fun a ha b hb => ?_⟩, fun m hm' => ?_⟩
      · rw [List.mem_singleton] at hb; subst hb
        exact fun e => hni (e ▸ ha)
      · rcases List.mem_append.mp hm' with hm' | hm'
        · exact h m hm'
        · rw [List.mem_singleton] at hm'; subst hm'; exact hm
  · exact ⟨hn.sublist List.filter_sublist, fun m hm' => h m (List.mem_filter.mp hm').1⟩
theorem Uq.outs {a : Nat} (hf : FlowsOk p.flows) (h : Uq p s) (ha : a < p.flows.length) (ht : t ∈ outs p s a) : Uq p t := by
  obtain ⟨most, h2, h3⟩ := hf
  have hfl := h3 _ (List.mem_of_getElem? (flowAt_get ha))
  have hsp : SpotIn (flowAt p a) (spotAt s a) := h.sp a _ _ (spotAt_get (by rw [h.fit]; exact ha)) (flowAt_get ha)
  have go : ∀ (j : Nat) (q : Nm) (hh : Option Nm) (sig : List Nm), j ≤ (flowAt p a).length → (q = pN ∨ q = qN) → (hh = none ∨ hh = some xN) → sig.Nodup → (∀ n ∈ sig, n = sN ∨ n = tN) → Uq p (moved p s a j q hh sig) := fun j q hh sig h4 h5 h6 h7 h8 => by
    refine ⟨by simp [moved, h.fit], fun b sp f hb hfb => ?_, h7, h8⟩
    unfold moved at hb
    simp only at hb
    by_cases hab : b = a
    · subst hab
      rw [List.getElem?_set_self (by rw [h.fit]; exact ha)] at hb
      cases hb
      rw [flowAt_get ha] at hfb
      cases hfb
      refine ⟨landF_le (fun i n hi => (hfl.2 i _ hi).2) _ _ h4, h5, h6⟩
    · rw [List.getElem?_set_ne (Ne.symm hab)] at hb
      exact h.sp b sp f hb hfb
  unfold Pg.outs at ht
  cases hst : stepAt p s a with
  | none => rw [hst] at ht; cases ht
  | some st =>
    rw [hst] at ht
    have hlt := step_lt hst
    have hok := hfl.2 _ _ hst
    cases st with
    | move q => simp only [List.mem_singleton] at ht; subst ht; exact go _ _ _ _ (by omega) hok hsp.2.2 h.nd h.sg
    | hold q => simp only [List.mem_singleton] at ht; subst ht; exact go _ _ _ _ (by omega) hsp.2.1 hok h.nd h.sg
    | set n on =>
      simp only [List.mem_singleton] at ht; subst ht
      have hm : n = sN ∨ n = tN := by
        have : n ∈ [sN, tN] := hok
        simpa using this
      obtain ⟨g1, g2⟩ := switched_ok (on := on) h.nd h.sg hm
      exact go _ _ _ _ (by omega) hsp.2.1 hsp.2.2 g1 g2
    | wait n on => simp only [List.mem_singleton] at ht; subst ht; exact go _ _ _ _ (by omega) hsp.2.1 hsp.2.2 h.nd h.sg
    | jump n => simp only [List.mem_singleton] at ht; subst ht; exact go _ _ _ _ (by omega) hsp.2.1 hsp.2.2 h.nd h.sg
    | iff i n =>
      simp only [List.mem_cons, List.not_mem_nil, or_false] at ht
      rcases ht with rfl | rfl
      · exact go _ _ _ _ (by omega) hsp.2.1 hsp.2.2 h.nd h.sg
      · exact go _ _ _ _ hok.2.2 hsp.2.1 hsp.2.2 h.nd h.sg
def keysL (p : PlanM) : List NestedKey := (allSpots p.flows).flatMap fun sps => sigsL.map fun sig => stateK ⟨sps, sig⟩
theorem uni (hf : FlowsOk p.flows) : Uni p (Uq p) := by
  refine ⟨fun s h => h.ok hf, fun s t h ht => ?_, keysL p, ?_, fun s h => ?_⟩
  · obtain ⟨a, ha, _, ht⟩ := allOuts_mem ht
    exact h.outs hf ha ht
  · unfold keysL
    rw [flatMap_len _ 5 _ fun _ _ => by simp [sigsL]]
    obtain ⟨most, h2, h3⟩ := hf
    have h4 := allSpots_len p.flows (m := most) fun f hf => (h3 f hf).1
    have h5 : ((most + 1) * 4) ^ p.flows.length ≤ 3000000 := by
      rcases h2 with ⟨e1, e2⟩ | ⟨e1, e2⟩ | ⟨e1, e2⟩ | ⟨e1, e2⟩ <;> rw [e1, e2] <;> decide
    omega
  · refine List.mem_flatMap.mpr ⟨s.spots, mem_allSpots _ _ h.fit h.sp, List.mem_map.mpr ⟨sortN s.sig, ?_, rfl⟩⟩
    have hp := sortN_is s.sig
    exact sig_few (hp.nodup_iff.mpr h.nd) fun n hn => h.sg n (hp.mem_iff.mp hn)
theorem uq_first (hf : FlowsOk p.flows) (hs : p.starts.length = p.flows.length) (hq : ∀ q ∈ p.starts, q = pN ∨ q = qN) : Uq p (firstS p) := by
  refine ⟨by simp [firstS], fun a sp f h1 h2 => ?_, by simp [firstS], by simp [firstS]⟩
  have ha : a < p.flows.length := (List.getElem?_eq_some_iff.mp h2).1
  have hfa := flowAt_get ha
  rw [hfa] at h2
  cases h2
  unfold firstS at h1
  simp [ha] at h1
  subst h1
  obtain ⟨most, h2, h3⟩ := hf
  have hfl := h3 _ (List.mem_of_getElem? (flowAt_get ha))
  refine ⟨landF_le (fun i n hi => (hfl.2 i _ hi).2) _ _ (Nat.zero_le _), ?_, .inl rfl⟩
  refine hq _ ?_
  show p.starts.getD a _ ∈ _
  rw [List.getD_eq_getElem?_getD, List.getElem?_eq_getElem (by omega)]
  exact List.getElem_mem _
end Pg

set_option Elab.async false
set_option linter.all false
set_option maxRecDepth 100000
set_option maxHeartbeats 4000000
namespace Pg
open PySem L2 DL
variable {A : Adr} {θ z : Sto} {n : Nat} {v w : Int}
theorem cmul_r {i j : Int} (h0 : 0 ≤ j) (h : j < 2 ^ 63) : CMul i j := .inr ⟨by omega, by omega⟩
theorem cmul_l {i j : Int} (h0 : 0 ≤ i) (h : i < 2 ^ 63) : CMul i j := .inl ⟨by omega, by omega⟩
theorem ms_number (ns : List Int) (k : Nat) (hk : k ≤ 1000) : ∃ v, m__law_number A [.lst (ns.map D.int), .int k] θ = some (.int v, θ) := by
  have c1 : ∀ j : Int, CMul 2 j := fun j => cmul_l (by decide) (by decide)
  have c2 : ∀ i : Int, CMul i 48271 := fun i => cmul_r (by decide) (by decide)
  have c3 : ∀ i : Int, CMul i 69621 := fun i => cmul_r (by decide) (by decide)
  have c4 : ∀ i : Int, CMul i 40692 := fun i => cmul_r (by decide) (by decide)
  have c5 : ∀ i : Int, CMul i ((k : Int) + 11) := fun i => cmul_r (by omega) (by omega)
  have c6 : ∀ i : Int, CMul i 2147483399 := fun i => cmul_r (by decide) (by decide)
  have fin : ∀ c : Int, ∃ v, (match (sSeq (sIf (tBf (fOp gLt (fVar 2) (fC (.int 0))))
      (sAsg (fOp gSub (fC (.int 1)) (fOp gMul (fC (.int 2)) (fVar 2))) (gNm 2))
      sNx)
      (sSeq (sIf (tBf (fOp gGe (fVar 2) (fC (.int 1000000000))))
      (sRet (fVar 2))
      sNx)
      (sSeq (sAsg (fOp gMod (fCB gInt (aCons (fOp gAdd (fOp gMul (fOp gAdd (fVar 2) (fC (.int 17))) (fC (.int 48271))) (fOp gMul (fOp gAdd (fVar 1) (fC (.int 3))) (fC (.int 69621)))) aNil)) (fC (.int 2147483647))) (gNm 3))
      (sSeq (sAsg (fOp gMod (fCB gInt (aCons (fOp gAdd (fOp gMul (fVar 3) (fC (.int 40692))) (fOp gMul (fOp gAdd (fVar 2) (fC (.int 5))) (fOp gAdd (fVar 1) (fC (.int 11))))) aNil)) (fC (.int 2147483399))) (gNm 4))
      (sRet (fOp gAdd (fOp gMul (fVar 3) (fC (.int 2147483399))) (fVar 4))))))) [some (.lst (ns.map D.int)), some (.int k), some (.int c), none, none] θ with
      | some (.ret d θ') => some (d, θ')
      | some (.nx _ θ') => some (.non, θ')
      | _ => none) = some (D.int v, θ) := fun c => by
    have fin2 : ∀ c : Int, ∃ v, (match (sSeq (sIf (tBf (fOp gGe (fVar 2) (fC (.int 1000000000))))
      (sRet (fVar 2))
      sNx)
      (sSeq (sAsg (fOp gMod (fCB gInt (aCons (fOp gAdd (fOp gMul (fOp gAdd (fVar 2) (fC (.int 17))) (fC (.int 48271))) (fOp gMul (fOp gAdd (fVar 1) (fC (.int 3))) (fC (.int 69621)))) aNil)) (fC (.int 2147483647))) (gNm 3))
      (sSeq (sAsg (fOp gMod (fCB gInt (aCons (fOp gAdd (fOp gMul (fVar 3) (fC (.int 40692))) (fOp gMul (fOp gAdd (fVar 2) (fC (.int 5))) (fOp gAdd (fVar 1) (fC (.int 11))))) aNil)) (fC (.int 2147483399))) (gNm 4))
      (sRet (fOp gAdd (fOp gMul (fVar 3) (fC (.int 2147483399))) (fVar 4)))))) [some (.lst (ns.map D.int)), some (.int k), some (.int c), none, none] θ with
      | some (.ret d θ') => some (d, θ')
      | some (.nx _ θ') => some (.non, θ')
      | _ => none) = some (D.int v, θ) := fun c => by
      by_cases hc : (1000000000 : Int) ≤ c
      · exact ⟨c, by simp [hc]⟩
      · exact ⟨((c + 17) * 48271 + ((k : Int) + 3) * 69621) % 2147483647 * 2147483399 + (((c + 17) * 48271 + ((k : Int) + 3) * 69621) % 2147483647 * 40692 + (c + 5) * ((k : Int) + 11)) % 2147483399, by simp [hc, c2, c3, c4, c5, c6]⟩
    by_cases hc : c < 0
    · obtain ⟨v, hv⟩ := fin2 (1 - 2 * c)
      refine ⟨v, ?_⟩
      rw [sSeq_ap]
      simp only [sIf_ap, tBf_ap, fOp_ap, fVar_ap, fC_ap]
      simp [hc, c1, -sSeq_ap]
      exact hv
    · obtain ⟨v, hv⟩ := fin2 c
      refine ⟨v, ?_⟩
      rw [sSeq_ap]
      simp only [sIf_ap, tBf_ap, fOp_ap, fVar_ap, fC_ap]
      simp [hc, -sSeq_ap]
      exact hv
  unfold m__law_number
  simp only [bodyM_ap]
  by_cases hk2 : k < ns.length
  · obtain ⟨v, hv⟩ := fin (ns[k])
    refine ⟨v, ?_⟩
    have e : atI (ns.map D.int) (k : Int) = some (.int ns[k]) := by rw [atI_map, List.getElem?_eq_getElem hk2]; rfl
    have hk3 : (k : Int) < (ns.length : Int) := by omega
    rw [sSeq_ap]
    simp only [sAsg_ap, fC_ap, gNm_ap]
    rw [sSeq_ap]
    simp [hk3, e, -sSeq_ap]
    exact hv
  · obtain ⟨v, hv⟩ := fin 0
    refine ⟨v, ?_⟩
    have hk3 : ¬ (k : Int) < (ns.length : Int) := by omega
    rw [sSeq_ap]
    simp only [sAsg_ap, fC_ap, gNm_ap]
    rw [sSeq_ap]
    simp [hk3, -sSeq_ap]
    exact hv
theorem ms_digits (ns : List Int) (f c : Nat) (hf : f + c ≤ 1000) : ∃ v, m__law_digits A [.lst (ns.map D.int), .int f, .int c] θ = some (.ref θ.length, θ ++ [.lst [.int v]]) := by
  have c1 : ∀ i : Int, CMul i 4611686018427387904 := fun i => cmul_r (by decide) (by decide)
  have hr : R62 (c : Int) := R62_nat (by omega)
  have loop : ∀ (ks : List Nat) (v : Int) (x : Option D), (∀ k ∈ ks, k < c) → ∃ v' x', forF (gNm 4) (sAsg (fOp gAdd (fOp gMul (fVar 3) (fC (.int 4611686018427387904))) (fCall (m__law_number A) (aCons (fVar 0) (aCons (fOp gSub (fOp gSub (fOp gAdd (fVar 1) (fVar 2)) (fC (.int 1))) (fVar 4)) aNil)))) (gNm 3)) (ks.map natD) [some (.lst (ns.map D.int)), some (.int f), some (.int c), some (.int v), x] θ = some (.nx [some (.lst (ns.map D.int)), some (.int f), some (.int c), some (.int v'), x'] θ) := by
    intro ks
    induction ks with
    | nil => exact fun v x _ => ⟨v, x, rfl⟩
    | cons k ks ih =>
      intro v x hk
      have hkc := hk k (List.mem_cons_self ..)
      obtain ⟨m, hm⟩ : ∃ m : Nat, (f : Int) + c - 1 - k = (m : Int) := ⟨((f : Int) + c - 1 - k).toNat, by omega⟩
      obtain ⟨u, hu⟩ := ms_number (A := A) (θ := θ) ns m (by omega)
      obtain ⟨v', x', e⟩ := ih (v * 4611686018427387904 + u) (some (natD k)) fun j hj => hk j (List.mem_cons_of_mem _ hj)
      refine ⟨v', x', ?_⟩
      rw [List.map_cons, forF_cons]
      have hnk : natD k = .int k := rfl
      simp only [gNm_ap, List.set_cons_succ, List.set_cons_zero, hnk]
      simp [c1, hm, hu]
      exact e
  obtain ⟨v', x', e⟩ := loop (List.range c) 0 none fun k hk => List.mem_range.mp hk
  refine ⟨v', ?_⟩
  unfold m__law_digits
  simp only [bodyM_ap]
  simp [hr, rngD_0]
  simp [e]
end Pg

set_option Elab.async false
set_option linter.all false
set_option maxRecDepth 100000
set_option maxHeartbeats 4000000
/-! how mirrors with exceptions are reckoned -/
namespace DL
open PySem L2
section
variable {δ : Dv} {θ θ1 : Sto} {f fa fb fc fo : F} {fs fk : FA} {fx : FX} {g g' : G2} {gt : FG} {b : FS} {m : M} {mx : MX} {d : D} {C : Addr} {mn : Str}
@[simp] theorem sExprX_ap : sExprX fx δ θ = match fx δ θ with
  | some (.ok _ θ') => some (.nx δ θ')
  | some (.ex C θ') => some (.ex C δ θ')
  | none => none := (rfl)
@[simp] theorem sRetX_ap : sRetX fx δ θ = match fx δ θ with
  | some (.ok d θ') => some (.ret d θ')
  | some (.ex C θ') => some (.ex C δ θ')
  | none => none := (rfl)
@[simp] theorem sAsgX_ap : sAsgX fx gt δ θ = match fx δ θ with
  | some (.ok d θ1) => match gt d δ θ1 with
    | some (δ2, θ2) => some (.nx δ2 θ2)
    | none => none
  | some (.ex C θ1) => some (.ex C δ θ1)
  | none => none := (rfl)
@[simp] theorem fOfX_ap : fOfX fx δ θ = match fx δ θ with
  | some (.ok d θ') => some (d, θ')
  | _ => none := (rfl)
@[simp] theorem xCall_ap : xCall mx fs δ θ = match fs δ θ with
  | some (ds, θ1) => mx ds θ1
  | none => none := (rfl)
@[simp] theorem xMeth_ap : xMeth C mn mx fo fs δ θ = match fo δ θ with
  | some (o, θ1) => match objOf θ1 o with
    | some (C', fl) => if C' = C ∧ fl.lookup mn = none then (match fs δ θ1 with
      | some (ds, θ2) => mx (o :: ds) θ2
      | none => none) else none
    | none => none
  | none => none := (rfl)
@[simp] theorem xMethK_ap : xMethK C mn mx fo fs fk δ θ = match fo δ θ with
  | some (o, θ1) => match objOf θ1 o with
    | some (C', fl) => if C' = C ∧ fl.lookup mn = none then (match fs δ θ1 with
      | some (ds, θ2) => match fk δ θ2 with
        | some (es, θ3) => mx (o :: (ds ++ es)) θ3
        | none => none
      | none => none) else none
    | none => none
  | none => none := (rfl)
@[simp] theorem sRaise_ap : sRaise C δ θ = some (.ex C δ θ) := (rfl)
@[simp] theorem sRaiseF_ap : sRaiseF C f δ θ = match f δ θ with
  | some (.str s, θ1) => if s.length ≤ 100000 then some (.ex C δ θ1) else none
  | _ => none := (rfl)
@[simp] theorem fChain_ap : fChain g g' fa fb fc δ θ = match fa δ θ with
  | some (x, θ1) => match fb δ θ1 with
    | some (y, θ2) => match g θ2 x y with
      | some (.bl true) => match fc δ θ2 with
        | some (z, θ3) => match g' θ3 y z with
          | some d => some (d, θ3)
          | none => none
        | none => none
      | some (.bl false) => some (.bl false, θ2)
      | _ => none
    | none => none
  | none => none := (rfl)
@[simp] theorem fProp_ap : fProp C m fo δ θ = match fo δ θ with
  | some (o, θ1) => match objOf θ1 o with
    | some (C', _) => if C' = C then m [o] θ1 else none
    | none => none
  | none => none := (rfl)
theorem bodyX_ap (n : Nat) (g : FS) (ds : List D) : bodyX n g ds θ = match g (ds.map some ++ List.replicate (n - ds.length) none) θ with
  | some (.ret d θ') => some (.ok d θ')
  | some (.nx _ θ') => some (.ok .non θ')
  | some (.ex C _ θ') => some (.ex C θ')
  | _ => none := (rfl)
end
end DL
namespace Pg
open PySem L2 DL
variable {A : Adr} {p : PlanM} {θ : Sto} {o m h : Nat} {a : Nat}
/-! ### a runner stands in the store -/
structure Run where
  st : State
  ev : Nat
  mv : List Bool
  ha : List Bool
variable {r : Run}
def runFs (A : Adr) (p : PlanM) (r : Run) (m h : Nat) : List (Str × D) := [("plan", planD A p), ("state", stateD r.st), ("events", .int r.ev), ("moving", .ref m), ("halted", .ref h)]
structure Pl (θ : Sto) (o m h : Nat) : Prop where
  lo : o < θ.length
  lm : m < θ.length
  lh : h < θ.length
  om : o ≠ m
  oh : o ≠ h
  mh : m ≠ h
def RP (A : Adr) (p : PlanM) (θ : Sto) (o m h : Nat) (r : Run) : Sto := ((θ.set o (.ins A.c_Runner (runFs A p r m h))).set m (.lst (r.mv.map D.bl))).set h (.lst (r.ha.map D.bl))
section
variable (A : Adr) (p : PlanM) (r : Run) (m h : Nat)
@[simp] theorem rl_plan : (runFs A p r m h).lookup ("plan" : Str) = some (planD A p) := rfl
@[simp] theorem rl_state : (runFs A p r m h).lookup ("state" : Str) = some (stateD r.st) := rfl
@[simp] theorem rl_events : (runFs A p r m h).lookup ("events" : Str) = some (.int r.ev) := rfl
@[simp] theorem rl_moving : (runFs A p r m h).lookup ("moving" : Str) = some (.ref m) := rfl
@[simp] theorem rl_halted : (runFs A p r m h).lookup ("halted" : Str) = some (.ref h) := rfl
@[simp] theorem rl_check_arm : (runFs A p r m h).lookup ("check_arm" : Str) = none := rfl
@[simp] theorem rl_place_of : (runFs A p r m h).lookup ("place_of" : Str) = none := rfl
@[simp] theorem rl_is_halted : (runFs A p r m h).lookup ("is_halted" : Str) = none := rfl
@[simp] theorem rl_is_under_way : (runFs A p r m h).lookup ("is_under_way" : Str) = none := rfl
@[simp] theorem rl_state_ahead : (runFs A p r m h).lookup ("state_ahead" : Str) = none := rfl
@[simp] theorem rl_in_the_way : (runFs A p r m h).lookup ("in_the_way" : Str) = none := rfl
@[simp] theorem rl_is_held_back : (runFs A p r m h).lookup ("is_held_back" : Str) = none := rfl
@[simp] theorem rl_may : (runFs A p r m h).lookup ("may" : Str) = none := rfl
@[simp] theorem rl_check_told : (runFs A p r m h).lookup ("check_told" : Str) = none := rfl
@[simp] theorem rl_begin : (runFs A p r m h).lookup ("begin" : Str) = none := rfl
@[simp] theorem rl_end : (runFs A p r m h).lookup ("end" : Str) = none := rfl
@[simp] theorem rl_go_on : (runFs A p r m h).lookup ("go_on" : Str) = none := rfl
@[simp] theorem rl_read_input : (runFs A p r m h).lookup ("read_input" : Str) = none := rfl
@[simp] theorem rl_halt : (runFs A p r m h).lookup ("halt" : Str) = none := rfl
@[simp] theorem rl_free : (runFs A p r m h).lookup ("free" : Str) = none := rfl
@[simp] theorem rl_fork : (runFs A p r m h).lookup ("fork" : Str) = none := rfl
theorem put_state (s : State) : putFD ("state" : Str) (stateD s) (runFs A p r m h) = runFs A p { r with st := s } m h := by
  simp only [runFs, putFD]
  rw [if_neg (by decide +kernel), if_pos trivial]
theorem put_events (n : Nat) : putFD ("events" : Str) (.int n) (runFs A p r m h) = runFs A p { r with ev := n } m h := by
  simp only [runFs, putFD]
  rw [if_neg (by decide +kernel), if_neg (by decide +kernel), if_pos trivial]
end
theorem rp_len : (RP A p θ o m h r).length = θ.length := by simp [RP]
theorem rp_o (P : Pl θ o m h) : (RP A p θ o m h r)[o]? = some (.ins A.c_Runner (runFs A p r m h)) := by
  unfold RP
  rw [List.getElem?_set_ne (Ne.symm P.oh), List.getElem?_set_ne (Ne.symm P.om), List.getElem?_set_self P.lo]
theorem rp_m (P : Pl θ o m h) : (RP A p θ o m h r)[m]? = some (.lst (r.mv.map D.bl)) := by
  unfold RP
  rw [List.getElem?_set_ne (Ne.symm P.mh), List.getElem?_set_self (by simpa using P.lm)]
theorem rp_h (P : Pl θ o m h) : (RP A p θ o m h r)[h]? = some (.lst (r.ha.map D.bl)) := by
  unfold RP
  rw [List.getElem?_set_self (by simpa using P.lh)]
theorem rp_set_o (P : Pl θ o m h) {r' : Run} (h1 : r'.mv = r.mv) (h2 : r'.ha = r.ha) : (RP A p θ o m h r).set o (.ins A.c_Runner (runFs A p r' m h)) = RP A p θ o m h r' := by
  unfold RP
  rw [List.set_comm _ _ (Ne.symm P.oh), List.set_comm _ _ (Ne.symm P.om), List.set_set, h1, h2]
theorem rp_set_m (P : Pl θ o m h) {mv : List Bool} : (RP A p θ o m h r).set m (.lst (mv.map D.bl)) = RP A p θ o m h { r with mv := mv } := by
  unfold RP
  rw [List.set_comm _ _ (Ne.symm P.mh), List.set_set]
  rfl
theorem rp_set_h (P : Pl θ o m h) {ha : List Bool} : (RP A p θ o m h r).set h (.lst (ha.map D.bl)) = RP A p θ o m h { r with ha := ha } := by
  unfold RP
  rw [List.set_set]
  rfl
theorem rp_obj (P : Pl θ o m h) : objOf (RP A p θ o m h r) (.ref o) = some (A.c_Runner, runFs A p r m h) := by rw [objOf_ref, rp_o P]
theorem rp_seqm (P : Pl θ o m h) : seqOf (RP A p θ o m h r) (.ref m) = some (r.mv.map D.bl) := by rw [seqOf_ref, rp_m P]
theorem rp_seqh (P : Pl θ o m h) : seqOf (RP A p θ o m h r) (.ref h) = some (r.ha.map D.bl) := by rw [seqOf_ref, rp_h P]
theorem rp_lenm (P : Pl θ o m h) : gLen (RP A p θ o m h r) [.ref m] = some (.int r.mv.length) := by rw [gLen_ref, rp_seqm P]; simp
theorem at_bl (bs : List Bool) {a : Nat} (ha : a < bs.length) : atI (bs.map D.bl) (a : Int) = some (.bl (bs.getD a false)) := by
  rw [atI_map, List.getD_eq_getElem?_getD, List.getElem?_eq_getElem ha]; rfl
theorem rp_atm (P : Pl θ o m h) (ha : a < r.mv.length) : gIx (RP A p θ o m h r) (.ref m) (.int a) = some (.bl (r.mv.getD a false)) := by
  rw [gIx_ap, rp_seqm P]; exact at_bl _ ha
theorem rp_ath (P : Pl θ o m h) (ha : a < r.ha.length) : gIx (RP A p θ o m h r) (.ref h) (.int a) = some (.bl (r.ha.getD a false)) := by
  rw [gIx_ap, rp_seqh P]; exact at_bl _ ha
theorem rp_putm (P : Pl θ o m h) (ha : a < r.mv.length) (b : Bool) : setIx (RP A p θ o m h r) (.ref m) (.int a) (.bl b) = some (RP A p θ o m h { r with mv := r.mv.set a b }) := by
  unfold setIx
  simp only [rp_m P, List.length_map]
  rw [ixN_nat ha]
  simp only
  rw [← List.map_set, rp_set_m P]
theorem rp_puth (P : Pl θ o m h) (ha : a < r.ha.length) (b : Bool) : setIx (RP A p θ o m h r) (.ref h) (.int a) (.bl b) = some (RP A p θ o m h { r with ha := r.ha.set a b }) := by
  unfold setIx
  simp only [rp_h P, List.length_map]
  rw [ixN_nat ha]
  simp only
  rw [← List.map_set, rp_set_h P]
/-! ### its methods -/
theorem mr_check (P : Pl θ o m h) (ha : a < r.mv.length) : m_Runner_check_arm A [.ref o, .int a] (RP A p θ o m h r) = some (.ok .non (RP A p θ o m h r)) := by
  unfold m_Runner_check_arm
  simp only [bodyX_ap]
  have h1 : (0 : Int) ≤ (a : Int) := by omega
  have h2 : (a : Int) < (r.mv.length : Int) := by omega
  simp [rp_obj P, rp_lenm P, h1, h2]
theorem mr_check_ex (P : Pl θ o m h) {i : Int} (ha : i < 0 ∨ (r.mv.length : Int) ≤ i) : m_Runner_check_arm A [.ref o, .int i] (RP A p θ o m h r) = some (.ex A.c_UnknownArm (RP A p θ o m h r)) := by
  unfold m_Runner_check_arm
  simp only [bodyX_ap]
  by_cases h1 : (0 : Int) ≤ i
  · have h2 : ¬ i < (r.mv.length : Int) := by omega
    simp [rp_obj P, rp_lenm P, h1, h2]
  · simp [rp_obj P, rp_lenm P, h1]
end Pg

set_option Elab.async false
set_option linter.all false
set_option maxRecDepth 100000
set_option maxHeartbeats 4000000
namespace Pg
open PySem L2 DL
variable {A : Adr} {p : PlanM} {θ : Sto} {o m h : Nat} {a : Nat} {r : Run}
/-! ### what a runner tells -/
/-- runners that fit a plan -/
structure RunOk (p : PlanM) (r : Run) : Prop where
  fit : r.st.spots.length = p.flows.length
  lm : r.mv.length = p.flows.length
  lh : r.ha.length = p.flows.length
  sig : r.st.sig.length ≤ 100
  mvs : ∀ a, r.mv.getD a false = true → ∃ q, stepAt p r.st a = some (.move q)
def placeOf (p : PlanM) (r : Run) (a : Nat) : Option Place := if r.mv.getD a false = true then wantedAt p r.st a else some (restSp (spotAt r.st a))
theorem mr_place (P : Pl θ o m h) (R : RunOk p r) (ha : a < p.flows.length) : m_Runner_place_of A [.ref o, .int a] (RP A p θ o m h r) = some (.ok (placeOD (placeOf p r a)) (RP A p θ o m h r)) := by
  have e1 := mr_check (A := A) (p := p) (r := r) P (a := a) (by rw [R.lm]; exact ha)
  have e2 := rp_atm (A := A) (p := p) (r := r) P (a := a) (by rw [R.lm]; exact ha)
  have e3 := ms_wanted (A := A) (θ := RP A p θ o m h r) R.fit ha
  have e4 := ms_rest_of (A := A) (θ := RP A p θ o m h r) R.fit ha (planD A p)
  unfold m_Runner_place_of
  simp only [bodyX_ap]
  cases hm : r.mv.getD a false <;> rw [hm] at e2 <;> simp [-gIx_ap, rp_obj P, e1, e2, e3, e4, placeOf, hm, placeOD, -List.getD_eq_getElem?_getD] <;> simp [hm]
end Pg

set_option Elab.async false
set_option linter.all false
set_option maxRecDepth 100000
set_option maxHeartbeats 4000000
namespace Pg
open PySem L2 DL
variable {A : Adr} {p : PlanM} {θ : Sto} {o m h : Nat} {a : Nat} {r : Run}
theorem mr_under (P : Pl θ o m h) (R : RunOk p r) (ha : a < p.flows.length) : m_Runner_is_under_way A [.ref o, .int a] (RP A p θ o m h r) = some (.ok (.bl (r.mv.getD a false)) (RP A p θ o m h r)) := by
  have e1 := mr_check (A := A) (p := p) (r := r) P (a := a) (by rw [R.lm]; exact ha)
  have e2 := rp_atm (A := A) (p := p) (r := r) P (a := a) (by rw [R.lm]; exact ha)
  unfold m_Runner_is_under_way
  simp only [bodyX_ap]
  simp [-gIx_ap, rp_obj P, e1, e2, -List.getD_eq_getElem?_getD]
end Pg

set_option Elab.async false
set_option linter.all false
set_option maxRecDepth 100000
set_option maxHeartbeats 4000000
namespace Pg
open PySem L2 DL
variable {A : Adr} {p : PlanM} {θ : Sto} {o m h : Nat} {a : Nat} {r : Run}
theorem mr_halted (P : Pl θ o m h) (R : RunOk p r) (ha : a < p.flows.length) : m_Runner_is_halted A [.ref o, .int a] (RP A p θ o m h r) = some (.ok (.bl (r.ha.getD a false)) (RP A p θ o m h r)) := by
  have e1 := mr_check (A := A) (p := p) (r := r) P (a := a) (by rw [R.lm]; exact ha)
  have e2 := rp_ath (A := A) (p := p) (r := r) P (a := a) (by rw [R.lh]; exact ha)
  unfold m_Runner_is_halted
  simp only [bodyX_ap]
  simp [-gIx_ap, rp_obj P, e1, e2, -List.getD_eq_getElem?_getD]
end Pg

set_option Elab.async false
set_option linter.all false
set_option maxRecDepth 100000
set_option maxHeartbeats 4000000
namespace Pg
open PySem L2 DL
variable {A : Adr} {p : PlanM} {θ : Sto} {o m h : Nat} {a : Nat} {r : Run}
theorem mr_over (P : Pl θ o m h) (R : RunOk p r) (hn : p.flows.length ≤ 1000) : m_Runner_is_over A [.ref o] (RP A p θ o m h r) = some (.bl (allEnded p r.st), RP A p θ o m h r) := by
  have e := ms_all_ended (A := A) (θ := RP A p θ o m h r) R.fit hn
  unfold m_Runner_is_over
  simp only [bodyM_ap]
  simp [rp_obj P, e]
end Pg

set_option Elab.async false
set_option linter.all false
set_option maxRecDepth 100000
set_option maxHeartbeats 4000000
namespace DL
section
variable {δ : Dv} {θ : Sto} {n : Nat} {ds0 ds : List D} {d : D} {gt : FG} {b : FS} {fs : FA} {fa : F} {fi : FAN}
theorem forN_nil (h : θ[n]? = some (.lst ds0)) : forN n ds0 gt b [] δ θ = some (.nx δ θ) := by unfold forN; rw [if_pos h]
theorem forN_cons (h : θ[n]? = some (.lst ds0)) : forN n ds0 gt b (d :: ds) δ θ = match gt d δ θ with
  | some (δ1, θ1) => match b δ1 θ1 with
    | some (.nx δ2 θ2) => forN n ds0 gt b ds δ2 θ2
    | some (.ct δ2 θ2) => forN n ds0 gt b ds δ2 θ2
    | some (.bk δ2 θ2) => some (.nx δ2 θ2)
    | r => r
  | none => none := by
  rw [forN, if_pos h]
  all_goals rfl
@[simp] theorem iEnumN_ap : iEnumN fs δ θ = match fs δ θ with
  | some ([.ref n], θ1) => match θ1[n]? with
    | some (.lst ds) => some (n, ds, enumD ds, θ1)
    | _ => none
  | _ => none := (rfl)
@[simp] theorem iSeqN_ap : iSeqN fa δ θ = match fa δ θ with
  | some (.ref n, θ1) => match θ1[n]? with
    | some (.lst ds) => some (n, ds, ds, θ1)
    | _ => none
  | _ => none := (rfl)
theorem sForN_ap : sForN fi gt b δ θ = match fi δ θ with
  | some (n, ds0, ds, θ1) => forN n ds0 gt b ds δ θ1
  | none => none := (rfl)
end
end DL
namespace Pg
open PySem L2 DL
variable {A : Adr} {p : PlanM} {θ : Sto} {o m h : Nat} {a : Nat} {r : Run}
/-! ### the state ahead -/
def headOut (p : PlanM) (s : State) (a : Nat) : State := (outs p s a).headD s
def aheadL (p : PlanM) (mv : List Bool) : List Nat → State → State
  | [], s => s
  | a :: ks, s => aheadL p mv ks (if mv.getD a false = true then headOut p s a else s)
def ahead (p : PlanM) (r : Run) : State := aheadL p r.mv (List.range r.mv.length) r.st
theorem enum_bl (bs : List Bool) : enumD (bs.map D.bl) = (List.range bs.length).map fun (a : Nat) => D.tup [.int (a : Int), .bl (bs.getD a false)] := by
  unfold enumD
  refine List.ext_getElem (by simp) fun i h1 h2 => ?_
  simp at h1
  simp [h1, List.getD_eq_getElem?_getD]
theorem outs_move {s : State} {q : Nm} (h : stepAt p s a = some (.move q)) : outs p s a = [moved p s a ((spotAt s a).at_ + 1) q (spotAt s a).held s.sig] := by
  unfold outs; rw [h]
theorem headOut_move {s : State} {q : Nm} (h : stepAt p s a = some (.move q)) : headOut p s a = moved p s a ((spotAt s a).at_ + 1) q (spotAt s a).held s.sig := by
  unfold headOut; rw [outs_move h]; rfl
theorem stepAt_moved {s : State} {b j : Nat} {q : Nm} {hh : Option Nm} {sig : List Nm} (ha : a < s.spots.length) (hb : b ≠ a) : stepAt p (moved p s a j q hh sig) b = stepAt p s b := by
  unfold stepAt; rw [spotAt_moved ha, if_neg hb]
theorem for_ahead (hwf : ∀ f ∈ p.flows, WfF f) (P : Pl θ o m h) (hlm : r.mv.length = p.flows.length) : ∀ (ks : List Nat) (s : State) (x2 x3 : Option D), ks.Nodup → (∀ a ∈ ks, a < p.flows.length) → s.spots.length = p.flows.length → s.sig.length ≤ 100 →
    (∀ a ∈ ks, r.mv.getD a false = true → ∃ q, stepAt p s a = some (.move q)) →
    ∃ y2 y3, forN m (r.mv.map D.bl) (gTupD 2 (gConsD (gNm 2) (gConsD (gNm 3) gNilD))) (sIf (tBf (fVar 3))
      (sAsg (fOp gIx (fMeth A.c_Plan "outcomes" (m_Plan_outcomes A) (fFld A.c_Runner "plan" (fVar 0)) (aCons (fVar 1) (aCons (fVar 2) aNil))) (fC (.int 0))) (gNm 1))
      sNx) (ks.map fun (a : Nat) => D.tup [.int (a : Int), .bl (r.mv.getD a false)]) [some (.ref o), some (stateD s), x2, x3] (RP A p θ o m h r) =
      some (.nx [some (.ref o), some (stateD (aheadL p r.mv ks s)), y2, y3] (RP A p θ o m h r)) ∧ (aheadL p r.mv ks s).spots.length = p.flows.length ∧ (aheadL p r.mv ks s).sig = s.sig
  | [], s, x2, x3, _, _, hf, _, _ => ⟨x2, x3, forN_nil (rp_m P), hf, rfl⟩
  | a :: ks, s, x2, x3, hnd, hk, hf, hs, hm => by
    obtain ⟨hn1, hn2⟩ := List.nodup_cons.mp hnd
    have ha := hk a (List.mem_cons_self ..)
    rw [List.map_cons, forN_cons (rp_m P)]
    cases hb : r.mv.getD a false with
    | false =>
      obtain ⟨y2, y3, e1, e2, e3⟩ := for_ahead hwf P hlm ks s (some (.int a)) (some (.bl false)) hn2 (fun b hb => hk b (List.mem_cons_of_mem _ hb)) hf hs (fun b hb => hm b (List.mem_cons_of_mem _ hb))
      refine ⟨y2, y3, ?_, ?_, ?_⟩
      · simp [-List.getD_eq_getElem?_getD]
        rw [e1]
        simp [aheadL, hb, -List.getD_eq_getElem?_getD]
      · simp only [aheadL, hb]; simpa using e2
      · simp only [aheadL, hb]; simpa using e3
    | true =>
      obtain ⟨q, hq⟩ := hm a (List.mem_cons_self ..) hb
      have e0 := ms_outcomes (A := A) (θ := RP A p θ o m h r) hf ha hwf (by omega)
      have ho := headOut_move hq
      rw [outs_move hq] at e0
      obtain ⟨y2, y3, e1, e2, e3⟩ := for_ahead hwf P hlm ks (headOut p s a) (some (.int a)) (some (.bl true)) hn2 (fun b hb => hk b (List.mem_cons_of_mem _ hb)) (by rw [ho]; simp [moved, hf]) (by rw [ho]; exact hs) (fun b hb hmv => by
        obtain ⟨q', hq'⟩ := hm b (List.mem_cons_of_mem _ hb) hmv
        refine ⟨q', ?_⟩
        rw [ho, stepAt_moved (by rw [hf]; exact ha) (fun e => hn1 (by rw [← e]; exact hb))]
        exact hq')
      refine ⟨y2, y3, ?_, ?_, ?_⟩
      · rw [ho] at e1
        simp [rp_obj P, e0, -List.getD_eq_getElem?_getD]
        rw [e1]
        simp [aheadL, hb, ho, -List.getD_eq_getElem?_getD]
      · simp only [aheadL, hb]; simpa using e2
      · simp only [aheadL, hb]
        have : (headOut p s a).sig = s.sig := by rw [ho]; rfl
        rw [this] at e3
        simpa using e3
theorem mr_ahead (hwf : ∀ f ∈ p.flows, WfF f) (P : Pl θ o m h) (R : RunOk p r) : m_Runner_state_ahead A [.ref o] (RP A p θ o m h r) = some (stateD (ahead p r), RP A p θ o m h r) ∧ (ahead p r).spots.length = p.flows.length ∧ (ahead p r).sig = r.st.sig := by
  obtain ⟨y2, y3, e1, e2, e3⟩ := for_ahead (A := A) hwf P R.lm (List.range r.mv.length) r.st none none List.nodup_range (fun a ha => by rw [← R.lm]; exact List.mem_range.mp ha) R.fit R.sig (fun a _ => R.mvs a)
  refine ⟨?_, e2, e3⟩
  unfold m_Runner_state_ahead
  simp only [bodyM_ap]
  simp [rp_obj P, sForN_ap, rp_m P, enum_bl, -List.getD_eq_getElem?_getD]
  simp only [e1]
  simp [ahead]
end Pg

set_option Elab.async false
set_option linter.all false
set_option maxRecDepth 100000
set_option maxHeartbeats 4000000
namespace Pg
open PySem L2 DL
variable {A : Adr} {p : PlanM} {θ z : Sto} {o m h : Nat} {a : Nat} {r : Run} {U : State → Prop}
/-! ### who is in the way; who is held back -/
theorem placeOf_some (R : RunOk p r) (b : Nat) : ∃ pb, placeOf p r b = some pb := by
  unfold placeOf
  cases hb : r.mv.getD b false with
  | false => exact ⟨_, rfl⟩
  | true =>
    obtain ⟨q, hq⟩ := R.mvs b hb
    exact ⟨_, by rw [if_pos rfl]; unfold wantedAt; rw [hq]; rfl⟩
def blockR (p : PlanM) (r : Run) (a : Nat) (pl : Place) (b : Nat) : Bool := decide (b ≠ a) && match placeOf p r b with
  | some pb => p.blk (a, pl, b, pb)
  | none => false
def way (p : PlanM) (r : Run) (a : Nat) : Option Nat := match wantedAt p r.st a with
  | none => none
  | some pl => (List.range p.flows.length).find? (blockR p r a pl)
theorem mr_way (P : Pl θ o m h) (R : RunOk p r) (ha : a < p.flows.length) (hn : p.flows.length ≤ 100) : m_Runner_in_the_way A [.ref o, .int a] (RP A p θ o m h r) = some (natOD (way p r a), RP A p θ o m h r) := by
  have hr : R62 (p.flows.length : Int) := R62_nat (by omega)
  have e1 := ms_wanted (A := A) (θ := RP A p θ o m h r) R.fit ha
  have e2 := rp_lenm (A := A) (p := p) (r := r) P
  rw [R.lm] at e2
  unfold m_Runner_in_the_way
  simp only [bodyM_ap]
  cases hw : wantedAt p r.st a with
  | none =>
    rw [hw] at e1
    simp [rp_obj P, e1, placeOD, way, hw, natOD]
  | some pl =>
    rw [hw] at e1
    obtain ⟨δ', ⟨x, rfl⟩, e⟩ := forF_first (gt := gNm 3) (b := (sIf (tAndf (tBf (fOp gNe (fVar 3) (fVar 1))) (tNotf (tBf (fMeth A.c_Plan "is_clear" (m_Plan_is_clear A) (fFld A.c_Runner "plan" (fVar 0)) (aCons (fVar 1) (aCons (fVar 2) (aCons (fVar 3) (aCons (fOfX (xMeth A.c_Runner "place_of" (m_Runner_place_of A) (fVar 0) (aCons (fVar 3) aNil))) aNil))))))))
      (sRet (fVar 3))
      sNx)) (θ := RP A p θ o m h r) (fun δ => ∃ x, δ = [some (.ref o), some (.int a), some (placeD pl), x]) natD (fun b => if blockR p r a pl b = true then some (natD b) else none) (List.range p.flows.length) [some (.ref o), some (.int a), some (placeD pl), none] ⟨none, rfl⟩ (by
      rintro b hb δ ⟨x, rfl⟩
      have hb' := List.mem_range.mp hb
      have e3 := mr_place (A := A) P R hb'
      obtain ⟨pb, hpb⟩ := placeOf_some R b
      rw [hpb] at e3
      have e4 := m_is_clear (A := A) (p := p) (θ := RP A p θ o m h r) (a := a) (b := b) (x := pl) (y := pb)
      have hnk : natD b = .int b := rfl
      refine ⟨[some (.ref o), some (.int a), some (placeD pl), some (natD b)], [some (.ref o), some (.int a), some (placeD pl), some (natD b)], rfl, ⟨_, rfl⟩, ?_⟩
      by_cases hba : b = a
      · have h1 : blockR p r a pl b = false := by unfold blockR; simp [hba]
        rw [h1, hnk]
        simp [hba]
      · have hba' : ¬ (b : Int) = (a : Int) := by omega
        have h1 : blockR p r a pl b = p.blk (a, pl, b, pb) := by unfold blockR; rw [hpb]; simp [hba]
        rw [h1, hnk]
        have e3' : m_Runner_place_of A [.ref o, .int b] (RP A p θ o m h r) = some (.ok (placeD pb) (RP A p θ o m h r)) := e3
        cases hk : p.blk (a, pl, b, pb) <;> rw [hk] at e4 <;> simp [rp_obj P, hba', e3', e4])
    have hfind : ∀ xs : List Nat, xs.findSome? (fun b => if blockR p r a pl b = true then some (natD b) else none) = (xs.find? (blockR p r a pl)).map natD := fun xs => by
      induction xs with
      | nil => rfl
      | cons x xs ih =>
        rw [List.findSome?_cons, List.find?_cons, ih]
        cases blockR p r a pl x <;> simp
    rw [hfind] at e
    have hway : way p r a = (List.range p.flows.length).find? (blockR p r a pl) := by unfold way; rw [hw]
    rw [hway]
    simp [rp_obj P, e1, placeOD, e2, hr, rngD_0]
    rw [e]
    cases (List.range p.flows.length).find? (blockR p r a pl) with
    | none => simp [natOD]
    | some b => simp [natOD]
theorem rp_app (P : Pl θ o m h) : RP A p θ o m h r ++ z = RP A p (θ ++ z) o m h r := by
  unfold RP
  rw [List.set_append_left _ _ P.lo, List.set_append_left _ _ (by simpa using P.lm), List.set_append_left _ _ (by simpa using P.lh)]
theorem Pl.app (P : Pl θ o m h) : Pl (θ ++ z) o m h := ⟨by have := P.lo; simp; omega, by have := P.lm; simp; omega, by have := P.lh; simp; omega, P.om, P.oh, P.mh⟩
def held (p : PlanM) (r : Run) (a : Nat) : Bool := (outs p (ahead p r) a).any fun t => !safe p t
theorem held_loop (hU : Uni p U) (hp : PlanOk p) (x0 x1 : Option D) : ∀ (ts : List State) (kvs : Kvs) (x3 : Option D), Inv p U kvs → (∀ t ∈ ts, U t) →
    ∃ (kvs' : Kvs) (y3 : Option D), forF (gNm 3) (sIf (tNotf (tBf (fMeth A.c_Search "is_safe" (m_Search_is_safe A) (fVar 2) (aCons (fVar 3) aNil))))
      (sRet (fC (.bl true)))
      sNx) (ts.map stateD) [x0, x1, some (.ref θ.length), x3] (θ ++ [.ins A.c_Search (srchFs A p (θ.length + 1)), .dct kvs]) =
      if (ts.any fun t => !safe p t) = true then some (.ret (.bl true) (θ ++ [.ins A.c_Search (srchFs A p (θ.length + 1)), .dct kvs'])) else some (.nx [x0, x1, some (.ref θ.length), y3] (θ ++ [.ins A.c_Search (srchFs A p (θ.length + 1)), .dct kvs']))
  | [], kvs, x3, _, _ => ⟨kvs, x3, by simp⟩
  | t :: ts, kvs, x3, hi, ht => by
    have hs : SrAt A p (θ ++ [.ins A.c_Search (srchFs A p (θ.length + 1)), .dct kvs]) θ.length (θ.length + 1) kvs := ⟨getElem?_app_len, app_len1⟩
    obtain ⟨kvs1, i1, e1⟩ := ms_search (A := A) hs hU hi hp (ht t (List.mem_cons_self ..))
    rw [app_set1] at e1
    rw [List.map_cons, forF_cons]
    cases hsf : safe p t with
    | false =>
      rw [hsf] at e1
      refine ⟨kvs1, none, ?_⟩
      simp [hs.obj, e1, hsf]
    | true =>
      rw [hsf] at e1
      obtain ⟨kvs', y3, e2⟩ := held_loop hU hp x0 x1 ts kvs1 (some (stateD t)) i1 fun u hu => ht u (List.mem_cons_of_mem _ hu)
      refine ⟨kvs', y3, ?_⟩
      simp [hs.obj, e1, hsf]
      rw [e2]
      simp
theorem mr_held (hU : Uni p U) (hp : PlanOk p) (P : Pl θ o m h) (R : RunOk p r) (ha : a < p.flows.length) (hout : ∀ t ∈ outs p (ahead p r) a, U t) : m_Runner_is_held_back A [.ref o, .int a] (RP A p θ o m h r) = some (.bl (held p r a), RP A p θ o m h r) := by
  have e0 := m_search_new (A := A) (p := p) (θ := RP A p θ o m h r)
  have hlen : (RP A p θ o m h r).length = θ.length := rp_len
  have ea := mr_ahead (A := A) (r := r) hp.wf (P.app (z := [.ins A.c_Search (srchFs A p (θ.length + 1)), .dct []])) R
  rw [← rp_app P] at ea
  obtain ⟨e1, f1, g1⟩ := ea
  have e2 := ms_outcomes (A := A) (θ := RP A p θ o m h r ++ [.ins A.c_Search (srchFs A p (θ.length + 1)), .dct []]) f1 ha hp.wf (by rw [g1]; have := R.sig; omega)
  obtain ⟨kvs', y3, e3⟩ := held_loop (A := A) (θ := RP A p θ o m h r) hU hp (some (.ref o)) (some (.int a)) (outs p (ahead p r) a) [] none Inv.nil hout
  have hob : objOf (RP A p θ o m h r ++ [.ins A.c_Search (srchFs A p (θ.length + 1)), .dct []]) (.ref o) = some (A.c_Runner, runFs A p r m h) := by
    rw [rp_app P]; exact rp_obj P.app
  rw [hlen] at e0 e3
  have e4 : m_Runner_is_held_back A [.ref o, .int a] (RP A p θ o m h r) = cutR (RP A p θ o m h r) (some (.bl (held p r a), RP A p θ o m h r ++ [.ins A.c_Search (srchFs A p (θ.length + 1)), .dct kvs'])) := by
    unfold m_Runner_is_held_back mCut
    congr 1
    simp only [bodyM_ap]
    simp [rp_obj P, e0, hob, e1, e2]
    rw [e3]
    unfold held
    cases (outs p (ahead p r) a).any fun t => !safe p t <;> simp
  rw [e4]
  exact cutR_app rfl
end Pg

set_option Elab.async false
set_option linter.all false
set_option maxRecDepth 100000
set_option maxHeartbeats 4000000
namespace Pg
open PySem L2 DL
variable {A : Adr} {p : PlanM} {θ z : Sto} {o m h : Nat} {a : Nat} {r : Run} {U : State → Prop}
/-! ### may -/
def wUnder : Nm := ⟨"under way", by decide +kernel⟩
def wEnded : Nm := ⟨"ended", by decide +kernel⟩
def wHalted : Nm := ⟨"halted", by decide +kernel⟩
def wWay : Nm := ⟨"in the way", by decide +kernel⟩
def wSignal : Nm := ⟨"signal", by decide +kernel⟩
def wHeld : Nm := ⟨"held back", by decide +kernel⟩
def wBegin : Nm := ⟨"begin", by decide +kernel⟩
def wRead : Nm := ⟨"read", by decide +kernel⟩
def wGo : Nm := ⟨"go on", by decide +kernel⟩
def isMove : Step → Bool
  | .move _ => true
  | _ => false
def isWait : Step → Bool
  | .wait _ _ => true
  | _ => false
def isIf : Step → Bool
  | .iff _ _ => true
  | _ => false
def mayOf (p : PlanM) (r : Run) (a : Nat) : Nm × Option Nat :=
  if r.mv.getD a false = true then (wUnder, none) else
  match stepAt p r.st a with
  | none => (wEnded, none)
  | some st =>
    if (r.ha.getD a false && isMove st) = true then (wHalted, none) else
    match way p r a with
    | some b => (wWay, some b)
    | none =>
      if (isWait st && !canStep p r.st a) = true then (wSignal, none) else
      if held p r a = true then (wHeld, none) else
      if isMove st = true then (wBegin, none) else
      if isIf st = true then (wRead, none) else (wGo, none)
def mayD (w : Nm × Option Nat) : D := .tup [nmD w.1, natOD w.2]
def wd : Step → Str
  | .move _ => "move"
  | .hold _ => "hold"
  | .set _ _ => "set"
  | .wait _ _ => "wait"
  | .jump _ => "jump"
  | .iff _ _ => "if"
theorem wd0 {θ : Sto} (st : Step) : gIx θ (stepD st) (.int 0) = some (.str (wd st)) := by cases st <;> simp [stepD, wd]
theorem wd_move (st : Step) : eqD (.str (wd st)) (.str "move") = some (isMove st) := by cases st <;> simp [wd, isMove]
theorem wd_wait (st : Step) : eqD (.str (wd st)) (.str "wait") = some (isWait st) := by cases st <;> simp [wd, isWait]
theorem wd_if (st : Step) : eqD (.str (wd st)) (.str "if") = some (isIf st) := by cases st <;> simp [wd, isIf]
theorem isNonD_natD (b : Nat) : isNonD (natD b) = false := rfl
theorem mr_may (hU : Uni p U) (hp : PlanOk p) (P : Pl θ o m h) (R : RunOk p r) (ha : a < p.flows.length) (hout : ∀ t ∈ outs p (ahead p r) a, U t) : m_Runner_may A [.ref o, .int a] (RP A p θ o m h r) = some (.ok (mayD (mayOf p r a)) (RP A p θ o m h r)) := by
  have e1 := mr_check (A := A) (p := p) (r := r) P (a := a) (by rw [R.lm]; exact ha)
  have e2 := rp_atm (A := A) (p := p) (r := r) P (a := a) (by rw [R.lm]; exact ha)
  have e3 := rp_ath (A := A) (p := p) (r := r) P (a := a) (by rw [R.lh]; exact ha)
  have e4 := ms_step_of (A := A) (θ := RP A p θ o m h r) R.fit ha
  have e5 := mr_way (A := A) P R ha hp.few
  have e6 := mr_held (A := A) hU hp P R ha hout
  have e7 := ms_can_step (A := A) (θ := RP A p θ o m h r) R.fit ha (by have := hp.few; omega)
  unfold m_Runner_may
  simp only [bodyX_ap]
  cases hm : r.mv.getD a false with
  | true =>
    rw [hm] at e2
    have hv : mayOf p r a = (wUnder, none) := by simp only [mayOf, hm, Bool.false_eq_true, if_false, if_true]
    rw [hv]
    simp [-gIx_ap, rp_obj P, e1, e2]
    rfl
  | false =>
    rw [hm] at e2
    cases hst : stepAt p r.st a with
    | none =>
      rw [hst] at e4
      have hv : mayOf p r a = (wEnded, none) := by simp only [mayOf, hm, hst, Bool.false_eq_true, if_false, if_true]
      rw [hv]
      simp [-gIx_ap, rp_obj P, e1, e2, e4, stepOD]
      rfl
    | some st =>
      rw [hst] at e4
      have t1 : tAndf (tBf (fOp gIx (fFld A.c_Runner "halted" (fVar 0)) (fVar 1))) (tBf (fOp gEq (fOp gIx (fVar 2) (fC (.int 0))) (fC (.str "move")))) [some (.ref o), some (.int a), some (stepD st), none] (RP A p θ o m h r) = some (r.ha.getD a false && isMove st, RP A p θ o m h r) := by
        cases hh : r.ha.getD a false <;> rw [hh] at e3 <;> simp [-gIx_ap, -step0, rp_obj P, e3, wd0, wd_move]
      have t2 : tAndf (tBf (fOp gEq (fOp gIx (fVar 2) (fC (.int 0))) (fC (.str "wait")))) (tNotf (tBf (fMeth A.c_Plan "can_step" (m_Plan_can_step A) (fFld A.c_Runner "plan" (fVar 0)) (aCons (fFld A.c_Runner "state" (fVar 0)) (aCons (fVar 1) aNil))))) [some (.ref o), some (.int a), some (stepD st), some .non] (RP A p θ o m h r) = some (isWait st && !canStep p r.st a, RP A p θ o m h r) := by
        cases hh : isWait st <;> simp [-gIx_ap, -step0, rp_obj P, wd0, wd_wait, hh, e7]
      cases b1 : (r.ha.getD a false && isMove st) with
      | true =>
        rw [b1] at t1
        have hv : mayOf p r a = (wHalted, none) := by simp only [mayOf, hm, hst, b1, Bool.false_eq_true, if_false, if_true]
        rw [hv]
        simp [-gIx_ap, -step0, -tAndf_ap, rp_obj P, e1, e2, e4, stepOD, t1]
        rfl
      | false =>
        rw [b1] at t1
        cases hw : way p r a with
        | some b =>
          rw [hw] at e5
          have hv : mayOf p r a = (wWay, some b) := by simp only [mayOf, hm, hst, b1, hw, Bool.false_eq_true, if_false, if_true]
          rw [hv]
          simp [-gIx_ap, -step0, -tAndf_ap, rp_obj P, e1, e2, e4, stepOD, t1, e5, natOD, isNonD_natD]
          rfl
        | none =>
          rw [hw] at e5
          cases b2 : (isWait st && !canStep p r.st a) with
          | true =>
            rw [b2] at t2
            have hv : mayOf p r a = (wSignal, none) := by simp only [mayOf, hm, hst, b1, hw, b2, Bool.false_eq_true, if_false, if_true]
            rw [hv]
            simp [-gIx_ap, -step0, -tAndf_ap, rp_obj P, e1, e2, e4, stepOD, t1, e5, natOD, t2]
            rfl
          | false =>
            rw [b2] at t2
            cases b3 : held p r a with
            | true =>
              rw [b3] at e6
              have hv : mayOf p r a = (wHeld, none) := by simp only [mayOf, hm, hst, b1, hw, b2, b3, Bool.false_eq_true, if_false, if_true]
              rw [hv]
              simp [-gIx_ap, -step0, -tAndf_ap, rp_obj P, e1, e2, e4, stepOD, t1, e5, natOD, t2, e6]
              rfl
            | false =>
              rw [b3] at e6
              cases b4 : isMove st with
              | true =>
                have b1' := b1
                rw [b4] at b1'
                have hv : mayOf p r a = (wBegin, none) := by simp only [mayOf, hm, hst, b1', b1, hw, b2, b3, b4, Bool.false_eq_true, if_false, if_true]
                rw [hv]
                simp [-gIx_ap, -step0, -tAndf_ap, rp_obj P, e1, e2, e4, stepOD, t1, e5, natOD, t2, e6, wd0, wd_move, b4]
                rfl
              | false =>
                have b1' := b1
                rw [b4] at b1'
                cases b5 : isIf st with
                | true =>
                  have hv : mayOf p r a = (wRead, none) := by simp only [mayOf, hm, hst, b1', b1, hw, b2, b3, b4, b5, Bool.false_eq_true, if_false, if_true]
                  rw [hv]
                  simp [-gIx_ap, -step0, -tAndf_ap, rp_obj P, e1, e2, e4, stepOD, t1, e5, natOD, t2, e6, wd0, wd_move, wd_if, b4, b5]
                  rfl
                | false =>
                  have hv : mayOf p r a = (wGo, none) := by simp only [mayOf, hm, hst, b1', b1, hw, b2, b3, b4, b5, Bool.false_eq_true, if_false, if_true]
                  rw [hv]
                  simp [-gIx_ap, -step0, -tAndf_ap, rp_obj P, e1, e2, e4, stepOD, t1, e5, natOD, t2, e6, wd0, wd_move, wd_if, b4, b5]
                  rfl
end Pg

set_option Elab.async false
set_option linter.all false
set_option maxRecDepth 100000
set_option maxHeartbeats 4000000
namespace Pg
open PySem L2 DL
variable {A : Adr} {p : PlanM} {θ z : Sto} {o m h : Nat} {a : Nat} {r : Run} {U : State → Prop}
/-! ### events -/
theorem may_len : (mayOf p r a).1.1.length ≤ 100000 := by
  unfold mayOf
  repeat' split
  all_goals first | decide +kernel | (show wWay.1.length ≤ 100000; decide +kernel)
theorem mr_told (hU : Uni p U) (hp : PlanOk p) (P : Pl θ o m h) (R : RunOk p r) (ha : a < p.flows.length) (hout : ∀ t ∈ outs p (ahead p r) a, U t) (w : Nm) :
    m_Runner_check_told A [.ref o, .int a, nmD w] (RP A p θ o m h r) = some (if (mayOf p r a).1 = w then .ok .non (RP A p θ o m h r) else .ex A.c_NotNow (RP A p θ o m h r)) := by
  have e1 := mr_may (A := A) hU hp P R ha hout
  have e2 : mayD (mayOf p r a) = .tup [nmD (mayOf p r a).1, natOD (mayOf p r a).2] := rfl
  have e3 : (mayOf p r a).1.1.length ≤ 100000 := may_len
  rw [e2] at e1
  generalize (mayOf p r a).1 = t at e1 e3
  generalize (mayOf p r a).2 = u at e1
  unfold m_Runner_check_told
  simp only [bodyX_ap]
  by_cases hw : t = w
  · simp [rp_obj P, e1, hw]
  · have e4 : nmD t = .str t.1 := rfl
    simp [rp_obj P, e1, hw]
    simp [e4, e3]
def rBegin (r : Run) (a : Nat) : Run := { r with mv := r.mv.set a true, ev := r.ev + 1 }
def rEnd (p : PlanM) (r : Run) (a : Nat) : Run := { r with mv := r.mv.set a false, st := headOut p r.st a, ev := r.ev + 1 }
def rGo (p : PlanM) (r : Run) (a : Nat) : Run := { r with st := headOut p r.st a, ev := r.ev + 1 }
def rRead (p : PlanM) (r : Run) (a : Nat) (on : Bool) : Run := { r with st := if on = true then headOut p r.st a else (outs p r.st a).getD 1 r.st, ev := r.ev + 1 }
def rHalt (r : Run) (a : Nat) (b : Bool) : Run := { r with ha := r.ha.set a b }
theorem put_ev : putFD ("events" : Str) (.int ((r.ev : Int) + 1)) (runFs A p r m h) = runFs A p { r with ev := r.ev + 1 } m h := put_events A p r m h (r.ev + 1)
theorem rp_ev (P : Pl θ o m h) {δ : Dv} (hδ : δ[0]? = some (some (.ref o))) : sFldD A.c_Runner "events" (fVar 0) (fOp gAdd (fFld A.c_Runner "events" (fVar 0)) (fC (.int 1))) δ (RP A p θ o m h r) = some (.nx δ (RP A p θ o m h { r with ev := r.ev + 1 })) := by
  have hl : (runFs A p r m h).length < 1000 := by simp [runFs]
  rw [sFldD_ap]
  simp [hδ, rp_obj P, rp_o P, hl]
  rw [put_ev]
  have hq := rp_set_o (A := A) (p := p) (r := r) P (r' := { r with ev := r.ev + 1 }) rfl rfl
  rw [hq]
theorem rp_st (P : Pl θ o m h) {δ : Dv} {f : F} {s : State} (hδ : δ[0]? = some (some (.ref o))) (hf : f δ (RP A p θ o m h r) = some (stateD s, RP A p θ o m h r)) : sFldD A.c_Runner "state" (fVar 0) f δ (RP A p θ o m h r) = some (.nx δ (RP A p θ o m h { r with st := s })) := by
  have hl : (runFs A p r m h).length < 1000 := by simp [runFs]
  rw [sFldD_ap, hf]
  simp [hδ, rp_o P, hl]
  rw [put_state]
  have hq := rp_set_o (A := A) (p := p) (r := r) P (r' := { r with st := s }) rfl rfl
  rw [hq]
theorem mr_begin (hU : Uni p U) (hp : PlanOk p) (P : Pl θ o m h) (R : RunOk p r) (ha : a < p.flows.length) (hout : ∀ t ∈ outs p (ahead p r) a, U t) :
    m_Runner_begin A [.ref o, .int a] (RP A p θ o m h r) = some (if (mayOf p r a).1 = wBegin then .ok .non (RP A p θ o m h (rBegin r a)) else .ex A.c_NotNow (RP A p θ o m h r)) := by
  have e1 := mr_told (A := A) hU hp P R ha hout wBegin
  have hw : nmD wBegin = .str "begin" := rfl
  rw [hw] at e1
  unfold m_Runner_begin
  simp only [bodyX_ap]
  by_cases hb : (mayOf p r a).1 = wBegin
  · rw [if_pos hb] at e1
    have e2 := rp_putm (A := A) (p := p) (r := r) P (a := a) (by rw [R.lm]; exact ha) true
    have e3 := rp_ev (A := A) (p := p) (r := { r with mv := r.mv.set a true }) P (δ := [some (.ref o), some (.int a)]) rfl
    rw [if_pos hb]
    simp [rp_obj P, e1, e2]
    rw [e3]
    simp [rBegin]
  · rw [if_neg hb] at e1
    rw [if_neg hb]
    simp [rp_obj P, e1]
theorem outs_cons {s : State} {st : Step} (h : stepAt p s a = some st) : ∃ ts, outs p s a = headOut p s a :: ts := by
  unfold headOut outs
  rw [h]
  cases st <;> exact ⟨_, rfl⟩
theorem mr_end (hp : PlanOk p) (P : Pl θ o m h) (R : RunOk p r) (ha : a < p.flows.length) :
    m_Runner_end A [.ref o, .int a] (RP A p θ o m h r) = some (if (r.mv.getD a false && !r.ha.getD a false) = true then .ok .non (RP A p θ o m h (rEnd p r a)) else .ex A.c_NotNow (RP A p θ o m h r)) := by
  have e1 := mr_check (A := A) (p := p) (r := r) P (a := a) (by rw [R.lm]; exact ha)
  have e2 := rp_atm (A := A) (p := p) (r := r) P (a := a) (by rw [R.lm]; exact ha)
  have e3 := rp_ath (A := A) (p := p) (r := r) P (a := a) (by rw [R.lh]; exact ha)
  have e4 := rp_putm (A := A) (p := p) (r := r) P (a := a) (by rw [R.lm]; exact ha) false
  unfold m_Runner_end
  simp only [bodyX_ap]
  cases hm : r.mv.getD a false with
  | false =>
    rw [hm] at e2
    simp [-gIx_ap, rp_obj P, e1, e2]
  | true =>
    rw [hm] at e2
    cases hh : r.ha.getD a false with
    | true =>
      rw [hh] at e3
      simp [-gIx_ap, rp_obj P, e1, e2, e3]
    | false =>
      rw [hh] at e3
      obtain ⟨q, hq⟩ := R.mvs a hm
      obtain ⟨ts, ho⟩ := outs_cons hq
      have e5 := ms_outcomes (A := A) (θ := RP A p θ o m h { r with mv := r.mv.set a false }) R.fit ha hp.wf (by have := R.sig; omega)
      rw [ho] at e5
      have e6 := rp_st (A := A) (p := p) (r := { r with mv := r.mv.set a false }) P (δ := [some (.ref o), some (.int a)]) (s := headOut p r.st a) (f := fOp gIx (fMeth A.c_Plan "outcomes" (m_Plan_outcomes A) (fFld A.c_Runner "plan" (fVar 0)) (aCons (fFld A.c_Runner "state" (fVar 0)) (aCons (fVar 1) aNil))) (fC (.int 0))) rfl (by simp [rp_obj P, e5])
      have e7 := rp_ev (A := A) (p := p) (r := { r with mv := r.mv.set a false, st := headOut p r.st a }) P (δ := [some (.ref o), some (.int a)]) rfl
      simp [-gIx_ap, rp_obj P, e1, e2, e3, e4]
      rw [e6]
      simp only
      rw [e7]
      simp [rEnd]
theorem mr_halt (P : Pl θ o m h) (R : RunOk p r) (ha : a < p.flows.length) :
    m_Runner_halt A [.ref o, .int a] (RP A p θ o m h r) = some (if r.ha.getD a false = true then .ex A.c_NotNow (RP A p θ o m h r) else .ok .non (RP A p θ o m h (rHalt r a true))) := by
  have e1 := mr_check (A := A) (p := p) (r := r) P (a := a) (by rw [R.lm]; exact ha)
  have e3 := rp_ath (A := A) (p := p) (r := r) P (a := a) (by rw [R.lh]; exact ha)
  have e4 := rp_puth (A := A) (p := p) (r := r) P (a := a) (by rw [R.lh]; exact ha) true
  unfold m_Runner_halt
  simp only [bodyX_ap]
  cases hh : r.ha.getD a false <;> rw [hh] at e3 <;> simp [-gIx_ap, rp_obj P, e1, e3, e4, rHalt]
theorem mr_free (P : Pl θ o m h) (R : RunOk p r) (ha : a < p.flows.length) :
    m_Runner_free A [.ref o, .int a] (RP A p θ o m h r) = some (if r.ha.getD a false = true then .ok .non (RP A p θ o m h (rHalt r a false)) else .ex A.c_NotNow (RP A p θ o m h r)) := by
  have e1 := mr_check (A := A) (p := p) (r := r) P (a := a) (by rw [R.lm]; exact ha)
  have e3 := rp_ath (A := A) (p := p) (r := r) P (a := a) (by rw [R.lh]; exact ha)
  have e4 := rp_puth (A := A) (p := p) (r := r) P (a := a) (by rw [R.lh]; exact ha) false
  unfold m_Runner_free
  simp only [bodyX_ap]
  cases hh : r.ha.getD a false <;> rw [hh] at e3 <;> simp [-gIx_ap, rp_obj P, e1, e3, e4, rHalt]
end Pg

set_option Elab.async false
set_option linter.all false
set_option maxRecDepth 100000
set_option maxHeartbeats 4000000
namespace Pg
open PySem L2 DL
variable {A : Adr} {p : PlanM} {θ z : Sto} {o m h : Nat} {a : Nat} {r : Run} {U : State → Prop}
/-- what a word says -/
theorem may_begin (hw : (mayOf p r a).1 = wBegin) : r.mv.getD a false = false ∧ (∃ q, stepAt p r.st a = some (.move q)) ∧ r.ha.getD a false = false ∧ way p r a = none ∧ held p r a = false := by
  have d1 : wUnder ≠ wBegin := by decide +kernel
  have d2 : wEnded ≠ wBegin := by decide +kernel
  have d3 : wHalted ≠ wBegin := by decide +kernel
  have d4 : wWay ≠ wBegin := by decide +kernel
  have d5 : wSignal ≠ wBegin := by decide +kernel
  have d6 : wHeld ≠ wBegin := by decide +kernel
  have d7 : wRead ≠ wBegin := by decide +kernel
  have d8 : wGo ≠ wBegin := by decide +kernel
  unfold mayOf at hw
  cases hm : r.mv.getD a false with
  | true => simp only [hm, if_true] at hw; exact (d1 hw).elim
  | false =>
    cases hst : stepAt p r.st a with
    | none => simp only [hm, hst, Bool.false_eq_true, if_false] at hw; exact (d2 hw).elim
    | some st =>
      simp only [hm, hst, Bool.false_eq_true, if_false] at hw
      split at hw
      · exact (d3 hw).elim
      · rename_i h1
        split at hw
        · exact (d4 hw).elim
        · rename_i h2
          split at hw
          · exact (d5 hw).elim
          · split at hw
            · exact (d6 hw).elim
            · rename_i h4
              split at hw
              · rename_i h5
                cases st with
                | move q =>
                  refine ⟨rfl, ⟨q, rfl⟩, ?_, h2, by simpa using h4⟩
                  cases hh : r.ha.getD a false
                  · rfl
                  · exact (h1 (by rw [hh]; rfl)).elim
                | _ => exact (Bool.false_ne_true h5).elim
              · split at hw
                · exact (d7 hw).elim
                · exact (d8 hw).elim
theorem may_go (hw : (mayOf p r a).1 = wGo) : r.mv.getD a false = false ∧ (∃ st, stepAt p r.st a = some st ∧ isMove st = false ∧ isIf st = false ∧ (isWait st = true → canStep p r.st a = true)) ∧ way p r a = none ∧ held p r a = false := by
  have d1 : wUnder ≠ wGo := by decide +kernel
  have d2 : wEnded ≠ wGo := by decide +kernel
  have d3 : wHalted ≠ wGo := by decide +kernel
  have d4 : wWay ≠ wGo := by decide +kernel
  have d5 : wSignal ≠ wGo := by decide +kernel
  have d6 : wHeld ≠ wGo := by decide +kernel
  have d7 : wRead ≠ wGo := by decide +kernel
  have d8 : wBegin ≠ wGo := by decide +kernel
  unfold mayOf at hw
  cases hm : r.mv.getD a false with
  | true => simp only [hm, if_true] at hw; exact (d1 hw).elim
  | false =>
    cases hst : stepAt p r.st a with
    | none => simp only [hm, hst, Bool.false_eq_true, if_false] at hw; exact (d2 hw).elim
    | some st =>
      simp only [hm, hst, Bool.false_eq_true, if_false] at hw
      split at hw
      · exact (d3 hw).elim
      · split at hw
        · exact (d4 hw).elim
        · rename_i h2
          split at hw
          · exact (d5 hw).elim
          · rename_i h3
            split at hw
            · exact (d6 hw).elim
            · rename_i h4
              split at hw
              · exact (d8 hw).elim
              · rename_i h5
                split at hw
                · exact (d7 hw).elim
                · rename_i h6
                  refine ⟨rfl, ⟨st, rfl, by simpa using h5, by simpa using h6, fun hwt => ?_⟩, h2, by simpa using h4⟩
                  cases hc : canStep p r.st a
                  · exact (h3 (by rw [hwt, hc]; rfl)).elim
                  · rfl
theorem may_read (hw : (mayOf p r a).1 = wRead) : r.mv.getD a false = false ∧ (∃ i n, stepAt p r.st a = some (.iff i n)) ∧ way p r a = none ∧ held p r a = false := by
  have d1 : wUnder ≠ wRead := by decide +kernel
  have d2 : wEnded ≠ wRead := by decide +kernel
  have d3 : wHalted ≠ wRead := by decide +kernel
  have d4 : wWay ≠ wRead := by decide +kernel
  have d5 : wSignal ≠ wRead := by decide +kernel
  have d6 : wHeld ≠ wRead := by decide +kernel
  have d7 : wGo ≠ wRead := by decide +kernel
  have d8 : wBegin ≠ wRead := by decide +kernel
  unfold mayOf at hw
  cases hm : r.mv.getD a false with
  | true => simp only [hm, if_true] at hw; exact (d1 hw).elim
  | false =>
    cases hst : stepAt p r.st a with
    | none => simp only [hm, hst, Bool.false_eq_true, if_false] at hw; exact (d2 hw).elim
    | some st =>
      simp only [hm, hst, Bool.false_eq_true, if_false] at hw
      split at hw
      · exact (d3 hw).elim
      · split at hw
        · exact (d4 hw).elim
        · rename_i h2
          split at hw
          · exact (d5 hw).elim
          · split at hw
            · exact (d6 hw).elim
            · rename_i h4
              split at hw
              · exact (d8 hw).elim
              · split at hw
                · rename_i h6
                  cases st with
                  | iff i n => exact ⟨rfl, ⟨i, n, rfl⟩, h2, by simpa using h4⟩
                  | _ => exact (Bool.false_ne_true h6).elim
                · exact (d7 hw).elim
theorem mr_go (hU : Uni p U) (hp : PlanOk p) (P : Pl θ o m h) (R : RunOk p r) (ha : a < p.flows.length) (hout : ∀ t ∈ outs p (ahead p r) a, U t) :
    m_Runner_go_on A [.ref o, .int a] (RP A p θ o m h r) = some (if (mayOf p r a).1 = wGo then .ok .non (RP A p θ o m h (rGo p r a)) else .ex A.c_NotNow (RP A p θ o m h r)) := by
  have e1 := mr_told (A := A) hU hp P R ha hout wGo
  have hw : nmD wGo = .str "go on" := rfl
  rw [hw] at e1
  unfold m_Runner_go_on
  simp only [bodyX_ap]
  by_cases hb : (mayOf p r a).1 = wGo
  · rw [if_pos hb] at e1
    obtain ⟨_, ⟨st, hst, _⟩, _⟩ := may_go hb
    obtain ⟨ts, ho⟩ := outs_cons hst
    have e5 := ms_outcomes (A := A) (θ := RP A p θ o m h r) R.fit ha hp.wf (by have := R.sig; omega)
    rw [ho] at e5
    have e6 := rp_st (A := A) (p := p) (r := r) P (δ := [some (.ref o), some (.int a)]) (s := headOut p r.st a) (f := fOp gIx (fMeth A.c_Plan "outcomes" (m_Plan_outcomes A) (fFld A.c_Runner "plan" (fVar 0)) (aCons (fFld A.c_Runner "state" (fVar 0)) (aCons (fVar 1) aNil))) (fC (.int 0))) rfl (by simp [rp_obj P, e5])
    have e7 := rp_ev (A := A) (p := p) (r := { r with st := headOut p r.st a }) P (δ := [some (.ref o), some (.int a)]) rfl
    rw [if_pos hb]
    simp [-gIx_ap, rp_obj P, e1]
    rw [e6]
    simp only
    rw [e7]
    simp [rGo]
  · rw [if_neg hb] at e1
    rw [if_neg hb]
    simp [rp_obj P, e1]
theorem mr_read (hU : Uni p U) (hp : PlanOk p) (P : Pl θ o m h) (R : RunOk p r) (ha : a < p.flows.length) (hout : ∀ t ∈ outs p (ahead p r) a, U t) (on : Bool) :
    m_Runner_read_input A [.ref o, .int a, .bl on] (RP A p θ o m h r) = some (if (mayOf p r a).1 = wRead then .ok .non (RP A p θ o m h (rRead p r a on)) else .ex A.c_NotNow (RP A p θ o m h r)) := by
  have e1 := mr_told (A := A) hU hp P R ha hout wRead
  have hw : nmD wRead = .str "read" := rfl
  rw [hw] at e1
  unfold m_Runner_read_input
  simp only [bodyX_ap]
  by_cases hb : (mayOf p r a).1 = wRead
  · rw [if_pos hb] at e1
    obtain ⟨_, ⟨i, n, hst⟩, _⟩ := may_read hb
    have ho : ∃ x y, outs p r.st a = [x, y] ∧ headOut p r.st a = x ∧ (outs p r.st a).getD 1 r.st = y := by
      unfold headOut outs
      rw [hst]
      exact ⟨_, _, rfl, rfl, rfl⟩
    obtain ⟨x, y, o1, o2, o3⟩ := ho
    have e5 := ms_outcomes (A := A) (θ := RP A p θ o m h r) R.fit ha hp.wf (by have := R.sig; omega)
    rw [o1] at e5
    have e6 := rp_st (A := A) (p := p) (r := r) P (δ := [some (.ref o), some (.int a), some (.bl on)]) (s := if on = true then x else y) (f := fOp gIx (fMeth A.c_Plan "outcomes" (m_Plan_outcomes A) (fFld A.c_Runner "plan" (fVar 0)) (aCons (fFld A.c_Runner "state" (fVar 0)) (aCons (fVar 1) aNil))) (fIf (tBf (fVar 2)) (fC (.int 0)) (fC (.int 1)))) rfl (by cases on <;> simp [rp_obj P, e5])
    have e7 := rp_ev (A := A) (p := p) (r := { r with st := if on = true then x else y }) P (δ := [some (.ref o), some (.int a), some (.bl on)]) rfl
    rw [if_pos hb]
    have hr : rRead p r a on = { r with st := if on = true then x else y, ev := r.ev + 1 } := by unfold rRead; rw [o2, o3]
    rw [hr]
    simp [-gIx_ap, rp_obj P, e1]
    rw [e6]
    simp only
    rw [e7]
  · rw [if_neg hb] at e1
    rw [if_neg hb]
    simp [rp_obj P, e1]
end Pg

set_option Elab.async false
set_option linter.all false
set_option maxRecDepth 100000
set_option maxHeartbeats 4000000
namespace Pg
open PySem L2 DL
variable {A : Adr} {p : PlanM} {θ z : Sto} {o m h : Nat} {a : Nat} {r : Run} {U : State → Prop}
/-! ### a runner is made -/
def run0 (p : PlanM) : Run := ⟨firstS p, 0, List.replicate p.flows.length false, List.replicate p.flows.length false⟩
theorem lc_false (δw : Dv) : ∀ (fs : List Flow) (acc : List Bool) (θ : Sto), acc.length + fs.length ≤ 1000 →
    lcF (gNm 2) tTrue (fC (.bl false)) δw θ.length (fs.map flowD) (θ ++ [.lst (acc.map D.bl)]) = some (θ ++ [.lst ((acc ++ List.replicate fs.length false).map D.bl)])
  | [], acc, θ, _ => by simp [lcF]
  | f :: fs, acc, θ, hl => by
    simp only [List.length_cons] at hl
    have ih := lc_false δw fs (acc ++ [false]) θ (by simp; omega)
    have hl2 : acc.length < 100000 := by omega
    rw [List.map_cons]
    unfold lcF
    simp [tTrue, getElem?_app_len, set_app_len, hl2] at ih ⊢
    rw [ih]
    simp [List.replicate_succ]
theorem comp_false {x0 : Option D} {x2 : Option D} (hl : p.flows.length ≤ 1000) : fLCM (iSeq (fFld A.c_Plan "flows" (fVar 1))) (gNm 2) tTrue (fC (.bl false)) [2] [x0, some (planD A p), x2] θ = some (.ref θ.length, θ ++ [.lst ((List.replicate p.flows.length false).map D.bl)]) := by
  have e := lc_false (wipeD [x0, some (planD A p), x2] [2]) p.flows [] θ (by simpa using hl)
  have e1 : iSeq (fFld A.c_Plan "flows" (fVar 1)) [x0, some (planD A p), x2] θ = some (p.flows.map flowD, θ) := by simp
  unfold fLCM
  rw [e1]
  simp only
  simp at e
  simp
  rw [e]
theorem init_safe (hU : Uni p U) (hp : PlanOk p) {s : State} (hs : U s) {fo : F} {δ : Dv} (hδ : δ[1]? = some (some (planD A p))) (hfo : ∀ z : Sto, fo δ (θ ++ z) = some (stateD s, θ ++ z)) :
    fCut (fMeth A.c_Search "is_safe" (m_Search_is_safe A) (fCallD (mNew A.c_Search (m_Search___init__ A)) [] (aCons (fVar 1) aNil)) (aCons fo aNil)) δ θ = some (.bl (safe p s), θ) := by
  have e1 := m_search_new (A := A) (p := p) (θ := θ)
  have hs1 : SrAt A p (θ ++ [.ins A.c_Search (srchFs A p (θ.length + 1)), .dct []]) θ.length (θ.length + 1) [] := ⟨getElem?_app_len, app_len1⟩
  obtain ⟨kvs', _, e2⟩ := ms_search (A := A) hs1 hU Inv.nil hp hs
  rw [app_set1] at e2
  have e3 : (fMeth A.c_Search "is_safe" (m_Search_is_safe A) (fCallD (mNew A.c_Search (m_Search___init__ A)) [] (aCons (fVar 1) aNil)) (aCons fo aNil)) δ θ = some (.bl (safe p s), θ ++ [.ins A.c_Search (srchFs A p (θ.length + 1)), .dct kvs']) := by
    simp [hδ, e1, hs1.obj, hfo, e2]
  show cutR θ _ = _
  rw [e3]
  exact cutR_app rfl
theorem putA (x : D) : putFD ("plan" : Str) x [] = [(("plan" : Str), x)] := rfl
theorem putB' (x y : D) : putFD ("state" : Str) y [(("plan" : Str), x)] = [(("plan" : Str), x), (("state" : Str), y)] := by
  simp only [putFD]; rw [if_neg (by decide +kernel)]
theorem putC (x y z : D) : putFD ("events" : Str) z [(("plan" : Str), x), (("state" : Str), y)] = [(("plan" : Str), x), (("state" : Str), y), (("events" : Str), z)] := by
  simp only [putFD]; rw [if_neg (by decide +kernel), if_neg (by decide +kernel)]
theorem putD (x y z u : D) : putFD ("moving" : Str) u [(("plan" : Str), x), (("state" : Str), y), (("events" : Str), z)] = [(("plan" : Str), x), (("state" : Str), y), (("events" : Str), z), (("moving" : Str), u)] := by
  simp only [putFD]; rw [if_neg (by decide +kernel), if_neg (by decide +kernel), if_neg (by decide +kernel)]
theorem putE (x y z u v : D) : putFD ("halted" : Str) v [(("plan" : Str), x), (("state" : Str), y), (("events" : Str), z), (("moving" : Str), u)] = [(("plan" : Str), x), (("state" : Str), y), (("events" : Str), z), (("moving" : Str), u), (("halted" : Str), v)] := by
  simp only [putFD]; rw [if_neg (by decide +kernel), if_neg (by decide +kernel), if_neg (by decide +kernel), if_neg (by decide +kernel)]
def newSto (A : Adr) (p : PlanM) (θ : Sto) : Sto := θ ++ [.ins A.c_Runner (runFs A p (run0 p) (θ.length + 1) (θ.length + 2)), .lst ((run0 p).mv.map D.bl), .lst ((run0 p).ha.map D.bl)]
theorem mr_new (hU : Uni p U) (hp : PlanOk p) (hs : U (firstS p)) (hst : p.starts.length = p.flows.length) : mNewX A.c_Runner (m_Runner___init__ A) [planD A p] θ = some (if safe p (firstS p) = true then .ok (.ref θ.length) (newSto A p θ) else .ex A.c_NotSafe (newSto A p θ)) := by
  have hn : p.flows.length ≤ 1000 := by have := hp.few; omega
  have h1 : ∀ c d : Cell, (θ ++ [c]).set θ.length d = θ ++ [d] := fun c d => set_app_len
  have h2 : ∀ c d e : Cell, (θ ++ [c, e]).set θ.length d = θ ++ [d, e] := fun c d e => set_app_len
  have h3 : ∀ c d e f : Cell, (θ ++ [c, e, f]).set θ.length d = θ ++ [d, e, f] := fun c d e f => set_app_len
  have f1 := fun θ => ms_first (A := A) (p := p) (θ := θ) hp.wf hst hn
  have e4 := init_safe (A := A) (θ := newSto A p θ) hU hp hs (δ := [some (.ref θ.length), some (planD A p), none]) (fo := fFld A.c_Runner "state" (fVar 0)) rfl (fun z => by
    have : (newSto A p θ ++ z)[θ.length]? = some (.ins A.c_Runner (runFs A p (run0 p) (θ.length + 1) (θ.length + 2))) := by
      unfold newSto
      rw [List.append_assoc]
      exact getElem?_app_len
    simp [objOf_ref, this, run0])
  have hinit : m_Runner___init__ A [.ref θ.length, planD A p] (θ ++ [.ins A.c_Runner []]) = some (if safe p (firstS p) = true then .ok .non (newSto A p θ) else .ex A.c_NotSafe (newSto A p θ)) := by
    have c1 := comp_false (A := A) (p := p) (x0 := some (.ref θ.length)) (x2 := none) (θ := θ ++ [.ins A.c_Runner [(("plan" : Str), planD A p), (("state" : Str), stateD (firstS p)), (("events" : Str), .int 0)]]) hn
    have c2 := comp_false (A := A) (p := p) (x0 := some (.ref θ.length)) (x2 := none) (θ := θ ++ [.ins A.c_Runner [(("plan" : Str), planD A p), (("state" : Str), stateD (firstS p)), (("events" : Str), .int 0), (("moving" : Str), .ref (θ.length + 1))], .lst ((List.replicate p.flows.length false).map D.bl)]) hn
    simp at c1 c2
    unfold m_Runner___init__
    simp only [bodyX_ap]
    simp [sFldD_ap, getElem?_app_len, h1, h2, h3, f1, putA, putB', putC, putD, putE, c1, c2]
    unfold newSto runFs run0 at e4
    simp at e4
    simp [e4]
    unfold newSto runFs run0
    cases safe p (firstS p) <;> simp
  unfold mNewX
  rw [hinit]
  cases safe p (firstS p) <;> simp
theorem newSto_is : newSto A p θ = RP A p (θ ++ [.lst [], .lst [], .lst []]) θ.length (θ.length + 1) (θ.length + 2) (run0 p) := by
  unfold newSto RP
  rw [List.set_append_right _ _ (Nat.le_refl _), List.set_append_right _ _ (by omega), List.set_append_right _ _ (by omega)]
  simp
end Pg

set_option Elab.async false
set_option linter.all false
set_option maxRecDepth 100000
set_option maxHeartbeats 4000000
namespace Pg
open PySem L2 DL
variable {A : Adr} {p : PlanM} {θ z : Sto} {o m h : Nat} {a : Nat} {r : Run} {U : State → Prop}
/-! ### a law's new runner, a law's event -/
theorem mr_law_new (hU : Uni p U) (hp : PlanOk p) (hs : U (firstS p)) (hst : p.starts.length = p.flows.length) : m__law_new A [planD A p] θ = some (if safe p (firstS p) = true then .ref θ.length else .non, newSto A p θ) := by
  have e1 := mr_new (A := A) (θ := θ) hU hp hs hst
  unfold m__law_new
  simp only [bodyM_ap]
  cases hsf : safe p (firstS p) with
  | true =>
    rw [hsf] at e1
    have hb : sAsgX (xCall (mNewX A.c_Runner (m_Runner___init__ A)) (aCons (fVar 0) aNil)) (gNm 1) [some (planD A p), none, none] θ = some (.nx [some (planD A p), some (.ref θ.length), none] (newSto A p θ)) := by simp [e1]
    have ht := sTry_ok (cX := A.c_NotSafe) (others := [A.c_NotNow, A.c_UnknownArm]) (i := 2) (gs := fun a => sRet (fC .non)) hb (fun _ _ _ h => by cases h)
    simp
    rw [ht]
    simp
  | false =>
    rw [hsf] at e1
    have hb : sAsgX (xCall (mNewX A.c_Runner (m_Runner___init__ A)) (aCons (fVar 0) aNil)) (gNm 1) [some (planD A p), none, none] θ = some (.ex A.c_NotSafe [some (planD A p), none, none] (newSto A p θ)) := by simp [e1]
    have ht := sTry_ex (cX := A.c_NotSafe) (others := [A.c_NotNow, A.c_UnknownArm]) (i := 2) (gs := fun a => sRet (fC .non)) (o := .ret .non (newSto A p θ)) hb (fun a => by simp [unE])
    simp
    rw [ht]
def evOk (p : PlanM) (r : Run) (k a : Nat) : Option Run := match k with
  | 0 => if (mayOf p r a).1 = wBegin then some (rBegin r a) else none
  | 1 => if (r.mv.getD a false && !r.ha.getD a false) = true then some (rEnd p r a) else none
  | 2 => if (mayOf p r a).1 = wGo then some (rGo p r a) else none
  | 3 => if (mayOf p r a).1 = wRead then some (rRead p r a true) else none
  | 4 => if (mayOf p r a).1 = wRead then some (rRead p r a false) else none
  | 5 => if r.ha.getD a false = true then none else some (rHalt r a true)
  | _ => if r.ha.getD a false = true then some (rHalt r a false) else none
noncomputable def evB (A : Adr) : FS := (sIf (tBf (fOp gEq (fVar 1) (fC (.int 0))))
      (sExprX (xMeth A.c_Runner "begin" (m_Runner_begin A) (fVar 0) (aCons (fVar 2) aNil)))
      (sIf (tBf (fOp gEq (fVar 1) (fC (.int 1))))
      (sExprX (xMeth A.c_Runner "end" (m_Runner_end A) (fVar 0) (aCons (fVar 2) aNil)))
      (sIf (tBf (fOp gEq (fVar 1) (fC (.int 2))))
      (sExprX (xMeth A.c_Runner "go_on" (m_Runner_go_on A) (fVar 0) (aCons (fVar 2) aNil)))
      (sIf (tBf (fOp gEq (fVar 1) (fC (.int 3))))
      (sExprX (xMethK A.c_Runner "read_input" (m_Runner_read_input A) (fVar 0) (aCons (fVar 2) aNil) (aCons (fC (.bl true)) aNil)))
      (sIf (tBf (fOp gEq (fVar 1) (fC (.int 4))))
      (sExprX (xMethK A.c_Runner "read_input" (m_Runner_read_input A) (fVar 0) (aCons (fVar 2) aNil) (aCons (fC (.bl false)) aNil)))
      (sIf (tBf (fOp gEq (fVar 1) (fC (.int 5))))
      (sExprX (xMeth A.c_Runner "halt" (m_Runner_halt A) (fVar 0) (aCons (fVar 2) aNil)))
      (sExprX (xMeth A.c_Runner "free" (m_Runner_free A) (fVar 0) (aCons (fVar 2) aNil)))))))))
theorem ev_body (hU : Uni p U) (hp : PlanOk p) (P : Pl θ o m h) (R : RunOk p r) (ha : a < p.flows.length) (hout : ∀ t ∈ outs p (ahead p r) a, U t) {k : Nat} (hk : k ≤ 6) :
    evB A [some (.ref o), some (.int k), some (.int a), none] (RP A p θ o m h r) = some (match evOk p r k a with
      | some r' => .nx [some (.ref o), some (.int k), some (.int a), none] (RP A p θ o m h r')
      | none => .ex A.c_NotNow [some (.ref o), some (.int k), some (.int a), none] (RP A p θ o m h r)) := by
  have hob := rp_obj (A := A) (p := p) (r := r) P
  have kc : k = 0 ∨ k = 1 ∨ k = 2 ∨ k = 3 ∨ k = 4 ∨ k = 5 ∨ k = 6 := by omega
  unfold evB
  rcases kc with rfl | rfl | rfl | rfl | rfl | rfl | rfl
  · have e := mr_begin (A := A) hU hp P R ha hout
    unfold evOk
    by_cases hc : (mayOf p r a).1 = wBegin
    · rw [if_pos hc] at e; simp [hob, e, hc]
    · rw [if_neg hc] at e; simp [hob, e, hc]
  · have e := mr_end (A := A) hp P R ha
    unfold evOk
    cases hc : (r.mv.getD a false && !r.ha.getD a false) with
    | true => rw [hc] at e; simp only [if_true] at e ⊢; simp [hob, e]
    | false => rw [hc] at e; simp only [Bool.false_eq_true, if_false] at e ⊢; simp [hob, e]
  · have e := mr_go (A := A) hU hp P R ha hout
    unfold evOk
    by_cases hc : (mayOf p r a).1 = wGo
    · rw [if_pos hc] at e; simp [hob, e, hc]
    · rw [if_neg hc] at e; simp [hob, e, hc]
  · have e := mr_read (A := A) hU hp P R ha hout true
    unfold evOk
    by_cases hc : (mayOf p r a).1 = wRead
    · rw [if_pos hc] at e; simp [hob, e, hc]
    · rw [if_neg hc] at e; simp [hob, e, hc]
  · have e := mr_read (A := A) hU hp P R ha hout false
    unfold evOk
    by_cases hc : (mayOf p r a).1 = wRead
    · rw [if_pos hc] at e; simp [hob, e, hc]
    · rw [if_neg hc] at e; simp [hob, e, hc]
  · have e := mr_halt (A := A) P R ha
    unfold evOk
    cases hc : r.ha.getD a false with
    | true => rw [hc] at e; simp only [if_true] at e ⊢; simp [hob, e]
    | false => rw [hc] at e; simp only [Bool.false_eq_true, if_false] at e ⊢; simp [hob, e]
  · have e := mr_free (A := A) P R ha
    unfold evOk
    cases hc : r.ha.getD a false with
    | true => rw [hc] at e; simp only [if_true] at e ⊢; simp [hob, e]
    | false => rw [hc] at e; simp only [Bool.false_eq_true, if_false] at e ⊢; simp [hob, e]
end Pg

set_option Elab.async false
set_option linter.all false
set_option maxRecDepth 100000
set_option maxHeartbeats 4000000
namespace Pg
open PySem L2 DL
variable {p : PlanM} {a b : Nat} {r : Run} {s t : State}
/-! ### the state ahead, arm by arm -/
theorem spots_ext {xs ys : List Spot} (hl : xs.length = ys.length) (h : ∀ b, b < xs.length → xs.getD b ⟨0, ⟨"p", by decide +kernel⟩, none⟩ = ys.getD b ⟨0, ⟨"p", by decide +kernel⟩, none⟩) : xs = ys := by
  refine List.ext_getElem hl fun i h1 h2 => ?_
  have := h i h1
  rw [List.getD_eq_getElem?_getD, List.getD_eq_getElem?_getD, List.getElem?_eq_getElem h1, List.getElem?_eq_getElem h2] at this
  exact this
theorem state_ext (hl : s.spots.length = t.spots.length) (h : ∀ b, b < s.spots.length → spotAt s b = spotAt t b) (hg : s.sig = t.sig) : s = t := by
  cases s; cases t
  simp only [State.mk.injEq]
  exact ⟨spots_ext hl h, hg⟩
/-- where a moving arm will be -/
def goSpot (p : PlanM) (s : State) (b : Nat) : Spot := match stepAt p s b with
  | some (.move q) => ⟨land (flowAt p b) ((spotAt s b).at_ + 1), q, (spotAt s b).held⟩
  | _ => spotAt s b
theorem aheadL_spot (mv : List Bool) : ∀ (ks : List Nat) (s : State), ks.Nodup → (∀ a ∈ ks, a < p.flows.length) → s.spots.length = p.flows.length →
    (∀ a ∈ ks, mv.getD a false = true → ∃ q, stepAt p s a = some (.move q)) → ∀ b, spotAt (aheadL p mv ks s) b = if b ∈ ks ∧ mv.getD b false = true then goSpot p s b else spotAt s b
  | [], s, _, _, _, _, b => by simp [aheadL]
  | a :: ks, s, hnd, hk, hf, hm, b => by
    obtain ⟨hn1, hn2⟩ := List.nodup_cons.mp hnd
    have ha := hk a (List.mem_cons_self ..)
    unfold aheadL
    cases hb : mv.getD a false with
    | false =>
      have ih := aheadL_spot mv ks s hn2 (fun c hc => hk c (List.mem_cons_of_mem _ hc)) hf (fun c hc => hm c (List.mem_cons_of_mem _ hc)) b
      simp only [Bool.false_eq_true, if_false]
      rw [ih]
      by_cases hba : b = a
      · subst hba
        rw [if_neg (fun q => by rw [hb] at q; exact Bool.false_ne_true q.2), if_neg (fun q => by rw [hb] at q; exact Bool.false_ne_true q.2)]
      · simp [hba]
    | true =>
      obtain ⟨q, hq⟩ := hm a (List.mem_cons_self ..) hb
      have ho := headOut_move hq
      have ih := aheadL_spot mv ks (headOut p s a) hn2 (fun c hc => hk c (List.mem_cons_of_mem _ hc)) (by rw [ho]; simp [moved, hf]) (fun c hc hmv => by
        obtain ⟨q', hq'⟩ := hm c (List.mem_cons_of_mem _ hc) hmv
        refine ⟨q', ?_⟩
        rw [ho, stepAt_moved (by rw [hf]; exact ha) (fun e => hn1 (by rw [← e]; exact hc))]
        exact hq') b
      simp only [if_true]
      rw [ih]
      by_cases hba : b = a
      · subst hba
        rw [if_neg (fun q => hn1 q.1), if_pos ⟨List.mem_cons_self .., hb⟩, ho, spotAt_moved (by rw [hf]; exact ha), if_pos rfl]
        unfold goSpot
        rw [hq]
      · have e1 : spotAt (headOut p s a) b = spotAt s b := by rw [ho, spotAt_moved (by rw [hf]; exact ha), if_neg hba]
        have e2 : goSpot p (headOut p s a) b = goSpot p s b := by
          unfold goSpot
          rw [e1, ho, stepAt_moved (by rw [hf]; exact ha) hba]
        rw [e1, e2]
        simp [hba]
end Pg

set_option Elab.async false
set_option linter.all false
set_option maxRecDepth 100000
set_option maxHeartbeats 4000000
namespace Pg
open PySem L2 DL
variable {p : PlanM} {a b : Nat} {r : Run} {s t : State}
theorem aheadL_fit (mv : List Bool) : ∀ (ks : List Nat) (s : State), ks.Nodup → (∀ a ∈ ks, a < p.flows.length) → s.spots.length = p.flows.length →
    (∀ a ∈ ks, mv.getD a false = true → ∃ q, stepAt p s a = some (.move q)) → (aheadL p mv ks s).spots.length = p.flows.length ∧ (aheadL p mv ks s).sig = s.sig
  | [], s, _, _, hf, _ => ⟨hf, rfl⟩
  | a :: ks, s, hnd, hk, hf, hm => by
    obtain ⟨hn1, hn2⟩ := List.nodup_cons.mp hnd
    have ha := hk a (List.mem_cons_self ..)
    unfold aheadL
    cases hb : mv.getD a false with
    | false =>
      simp only [Bool.false_eq_true, if_false]
      exact aheadL_fit mv ks s hn2 (fun c hc => hk c (List.mem_cons_of_mem _ hc)) hf (fun c hc => hm c (List.mem_cons_of_mem _ hc))
    | true =>
      obtain ⟨q, hq⟩ := hm a (List.mem_cons_self ..) hb
      have ho := headOut_move hq
      simp only [if_true]
      have ih := aheadL_fit mv ks (headOut p s a) hn2 (fun c hc => hk c (List.mem_cons_of_mem _ hc)) (by rw [ho]; simp [moved, hf]) (fun c hc hmv => by
        obtain ⟨q', hq'⟩ := hm c (List.mem_cons_of_mem _ hc) hmv
        refine ⟨q', ?_⟩
        rw [ho, stepAt_moved (by rw [hf]; exact ha) (fun e => hn1 (by rw [← e]; exact hc))]
        exact hq')
      exact ⟨ih.1, by rw [ih.2, ho]; rfl⟩
theorem RunOk.aheads (R : RunOk p r) : (ahead p r).spots.length = p.flows.length ∧ (ahead p r).sig = r.st.sig ∧ ∀ b, b < p.flows.length → spotAt (ahead p r) b = if r.mv.getD b false = true then goSpot p r.st b else spotAt r.st b := by
  have hk : ∀ a ∈ List.range r.mv.length, a < p.flows.length := fun a ha => by rw [← R.lm]; exact List.mem_range.mp ha
  obtain ⟨h1, h2⟩ := aheadL_fit r.mv (List.range r.mv.length) r.st List.nodup_range hk R.fit (fun a _ => R.mvs a)
  refine ⟨h1, h2, fun b hb => ?_⟩
  have h3 := aheadL_spot (p := p) r.mv (List.range r.mv.length) r.st List.nodup_range hk R.fit (fun a _ => R.mvs a) b
  unfold ahead
  rw [h3]
  have hb' : b ∈ List.range r.mv.length := by rw [R.lm]; exact List.mem_range.mpr hb
  simp [hb', -List.getD_eq_getElem?_getD]
/-- an arm that does not move is at the same step in the state ahead -/
theorem RunOk.step_ahead (R : RunOk p r) (ha : a < p.flows.length) (hm : r.mv.getD a false = false) : stepAt p (ahead p r) a = stepAt p r.st a ∧ spotAt (ahead p r) a = spotAt r.st a := by
  have h := R.aheads.2.2 a ha
  rw [hm, if_neg Bool.false_ne_true] at h
  exact ⟨by unfold stepAt; rw [h], h⟩
end Pg

set_option Elab.async false
set_option linter.all false
set_option maxRecDepth 100000
set_option maxHeartbeats 4000000
namespace Pg
open PySem L2 DL
variable {p : PlanM} {a b : Nat} {r : Run} {s t : State}
theorem getD_set {xs : List Bool} {a b : Nat} {v : Bool} (ha : a < xs.length) : (xs.set a v).getD b false = if b = a then v else xs.getD b false := by
  rw [List.getD_eq_getElem?_getD, List.getD_eq_getElem?_getD]
  by_cases hb : b = a
  · subst hb; rw [List.getElem?_set_self ha, if_pos rfl]; rfl
  · rw [List.getElem?_set_ne (Ne.symm hb), if_neg hb]
theorem RunOk.begin (R : RunOk p r) (ha : a < p.flows.length) {q : Nm} (hq : stepAt p r.st a = some (.move q)) : RunOk p (rBegin r a) := by
  refine ⟨R.fit, by simp [rBegin, R.lm], R.lh, R.sig, fun b hb => ?_⟩
  unfold rBegin at hb ⊢
  simp only at hb ⊢
  rw [getD_set (by rw [R.lm]; exact ha)] at hb
  by_cases hba : b = a
  · subst hba; exact ⟨q, hq⟩
  · rw [if_neg hba] at hb; exact R.mvs b hb
theorem ahead_begin (R : RunOk p r) (ha : a < p.flows.length) (hm : r.mv.getD a false = false) {q : Nm} (hq : stepAt p r.st a = some (.move q)) : ahead p (rBegin r a) = headOut p (ahead p r) a := by
  obtain ⟨f1, f2, f3⟩ := R.aheads
  obtain ⟨g1, g2, g3⟩ := (R.begin ha hq).aheads
  obtain ⟨e1, e2⟩ := R.step_ahead ha hm
  have ho := headOut_move (e1.trans hq)
  refine state_ext (by rw [g1, ho]; simp [moved, f1]) (fun b hb => ?_) (by rw [g2, ho]; exact f2.symm)
  rw [g1] at hb
  rw [g3 b hb, ho, spotAt_moved (by rw [f1]; exact ha)]
  show (if (r.mv.set a true).getD b false = true then goSpot p r.st b else spotAt r.st b) = _
  rw [getD_set (by rw [R.lm]; exact ha)]
  by_cases hba : b = a
  · subst hba
    rw [if_pos rfl, if_pos rfl, if_pos rfl, e2]
    unfold goSpot
    rw [hq]
  · rw [if_neg hba, if_neg hba, f3 b hb]
end Pg

set_option Elab.async false
set_option linter.all false
set_option maxRecDepth 100000
set_option maxHeartbeats 4000000
namespace Pg
open PySem L2 DL
variable {p : PlanM} {a b : Nat} {r : Run} {s t : State}
theorem goSpot_moved {j : Nat} {q : Nm} {h : Option Nm} {sig : List Nm} (ha : a < s.spots.length) (hb : b ≠ a) : goSpot p (moved p s a j q h sig) b = goSpot p s b := by
  unfold goSpot
  rw [stepAt_moved ha hb, spotAt_moved ha, if_neg hb]
theorem RunOk.end_ (R : RunOk p r) (ha : a < p.flows.length) (hm : r.mv.getD a false = true) : RunOk p (rEnd p r a) := by
  obtain ⟨q, hq⟩ := R.mvs a hm
  have ho := headOut_move hq
  refine ⟨by simp [rEnd, ho, moved, R.fit], by simp [rEnd, R.lm], R.lh, by unfold rEnd; rw [ho]; exact R.sig, fun b hb => ?_⟩
  unfold rEnd at hb ⊢
  simp only at hb ⊢
  rw [getD_set (by rw [R.lm]; exact ha)] at hb
  by_cases hba : b = a
  · rw [if_pos hba] at hb; exact (Bool.false_ne_true hb).elim
  · rw [if_neg hba] at hb
    obtain ⟨q', hq'⟩ := R.mvs b hb
    exact ⟨q', by rw [ho, stepAt_moved (by rw [R.fit]; exact ha) hba]; exact hq'⟩
theorem ahead_end (R : RunOk p r) (ha : a < p.flows.length) (hm : r.mv.getD a false = true) : ahead p (rEnd p r a) = ahead p r := by
  obtain ⟨q, hq⟩ := R.mvs a hm
  have ho := headOut_move hq
  obtain ⟨f1, f2, f3⟩ := R.aheads
  obtain ⟨g1, g2, g3⟩ := (R.end_ ha hm).aheads
  refine state_ext (by rw [g1, f1]) (fun b hb => ?_) (by rw [g2, f2]; unfold rEnd; rw [ho]; rfl)
  rw [g1] at hb
  rw [g3 b hb, f3 b hb]
  show (if (r.mv.set a false).getD b false = true then goSpot p (headOut p r.st a) b else spotAt (headOut p r.st a) b) = _
  rw [getD_set (by rw [R.lm]; exact ha), ho]
  by_cases hba : b = a
  · subst hba
    rw [if_pos rfl, if_neg Bool.false_ne_true, hm, if_pos rfl, spotAt_moved (by rw [R.fit]; exact ha), if_pos rfl]
    unfold goSpot
    rw [hq]
  · rw [if_neg hba, goSpot_moved (by rw [R.fit]; exact ha) hba, spotAt_moved (by rw [R.fit]; exact ha), if_neg hba]
/-- an arm that does not move takes a step -/
theorem RunOk.stepd (R : RunOk p r) (ha : a < p.flows.length) (hm : r.mv.getD a false = false) {j : Nat} {q : Nm} {h : Option Nm} {sig : List Nm} (hs : sig.length ≤ 100) (n : Nat) : RunOk p { r with st := moved p r.st a j q h sig, ev := n } := by
  refine ⟨by simp [moved, R.fit], R.lm, R.lh, hs, fun b hb => ?_⟩
  simp only at hb ⊢
  have hba : b ≠ a := fun e => by rw [e, hm] at hb; exact Bool.false_ne_true hb
  obtain ⟨q', hq'⟩ := R.mvs b hb
  exact ⟨q', by rw [stepAt_moved (by rw [R.fit]; exact ha) hba]; exact hq'⟩
theorem ahead_stepd (R : RunOk p r) (ha : a < p.flows.length) (hm : r.mv.getD a false = false) {j : Nat} {q : Nm} {h : Option Nm} {sig : List Nm} (hs : sig.length ≤ 100) (n : Nat) : ahead p { r with st := moved p r.st a j q h sig, ev := n } = moved p (ahead p r) a j q h sig := by
  obtain ⟨f1, f2, f3⟩ := R.aheads
  obtain ⟨g1, g2, g3⟩ := (R.stepd ha hm (j := j) (q := q) (h := h) hs n).aheads
  refine state_ext (by rw [g1]; simp [moved, f1]) (fun b hb => ?_) (by rw [g2]; rfl)
  rw [g1] at hb
  rw [g3 b hb, spotAt_moved (s := ahead p r) (by rw [f1]; exact ha)]
  by_cases hba : b = a
  · subst hba
    rw [if_pos rfl, hm, if_neg Bool.false_ne_true, spotAt_moved (s := r.st) (by rw [R.fit]; exact ha), if_pos rfl]
  · rw [if_neg hba, f3 b hb]
    simp only
    rw [goSpot_moved (s := r.st) (by rw [R.fit]; exact ha) hba, spotAt_moved (s := r.st) (by rw [R.fit]; exact ha), if_neg hba]
end Pg

set_option Elab.async false
set_option linter.all false
set_option maxRecDepth 100000
set_option maxHeartbeats 4000000
namespace Pg
open PySem L2 DL
variable {p : PlanM} {a b : Nat} {r r' : Run} {s t : State}
/-- what every event keeps -/
structure RInv (p : PlanM) (r : Run) : Prop where
  ok : RunOk p r
  uq : Uq p r.st
  ua : Uq p (ahead p r)
  sf : safe p (ahead p r) = true
theorem held_safe (h : held p r a = false) : ∀ t ∈ outs p (ahead p r) a, safe p t = true := fun t ht => by
  unfold held at h
  rw [List.any_eq_false] at h
  have := h t ht
  simpa using this
/-- an outcome is a move of the arm with a few signals -/
theorem outs_form {s : State} (h : t ∈ outs p s a) : ∃ j q hh sig, t = moved p s a j q hh sig ∧ ∀ s' : State, stepAt p s' a = stepAt p s a → spotAt s' a = spotAt s a → s'.sig = s.sig → moved p s' a j q hh sig ∈ outs p s' a := by
  unfold outs at h
  cases hst : stepAt p s a with
  | none => rw [hst] at h; cases h
  | some st =>
    rw [hst] at h
    have go : ∀ j q hh sig, t = moved p s a j q hh sig → (∀ s' : State, stepAt p s' a = some st → spotAt s' a = spotAt s a → s'.sig = s.sig → moved p s' a j q hh sig ∈ outs p s' a) → ∃ j q hh sig, t = moved p s a j q hh sig ∧ ∀ s' : State, stepAt p s' a = some st → spotAt s' a = spotAt s a → s'.sig = s.sig → moved p s' a j q hh sig ∈ outs p s' a := fun j q hh sig h1 h2 => ⟨j, q, hh, sig, h1, h2⟩
    cases st with
    | iff i n =>
      simp only [List.mem_cons, List.not_mem_nil, or_false] at h
      rcases h with h | h
      · exact go _ _ _ _ h fun s' h1 h2 h3 => by unfold outs; rw [h1]; simp [h2, h3]
      · exact go _ _ _ _ h fun s' h1 h2 h3 => by unfold outs; rw [h1]; simp [h2, h3]
    | _ =>
      simp only [List.mem_singleton] at h
      exact go _ _ _ _ h fun s' h1 h2 h3 => by unfold outs; rw [h1]; simp [h2, h3]
end Pg

set_option Elab.async false
set_option linter.all false
set_option maxRecDepth 100000
set_option maxHeartbeats 4000000
namespace Pg
open PySem L2 DL
variable {p : PlanM} {a b : Nat} {r r' : Run} {s t : State}
/-- a step of an arm that does not move keeps it all -/
theorem RInv.step (hf : FlowsOk p.flows) (I : RInv p r) (ha : a < p.flows.length) (hm : r.mv.getD a false = false) (hh : held p r a = false) (ht : t ∈ outs p r.st a) (n : Nat) : RInv p { r with st := t, ev := n } := by
  obtain ⟨e1, e2⟩ := I.ok.step_ahead ha hm
  have e3 := I.ok.aheads.2.1
  have hut := I.uq.outs hf ha ht
  obtain ⟨j, q, h, sig, rfl, k⟩ := outs_form ht
  have hin := k (ahead p r) e1 e2 e3
  have hsig : sig.length ≤ 100 := by
    have := sig_len hut.nd hut.sg
    exact Nat.le_trans this (by decide)
  have hah := ahead_stepd I.ok ha hm (j := j) (q := q) (h := h) hsig n
  exact ⟨I.ok.stepd ha hm hsig n, hut, by rw [hah]; exact I.ua.outs hf ha hin, by rw [hah]; exact held_safe hh _ hin⟩
theorem headOut_mem {st : Step} (h : stepAt p s a = some st) : headOut p s a ∈ outs p s a := by
  obtain ⟨ts, ho⟩ := outs_cons h
  rw [ho]; exact List.mem_cons_self ..
theorem RInv.event (hf : FlowsOk p.flows) (I : RInv p r) (ha : a < p.flows.length) {k : Nat} (he : evOk p r k a = some r') : RInv p r' := by
  have hread : ∀ on : Bool, (if (mayOf p r a).1 = wRead then some (rRead p r a on) else none) = some r' → RInv p r' := fun on hq => by
    by_cases hc : (mayOf p r a).1 = wRead
    · rw [if_pos hc] at hq
      cases hq
      obtain ⟨hm, ⟨i, n, hst⟩, _, hh⟩ := may_read hc
      refine I.step hf ha hm hh ?_ _
      cases on with
      | true => exact headOut_mem hst
      | false =>
        have : ∃ x y, outs p r.st a = [x, y] := by unfold outs; rw [hst]; exact ⟨_, _, rfl⟩
        obtain ⟨x, y, ho⟩ := this
        rw [ho]
        simp
    · rw [if_neg hc] at hq; cases hq
  have hhalt : ∀ bb : Bool, RInv p (rHalt r a bb) := fun bb => ⟨⟨I.ok.fit, I.ok.lm, by simp [rHalt, I.ok.lh], I.ok.sig, I.ok.mvs⟩, I.uq, I.ua, I.sf⟩
  unfold evOk at he
  split at he
  · by_cases hc : (mayOf p r a).1 = wBegin
    · rw [if_pos hc] at he
      cases he
      obtain ⟨hm, ⟨q, hq⟩, _, _, hh⟩ := may_begin hc
      have hah := ahead_begin I.ok ha hm hq
      have hst := (I.ok.step_ahead ha hm).1.trans hq
      exact ⟨I.ok.begin ha hq, I.uq, by rw [hah]; exact I.ua.outs hf ha (headOut_mem hst), by rw [hah]; exact held_safe hh _ (headOut_mem hst)⟩
    · rw [if_neg hc] at he; cases he
  · split at he
    · rename_i hc
      cases he
      rw [Bool.and_eq_true] at hc
      obtain ⟨q, hq⟩ := I.ok.mvs a hc.1
      have hah := ahead_end I.ok ha hc.1
      exact ⟨I.ok.end_ ha hc.1, I.uq.outs hf ha (headOut_mem hq), by rw [hah]; exact I.ua, by rw [hah]; exact I.sf⟩
    · cases he
  · by_cases hc : (mayOf p r a).1 = wGo
    · rw [if_pos hc] at he
      cases he
      obtain ⟨hm, ⟨st, hst, _⟩, _, hh⟩ := may_go hc
      exact I.step hf ha hm hh (headOut_mem hst) _
    · rw [if_neg hc] at he; cases he
  · exact hread true he
  · exact hread false he
  · split at he
    · cases he
    · cases he; exact hhalt true
  · split at he
    · cases he; exact hhalt false
    · cases he
end Pg

set_option Elab.async false
set_option linter.all false
set_option maxRecDepth 100000
set_option maxHeartbeats 4000000
/-! == of data, by what stands in them -/
namespace DL
open PySem L2
mutual
def nrm : PyData → PyData
  | .none => .none
  | .bool b => .int (if b = true then 1 else 0)
  | .int i => .int i
  | .str s => .str s
  | .list xs => .list (nrms xs)
  | .tuple xs => .tuple (nrms xs)
  | .dict _ => .dict []
def nrms : List PyData → List PyData
  | [] => []
  | x :: xs => nrm x :: nrms xs
end
mutual
theorem eqv_nrm : ∀ (p q : PyData), p.canLay0 = true → q.canLay0 = true → (PyData.eqv p q = true ↔ nrm p = nrm q)
  | .none, q, _, h => by cases q <;> simp [PyData.eqv, nrm]
  | .bool a, q, _, h => by cases q <;> simp [PyData.eqv, nrm] <;> cases a <;> simp
                           all_goals (rename_i b; cases b <;> simp)
  | .int i, q, _, h => by cases q <;> simp [PyData.eqv, nrm]
  | .str s, q, _, h => by cases q <;> simp [PyData.eqv, nrm]
  | .list xs, q, hp, h => by
    cases q <;> simp [PyData.eqv, nrm]
    rename_i ys
    exact eqvs_nrm xs ys (by simpa [PyData.canLay0] using hp) (by simpa [PyData.canLay0] using h)
  | .tuple xs, q, hp, h => by
    cases q <;> simp [PyData.eqv, nrm]
    rename_i ys
    exact eqvs_nrm xs ys (by simpa [PyData.canLay0] using hp) (by simpa [PyData.canLay0] using h)
  | .dict k, q, hp, h => by simp [PyData.canLay0] at hp
theorem eqvs_nrm : ∀ (ps qs : List PyData), PyData.canLayAll0 ps = true → PyData.canLayAll0 qs = true → (PyData.eqvAll ps qs = true ↔ nrms ps = nrms qs)
  | [], [], _, _ => by simp [PyData.eqvAll, nrms]
  | [], q :: qs, _, _ => by simp [PyData.eqvAll, nrms]
  | p :: ps, [], _, _ => by simp [PyData.eqvAll, nrms]
  | p :: ps, q :: qs, hp, hq => by
    simp only [PyData.canLayAll0, Bool.and_eq_true] at hp hq
    simp only [PyData.eqvAll, nrms, Bool.and_eq_true, List.cons.injEq, eqv_nrm p q hp.1 hq.1, eqvs_nrm ps qs hp.2 hq.2]
end
/-- things that are told apart by their data -/
structure Emb {α : Type} (e : α → D) (py : α → PyData) (n : Nat) : Prop where
  to : ∀ a, toPy (e a) = some (py a)
  lay : ∀ a, (py a).canLay0 = true
  dep : ∀ a, (py a).depth ≤ n
  inj : ∀ a b, nrm (py a) = nrm (py b) → a = b
section
variable {α : Type} {e : α → D} {py : α → PyData} {n : Nat} [DecidableEq α]
theorem Emb.shp (E : Emb e py n) (hn : n ≤ 64) (a : α) : SeqAt.shaped (py a) = true := by
  show ((py a).canLay0 && decide ((py a).depth ≤ 64)) = true
  rw [E.lay a, decide_eq_true (Nat.le_trans (E.dep a) hn)]
  rfl
theorem Emb.eqv (E : Emb e py n) (a b : α) : PyData.eqv (py a) (py b) = decide (a = b) := by
  rw [Bool.eq_iff_iff, eqv_nrm _ _ (E.lay a) (E.lay b), decide_eq_true_iff]
  exact ⟨E.inj a b, fun h => by rw [h]⟩
theorem Emb.eqD (E : Emb e py n) (hn : n ≤ 64) (a b : α) : DL.eqD (e a) (e b) = some (decide (a = b)) := by
  unfold DL.eqD
  simp only [E.to]
  rw [if_pos ⟨E.shp hn a, E.shp hn b⟩, E.eqv]
theorem Emb.toPys (E : Emb e py n) : ∀ xs : List α, DL.toPys (xs.map e) = some (xs.map py)
  | [] => rfl
  | x :: xs => by simp only [List.map_cons, DL.toPys, E.to, E.toPys xs]
theorem Emb.layAll (E : Emb e py n) : ∀ xs : List α, PyData.canLayAll0 (xs.map py) = true
  | [] => rfl
  | x :: xs => by simp only [List.map_cons, PyData.canLayAll0, E.lay, E.layAll xs, Bool.and_self]
theorem Emb.depAll (E : Emb e py n) : ∀ xs : List α, PyData.depthAll (xs.map py) ≤ n
  | [] => by simp [PyData.depthAll]
  | x :: xs => by
    have h1 := E.dep x
    have h2 := E.depAll xs
    simp only [List.map_cons, PyData.depthAll]
    omega
theorem nrms_map {α : Type} (f : α → PyData) : ∀ xs : List α, nrms (xs.map f) = xs.map fun a => nrm (f a)
  | [] => rfl
  | x :: xs => by simp only [List.map_cons, nrms, nrms_map f xs]
/-- lists of such things -/
theorem map_inj2 {α β : Type} {f : α → β} (h : ∀ a b, f a = f b → a = b) : ∀ {xs ys : List α}, xs.map f = ys.map f → xs = ys
  | [], [], _ => rfl
  | [], y :: ys, h' => by simp at h'
  | x :: xs, [], h' => by simp at h'
  | x :: xs, y :: ys, h' => by
    simp only [List.map_cons, List.cons.injEq] at h'
    rw [h x y h'.1, map_inj2 h h'.2]
theorem Emb.lst (E : Emb e py n) : Emb (fun xs : List α => D.lst (xs.map e)) (fun xs => .list (xs.map py)) (n + 1) :=
  ⟨fun xs => by simp only [DL.toPy, E.toPys]; rfl, fun xs => by simp only [PyData.canLay0, E.layAll], fun xs => by
    have := E.depAll xs
    simp only [PyData.depth]; omega, fun xs ys h => by
    simp only [nrm, PyData.list.injEq, nrms_map] at h
    exact map_inj2 E.inj h⟩
theorem Emb.tup (E : Emb e py n) : Emb (fun xs : List α => D.tup (xs.map e)) (fun xs => .tuple (xs.map py)) (n + 1) :=
  ⟨fun xs => by simp only [DL.toPy, E.toPys]; rfl, fun xs => by simp only [PyData.canLay0, E.layAll], fun xs => by
    have := E.depAll xs
    simp only [PyData.depth]; omega, fun xs ys h => by
    simp only [nrm, PyData.tuple.injEq, nrms_map] at h
    exact map_inj2 E.inj h⟩
theorem Emb.memD (E : Emb e py n) (hn : n ≤ 63) (θ : Sto) (a : α) (xs : List α) : DL.memD θ (e a) (.lst (xs.map e)) = some (decide (a ∈ xs)) := by
  unfold DL.memD
  simp only [lstOf_lst, E.to, E.toPys]
  rw [if_pos ⟨E.shp (by omega) a, E.lst.shp (by omega) xs⟩]
  congr 1
  rw [List.any_map, Bool.eq_iff_iff, List.any_eq_true, decide_eq_true_iff]
  refine ⟨fun ⟨x, h1, h2⟩ => ?_, fun h => ⟨a, h, ?_⟩⟩
  · simp only [Function.comp_apply, E.eqv, decide_eq_true_iff] at h2
    rw [← h2]; exact h1
  · simp only [Function.comp_apply, E.eqv, decide_eq_true_iff]
theorem Emb.inL (E : Emb e py n) (hn : n ≤ 63) (θ : Sto) (a : α) (xs : List α) : gInL θ (e a) (.lst (xs.map e)) = some (.bl (decide (a ∈ xs))) := by
  unfold gInL
  rw [E.memD hn]
end
end DL
namespace DL
/-- a loop that keeps something -/
theorem forF_inv {gt : FG} {b : FS} (Iv : Dv → Sto → Prop) : ∀ (ks : List D) (δ : Dv) (θ : Sto), Iv δ θ →
    (∀ d ∈ ks, ∀ δ θ, Iv δ θ → ∃ δ1 θ1 δ2 θ2, gt d δ θ = some (δ1, θ1) ∧ b δ1 θ1 = some (.nx δ2 θ2) ∧ Iv δ2 θ2) → ∃ δ' θ', forF gt b ks δ θ = some (.nx δ' θ') ∧ Iv δ' θ'
  | [], δ, θ, hi, _ => ⟨δ, θ, rfl, hi⟩
  | d :: ks, δ, θ, hi, h => by
    obtain ⟨δ1, θ1, δ2, θ2, e1, e2, hi2⟩ := h d (List.mem_cons_self ..) δ θ hi
    obtain ⟨δ', θ', e3, hi3⟩ := forF_inv Iv ks δ2 θ2 hi2 fun x hx => h x (List.mem_cons_of_mem _ hx)
    refine ⟨δ', θ', ?_, hi3⟩
    rw [forF_cons, e1]
    simp only
    rw [e2]
    exact e3
end DL
namespace Pg
open PySem L2 DL
def nmPy (n : Nm) : PyData := .str n.1
def heldPy : Option Nm → PyData
  | none => .none
  | some n => nmPy n
def placePy : Place → PyData
  | .rest p h => .tuple [.str "rest", nmPy p, heldPy h]
  | .move p q h => .tuple [.str "move", nmPy p, nmPy q, heldPy h]
def quadPy (q : Quad) : PyData := .tuple [.int q.1, placePy q.2.1, .int q.2.2.1, placePy q.2.2.2]
theorem nm_emb : Emb nmD nmPy 0 := ⟨fun _ => rfl, fun n => n.2, fun _ => Nat.le_refl _, fun a b h => by
  simp only [nmPy, nrm, PyData.str.injEq] at h
  exact Subtype.ext h⟩
theorem held_emb : Emb heldD heldPy 0 := ⟨fun h => by cases h <;> rfl, fun h => by
  cases h with
  | none => rfl
  | some n => exact n.2, fun h => by cases h <;> exact Nat.le_refl _, fun a b h => by
  cases a <;> cases b <;> simp only [heldPy, nmPy, nrm, PyData.str.injEq, reduceCtorEq] at h ⊢
  rw [Subtype.ext h]⟩
theorem w_rest : PyData.canLay0 (.str "rest") = true := by decide +kernel
theorem w_move : PyData.canLay0 (.str "move") = true := by decide +kernel
theorem place_emb : Emb placeD placePy 1 := ⟨fun x => by
    cases x <;> simp [placeD, placePy, toPy, toPys, nm_emb.to, held_emb.to], fun x => by
    cases x <;> simp [placePy, PyData.canLay0, PyData.canLayAll0, nm_emb.lay, held_emb.lay] <;> first | exact w_rest | exact w_move, fun x => by
    cases x with
    | rest p h =>
      have h1 := nm_emb.dep p
      have h2 := held_emb.dep h
      simp only [placePy, PyData.depth, PyData.depthAll]; omega
    | move p q h =>
      have h1 := nm_emb.dep p
      have h3 := nm_emb.dep q
      have h2 := held_emb.dep h
      simp only [placePy, PyData.depth, PyData.depthAll]; omega, fun a b h => by
    cases a with
    | rest p h1 =>
      cases b with
      | rest q h2 =>
        simp only [placePy, nrm, nrms, PyData.tuple.injEq, List.cons.injEq] at h
        rw [nm_emb.inj _ _ h.2.1, held_emb.inj _ _ h.2.2.1]
      | move q r h2 => simp [placePy, nrm, nrms] at h
    | move p p2 h1 =>
      cases b with
      | rest q h2 => simp [placePy, nrm, nrms] at h
      | move q r h2 =>
        simp only [placePy, nrm, nrms, PyData.tuple.injEq, List.cons.injEq] at h
        rw [nm_emb.inj _ _ h.2.1, nm_emb.inj _ _ h.2.2.1, held_emb.inj _ _ h.2.2.2.1]⟩
theorem quad_emb : Emb quadD quadPy 2 := ⟨fun x => by
    simp [quadD, quadPy, toPy, toPys, place_emb.to], fun x => by
    simp [quadPy, PyData.canLay0, PyData.canLayAll0, place_emb.lay], fun x => by
    have h1 := place_emb.dep x.2.1
    have h2 := place_emb.dep x.2.2.2
    simp only [quadPy, PyData.depth, PyData.depthAll]; omega, fun a b h => by
    obtain ⟨a1, a2, a3, a4⟩ := a
    obtain ⟨b1, b2, b3, b4⟩ := b
    simp only [quadPy, nrm, nrms, PyData.tuple.injEq, List.cons.injEq, PyData.int.injEq] at h
    rw [place_emb.inj _ _ h.2.1, place_emb.inj _ _ h.2.2.2.1, show a1 = b1 by omega, show a3 = b3 by omega]⟩
@[simp] theorem eqD_place (a b : Place) : eqD (placeD a) (placeD b) = some (decide (a = b)) := place_emb.eqD (by decide) a b
@[simp] theorem inL_quad (θ : Sto) (a : Quad) (xs : List Quad) : gInL θ (quadD a) (.lst (xs.map quadD)) = some (.bl (decide (a ∈ xs))) := by
  rw [quad_emb.inL (by decide) θ a xs]
  congr
end Pg

set_option Elab.async false
set_option linter.all false
set_option maxRecDepth 100000
set_option maxHeartbeats 4000000
/-! == of states, places, mays -/
namespace Pg
open PySem L2 DL
def spotPy (s : Spot) : PyData := .tuple [.int s.at_, nmPy s.point, heldPy s.held]
def statePy (s : State) : PyData := .tuple [.tuple (s.spots.map spotPy), .tuple (s.sig.map nmPy)]
theorem spot_emb : Emb spotD spotPy 1 := ⟨fun x => by simp [spotD, spotPy, toPy, toPys, nm_emb.to, held_emb.to], fun x => by
    simp [spotPy, PyData.canLay0, PyData.canLayAll0, nm_emb.lay, held_emb.lay], fun x => by
    have h1 := nm_emb.dep x.point
    have h2 := held_emb.dep x.held
    simp only [spotPy, PyData.depth, PyData.depthAll]; omega, fun a b h => by
    obtain ⟨a1, a2, a3⟩ := a
    obtain ⟨b1, b2, b3⟩ := b
    simp only [spotPy, nrm, nrms, PyData.tuple.injEq, List.cons.injEq, PyData.int.injEq] at h
    rw [nm_emb.inj _ _ h.2.1, held_emb.inj _ _ h.2.2.1, show a1 = b1 by omega]⟩
theorem state_emb : Emb stateD statePy 3 := ⟨fun x => by
    have h1 := spot_emb.tup.to x.spots
    have h2 := nm_emb.tup.to x.sig
    simp only [stateD, statePy, toPy, toPys] at h1 h2 ⊢
    rw [h1, h2]; rfl, fun x => by
    have h1 := spot_emb.tup.lay x.spots
    have h2 := nm_emb.tup.lay x.sig
    simp only [statePy, PyData.canLay0, PyData.canLayAll0] at h1 h2 ⊢
    simp [h1, h2], fun x => by
    have h1 := spot_emb.tup.dep x.spots
    have h2 := nm_emb.tup.dep x.sig
    simp only [statePy, PyData.depth, PyData.depthAll] at h1 h2 ⊢; omega, fun a b h => by
    obtain ⟨a1, a2⟩ := a
    obtain ⟨b1, b2⟩ := b
    have h' : nrm (.tuple (a1.map spotPy)) = nrm (.tuple (b1.map spotPy)) ∧ nrm (.tuple (a2.map nmPy)) = nrm (.tuple (b2.map nmPy)) := by
      simp only [statePy, nrm, nrms, PyData.tuple.injEq, List.cons.injEq] at h ⊢
      exact ⟨h.1, h.2.1⟩
    rw [spot_emb.tup.inj _ _ h'.1, nm_emb.tup.inj _ _ h'.2]⟩
def placeOPy : Option Place → PyData
  | none => .none
  | some p => placePy p
theorem placeO_emb : Emb placeOD placeOPy 1 := ⟨fun x => by cases x <;> simp [placeOD, placeOPy, place_emb.to, toPy], fun x => by
    cases x with
    | none => rfl
    | some p => exact place_emb.lay p, fun x => by
    cases x with
    | none => exact Nat.zero_le _
    | some p => exact place_emb.dep p, fun a b h => by
    cases a with
    | none =>
      cases b with
      | none => rfl
      | some q => cases q <;> simp [placeOPy, placePy, nrm, nrms] at h
    | some p =>
      cases b with
      | none => cases p <;> simp [placeOPy, placePy, nrm, nrms] at h
      | some q => rw [place_emb.inj _ _ h]⟩
@[simp] theorem eqD_state (a b : State) : eqD (stateD a) (stateD b) = some (decide (a = b)) := state_emb.eqD (by decide) a b
@[simp] theorem eqD_placeO (a b : Option Place) : eqD (placeOD a) (placeOD b) = some (decide (a = b)) := placeO_emb.eqD (by decide) a b
end Pg

set_option Elab.async false
set_option linter.all false
set_option maxRecDepth 100000
set_option maxHeartbeats 4000000
namespace Pg
open PySem L2 DL
def natOPy : Option Nat → PyData
  | none => .none
  | some k => .int k
def mayPy (w : Nm × Option Nat) : PyData := .tuple [nmPy w.1, natOPy w.2]
theorem may_emb : Emb mayD mayPy 1 := ⟨fun x => by
    obtain ⟨w, k⟩ := x
    cases k <;> simp [mayD, mayPy, natOD, natOPy, natD, toPy, toPys, nm_emb.to], fun x => by
    obtain ⟨w, k⟩ := x
    cases k <;> simp [mayPy, natOPy, PyData.canLay0, PyData.canLayAll0, nm_emb.lay], fun x => by
    obtain ⟨w, k⟩ := x
    have h1 := nm_emb.dep w
    cases k <;> simp only [mayPy, natOPy, PyData.depth, PyData.depthAll] <;> omega, fun a b h => by
    obtain ⟨a1, a2⟩ := a
    obtain ⟨b1, b2⟩ := b
    simp only [mayPy, nrm, nrms, PyData.tuple.injEq, List.cons.injEq] at h
    have h1 := nm_emb.inj _ _ h.1
    have h2 := h.2.1
    cases a2 <;> cases b2 <;> simp only [natOPy, nrm, PyData.int.injEq, reduceCtorEq] at h2 ⊢
    · rw [h1]
    · rw [h1]; congr; omega⟩
@[simp] theorem eqD_may (a b : Nm × Option Nat) : eqD (mayD a) (mayD b) = some (decide (a = b)) := may_emb.eqD (by decide) a b
end Pg

set_option Elab.async false
set_option linter.all false
set_option maxRecDepth 100000
set_option maxHeartbeats 4000000
namespace Pg
open PySem L2 DL
variable {A : Adr} {p : PlanM} {θ z : Sto} {o m h : Nat} {a : Nat} {r : Run} {U : State → Prop}
theorem rp_dz {n : Nat} {v : Int} (h1 : n ≠ o) (h2 : n ≠ m) (h3 : n ≠ h) : RP A p (Dz θ n v) o m h r = Dz (RP A p θ o m h r) n v := by
  unfold RP Dz
  rw [List.set_comm _ _ h1, List.set_comm _ _ h2, List.set_comm _ _ h3]
def kindsL : List D := [.int 0, .int 1, .int 2, .int 3, .int 4, .int 5, .int 6, .int 0, .int 1, .int 2, .int 0, .int 1]
theorem pick_kind (v : Int) : ∃ k : Nat, k ≤ 6 ∧ atI kindsL (v % 12) = some (.int k) := by
  have h := modlt (a := v) (b := 12) (by decide)
  generalize v % 12 = g at h
  have hc : g = 0 ∨ g = 1 ∨ g = 2 ∨ g = 3 ∨ g = 4 ∨ g = 5 ∨ g = 6 ∨ g = 7 ∨ g = 8 ∨ g = 9 ∨ g = 10 ∨ g = 11 := by omega
  rcases hc with rfl | rfl | rfl | rfl | rfl | rfl | rfl | rfl | rfl | rfl | rfl | rfl
  · exact ⟨0, by decide, rfl⟩
  · exact ⟨1, by decide, rfl⟩
  · exact ⟨2, by decide, rfl⟩
  · exact ⟨3, by decide, rfl⟩
  · exact ⟨4, by decide, rfl⟩
  · exact ⟨5, by decide, rfl⟩
  · exact ⟨6, by decide, rfl⟩
  · exact ⟨0, by decide, rfl⟩
  · exact ⟨1, by decide, rfl⟩
  · exact ⟨2, by decide, rfl⟩
  · exact ⟨0, by decide, rfl⟩
  · exact ⟨1, by decide, rfl⟩
theorem RInv.outs_uq (hf : FlowsOk p.flows) (I : RInv p r) (ha : a < p.flows.length) : ∀ t ∈ outs p (ahead p r) a, Uq p t := fun t ht => I.ua.outs hf ha ht
theorem RInv.new (hf : FlowsOk p.flows) (hs : p.starts.length = p.flows.length) (hq : ∀ q ∈ p.starts, q = pN ∨ q = qN) (hsf : safe p (firstS p) = true) : RInv p (run0 p) := by
  have hu := uq_first hf hs hq
  have hm : ∀ a, (run0 p).mv.getD a false = false := fun a => by
    unfold run0
    simp only
    rw [List.getD_eq_getElem?_getD, List.getElem?_replicate]
    split <;> rfl
  have R : RunOk p (run0 p) := ⟨hu.fit, by simp [run0], by simp [run0], by simp [run0, firstS], fun a ha => by rw [hm a] at ha; cases ha⟩
  obtain ⟨g1, g2, g3⟩ := R.aheads
  have e : ahead p (run0 p) = firstS p := by
    refine state_ext (by rw [g1]; exact hu.fit.symm) (fun b hb => ?_) g2
    rw [g1] at hb
    rw [g3 b hb, hm b, if_neg Bool.false_ne_true]
    rfl
  exact ⟨R, hu, by rw [e]; exact hu, by rw [e]; exact hsf⟩
end Pg

set_option Elab.async false
set_option linter.all false
set_option maxRecDepth 100000
set_option maxHeartbeats 4000000
/-! how long a repr is -/
namespace DL
open PySem L2 PySem.Spec PyProof.Rows
mutual
def wgt : PyData → Nat
  | .none => 5
  | .bool _ => 5
  | .int i => i.natAbs.log2 + 2
  | .str s => 10 * s.length + 2
  | .list xs => wgts xs + 3
  | .tuple xs => wgts xs + 3
  | .dict _ => 0
def wgts : List PyData → Nat
  | [] => 0
  | x :: xs => wgt x + 2 + wgts xs
end
def lens : List Str → Nat
  | [] => 0
  | t :: ts => t.length + 2 + lens ts
theorem textFrom_le : ∀ (ts : List Str) (k : Nat) (acc : Str), (textFrom k acc ts).length ≤ acc.length + lens ts
  | [], k, acc => Nat.le_refl _
  | t :: ts, k, acc => by
    have ih := textFrom_le ts (k + 1) (acc ++ (if k > 0 then ", " else "" : String) ++ t)
    have e : (acc ++ (if k > 0 then ", " else "" : String) ++ t).length = acc.length + (if k > 0 then 2 else 0) + t.length := by
      rw [strLen_append, strLen_append]
      split <;> rfl
    show (textFrom (k + 1) (acc ++ (if k > 0 then ", " else "" : String) ++ t) ts).length ≤ _
    rw [e] at ih
    have hb : (if k > 0 then 2 else 0) ≤ 2 := by split <;> omega
    unfold lens
    omega
theorem join_le : ∀ ts : List Str, (Str.join ", " ts).length ≤ lens ts
  | [] => Nat.zero_le _
  | [x] => by show x.length ≤ _; unfold lens; omega
  | x :: y :: r => by
    have ih := join_le (y :: r)
    show (x ++ ", " ++ Str.join ", " (y :: r)).length ≤ _
    rw [strLen_append, strLen_append]
    have e2 : ((", " : String) : Str).length = 2 := rfl
    rw [lens, e2]
    omega
theorem list_le (ts : List Str) : (listText ts).length ≤ lens ts + 2 := by
  have h := textFrom_le ts 0 "["
  have e : (("[" : String) : Str).length = 1 := rfl
  have e2 : (("]" : String) : Str).length = 1 := rfl
  rw [e] at h
  show (textFrom 0 "[" ts ++ "]").length ≤ _
  rw [strLen_append, e2]
  omega
theorem tuple_le (ts : List Str) : (tupleText ts).length ≤ lens ts + 3 := by
  have h := join_le ts
  unfold tupleText
  rw [strLen_append, strLen_append]
  have e1 : (("(" : String) : Str).length = 1 := rfl
  have e2 : ((if ts.length == 1 then ",)" else ")" : String) : Str).length ≤ 2 := by split <;> decide
  rw [e1]
  omega
theorem cps_ok {x : Str} (h : PyData.strOk x = true) : ∀ c ∈ x.cps.toList, c < 16 ^ 8 := fun c hc => by
  unfold PyData.strOk at h
  rw [← Array.all_toList, List.all_eq_true] at h
  have := of_decide_eq_true (h c hc)
  omega
mutual
theorem wgt_le : ∀ p : PyData, p.canLay0 = true → p.shown.length ≤ wgt p
  | .none, _ => by show (("None" : String) : Str).length ≤ 5; decide
  | .bool b, _ => by
    show ((if b then "True" else "False" : Str)).length ≤ 5
    cases b <;> decide
  | .int i, _ => by
    have := int_text_length_le (a := i) (k := i.natAbs.log2 + 1) (by omega) (by omega)
    have e : (PyData.shown (.int i)).length = (toString i).length := by
      simp only [PyData.shown]
      exact PySem.ofString_length _
    rw [e]
    unfold wgt
    omega
  | .str s, h => by
    have := StrLaws.reprText_len s (cps_ok (by simpa [PyData.canLay0] using h))
    simp only [PyData.shown, wgt]
    exact this
  | .list xs, h => by
    have h1 := wgts_le xs (by simpa [PyData.canLay0] using h)
    have h2 := list_le (PyData.shownAll xs)
    simp only [PyData.shown, wgt]
    omega
  | .tuple xs, h => by
    have h1 := wgts_le xs (by simpa [PyData.canLay0] using h)
    have h2 := tuple_le (PyData.shownAll xs)
    simp only [PyData.shown, wgt]
    omega
  | .dict k, h => by simp [PyData.canLay0] at h
theorem wgts_le : ∀ ps : List PyData, PyData.canLayAll0 ps = true → lens (PyData.shownAll ps) ≤ wgts ps
  | [], _ => Nat.le_refl _
  | p :: ps, h => by
    simp only [PyData.canLayAll0, Bool.and_eq_true] at h
    have h1 := wgt_le p h.1
    have h2 := wgts_le ps h.2
    simp only [PyData.shownAll, lens, wgts]
    omega
end
theorem wgts_app : ∀ xs ys : List PyData, wgts (xs ++ ys) = wgts xs + wgts ys
  | [], ys => by simp [wgts]
  | x :: xs, ys => by simp only [List.cons_append, wgts, wgts_app xs ys]; omega
theorem wgts_map {α : Type} (f : α → PyData) (b : Nat) : ∀ xs : List α, (∀ x ∈ xs, wgt (f x) ≤ b) → wgts (xs.map f) ≤ xs.length * (b + 2)
  | [], _ => by simp [wgts]
  | x :: xs, h => by
    have h1 := h x (List.mem_cons_self ..)
    have h2 := wgts_map f b xs fun y hy => h y (List.mem_cons_of_mem _ hy)
    simp only [List.map_cons, wgts, List.length_cons, Nat.succ_mul]
    omega
theorem toPys_app : ∀ {ds es : List D} {ps qs : List PyData}, toPys ds = some ps → toPys es = some qs → toPys (ds ++ es) = some (ps ++ qs)
  | [], es, ps, qs, h1, h2 => by cases h1; exact h2
  | d :: ds, es, ps, qs, h1, h2 => by
    simp only [toPys] at h1
    cases hd : toPy d with
    | none => rw [hd] at h1; cases h1
    | some p =>
      cases hs : toPys ds with
      | none => rw [hd, hs] at h1; cases h1
      | some ps' =>
        rw [hd, hs] at h1
        cases h1
        have := toPys_app hs h2
        simp only [List.cons_append, toPys, hd, this]
theorem toPys_map {α : Type} {e : α → D} {py : α → PyData} (h : ∀ a, toPy (e a) = some (py a)) : ∀ xs : List α, toPys (xs.map e) = some (xs.map py)
  | [] => rfl
  | x :: xs => by simp only [List.map_cons, toPys, h, toPys_map h xs]
theorem layAll_app : ∀ xs ys : List PyData, PyData.canLayAll0 xs = true → PyData.canLayAll0 ys = true → PyData.canLayAll0 (xs ++ ys) = true
  | [], ys, _, h => h
  | x :: xs, ys, h1, h2 => by
    simp only [PyData.canLayAll0, Bool.and_eq_true, List.cons_append] at h1 ⊢
    exact ⟨h1.1, layAll_app xs ys h1.2 h2⟩
theorem layAll_map {α : Type} {py : α → PyData} (h : ∀ a, (py a).canLay0 = true) : ∀ xs : List α, PyData.canLayAll0 (xs.map py) = true
  | [] => rfl
  | x :: xs => by simp only [List.map_cons, PyData.canLayAll0, h, layAll_map h xs, Bool.and_self]
theorem depAll_app {n : Nat} : ∀ xs ys : List PyData, PyData.depthAll xs ≤ n → PyData.depthAll ys ≤ n → PyData.depthAll (xs ++ ys) ≤ n
  | [], ys, _, h => h
  | x :: xs, ys, h1, h2 => by
    simp only [PyData.depthAll, List.cons_append] at h1 ⊢
    have := depAll_app xs ys (by omega) h2
    omega
theorem depAll_map {α : Type} {py : α → PyData} {n : Nat} (h : ∀ a, (py a).depth ≤ n) : ∀ xs : List α, PyData.depthAll (xs.map py) ≤ n
  | [] => by simp [PyData.depthAll]
  | x :: xs => by
    have h1 := h x
    have h2 := depAll_map h xs
    simp only [List.map_cons, PyData.depthAll]
    omega
theorem showAll_app : ∀ xs ys : List PyData, PyData.showableAll xs = true → PyData.showableAll ys = true → PyData.showableAll (xs ++ ys) = true
  | [], ys, _, h => h
  | x :: xs, ys, h1, h2 => by
    simp only [PyData.showableAll, Bool.and_eq_true, List.cons_append] at h1 ⊢
    exact ⟨h1.1, showAll_app xs ys h1.2 h2⟩
theorem showAll_map {α : Type} {py : α → PyData} : ∀ xs : List α, (∀ a ∈ xs, (py a).showable = true) → PyData.showableAll (xs.map py) = true
  | [], _ => rfl
  | x :: xs, h => by
    simp only [List.map_cons, PyData.showableAll, Bool.and_eq_true]
    exact ⟨h x (List.mem_cons_self ..), showAll_map xs fun y hy => h y (List.mem_cons_of_mem _ hy)⟩
/-- what repr says -/
theorem gRepr_is {θ : Sto} {n : Nat} {es : List D} {ps : List PyData} (hg : θ[n]? = some (.lst es)) (h1 : toPys es = some ps) (h2 : PyData.canLayAll0 ps = true) (h3 : PyData.depthAll ps ≤ 60) (h4 : PyData.showableAll ps = true) (h5 : wgts ps ≤ 90000) :
    gRepr θ [.ref n] = some (.str (PyData.shown (.list ps))) := by
  have e : lstOf θ (.ref n) = some es := by rw [lstOf_ref, hg]
  have c1 : SeqAt.shaped (.list ps) = true := by
    show ((PyData.list ps).canLay0 && decide ((PyData.list ps).depth ≤ 64)) = true
    rw [Bool.and_eq_true]
    refine ⟨by simpa [PyData.canLay0] using h2, decide_eq_true ?_⟩
    simp only [PyData.depth]
    omega
  have c2 : PyData.showable (.list ps) = true := by simpa [PyData.showable] using h4
  have c3 := wgt_le (.list ps) (by simpa [PyData.canLay0] using h2)
  have c4 : (PyData.shown (.list ps)).length ≤ 100000 := by
    simp only [wgt] at c3
    omega
  unfold gRepr
  simp only [e, h1]
  rw [if_pos ⟨c1, c2, c4⟩]
end DL

set_option Elab.async false
set_option linter.all false
set_option maxRecDepth 100000
set_option maxHeartbeats 4000000
/-! what is told of a runner is short -/
namespace Pg
open PySem L2 DL
variable {A : Adr} {p : PlanM} {θ z : Sto} {o m h n k : Nat} {a b : Nat} {r r' : Run} {s t : State} {v : Int}
theorem nm_w {x : Nm} (h : x.1.length ≤ 12) : wgt (nmPy x) ≤ 122 := by
  show 10 * x.1.length + 2 ≤ 122
  omega
theorem pq_w {x : Nm} (h : x = pN ∨ x = qN) : wgt (nmPy x) ≤ 122 := by
  rcases h with rfl | rfl <;> exact nm_w (by decide)
theorem st_w {x : Nm} (h : x = sN ∨ x = tN) : wgt (nmPy x) ≤ 122 := by
  rcases h with rfl | rfl <;> exact nm_w (by decide)
theorem held_w {x : Option Nm} (h : x = none ∨ x = some xN) : wgt (heldPy x) ≤ 122 := by
  rcases h with rfl | rfl
  · show 5 ≤ 122; decide
  · exact nm_w (by decide)
theorem int_w (n : Nat) : wgt (.int (n : Int)) ≤ n + 2 := by
  show (n : Int).natAbs.log2 + 2 ≤ n + 2
  have := Nat.log2_le_self (n : Int).natAbs
  simp only [Int.natAbs_natCast] at this ⊢
  omega
theorem spot_w {f : Flow} {x : Spot} (h : SpotIn f x) (hf : f.length ≤ 8) : wgt (spotPy x) ≤ 280 := by
  have h1 := int_w x.at_
  have h2 := pq_w h.2.1
  have h3 := held_w h.2.2
  have h4 := h.1
  simp only [spotPy, wgt, wgts] at h1 h2 h3 ⊢
  omega
theorem flow8 (hf : FlowsOk p.flows) : ∀ f ∈ p.flows, f.length ≤ 8 := fun f hm => by
  obtain ⟨most, h2, h3⟩ := hf
  have := (h3 f hm).1
  omega
theorem state_w (hf : FlowsOk p.flows) (U : Uq p s) : wgt (statePy s) ≤ 1500 := by
  have hl4 : 0 < p.flows.length ∧ p.flows.length ≤ 4 := by obtain ⟨most, h1, h2⟩ := hf; omega
  have h1 := wgts_map spotPy 280 s.spots fun x hx => by
    obtain ⟨a, ha⟩ := List.mem_iff_getElem?.mp hx
    have hal : a < p.flows.length := by rw [← U.fit]; exact (List.getElem?_eq_some_iff.mp ha).1
    exact spot_w (U.sp a x _ ha (flowAt_get hal)) (flow8 hf _ (List.mem_of_getElem? (flowAt_get hal)))
  have h2 := wgts_map nmPy 122 s.sig fun x hx => st_w (U.sg x hx)
  have h3 := sig_len U.nd U.sg
  have h4 := U.fit
  have h5 : s.spots.length * 282 ≤ 4 * 282 := Nat.mul_le_mul_right _ (by omega)
  have h6 : s.sig.length * 124 ≤ 2 * 124 := Nat.mul_le_mul_right _ h3
  simp only [statePy, wgt, wgts] at h1 h2 ⊢
  omega
theorem place_w {x : Place} (h : PlaceOk x) : wgt (placePy x) ≤ 480 := by
  have e1 : wgt (.str "rest") = 42 := rfl
  have e2 : wgt (.str "move") = 42 := rfl
  cases x with
  | rest p q =>
    have h1 := pq_w h.1
    have h2 := held_w h.2
    simp only [placePy, wgts, e1]
    show wgts _ + 3 ≤ 480
    simp only [wgts, e1]
    omega
  | move p q r =>
    have h1 := pq_w h.1
    have h2 := pq_w h.2.1
    have h3 := held_w h.2.2
    simp only [placePy]
    show wgts _ + 3 ≤ 480
    simp only [wgts, e2]
    omega
theorem place_ok (hf : FlowsOk p.flows) (U : Uq p r.st) (ha : a < p.flows.length) {x : Place} (hx : placeOf p r a = some x) : PlaceOk x := by
  have hsp : SpotIn (flowAt p a) (spotAt r.st a) := U.sp a _ _ (spotAt_get (by rw [U.fit]; exact ha)) (flowAt_get ha)
  unfold placeOf at hx
  split at hx
  · obtain ⟨most, h2, h3⟩ := hf
    have hfl := h3 _ (List.mem_of_getElem? (flowAt_get ha))
    unfold wantedAt at hx
    cases hst : stepAt p r.st a with
    | none => rw [hst] at hx; cases hx
    | some st =>
      have hok := hfl.2 _ _ hst
      rw [hst] at hx
      cases st with
      | move q => cases hx; exact ⟨hsp.2.1, hok, hsp.2.2⟩
      | hold q => cases hx; exact ⟨hsp.2.1, hok⟩
      | _ => cases hx
  · cases hx
    exact ⟨hsp.2.1, hsp.2.2⟩
theorem placeO_w (hf : FlowsOk p.flows) (U : Uq p r.st) (ha : a < p.flows.length) : wgt (placeOPy (placeOf p r a)) ≤ 480 := by
  cases hx : placeOf p r a with
  | none => show 5 ≤ 480; decide
  | some x => exact place_w (place_ok hf U ha hx)
theorem may_short : (mayOf p r a).1.1.length ≤ 12 := by
  unfold mayOf
  repeat' split
  all_goals first | decide +kernel | (show wWay.1.length ≤ 12; decide +kernel)
theorem may_arm {b : Nat} (h : (mayOf p r a).2 = some b) : b < p.flows.length := by
  have hw : ∀ c, way p r a = some c → c < p.flows.length := fun c hc => by
    unfold way at hc
    split at hc
    · cases hc
    · exact List.mem_range.mp (List.mem_of_find?_eq_some hc)
  unfold mayOf at h
  split at h
  · cases h
  · split at h
    · cases h
    · split at h
      · cases h
      · split at h
        · rename_i c hc
          cases h
          exact hw _ hc
        · split at h
          · cases h
          · split at h
            · cases h
            · split at h
              · cases h
              · split at h <;> cases h
theorem may_w (hn : p.flows.length ≤ 4) : wgt (mayPy (mayOf p r a)) ≤ 180 := by
  have h1 := nm_w (may_short (p := p) (r := r) (a := a))
  have h2 : wgt (natOPy (mayOf p r a).2) ≤ 10 := by
    cases hb : (mayOf p r a).2 with
    | none => show 5 ≤ 10; decide
    | some b =>
      have := may_arm hb
      have := int_w b
      show wgt (.int (b : Int)) ≤ 10
      omega
  simp only [mayPy]
  show wgts _ + 3 ≤ 180
  simp only [wgts]
  omega
/-! ints in it are small -/
theorem show_nat {k : Nat} (h : k ≤ 100000) : PyData.showable (.int (k : Int)) = true := by
  simp only [PyData.showable, decide_eq_true_eq]
  by_cases h0 : k = 0
  · subst h0; decide
  · have : (k : Int).natAbs.log2 < 17 := (Nat.log2_lt (by omega)).mpr (by simp only [Int.natAbs_natCast]; omega)
    omega
theorem show_nm (x : Nm) : (nmPy x).showable = true := rfl
theorem show_held (x : Option Nm) : (heldPy x).showable = true := by cases x <;> rfl
theorem show_spot {f : Flow} {x : Spot} (h : SpotIn f x) (hf : f.length ≤ 8) : (spotPy x).showable = true := by
  have := show_nat (k := x.at_) (by have := h.1; omega)
  simp only [spotPy, PyData.showable, PyData.showableAll, show_nm, show_held, Bool.and_true] at this ⊢
  exact this
theorem show_state (hf : FlowsOk p.flows) (U : Uq p s) : (statePy s).showable = true := by
  have h1 := showAll_map (py := spotPy) s.spots fun x hx => by
    obtain ⟨a, ha⟩ := List.mem_iff_getElem?.mp hx
    have hal : a < p.flows.length := by rw [← U.fit]; exact (List.getElem?_eq_some_iff.mp ha).1
    exact show_spot (U.sp a x _ ha (flowAt_get hal)) (flow8 hf _ (List.mem_of_getElem? (flowAt_get hal)))
  have h2 := showAll_map (py := nmPy) s.sig fun x _ => show_nm x
  simp only [statePy, PyData.showable, PyData.showableAll, h1, h2, Bool.and_self]
theorem show_place (x : Place) : (placePy x).showable = true := by
  cases x <;> simp [placePy, PyData.showable, PyData.showableAll, show_nm, show_held]
theorem show_placeO (x : Option Place) : (placeOPy x).showable = true := by
  cases x with
  | none => rfl
  | some x => exact show_place x
theorem show_may (hn : p.flows.length ≤ 4) : (mayPy (mayOf p r a)).showable = true := by
  have h2 : (natOPy (mayOf p r a).2).showable = true := by
    cases hb : (mayOf p r a).2 with
    | none => rfl
    | some b => exact show_nat (by have := may_arm hb; omega)
  simp only [mayPy, PyData.showable, PyData.showableAll, show_nm, h2, Bool.and_self]
end Pg

set_option Elab.async false
set_option linter.all false
set_option maxRecDepth 100000
set_option maxHeartbeats 4000000
/-! forks -/
namespace Pg
open PySem L2 DL
variable {A : Adr} {p : PlanM} {θ z : Sto} {o m h n k : Nat} {a b : Nat} {r r' : Run} {s t : State} {v : Int} {U : State → Prop}
theorem put_moving {m' : Nat} : putFD ("moving" : Str) (.ref m') (runFs A p r m h) = runFs A p r m' h := by
  simp only [runFs, putFD]
  rw [if_neg (by decide +kernel), if_neg (by decide +kernel), if_neg (by decide +kernel), if_pos trivial]
theorem put_halted {h' : Nat} : putFD ("halted" : Str) (.ref h') (runFs A p r m h) = runFs A p r m h' := by
  simp only [runFs, putFD]
  rw [if_neg (by decide +kernel), if_neg (by decide +kernel), if_neg (by decide +kernel), if_neg (by decide +kernel), if_pos trivial]
/-- what a fork leaves behind -/
def forkSto (A : Adr) (p : PlanM) (r : Run) (L : Nat) : Sto := [.ins A.c_Runner (runFs A p r (L + 3) (L + 4)), .lst ((run0 p).mv.map D.bl), .lst ((run0 p).ha.map D.bl), .lst (r.mv.map D.bl), .lst (r.ha.map D.bl)]
theorem mr_fork (hU : Uni p U) (hp : PlanOk p) (hs : U (firstS p)) (hst : p.starts.length = p.flows.length) (hsf : safe p (firstS p) = true) (P : Pl θ o m h) :
    m_Runner_fork A [.ref o] (RP A p θ o m h r) = some (.ref (RP A p θ o m h r).length, RP A p θ o m h r ++ forkSto A p r (RP A p θ o m h r).length) := by
  have e1 := mr_new (A := A) (θ := RP A p θ o m h r) hU hp hs hst
  rw [if_pos hsf] at e1
  have hob := rp_obj (A := A) (p := p) (r := r) P
  have hm := rp_m (A := A) (p := p) (r := r) P
  have hh := rp_h (A := A) (p := p) (r := r) P
  have lo := P.lo
  have lm := P.lm
  have lh := P.lh
  have hl : (RP A p θ o m h r).length = θ.length := rp_len
  have ho := rp_o (A := A) (p := p) (r := r) P
  generalize hT : RP A p θ o m h r = T at *
  have oT : ∀ z : Sto, (T ++ z)[o]? = some (.ins A.c_Runner (runFs A p r m h)) := fun z => by rw [List.getElem?_append_left (by omega)]; exact ho
  have mT : ∀ z : Sto, (T ++ z)[m]? = some (.lst (r.mv.map D.bl)) := fun z => by rw [List.getElem?_append_left (by omega)]; exact hm
  have hhT : ∀ z : Sto, (T ++ z)[h]? = some (.lst (r.ha.map D.bl)) := fun z => by rw [List.getElem?_append_left (by omega)]; exact hh
  have obT : ∀ z : Sto, objOf (T ++ z) (.ref o) = some (A.c_Runner, runFs A p r m h) := fun z => by rw [objOf_ref, oT]
  have sqm : ∀ z : Sto, seqOf (T ++ z) (.ref m) = some (r.mv.map D.bl) := fun z => by rw [seqOf_ref, mT]
  have sqh : ∀ z : Sto, seqOf (T ++ z) (.ref h) = some (r.ha.map D.bl) := fun z => by rw [seqOf_ref, hhT]
  have hl5 : ∀ (r : Run) (m h : Nat), (runFs A p r m h).length < 1000 := fun r m h => by simp [runFs]
  unfold newSto at e1
  have n0 : T.length + 1 + 1 = T.length + 2 := rfl
  -- the four fields
  have g0 : ∀ (c : Cell) (z : Sto), (T ++ c :: z)[T.length]? = some c := fun c z => getElem?_app_len
  have p0 : ∀ (c d : Cell) (z : Sto), (T ++ c :: z).set T.length d = T ++ d :: z := fun c d z => set_app_len
  have fld : ∀ (fn : Str) (f : F) (d : D) (z z' : Sto) (r1 r2 : Run) (m1 h1 m2 h2 : Nat) (c1 : D), f [some (.ref o), some (.ref T.length)] (T ++ .ins A.c_Runner (runFs A p r1 m1 h1) :: z) = some (d, T ++ .ins A.c_Runner (runFs A p r1 m1 h1) :: z') → putFD fn d (runFs A p r1 m1 h1) = runFs A p r2 m2 h2 →
      sFldD A.c_Runner fn (fVar 1) f [some (.ref o), some (.ref T.length)] (T ++ .ins A.c_Runner (runFs A p r1 m1 h1) :: z) = some (.nx [some (.ref o), some (.ref T.length)] (T ++ .ins A.c_Runner (runFs A p r2 m2 h2) :: z')) := fun fn f d z z' r1 r2 m1 h1 m2 h2 c1 hf hp => by
    rw [sFldD_ap, hf]
    simp only [fVar_ap, List.getElem?_cons_succ, List.getElem?_cons_zero, g0]
    rw [if_pos ⟨trivial, hl5 _ _ _⟩, p0, hp]
  unfold m_Runner_fork
  simp only [bodyM_ap]
  rw [show ([D.ref o].map some ++ List.replicate (2 - [D.ref o].length) none : Dv) = [some (.ref o), none] from rfl]
  rw [sSeq_ap, show sAsgX (xCall (mNewX A.c_Runner (m_Runner___init__ A)) (aCons (fFld A.c_Runner "plan" (fVar 0)) aNil)) (gNm 1) [some (.ref o), none] T = some (.nx [some (.ref o), some (.ref T.length)] (T ++ [.ins A.c_Runner (runFs A p (run0 p) (T.length + 1) (T.length + 2)), .lst ((run0 p).mv.map D.bl), .lst ((run0 p).ha.map D.bl)])) from by simp [hob, e1]]
  simp only
  rw [sSeq_ap, fld "state" _ (stateD r.st) [.lst ((run0 p).mv.map D.bl), .lst ((run0 p).ha.map D.bl)] [.lst ((run0 p).mv.map D.bl), .lst ((run0 p).ha.map D.bl)] (run0 p) { run0 p with st := r.st } _ _ _ _ .non (by simp [obT]) (put_state A p (run0 p) _ _ r.st)]
  simp only
  rw [sSeq_ap, fld "events" _ (.int r.ev) [.lst ((run0 p).mv.map D.bl), .lst ((run0 p).ha.map D.bl)] [.lst ((run0 p).mv.map D.bl), .lst ((run0 p).ha.map D.bl)] { run0 p with st := r.st } { run0 p with st := r.st, ev := r.ev } _ _ _ _ .non (by simp [obT]) (put_events A p { run0 p with st := r.st } _ _ r.ev)]
  simp only
  rw [sSeq_ap, fld "moving" _ (.ref (T.length + 3)) [.lst ((run0 p).mv.map D.bl), .lst ((run0 p).ha.map D.bl)] [.lst ((run0 p).mv.map D.bl), .lst ((run0 p).ha.map D.bl), .lst (r.mv.map D.bl)] { run0 p with st := r.st, ev := r.ev } { run0 p with st := r.st, ev := r.ev } _ _ (T.length + 3) (T.length + 2) .non (by simp [obT, sqm]) put_moving]
  simp only
  rw [sSeq_ap, fld "halted" _ (.ref (T.length + 4)) [.lst ((run0 p).mv.map D.bl), .lst ((run0 p).ha.map D.bl), .lst (r.mv.map D.bl)] [.lst ((run0 p).mv.map D.bl), .lst ((run0 p).ha.map D.bl), .lst (r.mv.map D.bl), .lst (r.ha.map D.bl)] { run0 p with st := r.st, ev := r.ev } { run0 p with st := r.st, ev := r.ev } _ _ (T.length + 3) (T.length + 4) .non (by simp [obT, sqh]) put_halted]
  simp [forkSto]
  rfl
end Pg

set_option Elab.async false
set_option linter.all false
set_option maxRecDepth 100000
set_option maxHeartbeats 4000000
namespace Pg
open PySem L2 DL
variable {A : Adr} {p : PlanM} {θ z : Sto} {o m h n k : Nat} {a b : Nat} {r r' r1 r2 : Run} {s t : State} {v : Int}
theorem ev_le (hev : evOk p r k a = some r') (hk : k ≤ 6) : r'.ev ≤ r.ev + 1 := by
  have kc : k = 0 ∨ k = 1 ∨ k = 2 ∨ k = 3 ∨ k = 4 ∨ k = 5 ∨ k = 6 := by omega
  rcases kc with rfl | rfl | rfl | rfl | rfl | rfl | rfl
  · have he : (if (mayOf p r a).1 = wBegin then some (rBegin r a) else none) = some r' := hev
    split at he <;> cases he; simp [rBegin]
  · have he : (if (r.mv.getD a false && !r.ha.getD a false) = true then some (rEnd p r a) else none) = some r' := hev
    split at he <;> cases he; simp [rEnd]
  · have he : (if (mayOf p r a).1 = wGo then some (rGo p r a) else none) = some r' := hev
    split at he <;> cases he; simp [rGo]
  · have he : (if (mayOf p r a).1 = wRead then some (rRead p r a true) else none) = some r' := hev
    split at he <;> cases he; simp [rRead]
  · have he : (if (mayOf p r a).1 = wRead then some (rRead p r a false) else none) = some r' := hev
    split at he <;> cases he; simp [rRead]
  · have he : (if r.ha.getD a false = true then none else some (rHalt r a true)) = some r' := hev
    split at he <;> cases he; simp [rHalt]
  · have he : (if r.ha.getD a false = true then some (rHalt r a false) else none) = some r' := hev
    split at he <;> cases he; simp [rHalt]
theorem bs_ext {xs ys : List Bool} (hl : xs.length = ys.length) (h : ∀ b, b < xs.length → xs.getD b false = ys.getD b false) : xs = ys := by
  refine List.ext_getElem hl fun i h1 h2 => ?_
  have := h i h1
  rw [List.getD_eq_getElem?_getD, List.getD_eq_getElem?_getD, List.getElem?_eq_getElem h1, List.getElem?_eq_getElem h2] at this
  exact this
theorem RInv.halt (I : RInv p r) (a : Nat) (bb : Bool) : RInv p (rHalt r a bb) := ⟨⟨I.ok.fit, I.ok.lm, by simp [rHalt, I.ok.lh], I.ok.sig, I.ok.mvs⟩, I.uq, I.ua, I.sf⟩
theorem pick_nat (v : Int) {k : Nat} (hk : 0 < k) : ∃ j : Nat, j < k ∧ v % (k : Int) = (j : Int) := by
  have := modlt (a := v) (b := (k : Int)) (by omega)
  exact ⟨(v % (k : Int)).toNat, by omega, by omega⟩
/-! the store with one runner, with a runner and its fork -/
def W1 (A : Adr) (p : PlanM) (v : Int) (r : Run) : Sto := [.lst [.int v], .ins A.c_Runner (runFs A p r 2 3), .lst (r.mv.map D.bl), .lst (r.ha.map D.bl)]
def W2 (A : Adr) (p : PlanM) (v : Int) (r1 r2 : Run) : Sto := [.lst [.int v], .ins A.c_Runner (runFs A p r1 2 3), .lst (r1.mv.map D.bl), .lst (r1.ha.map D.bl), .ins A.c_Runner (runFs A p r2 7 8), .lst ((run0 p).mv.map D.bl), .lst ((run0 p).ha.map D.bl), .lst (r2.mv.map D.bl), .lst (r2.ha.map D.bl)]
theorem w1_rp : RP A p (W1 A p v r) 1 2 3 r' = W1 A p v r' := rfl
theorem w2_rp1 : RP A p (W2 A p v r1 r2) 1 2 3 r' = W2 A p v r' r2 := rfl
theorem w2_rp2 : RP A p (W2 A p v r1 r2) 4 7 8 r' = W2 A p v r1 r' := rfl
theorem w1_pl : Pl (W1 A p v r) 1 2 3 := ⟨by simp [W1], by simp [W1], by simp [W1], by decide, by decide, by decide⟩
theorem w2_pl1 : Pl (W2 A p v r1 r2) 1 2 3 := ⟨by simp [W2], by simp [W2], by simp [W2], by decide, by decide, by decide⟩
theorem w2_pl2 : Pl (W2 A p v r1 r2) 4 7 8 := ⟨by simp [W2], by simp [W2], by simp [W2], by decide, by decide, by decide⟩
theorem w1_dig {k : Int} (k1 : 0 < k) (k2 : k < 1073741824) : m__law_digit A [.ref 0, .int k] (W1 A p v r) = some (.int (v % k), W1 A p (v / k) r) :=
  dig (A := A) (θ := W1 A p v r) (n := 0) (v := v) (by simp [W1]) k1 k2
theorem w2_dig {k : Int} (k1 : 0 < k) (k2 : k < 1073741824) : m__law_digit A [.ref 0, .int k] (W2 A p v r1 r2) = some (.int (v % k), W2 A p (v / k) r1 r2) :=
  dig (A := A) (θ := W2 A p v r1 r2) (n := 0) (v := v) (by simp [W2]) k1 k2
theorem w1_obj : objOf (W1 A p v r) (.ref 1) = some (A.c_Runner, runFs A p r 2 3) := rfl
theorem w2_obj1 : objOf (W2 A p v r1 r2) (.ref 1) = some (A.c_Runner, runFs A p r1 2 3) := rfl
theorem w2_obj2 : objOf (W2 A p v r1 r2) (.ref 4) = some (A.c_Runner, runFs A p r2 7 8) := rfl
theorem w1_new : newSto A p [.lst [.int v]] = W1 A p v (run0 p) := rfl
theorem w1_fork (hf : FlowsOk p.flows) (hst : p.starts.length = p.flows.length) (hpq : ∀ q ∈ p.starts, q = pN ∨ q = qN) (hsf : safe p (firstS p) = true) : m_Runner_fork A [.ref 1] (W1 A p v r) = some (.ref 4, W2 A p v r r) :=
  mr_fork (A := A) (θ := W1 A p v r) (o := 1) (m := 2) (h := 3) (r := r) (uni hf) hf.plan (uq_first hf hst hpq) hst hsf w1_pl
theorem w1_halted (R : RunOk p r) (ha : a < p.flows.length) : m_Runner_is_halted A [.ref 1, .int a] (W1 A p v r) = some (.ok (.bl (r.ha.getD a false)) (W1 A p v r)) := mr_halted (A := A) (θ := W1 A p v r) w1_pl R ha
theorem w1_free (R : RunOk p r) (ha : a < p.flows.length) : m_Runner_free A [.ref 1, .int a] (W1 A p v r) = some (if r.ha.getD a false = true then .ok .non (W1 A p v (rHalt r a false)) else .ex A.c_NotNow (W1 A p v r)) := mr_free (A := A) (θ := W1 A p v r) w1_pl R ha
end Pg

set_option Elab.async false
set_option linter.all false
set_option maxRecDepth 100000
set_option maxHeartbeats 4000000
namespace DL
/-- a loop with its number of turns -/
theorem forF_idx {gt : FG} {b : FS} (Iv : Nat → Dv → Sto → Prop) : ∀ (ds : List D) (i : Nat) (δ : Dv) (θ : Sto), Iv i δ θ →
    (∀ (j : Nat) (d : D), ds[j]? = some d → ∀ δ θ, Iv (i + j) δ θ → ∃ δ1 θ1 δ2 θ2, gt d δ θ = some (δ1, θ1) ∧ b δ1 θ1 = some (.nx δ2 θ2) ∧ Iv (i + j + 1) δ2 θ2) → ∃ δ' θ', forF gt b ds δ θ = some (.nx δ' θ') ∧ Iv (i + ds.length) δ' θ'
  | [], i, δ, θ, hi, _ => ⟨δ, θ, rfl, hi⟩
  | d :: ds, i, δ, θ, hi, h => by
    obtain ⟨δ1, θ1, δ2, θ2, e1, e2, hi2⟩ := h 0 d rfl δ θ hi
    obtain ⟨δ', θ', e3, hi3⟩ := forF_idx Iv ds (i + 1) δ2 θ2 hi2 fun j x hx δ θ hiv => by
      have := h (j + 1) x (by simpa using hx) δ θ (by rw [show i + (j + 1) = i + 1 + j from by omega]; exact hiv)
      rw [show i + (j + 1) + 1 = i + 1 + j + 1 from by omega] at this
      exact this
    refine ⟨δ', θ', ?_, by rw [List.length_cons, show i + (ds.length + 1) = i + 1 + ds.length from by omega]; exact hi3⟩
    rw [forF_cons, e1]
    simp only
    rw [e2]
    exact e3
end DL
namespace Pg
open PySem L2 DL
variable {A : Adr} {p : PlanM} {θ z : Sto} {o m h n k : Nat} {a b : Nat} {r r' r1 r2 : Run} {s t : State} {v : Int}
/-! ### k71: what is told -/
def toldT (p : PlanM) (r : Run) (a : Nat) : D := .tup [mayD (mayOf p r a), placeOD (placeOf p r a), .bl (r.ha.getD a false), .bl (r.mv.getD a false)]
def toldPy (p : PlanM) (r : Run) (a : Nat) : PyData := .tuple [mayPy (mayOf p r a), placeOPy (placeOf p r a), .bool (r.ha.getD a false), .bool (r.mv.getD a false)]
def toldDs (p : PlanM) (r : Run) : List D := [stateD r.st, .int r.ev, .bl (allEnded p r.st), stateD (ahead p r)] ++ (List.range p.flows.length).map (toldT p r)
def toldPs (p : PlanM) (r : Run) : List PyData := [statePy r.st, .int r.ev, .bool (allEnded p r.st), statePy (ahead p r)] ++ (List.range p.flows.length).map (toldPy p r)
def toldS (p : PlanM) (r : Run) : Str := PyData.shown (.list (toldPs p r))
theorem told_py : toPys (toldDs p r) = some (toldPs p r) := by
  refine toPys_app ?_ (toPys_map (fun a => ?_) _)
  · simp only [toPys, state_emb.to, toPy]
  · simp only [toldT, toldPy, toPy, toPys, may_emb.to, placeO_emb.to]
    rfl
theorem told_lay : PyData.canLayAll0 (toldPs p r) = true := by
  refine layAll_app _ _ ?_ (layAll_map (fun a => ?_) _)
  · simp [PyData.canLayAll0, PyData.canLay0, state_emb.lay]
  · simp [toldPy, PyData.canLayAll0, PyData.canLay0, may_emb.lay, placeO_emb.lay]
theorem told_dep : PyData.depthAll (toldPs p r) ≤ 60 := by
  refine depAll_app _ _ ?_ (depAll_map (fun a => ?_) _)
  · have := state_emb.dep r.st
    have h2 := state_emb.dep (ahead p r)
    simp only [PyData.depthAll, PyData.depth]; omega
  · have h1 := may_emb.dep (mayOf p r a)
    have h2 := placeO_emb.dep (placeOf p r a)
    simp only [toldPy, PyData.depthAll, PyData.depth]; omega
theorem told_show (hf : FlowsOk p.flows) (U : Uq p r.st) (Ua : Uq p (ahead p r)) (hev : r.ev ≤ 1000) : PyData.showableAll (toldPs p r) = true := by
  have hl4 : 0 < p.flows.length ∧ p.flows.length ≤ 4 := by obtain ⟨most, h1, h2⟩ := hf; omega
  refine showAll_app _ _ ?_ (showAll_map _ fun a ha => ?_)
  · have h2 := show_nat (k := r.ev) (by omega)
    have h3 : PyData.showable (.bool (allEnded p r.st)) = true := rfl
    simp only [PyData.showableAll, show_state hf U, show_state hf Ua, h2, h3, Bool.and_self]
  · have h3 : ∀ b, PyData.showable (.bool b) = true := fun b => rfl
    simp only [toldPy, PyData.showable, PyData.showableAll, show_may hl4.2, show_placeO, Bool.and_self]
theorem told_w (hf : FlowsOk p.flows) (U : Uq p r.st) (Ua : Uq p (ahead p r)) (hev : r.ev ≤ 1000) : wgts (toldPs p r) ≤ 90000 := by
  have hl4 : 0 < p.flows.length ∧ p.flows.length ≤ 4 := by obtain ⟨most, h1, h2⟩ := hf; omega
  have h1 := wgts_map (toldPy p r) 700 (List.range p.flows.length) fun a ha => by
    have h2 := may_w (p := p) (r := r) (a := a) hl4.2
    have h3 := placeO_w (r := r) hf U (List.mem_range.mp ha)
    simp only [toldPy]
    show wgts _ + 3 ≤ 700
    simp only [wgts]
    show wgt (mayPy (mayOf p r a)) + 2 + (wgt (placeOPy (placeOf p r a)) + 2 + (5 + 2 + (5 + 2 + 0))) + 3 ≤ 700
    omega
  have h2 := state_w hf U
  have h2a := state_w hf Ua
  have h3 := int_w r.ev
  have h4 : (List.range p.flows.length).length * 702 ≤ 4 * 702 := Nat.mul_le_mul_right _ (by simpa using hl4.2)
  unfold toldPs
  rw [wgts_app]
  have h5 : wgts [statePy r.st, .int r.ev, .bool (allEnded p r.st), statePy (ahead p r)] = wgt (statePy r.st) + 2 + (wgt (.int (r.ev : Int)) + 2 + (5 + 2 + (wgt (statePy (ahead p r)) + 2 + 0))) := rfl
  rw [h5]
  omega
noncomputable def tB (A : Adr) : FS := (sExpr (fAppend (fVar 2) (fTup (aCons (fOfX (xMeth A.c_Runner "may" (m_Runner_may A) (fVar 0) (aCons (fVar 3) aNil))) (aCons (fOfX (xMeth A.c_Runner "place_of" (m_Runner_place_of A) (fVar 0) (aCons (fVar 3) aNil))) (aCons (fOfX (xMeth A.c_Runner "is_halted" (m_Runner_is_halted A) (fVar 0) (aCons (fVar 3) aNil))) (aCons (fOfX (xMeth A.c_Runner "is_under_way" (m_Runner_is_under_way A) (fVar 0) (aCons (fVar 3) aNil))) aNil)))))))
theorem t_loop (hf : FlowsOk p.flows) (P : Pl θ o m h) (I : RInv p r) {x1 : Option D} : ∀ (ks : List Nat) (acc : List D) (x3 : Option D), (∀ a ∈ ks, a < p.flows.length) → acc.length + ks.length ≤ 1000 →
    ∃ y3, forF (gNm 3) (tB A) (ks.map natD) [some (.ref o), x1, some (.ref (RP A p θ o m h r).length), x3] (RP A p θ o m h r ++ [.lst acc]) = some (.nx [some (.ref o), x1, some (.ref (RP A p θ o m h r).length), y3] (RP A p θ o m h r ++ [.lst (acc ++ ks.map (toldT p r))]))
  | [], acc, x3, _, _ => ⟨x3, by simp⟩
  | a :: ks, acc, x3, ha, hl => by
    simp only [List.length_cons] at hl
    have ha0 := ha a (List.mem_cons_self ..)
    have P' : Pl (θ ++ [.lst acc]) o m h := P.app
    have e1 := mr_may (A := A) (uni hf) hf.plan P' I.ok ha0 (I.outs_uq hf ha0)
    have e2 := mr_place (A := A) P' I.ok ha0
    have e3 := mr_under (A := A) P' I.ok ha0
    have e4 := mr_halted (A := A) P' I.ok ha0
    have hob := rp_obj (A := A) (p := p) (r := r) P'
    rw [← rp_app P] at e1 e2 e3 e4 hob
    obtain ⟨y3, e⟩ := t_loop hf P I (x1 := x1) ks (acc ++ [toldT p r a]) (some (natD a)) (fun b hb => ha b (List.mem_cons_of_mem _ hb)) (by simp; omega)
    refine ⟨y3, ?_⟩
    have hnk : natD a = .int a := rfl
    have hl2 : acc.length < 100000 := by omega
    rw [List.map_cons, forF_cons]
    simp only [gNm_ap, List.set_cons_succ, List.set_cons_zero, hnk]
    have s1 : tB A [some (.ref o), x1, some (.ref (RP A p θ o m h r).length), some (.int a)] (RP A p θ o m h r ++ [.lst acc]) = some (.nx [some (.ref o), x1, some (.ref (RP A p θ o m h r).length), some (.int a)] (RP A p θ o m h r ++ [.lst (acc ++ [toldT p r a])])) := by
      generalize RP A p θ o m h r = T at *
      unfold tB
      simp [fAppend_ap, getElem?_app_len, set_app_len, hob, e1, e2, e3, e4, hl2, toldT, -List.getD_eq_getElem?_getD]
    rw [s1]
    simp only
    rw [hnk] at e
    rw [e]
    simp
theorem ms_told (hf : FlowsOk p.flows) (P : Pl θ o m h) (I : RInv p r) (hev : r.ev ≤ 1000) : m__law_told A [.ref o, .int p.flows.length] (RP A p θ o m h r) = some (.str (toldS p r), RP A p θ o m h r) := by
  have hl4 : 0 < p.flows.length ∧ p.flows.length ≤ 4 := by obtain ⟨most, h1, h2⟩ := hf; omega
  have hr : R62 (p.flows.length : Int) := R62_nat (by omega)
  have hob := rp_obj (A := A) (p := p) (r := r) P
  have e1 := mr_over (A := A) P I.ok (by omega)
  obtain ⟨e0, _, _⟩ := mr_ahead (A := A) hf.plan.wf P I.ok
  obtain ⟨y3, e2⟩ := t_loop (A := A) hf P I (x1 := some (.int p.flows.length)) (List.range p.flows.length) [stateD r.st, .int r.ev, .bl (allEnded p r.st), stateD (ahead p r)] none (fun a ha => List.mem_range.mp ha) (by simp; omega)
  have e3 := gRepr_is (θ := RP A p θ o m h r ++ [.lst (toldDs p r)]) (n := (RP A p θ o m h r).length) getElem?_app_len told_py told_lay told_dep (told_show hf I.uq I.ua hev) (told_w hf I.uq I.ua hev)
  have e4 : (bodyM 4 ((sSeq (sAsg (fLstM (aCons (fFld A.c_Runner "state" (fVar 0)) (aCons (fFld A.c_Runner "events" (fVar 0)) (aCons (fProp A.c_Runner (m_Runner_is_over A) (fVar 0)) (aCons (fMeth A.c_Runner "state_ahead" (m_Runner_state_ahead A) (fVar 0) aNil) aNil))))) (gNm 2))
      (sSeq (sFor (iRange1 (aCons (fVar 1) aNil)) (gNm 3) (tB A))
      (sRet (fCB gRepr (aCons (fVar 2) aNil)))))) : M) [.ref o, .int p.flows.length] (RP A p θ o m h r) = some (.str (toldS p r), RP A p θ o m h r ++ [.lst (toldDs p r)]) := by
    simp only [bodyM_ap]
    rw [show ([D.ref o, D.int (p.flows.length : Int)].map some ++ List.replicate (4 - [D.ref o, D.int (p.flows.length : Int)].length) none : Dv) = [some (.ref o), some (.int p.flows.length), none, none] from rfl]
    have e5 : [stateD r.st, .int r.ev, .bl (allEnded p r.st), stateD (ahead p r)] ++ (List.range p.flows.length).map (toldT p r) = toldDs p r := rfl
    rw [e5] at e2
    generalize RP A p θ o m h r = T at *
    rw [sSeq_ap, show sAsg (fLstM (aCons (fFld A.c_Runner "state" (fVar 0)) (aCons (fFld A.c_Runner "events" (fVar 0)) (aCons (fProp A.c_Runner (m_Runner_is_over A) (fVar 0)) (aCons (fMeth A.c_Runner "state_ahead" (m_Runner_state_ahead A) (fVar 0) aNil) aNil))))) (gNm 2) [some (.ref o), some (.int p.flows.length), none, none] T = some (.nx [some (.ref o), some (.int p.flows.length), some (.ref T.length), none] (T ++ [.lst [stateD r.st, .int r.ev, .bl (allEnded p r.st), stateD (ahead p r)]])) from by simp [hob, e1, e0]]
    simp only
    rw [sSeq_ap, sFor_ap, show iRange1 (aCons (fVar 1) aNil) [some (.ref o), some (.int p.flows.length), some (.ref T.length), none] (T ++ [.lst [stateD r.st, .int r.ev, .bl (allEnded p r.st), stateD (ahead p r)]]) = some ((List.range p.flows.length).map natD, T ++ [.lst [stateD r.st, .int r.ev, .bl (allEnded p r.st), stateD (ahead p r)]]) from by simp [hr, rngD_0]]
    simp only
    rw [e2]
    simp [e3]
    rfl
  have : m__law_told A [.ref o, .int p.flows.length] (RP A p θ o m h r) = cutR (RP A p θ o m h r) (some (.str (toldS p r), RP A p θ o m h r ++ [.lst (toldDs p r)])) := by
    rw [← e4]; rfl
  rw [this]
  exact cutR_app rfl
end Pg

set_option Elab.async false
set_option linter.all false
set_option maxRecDepth 100000
set_option maxHeartbeats 4000000
namespace Pg
open PySem L2 DL
variable {A : Adr} {p : PlanM} {θ z : Sto} {o m h n k : Nat} {a b c : Nat} {r r' r1 r2 : Run} {s t : State} {v : Int} {U : State → Prop}
noncomputable def aB (A : Adr) : FS := (sIf (tBf (fOp gLt (fVar 1) (fC (.int 7))))
      (sExprX (xCall (m__law_event A) (aCons (fVar 0) (aCons (fVar 1) (aCons (fVar 2) aNil)))))
      (sIf (tBf (fOp gEq (fVar 1) (fC (.int 7))))
      (sExprX (xMeth A.c_Runner "may" (m_Runner_may A) (fVar 0) (aCons (fVar 2) aNil)))
      (sIf (tBf (fOp gEq (fVar 1) (fC (.int 8))))
      (sExprX (xMeth A.c_Runner "place_of" (m_Runner_place_of A) (fVar 0) (aCons (fVar 2) aNil)))
      (sIf (tBf (fOp gEq (fVar 1) (fC (.int 9))))
      (sExprX (xMeth A.c_Runner "is_halted" (m_Runner_is_halted A) (fVar 0) (aCons (fVar 2) aNil)))
      (sExprX (xMeth A.c_Runner "is_under_way" (m_Runner_is_under_way A) (fVar 0) (aCons (fVar 2) aNil)))))))
noncomputable def b1 (A : Adr) : FS := (sExprX (xCall (m__law_event A) (aCons (fVar 6) (aCons (fCall (m__law_digit A) (aCons (fVar 1) (aCons (fC (.int 7)) aNil))) (aCons (fCall (m__law_digit A) (aCons (fVar 1) (aCons (fVar 5) aNil))) aNil)))))
noncomputable def c2 (A : Adr) : FS := (sSeq (sAsg (fOp gAdd (fVar 5) (fCall (m__law_digit A) (aCons (fVar 1) (aCons (fC (.int 3)) aNil)))) (gNm 10))
      (sSeq (sIf (tBf (fOp gEq (fCall (m__law_digit A) (aCons (fVar 1) (aCons (fC (.int 2)) aNil))) (fC (.int 0))))
      (sAsg (fOp gSub (fNeg (fC (.int 1))) (fCall (m__law_digit A) (aCons (fVar 1) (aCons (fC (.int 3)) aNil)))) (gNm 10))
      sNx)
      (sIf (tOrf (tNotf (tBf (fCall (m__law_ask A) (aCons (fVar 6) (aCons (fVar 9) (aCons (fVar 10) aNil)))))) (tBf (fOp gNeS (fCall (m__law_told A) (aCons (fVar 6) (aCons (fVar 5) aNil))) (fVar 8))))
      (sRet (fC (.bl false)))
      sNx)))
noncomputable def c3 (A : Adr) : FS := (sSeq (sAsg (fCall (m__law_told A) (aCons (fVar 6) (aCons (fVar 5) aNil))) (gNm 12))
      (sSeq (sAsg (fCall (m__law_told A) (aCons (fVar 11) (aCons (fVar 5) aNil))) (gNm 13))
      (sIf (tBf (fOp gEq (fCall (m__law_digit A) (aCons (fVar 1) (aCons (fC (.int 2)) aNil))) (fC (.int 0))))
      (sSeq (sExprX (xCall (m__law_event A) (aCons (fVar 6) (aCons (fCall (m__law_digit A) (aCons (fVar 1) (aCons (fC (.int 7)) aNil))) (aCons (fCall (m__law_digit A) (aCons (fVar 1) (aCons (fVar 5) aNil))) aNil)))))
      (sIf (tBf (fOp gNeS (fCall (m__law_told A) (aCons (fVar 11) (aCons (fVar 5) aNil))) (fVar 13)))
      (sRet (fC (.bl false)))
      sNx))
      (sSeq (sExprX (xCall (m__law_event A) (aCons (fVar 11) (aCons (fCall (m__law_digit A) (aCons (fVar 1) (aCons (fC (.int 7)) aNil))) (aCons (fCall (m__law_digit A) (aCons (fVar 1) (aCons (fVar 5) aNil))) aNil)))))
      (sIf (tBf (fOp gNeS (fCall (m__law_told A) (aCons (fVar 6) (aCons (fVar 5) aNil))) (fVar 12)))
      (sRet (fC (.bl false)))
      sNx)))))
noncomputable def lT (A : Adr) : FS := (sSeq (sFor (iRange1 (aCons (fC (.int 12)) aNil)) (gNm 7)
      (b1 A))
      (sSeq (sAsg (fCall (m__law_told A) (aCons (fVar 6) (aCons (fVar 5) aNil))) (gNm 8))
      (sSeq (sFor (iRange1 (aCons (fC (.int 11)) aNil)) (gNm 9)
      (c2 A))
      (sSeq (sAsg (fMeth A.c_Runner "fork" (m_Runner_fork A) (fVar 6) aNil) (gNm 11))
      (sSeq (sIf (tBf (fOp gNeS (fCall (m__law_told A) (aCons (fVar 11) (aCons (fVar 5) aNil))) (fVar 8)))
      (sRet (fC (.bl false)))
      sNx)
      (sSeq (sFor (iRange1 (aCons (fC (.int 12)) aNil)) (gNm 7)
      (c3 A))
      (sRet (fC (.bl true)))))))))
theorem law_is : m_law A = bodyM 14 ((sSeq (sAsg (fCall (m__law_digits A) (aCons (fVar 0) (aCons (fC (.int 0)) (aCons (fC (.int 18)) aNil)))) (gNm 1))
      (sSeq (sAsg (fCall (m__law_plan A) (aCons (fVar 1) aNil)) (gTupD 3 (gConsD (gNm 2) (gConsD (gNm 3) (gConsD (gNm 4) gNilD)))))
      (sSeq (sAsg (fCB gLen (aCons (fVar 2) aNil)) (gNm 5))
      (sSeq (sAsg (fCall (m__law_new A) (aCons (fCut (fCallK (mNew A.c_Plan (m_Plan___init__ A)) (aCons (fVar 2) (aCons (fVar 3) aNil)) (aCons (fVar 4) aNil))) aNil)) (gNm 6))
      (sSeq (sIf (tBf (fOp gIsN (fVar 6) (fC .non)))
      (sRet (fC (.bl true)))
      sNx)
      (lT A))))))) := rfl
/-! ### arms that are not there -/
def Far (p : PlanM) (i : Int) : Prop := i < 0 ∨ (p.flows.length : Int) ≤ i
section
variable {i : Int}
theorem ck_ex (P : Pl θ o m h) (R : RunOk p r) (hi : Far p i) : m_Runner_check_arm A [.ref o, .int i] (RP A p θ o m h r) = some (.ex A.c_UnknownArm (RP A p θ o m h r)) :=
  mr_check_ex (A := A) (p := p) (r := r) P (by rw [R.lm]; exact hi)
theorem may_ex (P : Pl θ o m h) (R : RunOk p r) (hi : Far p i) : m_Runner_may A [.ref o, .int i] (RP A p θ o m h r) = some (.ex A.c_UnknownArm (RP A p θ o m h r)) := by
  have e1 := ck_ex (A := A) P R hi
  have hob := rp_obj (A := A) (p := p) (r := r) P
  unfold m_Runner_may
  simp only [bodyX_ap]
  simp [-gIx_ap, hob, e1]
theorem place_ex (P : Pl θ o m h) (R : RunOk p r) (hi : Far p i) : m_Runner_place_of A [.ref o, .int i] (RP A p θ o m h r) = some (.ex A.c_UnknownArm (RP A p θ o m h r)) := by
  have e1 := ck_ex (A := A) P R hi
  have hob := rp_obj (A := A) (p := p) (r := r) P
  unfold m_Runner_place_of
  simp only [bodyX_ap]
  simp [-gIx_ap, hob, e1]
theorem halted_ex (P : Pl θ o m h) (R : RunOk p r) (hi : Far p i) : m_Runner_is_halted A [.ref o, .int i] (RP A p θ o m h r) = some (.ex A.c_UnknownArm (RP A p θ o m h r)) := by
  have e1 := ck_ex (A := A) P R hi
  have hob := rp_obj (A := A) (p := p) (r := r) P
  unfold m_Runner_is_halted
  simp only [bodyX_ap]
  simp [-gIx_ap, hob, e1]
theorem under_ex (P : Pl θ o m h) (R : RunOk p r) (hi : Far p i) : m_Runner_is_under_way A [.ref o, .int i] (RP A p θ o m h r) = some (.ex A.c_UnknownArm (RP A p θ o m h r)) := by
  have e1 := ck_ex (A := A) P R hi
  have hob := rp_obj (A := A) (p := p) (r := r) P
  unfold m_Runner_is_under_way
  simp only [bodyX_ap]
  simp [-gIx_ap, hob, e1]
theorem told_ex (P : Pl θ o m h) (R : RunOk p r) (hi : Far p i) (w : Str) : m_Runner_check_told A [.ref o, .int i, .str w] (RP A p θ o m h r) = some (.ex A.c_UnknownArm (RP A p θ o m h r)) := by
  have e1 := may_ex (A := A) P R hi
  have hob := rp_obj (A := A) (p := p) (r := r) P
  unfold m_Runner_check_told
  simp only [bodyX_ap]
  simp [-gIx_ap, hob, e1]
theorem begin_ex (P : Pl θ o m h) (R : RunOk p r) (hi : Far p i) : m_Runner_begin A [.ref o, .int i] (RP A p θ o m h r) = some (.ex A.c_UnknownArm (RP A p θ o m h r)) := by
  have e1 := told_ex (A := A) P R hi "begin"
  have hob := rp_obj (A := A) (p := p) (r := r) P
  unfold m_Runner_begin
  simp only [bodyX_ap]
  simp [-gIx_ap, hob, e1]
theorem go_ex (P : Pl θ o m h) (R : RunOk p r) (hi : Far p i) : m_Runner_go_on A [.ref o, .int i] (RP A p θ o m h r) = some (.ex A.c_UnknownArm (RP A p θ o m h r)) := by
  have e1 := told_ex (A := A) P R hi "go on"
  have hob := rp_obj (A := A) (p := p) (r := r) P
  unfold m_Runner_go_on
  simp only [bodyX_ap]
  simp [-gIx_ap, hob, e1]
theorem read_ex (P : Pl θ o m h) (R : RunOk p r) (hi : Far p i) (on : Bool) : m_Runner_read_input A [.ref o, .int i, .bl on] (RP A p θ o m h r) = some (.ex A.c_UnknownArm (RP A p θ o m h r)) := by
  have e1 := told_ex (A := A) P R hi "read"
  have hob := rp_obj (A := A) (p := p) (r := r) P
  unfold m_Runner_read_input
  simp only [bodyX_ap]
  simp [-gIx_ap, hob, e1]
theorem end_ex (P : Pl θ o m h) (R : RunOk p r) (hi : Far p i) : m_Runner_end A [.ref o, .int i] (RP A p θ o m h r) = some (.ex A.c_UnknownArm (RP A p θ o m h r)) := by
  have e1 := ck_ex (A := A) P R hi
  have hob := rp_obj (A := A) (p := p) (r := r) P
  unfold m_Runner_end
  simp only [bodyX_ap]
  simp [-gIx_ap, hob, e1]
theorem halt_ex (P : Pl θ o m h) (R : RunOk p r) (hi : Far p i) : m_Runner_halt A [.ref o, .int i] (RP A p θ o m h r) = some (.ex A.c_UnknownArm (RP A p θ o m h r)) := by
  have e1 := ck_ex (A := A) P R hi
  have hob := rp_obj (A := A) (p := p) (r := r) P
  unfold m_Runner_halt
  simp only [bodyX_ap]
  simp [-gIx_ap, hob, e1]
theorem free_ex (P : Pl θ o m h) (R : RunOk p r) (hi : Far p i) : m_Runner_free A [.ref o, .int i] (RP A p θ o m h r) = some (.ex A.c_UnknownArm (RP A p θ o m h r)) := by
  have e1 := ck_ex (A := A) P R hi
  have hob := rp_obj (A := A) (p := p) (r := r) P
  unfold m_Runner_free
  simp only [bodyX_ap]
  simp [-gIx_ap, hob, e1]
theorem ev_body_ex (P : Pl θ o m h) (R : RunOk p r) (hi : Far p i) (hk : k ≤ 6) : evB A [some (.ref o), some (.int k), some (.int i), none] (RP A p θ o m h r) = some (.ex A.c_UnknownArm [some (.ref o), some (.int k), some (.int i), none] (RP A p θ o m h r)) := by
  have hob := rp_obj (A := A) (p := p) (r := r) P
  have kc : k = 0 ∨ k = 1 ∨ k = 2 ∨ k = 3 ∨ k = 4 ∨ k = 5 ∨ k = 6 := by omega
  unfold evB
  rcases kc with rfl | rfl | rfl | rfl | rfl | rfl | rfl
  · have e := begin_ex (A := A) P R hi; simp [hob, e]
  · have e := end_ex (A := A) P R hi; simp [hob, e]
  · have e := go_ex (A := A) P R hi; simp [hob, e]
  · have e := read_ex (A := A) P R hi true; simp [hob, e]
  · have e := read_ex (A := A) P R hi false; simp [hob, e]
  · have e := halt_ex (A := A) P R hi; simp [hob, e]
  · have e := free_ex (A := A) P R hi; simp [hob, e]
noncomputable def evH (A : Adr) : Addr → FS := fun a => (sSeq (sIf (tOrf (tNotf (tBf (fIsE a 3 true))) (tBf (fIsE a 3 false)))
      (sRet (fC (.str "wrong")))
      sNx)
      (sRet (fC (.str "not now"))))
theorem event_is : m__law_event A = bodyX 4 (sSeq (sTry A.c_NotNow [A.c_NotSafe, A.c_UnknownArm] 3 (evB A) (evH A)) (sRet (fC (.str "done")))) := rfl
theorem event_ex (hne : A.c_UnknownArm ≠ A.c_NotNow) (P : Pl θ o m h) (R : RunOk p r) (hi : Far p i) (hk : k ≤ 6) : m__law_event A [.ref o, .int k, .int i] (RP A p θ o m h r) = some (.ex A.c_UnknownArm (RP A p θ o m h r)) := by
  have ht := sTry_pass (cX := A.c_NotNow) (others := [A.c_NotSafe, A.c_UnknownArm]) (i := 3) (gs := evH A) (ev_body_ex (A := A) P R hi hk) hne (by simp)
  rw [event_is]
  simp only [bodyX_ap]
  have hd : ([D.ref o, D.int (k : Int), D.int i].map some ++ List.replicate (4 - [D.ref o, D.int (k : Int), D.int i].length) none : Dv) = [some (.ref o), some (.int k), some (.int i), none] := rfl
  rw [hd, sSeq_ap, ht]
theorem mr_event (hU : Uni p U) (hp : PlanOk p) (P : Pl θ o m h) (R : RunOk p r) (ha : a < p.flows.length) (hout : ∀ t ∈ outs p (ahead p r) a, U t) {k : Nat} (hk : k ≤ 6) :
    m__law_event A [.ref o, .int k, .int a] (RP A p θ o m h r) = some (match evOk p r k a with
      | some r' => .ok (.str "done") (RP A p θ o m h r')
      | none => .ok (.str "not now") (RP A p θ o m h r)) := by
  have e := ev_body (A := A) hU hp P R ha hout hk
  rw [event_is]
  simp only [bodyX_ap]
  have hd : ([D.ref o, D.int (k : Int), D.int (a : Int)].map some ++ List.replicate (4 - [D.ref o, D.int (k : Int), D.int (a : Int)].length) none : Dv) = [some (.ref o), some (.int k), some (.int a), none] := rfl
  rw [hd, sSeq_ap]
  cases hev : evOk p r k a with
  | some r' =>
    rw [hev] at e
    have ht := sTry_ok (cX := A.c_NotNow) (others := [A.c_NotSafe, A.c_UnknownArm]) (i := 3) (gs := evH A) e (fun _ _ _ h => by cases h)
    rw [ht]
    simp
  | none =>
    rw [hev] at e
    have ht := sTry_ex (cX := A.c_NotNow) (others := [A.c_NotSafe, A.c_UnknownArm]) (i := 3) (gs := evH A) (o := .ret (.str "not now") (RP A p θ o m h r)) e (fun a' => by simp [evH, fIsE, unE])
    rw [ht]
theorem ask_is : m__law_ask A = bodyM 4 (sSeq (sTry A.c_UnknownArm [A.c_NotNow, A.c_NotSafe] 3 (aB A) (fun a => (sRet (fAnd (fIsE a 3 true) (fNot (fIsE a 3 false)))))) (sRet (fC (.bl false)))) := rfl
theorem ask_body (hne : A.c_UnknownArm ≠ A.c_NotNow) (P : Pl θ o m h) (R : RunOk p r) (hi : Far p i) (hk : k ≤ 10) : aB A [some (.ref o), some (.int k), some (.int i), none] (RP A p θ o m h r) = some (.ex A.c_UnknownArm [some (.ref o), some (.int k), some (.int i), none] (RP A p θ o m h r)) := by
  have hob := rp_obj (A := A) (p := p) (r := r) P
  unfold aB
  by_cases h7 : k ≤ 6
  · have e := event_ex (A := A) hne P R hi h7
    have hk7 : (k : Int) < 7 := by omega
    simp [hob, e, hk7]
  · have kc : k = 7 ∨ k = 8 ∨ k = 9 ∨ k = 10 := by omega
    rcases kc with rfl | rfl | rfl | rfl
    · have e := may_ex (A := A) P R hi; simp [hob, e]
    · have e := place_ex (A := A) P R hi; simp [hob, e]
    · have e := halted_ex (A := A) P R hi; simp [hob, e]
    · have e := under_ex (A := A) P R hi; simp [hob, e]
theorem ask_ok (hne : A.c_UnknownArm ≠ A.c_NotNow) (P : Pl θ o m h) (R : RunOk p r) (hi : Far p i) (hk : k ≤ 10) : m__law_ask A [.ref o, .int k, .int i] (RP A p θ o m h r) = some (.bl true, RP A p θ o m h r) := by
  have ht := sTry_ex (cX := A.c_UnknownArm) (others := [A.c_NotNow, A.c_NotSafe]) (i := 3) (gs := fun a => (sRet (fAnd (fIsE a 3 true) (fNot (fIsE a 3 false))))) (o := .ret (.bl true) (RP A p θ o m h r)) (ask_body (A := A) hne P R hi hk) (fun a' => by simp [fIsE, unE])
  rw [ask_is]
  simp only [bodyM_ap]
  have hd : ([D.ref o, D.int (k : Int), D.int i].map some ++ List.replicate (4 - [D.ref o, D.int (k : Int), D.int i].length) none : Dv) = [some (.ref o), some (.int k), some (.int i), none] := rfl
  rw [hd, sSeq_ap, ht]
end
/-! ### the law -/
def sl71 (p : PlanM) (x0 x3 x4 x7 x8 x9 x10 x11 x12 x13 : Option D) : Dv := [x0, some (.ref 0), some (.lst (p.flows.map flowD)), x3, x4, some (.int p.flows.length), some (.ref 1), x7, x8, x9, x10, x11, x12, x13]
section
variable {x0 x3 x4 x7 x8 x9 x10 x11 x12 x13 : Option D}
theorem ev1 (hf : FlowsOk p.flows) (I : RInv p r) (ha : a < p.flows.length) (hk : k ≤ 6) : ∃ r', RInv p r' ∧ r'.ev ≤ r.ev + 1 ∧ ∃ w : Str, (∀ v, m__law_event A [.ref 1, .int k, .int a] (W1 A p v r) = some (.ok (.str w) (W1 A p v r'))) ∧ (∀ v r2, m__law_event A [.ref 1, .int k, .int a] (W2 A p v r r2) = some (.ok (.str w) (W2 A p v r' r2))) ∧ ∀ v r1, m__law_event A [.ref 4, .int k, .int a] (W2 A p v r1 r) = some (.ok (.str w) (W2 A p v r1 r')) := by
  have e0 := fun v => mr_event (A := A) (θ := W1 A p v r) (uni hf) hf.plan w1_pl I.ok ha (I.outs_uq hf ha) hk
  have e1 := fun v r2 => mr_event (A := A) (θ := W2 A p v r r2) (o := 1) (m := 2) (h := 3) (uni hf) hf.plan w2_pl1 I.ok ha (I.outs_uq hf ha) hk
  have e2 := fun v r1 => mr_event (A := A) (θ := W2 A p v r1 r) (o := 4) (m := 7) (h := 8) (uni hf) hf.plan w2_pl2 I.ok ha (I.outs_uq hf ha) hk
  cases hev : evOk p r k a with
  | some r' => rw [hev] at e0 e1 e2; exact ⟨r', I.event hf ha hev, ev_le hev hk, "done", e0, e1, e2⟩
  | none => rw [hev] at e0 e1 e2; exact ⟨r, I, by omega, "not now", e0, e1, e2⟩
theorem b1_ok (hf : FlowsOk p.flows) (I : RInv p r) : ∃ v' r', RInv p r' ∧ r'.ev ≤ r.ev + 1 ∧ b1 A (sl71 p x0 x3 x4 x7 x8 x9 x10 x11 x12 x13) (W1 A p v r) = some (.nx (sl71 p x0 x3 x4 x7 x8 x9 x10 x11 x12 x13) (W1 A p v' r')) := by
  have hl4 : 0 < p.flows.length ∧ p.flows.length ≤ 4 := by obtain ⟨most, h1, h2⟩ := hf; omega
  have d1 := w1_dig (A := A) (p := p) (v := v) (r := r) (k := 7) (by decide) (by decide)
  have d2 := w1_dig (A := A) (p := p) (v := v / 7) (r := r) (k := (p.flows.length : Int)) (by omega) (by omega)
  obtain ⟨k, hk, ek⟩ := pick_nat v (k := 7) (by decide)
  obtain ⟨a, ha, ea⟩ := pick_nat (v / 7) hl4.1
  rw [show v % 7 = (k : Int) from ek] at d1
  rw [ea] at d2
  obtain ⟨r', I', hv, w, e, _, _⟩ := ev1 (A := A) hf I ha (by omega : k ≤ 6)
  have e := e (v / 7 / (p.flows.length : Int))
  refine ⟨v / 7 / (p.flows.length : Int), r', I', hv, ?_⟩
  unfold b1 sl71
  simp [d1, d2, e]
theorem told1 (hf : FlowsOk p.flows) (I : RInv p r) (hev : r.ev ≤ 1000) : (∀ v, m__law_told A [.ref 1, .int p.flows.length] (W1 A p v r) = some (.str (toldS p r), W1 A p v r)) ∧ (∀ v r2, m__law_told A [.ref 1, .int p.flows.length] (W2 A p v r r2) = some (.str (toldS p r), W2 A p v r r2)) ∧ ∀ v r1, m__law_told A [.ref 4, .int p.flows.length] (W2 A p v r1 r) = some (.str (toldS p r), W2 A p v r1 r) :=
  ⟨fun v => ms_told (A := A) (θ := W1 A p v r) hf w1_pl I hev, fun v r2 => ms_told (A := A) (θ := W2 A p v r r2) hf w2_pl1 I hev, fun v r1 => ms_told (A := A) (θ := W2 A p v r1 r) hf w2_pl2 I hev⟩
theorem c2_ok (hne : A.c_UnknownArm ≠ A.c_NotNow) (hf : FlowsOk p.flows) (I : RInv p r) (hev : r.ev ≤ 1000) (hk : k ≤ 10) : ∃ v' y10, c2 A (sl71 p x0 x3 x4 x7 (some (.str (toldS p r))) (some (.int k)) x10 x11 x12 x13) (W1 A p v r) = some (.nx (sl71 p x0 x3 x4 x7 (some (.str (toldS p r))) (some (.int k)) y10 x11 x12 x13) (W1 A p v' r)) := by
  have hl4 : 0 < p.flows.length ∧ p.flows.length ≤ 4 := by obtain ⟨most, h1, h2⟩ := hf; omega
  have d1 := w1_dig (A := A) (p := p) (v := v) (r := r) (k := 3) (by decide) (by decide)
  have d2 := w1_dig (A := A) (p := p) (v := v / 3) (r := r) (k := 2) (by decide) (by decide)
  have d3 := w1_dig (A := A) (p := p) (v := v / 3 / 2) (r := r) (k := 3) (by decide) (by decide)
  obtain ⟨i, hi, ei⟩ := pick_nat v (k := 3) (by decide)
  obtain ⟨j, hj, ej⟩ := pick_nat (v / 3) (k := 2) (by decide)
  obtain ⟨l, hl, el⟩ := pick_nat (v / 3 / 2) (k := 3) (by decide)
  rw [show v % 3 = (i : Int) from ei] at d1
  rw [show v / 3 % 2 = (j : Int) from ej] at d2
  rw [show v / 3 / 2 % 3 = (l : Int) from el] at d3
  obtain ⟨t1, _, _⟩ := told1 (A := A) hf I hev
  have jc : j = 0 ∨ j = 1 := by omega
  generalize v / 3 / 2 / 3 = v3 at *
  generalize v / 3 / 2 = v2 at *
  generalize v / 3 = v1 at *
  rcases jc with rfl | rfl
  · have e := ask_ok (A := A) (θ := W1 A p v3 r) (o := 1) (m := 2) (h := 3) (i := -1 - (l : Int)) hne w1_pl I.ok (.inl (by omega)) hk
    have e : m__law_ask A [.ref 1, .int k, .int (-1 - (l : Int))] (W1 A p v3 r) = some (.bl true, W1 A p v3 r) := e
    have t1 := t1 v3
    refine ⟨v3, some (.int (-1 - (l : Int))), ?_⟩
    unfold c2 sl71
    simp [d1, d2, d3, e, t1]
  · have e := ask_ok (A := A) (θ := W1 A p v2 r) (o := 1) (m := 2) (h := 3) (i := (p.flows.length : Int) + (i : Int)) hne w1_pl I.ok (.inr (by omega)) hk
    have e : m__law_ask A [.ref 1, .int k, .int ((p.flows.length : Int) + (i : Int))] (W1 A p v2 r) = some (.bl true, W1 A p v2 r) := e
    have t1 := t1 v2
    refine ⟨v2, some (.int ((p.flows.length : Int) + (i : Int))), ?_⟩
    unfold c2 sl71
    simp [d1, d2, d3, e, t1]
theorem c3_ok (hf : FlowsOk p.flows) (I1 : RInv p r1) (I2 : RInv p r2) (hev1 : r1.ev ≤ 900) (hev2 : r2.ev ≤ 900) : ∃ v' r1' r2' y12 y13, RInv p r1' ∧ RInv p r2' ∧ r1'.ev ≤ r1.ev + 1 ∧ r2'.ev ≤ r2.ev + 1 ∧
    c3 A (sl71 p x0 x3 x4 x7 x8 x9 x10 (some (.ref 4)) x12 x13) (W2 A p v r1 r2) = some (.nx (sl71 p x0 x3 x4 x7 x8 x9 x10 (some (.ref 4)) y12 y13) (W2 A p v' r1' r2')) := by
  have hl4 : 0 < p.flows.length ∧ p.flows.length ≤ 4 := by obtain ⟨most, h1, h2⟩ := hf; omega
  have d0 := w2_dig (A := A) (p := p) (v := v) (r1 := r1) (r2 := r2) (k := 2) (by decide) (by decide)
  have d1 := w2_dig (A := A) (p := p) (v := v / 2) (r1 := r1) (r2 := r2) (k := 7) (by decide) (by decide)
  have d2 := w2_dig (A := A) (p := p) (v := v / 2 / 7) (r1 := r1) (r2 := r2) (k := (p.flows.length : Int)) (by omega) (by omega)
  obtain ⟨j, hj, ej⟩ := pick_nat v (k := 2) (by decide)
  obtain ⟨k, hk, ek⟩ := pick_nat (v / 2) (k := 7) (by decide)
  obtain ⟨a, ha, ea⟩ := pick_nat (v / 2 / 7) hl4.1
  rw [show v % 2 = (j : Int) from ej] at d0
  rw [show v / 2 % 7 = (k : Int) from ek] at d1
  rw [ea] at d2
  obtain ⟨_, t1, _⟩ := told1 (A := A) hf I1 (by omega)
  obtain ⟨_, _, t2⟩ := told1 (A := A) hf I2 (by omega)
  have jc : j = 0 ∨ j = 1 := by omega
  generalize v / 2 / 7 / (p.flows.length : Int) = v3 at *
  generalize v / 2 / 7 = v2 at *
  generalize v / 2 = v1 at *
  have u1 := t1 v r2
  have u2 := t2 v r1
  rcases jc with rfl | rfl
  · obtain ⟨r', I', hv, w, _, e, _⟩ := ev1 (A := A) hf I1 ha (by omega : k ≤ 6)
    have e := e v3 r2
    have u3 := t2 v3 r'
    refine ⟨v3, r', r2, some (.str (toldS p r1)), some (.str (toldS p r2)), I', I2, hv, by omega, ?_⟩
    unfold c3 sl71
    simp [d0, d1, d2, u1, u2, e, u3]
  · obtain ⟨r', I', hv, w, _, _, e⟩ := ev1 (A := A) hf I2 ha (by omega : k ≤ 6)
    have e := e v3 r1
    have u3 := t1 v3 r'
    refine ⟨v3, r1, r', some (.str (toldS p r1)), some (.str (toldS p r2)), I1, I', by omega, hv, ?_⟩
    unfold c3 sl71
    simp [d0, d1, d2, u1, u2, e, u3]
theorem l_tail (hne : A.c_UnknownArm ≠ A.c_NotNow) (hf : FlowsOk p.flows) (hst : p.starts.length = p.flows.length) (hpq : ∀ q ∈ p.starts, q = pN ∨ q = qN) (hsf : safe p (firstS p) = true) (v : Int) :
    ∃ θ', lT A (sl71 p x0 x3 x4 none none none none none none none) (W1 A p v (run0 p)) = some (.ret (.bl true) θ') := by
  have hl4 : 0 < p.flows.length ∧ p.flows.length ≤ 4 := by obtain ⟨most, h1, h2⟩ := hf; omega
  have hr1 : R62 12 := R62_nat (n := 12) (by decide)
  have hr2 : R62 11 := R62_nat (n := 11) (by decide)
  obtain ⟨δ', θ', e1, hi⟩ := forF_idx (gt := gNm 7) (b := b1 A) (fun i δ θ1 => ∃ x7 v r, δ = sl71 p x0 x3 x4 x7 none none none none none none ∧ θ1 = W1 A p v r ∧ RInv p r ∧ r.ev ≤ i) (rngD 0 12) 0 (sl71 p x0 x3 x4 none none none none none none none) (W1 A p v (run0 p)) ⟨none, v, run0 p, rfl, rfl, RInv.new hf hst hpq hsf, Nat.le_refl _⟩ (by
    rintro j d _ δ θ1 ⟨x7, v, r, rfl, rfl, I, hv⟩
    obtain ⟨v', r', I', hv', e⟩ := b1_ok (A := A) (v := v) hf I (x0 := x0) (x3 := x3) (x4 := x4) (x7 := some d) (x8 := none) (x9 := none) (x10 := none) (x11 := none) (x12 := none) (x13 := none)
    exact ⟨_, _, _, _, rfl, e, some d, v', r', rfl, rfl, I', by omega⟩)
  obtain ⟨x7, v1, ra, rfl, rfl, I1, hv1⟩ := hi
  have hv1 : ra.ev ≤ 12 := by simpa [rngD] using hv1
  obtain ⟨t1, _, t3⟩ := told1 (A := A) hf I1 (by omega)
  obtain ⟨δ', θ', e2, hi⟩ := forF_idx (gt := gNm 9) (b := c2 A) (fun i δ θ1 => ∃ v x9 x10, δ = sl71 p x0 x3 x4 x7 (some (.str (toldS p ra))) x9 x10 none none none ∧ θ1 = W1 A p v ra) ((List.range 11).map natD) 0 (sl71 p x0 x3 x4 x7 (some (.str (toldS p ra))) none none none none none) (W1 A p v1 ra) ⟨v1, none, none, rfl, rfl⟩ (by
    rintro j d hd δ θ1 ⟨v, x9, x10, rfl, rfl⟩
    rw [List.getElem?_map, Option.map_eq_some_iff] at hd
    obtain ⟨k, hk, rfl⟩ := hd
    have hk : k < 11 := List.mem_range.mp (List.mem_of_getElem? hk)
    obtain ⟨v', y10, e⟩ := c2_ok (A := A) (v := v) hne hf I1 (by omega) (by omega : k ≤ 10) (x0 := x0) (x3 := x3) (x4 := x4) (x7 := x7) (x10 := x10) (x11 := none) (x12 := none) (x13 := none)
    exact ⟨_, _, _, _, rfl, e, v', some (natD k), y10, rfl, rfl⟩)
  obtain ⟨v2, x9, x10, rfl, rfl⟩ := hi
  have e3 := w1_fork (A := A) (v := v2) (r := ra) hf hst hpq hsf
  have u1 := t1 v1
  have u3 := t3 v2 ra
  obtain ⟨δ', θ', e4, hi⟩ := forF_idx (gt := gNm 7) (b := c3 A) (fun i δ θ1 => ∃ x7 v r1 r2 y12 y13, δ = sl71 p x0 x3 x4 x7 (some (.str (toldS p ra))) x9 x10 (some (.ref 4)) y12 y13 ∧ θ1 = W2 A p v r1 r2 ∧ RInv p r1 ∧ RInv p r2 ∧ r1.ev ≤ 12 + i ∧ r2.ev ≤ 12 + i ∧ i ≤ 12) (rngD 0 12) 0 (sl71 p x0 x3 x4 x7 (some (.str (toldS p ra))) x9 x10 (some (.ref 4)) none none) (W2 A p v2 ra ra) ⟨x7, v2, ra, ra, none, none, rfl, rfl, I1, I1, by omega, by omega, by omega⟩ (by
    rintro j d hd δ θ1 ⟨x7, v, r1, r2, y12, y13, rfl, rfl, I1, I2, h1, h2, hi⟩
    have hj := (List.getElem?_eq_some_iff.mp hd).1
    have hj : j < 12 := by simpa [rngD] using hj
    obtain ⟨v', r1', r2', z12, z13, J1, J2, g1, g2, e⟩ := c3_ok (A := A) (v := v) hf I1 I2 (by omega) (by omega) (x0 := x0) (x3 := x3) (x4 := x4) (x7 := some d) (x8 := some (.str (toldS p ra))) (x9 := x9) (x10 := x10) (x12 := y12) (x13 := y13)
    exact ⟨_, _, _, _, rfl, e, some d, v', r1', r2', z12, z13, rfl, rfl, J1, J2, by omega, by omega, by omega⟩)
  obtain ⟨z7, v3, rb, rc, y12, y13, rfl, rfl, _⟩ := hi
  refine ⟨W2 A p v3 rb rc, ?_⟩
  have i1 : ∀ δ T, iRange1 (aCons (fC (.int 12)) aNil) δ T = some (rngD 0 12, T) := fun δ T => by simp [hr1]
  have i2 : ∀ δ T, iRange1 (aCons (fC (.int 11)) aNil) δ T = some ((List.range 11).map natD, T) := fun δ T => by simp [hr2, show rngD 0 11 = (List.range 11).map natD from rfl]
  unfold lT
  rw [sSeq_ap, sFor_ap, i1]
  simp only
  rw [e1]
  simp only
  rw [sSeq_ap, show sAsg (fCall (m__law_told A) (aCons (fVar 6) (aCons (fVar 5) aNil))) (gNm 8) (sl71 p x0 x3 x4 x7 none none none none none none) (W1 A p v1 ra) = some (.nx (sl71 p x0 x3 x4 x7 (some (.str (toldS p ra))) none none none none none) (W1 A p v1 ra)) from by unfold sl71; simp [u1]]
  simp only
  rw [sSeq_ap, sFor_ap, i2]
  simp only
  rw [e2]
  simp only
  rw [sSeq_ap, show sAsg (fMeth A.c_Runner "fork" (m_Runner_fork A) (fVar 6) aNil) (gNm 11) (sl71 p x0 x3 x4 x7 (some (.str (toldS p ra))) x9 x10 none none none) (W1 A p v2 ra) = some (.nx (sl71 p x0 x3 x4 x7 (some (.str (toldS p ra))) x9 x10 (some (.ref 4)) none none) (W2 A p v2 ra ra)) from by unfold sl71; simp [w1_obj, e3]]
  simp only
  rw [sSeq_ap, show (sIf (tBf (fOp gNeS (fCall (m__law_told A) (aCons (fVar 11) (aCons (fVar 5) aNil))) (fVar 8)))
      (sRet (fC (.bl false)))
      sNx) (sl71 p x0 x3 x4 x7 (some (.str (toldS p ra))) x9 x10 (some (.ref 4)) none none) (W2 A p v2 ra ra) = some (.nx (sl71 p x0 x3 x4 x7 (some (.str (toldS p ra))) x9 x10 (some (.ref 4)) none none) (W2 A p v2 ra ra)) from by unfold sl71; simp [u3]]
  simp only
  rw [sSeq_ap, sFor_ap, i1]
  simp only
  rw [e4]
  simp
theorem fCut_ap {f : F} {δ : Dv} : fCut f δ θ = cutR θ (f δ θ) := rfl
theorem main_law (A : Adr) (hne : A.c_UnknownArm ≠ A.c_NotNow) (ns : List Int) (h : ns.length ≤ 63) : ∃ θ', m_law A [.lst (ns.map D.int)] [] = some (.bl true, θ') := by
  obtain ⟨v, e1⟩ := ms_digits (A := A) (θ := []) ns 0 18 (by decide)
  have hn : 0 < ([Cell.lst []] : Sto).length := by decide
  have e1' : m__law_digits A [.lst (ns.map D.int), .int 0, .int 18] [] = some (.ref 0, Dz [.lst []] 0 v) := e1
  obtain ⟨fs, ss, bs, v1, hd, e2⟩ := ms_law_plan (A := A) (v := v) hn
  have hfs : FlowsOk fs := hd.size
  have hl4 : 0 < fs.length ∧ fs.length ≤ 4 := by obtain ⟨most, h1, h2⟩ := hd.size; omega
  have e4 := ms_plan (A := A) (θ := Dz [.lst []] 0 v1) fs ss bs (by omega) (by have := hd.few; omega) (.inl rfl)
  have hu := uq_first (p := ⟨fs, ss, blkKvs bs⟩) hfs hd.st hd.pts
  have e5 := mr_law_new (A := A) (p := ⟨fs, ss, blkKvs bs⟩) (θ := Dz [.lst []] 0 v1) (uni hfs) hfs.plan hu hd.st
  have hl1 : (Dz [.lst []] 0 v1).length = 1 := by rw [dz_len]; rfl
  have hW : newSto A ⟨fs, ss, blkKvs bs⟩ (Dz [.lst []] 0 v1) = W1 A ⟨fs, ss, blkKvs bs⟩ v1 (run0 ⟨fs, ss, blkKvs bs⟩) := rfl
  rw [hl1, hW] at e5
  rw [law_is]
  simp only [bodyM_ap]
  cases hsf : safe ⟨fs, ss, blkKvs bs⟩ (firstS ⟨fs, ss, blkKvs bs⟩) with
  | false =>
    rw [hsf] at e5
    generalize W1 A ⟨fs, ss, blkKvs bs⟩ v1 (run0 ⟨fs, ss, blkKvs bs⟩) = Z at e5
    refine ⟨Z, ?_⟩
    simp [e1', e2, fCut_ap]
    simp [e4, e5]
  | true =>
    rw [hsf] at e5
    obtain ⟨θ', e6⟩ := l_tail (A := A) (p := ⟨fs, ss, blkKvs bs⟩) hne hfs hd.st hd.pts hsf v1 (x0 := some (.lst (ns.map D.int))) (x3 := some (.lst (ss.map nmD))) (x4 := some (.lst (bs.map quadD)))
    refine ⟨θ', ?_⟩
    unfold sl71 at e6
    generalize W1 A ⟨fs, ss, blkKvs bs⟩ v1 (run0 ⟨fs, ss, blkKvs bs⟩) = Z at e5 e6
    simp [e1', e2, fCut_ap]
    simp [e4, e5]
    simp only at e6
    rw [e6]
end
theorem Facts.hne {K : PySem.W.Frag} {mg : Str → Option Value} {A : Adr} (T : Facts K mg A) : A.c_UnknownArm ≠ A.c_NotNow := fun e => by
  have h := T.xm_UnknownArm_NotNow
  rw [e, T.xm_NotNow_NotNow] at h
  cases h
end Pg

set_option Elab.async false
set_option linter.all false
set_option maxRecDepth 100000
set_option maxHeartbeats 8000000
/-! what the top has left; the law (printed) -/
namespace Pg
open PySem L2 DL PySem.Spec PyProof.Rows
theorem kit_mk {K : PySem.W.Frag} {t : Value} {C : Addr} {b : Bool} (h : PySem.W.subIn K t (.ref C) = some b) (hs : PySem.W.subIn K (.ref C) (.ref C) = some true) (hd : PySem.W.hasDictIn K C = true) (ht : PySem.W.typeIn K (.ref C) = some (.type "type")) : PySem.W.kitOne K t (.ref C) = some b := by
  unfold PySem.W.kitOne
  split
  · rename_i hq
    have hq' := beq_iff_eq.mp hq
    rw [hq', hs] at h
    exact h
  · unfold PySem.W.kitCls
    have hc : (PySem.W.clsIn K C).isSome = true := by
      unfold PySem.W.hasDictIn at hd
      cases hk : PySem.W.clsIn K C with
      | none => rw [hk] at hd; cases hd
      | some _ => rfl
    simp only [hc, ht]
    simpa using h
theorem all_mk {l : PySem.W.OpenLaw} {w : World} {K : PySem.W.Frag} {h : Heap} {mg : Str → Option Value} {fa : Addr} (X : K.In h) (G : h.Ns mainGlobals mg) (hfa : mg "law" = some (.ref fa))
    {C_Plan C_Runner C_Search C_ArmwarrantError C_NotNow C_NotSafe C_UnknownArm p_Runner_is_over f__law_number f__law_digits f__law_digit f__law_place f__law_step f__law_plan f_landing f_Plan_first_state f_Search_key_of f_Plan_step_of f_Plan_wanted f_Plan_is_clear f_Plan_rest_of f_Plan_hindered_by f_Plan_can_step f_Plan_stepped f_switched f_Plan_outcomes f_Search_open_outcome f_Plan_has_ended f_Plan_all_ended f_Search_good_arm f_Search_is_safe f_Search___init__ f_Runner___init__ f__law_new f_Runner_is_over f_Runner_state_ahead f_Runner_check_arm f_Runner_place_of f_Runner_in_the_way f_Runner_is_held_back f_Runner_may f_Runner_is_halted f_Runner_is_under_way f__law_told f_Runner_fork f_Plan___init__ f_Runner_check_told f_Runner_begin f_Runner_end f_Runner_go_on f_Runner_read_input f_Runner_halt f_Runner_free f__law_event f__law_ask f_law : Addr}
    {rs_Runner_is_over : List Value} {oc__law_number dc__law_number pm__law_number cd__law_number ct__law_number kV__law_number : Value} {od__law_number an__law_number : Option Addr} {sl__law_number : Array (Option Value)} {oc__law_digits dc__law_digits pm__law_digits cd__law_digits ct__law_digits kV__law_digits : Value} {od__law_digits an__law_digits : Option Addr} {sl__law_digits : Array (Option Value)} {oc__law_digit dc__law_digit pm__law_digit cd__law_digit ct__law_digit kV__law_digit : Value} {od__law_digit an__law_digit : Option Addr} {sl__law_digit : Array (Option Value)} {oc__law_place dc__law_place pm__law_place cd__law_place ct__law_place kV__law_place : Value} {od__law_place an__law_place : Option Addr} {sl__law_place : Array (Option Value)} {oc__law_step dc__law_step pm__law_step cd__law_step ct__law_step kV__law_step : Value} {od__law_step an__law_step : Option Addr} {sl__law_step : Array (Option Value)} {oc__law_plan dc__law_plan pm__law_plan cd__law_plan ct__law_plan kV__law_plan : Value} {od__law_plan an__law_plan : Option Addr} {sl__law_plan : Array (Option Value)} {oc_landing dc_landing pm_landing cd_landing ct_landing kV_landing : Value} {od_landing an_landing : Option Addr} {sl_landing : Array (Option Value)} {oc_Plan_first_state dc_Plan_first_state pm_Plan_first_state cd_Plan_first_state ct_Plan_first_state kV_Plan_first_state : Value} {od_Plan_first_state an_Plan_first_state : Option Addr} {sl_Plan_first_state : Array (Option Value)} {oc_Search_key_of dc_Search_key_of pm_Search_key_of cd_Search_key_of ct_Search_key_of kV_Search_key_of : Value} {od_Search_key_of an_Search_key_of : Option Addr} {sl_Search_key_of : Array (Option Value)} {oc_Plan_step_of dc_Plan_step_of pm_Plan_step_of cd_Plan_step_of ct_Plan_step_of kV_Plan_step_of : Value} {od_Plan_step_of an_Plan_step_of : Option Addr} {sl_Plan_step_of : Array (Option Value)} {oc_Plan_wanted dc_Plan_wanted pm_Plan_wanted cd_Plan_wanted ct_Plan_wanted kV_Plan_wanted : Value} {od_Plan_wanted an_Plan_wanted : Option Addr} {sl_Plan_wanted : Array (Option Value)} {oc_Plan_is_clear dc_Plan_is_clear pm_Plan_is_clear cd_Plan_is_clear ct_Plan_is_clear kV_Plan_is_clear : Value} {od_Plan_is_clear an_Plan_is_clear : Option Addr} {sl_Plan_is_clear : Array (Option Value)} {oc_Plan_rest_of dc_Plan_rest_of pm_Plan_rest_of cd_Plan_rest_of ct_Plan_rest_of kV_Plan_rest_of : Value} {od_Plan_rest_of an_Plan_rest_of : Option Addr} {sl_Plan_rest_of : Array (Option Value)} {oc_Plan_hindered_by dc_Plan_hindered_by pm_Plan_hindered_by cd_Plan_hindered_by ct_Plan_hindered_by kV_Plan_hindered_by : Value} {od_Plan_hindered_by an_Plan_hindered_by : Option Addr} {sl_Plan_hindered_by : Array (Option Value)} {oc_Plan_can_step dc_Plan_can_step pm_Plan_can_step cd_Plan_can_step ct_Plan_can_step kV_Plan_can_step : Value} {od_Plan_can_step an_Plan_can_step : Option Addr} {sl_Plan_can_step : Array (Option Value)} {oc_Plan_stepped dc_Plan_stepped pm_Plan_stepped cd_Plan_stepped ct_Plan_stepped kV_Plan_stepped : Value} {od_Plan_stepped an_Plan_stepped : Option Addr} {sl_Plan_stepped : Array (Option Value)} {oc_switched dc_switched pm_switched cd_switched ct_switched kV_switched : Value} {od_switched an_switched : Option Addr} {sl_switched : Array (Option Value)} {oc_Plan_outcomes dc_Plan_outcomes pm_Plan_outcomes cd_Plan_outcomes ct_Plan_outcomes kV_Plan_outcomes : Value} {od_Plan_outcomes an_Plan_outcomes : Option Addr} {sl_Plan_outcomes : Array (Option Value)} {oc_Search_open_outcome dc_Search_open_outcome pm_Search_open_outcome cd_Search_open_outcome ct_Search_open_outcome kV_Search_open_outcome : Value} {od_Search_open_outcome an_Search_open_outcome : Option Addr} {sl_Search_open_outcome : Array (Option Value)} {oc_Plan_has_ended dc_Plan_has_ended pm_Plan_has_ended cd_Plan_has_ended ct_Plan_has_ended kV_Plan_has_ended : Value} {od_Plan_has_ended an_Plan_has_ended : Option Addr} {sl_Plan_has_ended : Array (Option Value)} {oc_Plan_all_ended dc_Plan_all_ended pm_Plan_all_ended cd_Plan_all_ended ct_Plan_all_ended kV_Plan_all_ended : Value} {od_Plan_all_ended an_Plan_all_ended : Option Addr} {sl_Plan_all_ended : Array (Option Value)} {oc_Search_good_arm dc_Search_good_arm pm_Search_good_arm cd_Search_good_arm ct_Search_good_arm kV_Search_good_arm : Value} {od_Search_good_arm an_Search_good_arm : Option Addr} {sl_Search_good_arm : Array (Option Value)} {oc_Search_is_safe dc_Search_is_safe pm_Search_is_safe cd_Search_is_safe ct_Search_is_safe kV_Search_is_safe : Value} {od_Search_is_safe an_Search_is_safe : Option Addr} {sl_Search_is_safe : Array (Option Value)} {oc_Search___init__ dc_Search___init__ pm_Search___init__ cd_Search___init__ ct_Search___init__ kV_Search___init__ : Value} {od_Search___init__ an_Search___init__ : Option Addr} {sl_Search___init__ : Array (Option Value)} {oc_Runner___init__ dc_Runner___init__ pm_Runner___init__ cd_Runner___init__ ct_Runner___init__ kV_Runner___init__ : Value} {od_Runner___init__ an_Runner___init__ : Option Addr} {sl_Runner___init__ : Array (Option Value)} {oc__law_new dc__law_new pm__law_new cd__law_new ct__law_new kV__law_new : Value} {od__law_new an__law_new : Option Addr} {sl__law_new : Array (Option Value)} {oc_Runner_is_over dc_Runner_is_over pm_Runner_is_over cd_Runner_is_over ct_Runner_is_over kV_Runner_is_over : Value} {od_Runner_is_over an_Runner_is_over : Option Addr} {sl_Runner_is_over : Array (Option Value)} {oc_Runner_state_ahead dc_Runner_state_ahead pm_Runner_state_ahead cd_Runner_state_ahead ct_Runner_state_ahead kV_Runner_state_ahead : Value} {od_Runner_state_ahead an_Runner_state_ahead : Option Addr} {sl_Runner_state_ahead : Array (Option Value)} {oc_Runner_check_arm dc_Runner_check_arm pm_Runner_check_arm cd_Runner_check_arm ct_Runner_check_arm kV_Runner_check_arm : Value} {od_Runner_check_arm an_Runner_check_arm : Option Addr} {sl_Runner_check_arm : Array (Option Value)} {oc_Runner_place_of dc_Runner_place_of pm_Runner_place_of cd_Runner_place_of ct_Runner_place_of kV_Runner_place_of : Value} {od_Runner_place_of an_Runner_place_of : Option Addr} {sl_Runner_place_of : Array (Option Value)} {oc_Runner_in_the_way dc_Runner_in_the_way pm_Runner_in_the_way cd_Runner_in_the_way ct_Runner_in_the_way kV_Runner_in_the_way : Value} {od_Runner_in_the_way an_Runner_in_the_way : Option Addr} {sl_Runner_in_the_way : Array (Option Value)} {oc_Runner_is_held_back dc_Runner_is_held_back pm_Runner_is_held_back cd_Runner_is_held_back ct_Runner_is_held_back kV_Runner_is_held_back : Value} {od_Runner_is_held_back an_Runner_is_held_back : Option Addr} {sl_Runner_is_held_back : Array (Option Value)} {oc_Runner_may dc_Runner_may pm_Runner_may cd_Runner_may ct_Runner_may kV_Runner_may : Value} {od_Runner_may an_Runner_may : Option Addr} {sl_Runner_may : Array (Option Value)} {oc_Runner_is_halted dc_Runner_is_halted pm_Runner_is_halted cd_Runner_is_halted ct_Runner_is_halted kV_Runner_is_halted : Value} {od_Runner_is_halted an_Runner_is_halted : Option Addr} {sl_Runner_is_halted : Array (Option Value)} {oc_Runner_is_under_way dc_Runner_is_under_way pm_Runner_is_under_way cd_Runner_is_under_way ct_Runner_is_under_way kV_Runner_is_under_way : Value} {od_Runner_is_under_way an_Runner_is_under_way : Option Addr} {sl_Runner_is_under_way : Array (Option Value)} {oc__law_told dc__law_told pm__law_told cd__law_told ct__law_told kV__law_told : Value} {od__law_told an__law_told : Option Addr} {sl__law_told : Array (Option Value)} {oc_Runner_fork dc_Runner_fork pm_Runner_fork cd_Runner_fork ct_Runner_fork kV_Runner_fork : Value} {od_Runner_fork an_Runner_fork : Option Addr} {sl_Runner_fork : Array (Option Value)} {oc_Plan___init__ dc_Plan___init__ pm_Plan___init__ cd_Plan___init__ ct_Plan___init__ : Value} {od_Plan___init__ an_Plan___init__ : Option Addr} {sl_Plan___init__ : Array (Option Value)} {kd_Plan___init__ t_Plan___init__ : Addr} {to_Plan___init__ : Option Addr} {tn_Plan___init__ : Nat} {ts_Plan___init__ : Array (Option Value)} {oc_Runner_check_told dc_Runner_check_told pm_Runner_check_told cd_Runner_check_told ct_Runner_check_told kV_Runner_check_told : Value} {od_Runner_check_told an_Runner_check_told : Option Addr} {sl_Runner_check_told : Array (Option Value)} {oc_Runner_begin dc_Runner_begin pm_Runner_begin cd_Runner_begin ct_Runner_begin kV_Runner_begin : Value} {od_Runner_begin an_Runner_begin : Option Addr} {sl_Runner_begin : Array (Option Value)} {oc_Runner_end dc_Runner_end pm_Runner_end cd_Runner_end ct_Runner_end kV_Runner_end : Value} {od_Runner_end an_Runner_end : Option Addr} {sl_Runner_end : Array (Option Value)} {oc_Runner_go_on dc_Runner_go_on pm_Runner_go_on cd_Runner_go_on ct_Runner_go_on kV_Runner_go_on : Value} {od_Runner_go_on an_Runner_go_on : Option Addr} {sl_Runner_go_on : Array (Option Value)} {oc_Runner_read_input dc_Runner_read_input pm_Runner_read_input cd_Runner_read_input ct_Runner_read_input kV_Runner_read_input : Value} {od_Runner_read_input an_Runner_read_input : Option Addr} {sl_Runner_read_input : Array (Option Value)} {oc_Runner_halt dc_Runner_halt pm_Runner_halt cd_Runner_halt ct_Runner_halt kV_Runner_halt : Value} {od_Runner_halt an_Runner_halt : Option Addr} {sl_Runner_halt : Array (Option Value)} {oc_Runner_free dc_Runner_free pm_Runner_free cd_Runner_free ct_Runner_free kV_Runner_free : Value} {od_Runner_free an_Runner_free : Option Addr} {sl_Runner_free : Array (Option Value)} {oc__law_event dc__law_event pm__law_event cd__law_event ct__law_event kV__law_event : Value} {od__law_event an__law_event : Option Addr} {sl__law_event : Array (Option Value)} {oc__law_ask dc__law_ask pm__law_ask cd__law_ask ct__law_ask kV__law_ask : Value} {od__law_ask an__law_ask : Option Addr} {sl__law_ask : Array (Option Value)} {oc_law dc_law pm_law cd_law ct_law kV_law : Value} {od_law an_law : Option Addr} {sl_law : Array (Option Value)}
    (aC_Plan : PySem.W.nsIn K mainGlobals "Plan" = some (some (.ref C_Plan)))
    (aC_Runner : PySem.W.nsIn K mainGlobals "Runner" = some (some (.ref C_Runner)))
    (aC_Search : PySem.W.nsIn K mainGlobals "Search" = some (some (.ref C_Search)))
    (a__law_number : PySem.W.nsIn K mainGlobals "_law_number" = some (some (.ref f__law_number)))
    (l__law_number : K.lookup f__law_number = some ⟨oc__law_number, od__law_number, .func (PySem.W.fnOf "_law_number" "_law_number" (defArgs s__law_number) (defBody s__law_number) (defScope s__law_number) .none kV__law_number dc__law_number pm__law_number an__law_number cd__law_number ct__law_number), sl__law_number⟩)
    (c__law_number : PySem.W.codeIn K cd__law_number "_law_number" = true)
    (k__law_number : PySem.W.keepIn K (.ref f__law_number) = true)
    (a__law_digits : PySem.W.nsIn K mainGlobals "_law_digits" = some (some (.ref f__law_digits)))
    (l__law_digits : K.lookup f__law_digits = some ⟨oc__law_digits, od__law_digits, .func (PySem.W.fnOf "_law_digits" "_law_digits" (defArgs s__law_digits) (defBody s__law_digits) (defScope s__law_digits) .none kV__law_digits dc__law_digits pm__law_digits an__law_digits cd__law_digits ct__law_digits), sl__law_digits⟩)
    (c__law_digits : PySem.W.codeIn K cd__law_digits "_law_digits" = true)
    (k__law_digits : PySem.W.keepIn K (.ref f__law_digits) = true)
    (a__law_digit : PySem.W.nsIn K mainGlobals "_law_digit" = some (some (.ref f__law_digit)))
    (l__law_digit : K.lookup f__law_digit = some ⟨oc__law_digit, od__law_digit, .func (PySem.W.fnOf "_law_digit" "_law_digit" (defArgs s__law_digit) (defBody s__law_digit) (defScope s__law_digit) .none kV__law_digit dc__law_digit pm__law_digit an__law_digit cd__law_digit ct__law_digit), sl__law_digit⟩)
    (c__law_digit : PySem.W.codeIn K cd__law_digit "_law_digit" = true)
    (k__law_digit : PySem.W.keepIn K (.ref f__law_digit) = true)
    (a__law_place : PySem.W.nsIn K mainGlobals "_law_place" = some (some (.ref f__law_place)))
    (l__law_place : K.lookup f__law_place = some ⟨oc__law_place, od__law_place, .func (PySem.W.fnOf "_law_place" "_law_place" (defArgs s__law_place) (defBody s__law_place) (defScope s__law_place) .none kV__law_place dc__law_place pm__law_place an__law_place cd__law_place ct__law_place), sl__law_place⟩)
    (c__law_place : PySem.W.codeIn K cd__law_place "_law_place" = true)
    (k__law_place : PySem.W.keepIn K (.ref f__law_place) = true)
    (a__law_step : PySem.W.nsIn K mainGlobals "_law_step" = some (some (.ref f__law_step)))
    (l__law_step : K.lookup f__law_step = some ⟨oc__law_step, od__law_step, .func (PySem.W.fnOf "_law_step" "_law_step" (defArgs s__law_step) (defBody s__law_step) (defScope s__law_step) .none kV__law_step dc__law_step pm__law_step an__law_step cd__law_step ct__law_step), sl__law_step⟩)
    (c__law_step : PySem.W.codeIn K cd__law_step "_law_step" = true)
    (k__law_step : PySem.W.keepIn K (.ref f__law_step) = true)
    (a__law_plan : PySem.W.nsIn K mainGlobals "_law_plan" = some (some (.ref f__law_plan)))
    (l__law_plan : K.lookup f__law_plan = some ⟨oc__law_plan, od__law_plan, .func (PySem.W.fnOf "_law_plan" "_law_plan" (defArgs s__law_plan) (defBody s__law_plan) (defScope s__law_plan) .none kV__law_plan dc__law_plan pm__law_plan an__law_plan cd__law_plan ct__law_plan), sl__law_plan⟩)
    (c__law_plan : PySem.W.codeIn K cd__law_plan "_law_plan" = true)
    (k__law_plan : PySem.W.keepIn K (.ref f__law_plan) = true)
    (a_landing : PySem.W.nsIn K mainGlobals "landing" = some (some (.ref f_landing)))
    (l_landing : K.lookup f_landing = some ⟨oc_landing, od_landing, .func (PySem.W.fnOf "landing" "landing" (defArgs s_landing) (defBody s_landing) (defScope s_landing) .none kV_landing dc_landing pm_landing an_landing cd_landing ct_landing), sl_landing⟩)
    (c_landing : PySem.W.codeIn K cd_landing "landing" = true)
    (k_landing : PySem.W.keepIn K (.ref f_landing) = true)
    (a_Plan_first_state : PySem.W.findIn K (.ref C_Plan) "first_state" = some (some (.ref f_Plan_first_state)))
    (i_Plan_first_state : PySem.W.isFn K (.ref f_Plan_first_state) = true)
    (l_Plan_first_state : K.lookup f_Plan_first_state = some ⟨oc_Plan_first_state, od_Plan_first_state, .func (PySem.W.fnOf "first_state" "Plan.first_state" (defArgs s_Plan_first_state) (defBody s_Plan_first_state) (defScope s_Plan_first_state) .none kV_Plan_first_state dc_Plan_first_state pm_Plan_first_state an_Plan_first_state cd_Plan_first_state ct_Plan_first_state), sl_Plan_first_state⟩)
    (c_Plan_first_state : PySem.W.codeIn K cd_Plan_first_state "Plan.first_state" = true)
    (k_Plan_first_state : PySem.W.keepIn K (.ref f_Plan_first_state) = true)
    (a_Search_key_of : PySem.W.findIn K (.ref C_Search) "key_of" = some (some (.ref f_Search_key_of)))
    (i_Search_key_of : PySem.W.isFn K (.ref f_Search_key_of) = true)
    (l_Search_key_of : K.lookup f_Search_key_of = some ⟨oc_Search_key_of, od_Search_key_of, .func (PySem.W.fnOf "key_of" "Search.key_of" (defArgs s_Search_key_of) (defBody s_Search_key_of) (defScope s_Search_key_of) .none kV_Search_key_of dc_Search_key_of pm_Search_key_of an_Search_key_of cd_Search_key_of ct_Search_key_of), sl_Search_key_of⟩)
    (c_Search_key_of : PySem.W.codeIn K cd_Search_key_of "Search.key_of" = true)
    (k_Search_key_of : PySem.W.keepIn K (.ref f_Search_key_of) = true)
    (a_Plan_step_of : PySem.W.findIn K (.ref C_Plan) "step_of" = some (some (.ref f_Plan_step_of)))
    (i_Plan_step_of : PySem.W.isFn K (.ref f_Plan_step_of) = true)
    (l_Plan_step_of : K.lookup f_Plan_step_of = some ⟨oc_Plan_step_of, od_Plan_step_of, .func (PySem.W.fnOf "step_of" "Plan.step_of" (defArgs s_Plan_step_of) (defBody s_Plan_step_of) (defScope s_Plan_step_of) .none kV_Plan_step_of dc_Plan_step_of pm_Plan_step_of an_Plan_step_of cd_Plan_step_of ct_Plan_step_of), sl_Plan_step_of⟩)
    (c_Plan_step_of : PySem.W.codeIn K cd_Plan_step_of "Plan.step_of" = true)
    (k_Plan_step_of : PySem.W.keepIn K (.ref f_Plan_step_of) = true)
    (a_Plan_wanted : PySem.W.findIn K (.ref C_Plan) "wanted" = some (some (.ref f_Plan_wanted)))
    (i_Plan_wanted : PySem.W.isFn K (.ref f_Plan_wanted) = true)
    (l_Plan_wanted : K.lookup f_Plan_wanted = some ⟨oc_Plan_wanted, od_Plan_wanted, .func (PySem.W.fnOf "wanted" "Plan.wanted" (defArgs s_Plan_wanted) (defBody s_Plan_wanted) (defScope s_Plan_wanted) .none kV_Plan_wanted dc_Plan_wanted pm_Plan_wanted an_Plan_wanted cd_Plan_wanted ct_Plan_wanted), sl_Plan_wanted⟩)
    (c_Plan_wanted : PySem.W.codeIn K cd_Plan_wanted "Plan.wanted" = true)
    (k_Plan_wanted : PySem.W.keepIn K (.ref f_Plan_wanted) = true)
    (a_Plan_is_clear : PySem.W.findIn K (.ref C_Plan) "is_clear" = some (some (.ref f_Plan_is_clear)))
    (i_Plan_is_clear : PySem.W.isFn K (.ref f_Plan_is_clear) = true)
    (l_Plan_is_clear : K.lookup f_Plan_is_clear = some ⟨oc_Plan_is_clear, od_Plan_is_clear, .func (PySem.W.fnOf "is_clear" "Plan.is_clear" (defArgs s_Plan_is_clear) (defBody s_Plan_is_clear) (defScope s_Plan_is_clear) .none kV_Plan_is_clear dc_Plan_is_clear pm_Plan_is_clear an_Plan_is_clear cd_Plan_is_clear ct_Plan_is_clear), sl_Plan_is_clear⟩)
    (c_Plan_is_clear : PySem.W.codeIn K cd_Plan_is_clear "Plan.is_clear" = true)
    (k_Plan_is_clear : PySem.W.keepIn K (.ref f_Plan_is_clear) = true)
    (a_Plan_rest_of : PySem.W.findIn K (.ref C_Plan) "rest_of" = some (some (.ref f_Plan_rest_of)))
    (i_Plan_rest_of : PySem.W.isFn K (.ref f_Plan_rest_of) = true)
    (l_Plan_rest_of : K.lookup f_Plan_rest_of = some ⟨oc_Plan_rest_of, od_Plan_rest_of, .func (PySem.W.fnOf "rest_of" "Plan.rest_of" (defArgs s_Plan_rest_of) (defBody s_Plan_rest_of) (defScope s_Plan_rest_of) .none kV_Plan_rest_of dc_Plan_rest_of pm_Plan_rest_of an_Plan_rest_of cd_Plan_rest_of ct_Plan_rest_of), sl_Plan_rest_of⟩)
    (c_Plan_rest_of : PySem.W.codeIn K cd_Plan_rest_of "Plan.rest_of" = true)
    (k_Plan_rest_of : PySem.W.keepIn K (.ref f_Plan_rest_of) = true)
    (a_Plan_hindered_by : PySem.W.findIn K (.ref C_Plan) "hindered_by" = some (some (.ref f_Plan_hindered_by)))
    (i_Plan_hindered_by : PySem.W.isFn K (.ref f_Plan_hindered_by) = true)
    (l_Plan_hindered_by : K.lookup f_Plan_hindered_by = some ⟨oc_Plan_hindered_by, od_Plan_hindered_by, .func (PySem.W.fnOf "hindered_by" "Plan.hindered_by" (defArgs s_Plan_hindered_by) (defBody s_Plan_hindered_by) (defScope s_Plan_hindered_by) .none kV_Plan_hindered_by dc_Plan_hindered_by pm_Plan_hindered_by an_Plan_hindered_by cd_Plan_hindered_by ct_Plan_hindered_by), sl_Plan_hindered_by⟩)
    (c_Plan_hindered_by : PySem.W.codeIn K cd_Plan_hindered_by "Plan.hindered_by" = true)
    (k_Plan_hindered_by : PySem.W.keepIn K (.ref f_Plan_hindered_by) = true)
    (a_Plan_can_step : PySem.W.findIn K (.ref C_Plan) "can_step" = some (some (.ref f_Plan_can_step)))
    (i_Plan_can_step : PySem.W.isFn K (.ref f_Plan_can_step) = true)
    (l_Plan_can_step : K.lookup f_Plan_can_step = some ⟨oc_Plan_can_step, od_Plan_can_step, .func (PySem.W.fnOf "can_step" "Plan.can_step" (defArgs s_Plan_can_step) (defBody s_Plan_can_step) (defScope s_Plan_can_step) .none kV_Plan_can_step dc_Plan_can_step pm_Plan_can_step an_Plan_can_step cd_Plan_can_step ct_Plan_can_step), sl_Plan_can_step⟩)
    (c_Plan_can_step : PySem.W.codeIn K cd_Plan_can_step "Plan.can_step" = true)
    (k_Plan_can_step : PySem.W.keepIn K (.ref f_Plan_can_step) = true)
    (a_Plan_stepped : PySem.W.findIn K (.ref C_Plan) "stepped" = some (some (.ref f_Plan_stepped)))
    (i_Plan_stepped : PySem.W.isFn K (.ref f_Plan_stepped) = true)
    (l_Plan_stepped : K.lookup f_Plan_stepped = some ⟨oc_Plan_stepped, od_Plan_stepped, .func (PySem.W.fnOf "stepped" "Plan.stepped" (defArgs s_Plan_stepped) (defBody s_Plan_stepped) (defScope s_Plan_stepped) .none kV_Plan_stepped dc_Plan_stepped pm_Plan_stepped an_Plan_stepped cd_Plan_stepped ct_Plan_stepped), sl_Plan_stepped⟩)
    (c_Plan_stepped : PySem.W.codeIn K cd_Plan_stepped "Plan.stepped" = true)
    (k_Plan_stepped : PySem.W.keepIn K (.ref f_Plan_stepped) = true)
    (a_switched : PySem.W.nsIn K mainGlobals "switched" = some (some (.ref f_switched)))
    (l_switched : K.lookup f_switched = some ⟨oc_switched, od_switched, .func (PySem.W.fnOf "switched" "switched" (defArgs s_switched) (defBody s_switched) (defScope s_switched) .none kV_switched dc_switched pm_switched an_switched cd_switched ct_switched), sl_switched⟩)
    (c_switched : PySem.W.codeIn K cd_switched "switched" = true)
    (k_switched : PySem.W.keepIn K (.ref f_switched) = true)
    (a_Plan_outcomes : PySem.W.findIn K (.ref C_Plan) "outcomes" = some (some (.ref f_Plan_outcomes)))
    (i_Plan_outcomes : PySem.W.isFn K (.ref f_Plan_outcomes) = true)
    (l_Plan_outcomes : K.lookup f_Plan_outcomes = some ⟨oc_Plan_outcomes, od_Plan_outcomes, .func (PySem.W.fnOf "outcomes" "Plan.outcomes" (defArgs s_Plan_outcomes) (defBody s_Plan_outcomes) (defScope s_Plan_outcomes) .none kV_Plan_outcomes dc_Plan_outcomes pm_Plan_outcomes an_Plan_outcomes cd_Plan_outcomes ct_Plan_outcomes), sl_Plan_outcomes⟩)
    (c_Plan_outcomes : PySem.W.codeIn K cd_Plan_outcomes "Plan.outcomes" = true)
    (k_Plan_outcomes : PySem.W.keepIn K (.ref f_Plan_outcomes) = true)
    (a_Search_open_outcome : PySem.W.findIn K (.ref C_Search) "open_outcome" = some (some (.ref f_Search_open_outcome)))
    (i_Search_open_outcome : PySem.W.isFn K (.ref f_Search_open_outcome) = true)
    (l_Search_open_outcome : K.lookup f_Search_open_outcome = some ⟨oc_Search_open_outcome, od_Search_open_outcome, .func (PySem.W.fnOf "open_outcome" "Search.open_outcome" (defArgs s_Search_open_outcome) (defBody s_Search_open_outcome) (defScope s_Search_open_outcome) .none kV_Search_open_outcome dc_Search_open_outcome pm_Search_open_outcome an_Search_open_outcome cd_Search_open_outcome ct_Search_open_outcome), sl_Search_open_outcome⟩)
    (c_Search_open_outcome : PySem.W.codeIn K cd_Search_open_outcome "Search.open_outcome" = true)
    (k_Search_open_outcome : PySem.W.keepIn K (.ref f_Search_open_outcome) = true)
    (a_Plan_has_ended : PySem.W.findIn K (.ref C_Plan) "has_ended" = some (some (.ref f_Plan_has_ended)))
    (i_Plan_has_ended : PySem.W.isFn K (.ref f_Plan_has_ended) = true)
    (l_Plan_has_ended : K.lookup f_Plan_has_ended = some ⟨oc_Plan_has_ended, od_Plan_has_ended, .func (PySem.W.fnOf "has_ended" "Plan.has_ended" (defArgs s_Plan_has_ended) (defBody s_Plan_has_ended) (defScope s_Plan_has_ended) .none kV_Plan_has_ended dc_Plan_has_ended pm_Plan_has_ended an_Plan_has_ended cd_Plan_has_ended ct_Plan_has_ended), sl_Plan_has_ended⟩)
    (c_Plan_has_ended : PySem.W.codeIn K cd_Plan_has_ended "Plan.has_ended" = true)
    (k_Plan_has_ended : PySem.W.keepIn K (.ref f_Plan_has_ended) = true)
    (a_Plan_all_ended : PySem.W.findIn K (.ref C_Plan) "all_ended" = some (some (.ref f_Plan_all_ended)))
    (i_Plan_all_ended : PySem.W.isFn K (.ref f_Plan_all_ended) = true)
    (l_Plan_all_ended : K.lookup f_Plan_all_ended = some ⟨oc_Plan_all_ended, od_Plan_all_ended, .func (PySem.W.fnOf "all_ended" "Plan.all_ended" (defArgs s_Plan_all_ended) (defBody s_Plan_all_ended) (defScope s_Plan_all_ended) .none kV_Plan_all_ended dc_Plan_all_ended pm_Plan_all_ended an_Plan_all_ended cd_Plan_all_ended ct_Plan_all_ended), sl_Plan_all_ended⟩)
    (c_Plan_all_ended : PySem.W.codeIn K cd_Plan_all_ended "Plan.all_ended" = true)
    (k_Plan_all_ended : PySem.W.keepIn K (.ref f_Plan_all_ended) = true)
    (a_Search_good_arm : PySem.W.findIn K (.ref C_Search) "good_arm" = some (some (.ref f_Search_good_arm)))
    (i_Search_good_arm : PySem.W.isFn K (.ref f_Search_good_arm) = true)
    (l_Search_good_arm : K.lookup f_Search_good_arm = some ⟨oc_Search_good_arm, od_Search_good_arm, .func (PySem.W.fnOf "good_arm" "Search.good_arm" (defArgs s_Search_good_arm) (defBody s_Search_good_arm) (defScope s_Search_good_arm) .none kV_Search_good_arm dc_Search_good_arm pm_Search_good_arm an_Search_good_arm cd_Search_good_arm ct_Search_good_arm), sl_Search_good_arm⟩)
    (c_Search_good_arm : PySem.W.codeIn K cd_Search_good_arm "Search.good_arm" = true)
    (k_Search_good_arm : PySem.W.keepIn K (.ref f_Search_good_arm) = true)
    (a_Search_is_safe : PySem.W.findIn K (.ref C_Search) "is_safe" = some (some (.ref f_Search_is_safe)))
    (i_Search_is_safe : PySem.W.isFn K (.ref f_Search_is_safe) = true)
    (l_Search_is_safe : K.lookup f_Search_is_safe = some ⟨oc_Search_is_safe, od_Search_is_safe, .func (PySem.W.fnOf "is_safe" "Search.is_safe" (defArgs s_Search_is_safe) (defBody s_Search_is_safe) (defScope s_Search_is_safe) .none kV_Search_is_safe dc_Search_is_safe pm_Search_is_safe an_Search_is_safe cd_Search_is_safe ct_Search_is_safe), sl_Search_is_safe⟩)
    (c_Search_is_safe : PySem.W.codeIn K cd_Search_is_safe "Search.is_safe" = true)
    (k_Search_is_safe : PySem.W.keepIn K (.ref f_Search_is_safe) = true)
    (a_Search___init__ : PySem.W.findIn K (.ref C_Search) "__init__" = some (some (.ref f_Search___init__)))
    (i_Search___init__ : PySem.W.isFn K (.ref f_Search___init__) = true)
    (l_Search___init__ : K.lookup f_Search___init__ = some ⟨oc_Search___init__, od_Search___init__, .func (PySem.W.fnOf "__init__" "Search.__init__" (defArgs s_Search___init__) (defBody s_Search___init__) (defScope s_Search___init__) .none kV_Search___init__ dc_Search___init__ pm_Search___init__ an_Search___init__ cd_Search___init__ ct_Search___init__), sl_Search___init__⟩)
    (c_Search___init__ : PySem.W.codeIn K cd_Search___init__ "Search.__init__" = true)
    (k_Search___init__ : PySem.W.keepIn K (.ref f_Search___init__) = true)
    (a_Runner___init__ : PySem.W.findIn K (.ref C_Runner) "__init__" = some (some (.ref f_Runner___init__)))
    (i_Runner___init__ : PySem.W.isFn K (.ref f_Runner___init__) = true)
    (l_Runner___init__ : K.lookup f_Runner___init__ = some ⟨oc_Runner___init__, od_Runner___init__, .func (PySem.W.fnOf "__init__" "Runner.__init__" (defArgs s_Runner___init__) (defBody s_Runner___init__) (defScope s_Runner___init__) .none kV_Runner___init__ dc_Runner___init__ pm_Runner___init__ an_Runner___init__ cd_Runner___init__ ct_Runner___init__), sl_Runner___init__⟩)
    (c_Runner___init__ : PySem.W.codeIn K cd_Runner___init__ "Runner.__init__" = true)
    (k_Runner___init__ : PySem.W.keepIn K (.ref f_Runner___init__) = true)
    (a__law_new : PySem.W.nsIn K mainGlobals "_law_new" = some (some (.ref f__law_new)))
    (l__law_new : K.lookup f__law_new = some ⟨oc__law_new, od__law_new, .func (PySem.W.fnOf "_law_new" "_law_new" (defArgs s__law_new) (defBody s__law_new) (defScope s__law_new) .none kV__law_new dc__law_new pm__law_new an__law_new cd__law_new ct__law_new), sl__law_new⟩)
    (c__law_new : PySem.W.codeIn K cd__law_new "_law_new" = true)
    (k__law_new : PySem.W.keepIn K (.ref f__law_new) = true)
    (l_Runner_is_over : K.lookup f_Runner_is_over = some ⟨oc_Runner_is_over, od_Runner_is_over, .func (PySem.W.fnOf "is_over" "Runner.is_over" (defArgs s_Runner_is_over) (defBody s_Runner_is_over) (defScope s_Runner_is_over) .none kV_Runner_is_over dc_Runner_is_over pm_Runner_is_over an_Runner_is_over cd_Runner_is_over ct_Runner_is_over), sl_Runner_is_over⟩)
    (c_Runner_is_over : PySem.W.codeIn K cd_Runner_is_over "Runner.is_over" = true)
    (k_Runner_is_over : PySem.W.keepIn K (.ref f_Runner_is_over) = true)
    (a_Runner_state_ahead : PySem.W.findIn K (.ref C_Runner) "state_ahead" = some (some (.ref f_Runner_state_ahead)))
    (i_Runner_state_ahead : PySem.W.isFn K (.ref f_Runner_state_ahead) = true)
    (l_Runner_state_ahead : K.lookup f_Runner_state_ahead = some ⟨oc_Runner_state_ahead, od_Runner_state_ahead, .func (PySem.W.fnOf "state_ahead" "Runner.state_ahead" (defArgs s_Runner_state_ahead) (defBody s_Runner_state_ahead) (defScope s_Runner_state_ahead) .none kV_Runner_state_ahead dc_Runner_state_ahead pm_Runner_state_ahead an_Runner_state_ahead cd_Runner_state_ahead ct_Runner_state_ahead), sl_Runner_state_ahead⟩)
    (c_Runner_state_ahead : PySem.W.codeIn K cd_Runner_state_ahead "Runner.state_ahead" = true)
    (k_Runner_state_ahead : PySem.W.keepIn K (.ref f_Runner_state_ahead) = true)
    (a_Runner_check_arm : PySem.W.findIn K (.ref C_Runner) "check_arm" = some (some (.ref f_Runner_check_arm)))
    (i_Runner_check_arm : PySem.W.isFn K (.ref f_Runner_check_arm) = true)
    (l_Runner_check_arm : K.lookup f_Runner_check_arm = some ⟨oc_Runner_check_arm, od_Runner_check_arm, .func (PySem.W.fnOf "check_arm" "Runner.check_arm" (defArgs s_Runner_check_arm) (defBody s_Runner_check_arm) (defScope s_Runner_check_arm) .none kV_Runner_check_arm dc_Runner_check_arm pm_Runner_check_arm an_Runner_check_arm cd_Runner_check_arm ct_Runner_check_arm), sl_Runner_check_arm⟩)
    (c_Runner_check_arm : PySem.W.codeIn K cd_Runner_check_arm "Runner.check_arm" = true)
    (k_Runner_check_arm : PySem.W.keepIn K (.ref f_Runner_check_arm) = true)
    (a_Runner_place_of : PySem.W.findIn K (.ref C_Runner) "place_of" = some (some (.ref f_Runner_place_of)))
    (i_Runner_place_of : PySem.W.isFn K (.ref f_Runner_place_of) = true)
    (l_Runner_place_of : K.lookup f_Runner_place_of = some ⟨oc_Runner_place_of, od_Runner_place_of, .func (PySem.W.fnOf "place_of" "Runner.place_of" (defArgs s_Runner_place_of) (defBody s_Runner_place_of) (defScope s_Runner_place_of) .none kV_Runner_place_of dc_Runner_place_of pm_Runner_place_of an_Runner_place_of cd_Runner_place_of ct_Runner_place_of), sl_Runner_place_of⟩)
    (c_Runner_place_of : PySem.W.codeIn K cd_Runner_place_of "Runner.place_of" = true)
    (k_Runner_place_of : PySem.W.keepIn K (.ref f_Runner_place_of) = true)
    (a_Runner_in_the_way : PySem.W.findIn K (.ref C_Runner) "in_the_way" = some (some (.ref f_Runner_in_the_way)))
    (i_Runner_in_the_way : PySem.W.isFn K (.ref f_Runner_in_the_way) = true)
    (l_Runner_in_the_way : K.lookup f_Runner_in_the_way = some ⟨oc_Runner_in_the_way, od_Runner_in_the_way, .func (PySem.W.fnOf "in_the_way" "Runner.in_the_way" (defArgs s_Runner_in_the_way) (defBody s_Runner_in_the_way) (defScope s_Runner_in_the_way) .none kV_Runner_in_the_way dc_Runner_in_the_way pm_Runner_in_the_way an_Runner_in_the_way cd_Runner_in_the_way ct_Runner_in_the_way), sl_Runner_in_the_way⟩)
    (c_Runner_in_the_way : PySem.W.codeIn K cd_Runner_in_the_way "Runner.in_the_way" = true)
    (k_Runner_in_the_way : PySem.W.keepIn K (.ref f_Runner_in_the_way) = true)
    (a_Runner_is_held_back : PySem.W.findIn K (.ref C_Runner) "is_held_back" = some (some (.ref f_Runner_is_held_back)))
    (i_Runner_is_held_back : PySem.W.isFn K (.ref f_Runner_is_held_back) = true)
    (l_Runner_is_held_back : K.lookup f_Runner_is_held_back = some ⟨oc_Runner_is_held_back, od_Runner_is_held_back, .func (PySem.W.fnOf "is_held_back" "Runner.is_held_back" (defArgs s_Runner_is_held_back) (defBody s_Runner_is_held_back) (defScope s_Runner_is_held_back) .none kV_Runner_is_held_back dc_Runner_is_held_back pm_Runner_is_held_back an_Runner_is_held_back cd_Runner_is_held_back ct_Runner_is_held_back), sl_Runner_is_held_back⟩)
    (c_Runner_is_held_back : PySem.W.codeIn K cd_Runner_is_held_back "Runner.is_held_back" = true)
    (k_Runner_is_held_back : PySem.W.keepIn K (.ref f_Runner_is_held_back) = true)
    (a_Runner_may : PySem.W.findIn K (.ref C_Runner) "may" = some (some (.ref f_Runner_may)))
    (i_Runner_may : PySem.W.isFn K (.ref f_Runner_may) = true)
    (l_Runner_may : K.lookup f_Runner_may = some ⟨oc_Runner_may, od_Runner_may, .func (PySem.W.fnOf "may" "Runner.may" (defArgs s_Runner_may) (defBody s_Runner_may) (defScope s_Runner_may) .none kV_Runner_may dc_Runner_may pm_Runner_may an_Runner_may cd_Runner_may ct_Runner_may), sl_Runner_may⟩)
    (c_Runner_may : PySem.W.codeIn K cd_Runner_may "Runner.may" = true)
    (k_Runner_may : PySem.W.keepIn K (.ref f_Runner_may) = true)
    (a_Runner_is_halted : PySem.W.findIn K (.ref C_Runner) "is_halted" = some (some (.ref f_Runner_is_halted)))
    (i_Runner_is_halted : PySem.W.isFn K (.ref f_Runner_is_halted) = true)
    (l_Runner_is_halted : K.lookup f_Runner_is_halted = some ⟨oc_Runner_is_halted, od_Runner_is_halted, .func (PySem.W.fnOf "is_halted" "Runner.is_halted" (defArgs s_Runner_is_halted) (defBody s_Runner_is_halted) (defScope s_Runner_is_halted) .none kV_Runner_is_halted dc_Runner_is_halted pm_Runner_is_halted an_Runner_is_halted cd_Runner_is_halted ct_Runner_is_halted), sl_Runner_is_halted⟩)
    (c_Runner_is_halted : PySem.W.codeIn K cd_Runner_is_halted "Runner.is_halted" = true)
    (k_Runner_is_halted : PySem.W.keepIn K (.ref f_Runner_is_halted) = true)
    (a_Runner_is_under_way : PySem.W.findIn K (.ref C_Runner) "is_under_way" = some (some (.ref f_Runner_is_under_way)))
    (i_Runner_is_under_way : PySem.W.isFn K (.ref f_Runner_is_under_way) = true)
    (l_Runner_is_under_way : K.lookup f_Runner_is_under_way = some ⟨oc_Runner_is_under_way, od_Runner_is_under_way, .func (PySem.W.fnOf "is_under_way" "Runner.is_under_way" (defArgs s_Runner_is_under_way) (defBody s_Runner_is_under_way) (defScope s_Runner_is_under_way) .none kV_Runner_is_under_way dc_Runner_is_under_way pm_Runner_is_under_way an_Runner_is_under_way cd_Runner_is_under_way ct_Runner_is_under_way), sl_Runner_is_under_way⟩)
    (c_Runner_is_under_way : PySem.W.codeIn K cd_Runner_is_under_way "Runner.is_under_way" = true)
    (k_Runner_is_under_way : PySem.W.keepIn K (.ref f_Runner_is_under_way) = true)
    (a__law_told : PySem.W.nsIn K mainGlobals "_law_told" = some (some (.ref f__law_told)))
    (l__law_told : K.lookup f__law_told = some ⟨oc__law_told, od__law_told, .func (PySem.W.fnOf "_law_told" "_law_told" (defArgs s__law_told) (defBody s__law_told) (defScope s__law_told) .none kV__law_told dc__law_told pm__law_told an__law_told cd__law_told ct__law_told), sl__law_told⟩)
    (c__law_told : PySem.W.codeIn K cd__law_told "_law_told" = true)
    (k__law_told : PySem.W.keepIn K (.ref f__law_told) = true)
    (a_Runner_fork : PySem.W.findIn K (.ref C_Runner) "fork" = some (some (.ref f_Runner_fork)))
    (i_Runner_fork : PySem.W.isFn K (.ref f_Runner_fork) = true)
    (l_Runner_fork : K.lookup f_Runner_fork = some ⟨oc_Runner_fork, od_Runner_fork, .func (PySem.W.fnOf "fork" "Runner.fork" (defArgs s_Runner_fork) (defBody s_Runner_fork) (defScope s_Runner_fork) .none kV_Runner_fork dc_Runner_fork pm_Runner_fork an_Runner_fork cd_Runner_fork ct_Runner_fork), sl_Runner_fork⟩)
    (c_Runner_fork : PySem.W.codeIn K cd_Runner_fork "Runner.fork" = true)
    (k_Runner_fork : PySem.W.keepIn K (.ref f_Runner_fork) = true)
    (a_Plan___init__ : PySem.W.findIn K (.ref C_Plan) "__init__" = some (some (.ref f_Plan___init__)))
    (i_Plan___init__ : PySem.W.isFn K (.ref f_Plan___init__) = true)
    (l_Plan___init__ : K.lookup f_Plan___init__ = some ⟨oc_Plan___init__, od_Plan___init__, .func (PySem.W.fnOf "__init__" "Plan.__init__" (defArgs s_Plan___init__) (defBody s_Plan___init__) (defScope s_Plan___init__) .none (.ref kd_Plan___init__) dc_Plan___init__ pm_Plan___init__ an_Plan___init__ cd_Plan___init__ ct_Plan___init__), sl_Plan___init__⟩)
    (c_Plan___init__ : PySem.W.codeIn K cd_Plan___init__ "Plan.__init__" = true)
    (k_Plan___init__ : PySem.W.keepIn K (.ref f_Plan___init__) = true)
    (w_Plan___init__ : PySem.W.nsIn K kd_Plan___init__ "blocked" = some (some (.ref t_Plan___init__)))
    (t0_Plan___init__ : K.lookup t_Plan___init__ = some ⟨.type "tuple", to_Plan___init__, .seq #[] tn_Plan___init__, ts_Plan___init__⟩)
    (a_Runner_check_told : PySem.W.findIn K (.ref C_Runner) "check_told" = some (some (.ref f_Runner_check_told)))
    (i_Runner_check_told : PySem.W.isFn K (.ref f_Runner_check_told) = true)
    (l_Runner_check_told : K.lookup f_Runner_check_told = some ⟨oc_Runner_check_told, od_Runner_check_told, .func (PySem.W.fnOf "check_told" "Runner.check_told" (defArgs s_Runner_check_told) (defBody s_Runner_check_told) (defScope s_Runner_check_told) .none kV_Runner_check_told dc_Runner_check_told pm_Runner_check_told an_Runner_check_told cd_Runner_check_told ct_Runner_check_told), sl_Runner_check_told⟩)
    (c_Runner_check_told : PySem.W.codeIn K cd_Runner_check_told "Runner.check_told" = true)
    (k_Runner_check_told : PySem.W.keepIn K (.ref f_Runner_check_told) = true)
    (a_Runner_begin : PySem.W.findIn K (.ref C_Runner) "begin" = some (some (.ref f_Runner_begin)))
    (i_Runner_begin : PySem.W.isFn K (.ref f_Runner_begin) = true)
    (l_Runner_begin : K.lookup f_Runner_begin = some ⟨oc_Runner_begin, od_Runner_begin, .func (PySem.W.fnOf "begin" "Runner.begin" (defArgs s_Runner_begin) (defBody s_Runner_begin) (defScope s_Runner_begin) .none kV_Runner_begin dc_Runner_begin pm_Runner_begin an_Runner_begin cd_Runner_begin ct_Runner_begin), sl_Runner_begin⟩)
    (c_Runner_begin : PySem.W.codeIn K cd_Runner_begin "Runner.begin" = true)
    (k_Runner_begin : PySem.W.keepIn K (.ref f_Runner_begin) = true)
    (a_Runner_end : PySem.W.findIn K (.ref C_Runner) "end" = some (some (.ref f_Runner_end)))
    (i_Runner_end : PySem.W.isFn K (.ref f_Runner_end) = true)
    (l_Runner_end : K.lookup f_Runner_end = some ⟨oc_Runner_end, od_Runner_end, .func (PySem.W.fnOf "end" "Runner.end" (defArgs s_Runner_end) (defBody s_Runner_end) (defScope s_Runner_end) .none kV_Runner_end dc_Runner_end pm_Runner_end an_Runner_end cd_Runner_end ct_Runner_end), sl_Runner_end⟩)
    (c_Runner_end : PySem.W.codeIn K cd_Runner_end "Runner.end" = true)
    (k_Runner_end : PySem.W.keepIn K (.ref f_Runner_end) = true)
    (a_Runner_go_on : PySem.W.findIn K (.ref C_Runner) "go_on" = some (some (.ref f_Runner_go_on)))
    (i_Runner_go_on : PySem.W.isFn K (.ref f_Runner_go_on) = true)
    (l_Runner_go_on : K.lookup f_Runner_go_on = some ⟨oc_Runner_go_on, od_Runner_go_on, .func (PySem.W.fnOf "go_on" "Runner.go_on" (defArgs s_Runner_go_on) (defBody s_Runner_go_on) (defScope s_Runner_go_on) .none kV_Runner_go_on dc_Runner_go_on pm_Runner_go_on an_Runner_go_on cd_Runner_go_on ct_Runner_go_on), sl_Runner_go_on⟩)
    (c_Runner_go_on : PySem.W.codeIn K cd_Runner_go_on "Runner.go_on" = true)
    (k_Runner_go_on : PySem.W.keepIn K (.ref f_Runner_go_on) = true)
    (a_Runner_read_input : PySem.W.findIn K (.ref C_Runner) "read_input" = some (some (.ref f_Runner_read_input)))
    (i_Runner_read_input : PySem.W.isFn K (.ref f_Runner_read_input) = true)
    (l_Runner_read_input : K.lookup f_Runner_read_input = some ⟨oc_Runner_read_input, od_Runner_read_input, .func (PySem.W.fnOf "read_input" "Runner.read_input" (defArgs s_Runner_read_input) (defBody s_Runner_read_input) (defScope s_Runner_read_input) .none kV_Runner_read_input dc_Runner_read_input pm_Runner_read_input an_Runner_read_input cd_Runner_read_input ct_Runner_read_input), sl_Runner_read_input⟩)
    (c_Runner_read_input : PySem.W.codeIn K cd_Runner_read_input "Runner.read_input" = true)
    (k_Runner_read_input : PySem.W.keepIn K (.ref f_Runner_read_input) = true)
    (a_Runner_halt : PySem.W.findIn K (.ref C_Runner) "halt" = some (some (.ref f_Runner_halt)))
    (i_Runner_halt : PySem.W.isFn K (.ref f_Runner_halt) = true)
    (l_Runner_halt : K.lookup f_Runner_halt = some ⟨oc_Runner_halt, od_Runner_halt, .func (PySem.W.fnOf "halt" "Runner.halt" (defArgs s_Runner_halt) (defBody s_Runner_halt) (defScope s_Runner_halt) .none kV_Runner_halt dc_Runner_halt pm_Runner_halt an_Runner_halt cd_Runner_halt ct_Runner_halt), sl_Runner_halt⟩)
    (c_Runner_halt : PySem.W.codeIn K cd_Runner_halt "Runner.halt" = true)
    (k_Runner_halt : PySem.W.keepIn K (.ref f_Runner_halt) = true)
    (a_Runner_free : PySem.W.findIn K (.ref C_Runner) "free" = some (some (.ref f_Runner_free)))
    (i_Runner_free : PySem.W.isFn K (.ref f_Runner_free) = true)
    (l_Runner_free : K.lookup f_Runner_free = some ⟨oc_Runner_free, od_Runner_free, .func (PySem.W.fnOf "free" "Runner.free" (defArgs s_Runner_free) (defBody s_Runner_free) (defScope s_Runner_free) .none kV_Runner_free dc_Runner_free pm_Runner_free an_Runner_free cd_Runner_free ct_Runner_free), sl_Runner_free⟩)
    (c_Runner_free : PySem.W.codeIn K cd_Runner_free "Runner.free" = true)
    (k_Runner_free : PySem.W.keepIn K (.ref f_Runner_free) = true)
    (a__law_event : PySem.W.nsIn K mainGlobals "_law_event" = some (some (.ref f__law_event)))
    (l__law_event : K.lookup f__law_event = some ⟨oc__law_event, od__law_event, .func (PySem.W.fnOf "_law_event" "_law_event" (defArgs s__law_event) (defBody s__law_event) (defScope s__law_event) .none kV__law_event dc__law_event pm__law_event an__law_event cd__law_event ct__law_event), sl__law_event⟩)
    (c__law_event : PySem.W.codeIn K cd__law_event "_law_event" = true)
    (k__law_event : PySem.W.keepIn K (.ref f__law_event) = true)
    (a__law_ask : PySem.W.nsIn K mainGlobals "_law_ask" = some (some (.ref f__law_ask)))
    (l__law_ask : K.lookup f__law_ask = some ⟨oc__law_ask, od__law_ask, .func (PySem.W.fnOf "_law_ask" "_law_ask" (defArgs s__law_ask) (defBody s__law_ask) (defScope s__law_ask) .none kV__law_ask dc__law_ask pm__law_ask an__law_ask cd__law_ask ct__law_ask), sl__law_ask⟩)
    (c__law_ask : PySem.W.codeIn K cd__law_ask "_law_ask" = true)
    (k__law_ask : PySem.W.keepIn K (.ref f__law_ask) = true)
    (a_law : PySem.W.nsIn K mainGlobals "law" = some (some (.ref f_law)))
    (l_law : K.lookup f_law = some ⟨oc_law, od_law, .func (PySem.W.fnOf "law" "law" (defArgs s_law) (defBody s_law) (defScope s_law) .none kV_law dc_law pm_law an_law cd_law ct_law), sl_law⟩)
    (c_law : PySem.W.codeIn K cd_law "law" = true)
    (k_law : PySem.W.keepIn K (.ref f_law) = true)
    (pg_Plan : PySem.W.plainGet K C_Plan Str.empty = true)
    (hd_Plan : PySem.W.hasDictIn K C_Plan = true)
    (po_Plan : PySem.W.plainOver K C_Plan = true)
    (sa_Plan : PySem.W.findIn K (.ref C_Plan) "__setattr__" = some (some (.builtin "object.__setattr__")))
    (pg_Runner : PySem.W.plainGet K C_Runner Str.empty = true)
    (hd_Runner : PySem.W.hasDictIn K C_Runner = true)
    (po_Runner : PySem.W.plainOver K C_Runner = true)
    (sa_Runner : PySem.W.findIn K (.ref C_Runner) "__setattr__" = some (some (.builtin "object.__setattr__")))
    (pg_Search : PySem.W.plainGet K C_Search Str.empty = true)
    (hd_Search : PySem.W.hasDictIn K C_Search = true)
    (po_Search : PySem.W.plainOver K C_Search = true)
    (sa_Search : PySem.W.findIn K (.ref C_Search) "__setattr__" = some (some (.builtin "object.__setattr__")))
    (mk_Plan : PySem.W.makesIn K C_Plan = true)
    (kc_Plan : PySem.W.keepIn K (.ref C_Plan) = true)
    (mk_Runner : PySem.W.makesIn K C_Runner = true)
    (kc_Runner : PySem.W.keepIn K (.ref C_Runner) = true)
    (mk_Search : PySem.W.makesIn K C_Search = true)
    (kc_Search : PySem.W.keepIn K (.ref C_Search) = true)
    (no_Plan_blocks : PySem.W.findIn K (.ref C_Plan) "blocks" = some none)
    (no_Plan_flows : PySem.W.findIn K (.ref C_Plan) "flows" = some none)
    (no_Plan_starts : PySem.W.findIn K (.ref C_Plan) "starts" = some none)
    (no_Runner_events : PySem.W.findIn K (.ref C_Runner) "events" = some none)
    (no_Runner_halted : PySem.W.findIn K (.ref C_Runner) "halted" = some none)
    (no_Runner_moving : PySem.W.findIn K (.ref C_Runner) "moving" = some none)
    (no_Runner_plan : PySem.W.findIn K (.ref C_Runner) "plan" = some none)
    (no_Runner_state : PySem.W.findIn K (.ref C_Runner) "state" = some none)
    (no_Search_known : PySem.W.findIn K (.ref C_Search) "known" = some none)
    (no_Search_plan : PySem.W.findIn K (.ref C_Search) "plan" = some none)
    (ax_ArmwarrantError : PySem.W.nsIn K mainGlobals "ArmwarrantError" = some (some (.ref C_ArmwarrantError)))
    (xc_ArmwarrantError : PySem.W.excIn K C_ArmwarrantError [.type "ValueError", .type "Exception", .type "BaseException", .type "object"] "ValueError.__new__" = true)
    (xk_ArmwarrantError : PySem.W.keepIn K (.ref C_ArmwarrantError) = true)
    (xs_ArmwarrantError : PySem.W.subIn K (.ref C_ArmwarrantError) (.type "BaseException") = some true)
    (xt_ArmwarrantError : PySem.W.typeIn K (.ref C_ArmwarrantError) = some (.type "type"))
    (ax_NotNow : PySem.W.nsIn K mainGlobals "NotNow" = some (some (.ref C_NotNow)))
    (xc_NotNow : PySem.W.excIn K C_NotNow [.type "ValueError", .type "Exception", .type "BaseException", .type "object"] "ValueError.__new__" = true)
    (xk_NotNow : PySem.W.keepIn K (.ref C_NotNow) = true)
    (xs_NotNow : PySem.W.subIn K (.ref C_NotNow) (.type "BaseException") = some true)
    (xt_NotNow : PySem.W.typeIn K (.ref C_NotNow) = some (.type "type"))
    (ax_NotSafe : PySem.W.nsIn K mainGlobals "NotSafe" = some (some (.ref C_NotSafe)))
    (xc_NotSafe : PySem.W.excIn K C_NotSafe [.type "ValueError", .type "Exception", .type "BaseException", .type "object"] "ValueError.__new__" = true)
    (xk_NotSafe : PySem.W.keepIn K (.ref C_NotSafe) = true)
    (xs_NotSafe : PySem.W.subIn K (.ref C_NotSafe) (.type "BaseException") = some true)
    (xt_NotSafe : PySem.W.typeIn K (.ref C_NotSafe) = some (.type "type"))
    (ax_UnknownArm : PySem.W.nsIn K mainGlobals "UnknownArm" = some (some (.ref C_UnknownArm)))
    (xc_UnknownArm : PySem.W.excIn K C_UnknownArm [.type "ValueError", .type "Exception", .type "BaseException", .type "object"] "ValueError.__new__" = true)
    (xk_UnknownArm : PySem.W.keepIn K (.ref C_UnknownArm) = true)
    (xs_UnknownArm : PySem.W.subIn K (.ref C_UnknownArm) (.type "BaseException") = some true)
    (xt_UnknownArm : PySem.W.typeIn K (.ref C_UnknownArm) = some (.type "type"))
    (xd_ArmwarrantError : PySem.W.hasDictIn K C_ArmwarrantError = true)
    (xd_NotNow : PySem.W.hasDictIn K C_NotNow = true)
    (xd_NotSafe : PySem.W.hasDictIn K C_NotSafe = true)
    (xd_UnknownArm : PySem.W.hasDictIn K C_UnknownArm = true)
    (su_NotNow_NotNow : PySem.W.subIn K (.ref C_NotNow) (.ref C_NotNow) = some true)
    (su_NotNow_NotSafe : PySem.W.subIn K (.ref C_NotNow) (.ref C_NotSafe) = some false)
    (su_NotNow_UnknownArm : PySem.W.subIn K (.ref C_NotNow) (.ref C_UnknownArm) = some false)
    (su_NotSafe_NotNow : PySem.W.subIn K (.ref C_NotSafe) (.ref C_NotNow) = some false)
    (su_NotSafe_NotSafe : PySem.W.subIn K (.ref C_NotSafe) (.ref C_NotSafe) = some true)
    (su_NotSafe_UnknownArm : PySem.W.subIn K (.ref C_NotSafe) (.ref C_UnknownArm) = some false)
    (su_UnknownArm_NotNow : PySem.W.subIn K (.ref C_UnknownArm) (.ref C_NotNow) = some false)
    (su_UnknownArm_NotSafe : PySem.W.subIn K (.ref C_UnknownArm) (.ref C_NotSafe) = some false)
    (su_UnknownArm_UnknownArm : PySem.W.subIn K (.ref C_UnknownArm) (.ref C_UnknownArm) = some true)
    (eg_NotNow : PySem.W.findIn K (.ref C_NotNow) "__getattribute__" = some (some (.builtin "BaseException.__getattribute__")))
    (ek_NotNow : PySem.W.findIn K (.ref C_NotNow) "__getattr__" = some none)
    (ea_NotNow : PySem.W.findIn K (.ref C_NotNow) "__class__" = some (some (.builtin "object.__class__")))
    (en_NotNow : PySem.W.specialIn K (.builtin "object.__class__") "__get__" = some (some (.builtin "getset_descriptor.__get__")))
    (et_NotNow : PySem.W.takesIn K (.builtin "object.__class__") = some true)
    (em_NotNow : PySem.W.mroIn K C_NotNow (.type "object") = some true)
    (eg_UnknownArm : PySem.W.findIn K (.ref C_UnknownArm) "__getattribute__" = some (some (.builtin "BaseException.__getattribute__")))
    (ek_UnknownArm : PySem.W.findIn K (.ref C_UnknownArm) "__getattr__" = some none)
    (ea_UnknownArm : PySem.W.findIn K (.ref C_UnknownArm) "__class__" = some (some (.builtin "object.__class__")))
    (en_UnknownArm : PySem.W.specialIn K (.builtin "object.__class__") "__get__" = some (some (.builtin "getset_descriptor.__get__")))
    (et_UnknownArm : PySem.W.takesIn K (.builtin "object.__class__") = some true)
    (em_UnknownArm : PySem.W.mroIn K C_UnknownArm (.type "object") = some true)
    (ki_NotNow_ArmwarrantError : PySem.W.subIn K (.ref C_NotNow) (.ref C_ArmwarrantError) = some true)
    (ki_NotNow_UnknownArm : PySem.W.subIn K (.ref C_NotNow) (.ref C_UnknownArm) = some false)
    (ki_UnknownArm_ArmwarrantError : PySem.W.subIn K (.ref C_UnknownArm) (.ref C_ArmwarrantError) = some true)
    (ki_UnknownArm_NotNow : PySem.W.subIn K (.ref C_UnknownArm) (.ref C_NotNow) = some false)
    (ks_ArmwarrantError : PySem.W.subIn K (.ref C_ArmwarrantError) (.ref C_ArmwarrantError) = some true)
    (ks_NotNow : PySem.W.subIn K (.ref C_NotNow) (.ref C_NotNow) = some true)
    (ks_UnknownArm : PySem.W.subIn K (.ref C_UnknownArm) (.ref C_UnknownArm) = some true)
    (qa_Runner_is_over : PySem.W.findIn K (.ref C_Runner) "is_over" = some (some (.ref p_Runner_is_over)))
    (qg_Runner_is_over : PySem.W.specialIn K (.ref p_Runner_is_over) "__get__" = some (some (.builtin "property.__get__")))
    (qt_Runner_is_over : PySem.W.takesIn K (.ref p_Runner_is_over) = some true)
    (qr_Runner_is_over : PySem.W.recIn K p_Runner_is_over "property" = some (.ref f_Runner_is_over :: rs_Runner_is_over))
    (z_all : PySem.W.nsIn K mainGlobals "all" = some none)
    (z_enumerate : PySem.W.nsIn K mainGlobals "enumerate" = some none)
    (z_int : PySem.W.nsIn K mainGlobals "int" = some none)
    (z_isinstance : PySem.W.nsIn K mainGlobals "isinstance" = some none)
    (z_len : PySem.W.nsIn K mainGlobals "len" = some none)
    (z_list : PySem.W.nsIn K mainGlobals "list" = some none)
    (z_range : PySem.W.nsIn K mainGlobals "range" = some none)
    (z_repr : PySem.W.nsIn K mainGlobals "repr" = some none)
    (z_sorted : PySem.W.nsIn K mainGlobals "sorted" = some none)
    (z_tuple : PySem.W.nsIn K mainGlobals "tuple" = some none) :
    ∃ (fd : FuncData) (m : M), (∀ (s : Shared) (v : Value), BindsTo s fd ⟨[v], []⟩ [("_law_script", v)]) ∧ (∀ base : Heap, K.In base → base.Ns mainGlobals mg → FnG l.prog w K mg base 13 fa fd ["_law_script"] m) ∧ ∀ ns : List Int, ns.length ≤ 63 → ∃ θ', m [.lst (ns.map D.int)] [] = some (.bl true, θ') := by
  have e := hfa.symm.trans (PySem.W.mg_of X G a_law)
  cases e
  have F__law_number := fun_mk (st := s__law_number) l__law_number c__law_number k__law_number
  have b__law_number := F__law_number.binds (ps := P__law_number) fun _ _ _ _ _ _ us hl => match us, hl with | [_, _], _ => rfl
  have F__law_digits := fun_mk (st := s__law_digits) l__law_digits c__law_digits k__law_digits
  have b__law_digits := F__law_digits.binds (ps := P__law_digits) fun _ _ _ _ _ _ us hl => match us, hl with | [_, _, _], _ => rfl
  have F__law_digit := fun_mk (st := s__law_digit) l__law_digit c__law_digit k__law_digit
  have b__law_digit := F__law_digit.binds (ps := P__law_digit) fun _ _ _ _ _ _ us hl => match us, hl with | [_, _], _ => rfl
  have F__law_place := fun_mk (st := s__law_place) l__law_place c__law_place k__law_place
  have b__law_place := F__law_place.binds (ps := P__law_place) fun _ _ _ _ _ _ us hl => match us, hl with | [_], _ => rfl
  have F__law_step := fun_mk (st := s__law_step) l__law_step c__law_step k__law_step
  have b__law_step := F__law_step.binds (ps := P__law_step) fun _ _ _ _ _ _ us hl => match us, hl with | [_, _, _, _], _ => rfl
  have F__law_plan := fun_mk (st := s__law_plan) l__law_plan c__law_plan k__law_plan
  have b__law_plan := F__law_plan.binds (ps := P__law_plan) fun _ _ _ _ _ _ us hl => match us, hl with | [_], _ => rfl
  have F_landing := fun_mk (st := s_landing) l_landing c_landing k_landing
  have b_landing := F_landing.binds (ps := P_landing) fun _ _ _ _ _ _ us hl => match us, hl with | [_, _], _ => rfl
  have F_Plan_first_state := fun_mk (st := s_Plan_first_state) l_Plan_first_state c_Plan_first_state k_Plan_first_state
  have b_Plan_first_state := F_Plan_first_state.binds (ps := P_Plan_first_state) fun _ _ _ _ _ _ us hl => match us, hl with | [_], _ => rfl
  have F_Search_key_of := fun_mk (st := s_Search_key_of) l_Search_key_of c_Search_key_of k_Search_key_of
  have b_Search_key_of := F_Search_key_of.binds (ps := P_Search_key_of) fun _ _ _ _ _ _ us hl => match us, hl with | [_, _], _ => rfl
  have F_Plan_step_of := fun_mk (st := s_Plan_step_of) l_Plan_step_of c_Plan_step_of k_Plan_step_of
  have b_Plan_step_of := F_Plan_step_of.binds (ps := P_Plan_step_of) fun _ _ _ _ _ _ us hl => match us, hl with | [_, _, _], _ => rfl
  have F_Plan_wanted := fun_mk (st := s_Plan_wanted) l_Plan_wanted c_Plan_wanted k_Plan_wanted
  have b_Plan_wanted := F_Plan_wanted.binds (ps := P_Plan_wanted) fun _ _ _ _ _ _ us hl => match us, hl with | [_, _, _], _ => rfl
  have F_Plan_is_clear := fun_mk (st := s_Plan_is_clear) l_Plan_is_clear c_Plan_is_clear k_Plan_is_clear
  have b_Plan_is_clear := F_Plan_is_clear.binds (ps := P_Plan_is_clear) fun _ _ _ _ _ _ us hl => match us, hl with | [_, _, _, _, _], _ => rfl
  have F_Plan_rest_of := fun_mk (st := s_Plan_rest_of) l_Plan_rest_of c_Plan_rest_of k_Plan_rest_of
  have b_Plan_rest_of := F_Plan_rest_of.binds (ps := P_Plan_rest_of) fun _ _ _ _ _ _ us hl => match us, hl with | [_, _, _], _ => rfl
  have F_Plan_hindered_by := fun_mk (st := s_Plan_hindered_by) l_Plan_hindered_by c_Plan_hindered_by k_Plan_hindered_by
  have b_Plan_hindered_by := F_Plan_hindered_by.binds (ps := P_Plan_hindered_by) fun _ _ _ _ _ _ us hl => match us, hl with | [_, _, _], _ => rfl
  have F_Plan_can_step := fun_mk (st := s_Plan_can_step) l_Plan_can_step c_Plan_can_step k_Plan_can_step
  have b_Plan_can_step := F_Plan_can_step.binds (ps := P_Plan_can_step) fun _ _ _ _ _ _ us hl => match us, hl with | [_, _, _], _ => rfl
  have F_Plan_stepped := fun_mk (st := s_Plan_stepped) l_Plan_stepped c_Plan_stepped k_Plan_stepped
  have b_Plan_stepped := F_Plan_stepped.binds (ps := P_Plan_stepped) fun _ _ _ _ _ _ us hl => match us, hl with | [_, _, _, _, _], _ => rfl
  have F_switched := fun_mk (st := s_switched) l_switched c_switched k_switched
  have b_switched := F_switched.binds (ps := P_switched) fun _ _ _ _ _ _ us hl => match us, hl with | [_, _, _], _ => rfl
  have F_Plan_outcomes := fun_mk (st := s_Plan_outcomes) l_Plan_outcomes c_Plan_outcomes k_Plan_outcomes
  have b_Plan_outcomes := F_Plan_outcomes.binds (ps := P_Plan_outcomes) fun _ _ _ _ _ _ us hl => match us, hl with | [_, _, _], _ => rfl
  have F_Search_open_outcome := fun_mk (st := s_Search_open_outcome) l_Search_open_outcome c_Search_open_outcome k_Search_open_outcome
  have b_Search_open_outcome := F_Search_open_outcome.binds (ps := P_Search_open_outcome) fun _ _ _ _ _ _ us hl => match us, hl with | [_, _], _ => rfl
  have F_Plan_has_ended := fun_mk (st := s_Plan_has_ended) l_Plan_has_ended c_Plan_has_ended k_Plan_has_ended
  have b_Plan_has_ended := F_Plan_has_ended.binds (ps := P_Plan_has_ended) fun _ _ _ _ _ _ us hl => match us, hl with | [_, _, _], _ => rfl
  have F_Plan_all_ended := fun_mk (st := s_Plan_all_ended) l_Plan_all_ended c_Plan_all_ended k_Plan_all_ended
  have b_Plan_all_ended := F_Plan_all_ended.binds (ps := P_Plan_all_ended) fun _ _ _ _ _ _ us hl => match us, hl with | [_, _], _ => rfl
  have F_Search_good_arm := fun_mk (st := s_Search_good_arm) l_Search_good_arm c_Search_good_arm k_Search_good_arm
  have b_Search_good_arm := F_Search_good_arm.binds (ps := P_Search_good_arm) fun _ _ _ _ _ _ us hl => match us, hl with | [_, _], _ => rfl
  have F_Search_is_safe := fun_mk (st := s_Search_is_safe) l_Search_is_safe c_Search_is_safe k_Search_is_safe
  have b_Search_is_safe := F_Search_is_safe.binds (ps := P_Search_is_safe) fun _ _ _ _ _ _ us hl => match us, hl with | [_, _], _ => rfl
  have F_Search___init__ := fun_mk (st := s_Search___init__) l_Search___init__ c_Search___init__ k_Search___init__
  have b_Search___init__ := F_Search___init__.binds (ps := P_Search___init__) fun _ _ _ _ _ _ us hl => match us, hl with | [_, _], _ => rfl
  have F_Runner___init__ := fun_mk (st := s_Runner___init__) l_Runner___init__ c_Runner___init__ k_Runner___init__
  have b_Runner___init__ := F_Runner___init__.binds (ps := P_Runner___init__) fun _ _ _ _ _ _ us hl => match us, hl with | [_, _], _ => rfl
  have F__law_new := fun_mk (st := s__law_new) l__law_new c__law_new k__law_new
  have b__law_new := F__law_new.binds (ps := P__law_new) fun _ _ _ _ _ _ us hl => match us, hl with | [_], _ => rfl
  have F_Runner_is_over := fun_mk (st := s_Runner_is_over) l_Runner_is_over c_Runner_is_over k_Runner_is_over
  have b_Runner_is_over := F_Runner_is_over.binds (ps := P_Runner_is_over) fun _ _ _ _ _ _ us hl => match us, hl with | [_], _ => rfl
  have F_Runner_state_ahead := fun_mk (st := s_Runner_state_ahead) l_Runner_state_ahead c_Runner_state_ahead k_Runner_state_ahead
  have b_Runner_state_ahead := F_Runner_state_ahead.binds (ps := P_Runner_state_ahead) fun _ _ _ _ _ _ us hl => match us, hl with | [_], _ => rfl
  have F_Runner_check_arm := fun_mk (st := s_Runner_check_arm) l_Runner_check_arm c_Runner_check_arm k_Runner_check_arm
  have b_Runner_check_arm := F_Runner_check_arm.binds (ps := P_Runner_check_arm) fun _ _ _ _ _ _ us hl => match us, hl with | [_, _], _ => rfl
  have F_Runner_place_of := fun_mk (st := s_Runner_place_of) l_Runner_place_of c_Runner_place_of k_Runner_place_of
  have b_Runner_place_of := F_Runner_place_of.binds (ps := P_Runner_place_of) fun _ _ _ _ _ _ us hl => match us, hl with | [_, _], _ => rfl
  have F_Runner_in_the_way := fun_mk (st := s_Runner_in_the_way) l_Runner_in_the_way c_Runner_in_the_way k_Runner_in_the_way
  have b_Runner_in_the_way := F_Runner_in_the_way.binds (ps := P_Runner_in_the_way) fun _ _ _ _ _ _ us hl => match us, hl with | [_, _], _ => rfl
  have F_Runner_is_held_back := fun_mk (st := s_Runner_is_held_back) l_Runner_is_held_back c_Runner_is_held_back k_Runner_is_held_back
  have b_Runner_is_held_back := F_Runner_is_held_back.binds (ps := P_Runner_is_held_back) fun _ _ _ _ _ _ us hl => match us, hl with | [_, _], _ => rfl
  have F_Runner_may := fun_mk (st := s_Runner_may) l_Runner_may c_Runner_may k_Runner_may
  have b_Runner_may := F_Runner_may.binds (ps := P_Runner_may) fun _ _ _ _ _ _ us hl => match us, hl with | [_, _], _ => rfl
  have F_Runner_is_halted := fun_mk (st := s_Runner_is_halted) l_Runner_is_halted c_Runner_is_halted k_Runner_is_halted
  have b_Runner_is_halted := F_Runner_is_halted.binds (ps := P_Runner_is_halted) fun _ _ _ _ _ _ us hl => match us, hl with | [_, _], _ => rfl
  have F_Runner_is_under_way := fun_mk (st := s_Runner_is_under_way) l_Runner_is_under_way c_Runner_is_under_way k_Runner_is_under_way
  have b_Runner_is_under_way := F_Runner_is_under_way.binds (ps := P_Runner_is_under_way) fun _ _ _ _ _ _ us hl => match us, hl with | [_, _], _ => rfl
  have F__law_told := fun_mk (st := s__law_told) l__law_told c__law_told k__law_told
  have b__law_told := F__law_told.binds (ps := P__law_told) fun _ _ _ _ _ _ us hl => match us, hl with | [_, _], _ => rfl
  have F_Runner_fork := fun_mk (st := s_Runner_fork) l_Runner_fork c_Runner_fork k_Runner_fork
  have b_Runner_fork := F_Runner_fork.binds (ps := P_Runner_fork) fun _ _ _ _ _ _ us hl => match us, hl with | [_], _ => rfl
  have F_Plan___init__ : FunD K "__init__" "Plan.__init__" (defArgs s_Plan___init__) (defBody s_Plan___init__) (defScope s_Plan___init__) [] [("blocked", .ref t_Plan___init__)] f_Plan___init__ (PySem.W.fnOf "__init__" "Plan.__init__" (defArgs s_Plan___init__) (defBody s_Plan___init__) (defScope s_Plan___init__) .none (.ref kd_Plan___init__) dc_Plan___init__ pm_Plan___init__ an_Plan___init__ cd_Plan___init__ ct_Plan___init__) := ⟨⟨_, _, _, _, _, _, _, _, _, _, rfl, l_Plan___init__, c_Plan___init__, .inl ⟨rfl, rfl⟩, .inr ⟨kd_Plan___init__, rfl, fun q hq => by rw [List.mem_singleton] at hq; subst hq; exact ⟨_, w_Plan___init__, rfl⟩⟩⟩, k_Plan___init__⟩
  have tt_Plan___init__ : ∀ H : Hp, SqT K H t_Plan___init__ [] := fun H => .inr ⟨_, #[], _, t0_Plan___init__, rfl, rfl, Nat.zero_le _, .nil⟩
  have bx_Plan___init__ : ∃ ds, Vals [V.ref t_Plan___init__] ds ∧ Binds K (PySem.W.fnOf "__init__" "Plan.__init__" (defArgs s_Plan___init__) (defBody s_Plan___init__) (defScope s_Plan___init__) .none (.ref kd_Plan___init__) dc_Plan___init__ pm_Plan___init__ an_Plan___init__ cd_Plan___init__ ct_Plan___init__) P_Plan___init__ ds := F_Plan___init__.binds0 3 (by simp) rfl fun D doc pm an cdv ct us ks h1 h2 => match us, h1, ks, h2 with | [_, _, _], _, [_], _ => ⟨_, _, _, _, _, _, rfl, rfl, rfl⟩
  obtain ⟨_, kb_Plan___init__⟩ := F_Plan___init__.kbinds0 (ps := P_Plan___init__) 3 ["blocked"] [] (fun us _ ws => us ++ ws) (by simp) (fun q hq => nomatch hq) (fun a _ c => a.append c) fun D doc pm an cdv ct us mv ws h1 h2 h3 => match us, h1, mv, h2, ws, h3 with | [_, _, _], _, [], _, [_], _ => rfl
  have F_Runner_check_told := fun_mk (st := s_Runner_check_told) l_Runner_check_told c_Runner_check_told k_Runner_check_told
  have b_Runner_check_told := F_Runner_check_told.binds (ps := P_Runner_check_told) fun _ _ _ _ _ _ us hl => match us, hl with | [_, _, _], _ => rfl
  have F_Runner_begin := fun_mk (st := s_Runner_begin) l_Runner_begin c_Runner_begin k_Runner_begin
  have b_Runner_begin := F_Runner_begin.binds (ps := P_Runner_begin) fun _ _ _ _ _ _ us hl => match us, hl with | [_, _], _ => rfl
  have F_Runner_end := fun_mk (st := s_Runner_end) l_Runner_end c_Runner_end k_Runner_end
  have b_Runner_end := F_Runner_end.binds (ps := P_Runner_end) fun _ _ _ _ _ _ us hl => match us, hl with | [_, _], _ => rfl
  have F_Runner_go_on := fun_mk (st := s_Runner_go_on) l_Runner_go_on c_Runner_go_on k_Runner_go_on
  have b_Runner_go_on := F_Runner_go_on.binds (ps := P_Runner_go_on) fun _ _ _ _ _ _ us hl => match us, hl with | [_, _], _ => rfl
  have F_Runner_read_input := fun_mk (st := s_Runner_read_input) l_Runner_read_input c_Runner_read_input k_Runner_read_input
  have kb_Runner_read_input : KBn K (PySem.W.fnOf "read_input" "Runner.read_input" (defArgs s_Runner_read_input) (defBody s_Runner_read_input) (defScope s_Runner_read_input) .none kV_Runner_read_input dc_Runner_read_input pm_Runner_read_input an_Runner_read_input cd_Runner_read_input ct_Runner_read_input) P_Runner_read_input 2 ["on"] (fun us ws => us ++ ws) (fun vs zs => vs ++ zs) := ⟨fun s us ws _ h1 h2 => match us, h1, ws, h2 with | [_, _], _, [_], _ => .of_eq rfl, fun a c => a.append c⟩
  have F_Runner_halt := fun_mk (st := s_Runner_halt) l_Runner_halt c_Runner_halt k_Runner_halt
  have b_Runner_halt := F_Runner_halt.binds (ps := P_Runner_halt) fun _ _ _ _ _ _ us hl => match us, hl with | [_, _], _ => rfl
  have F_Runner_free := fun_mk (st := s_Runner_free) l_Runner_free c_Runner_free k_Runner_free
  have b_Runner_free := F_Runner_free.binds (ps := P_Runner_free) fun _ _ _ _ _ _ us hl => match us, hl with | [_, _], _ => rfl
  have F__law_event := fun_mk (st := s__law_event) l__law_event c__law_event k__law_event
  have b__law_event := F__law_event.binds (ps := P__law_event) fun _ _ _ _ _ _ us hl => match us, hl with | [_, _, _], _ => rfl
  have F__law_ask := fun_mk (st := s__law_ask) l__law_ask c__law_ask k__law_ask
  have b__law_ask := F__law_ask.binds (ps := P__law_ask) fun _ _ _ _ _ _ us hl => match us, hl with | [_, _, _], _ => rfl
  have F_law := fun_mk (st := s_law) l_law c_law k_law
  have b_law := F_law.binds (ps := P_law) fun _ _ _ _ _ _ us hl => match us, hl with | [_], _ => rfl
  have T : Facts K mg ⟨C_Plan, C_Runner, C_Search, C_ArmwarrantError, C_NotNow, C_NotSafe, C_UnknownArm, p_Runner_is_over, f__law_number, _, f__law_digits, _, f__law_digit, _, f__law_place, _, f__law_step, _, f__law_plan, _, f_landing, _, f_Plan_first_state, _, f_Search_key_of, _, f_Plan_step_of, _, f_Plan_wanted, _, f_Plan_is_clear, _, f_Plan_rest_of, _, f_Plan_hindered_by, _, f_Plan_can_step, _, f_Plan_stepped, _, f_switched, _, f_Plan_outcomes, _, f_Search_open_outcome, _, f_Plan_has_ended, _, f_Plan_all_ended, _, f_Search_good_arm, _, f_Search_is_safe, _, f_Search___init__, _, f_Runner___init__, _, f__law_new, _, f_Runner_is_over, _, f_Runner_state_ahead, _, f_Runner_check_arm, _, f_Runner_place_of, _, f_Runner_in_the_way, _, f_Runner_is_held_back, _, f_Runner_may, _, f_Runner_is_halted, _, f_Runner_is_under_way, _, f__law_told, _, f_Runner_fork, _, f_Plan___init__, _, f_Runner_check_told, _, f_Runner_begin, _, f_Runner_end, _, f_Runner_go_on, _, f_Runner_read_input, _, f_Runner_halt, _, f_Runner_free, _, f__law_event, _, f__law_ask, _, fa, _, t_Plan___init__⟩ := ⟨⟨pg_Plan, hd_Plan, po_Plan, sa_Plan⟩, ⟨pg_Runner, hd_Runner, po_Runner, sa_Runner⟩, ⟨pg_Search, hd_Search, po_Search, sa_Search⟩, no_Plan_blocks, no_Plan_flows, no_Plan_starts, no_Runner_events, no_Runner_halted, no_Runner_moving, no_Runner_plan, no_Runner_state, no_Search_known, no_Search_plan, F__law_number, b__law_number, F__law_digits, b__law_digits, F__law_digit, b__law_digit, F__law_place, b__law_place, F__law_step, b__law_step, F__law_plan, b__law_plan, F_landing, b_landing, F_Plan_first_state, b_Plan_first_state, F_Search_key_of, b_Search_key_of, F_Plan_step_of, b_Plan_step_of, F_Plan_wanted, b_Plan_wanted, F_Plan_is_clear, b_Plan_is_clear, F_Plan_rest_of, b_Plan_rest_of, F_Plan_hindered_by, b_Plan_hindered_by, F_Plan_can_step, b_Plan_can_step, F_Plan_stepped, b_Plan_stepped, F_switched, b_switched, F_Plan_outcomes, b_Plan_outcomes, F_Search_open_outcome, b_Search_open_outcome, F_Plan_has_ended, b_Plan_has_ended, F_Plan_all_ended, b_Plan_all_ended, F_Search_good_arm, b_Search_good_arm, F_Search_is_safe, b_Search_is_safe, F_Search___init__, b_Search___init__, F_Runner___init__, b_Runner___init__, F__law_new, b__law_new, F_Runner_is_over, b_Runner_is_over, F_Runner_state_ahead, b_Runner_state_ahead, F_Runner_check_arm, b_Runner_check_arm, F_Runner_place_of, b_Runner_place_of, F_Runner_in_the_way, b_Runner_in_the_way, F_Runner_is_held_back, b_Runner_is_held_back, F_Runner_may, b_Runner_may, F_Runner_is_halted, b_Runner_is_halted, F_Runner_is_under_way, b_Runner_is_under_way, F__law_told, b__law_told, F_Runner_fork, b_Runner_fork, F_Plan___init__, tt_Plan___init__, kb_Plan___init__, bx_Plan___init__, F_Runner_check_told, b_Runner_check_told, F_Runner_begin, b_Runner_begin, F_Runner_end, b_Runner_end, F_Runner_go_on, b_Runner_go_on, F_Runner_read_input, kb_Runner_read_input, F_Runner_halt, b_Runner_halt, F_Runner_free, b_Runner_free, F__law_event, b__law_event, F__law_ask, b__law_ask, F_law, b_law, PySem.W.mg_of X G a__law_ask, PySem.W.mg_of X G a__law_digit, PySem.W.mg_of X G a__law_digits, PySem.W.mg_of X G a__law_event, PySem.W.mg_of X G a__law_new, PySem.W.mg_of X G a__law_number, PySem.W.mg_of X G a__law_place, PySem.W.mg_of X G a__law_plan, PySem.W.mg_of X G a__law_step, PySem.W.mg_of X G a__law_told, PySem.W.mg_of X G a_landing, PySem.W.mg_of X G a_switched, ⟨a_Plan_all_ended, i_Plan_all_ended, k_Plan_all_ended⟩, ⟨a_Plan_can_step, i_Plan_can_step, k_Plan_can_step⟩, ⟨a_Plan_first_state, i_Plan_first_state, k_Plan_first_state⟩, ⟨a_Plan_has_ended, i_Plan_has_ended, k_Plan_has_ended⟩, ⟨a_Plan_hindered_by, i_Plan_hindered_by, k_Plan_hindered_by⟩, ⟨a_Plan_is_clear, i_Plan_is_clear, k_Plan_is_clear⟩, ⟨a_Plan_outcomes, i_Plan_outcomes, k_Plan_outcomes⟩, ⟨a_Plan_rest_of, i_Plan_rest_of, k_Plan_rest_of⟩, ⟨a_Plan_step_of, i_Plan_step_of, k_Plan_step_of⟩, ⟨a_Plan_stepped, i_Plan_stepped, k_Plan_stepped⟩, ⟨a_Plan_wanted, i_Plan_wanted, k_Plan_wanted⟩, ⟨a_Runner_begin, i_Runner_begin, k_Runner_begin⟩, ⟨a_Runner_check_arm, i_Runner_check_arm, k_Runner_check_arm⟩, ⟨a_Runner_check_told, i_Runner_check_told, k_Runner_check_told⟩, ⟨a_Runner_end, i_Runner_end, k_Runner_end⟩, ⟨a_Runner_fork, i_Runner_fork, k_Runner_fork⟩, ⟨a_Runner_free, i_Runner_free, k_Runner_free⟩, ⟨a_Runner_go_on, i_Runner_go_on, k_Runner_go_on⟩, ⟨a_Runner_halt, i_Runner_halt, k_Runner_halt⟩, ⟨a_Runner_in_the_way, i_Runner_in_the_way, k_Runner_in_the_way⟩, ⟨a_Runner_is_halted, i_Runner_is_halted, k_Runner_is_halted⟩, ⟨a_Runner_is_held_back, i_Runner_is_held_back, k_Runner_is_held_back⟩, ⟨a_Runner_is_under_way, i_Runner_is_under_way, k_Runner_is_under_way⟩, ⟨a_Runner_may, i_Runner_may, k_Runner_may⟩, ⟨a_Runner_place_of, i_Runner_place_of, k_Runner_place_of⟩, ⟨a_Runner_read_input, i_Runner_read_input, k_Runner_read_input⟩, ⟨a_Runner_state_ahead, i_Runner_state_ahead, k_Runner_state_ahead⟩, ⟨a_Search_good_arm, i_Search_good_arm, k_Search_good_arm⟩, ⟨a_Search_is_safe, i_Search_is_safe, k_Search_is_safe⟩, ⟨a_Search_key_of, i_Search_key_of, k_Search_key_of⟩, ⟨a_Search_open_outcome, i_Search_open_outcome, k_Search_open_outcome⟩, ⟨mk_Plan, a_Plan___init__, i_Plan___init__, kc_Plan⟩, PySem.W.mg_of X G aC_Plan, ⟨mk_Runner, a_Runner___init__, i_Runner___init__, kc_Runner⟩, PySem.W.mg_of X G aC_Runner, ⟨mk_Search, a_Search___init__, i_Search___init__, kc_Search⟩, PySem.W.mg_of X G aC_Search, PySem.W.mg_none_of X G z_all, PySem.W.mg_none_of X G z_enumerate, PySem.W.mg_none_of X G z_int, PySem.W.mg_none_of X G z_isinstance, PySem.W.mg_none_of X G z_len, PySem.W.mg_none_of X G z_list, PySem.W.mg_none_of X G z_range, PySem.W.mg_none_of X G z_repr, PySem.W.mg_none_of X G z_sorted, PySem.W.mg_none_of X G z_tuple, ⟨xc_ArmwarrantError, PySem.W.mg_of X G ax_ArmwarrantError, xk_ArmwarrantError, xs_ArmwarrantError, xt_ArmwarrantError⟩, ⟨xc_NotNow, PySem.W.mg_of X G ax_NotNow, xk_NotNow, xs_NotNow, xt_NotNow⟩, ⟨xc_NotSafe, PySem.W.mg_of X G ax_NotSafe, xk_NotSafe, xs_NotSafe, xt_NotSafe⟩, ⟨xc_UnknownArm, PySem.W.mg_of X G ax_UnknownArm, xk_UnknownArm, xs_UnknownArm, xt_UnknownArm⟩, xd_NotNow, xd_NotSafe, xd_UnknownArm, su_NotNow_NotNow, su_NotNow_NotSafe, su_NotNow_UnknownArm, su_NotSafe_NotNow, su_NotSafe_NotSafe, su_NotSafe_UnknownArm, su_UnknownArm_NotNow, su_UnknownArm_NotSafe, su_UnknownArm_UnknownArm, ⟨eg_NotNow, ek_NotNow, xs_NotNow, xd_NotNow, ea_NotNow, en_NotNow, et_NotNow, em_NotNow⟩, ⟨eg_UnknownArm, ek_UnknownArm, xs_UnknownArm, xd_UnknownArm, ea_UnknownArm, en_UnknownArm, et_UnknownArm, em_UnknownArm⟩, kit_mk ki_NotNow_ArmwarrantError ks_ArmwarrantError xd_ArmwarrantError xt_ArmwarrantError, kit_mk ki_NotNow_UnknownArm ks_UnknownArm xd_UnknownArm xt_UnknownArm, kit_mk ki_UnknownArm_ArmwarrantError ks_ArmwarrantError xd_ArmwarrantError xt_ArmwarrantError, kit_mk ki_UnknownArm_NotNow ks_NotNow xd_NotNow xt_NotNow, ⟨qa_Runner_is_over, qg_Runner_is_over, qt_Runner_is_over, ⟨rs_Runner_is_over, qr_Runner_is_over⟩⟩⟩
  exact ⟨_, _, fun s v => .of_eq rfl, fun base _ _ => ok_law (P := l.prog) (w := w) (base := base) T, main_law _ T.hne⟩
theorem walk {l : PySem.W.OpenLaw} {q : Program} {loose : List Str} {XP : (Str → Option Value) → Heap → Prop} {YP : World → Heap → Prop} {d : DefRec} {K : Params → PySem.W.Frag} (hn : l.most = some 63) (hdf : d.params.defaults = [])
    (hY : ∀ (w : World) (h : Heap), YP w h → (K w.params).In h)
    (F : ∀ (w : World) (mg : Str → Option Value) (fa : Addr) (h : Heap), (K w.params).In h → h.Ns mainGlobals mg → mg d.name = some (.ref fa) →
      ∃ (fd : FuncData) (m : M), (∀ (s : Shared) (u : Value), BindsTo s fd ⟨[u], []⟩ [("_law_script", u)]) ∧ (∀ base : Heap, (K w.params).In base → base.Ns mainGlobals mg → FnG l.prog w (K w.params) mg base 13 fa fd ["_law_script"] m) ∧ ∀ ns : List Int, ns.length ≤ 63 → ∃ θ', m [.lst (ns.map D.int)] [] = some (.bl true, θ')) :
    PySem.W.WalkO q loose XP YP l.row.toRowW d [] (fun f vs => PySem.call f vs) :=
  walk_ofG (n := 63) (k := 13) (x := "_law_script") hn (by decide) hdf ⟨rfl, by decide, by decide⟩ hY F
end Pg
open PySem PySem.W PyProof.Rows
set_option maxRecDepth 100000 in
set_option maxHeartbeats 0 in
theorem PySem.Challenge.cw_armwarrant_k71_unknown_arms_and_forks_holds : PySem.Challenge.rw_armwarrant_k71_unknown_arms_and_forks.Holds := by
  w_on; o_law; k_head; (case hw => w_witness2)
  k_fill
  refine Pg.walk (l := PySem.Challenge.rw_armwarrant_k71_unknown_arms_and_forks) rfl rfl (fun w h Y => PySem.W.kIn_of Y) ?F
  case F =>
    intro w mg fa h KX G hmg
    refine' Pg.all_mk KX G hmg ?aC_Plan ?aC_Runner ?aC_Search ?a__law_number ?l__law_number ?c__law_number ?k__law_number ?a__law_digits ?l__law_digits ?c__law_digits ?k__law_digits ?a__law_digit ?l__law_digit ?c__law_digit ?k__law_digit ?a__law_place ?l__law_place ?c__law_place ?k__law_place ?a__law_step ?l__law_step ?c__law_step ?k__law_step ?a__law_plan ?l__law_plan ?c__law_plan ?k__law_plan ?a_landing ?l_landing ?c_landing ?k_landing ?a_Plan_first_state ?i_Plan_first_state ?l_Plan_first_state ?c_Plan_first_state ?k_Plan_first_state ?a_Search_key_of ?i_Search_key_of ?l_Search_key_of ?c_Search_key_of ?k_Search_key_of ?a_Plan_step_of ?i_Plan_step_of ?l_Plan_step_of ?c_Plan_step_of ?k_Plan_step_of ?a_Plan_wanted ?i_Plan_wanted ?l_Plan_wanted ?c_Plan_wanted ?k_Plan_wanted ?a_Plan_is_clear ?i_Plan_is_clear ?l_Plan_is_clear ?c_Plan_is_clear ?k_Plan_is_clear ?a_Plan_rest_of ?i_Plan_rest_of ?l_Plan_rest_of ?c_Plan_rest_of ?k_Plan_rest_of ?a_Plan_hindered_by ?i_Plan_hindered_by ?l_Plan_hindered_by ?c_Plan_hindered_by ?k_Plan_hindered_by ?a_Plan_can_step ?i_Plan_can_step ?l_Plan_can_step ?c_Plan_can_step ?k_Plan_can_step ?a_Plan_stepped ?i_Plan_stepped ?l_Plan_stepped ?c_Plan_stepped ?k_Plan_stepped ?a_switched ?l_switched ?c_switched ?k_switched ?a_Plan_outcomes ?i_Plan_outcomes ?l_Plan_outcomes ?c_Plan_outcomes ?k_Plan_outcomes ?a_Search_open_outcome ?i_Search_open_outcome ?l_Search_open_outcome ?c_Search_open_outcome ?k_Search_open_outcome ?a_Plan_has_ended ?i_Plan_has_ended ?l_Plan_has_ended ?c_Plan_has_ended ?k_Plan_has_ended ?a_Plan_all_ended ?i_Plan_all_ended ?l_Plan_all_ended ?c_Plan_all_ended ?k_Plan_all_ended ?a_Search_good_arm ?i_Search_good_arm ?l_Search_good_arm ?c_Search_good_arm ?k_Search_good_arm ?a_Search_is_safe ?i_Search_is_safe ?l_Search_is_safe ?c_Search_is_safe ?k_Search_is_safe ?a_Search___init__ ?i_Search___init__ ?l_Search___init__ ?c_Search___init__ ?k_Search___init__ ?a_Runner___init__ ?i_Runner___init__ ?l_Runner___init__ ?c_Runner___init__ ?k_Runner___init__ ?a__law_new ?l__law_new ?c__law_new ?k__law_new ?l_Runner_is_over ?c_Runner_is_over ?k_Runner_is_over ?a_Runner_state_ahead ?i_Runner_state_ahead ?l_Runner_state_ahead ?c_Runner_state_ahead ?k_Runner_state_ahead ?a_Runner_check_arm ?i_Runner_check_arm ?l_Runner_check_arm ?c_Runner_check_arm ?k_Runner_check_arm ?a_Runner_place_of ?i_Runner_place_of ?l_Runner_place_of ?c_Runner_place_of ?k_Runner_place_of ?a_Runner_in_the_way ?i_Runner_in_the_way ?l_Runner_in_the_way ?c_Runner_in_the_way ?k_Runner_in_the_way ?a_Runner_is_held_back ?i_Runner_is_held_back ?l_Runner_is_held_back ?c_Runner_is_held_back ?k_Runner_is_held_back ?a_Runner_may ?i_Runner_may ?l_Runner_may ?c_Runner_may ?k_Runner_may ?a_Runner_is_halted ?i_Runner_is_halted ?l_Runner_is_halted ?c_Runner_is_halted ?k_Runner_is_halted ?a_Runner_is_under_way ?i_Runner_is_under_way ?l_Runner_is_under_way ?c_Runner_is_under_way ?k_Runner_is_under_way ?a__law_told ?l__law_told ?c__law_told ?k__law_told ?a_Runner_fork ?i_Runner_fork ?l_Runner_fork ?c_Runner_fork ?k_Runner_fork ?a_Plan___init__ ?i_Plan___init__ ?l_Plan___init__ ?c_Plan___init__ ?k_Plan___init__ ?w_Plan___init__ ?t0_Plan___init__ ?a_Runner_check_told ?i_Runner_check_told ?l_Runner_check_told ?c_Runner_check_told ?k_Runner_check_told ?a_Runner_begin ?i_Runner_begin ?l_Runner_begin ?c_Runner_begin ?k_Runner_begin ?a_Runner_end ?i_Runner_end ?l_Runner_end ?c_Runner_end ?k_Runner_end ?a_Runner_go_on ?i_Runner_go_on ?l_Runner_go_on ?c_Runner_go_on ?k_Runner_go_on ?a_Runner_read_input ?i_Runner_read_input ?l_Runner_read_input ?c_Runner_read_input ?k_Runner_read_input ?a_Runner_halt ?i_Runner_halt ?l_Runner_halt ?c_Runner_halt ?k_Runner_halt ?a_Runner_free ?i_Runner_free ?l_Runner_free ?c_Runner_free ?k_Runner_free ?a__law_event ?l__law_event ?c__law_event ?k__law_event ?a__law_ask ?l__law_ask ?c__law_ask ?k__law_ask ?a_law ?l_law ?c_law ?k_law ?pg_Plan ?hd_Plan ?po_Plan ?sa_Plan ?pg_Runner ?hd_Runner ?po_Runner ?sa_Runner ?pg_Search ?hd_Search ?po_Search ?sa_Search ?mk_Plan ?kc_Plan ?mk_Runner ?kc_Runner ?mk_Search ?kc_Search ?no_Plan_blocks ?no_Plan_flows ?no_Plan_starts ?no_Runner_events ?no_Runner_halted ?no_Runner_moving ?no_Runner_plan ?no_Runner_state ?no_Search_known ?no_Search_plan ?ax_ArmwarrantError ?xc_ArmwarrantError ?xk_ArmwarrantError ?xs_ArmwarrantError ?xt_ArmwarrantError ?ax_NotNow ?xc_NotNow ?xk_NotNow ?xs_NotNow ?xt_NotNow ?ax_NotSafe ?xc_NotSafe ?xk_NotSafe ?xs_NotSafe ?xt_NotSafe ?ax_UnknownArm ?xc_UnknownArm ?xk_UnknownArm ?xs_UnknownArm ?xt_UnknownArm ?xd_ArmwarrantError ?xd_NotNow ?xd_NotSafe ?xd_UnknownArm ?su_NotNow_NotNow ?su_NotNow_NotSafe ?su_NotNow_UnknownArm ?su_NotSafe_NotNow ?su_NotSafe_NotSafe ?su_NotSafe_UnknownArm ?su_UnknownArm_NotNow ?su_UnknownArm_NotSafe ?su_UnknownArm_UnknownArm ?eg_NotNow ?ek_NotNow ?ea_NotNow ?en_NotNow ?et_NotNow ?em_NotNow ?eg_UnknownArm ?ek_UnknownArm ?ea_UnknownArm ?en_UnknownArm ?et_UnknownArm ?em_UnknownArm ?ki_NotNow_ArmwarrantError ?ki_NotNow_UnknownArm ?ki_UnknownArm_ArmwarrantError ?ki_UnknownArm_NotNow ?ks_ArmwarrantError ?ks_NotNow ?ks_UnknownArm ?qa_Runner_is_over ?qg_Runner_is_over ?qt_Runner_is_over ?qr_Runner_is_over ?z_all ?z_enumerate ?z_int ?z_isinstance ?z_len ?z_list ?z_range ?z_repr ?z_sorted ?z_tuple
    (case aC_Plan => k_is)
    (case aC_Runner => k_is)
    (case aC_Search => k_is)
    (case qa_Runner_is_over => k_is)
    (case qg_Runner_is_over => k_is)
    (case qt_Runner_is_over => k_is)
    (case qr_Runner_is_over => k_is)
    (case a__law_number => k_is)
    (case l__law_number => k_is)
    (case c__law_number => k_is)
    (case k__law_number => k_is)
    (case a__law_digits => k_is)
    (case l__law_digits => k_is)
    (case c__law_digits => k_is)
    (case k__law_digits => k_is)
    (case a__law_digit => k_is)
    (case l__law_digit => k_is)
    (case c__law_digit => k_is)
    (case k__law_digit => k_is)
    (case a__law_place => k_is)
    (case l__law_place => k_is)
    (case c__law_place => k_is)
    (case k__law_place => k_is)
    (case a__law_step => k_is)
    (case l__law_step => k_is)
    (case c__law_step => k_is)
    (case k__law_step => k_is)
    (case a__law_plan => k_is)
    (case l__law_plan => k_is)
    (case c__law_plan => k_is)
    (case k__law_plan => k_is)
    (case a_landing => k_is)
    (case l_landing => k_is)
    (case c_landing => k_is)
    (case k_landing => k_is)
    (case a_Plan_first_state => k_is)
    (case i_Plan_first_state => k_is)
    (case l_Plan_first_state => k_is)
    (case c_Plan_first_state => k_is)
    (case k_Plan_first_state => k_is)
    (case a_Search_key_of => k_is)
    (case i_Search_key_of => k_is)
    (case l_Search_key_of => k_is)
    (case c_Search_key_of => k_is)
    (case k_Search_key_of => k_is)
    (case a_Plan_step_of => k_is)
    (case i_Plan_step_of => k_is)
    (case l_Plan_step_of => k_is)
    (case c_Plan_step_of => k_is)
    (case k_Plan_step_of => k_is)
    (case a_Plan_wanted => k_is)
    (case i_Plan_wanted => k_is)
    (case l_Plan_wanted => k_is)
    (case c_Plan_wanted => k_is)
    (case k_Plan_wanted => k_is)
    (case a_Plan_is_clear => k_is)
    (case i_Plan_is_clear => k_is)
    (case l_Plan_is_clear => k_is)
    (case c_Plan_is_clear => k_is)
    (case k_Plan_is_clear => k_is)
    (case a_Plan_rest_of => k_is)
    (case i_Plan_rest_of => k_is)
    (case l_Plan_rest_of => k_is)
    (case c_Plan_rest_of => k_is)
    (case k_Plan_rest_of => k_is)
    (case a_Plan_hindered_by => k_is)
    (case i_Plan_hindered_by => k_is)
    (case l_Plan_hindered_by => k_is)
    (case c_Plan_hindered_by => k_is)
    (case k_Plan_hindered_by => k_is)
    (case a_Plan_can_step => k_is)
    (case i_Plan_can_step => k_is)
    (case l_Plan_can_step => k_is)
    (case c_Plan_can_step => k_is)
    (case k_Plan_can_step => k_is)
    (case a_Plan_stepped => k_is)
    (case i_Plan_stepped => k_is)
    (case l_Plan_stepped => k_is)
    (case c_Plan_stepped => k_is)
    (case k_Plan_stepped => k_is)
    (case a_switched => k_is)
    (case l_switched => k_is)
    (case c_switched => k_is)
    (case k_switched => k_is)
    (case a_Plan_outcomes => k_is)
    (case i_Plan_outcomes => k_is)
    (case l_Plan_outcomes => k_is)
    (case c_Plan_outcomes => k_is)
    (case k_Plan_outcomes => k_is)
    (case a_Search_open_outcome => k_is)
    (case i_Search_open_outcome => k_is)
    (case l_Search_open_outcome => k_is)
    (case c_Search_open_outcome => k_is)
    (case k_Search_open_outcome => k_is)
    (case a_Plan_has_ended => k_is)
    (case i_Plan_has_ended => k_is)
    (case l_Plan_has_ended => k_is)
    (case c_Plan_has_ended => k_is)
    (case k_Plan_has_ended => k_is)
    (case a_Plan_all_ended => k_is)
    (case i_Plan_all_ended => k_is)
    (case l_Plan_all_ended => k_is)
    (case c_Plan_all_ended => k_is)
    (case k_Plan_all_ended => k_is)
    (case a_Search_good_arm => k_is)
    (case i_Search_good_arm => k_is)
    (case l_Search_good_arm => k_is)
    (case c_Search_good_arm => k_is)
    (case k_Search_good_arm => k_is)
    (case a_Search_is_safe => k_is)
    (case i_Search_is_safe => k_is)
    (case l_Search_is_safe => k_is)
    (case c_Search_is_safe => k_is)
    (case k_Search_is_safe => k_is)
    (case a_Search___init__ => k_is)
    (case i_Search___init__ => k_is)
    (case l_Search___init__ => k_is)
    (case c_Search___init__ => k_is)
    (case k_Search___init__ => k_is)
    (case a_Runner___init__ => k_is)
    (case i_Runner___init__ => k_is)
    (case l_Runner___init__ => k_is)
    (case c_Runner___init__ => k_is)
    (case k_Runner___init__ => k_is)
    (case a__law_new => k_is)
    (case l__law_new => k_is)
    (case c__law_new => k_is)
    (case k__law_new => k_is)
    (case l_Runner_is_over => k_is)
    (case c_Runner_is_over => k_is)
    (case k_Runner_is_over => k_is)
    (case a_Runner_state_ahead => k_is)
    (case i_Runner_state_ahead => k_is)
    (case l_Runner_state_ahead => k_is)
    (case c_Runner_state_ahead => k_is)
    (case k_Runner_state_ahead => k_is)
    (case a_Runner_check_arm => k_is)
    (case i_Runner_check_arm => k_is)
    (case l_Runner_check_arm => k_is)
    (case c_Runner_check_arm => k_is)
    (case k_Runner_check_arm => k_is)
    (case a_Runner_place_of => k_is)
    (case i_Runner_place_of => k_is)
    (case l_Runner_place_of => k_is)
    (case c_Runner_place_of => k_is)
    (case k_Runner_place_of => k_is)
    (case a_Runner_in_the_way => k_is)
    (case i_Runner_in_the_way => k_is)
    (case l_Runner_in_the_way => k_is)
    (case c_Runner_in_the_way => k_is)
    (case k_Runner_in_the_way => k_is)
    (case a_Runner_is_held_back => k_is)
    (case i_Runner_is_held_back => k_is)
    (case l_Runner_is_held_back => k_is)
    (case c_Runner_is_held_back => k_is)
    (case k_Runner_is_held_back => k_is)
    (case a_Runner_may => k_is)
    (case i_Runner_may => k_is)
    (case l_Runner_may => k_is)
    (case c_Runner_may => k_is)
    (case k_Runner_may => k_is)
    (case a_Runner_is_halted => k_is)
    (case i_Runner_is_halted => k_is)
    (case l_Runner_is_halted => k_is)
    (case c_Runner_is_halted => k_is)
    (case k_Runner_is_halted => k_is)
    (case a_Runner_is_under_way => k_is)
    (case i_Runner_is_under_way => k_is)
    (case l_Runner_is_under_way => k_is)
    (case c_Runner_is_under_way => k_is)
    (case k_Runner_is_under_way => k_is)
    (case a__law_told => k_is)
    (case l__law_told => k_is)
    (case c__law_told => k_is)
    (case k__law_told => k_is)
    (case a_Runner_fork => k_is)
    (case i_Runner_fork => k_is)
    (case l_Runner_fork => k_is)
    (case c_Runner_fork => k_is)
    (case k_Runner_fork => k_is)
    (case a_Plan___init__ => k_is)
    (case i_Plan___init__ => k_is)
    (case l_Plan___init__ => k_is)
    (case c_Plan___init__ => k_is)
    (case k_Plan___init__ => k_is)
    (case w_Plan___init__ => k_is)
    (case t0_Plan___init__ => k_is)
    (case a_Runner_check_told => k_is)
    (case i_Runner_check_told => k_is)
    (case l_Runner_check_told => k_is)
    (case c_Runner_check_told => k_is)
    (case k_Runner_check_told => k_is)
    (case a_Runner_begin => k_is)
    (case i_Runner_begin => k_is)
    (case l_Runner_begin => k_is)
    (case c_Runner_begin => k_is)
    (case k_Runner_begin => k_is)
    (case a_Runner_end => k_is)
    (case i_Runner_end => k_is)
    (case l_Runner_end => k_is)
    (case c_Runner_end => k_is)
    (case k_Runner_end => k_is)
    (case a_Runner_go_on => k_is)
    (case i_Runner_go_on => k_is)
    (case l_Runner_go_on => k_is)
    (case c_Runner_go_on => k_is)
    (case k_Runner_go_on => k_is)
    (case a_Runner_read_input => k_is)
    (case i_Runner_read_input => k_is)
    (case l_Runner_read_input => k_is)
    (case c_Runner_read_input => k_is)
    (case k_Runner_read_input => k_is)
    (case a_Runner_halt => k_is)
    (case i_Runner_halt => k_is)
    (case l_Runner_halt => k_is)
    (case c_Runner_halt => k_is)
    (case k_Runner_halt => k_is)
    (case a_Runner_free => k_is)
    (case i_Runner_free => k_is)
    (case l_Runner_free => k_is)
    (case c_Runner_free => k_is)
    (case k_Runner_free => k_is)
    (case a__law_event => k_is)
    (case l__law_event => k_is)
    (case c__law_event => k_is)
    (case k__law_event => k_is)
    (case a__law_ask => k_is)
    (case l__law_ask => k_is)
    (case c__law_ask => k_is)
    (case k__law_ask => k_is)
    (case a_law => k_is)
    (case l_law => k_is)
    (case c_law => k_is)
    (case k_law => k_is)
    (case pg_Plan => k_is)
    (case hd_Plan => k_is)
    (case po_Plan => k_is)
    (case sa_Plan => k_is)
    (case pg_Runner => k_is)
    (case hd_Runner => k_is)
    (case po_Runner => k_is)
    (case sa_Runner => k_is)
    (case pg_Search => k_is)
    (case hd_Search => k_is)
    (case po_Search => k_is)
    (case sa_Search => k_is)
    (case mk_Plan => k_is)
    (case kc_Plan => k_is)
    (case mk_Runner => k_is)
    (case kc_Runner => k_is)
    (case mk_Search => k_is)
    (case kc_Search => k_is)
    (case no_Plan_blocks => k_is)
    (case no_Plan_flows => k_is)
    (case no_Plan_starts => k_is)
    (case no_Runner_events => k_is)
    (case no_Runner_halted => k_is)
    (case no_Runner_moving => k_is)
    (case no_Runner_plan => k_is)
    (case no_Runner_state => k_is)
    (case no_Search_known => k_is)
    (case no_Search_plan => k_is)
    (case ax_ArmwarrantError => k_is)
    (case xc_ArmwarrantError => k_exc)
    (case xk_ArmwarrantError => k_is)
    (case xs_ArmwarrantError => k_is)
    (case xt_ArmwarrantError => k_is)
    (case ax_NotNow => k_is)
    (case xc_NotNow => k_exc)
    (case xk_NotNow => k_is)
    (case xs_NotNow => k_is)
    (case xt_NotNow => k_is)
    (case ax_NotSafe => k_is)
    (case xc_NotSafe => k_exc)
    (case xk_NotSafe => k_is)
    (case xs_NotSafe => k_is)
    (case xt_NotSafe => k_is)
    (case ax_UnknownArm => k_is)
    (case xc_UnknownArm => k_exc)
    (case xk_UnknownArm => k_is)
    (case xs_UnknownArm => k_is)
    (case xt_UnknownArm => k_is)
    (case xd_ArmwarrantError => k_is)
    (case xd_NotNow => k_is)
    (case xd_NotSafe => k_is)
    (case xd_UnknownArm => k_is)
    (case su_NotNow_NotNow => k_is)
    (case su_NotNow_NotSafe => k_is)
    (case su_NotNow_UnknownArm => k_is)
    (case su_NotSafe_NotNow => k_is)
    (case su_NotSafe_NotSafe => k_is)
    (case su_NotSafe_UnknownArm => k_is)
    (case su_UnknownArm_NotNow => k_is)
    (case su_UnknownArm_NotSafe => k_is)
    (case su_UnknownArm_UnknownArm => k_is)
    (case eg_NotNow => k_is)
    (case ek_NotNow => k_is)
    (case ea_NotNow => k_is)
    (case en_NotNow => k_is)
    (case et_NotNow => k_is)
    (case em_NotNow => k_is)
    (case eg_UnknownArm => k_is)
    (case ek_UnknownArm => k_is)
    (case ea_UnknownArm => k_is)
    (case en_UnknownArm => k_is)
    (case et_UnknownArm => k_is)
    (case em_UnknownArm => k_is)
    (case ki_NotNow_ArmwarrantError => k_is)
    (case ki_NotNow_UnknownArm => k_is)
    (case ki_UnknownArm_ArmwarrantError => k_is)
    (case ki_UnknownArm_NotNow => k_is)
    (case ks_ArmwarrantError => k_is)
    (case ks_NotNow => k_is)
    (case ks_UnknownArm => k_is)
    (case z_all => k_is)
    (case z_enumerate => k_is)
    (case z_int => k_is)
    (case z_isinstance => k_is)
    (case z_len => k_is)
    (case z_list => k_is)
    (case z_range => k_is)
    (case z_repr => k_is)
    (case z_sorted => k_is)
    (case z_tuple => k_is)
#print axioms PySem.Challenge.cw_armwarrant_k71_unknown_arms_and_forks_holds

